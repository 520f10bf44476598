/-
  A walk by symbols, part 9: append, calls, the operations that act, together.
-/
import Derived.Test.YtmgjmglmjfjliabSx8
import Derived.Laws.Slices
namespace Go.Proofs.Ytmgjmglmjfjliab
set_option linter.unusedVariables false
set_option linter.unusedSimpArgs false
open Go.RowKit

/-- The cells of a slice of one-cell, of two-cell elements, read as ints. -/
def intL : List SC → Option (List Int)
  | [] => some []
  | x :: r =>
    match asI x, intL r with
    | some a, some l => some (a :: l)
    | _, _ => none
def getZ : List Int → Nat → Int
  | [], _ => 0
  | x :: _, 0 => x
  | _ :: r, n + 1 => getZ r n
theorem intL_get : ∀ {xs : List SC} {l : List Int}, intL xs = some l → l.length = xs.length ∧ ∀ (i : Nat) (x : SC), xs[i]? = some x → x.den = .int .i64 (getZ l i) := by
  intro xs
  induction xs with
  | nil => intro l h; simp only [intL, Option.some.injEq] at h; subst h; exact ⟨rfl, fun i x hx => by simp at hx⟩
  | cons y r ih =>
    intro l h
    simp only [intL] at h
    split at h
    · rename_i a m ha hm
      injection h with h
      subst h
      obtain ⟨h1, h2⟩ := ih hm
      refine ⟨by simp [h1], fun i x hx => ?_⟩
      cases i with
      | zero => simp at hx; subst hx; exact asI_den ha
      | succ i => exact h2 i x (by simpa using hx)
    · cases h
abbrev litZ (l : List Int) (i : Nat) : Int := getZ l i
/-- Literal cells of one's own, as a row. -/
theorem cells_own {w : World} {b n : Nat} {t : TypeId} {cs : List SC} {l : List Int} (h : Ch.sat w (.cells b t cs)) (hl : intL cs = some l) (hn : n ≤ cs.length) (hm : cs.length ≤ 1099511627776) : Row.sat w ⟨true, some ⟨b, 0, none⟩, t, 1, n, cs.length, [fun i => .int (litZ l i)]⟩ := by
  have hb : w.heap[b]? = some (.cells (cs.map SC.den).toArray t (0, 0)) := h
  refine ⟨rfl, fun ho => (by cases ho), fun _ => .inr ⟨b, _, rfl, hb, hn, by simp only [maxLen]; omega, by simp, fun i hi c f hf => ?_⟩⟩
  have hi' : i < n := hi
  match c with
  | 0 =>
    simp at hf
    subst hf
    have hlt : i < cs.length := by omega
    have hx := (intL_get hl).2 i _ (List.getElem?_eq_getElem hlt)
    have e : i * (⟨true, some ⟨b, 0, none⟩, t, 1, n, cs.length, [fun i => .int (litZ l i)]⟩ : Row).s + 0 = i := by simp
    rw [e]
    simp only [List.getElem?_toArray, List.getElem?_map, List.getElem?_eq_getElem hlt, Option.map_some, hx]
    rfl
  | c + 1 => simp at hf
def exAppend (P : Program) (t : TypeId) (x y : SV) (ch : List Ch) (k : EK) : Prop :=
  match elInfo P t with
  | some (e, s, by', zs) =>
    match srcOf ch s zs y, Nat.ble 1 s, Nat.ble 1 by' with
    | some S, true, true =>
      match x with
      | .a (.c .nil) =>
        (S.ok ∧ (∀ i, oneAt S.fld i = true) ∧ apC 0 S.m by') ∧
          ∀ ao cap, k (.a (.c (.sl ch.length ao S.m cap))) (ch ++ [.row ⟨true, ao, e, s, S.m, cap, S.fld⟩]) []
      | .a (.c (.slc id b .zero .zero)) =>
        match ch[id]? with
        | some (.cells b' e' []) =>
          match Nat.beq e e' with
          | true => (b = b' ∧ S.ok ∧ (∀ i, oneAt S.fld i = true) ∧ apC 0 S.m by') ∧
              ∀ ao cap, k (.a (.c (.sl ch.length ao S.m cap))) (ch.set id .dead ++ [.row ⟨true, ao, e, s, S.m, cap, S.fld⟩]) [id]
          | false => False
        | _ => False
      | .a (.c (.slc id b n cap)) =>
        match ch[id]? with
        | some (.cells b' e' cs) =>
          match intL cs, Nat.beq e' e, Nat.beq s 1, Nat.beq cs.length cap, Nat.ble n cap, Nat.ble cap 1099511627776 with
          | some l, true, true, true, true, true => (b = b' ∧ S.ok ∧ (∀ i, oneAt S.fld i = true) ∧ apC n S.m by') ∧
              ∀ ao' cap', k (.a (.c (.sl ch.length ao' (addN n S.m) cap'))) (ch.set id .dead ++ [.row ⟨true, ao', e, s, addN n S.m, cap', appF n [fun i => .int (litZ l i)] S.fld⟩]) [id]
          | _, _, _, _, _, _ => False
        | _ => False
      | .a (.c (.sl id ao n cap)) =>
        match ch[id]? with
        | some (.row r) =>
          match r.own, Nat.beq r.t e, Nat.beq r.s s with
          | true, true, true => (ao = r.ao ∧ n = r.n ∧ cap = r.cap ∧ S.ok ∧ (∀ i, oneAt S.fld i = true) ∧ apC n S.m by') ∧
              ∀ ao' cap', k (.a (.c (.sl ch.length ao' (addN n S.m) cap'))) (ch.set id .dead ++ [.row ⟨true, ao', e, s, addN n S.m, cap', appF n r.fld S.fld⟩]) [id]
          | _, _, _ => False
        | _ => False
      | _ => False
    | _, _, _ => False
  | none => False

theorem exec_builtin {P : Program} {o : Oper} {c : Call} {b : Builtin} {x y : Operand} {t : TypeId} (ho : o.op = .call c) (hc : c.callee = .builtin b) (ha : c.args.toList = [x, y]) (ht : c.argTypes.toList = [t, t]) (a : Act) (w : World) :
    ∃ consts, (execOp a.eval o).run P w = (builtin b #[t, t] o.type consts #[a.eval x, a.eval y]).run P w := by
  obtain ⟨cal, args, tys⟩ := c
  simp only at hc ha ht
  subst hc
  have e1 : args = #[x, y] := by rw [← ha]
  have e2 : tys = #[t, t] := by rw [← ht]
  subst e1
  subst e2
  refine ⟨#[x, y].map (fun | .const _ => true | _ => false), ?_⟩
  simp only [execOp, ho, resolve, Sem.run_bind, Sem.run_pure, Result.andThen_ok, invoke, List.map_toArray, List.map_cons, List.map_nil]
  rfl

theorem exAppend_ok {P : Program} {X : Cx} {o : Oper} {c : Call} {t : TypeId} {x y : Operand} {ts : List SV} {ch : List Ch} {k : EK} (ho : o.op = .call c) (hc : c.callee = .builtin .append) (ha : c.args.toList = [x, y]) (ht : c.argTypes.toList = [t, t])
    (h : exAppend P t (ev ts x) (ev ts y) ch k) {a : Act} (hT : Ts ts a) {w : World} (hs : HS X ch w) : EffOk P X o a ch w k := by
  obtain ⟨consts, hexec⟩ := exec_builtin (P := P) ho hc ha ht a w
  have hrun : ∀ v w', (Builtin.append_ #[t, t] o.type #[a.eval x, a.eval y]).run P w = .ok v w' → (execOp a.eval o).run P w = .ok (.value v) w' := fun v w' hr => by
    rw [hexec]
    simp only [builtin, Sem.run_bind, hr, Result.andThen_ok, Sem.run_pure]
  unfold exAppend at h
  split at h
  · rename_i e s by' zs hel
    obtain ⟨hu, i, z, hi, hsz, hby, hz, hzc, hzs, hlen⟩ := elInfo_ok hel
    have hlen0 := hlen
    split at h
    · rename_i S hS h1s h1b
      have h1s' := Nat.le_of_ble_eq_true h1s
      have h1b' := Nat.le_of_ble_eq_true h1b
      have ey : a.eval y = (ev ts y).den := ev_den hT y
      split at h
      · rename_i hx
        obtain ⟨⟨hok, hone, hbytes⟩, h⟩ := h
        have hsrc := srcOf_ok hlen hS hok hs.all
        have ex : a.eval x = .slice none 0 0 := by rw [ev_den hT, hx]; rfl
        obtain ⟨ao, cap, w', hr, hos, htp, hout, hsize, hk, hsat, hat⟩ := run_app (P := P) (ty := o.type) (r := ⟨true, none, e, s, 0, 0, zs.map fun c _ => c⟩) hel h1b' ⟨by simp [hlen], fun h => (by cases h), fun _ => .inl ⟨rfl, rfl, rfl⟩⟩ rfl hsrc hone (by simpa using hbytes)
        have hb : Below w.heap.size w w' := ⟨hos, htp, hout, hsize, fun k hk0 => hk k hk0 (fun ha => by obtain ⟨_, off, ha⟩ := ha; cases ha)⟩
        have hre := Row.re hsat S.fld hsrc.1 (fun c g hg => by
          have hc : c < (newRowOf ⟨true, none, e, s, 0, 0, zs.map fun c _ => c⟩ S ao cap).fld.length := by
            rw [hsat.1]; show c < s; rw [← hsrc.1]; exact (List.getElem?_eq_some_iff.1 hg).1
          obtain ⟨f0, g0, _, hg0, he⟩ := appF_get 0 _ S.fld c _ (List.getElem?_eq_getElem hc)
          refine ⟨_, List.getElem?_eq_getElem hc, fun i hi => ?_⟩
          rw [he, pkL_den, if_neg (by omega)]
          rw [hg0] at hg
          injection hg with hg
          rw [hg, Nat.sub_zero])
        refine .inl ⟨_, _, _, w', ?_, hs.add hb (.row ⟨true, ao, e, s, S.m, cap, S.fld⟩) ?_ ?_, Agree.app _ _, h ao cap⟩
        · refine hrun _ w' ?_
          rw [ex, ey]
          show _ = Result.ok (Value.slice ao S.m cap) w'
          simpa using hr
        · have e0 : ({ newRowOf ⟨true, none, e, s, 0, 0, zs.map fun c _ => c⟩ S ao cap with fld := S.fld } : Row) = ⟨true, ao, e, s, S.m, cap, S.fld⟩ := by
            simp [newRowOf]
          rw [e0] at hre
          exact hre
        · intro b hb'
          rcases hat b ⟨.inl rfl, hb'.2⟩ with h1 | h1
          · obtain ⟨_, off, h1⟩ := h1; cases h1
          · exact h1
      · rename_i id b hx
        split at h
        · rename_i b' e' hid
          split at h
          · rename_i he
            have he' := Nat.eq_of_beq_eq_true he
            subst he'
            obtain ⟨⟨rfl, hok, hone, hbytes⟩, h⟩ := h
            have hsrc := srcOf_ok hlen hS hok hs.all
            have ex : a.eval x = .slice (some ⟨b, 0, none⟩) 0 0 := by rw [ev_den hT, hx]; rfl
            have hg : w.heap[b]? = some (.cells #[] e (0, 0)) := hs.sat id _ hid
            obtain ⟨ao, cap, w', hr, hos, htp, hout, hsize, hk, hsat, hat⟩ := run_app (P := P) (ty := o.type) (r := ⟨true, some ⟨b, 0, none⟩, e, s, 0, 0, zs.map fun c _ => c⟩) hel h1b'
              ⟨by simp [hlen], fun h => (by cases h), fun _ => .inr ⟨b, #[], rfl, hg, Nat.le_refl _, Nat.zero_le _, by simp, fun i hi => (by simp at hi)⟩⟩ rfl hsrc hone (by simpa using hbytes)
            have hre := Row.re hsat S.fld hsrc.1 (fun c g hg => by
              have hc : c < (newRowOf ⟨true, some ⟨b, 0, none⟩, e, s, 0, 0, zs.map fun c _ => c⟩ S ao cap).fld.length := by
                rw [hsat.1]; show c < s; rw [← hsrc.1]; exact (List.getElem?_eq_some_iff.1 hg).1
              obtain ⟨f0, g0, _, hg0, he⟩ := appF_get 0 _ S.fld c _ (List.getElem?_eq_getElem hc)
              refine ⟨_, List.getElem?_eq_getElem hc, fun i hi => ?_⟩
              rw [he, pkL_den, if_neg (by omega)]
              rw [hg0] at hg
              injection hg with hg
              rw [hg, Nat.sub_zero])
            refine .inl ⟨_, _, _, w', ?_, hs.move hid rfl hos htp hout hsize (fun k hk0 hna => hk k hk0 ?_) (d := .row ⟨true, ao, e, s, S.m, cap, S.fld⟩) ?_ ?_, Agree.move _ _ _, h ao cap⟩
            · refine hrun _ w' ?_
              rw [ex, ey]
              show _ = Result.ok (Value.slice ao S.m cap) w'
              simpa using hr
            · intro ha
              obtain ⟨_, off, ha⟩ := ha
              injection ha with ha
              injection ha with ha
              exact hna ha.symm
            · have e0 : ({ newRowOf ⟨true, some ⟨b, 0, none⟩, e, s, 0, 0, zs.map fun c _ => c⟩ S ao cap with fld := S.fld } : Row) = ⟨true, ao, e, s, S.m, cap, S.fld⟩ := by
                simp [newRowOf]
              rw [e0] at hre
              exact hre
            · intro b2 hb'
              rcases hat b2 ⟨.inl rfl, hb'.2⟩ with h1 | h1
              · obtain ⟨_, off, h1⟩ := h1
                injection h1 with h1
                injection h1 with h1
                exact .inl h1.symm
              · exact .inr h1
          · exact h.elim
        · exact h.elim
      · rename_i id b n cap _ hx
        split at h
        · rename_i b' e' cs hid
          split at h
          · rename_i l hl he hs1 hlen hle hcap
            have he' := Nat.eq_of_beq_eq_true he
            have hs1' := Nat.eq_of_beq_eq_true hs1
            have hlen' := Nat.eq_of_beq_eq_true hlen
            have hle' := Nat.le_of_ble_eq_true hle
            have hcap' := Nat.le_of_ble_eq_true hcap
            subst he'
            subst hs1'
            subst hlen'
            obtain ⟨⟨rfl, hok, hone, hbytes⟩, h⟩ := h
            have hsrc := srcOf_ok hlen0 hS hok hs.all
            have ex : a.eval x = .slice (some ⟨b, 0, none⟩) n cs.length := by rw [ev_den hT, hx]; rfl
            have hr0 := cells_own (hs.sat id _ hid) hl hle' hcap'
            obtain ⟨ao, cap, w', hr, hos, htp, hout, hsize, hk, hsat, hat⟩ := run_app (P := P) (ty := o.type) hel h1b' hr0 rfl hsrc hone hbytes
            refine .inl ⟨_, _, _, w', ?_, hs.move hid rfl hos htp hout hsize (fun k hk0 hna => hk k hk0 ?_) (d := .row (newRowOf _ S ao cap)) hsat ?_, Agree.move _ _ _, h ao cap⟩
            · refine hrun _ w' ?_
              rw [ex, ey]
              exact hr
            · intro ha
              obtain ⟨_, off, ha⟩ := ha
              injection ha with ha
              injection ha with ha
              exact hna ha.symm
            · intro b2 hb'
              rcases hat b2 hb' with h1 | h1
              · obtain ⟨_, off, h1⟩ := h1
                injection h1 with h1
                injection h1 with h1
                exact .inl h1.symm
              · exact .inr h1
          · exact h.elim
        · exact h.elim
      · rename_i id ao n cap hx
        split at h
        · rename_i r hid
          split at h
          · rename_i hown hrt hrs
            have hrt' := Nat.eq_of_beq_eq_true hrt
            have hrs' := Nat.eq_of_beq_eq_true hrs
            subst hrt'
            subst hrs'
            obtain ⟨⟨rfl, rfl, rfl, hok, hone, hbytes⟩, h⟩ := h
            have hsrc := srcOf_ok hlen hS hok hs.all
            have ex : a.eval x = .slice r.ao r.n r.cap := by rw [ev_den hT, hx]; rfl
            obtain ⟨ao, cap, w', hr, hos, htp, hout, hsize, hk, hsat, hat⟩ := run_app (P := P) (ty := o.type) hel h1b' (show r.sat w from hs.sat id _ hid) hown hsrc hone hbytes
            refine .inl ⟨_, _, _, w', ?_, hs.move hid hown hos htp hout hsize hk (d := .row (newRowOf r S ao cap)) hsat hat, Agree.move _ _ _, h ao cap⟩
            refine hrun _ w' ?_
            rw [ex, ey]
            exact hr
          · exact h.elim
        · exact h.elim
      · exact h.elim
    · exact h.elim
  · exact h.elim

/-! a part of a row that is only read -/
abbrev leN (m n : Nat) : Prop := m ≤ n
def shiftF (m : Nat) (fs : List (Nat → SC)) : List (Nat → SC) := fs.map fun f i => f (addN i m)
def subRow (r : Row) (ao : Option Addr) (m n : Nat) : Row := ⟨false, ao, 0, r.s, n, 0, shiftF m r.fld⟩
def exSub (P : Program) (t : TypeId) (x : SV) (lo hi : Option SV) (ch : List Ch) (k : EK) : Prop :=
  match elemOf' P t with
  | some e =>
    match szOf P e, x with
    | some s, .a (.c (.sl id ao n cap)) =>
      match ch[id]? with
      | some (.row r) =>
        match r.own, Nat.beq r.s s with
        | false, true =>
          match lo, hi with
          | some (.a (.c (.il (.ofNat m)))), none => (ao = r.ao ∧ n = r.n ∧ leN m n ∧ leN n cap) ∧ ∀ ao', k (.a (.c (.sl ch.length ao' (subN n m) (subN cap m)))) (ch ++ [.row (subRow r ao' m (subN n m))]) []
          | some (.a (.c lc)), some (.a (.c hc)) =>
            match asI lc, asI hc with
            | some l, some h => (ao = r.ao ∧ n = r.n ∧ (0 ≤ l ∧ l ≤ h ∧ h ≤ (n : Int)) ∧ leN n cap) ∧ ∀ ao', k (.a (.c (.sl ch.length ao' (tn (isub h l)) (subN cap (tn l))))) (ch ++ [.row (subRow r ao' (tn l) (tn (isub h l)))]) []
            | _, _ => False
          | _, _ => False
        | _, _ => False
      | _ => False
    | _, _ => False
  | none => False
theorem subRow_sat {w : World} {r : Row} (hr : r.sat w) (ho : r.own = false) {m n : Nat} (h : m + n ≤ r.n) {ao : Option Addr} (hao : 0 < n → ao = r.ao.map (·.add (m * r.s))) : (subRow r ao m n).sat w := by
  refine ⟨by simp [subRow, shiftF, hr.1], fun _ hn => ?_, fun q => (by cases q)⟩
  have hn' : 0 < n := hn
  obtain ⟨b, off, h1, h2, h3⟩ := hr.2.1 ho (by omega)
  refine ⟨b, off + m * r.s, ?_, h2, fun i hi c f hf => ?_⟩
  · show ao = _
    rw [hao hn', h1]
    simp only [Option.map_some, add_add]
  · have hi' : i < n := hi
    simp only [subRow, shiftF, List.getElem?_map] at hf
    cases hc : r.fld[c]? with
    | none => simp [hc] at hf
    | some g =>
      simp only [hc, Option.map_some, Option.some.injEq] at hf
      subst hf
      have := h3 (i + m) (by omega) c g hc
      show w.cell? ⟨b, off + m * r.s + (i * r.s + c), none⟩ = _
      rw [show off + m * r.s + (i * r.s + c) = off + ((i + m) * r.s + c) by rw [Nat.add_mul]; omega]
      exact this
theorem subRow_at {w : World} {r : Row} (hr : r.sat w) (ho : r.own = false) {m n : Nat} (h : m + n ≤ r.n) {ao : Option Addr} (hao : 0 < n → ao = r.ao.map (·.add (m * r.s))) {b : Nat} (hb : (Ch.row (subRow r ao m n)).at b) : (Ch.row r).at b := by
  obtain ⟨hn, off, hb⟩ := hb
  have hn' : 0 < n := by
    rcases hn with q | q
    · cases q
    · exact q
  have hb' : ao = some ⟨b, off, none⟩ := hb
  obtain ⟨b0, off0, h1, _⟩ := hr.2.1 ho (by omega)
  rw [hao hn', h1] at hb'
  simp only [Option.map_some, add_add] at hb'
  injection hb' with hb'
  injection hb' with e1
  exact ⟨.inr (by omega), off0, by rw [h1, e1]⟩
theorem HS.sub {X : Cx} {ch : List Ch} {w : World} (h : HS X ch w) {id : Nat} {r : Row} (hid : ch[id]? = some (.row r)) (ho : r.own = false) {m n : Nat} (hmn : m + n ≤ r.n) {ao : Option Addr} (hao : 0 < n → ao = r.ao.map (·.add (m * r.s))) : HS X (ch ++ [.row (subRow r ao m n)]) w := by
  have hr : r.sat w := h.sat id _ hid
  refine h.see _ rfl (subRow_sat hr ho hmn hao) fun i c b hc hown hcb hb => ?_
  refine h.dis i id c _ b (fun e => ?_) hc hid hown hcb (subRow_at hr ho hmn hao hb)
  subst e
  rw [hid] at hc
  injection hc with hc
  subst hc
  simp [Ch.own, ho] at hown
theorem elem_of' {P : Program} {t e : TypeId} (h : P.underlying t = some (.slice e)) : P.elem t = e := by simp [Program.elem, h]
theorem exSub_ok {P : Program} {X : Cx} {o : Oper} {t : TypeId} {x : Operand} {lo hi : Option Operand} {ts : List SV} {ch : List Ch} {k : EK} (hop : o.op = .slice t x lo hi none) (h : exSub P t (ev ts x) (lo.map (ev ts)) (hi.map (ev ts)) ch k) {a : Act} (hT : Ts ts a) {w : World} (hs : HS X ch w) : EffOk P X o a ch w k := by
  unfold exSub at h
  split at h
  · rename_i e he
    have hu := elemOf_ok he
    have hel := elem_of' hu
    have hu' : P.underlying t = some (.slice (P.elem t)) := by rw [hel]; exact hu
    split at h
    · rename_i s id ao n cap hs0 hx
      have hz : (sizeOf (P.elem t)).run P w = .ok s w := by rw [hel]; exact run_sizeOf' hs0 w
      have ex : a.eval x = .slice ao n cap := by rw [ev_den hT, hx]; rfl
      split at h
      · rename_i r hid
        split at h
        · rename_i ho hbs
          have hss := Nat.eq_of_beq_eq_true hbs
          split at h
          · rename_i m hlo hhi
            obtain ⟨⟨rfl, rfl, hm, hc⟩, h⟩ := h
            have hm' : m ≤ r.n := hm
            have hc' : r.n ≤ cap := hc
            obtain ⟨lo', rfl, hlo1⟩ := Option.map_eq_some_iff.1 hlo
            have hhi' : hi = none := by simpa using hhi
            subst hhi'
            have el : a.eval lo' = .int .i64 (m : Int) := by rw [ev_den hT, hlo1]; rfl
            have hrun := run_slice_l (P := P) w t r.ao r.n cap hu' .i64 (m : Int) (by omega) (by omega)
            refine .inl ⟨_, _, _, w, ?_, hs.sub hid ho (m := m) (n := r.n - m) (ao := if cap = m then r.ao else r.ao.map (·.add (m * r.s))) (by omega) (fun hn => by rw [if_neg (by omega)]), Agree.app _ _, h _⟩
            simp only [execOp, hop, ex, Option.map_some, el, Option.map_none, run_sliceAt_slice (P := P) w t _ _ _ _ hu', hrun, Sem.run_bind, hz, Result.andThen_ok, Sem.run_pure, Int.toNat_natCast, sliced]
            rw [hss]
            rfl
          · rename_i lc hc hlo hhi
            split at h
            · rename_i l hh hl hhq
              obtain ⟨⟨rfl, rfl, ⟨h0, h1, h2⟩, hc⟩, h⟩ := h
              have hc' : r.n ≤ cap := hc
              obtain ⟨lo', rfl, hlo1⟩ := Option.map_eq_some_iff.1 hlo
              obtain ⟨hi', rfl, hhi1⟩ := Option.map_eq_some_iff.1 hhi
              have el : a.eval lo' = .int .i64 l := by rw [ev_den hT, hlo1]; exact asI_den hl
              have eh : a.eval hi' = .int .i64 hh := by rw [ev_den hT, hhi1]; exact asI_den hhq
              have hrun := run_slice_lh (P := P) w t r.ao r.n cap hu' .i64 .i64 l hh (by omega) (by omega) (by omega)
              refine .inl ⟨.a (.c (.sl ch.length (if cap = l.toNat then r.ao else r.ao.map (·.add (l.toNat * r.s))) (hh.toNat - l.toNat) (cap - l.toNat))), _, _, w, ?_, hs.sub hid ho (m := l.toNat) (n := hh.toNat - l.toNat) (ao := if cap = l.toNat then r.ao else r.ao.map (·.add (l.toNat * r.s))) (by omega) (fun hn => by rw [if_neg (by omega)]), Agree.app _ _, ?_⟩
              · simp only [execOp, hop, ex, Option.map_some, Option.map_none, el, eh, run_sliceAt_slice (P := P) w t _ _ _ _ hu', hrun, Sem.run_bind, hz, Result.andThen_ok, Sem.run_pure, sliced]
                rw [hss]
                rfl
              · have e1 : hh.toNat - l.toNat = tn (isub hh l) := by simp only [tn, isub]; omega
                rw [e1]
                exact h _
            · exact h.elim
          · exact h.elim
        · exact h.elim
      · exact h.elim
    · exact h.elim
  · exact h.elim

/-! calls -/
abbrev Sm := List SV → List Ch → EK → Prop
def SmOK (P : Program) (f : FuncId) (S : Sm) : Prop :=
  (∀ args w, (callFunc f args).run P w = .ok (.enter f args) w) ∧
  ∀ (X : Cx) (args : List SV) (ch : List Ch) (k : EK) (w : World), S args ch k → HS X ch w →
    Calls P f (args.map SV.den).toArray w fun e w' => ∃ v ch' mods, e = .returned v.den ∧ HS X ch' w' ∧ Agree ch ch' mods ∧ k v ch' mods
def TbOK (P : Program) : List (FuncId × Sm) → Prop
  | [] => True
  | (f, S) :: r => SmOK P f S ∧ TbOK P r
def look : List (FuncId × Sm) → FuncId → Option Sm
  | [], _ => none
  | (f, S) :: r, g => match Nat.beq f g with | true => some S | false => look r g
theorem look_ok {P : Program} {tb : List (FuncId × Sm)} (h : TbOK P tb) {f : FuncId} {S : Sm} (hl : look tb f = some S) : SmOK P f S := by
  induction tb with
  | nil => cases hl
  | cons p tb ih =>
    obtain ⟨g, T⟩ := p
    obtain ⟨h1, h2⟩ := h
    simp only [look] at hl
    split at hl
    · rename_i he
      have he' := Nat.eq_of_beq_eq_true he
      injection hl with hl
      subst hl
      subst he'
      exact h1
    · exact ih h2 hl

def exEff (P : Program) (tb : List (FuncId × Sm)) (o : Op) (ts : List SV) (ch : List Ch) (k : EK) : Prop :=
  match o with
  | .alloc t => exAlloc P t ch k
  | .box t x => exBox P t (ev ts x) ch k
  | .store t x y => exStore P t (ev ts x) (ev ts y) ch k
  | .makeSlice t x y => exMake P t (ev ts x) (ev ts y) ch k
  | .buildSlice t n ps => exBuildSlice P t n ts ps.toList ch k
  | .slice t x lo hi none => exSub P t (ev ts x) (lo.map (ev ts)) (hi.map (ev ts)) ch k
  | .call c =>
    match c.callee with
    | .builtin .append =>
      match c.args.toList, c.argTypes.toList with
      | [x, y], [t, u] => match Nat.beq t u with | true => exAppend P t (ev ts x) (ev ts y) ch k | false => False
      | _, _ => False
    | .value (.func f) =>
      match look tb f with
      | some S => S (c.args.toList.map (ev ts)) ch k
      | none => False
    | _ => False
  | _ => False

theorem eff_ok {P : Program} {X : Cx} {tb : List (FuncId × Sm)} (hb : TbOK P tb) {o : Oper} {ts : List SV} {ch : List Ch} {k : EK} (h : exEff P tb o.op ts ch k) {a : Act} (hT : Ts ts a) {w : World} (hs : HS X ch w) : EffOk P X o a ch w k := by
  unfold exEff at h
  split at h
  · rename_i t ho; exact exAlloc_ok ho h hs
  · rename_i t x ho; exact exBox_ok ho h hT hs
  · rename_i t x y ho; exact exStore_ok ho h hT hs
  · rename_i t x y ho; exact exMake_ok ho h hT hs
  · rename_i t n ps ho; exact exBuildSlice_ok ho h hT hs
  · rename_i t x lo hi ho; exact exSub_ok ho h hT hs
  · rename_i c ho
    split at h
    · rename_i hc
      split at h
      · rename_i x y t u ha ht
        split at h
        · rename_i he
          have he' := Nat.eq_of_beq_eq_true he
          subst he'
          exact exAppend_ok ho hc ha ht h hT hs
        · exact h.elim
      · exact h.elim
    · rename_i f hc
      split at h
      · rename_i S hl
        obtain ⟨hent, hS⟩ := look_ok hb hl
        have hcall := hS X _ ch k w h hs
        refine .inr (.inr ⟨f, _, ?_, hcall⟩)
        obtain ⟨cal, args, tys⟩ := c
        simp only at hc
        subst hc
        have hargs : args.map a.eval = ((args.toList.map (ev ts)).map SV.den).toArray := by
          apply Array.ext'
          simp only [Array.toList_map, List.map_map]
          exact List.map_congr_left fun x _ => ev_den hT x
        simp only [execOp, ho, resolve, Act.eval, Deferred.ofValue, Sem.run_bind, Sem.run_pure, Result.andThen_ok, invoke, hargs, Array.empty_append, Array.append_empty, hent]
      · exact h.elim
    · exact h.elim
  · exact h.elim
end Go.Proofs.Ytmgjmglmjfjliab
