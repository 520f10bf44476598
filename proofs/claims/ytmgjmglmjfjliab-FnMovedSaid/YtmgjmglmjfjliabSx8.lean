/-
  A walk by symbols, part 8: append, calls, the operations that act, together.
-/
import Derived.Test.YtmgjmglmjfjliabSx7
namespace Go.Proofs.Ytmgjmglmjfjliab
set_option linter.unusedVariables false
set_option linter.unusedSimpArgs false
open Go.RowKit

/-- A piece of the call's own is taken up by a new piece. -/
theorem HS.move {X : Cx} {ch : List Ch} {w w' : World} {id : Nat} {c d : Ch} (h : HS X ch w) (hid : ch[id]? = some c) (ho : c.own = true)
    (hos : w'.os = w.os) (ht : w'.tape = w.tape) (hout : w'.output = w.output) (hsz : w.heap.size ≤ w'.heap.size) (hk : ∀ k, k < w.heap.size → ¬ c.at k → w'.heap[k]? = w.heap[k]?)
    (hd : Ch.sat w' d) (hda : ∀ b, d.at b → c.at b ∨ w.heap.size ≤ b) : HS X (ch.set id .dead ++ [d]) w' where
  fr := ⟨hos.trans h.fr.os, ht.trans h.fr.tape, hout.trans h.fr.output, Nat.le_trans h.fr.size hsz, fun k hk0 hM => by
    refine (hk k (Nat.lt_of_lt_of_le hk0 h.fr.size) ?_).trans (h.fr.block k hk0 hM)
    intro ha
    rcases h.new id c _ hid ho ha with h1 | h1
    · omega
    · exact hM h1⟩
  sat := fun i e he => by
    rcases get_app_one he with he | ⟨_, rfl⟩
    · rcases get_set he with ⟨_, rfl, _⟩ | ⟨hne, he⟩
      · trivial
      · refine Ch.sat_keep (h.sat i e he) hsz (fun b ha => hk b (Ch.sat_lt (h.sat i e he) ha) ?_)
        intro hc
        exact h.dis id i c e _ (fun q => hne q.symm) hid he ho hc ha
    · exact hd
  dis := fun i j ci cj b hij hi hj hoi hai haj => by
    have hiA := get_app_one hi
    have hjA := get_app_one hj
    clear hi hj
    rcases hiA with hi2 | ⟨hi1, rfl⟩
    · rcases get_set hi2 with ⟨_, rfl, _⟩ | ⟨hne, hi3⟩
      · exact hai.elim
      · clear hi2
        rcases hjA with hj2 | ⟨_, rfl⟩
        · rcases get_set hj2 with ⟨_, rfl, _⟩ | ⟨_, hj3⟩
          · exact haj.elim
          · exact h.dis i j ci cj b hij hi3 hj3 hoi hai haj
        · rcases hda b haj with hc | hc
          · exact h.dis i id ci c b hne hi3 hid hoi hai hc
          · have := Ch.sat_lt (h.sat i ci hi3) hai
            omega
    · rcases hjA with hj2 | ⟨hj1, _⟩
      · rcases get_set hj2 with ⟨_, rfl, _⟩ | ⟨hne, hj3⟩
        · exact haj.elim
        · rcases hda b hai with hc | hc
          · exact h.dis id j c cj b (fun q => hne q.symm) hid hj3 ho hc haj
          · have := Ch.sat_lt (h.sat j cj hj3) haj
            omega
      · exact hij (hi1.trans hj1.symm)
  new := fun i e b he hoe ha => by
    rcases get_app_one he with he | ⟨_, rfl⟩
    · rcases get_set he with ⟨_, rfl, _⟩ | ⟨_, he⟩
      · exact ha.elim
      · exact h.new i e b he hoe ha
    · rcases hda b ha with hc | hc
      · exact h.new id c b hid ho hc
      · exact .inl (Nat.le_trans h.fr.size hc)

theorem Agree.move (ch : List Ch) (id : Nat) (d : Ch) : Agree ch (ch.set id .dead ++ [d]) [id] := fun i c h hi => by
  rw [List.getElem?_append_left (by simp; exact (List.getElem?_eq_some_iff.1 h).1), List.getElem?_set_ne (fun e => hi (by simp [e]))]
  exact h

/-- What is appended: how many, the fields, what must hold. -/
structure Src where
  m : Nat
  fld : List (Nat → SC)
  ok : Prop
def srcOf (ch : List Ch) (s : Nat) (zs : List SC) : SV → Option Src
  | .a (.c (.sl id ao m _)) =>
    match ch[id]? with
    | some (.row r) => match Nat.beq r.s s with
      | true => some ⟨m, r.fld, ao = r.ao ∧ m = r.n⟩
      | false => none
    | _ => none
  | .a (.c (.slc id b (.succ .zero) _)) =>
    match ch[id]? with
    | some (.cells b' _ cs) => match Nat.beq cs.length s with
      | true => some ⟨1, cs.map fun c _ => c, b = b'⟩
      | false => none
    | _ => none
  | .a (.c .nil) => some ⟨0, zs.map fun c _ => c, True⟩
  | _ => none

def SrcSat (w : World) (s : Nat) (S : Src) (v : Value) : Prop :=
  S.fld.length = s ∧ ∃ ao c, v = .slice ao S.m c ∧ (0 < S.m → ∃ b off, ao = some ⟨b, off, none⟩ ∧ ∀ i, i < S.m → ∀ (c : Nat) (f : Nat → SC), S.fld[c]? = some f → w.cell? ⟨b, off + (i * s + c), none⟩ = some (f i).den)

theorem srcOf_ok {ch : List Ch} {s : Nat} {zs : List SC} (hz : zs.length = s) {x : SV} {S : Src} (h : srcOf ch s zs x = some S) (hok : S.ok) {w : World} (hw : Sat ch w) : SrcSat w s S x.den := by
  unfold srcOf at h
  split at h
  · rename_i id ao m cap
    split at h
    · rename_i r hid
      split at h
      · rename_i hs
        injection h with h
        subst h
        obtain ⟨rfl, rfl⟩ := hok
        have hs' := Nat.eq_of_beq_eq_true hs
        subst hs'
        have hr : r.sat w := hw id _ hid
        refine ⟨hr.1, r.ao, cap, rfl, fun hm => ?_⟩
        obtain ⟨b, off, hao, _⟩ := Row.read hr hm
        refine ⟨b, off, hao, fun i hi c f hf => ?_⟩
        obtain ⟨b', off', hao', _, hc⟩ := Row.read hr hi
        rw [hao] at hao'
        injection hao' with hao'
        injection hao' with e1 e2
        subst e1
        subst e2
        exact hc c f hf
      · cases h
    · cases h
  · rename_i id b cap
    split at h
    · rename_i b' t cs hid
      split at h
      · rename_i hs
        injection h with h
        subst h
        have hs' := Nat.eq_of_beq_eq_true hs
        have hb : b = b' := hok
        subst hb
        have hg : w.heap[b]? = some (.cells (cs.map SC.den).toArray t (0, 0)) := hw id _ hid
        refine ⟨by simp [hs'], some ⟨b, 0, none⟩, cap, rfl, fun _ => ⟨b, 0, rfl, fun i hi c f hf => ?_⟩⟩
        have : i = 0 := by simp only at hi; omega
        subst this
        simp only [List.getElem?_map] at hf
        cases hc : cs[c]? with
        | none => simp [hc] at hf
        | some y =>
          simp only [hc, Option.map_some, Option.some.injEq] at hf
          subst hf
          simp [World.cell?, hg, hc]
      · cases h
    · cases h
  · injection h with h
    subst h
    exact ⟨by simp [hz], none, 0, rfl, fun h => by simp at h⟩
  · cases h

/-- The cells of the source, one behind the other. -/
def srcCells (S : Src) (s : Nat) : List Value := (List.range (S.m * s)).map fun k => match S.fld[k % s]? with | some f => (f (k / s)).den | none => Go.undef
theorem srcCells_get {w : World} {s : Nat} {S : Src} (hl : S.fld.length = s) {b off : Nat} (h : ∀ i, i < S.m → ∀ (c : Nat) (f : Nat → SC), S.fld[c]? = some f → w.cell? ⟨b, off + (i * s + c), none⟩ = some (f i).den) :
    ∀ (j : Nat) v, (srcCells S s)[j]? = some v → w.cell? ((⟨b, off, none⟩ : Addr).add j) = some v := by
  intro j v hv
  have hj : j < S.m * s := by
    have := (List.getElem?_eq_some_iff.1 hv).1
    simpa [srcCells] using this
  have hs : 0 < s := by
    rcases Nat.eq_zero_or_pos s with h0 | h0
    · rw [h0] at hj; simp at hj
    · exact h0
  have hjm : j % s < s := Nat.mod_lt _ hs
  have hjd : j / s < S.m := by rw [Nat.div_lt_iff_lt_mul hs]; exact hj
  obtain ⟨f, hf⟩ : ∃ f, S.fld[j % s]? = some f := ⟨_, List.getElem?_eq_getElem (by omega)⟩
  have hc := h (j / s) hjd (j % s) f hf
  simp [srcCells, hj, hf] at hv
  rw [add_add, ← hv, ← hc]
  congr 2
  rw [Nat.mul_comm, Nat.div_add_mod]
theorem srcCells_at {S : Src} {s : Nat} {i c : Nat} (hi : i < S.m) {f : Nat → SC} (hf : S.fld[c]? = some f) (hl : S.fld.length = s) : (srcCells S s)[i * s + c]? = some (f i).den := by
  have hc : c < s := by rw [← hl]; exact (List.getElem?_eq_some_iff.1 hf).1
  have hb : i * s + c < S.m * s := by
    have : (i + 1) * s ≤ S.m * s := Nat.mul_le_mul_right _ (by omega)
    rw [Nat.add_mul] at this
    omega
  have h1 : (i * s + c) % s = c := by rw [Nat.mul_add_mod_self_right, Nat.mod_eq_of_lt hc]
  have h2 : (i * s + c) / s = i := by rw [Nat.add_comm, Nat.add_mul_div_right _ _ (by omega), Nat.div_eq_of_lt hc, Nat.zero_add]
  simp [srcCells, hb, h1, h2, hf]
theorem srcCells_len (S : Src) (s : Nat) : (srcCells S s).length = S.m * s := by simp [srcCells]

/-- Every cell of the fields is the value of one cell. -/
def oneAt (fs : List (Nat → SC)) (i : Nat) : Bool := (fs.map (· i)).all SC.one
theorem oneAt_ok {fs : List (Nat → SC)} {i : Nat} (h : oneAt fs i = true) {c : Nat} {f : Nat → SC} (hf : fs[c]? = some f) : (f i).one = true :=
  List.all_eq_true.1 h _ (List.mem_map.2 ⟨f, List.mem_of_getElem? hf, rfl⟩)
theorem srcCells_one {S : Src} {s : Nat} (hl : S.fld.length = s) (h : ∀ i, oneAt S.fld i = true) : ∀ u ∈ srcCells S s, u.oneCell' = true := by
  intro u hu
  obtain ⟨j, hj, rfl⟩ := List.mem_map.1 hu
  have hj' : j < S.m * s := by simpa using hj
  have hs : 0 < s := by
    rcases Nat.eq_zero_or_pos s with h0 | h0
    · rw [h0] at hj'; simp at hj'
    · exact h0
  have hjm : j % s < s := Nat.mod_lt _ hs
  obtain ⟨f, hf⟩ : ∃ f, S.fld[j % s]? = some f := ⟨_, List.getElem?_eq_getElem (by omega)⟩
  simp only [hf]
  exact SC.one_ok (oneAt_ok (h _) hf)

/-- The fields of what was there and of what is appended. -/
def appF (n : Nat) : List (Nat → SC) → List (Nat → SC) → List (Nat → SC)
  | f :: fs, g :: gs => (fun i => pkL i n (f i) (g (subN i n))) :: appF n fs gs
  | _, _ => []
theorem appF_len (n : Nat) : ∀ (fs gs : List (Nat → SC)), fs.length = gs.length → (appF n fs gs).length = fs.length := by
  intro fs
  induction fs with
  | nil => intro gs _; cases gs <;> rfl
  | cons f fs ih => intro gs h; cases gs with | nil => simp at h | cons g gs => simp [appF, ih gs (by simpa using h)]
theorem appF_get (n : Nat) : ∀ (fs gs : List (Nat → SC)) (c : Nat) (h : Nat → SC), (appF n fs gs)[c]? = some h → ∃ f g, fs[c]? = some f ∧ gs[c]? = some g ∧ h = fun i => pkL i n (f i) (g (i - n)) := by
  intro fs
  induction fs with
  | nil => intro gs c h hh; cases gs <;> simp [appF] at hh
  | cons f fs ih =>
    intro gs c h hh
    cases gs with
    | nil => simp [appF] at hh
    | cons g gs =>
      cases c with
      | zero => simp only [appF, List.getElem?_cons_zero, Option.some.injEq] at hh; exact ⟨f, g, rfl, rfl, hh.symm⟩
      | succ c => simp only [appF, List.getElem?_cons_succ] at hh; simpa using ih gs c h hh

theorem run_append_zero {P : Program} (w : World) (t ty e : TypeId) (i : TypeInfo) (ht : P.underlying t = some (.slice e)) (hi : P.info? e = some i) (bo : Option Addr) (n cap : Nat) (hn : n ≤ cap) (ao : Option Addr) (c : Nat) :
    (Builtin.append_ #[t, t] ty #[.slice bo n cap, .slice ao 0 c]).run P w = .ok (.slice bo n cap) w := by
  cases bo <;> cases ao <;> simp [Builtin.append_, run_underlying ht, sizeOf, typeInfo, hi, Builtin.lenOf, hn, Builtin.firstCells, loadCells, loadCellsFrom, storeCells]

/-- A new row behind a growing append. -/
theorem grown_row {w : World} {e : TypeId} {s n : Nat} {S : Src} {fs : List (Nat → SC)} {olds : List Value} {zz : Array Value} {need : Nat} (hneed : need = n + S.m)
    (cap : Nat) (hge : need ≤ cap) (hmax : cap ≤ maxLen) (hl : S.fld.length = s) (holds : olds.length = n * s) (hzz : zz.size = (cap - need) * s)
    (hold : ∀ i, i < n → ∀ (c : Nat) (f : Nat → SC), fs[c]? = some f → olds[i * s + c]? = some (f i).den) (hfl : fs.length = s) (w' : World)
    (hw' : w'.heap[w.heap.size]? = some (.cells (olds.toArray ++ (srcCells S s).toArray ++ zz) e (0, 0))) :
    Row.sat w' ⟨true, some ⟨w.heap.size, 0, none⟩, e, s, need, cap, appF n fs S.fld⟩ := by
  subst hneed
  refine ⟨(appF_len n _ _ (by rw [hfl, hl])).trans hfl, fun h => (by cases h), fun _ => .inr ⟨w.heap.size, _, rfl, hw', hge, hmax, ?_, ?_⟩⟩
  · simp only [Array.size_append, List.size_toArray, holds, srcCells_len, hzz, ← Nat.add_mul]
    congr 1
    omega
  · intro i hi c h hh
    obtain ⟨f, g, hf, hg, rfl⟩ := appF_get n fs S.fld c h hh
    have hc : c < s := by rw [← hfl]; exact (List.getElem?_eq_some_iff.1 hf).1
    rw [pkL_den]
    simp only [Array.getElem?_append, Array.size_append, List.size_toArray, holds, srcCells_len, List.getElem?_toArray]
    by_cases hin : i < n
    · have hb : i * s + c < n * s := by
        have : (i + 1) * s ≤ n * s := Nat.mul_le_mul_right _ (by omega)
        rw [Nat.add_mul] at this
        omega
      have hb2 : i * s + c < n * s + S.m * s := by omega
      simp only [if_pos hb, if_pos hb2, if_pos hin]
      exact hold i hin c f hf
    · have hi' : i < n + S.m := hi
      have hb : ¬ i * s + c < n * s := by
        have : n * s ≤ i * s := Nat.mul_le_mul_right _ (by omega)
        omega
      have hb2 : i * s + c < n * s + S.m * s := by
        have : (i + 1) * s ≤ (n + S.m) * s := Nat.mul_le_mul_right _ (by omega)
        rw [Nat.add_mul, Nat.add_mul n] at this
        omega
      simp only [if_neg hb, if_pos hb2, if_neg hin]
      have he : i * s + c - n * s = (i - n) * s + c := by
        rw [Nat.sub_mul]
        have : n * s ≤ i * s := Nat.mul_le_mul_right _ (by omega)
        omega
      rw [he]
      exact srcCells_at (by omega) hg hl

theorem Row.re {w : World} {r : Row} (h : r.sat w) (fld : List (Nat → SC)) (hl : fld.length = r.s) (hf : ∀ (c : Nat) (g : Nat → SC), fld[c]? = some g → ∃ f : Nat → SC, r.fld[c]? = some f ∧ ∀ i, i < r.n → (f i).den = (g i).den) : Row.sat w { r with fld := fld } := by
  refine ⟨hl, fun ho hn => ?_, fun ho => ?_⟩
  · obtain ⟨b, off, h1, h2, h3⟩ := h.2.1 ho hn
    refine ⟨b, off, h1, h2, fun i hi c g hg' => ?_⟩
    obtain ⟨f, hf1, hf2⟩ := hf c g hg'
    rw [h3 i hi c f hf1, hf2 i hi]
  · rcases h.2.2 ho with h1 | ⟨b, cs, h1, h2, h3, h4, h5, h6⟩
    · exact .inl h1
    · refine .inr ⟨b, cs, h1, h2, h3, h4, h5, fun i hi c g hg' => ?_⟩
      obtain ⟨f, hf1, hf2⟩ := hf c g hg'
      rw [h6 i hi c f hf1, hf2 i hi]

def newRowOf (r : Row) (S : Src) (ao : Option Addr) (cap : Nat) : Row := ⟨true, ao, r.t, r.s, r.n + S.m, cap, appF r.n r.fld S.fld⟩

theorem run_app {P : Program} {w : World} {t ty : TypeId} {r : Row} {by' : Nat} {zs : List SC} (hel : elInfo P t = some (r.t, r.s, by', zs)) (hb0 : 0 < by') (hr : r.sat w) (ho : r.own = true) {S : Src} {v : Value} (hS : SrcSat w r.s S v)
    (h1 : ∀ i, oneAt S.fld i = true) (hby : (r.n + S.m) * by' ≤ 140737488355328) :
    ∃ ao cap w', (Builtin.append_ #[t, t] ty #[.slice r.ao r.n r.cap, v]).run P w = .ok (.slice ao (r.n + S.m) cap) w' ∧ w'.os = w.os ∧ w'.tape = w.tape ∧ w'.output = w.output ∧ w.heap.size ≤ w'.heap.size ∧
      (∀ k, k < w.heap.size → ¬ (Ch.row r).at k → w'.heap[k]? = w.heap[k]?) ∧ Row.sat w' (newRowOf r S ao cap) ∧ (∀ b, (Ch.row (newRowOf r S ao cap)).at b → (Ch.row r).at b ∨ w.heap.size ≤ b) := by
  obtain ⟨hu, i, z, hi, hsz, hbi, hz, hzc, hzs, hlen⟩ := elInfo_ok hel
  obtain ⟨hl, ao, c, rfl, hsrc⟩ := hS
  subst hbi
  have hmax : r.n + S.m ≤ maxLen := by
    simp only [maxLen]
    have : (r.n + S.m) * 1 ≤ (r.n + S.m) * i.bytes := Nat.mul_le_mul_left _ hb0
    omega
  by_cases hm : S.m = 0
  · have hcap : r.n ≤ r.cap := by
      rcases hr.2.2 ho with ⟨_, h2, h3⟩ | ⟨_, _, _, _, h3, _⟩ <;> omega
    refine ⟨r.ao, r.cap, w, ?_, rfl, rfl, rfl, Nat.le_refl _, fun _ _ _ => rfl, ?_, fun b hb => .inl ⟨.inl ho, hb.2⟩⟩
    · rw [hm]; exact run_append_zero w t ty r.t i hu hi r.ao r.n r.cap hcap ao c
    · have hre := Row.re hr (appF r.n r.fld S.fld) ((appF_len _ _ _ (by rw [hr.1, hl])).trans hr.1) (fun c g hg => by
        obtain ⟨f, g', hf, _, rfl⟩ := appF_get _ _ _ c g hg
        exact ⟨f, hf, fun i hi => by rw [pkL_den, if_pos hi]⟩)
      have e : newRowOf r S r.ao r.cap = { r with fld := appF r.n r.fld S.fld } := by
        simp only [newRowOf, hm, Nat.add_zero]
        rw [← ho]
      rw [e]
      exact hre
  · obtain ⟨b, off, rfl, hcell⟩ := hsrc (by omega)
    have hnews := srcCells_get (w := w) hl hcell
    have hn1 := srcCells_one hl h1
    have hnl : (srcCells S r.s).length = S.m * i.size := by rw [srcCells_len, hsz]
    rcases hr.2.2 ho with ⟨hao, hn, hcap⟩ | ⟨g, cs, hao, hg, hnc, hcm, hcs, hold⟩
    · have hrun := run_append_nil (P := P) w t ty r.t i z hu hi hz ⟨b, off, none⟩ S.m c (srcCells S r.s) hnl hnews (by omega) (by have := hmax; simp only [maxLen] at this; omega) (by rw [hn, Nat.zero_add] at hby; omega)
      have hge := grownCap_ge w S.m 0 r.t
      have hle := grownCap_le_maxLen w S.m 0 r.t (by omega)
      refine ⟨some ⟨w.heap.size, 0, none⟩, grownCap w S.m 0 r.t, w.drew.alloc (.cells ((srcCells S r.s).toArray ++ Builtin.zeroCells z.cells (grownCap w S.m 0 r.t - S.m)) r.t), ?_, rfl, rfl, rfl, by simp, fun k hk _ => heap_alloc_old w.drew _ k hk, ?_, ?_⟩
      · rw [hao, hn, hcap, Nat.zero_add]; exact hrun
      · refine grown_row (s := r.s) (n := r.n) (S := S) (olds := []) (zz := Builtin.zeroCells z.cells (grownCap w S.m 0 r.t - S.m)) rfl _ (by omega) hle hl (by simp [hn]) ?_ (fun j hj => by omega) hr.1 _ ?_
        · rw [size_zeroCells, hzs, hn, Nat.zero_add]
        · have := heap_alloc_new w.drew (.cells ((srcCells S r.s).toArray ++ Builtin.zeroCells z.cells (grownCap w S.m 0 r.t - S.m)) r.t)
          simpa using this
      · intro b' hb'
        obtain ⟨_, off', hb'⟩ := hb'
        injection hb' with hb'
        injection hb' with hb'
        right
        omega
    · by_cases hroom : r.n + S.m ≤ r.cap
      · have hfit : r.n * i.size + (srcCells S r.s).length ≤ cs.size := by
          rw [hcs, hnl, hsz, ← Nat.add_mul]
          exact Nat.mul_le_mul_right _ hroom
        have hrun := run_append_room (P := P) w t ty r.t i hu hi g r.n r.cap cs hg ⟨b, off, none⟩ S.m c (srcCells S r.s) hnl hnews hn1 hroom hfit
        refine ⟨some ⟨g, 0, none⟩, r.cap, w.setRow g (List.take (r.n * i.size) cs.toList ++ srcCells S r.s ++ List.drop (r.n * i.size + (srcCells S r.s).length) cs.toList).toArray, ?_, rfl, rfl, rfl, ?_, ?_, ?_, fun b' hb' => .inl ⟨.inl ho, by rw [hao]; exact hb'.2⟩⟩
        · rw [hao]; exact hrun
        · rw [size_setRow]; exact Nat.le_refl _
        · intro k _ hk
          exact setRow_other _ _ _ _ (fun e => hk (by rw [e]; exact ⟨.inl ho, 0, hao⟩))
        · refine ⟨(appF_len _ _ _ (by rw [hr.1, hl])).trans hr.1, fun h => (by cases h), fun _ => .inr ⟨g, _, rfl, setRow_heap w g cs _ r.t (0, 0) hg, hroom, hcm, ?_, ?_⟩⟩
          · show _ = r.cap * r.s
            rw [← hcs]
            simp only [List.size_toArray, List.length_append, List.length_take, List.length_drop, Array.length_toList]
            omega
          · intro j hj d h hh
            simp only [newRowOf] at hj hh ⊢
            obtain ⟨f, g', hf, hg', rfl⟩ := appF_get r.n r.fld S.fld d h hh
            have hd : d < r.s := by rw [← hr.1]; exact (List.getElem?_eq_some_iff.1 hf).1
            rw [pkL_den, List.getElem?_toArray, hsz]
            have hns : r.n * r.s ≤ cs.size := by rw [hcs]; exact Nat.mul_le_mul_right _ hnc
            by_cases hin : j < r.n
            · have hb1 : j * r.s + d < r.n * r.s := by
                have : (j + 1) * r.s ≤ r.n * r.s := Nat.mul_le_mul_right _ (by omega)
                rw [Nat.add_mul] at this
                omega
              rw [if_pos hin, List.append_assoc, List.getElem?_append_left (by simp; omega), List.getElem?_take_of_lt hb1, Array.getElem?_toList]
              exact hold j hin d f hf
            · have hj' : j < r.n + S.m := hj
              have hb1 : r.n * r.s ≤ j * r.s := Nat.mul_le_mul_right _ (by omega)
              have hb2 : j * r.s + d < r.n * r.s + S.m * r.s := by
                have : (j + 1) * r.s ≤ (r.n + S.m) * r.s := Nat.mul_le_mul_right _ (by omega)
                rw [Nat.add_mul, Nat.add_mul r.n] at this
                omega
              have htl : (cs.toList.take (r.n * r.s)).length = r.n * r.s := by simp; omega
              rw [if_neg hin, List.append_assoc, List.getElem?_append_right (by omega), htl, List.getElem?_append_left (by rw [srcCells_len]; omega)]
              have he : j * r.s + d - r.n * r.s = (j - r.n) * r.s + d := by
                rw [Nat.sub_mul]
                omega
              rw [he]
              exact srcCells_at (by omega) hg' hl
      · have hns : r.n * r.s ≤ cs.size := by rw [hcs]; exact Nat.mul_le_mul_right _ hnc
        have holds : ∀ (j : Nat) u, (cs.toList.take (r.n * r.s))[j]? = some u → w.cell? ((⟨g, 0, none⟩ : Addr).add j) = some u := fun j u hj => by
          have hjl : j < r.n * r.s := by
            have := (List.getElem?_eq_some_iff.1 hj).1
            simp at this
            omega
          rw [List.getElem?_take_of_lt hjl] at hj
          rw [add_add, Nat.zero_add]
          simpa [World.cell?, hg] using hj
        have hrun := run_append_grow (P := P) w t ty r.t i z hu hi hz ⟨g, 0, none⟩ r.n r.cap (cs.toList.take (r.n * r.s)) (by simp; rw [hsz]; omega) holds ⟨b, off, none⟩ S.m c (srcCells S r.s) hnl hnews (by omega)
          (by have := hmax; simp only [maxLen] at this; omega) (growslice_fits (by omega) hby)
        have hge := grownCap_ge w (r.n + S.m) r.cap r.t
        have hle := grownCap_le_maxLen w (r.n + S.m) r.cap r.t hmax
        refine ⟨some ⟨w.heap.size, 0, none⟩, grownCap w (r.n + S.m) r.cap r.t, w.drew.alloc (.cells ((List.take (r.n * r.s) cs.toList).toArray ++ (srcCells S r.s).toArray ++ Builtin.zeroCells z.cells (grownCap w (r.n + S.m) r.cap r.t - (r.n + S.m))) r.t), ?_, rfl, rfl, rfl, ?_, ?_, ?_, ?_⟩
        · rw [hao]; exact hrun
        · simp
        · intro k hk _
          exact heap_alloc_old w.drew _ k hk
        · refine grown_row (s := r.s) (n := r.n) (S := S) (olds := cs.toList.take (r.n * r.s)) (zz := Builtin.zeroCells z.cells (grownCap w (r.n + S.m) r.cap r.t - (r.n + S.m))) rfl _ hge hle hl (by simp; omega) ?_ ?_ hr.1 _ ?_
          · rw [size_zeroCells, hzs]
          · intro j hj d f hf
            have hd : d < r.s := by rw [← hr.1]; exact (List.getElem?_eq_some_iff.1 hf).1
            have hb1 : j * r.s + d < r.n * r.s := by
              have : (j + 1) * r.s ≤ r.n * r.s := Nat.mul_le_mul_right _ (by omega)
              rw [Nat.add_mul] at this
              omega
            rw [List.getElem?_take_of_lt hb1, Array.getElem?_toList]
            exact hold j hj d f hf
          · exact heap_alloc_new w.drew _
        · intro b' hb'
          obtain ⟨_, off', hb'⟩ := hb'
          injection hb' with hb'
          injection hb' with hb'
          right
          omega
end Go.Proofs.Ytmgjmglmjfjliab
