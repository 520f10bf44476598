/-
  Geometries checked, banks counted.
-/
import Derived.Test.YtlkklplnomecgaaSxPol2
namespace Go.Proofs.Ytlkklplnomecgaa
set_option linter.unusedVariables false
set_option linter.unusedSimpArgs false
open Go.RowKit
set_option maxRecDepth 100000
set_option maxHeartbeats 8000000

theorem HS.addNil {X : Cx} {ch : List Ch} {w : World} (h : HS X ch w) (r : Row) (ho : r.own = true) (ha : r.ao = none) (hn : r.n = 0) (hc : r.cap = 0) (hl : r.fld.length = r.s) : HS X (ch ++ [.row r]) w :=
  h.add (Below.refl _ _) _ ⟨hl, fun q => (by rw [ho] at q; cases q), fun _ => .inl ⟨ha, hn, hc⟩⟩ fun b hb => by
    obtain ⟨_, off, hb⟩ := hb
    rw [ha] at hb
    cases hb
theorem HS.recell {X : Cx} {ch : List Ch} {w : World} (h : HS X ch w) (id : Nat) {b : Nat} {t : TypeId} {cs : List SC} (hid : ch[id]? = some (.cells b t cs)) (cs' : List SC) (e : cs.map SC.den = cs'.map SC.den) : HS X (ch.set id (.cells b t cs')) w where
  fr := h.fr
  sat := fun i d hd => by
    rcases get_set hd with ⟨rfl, rfl, _⟩ | ⟨_, hd⟩
    · have := h.sat _ _ hid
      show w.heap[b]? = _
      rw [← e]
      exact this
    · exact h.sat i d hd
  dis := fun i j ci cj b' hij hi hj ho hai haj => by
    rcases get_set hi with ⟨rfl, rfl, _⟩ | ⟨_, hi'⟩
    · rcases get_set hj with ⟨rfl, rfl, _⟩ | ⟨_, hj'⟩
      · exact hij rfl
      · exact h.dis _ j _ cj b' hij hid hj' rfl hai haj
    · rcases get_set hj with ⟨rfl, rfl, _⟩ | ⟨_, hj'⟩
      · exact h.dis i _ ci _ b' hij hi' hid ho hai haj
      · exact h.dis i j ci cj b' hij hi' hj' ho hai haj
  new := fun i d b' hd ho ha => by
    rcases get_set hd with ⟨rfl, rfl, _⟩ | ⟨_, hd⟩
    · exact h.new _ _ b' hid rfl ha
    · exact h.new i d b' hd ho ha
theorem first_loop {P : Program} {X : Cx} {fn : Func} {key : Nat} {rest : List Nat} {S : LSm} (hl : (loopsF fn).map firstReg = key :: rest) (hne : key ∉ rest) (h : LoopOK P X (theLoop fn 0) S) :
    ∀ c, fn.body = some c → LoopsOK P X [(key, S)] c := by
  intro c hc
  refine loopsOK_of c fun b hb T hT => ?_
  have e : loopsF fn = loopsIn c := by simp [loopsF, hc]
  rw [← e] at hb
  match hf : loopsF fn with
  | [] => rw [hf] at hb; cases hb
  | d :: ds =>
    rw [hf] at hb hl
    simp only [List.map_cons, List.cons.injEq] at hl
    have ht : theLoop fn 0 = d := by simp [theLoop, hf]
    rw [ht] at h
    rcases List.mem_cons.1 hb with rfl | hb
    · simp only [lookL, hl.1, Nat.beq_refl, Option.some.injEq] at hT
      subst hT
      exact h
    · have hm : firstReg b ∈ rest := by rw [← hl.2]; exact List.mem_map.2 ⟨b, hb, rfl⟩
      simp only [lookL] at hT
      split at hT
      · rename_i hq
        have := Nat.eq_of_beq_eq_true hq
        rw [← this] at hm
        exact absurd hm hne
      · cases hT
theorem body_loop {P : Program} {X : Cx} {c d : Code} {key : Nat} {S : LSm} (hd : loopsIn c = [d]) (hk : firstReg d = key) (h : LoopOK P X d S) : LoopsOK P X [(key, S)] c := by
  refine loopsOK_of c fun b hb T hT => ?_
  rw [hd] at hb
  have hbd : b = d := by simpa using hb
  subst hbd
  simp only [lookL, hk, Nat.beq_refl, Option.some.injEq] at hT
  subst hT
  exact h
def geoB (g b r c : Int) : Bool := btw g 1 2 && btw b 1 4 && btw r 2 16 && btw c 1 8
def bankN (g b r c : Int) : Int := if geoB g b r c = true then g * b else 0
theorem geo_facts {g b r c : Int} (h : geoB g b r c = true) : (1 ≤ g ∧ g ≤ 2) ∧ (1 ≤ b ∧ b ≤ 4) ∧ (2 ≤ r ∧ r ≤ 16) ∧ (1 ≤ c ∧ c ≤ 8) := by
  simp only [geoB, Bool.and_eq_true, btw, decide_eq_true_eq] at h
  omega
theorem geo_bank {g b r c : Int} (h : geoB g b r c = true) : 1 ≤ g * b ∧ g * b ≤ 8 := by
  have hf := geo_facts h
  have : g = 1 ∨ g = 2 := by omega
  rcases this with rfl | rfl <;> omega
theorem geoI_T (gGroups gBanks gRows gCols : Int) : (exFn Try.prog {tb := [(60, sBtw)]} 400 Try.f85 ([.a (.agg [.int gGroups, .int gBanks, .int gRows, .int gCols])]) ([]) (fun v _ => v.den = .bool (geoB gGroups gBanks gRows gCols))) = (
  (∀ b0 : Nat,
  (b0 = b0 ∧
  (((btw gGroups (1 : Int) (2 : Int)) = Bool.true →
  (b0 = b0 ∧
   (((btw gBanks (1 : Int) (4 : Int)) = Bool.true →
   (b0 = b0 ∧
    (((btw gRows (2 : Int) (16 : Int)) = Bool.true →
    (b0 = b0 ∧
     (Value.bool (btw gCols (1 : Int) (8 : Int))) = (Value.bool (geoB gGroups gBanks gRows gCols)))) ∧
    ((btw gRows (2 : Int) (16 : Int)) = Bool.false →
    (Value.bool Bool.false) = (Value.bool (geoB gGroups gBanks gRows gCols)))))) ∧
   ((btw gBanks (1 : Int) (4 : Int)) = Bool.false →
   (Value.bool Bool.false) = (Value.bool (geoB gGroups gBanks gRows gCols)))))) ∧
  ((btw gGroups (1 : Int) (2 : Int)) = Bool.false →
  (Value.bool Bool.false) = (Value.bool (geoB gGroups gBanks gRows gCols))))))) := by kernel_rfl
theorem geoI_any (gGroups gBanks gRows gCols : Int) (w : World) : Calls Try.prog 85 #[.agg #[.int .i64 gGroups, .int .i64 gBanks, .int .i64 gRows, .int .i64 gCols]] w fun e w' => e = .returned (.bool (geoB gGroups gBanks gRows gCols)) ∧ Below w.heap.size w w' := by
  refine fnB (tb := [(60, sBtw)]) ⟨sBtwI_ok, trivial⟩ Try.func85 ((geoI_T gGroups gBanks gRows gCols).mpr ?_) (HS.start w (fun _ => False)) (fun v ch' w' hk hs => ⟨by rw [hk], hs.below⟩)
  repeat' (first | with_reducible exact rfl | exact True.intro | refine And.intro ?_ ?_ | intro _)
  all_goals (simp_all [geoB]; done)
theorem geoS_T (gGroups gBanks gRows gCols : Int) : (exFn Try.prog {tb := [(59, sBtw)]} 400 Try.f99 ([.a (.agg [.int gGroups, .int gBanks, .int gRows, .int gCols])]) ([]) (fun v _ => v.den = .bool (geoB gGroups gBanks gRows gCols))) = (
  (∀ b0 : Nat,
  (b0 = b0 ∧
  (((btw gGroups (1 : Int) (2 : Int)) = Bool.true →
  (b0 = b0 ∧
   (((btw gBanks (1 : Int) (4 : Int)) = Bool.true →
   (b0 = b0 ∧
    (((btw gRows (2 : Int) (16 : Int)) = Bool.true →
    (b0 = b0 ∧
     (Value.bool (btw gCols (1 : Int) (8 : Int))) = (Value.bool (geoB gGroups gBanks gRows gCols)))) ∧
    ((btw gRows (2 : Int) (16 : Int)) = Bool.false →
    (Value.bool Bool.false) = (Value.bool (geoB gGroups gBanks gRows gCols)))))) ∧
   ((btw gBanks (1 : Int) (4 : Int)) = Bool.false →
   (Value.bool Bool.false) = (Value.bool (geoB gGroups gBanks gRows gCols)))))) ∧
  ((btw gGroups (1 : Int) (2 : Int)) = Bool.false →
  (Value.bool Bool.false) = (Value.bool (geoB gGroups gBanks gRows gCols))))))) := by kernel_rfl
theorem geoS_any (gGroups gBanks gRows gCols : Int) (w : World) : Calls Try.prog 99 #[.agg #[.int .i64 gGroups, .int .i64 gBanks, .int .i64 gRows, .int .i64 gCols]] w fun e w' => e = .returned (.bool (geoB gGroups gBanks gRows gCols)) ∧ Below w.heap.size w w' := by
  refine fnB (tb := [(59, sBtw)]) ⟨sBtwS_ok, trivial⟩ Try.func99 ((geoS_T gGroups gBanks gRows gCols).mpr ?_) (HS.start w (fun _ => False)) (fun v ch' w' hk hs => ⟨by rw [hk], hs.below⟩)
  repeat' (first | with_reducible exact rfl | exact True.intro | refine And.intro ?_ ?_ | intro _)
  all_goals (simp_all [geoB]; done)
def sGeo : Sm := fun args ch k =>
  match args with
  | [.a (.agg [c0, c1, c2, c3])] =>
    match ints [c0, c1, c2, c3], bools [] with
    | some [gGroups, gBanks, gRows, gCols], some [] => k (.a (.c (.bool (geoB gGroups gBanks gRows gCols)))) ch []
    | _, _ => False
  | _ => False
theorem sGeo_ok {f : FuncId} (hc : ∀ args w, (callFunc f args).run Try.prog w = .ok (.enter f args) w) (h : ∀ (gGroups gBanks gRows gCols : Int) (w : World), Calls Try.prog f #[.agg #[.int .i64 gGroups, .int .i64 gBanks, .int .i64 gRows, .int .i64 gCols]] w fun e w' => e = .returned (.bool (geoB gGroups gBanks gRows gCols)) ∧ Below w.heap.size w w') : SmOK Try.prog f sGeo := by
  refine smB hc fun args ch k w X h0 hs => ?_
  unfold sGeo at h0
  split at h0
  · split at h0
    · rename_i gGroups gBanks gRows gCols hi hb
      obtain ⟨e0, hi1⟩ := ints_cons hi
      obtain ⟨e1, hi2⟩ := ints_cons hi1
      obtain ⟨e2, hi3⟩ := ints_cons hi2
      obtain ⟨e3, hi4⟩ := ints_cons hi3
      refine ⟨_, h0, ?_⟩
      simp only [List.map_cons, List.map_nil, den_a, den_c, SA.den, e0, e1, e2, e3]
      exact h gGroups gBanks gRows gCols w
    · exact h0.elim
  · exact h0.elim
theorem sGeo_I : SmOK Try.prog 85 sGeo := sGeo_ok Try.call85 geoI_any
theorem sGeo_S : SmOK Try.prog 99 sGeo := sGeo_ok Try.call99 geoS_any
theorem bankI_T (gGroups gBanks gRows gCols : Int) : (exFn Try.prog {tb := [(85, sGeo)]} 400 Try.f101 ([.a (.agg [.int gGroups, .int gBanks, .int gRows, .int gCols])]) ([]) (fun v _ => v.den = .int .i64 (bankN gGroups gBanks gRows gCols))) = (
  (∀ b0 : Nat,
  (b0 = b0 ∧
  (((!(geoB gGroups gBanks gRows gCols)) = Bool.true →
  (Value.int IntKind.i64 (0 : Int)) = (Value.int IntKind.i64 (bankN gGroups gBanks gRows gCols))) ∧
  ((!(geoB gGroups gBanks gRows gCols)) = Bool.false →
  (b0 = b0 ∧
   (b0 = b0 ∧
   ((rng (gGroups * gBanks)) ∧
   (Value.int IntKind.i64 (gGroups * gBanks)) = (Value.int IntKind.i64 (bankN gGroups gBanks gRows gCols)))))))))) := by kernel_rfl
theorem bankI_any (gGroups gBanks gRows gCols : Int) (w : World) : Calls Try.prog 101 #[.agg #[.int .i64 gGroups, .int .i64 gBanks, .int .i64 gRows, .int .i64 gCols]] w fun e w' => e = .returned (.int .i64 (bankN gGroups gBanks gRows gCols)) ∧ Below w.heap.size w w' := by
  refine fnB (tb := [(85, sGeo)]) ⟨sGeo_I, trivial⟩ Try.func101 ((bankI_T gGroups gBanks gRows gCols).mpr ?_) (HS.start w (fun _ => False)) (fun v ch' w' hk hs => ⟨by rw [hk], hs.below⟩)
  cases hg : geoB gGroups gBanks gRows gCols
  · repeat' (first | with_reducible exact rfl | exact True.intro | refine And.intro ?_ ?_ | intro _)
    all_goals simp_all [bankN]
  · have hf := geo_facts hg
    have hr := geo_bank hg
    repeat' (first | with_reducible exact rfl | exact True.intro | refine And.intro ?_ ?_ | (intro h; exfalso; simp [hg] at h; done) | intro _ | omega)
    all_goals (simp [bankN, hg])
theorem bankS_T (gGroups gBanks gRows gCols : Int) : (exFn Try.prog {tb := [(99, sGeo)]} 400 Try.f100 ([.a (.agg [.int gGroups, .int gBanks, .int gRows, .int gCols])]) ([]) (fun v _ => v.den = .int .i64 (bankN gGroups gBanks gRows gCols))) = (
  (∀ b0 : Nat,
  (b0 = b0 ∧
  (((!(geoB gGroups gBanks gRows gCols)) = Bool.true →
  (Value.int IntKind.i64 (0 : Int)) = (Value.int IntKind.i64 (bankN gGroups gBanks gRows gCols))) ∧
  ((!(geoB gGroups gBanks gRows gCols)) = Bool.false →
  (b0 = b0 ∧
   (b0 = b0 ∧
   ((rng (gGroups * gBanks)) ∧
   (Value.int IntKind.i64 (gGroups * gBanks)) = (Value.int IntKind.i64 (bankN gGroups gBanks gRows gCols)))))))))) := by kernel_rfl
theorem bankS_any (gGroups gBanks gRows gCols : Int) (w : World) : Calls Try.prog 100 #[.agg #[.int .i64 gGroups, .int .i64 gBanks, .int .i64 gRows, .int .i64 gCols]] w fun e w' => e = .returned (.int .i64 (bankN gGroups gBanks gRows gCols)) ∧ Below w.heap.size w w' := by
  refine fnB (tb := [(99, sGeo)]) ⟨sGeo_S, trivial⟩ Try.func100 ((bankS_T gGroups gBanks gRows gCols).mpr ?_) (HS.start w (fun _ => False)) (fun v ch' w' hk hs => ⟨by rw [hk], hs.below⟩)
  cases hg : geoB gGroups gBanks gRows gCols
  · repeat' (first | with_reducible exact rfl | exact True.intro | refine And.intro ?_ ?_ | intro _)
    all_goals simp_all [bankN]
  · have hf := geo_facts hg
    have hr := geo_bank hg
    repeat' (first | with_reducible exact rfl | exact True.intro | refine And.intro ?_ ?_ | (intro h; exfalso; simp [hg] at h; done) | intro _ | omega)
    all_goals (simp [bankN, hg])
def sBank : Sm := fun args ch k =>
  match args with
  | [.a (.agg [c0, c1, c2, c3])] =>
    match ints [c0, c1, c2, c3], bools [] with
    | some [gGroups, gBanks, gRows, gCols], some [] => k (.a (.c (.int (bankN gGroups gBanks gRows gCols)))) ch []
    | _, _ => False
  | _ => False
theorem sBank_ok {f : FuncId} (hc : ∀ args w, (callFunc f args).run Try.prog w = .ok (.enter f args) w) (h : ∀ (gGroups gBanks gRows gCols : Int) (w : World), Calls Try.prog f #[.agg #[.int .i64 gGroups, .int .i64 gBanks, .int .i64 gRows, .int .i64 gCols]] w fun e w' => e = .returned (.int .i64 (bankN gGroups gBanks gRows gCols)) ∧ Below w.heap.size w w') : SmOK Try.prog f sBank := by
  refine smB hc fun args ch k w X h0 hs => ?_
  unfold sBank at h0
  split at h0
  · split at h0
    · rename_i gGroups gBanks gRows gCols hi hb
      obtain ⟨e0, hi1⟩ := ints_cons hi
      obtain ⟨e1, hi2⟩ := ints_cons hi1
      obtain ⟨e2, hi3⟩ := ints_cons hi2
      obtain ⟨e3, hi4⟩ := ints_cons hi3
      refine ⟨_, h0, ?_⟩
      simp only [List.map_cons, List.map_nil, den_a, den_c, SA.den, e0, e1, e2, e3]
      exact h gGroups gBanks gRows gCols w
    · exact h0.elim
  · exact h0.elim
theorem sBank_I : SmOK Try.prog 101 sBank := sBank_ok Try.call101 bankI_any
theorem sBank_S : SmOK Try.prog 100 sBank := sBank_ok Try.call100 bankS_any
end Go.Proofs.Ytlkklplnomecgaa
