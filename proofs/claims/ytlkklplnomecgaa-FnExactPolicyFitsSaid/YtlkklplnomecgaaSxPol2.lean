/-
  Shares made, drains and rules checked.
-/
import Derived.Test.YtlkklplnomecgaaSxShare3
import Derived.Test.YtlkklplnomecgaaSxBox
namespace Go.Proofs.Ytlkklplnomecgaa
set_option linter.unusedVariables false
set_option linter.unusedSimpArgs false
open Go.RowKit
set_option maxRecDepth 100000
set_option maxHeartbeats 8000000

def ifN (b : Bool) (n : Nat) : Nat := if b = true then n else 0
theorem shB_facts {n : Nat} {g0 g1 : Nat → Int} (h : shB n g0 g1 = true) : 1 ≤ n ∧ n ≤ 4 := by
  simp only [shB, Bool.and_eq_true, btw, decide_eq_true_eq] at h
  omega
theorem shB_big {n : Nat} {g0 g1 : Nat → Int} (h : 4 < n) : shB n g0 g1 = false := by
  cases hs : shB n g0 g1
  · rfl
  · have := shB_facts hs; omega
theorem shB_min (n : Nat) (g0 g1 : Nat → Int) : shB (min5 n) g0 g1 = shB n g0 g1 := by
  by_cases h : n ≤ 4
  · rw [(min5_ok n).2.2.1 (by omega)]
  · rw [shB_big (by have := min5_ok n; omega), shB_big (by omega)]
theorem shNewI_T (wo : Option Addr) (n wc : Nat) (wg : Nat → Int) : (exFn Try.prog {tb := [(98, sShOk)], L := [(3, sshNewI wo n wc wg)]} 400 Try.f77 ([.a (.c (.sl 0 wo n wc))]) ([.row ⟨false, wo, 0, 1, n, 0, [fun i => .int (wg i)]⟩]) (fun v ch => ∃ (ro0 : Option Addr) (rc0 : Nat), OutR v ch (.tuple #[.slice ro0 (ifN (shB n wg wg) n) rc0, .bool (shB n wg wg)]) [.row ⟨true, ro0, 138, 2, ifN (shB n wg wg) n, rc0, [fun i => .int (wg i), fun i => .int (wg i)]⟩])) = (
  (∀ b0 : Nat,
  (Exists (fun (b1 : Nat) => (([(Value.slice wo n wc), (Value.tuple (List.toArray [])), (Value.slice Option.none 0 0), (Value.bool Bool.false), (Value.slice (Option.some (Addr.mk b0 0 Option.none)) 0 0), (Value.tuple (List.toArray [])), (Value.tuple (List.toArray [])), (Value.slice (Option.some (Addr.mk b0 0 Option.none)) 0 0), (Value.slice wo n wc), (Value.int IntKind.i64 ((n : Nat) : Int)), (Value.int IntKind.i64 (0 : Int)), (Value.tuple (List.toArray [])), (Value.tuple (List.toArray [])), (Value.tuple (List.toArray [])), (Value.tuple (List.toArray [])), (Value.tuple (List.toArray [])), (Value.tuple (List.toArray [])), (Value.tuple (List.toArray [])), (Value.tuple (List.toArray [])), (Value.tuple (List.toArray [])), (Value.tuple (List.toArray [])), (Value.tuple (List.toArray [])), (Value.tuple (List.toArray [])), (Value.tuple (List.toArray [])), (Value.tuple (List.toArray []))] = [(Value.slice wo n wc), (Value.tuple (List.toArray [])), (Value.slice Option.none 0 0), (Value.bool Bool.false), (Value.slice (Option.some (Addr.mk b1 0 Option.none)) 0 0), (Value.tuple (List.toArray [])), (Value.tuple (List.toArray [])), (Value.slice (Option.some (Addr.mk b0 0 Option.none)) 0 0), (Value.slice wo n wc), (Value.int IntKind.i64 ((n : Nat) : Int)), (Value.int IntKind.i64 (0 : Int)), (Value.tuple (List.toArray [])), (Value.tuple (List.toArray [])), (Value.tuple (List.toArray [])), (Value.tuple (List.toArray [])), (Value.tuple (List.toArray [])), (Value.tuple (List.toArray [])), (Value.tuple (List.toArray [])), (Value.tuple (List.toArray [])), (Value.tuple (List.toArray [])), (Value.tuple (List.toArray [])), (Value.tuple (List.toArray [])), (Value.tuple (List.toArray [])), (Value.tuple (List.toArray [])), (Value.tuple (List.toArray []))] ∧
  [(Ch.row (Row.mk Bool.false wo 0 1 n 0 [(fun (i2 : Nat) => (SC.int (wg i2)))])), (Ch.cells b0 138 [])] = [(Ch.row (Row.mk Bool.false wo 0 1 n 0 [(fun (i3 : Nat) => (SC.int (wg i3)))])), (Ch.cells b1 138 [])]) ∧
  (∀ g4 : (Nat →
  Value),
  (∀ ao5 : (Option Addr),
  (∀ cap6 : Nat,
  (Exists (fun (g07 : (Nat →
  Int)) => (Exists (fun (g18 : (Nat →
  Int)) => ((ao5 = ao5 ∧
  (n = n ∧
  [(fun (i9 : Nat) => (SC.int (wg i9))), (fun (i10 : Nat) => (SC.int (wg i10)))] = [(fun (i11 : Nat) => (SC.int (g07 i11))), (fun (i12 : Nat) => (SC.int (g18 i12)))])) ∧
  ((lenC n) ∧
  (((!(shB n g07 g18)) = Bool.true →
  (Exists (fun (ro013 : (Option Addr)) => (Exists (fun (rc014 : Nat) => ((Value.tuple (List.toArray [(Value.slice Option.none 0 0), (Value.bool Bool.false)])) = (Value.tuple (List.toArray [(Value.slice ro013 (ifN (shB n wg wg) n) rc014), (Value.bool (shB n wg wg))])) ∧
   (((Bool.true = Bool.true ∧
   (Option.none = ro013 ∧
   (0 = (ifN (shB n wg wg) n) ∧
   (0 = rc014 ∧
   Bool.true = Bool.true)))) ∧
   True) ∧
   Bool.true = Bool.true))))))) ∧
  ((!(shB n g07 g18)) = Bool.false →
  (Exists (fun (ro015 : (Option Addr)) => (Exists (fun (rc016 : Nat) => ((Value.tuple (List.toArray [(Value.slice ao5 n cap6), (Value.bool Bool.true)])) = (Value.tuple (List.toArray [(Value.slice ro015 (ifN (shB n wg wg) n) rc016), (Value.bool (shB n wg wg))])) ∧
   (((Bool.true = Bool.true ∧
   (ao5 = ro015 ∧
   (138 = 138 ∧
   (2 = 2 ∧
   (n = (ifN (shB n wg wg) n) ∧
   (cap6 = rc016 ∧
   ((∀ i17 : Nat,
   (i17 < n →
   (Value.int IntKind.i64 (wg i17)) = (Value.int IntKind.i64 (wg i17)))) ∧
   ((∀ i18 : Nat,
   (i18 < n →
   (Value.int IntKind.i64 (wg i18)) = (Value.int IntKind.i64 (wg i18)))) ∧
   True)))))))) ∧
   True) ∧
   Bool.true = Bool.true)))))))))))))))))))))) := by kernel_rfl
theorem shNewI_any (wo : Option Addr) (n wc : Nat) (wg : Nat → Int) (w : World) (h : Row.sat w ⟨false, wo, 0, 1, n, 0, [fun i => .int (wg i)]⟩) (hpre : capC n) : Calls Try.prog 77 #[.slice wo n wc] w fun e w' => ∃ (ro0 : Option Addr) (rc0 : Nat), e = .returned (.tuple #[.slice ro0 (ifN (shB n wg wg) n) rc0, .bool (shB n wg wg)]) ∧ HS ⟨w, fun _ => False⟩ [.row ⟨true, ro0, 138, 2, ifN (shB n wg wg) n, rc0, [fun i => .int (wg i), fun i => .int (wg i)]⟩] w' := by
  refine fn_ok mixed (E := { tb := [(98, sShOk)], L := [(3, sshNewI wo n wc wg)] }) ⟨sShOk_I, trivial⟩ Try.func77 (one_loop (by kernel_rfl) (by kernel_rfl) (shNewI_ok wo n wc wg hpre _)) ((shNewI_T wo n wc wg).mpr ?_) (HS.rows (fun _ => False) [⟨false, wo, 0, 1, n, 0, [fun i => .int (wg i)]⟩] (by simpa using h)) (fun v ch' w' ⟨ro, rc, hk⟩ hs => ⟨ro, rc, by rw [hk.1], hk.hs hs⟩)
  clear h
  have hm5 := min5_ok n
  cases hs : shB n wg wg
  · have hn0 : ifN (shB n wg wg) n = 0 := by simp [hs, ifN]
    repeat' (first
      | with_reducible exact rfl
      | exact True.intro
      | with_reducible assumption
      | refine And.intro ?_ ?_
      | apply Exists.intro
      | (intro h; exfalso; simp [hs, shB_min] at h; done)
      | (intro h; exfalso; simp [hs, shB_min] at h; omega)
      | intro _
      | omega
      | (simp; omega))
    all_goals (try simp_all [ifN, shB_min])
  · have hf := shB_facts hs
    have hm : min5 n = n := (min5_ok n).2.2.1 (by omega)
    repeat' (first
      | with_reducible exact rfl
      | exact True.intro
      | with_reducible assumption
      | refine And.intro ?_ ?_
      | apply Exists.intro
      | (intro h; exfalso; simp [hs, shB_min] at h; done)
      | (intro h; exfalso; simp [hs, shB_min] at h; omega)
      | intro _
      | omega
      | (simp; omega))
    all_goals (try simp_all [ifN, shB_min])
theorem shNewS_T (wo : Option Addr) (n wc : Nat) (wg : Nat → Int) : (exFn Try.prog {tb := [(97, sShOk)], L := [(3, sshNewS wo n wc wg)]} 400 Try.f72 ([.a (.c (.sl 0 wo n wc))]) ([.row ⟨false, wo, 0, 1, n, 0, [fun i => .int (wg i)]⟩]) (fun v ch => ∃ (ro0 : Option Addr) (rc0 : Nat), OutR v ch (.tuple #[.slice ro0 (ifN (shB n wg wg) n) rc0, .bool (shB n wg wg)]) [.row ⟨true, ro0, 138, 2, ifN (shB n wg wg) n, rc0, [fun i => .int (wg i), fun i => .int (wg i)]⟩])) = (
  (∀ b0 : Nat,
  (Exists (fun (b1 : Nat) => (([(Value.slice wo n wc), (Value.tuple (List.toArray [])), (Value.slice Option.none 0 0), (Value.bool Bool.false), (Value.slice (Option.some (Addr.mk b0 0 Option.none)) 0 0), (Value.int IntKind.i64 (0 : Int)), (Value.slice (Option.some (Addr.mk b0 0 Option.none)) 0 0), (Value.tuple (List.toArray [])), (Value.tuple (List.toArray [])), (Value.tuple (List.toArray [])), (Value.tuple (List.toArray [])), (Value.tuple (List.toArray [])), (Value.tuple (List.toArray [])), (Value.tuple (List.toArray [])), (Value.tuple (List.toArray [])), (Value.tuple (List.toArray [])), (Value.tuple (List.toArray [])), (Value.tuple (List.toArray [])), (Value.tuple (List.toArray [])), (Value.tuple (List.toArray [])), (Value.tuple (List.toArray [])), (Value.tuple (List.toArray [])), (Value.tuple (List.toArray [])), (Value.tuple (List.toArray [])), (Value.tuple (List.toArray [])), (Value.tuple (List.toArray [])), (Value.tuple (List.toArray [])), (Value.tuple (List.toArray [])), (Value.tuple (List.toArray [])), (Value.tuple (List.toArray [])), (Value.tuple (List.toArray [])), (Value.tuple (List.toArray [])), (Value.tuple (List.toArray [])), (Value.tuple (List.toArray []))] = [(Value.slice wo n wc), (Value.tuple (List.toArray [])), (Value.slice Option.none 0 0), (Value.bool Bool.false), (Value.slice (Option.some (Addr.mk b1 0 Option.none)) 0 0), (Value.int IntKind.i64 (0 : Int)), (Value.slice (Option.some (Addr.mk b0 0 Option.none)) 0 0), (Value.tuple (List.toArray [])), (Value.tuple (List.toArray [])), (Value.tuple (List.toArray [])), (Value.tuple (List.toArray [])), (Value.tuple (List.toArray [])), (Value.tuple (List.toArray [])), (Value.tuple (List.toArray [])), (Value.tuple (List.toArray [])), (Value.tuple (List.toArray [])), (Value.tuple (List.toArray [])), (Value.tuple (List.toArray [])), (Value.tuple (List.toArray [])), (Value.tuple (List.toArray [])), (Value.tuple (List.toArray [])), (Value.tuple (List.toArray [])), (Value.tuple (List.toArray [])), (Value.tuple (List.toArray [])), (Value.tuple (List.toArray [])), (Value.tuple (List.toArray [])), (Value.tuple (List.toArray [])), (Value.tuple (List.toArray [])), (Value.tuple (List.toArray [])), (Value.tuple (List.toArray [])), (Value.tuple (List.toArray [])), (Value.tuple (List.toArray [])), (Value.tuple (List.toArray [])), (Value.tuple (List.toArray []))] ∧
  [(Ch.row (Row.mk Bool.false wo 0 1 n 0 [(fun (i2 : Nat) => (SC.int (wg i2)))])), (Ch.cells b0 138 [])] = [(Ch.row (Row.mk Bool.false wo 0 1 n 0 [(fun (i3 : Nat) => (SC.int (wg i3)))])), (Ch.cells b1 138 [])]) ∧
  (∀ g4 : (Nat →
  Value),
  (∀ ao5 : (Option Addr),
  (∀ cap6 : Nat,
  (Exists (fun (g07 : (Nat →
  Int)) => (Exists (fun (g18 : (Nat →
  Int)) => ((ao5 = ao5 ∧
  ((min5 n) = (min5 n) ∧
  [(fun (i9 : Nat) => (SC.int (wg i9))), (fun (i10 : Nat) => (SC.int (wg i10)))] = [(fun (i11 : Nat) => (SC.int (g07 i11))), (fun (i12 : Nat) => (SC.int (g18 i12)))])) ∧
  ((lenC (min5 n)) ∧
  (((!(shB (min5 n) g07 g18)) = Bool.true →
  (∀ b13 : Nat,
   (Exists (fun (ro014 : (Option Addr)) => (Exists (fun (rc015 : Nat) => ((Value.tuple (List.toArray [(Value.slice (Option.some (Addr.mk b13 0 Option.none)) 0 0), (Value.bool Bool.false)])) = (Value.tuple (List.toArray [(Value.slice ro014 (ifN (shB n wg wg) n) rc015), (Value.bool (shB n wg wg))])) ∧
   (((Bool.true = Bool.true ∧
   ((Option.some (Addr.mk b13 0 Option.none)) = ro014 ∧
   (138 = 138 ∧
   (Bool.true = Bool.true ∧
   (0 = (ifN (shB n wg wg) n) ∧
   (0 = rc015 ∧
   Bool.true = Bool.true)))))) ∧
   True) ∧
   Bool.true = Bool.true)))))))) ∧
  ((!(shB (min5 n) g07 g18)) = Bool.false →
  (Exists (fun (ro016 : (Option Addr)) => (Exists (fun (rc017 : Nat) => ((Value.tuple (List.toArray [(Value.slice ao5 (min5 n) cap6), (Value.bool Bool.true)])) = (Value.tuple (List.toArray [(Value.slice ro016 (ifN (shB n wg wg) n) rc017), (Value.bool (shB n wg wg))])) ∧
   (((Bool.true = Bool.true ∧
   (ao5 = ro016 ∧
   (138 = 138 ∧
   (2 = 2 ∧
   ((min5 n) = (ifN (shB n wg wg) n) ∧
   (cap6 = rc017 ∧
   ((∀ i18 : Nat,
   (i18 < (min5 n) →
   (Value.int IntKind.i64 (wg i18)) = (Value.int IntKind.i64 (wg i18)))) ∧
   ((∀ i19 : Nat,
   (i19 < (min5 n) →
   (Value.int IntKind.i64 (wg i19)) = (Value.int IntKind.i64 (wg i19)))) ∧
   True)))))))) ∧
   True) ∧
   Bool.true = Bool.true)))))))))))))))))))))) := by kernel_rfl
theorem shNewS_any (wo : Option Addr) (n wc : Nat) (wg : Nat → Int) (w : World) (h : Row.sat w ⟨false, wo, 0, 1, n, 0, [fun i => .int (wg i)]⟩) (hpre : capC n) : Calls Try.prog 72 #[.slice wo n wc] w fun e w' => ∃ (ro0 : Option Addr) (rc0 : Nat), e = .returned (.tuple #[.slice ro0 (ifN (shB n wg wg) n) rc0, .bool (shB n wg wg)]) ∧ HS ⟨w, fun _ => False⟩ [.row ⟨true, ro0, 138, 2, ifN (shB n wg wg) n, rc0, [fun i => .int (wg i), fun i => .int (wg i)]⟩] w' := by
  refine fn_ok mixed (E := { tb := [(97, sShOk)], L := [(3, sshNewS wo n wc wg)] }) ⟨sShOk_S, trivial⟩ Try.func72 (one_loop (by kernel_rfl) (by kernel_rfl) (shNewS_ok wo n wc wg hpre _)) ((shNewS_T wo n wc wg).mpr ?_) (HS.rows (fun _ => False) [⟨false, wo, 0, 1, n, 0, [fun i => .int (wg i)]⟩] (by simpa using h)) (fun v ch' w' ⟨ro, rc, hk⟩ hs => ⟨ro, rc, by rw [hk.1], hk.hs hs⟩)
  clear h
  have hm5 := min5_ok n
  cases hs : shB n wg wg
  · have hn0 : ifN (shB n wg wg) n = 0 := by simp [hs, ifN]
    repeat' (first
      | with_reducible exact rfl
      | exact True.intro
      | with_reducible assumption
      | refine And.intro ?_ ?_
      | apply Exists.intro
      | (intro h; exfalso; simp [hs, shB_min] at h; done)
      | (intro h; exfalso; simp [hs, shB_min] at h; omega)
      | intro _
      | omega
      | (simp; omega))
    all_goals (try simp_all [ifN, shB_min])
  · have hf := shB_facts hs
    have hm : min5 n = n := (min5_ok n).2.2.1 (by omega)
    repeat' (first
      | with_reducible exact rfl
      | exact True.intro
      | with_reducible assumption
      | refine And.intro ?_ ?_
      | apply Exists.intro
      | (intro h; exfalso; simp [hs, shB_min] at h; done)
      | (intro h; exfalso; simp [hs, shB_min] at h; omega)
      | intro _
      | omega
      | (simp; omega))
    all_goals (try simp_all [ifN, shB_min])
def sShNew : Sm := fun args ch kk =>
  match args with
  | [.a (.c (.sl i0 a0 n0 d0))] =>
    match ch[i0]? with
    | some (.row r0) => ∃ wg0 : Nat → Int, (a0 = r0.ao ∧ n0 = r0.n ∧ r0.fld = [fun i => .int (wg0 i)] ∧ capC n0) ∧ ∀ (ro0 : Option Addr) (rc0 : Nat), kk (.tup [.c (.sl (ch.length) ro0 (ifN (shB n0 wg0 wg0) n0) rc0), .c (.bool (shB n0 wg0 wg0))]) (ch ++ [.row ⟨true, ro0, 138, 2, ifN (shB n0 wg0 wg0) n0, rc0, [fun i => .int (wg0 i), fun i => .int (wg0 i)]⟩]) []
    | _ => False
  | _ => False
theorem sShNew_ok {f : FuncId} (hc : ∀ args w, (callFunc f args).run Try.prog w = .ok (.enter f args) w) (h : ∀ (wO : Option Addr) (wN wC : Nat) (wg0 : Nat → Int) (w : World), Row.sat w ⟨false, wO, 0, 1, wN, 0, [fun i => .int (wg0 i)]⟩ → capC wN → Calls Try.prog f #[.slice wO wN wC] w fun e w' => ∃ (ro0 : Option Addr) (rc0 : Nat), e = .returned (.tuple #[.slice ro0 (ifN (shB wN wg0 wg0) wN) rc0, .bool (shB wN wg0 wg0)]) ∧ HS ⟨w, fun _ => False⟩ [.row ⟨true, ro0, 138, 2, ifN (shB wN wg0 wg0) wN, rc0, [fun i => .int (wg0 i), fun i => .int (wg0 i)]⟩] w') : SmOK Try.prog f sShNew := by
  refine smN hc fun args ch kk w X h0 hs => ?_
  unfold sShNew at h0
  split at h0
  · rename_i i0 a0 n0 d0
    split at h0
    · rename_i r0 hr0
      obtain ⟨wg0, ⟨rfl, rfl, hf0, hpre⟩, h0⟩ := h0
      refine Calls.mono (?_ : Calls Try.prog f _ w (fun e w' => ∃ (ro0 : Option Addr) (rc0 : Nat), e = .returned (.tuple #[.slice ro0 (ifN (shB r0.n wg0 wg0) r0.n) rc0, .bool (shB r0.n wg0 wg0)]) ∧ HS ⟨w, fun _ => False⟩ [.row ⟨true, ro0, 138, 2, ifN (shB r0.n wg0 wg0) r0.n, rc0, [fun i => .int (wg0 i), fun i => .int (wg0 i)]⟩] w')) (fun e w' ⟨ro0, rc0, he, hs'⟩ => ⟨_, _, ?_, hs', rfl, h0 ro0 rc0⟩)
      · simp only [List.map_cons, List.map_nil, den_a, den_c, SA.den, den_sl]
        exact h r0.ao r0.n d0 wg0 w (Row.seenAs (hs.sat i0 _ hr0) hf0 rfl) hpre
      · rw [he]
        rfl
    · exact h0.elim
  · exact h0.elim
theorem sShNew_I : SmOK Try.prog 77 sShNew := sShNew_ok Try.call77 (fun wO wN wC wg0 w h0 hp => shNewI_any wO wN wC wg0 w h0 hp)
theorem sShNew_S : SmOK Try.prog 72 sShNew := sShNew_ok Try.call72 (fun wO wN wC wg0 w h0 hp => shNewS_any wO wN wC wg0 w h0 hp)
def drainB (lo hi : Int) : Bool := decide (0 ≤ lo) && decide (lo < hi) && decide (hi ≤ 12)
def ruleB (d s : Int) : Bool := btw d 1 10000 && decide (s > d) && decide (s ≤ 20000)
theorem drainOkI_T (dOn : Bool) (dLow dHigh : Int) : (exFn Try.prog {tb := []} 400 Try.f78 ([.a (.agg [.bool dOn, .int dLow, .int dHigh])]) ([]) (fun v _ => v.den = .bool (drainB dLow dHigh))) = (
  (∀ b0 : Nat,
  (b0 = b0 ∧
  (((decide (dLow ≥ (0 : Int))) = Bool.true →
  (b0 = b0 ∧
   (b0 = b0 ∧
   (((decide (dLow < dHigh)) = Bool.true →
   (b0 = b0 ∧
    (Value.bool (decide (dHigh ≤ (12 : Int)))) = (Value.bool (drainB dLow dHigh)))) ∧
   ((decide (dLow < dHigh)) = Bool.false →
   (Value.bool Bool.false) = (Value.bool (drainB dLow dHigh))))))) ∧
  ((decide (dLow ≥ (0 : Int))) = Bool.false →
  (Value.bool Bool.false) = (Value.bool (drainB dLow dHigh))))))) := by kernel_rfl
theorem drainOkI_any (dOn : Bool) (dLow dHigh : Int) (w : World) : Calls Try.prog 78 #[.agg #[.bool dOn, .int .i64 dLow, .int .i64 dHigh]] w fun e w' => e = .returned (.bool (drainB dLow dHigh)) ∧ Below w.heap.size w w' := by
  refine fnB (tb := []) trivial Try.func78 ((drainOkI_T dOn dLow dHigh).mpr ?_) (HS.start w (fun _ => False)) (fun v ch' w' hk hs => ⟨by rw [hk], hs.below⟩)
  repeat' (first | with_reducible exact rfl | exact True.intro | refine And.intro ?_ ?_ | intro _)
  all_goals (simp_all [drainB, ruleB]; try omega)
theorem drainOkS_T (dOn : Bool) (dLow dHigh : Int) : (exFn Try.prog {tb := []} 400 Try.f73 ([.a (.agg [.bool dOn, .int dLow, .int dHigh])]) ([]) (fun v _ => v.den = .bool (drainB dLow dHigh))) = (
  (∀ b0 : Nat,
  (b0 = b0 ∧
  (((decide (dLow ≥ (0 : Int))) = Bool.true →
  (b0 = b0 ∧
   (((decide (dHigh ≤ (12 : Int))) = Bool.true →
   (b0 = b0 ∧
    (b0 = b0 ∧
    (Value.bool (decide (dLow < dHigh))) = (Value.bool (drainB dLow dHigh))))) ∧
   ((decide (dHigh ≤ (12 : Int))) = Bool.false →
   (Value.bool Bool.false) = (Value.bool (drainB dLow dHigh)))))) ∧
  ((decide (dLow ≥ (0 : Int))) = Bool.false →
  (Value.bool Bool.false) = (Value.bool (drainB dLow dHigh))))))) := by kernel_rfl
theorem drainOkS_any (dOn : Bool) (dLow dHigh : Int) (w : World) : Calls Try.prog 73 #[.agg #[.bool dOn, .int .i64 dLow, .int .i64 dHigh]] w fun e w' => e = .returned (.bool (drainB dLow dHigh)) ∧ Below w.heap.size w w' := by
  refine fnB (tb := []) trivial Try.func73 ((drainOkS_T dOn dLow dHigh).mpr ?_) (HS.start w (fun _ => False)) (fun v ch' w' hk hs => ⟨by rw [hk], hs.below⟩)
  repeat' (first | with_reducible exact rfl | exact True.intro | refine And.intro ?_ ?_ | intro _)
  all_goals (simp_all [drainB, ruleB]; try omega)
def sDrainOk : Sm := fun args ch k =>
  match args with
  | [.a (.agg [c0, c1, c2])] =>
    match ints [c1, c2], bools [c0] with
    | some [dLow, dHigh], some [dOn] => k (.a (.c (.bool (drainB dLow dHigh)))) ch []
    | _, _ => False
  | _ => False
theorem sDrainOk_ok {f : FuncId} (hc : ∀ args w, (callFunc f args).run Try.prog w = .ok (.enter f args) w) (h : ∀ (dOn : Bool) (dLow dHigh : Int) (w : World), Calls Try.prog f #[.agg #[.bool dOn, .int .i64 dLow, .int .i64 dHigh]] w fun e w' => e = .returned (.bool (drainB dLow dHigh)) ∧ Below w.heap.size w w') : SmOK Try.prog f sDrainOk := by
  refine smB hc fun args ch k w X h0 hs => ?_
  unfold sDrainOk at h0
  split at h0
  · split at h0
    · rename_i dLow dHigh dOn hi hb
      obtain ⟨e1, hi1⟩ := ints_cons hi
      obtain ⟨e2, hi2⟩ := ints_cons hi1
      obtain ⟨e0, hb1⟩ := bools_cons hb
      refine ⟨_, h0, ?_⟩
      simp only [List.map_cons, List.map_nil, den_a, den_c, SA.den, e0, e1, e2]
      exact h dOn dLow dHigh w
    · exact h0.elim
  · exact h0.elim
theorem sDrainOk_I : SmOK Try.prog 78 sDrainOk := sDrainOk_ok Try.call78 drainOkI_any
theorem sDrainOk_S : SmOK Try.prog 73 sDrainOk := sDrainOk_ok Try.call73 drainOkS_any
theorem ruleOkI_T (pDown pSleep : Int) : (exFn Try.prog {tb := [(60, sBtw)]} 400 Try.f79 ([.a (.agg [.int pDown, .int pSleep])]) ([]) (fun v _ => v.den = .bool (ruleB pDown pSleep))) = (
  (∀ b0 : Nat,
  (b0 = b0 ∧
  (((btw pDown (1 : Int) (10000 : Int)) = Bool.true →
  (b0 = b0 ∧
   (b0 = b0 ∧
   (((decide (pSleep > pDown)) = Bool.true →
   (b0 = b0 ∧
    (Value.bool (decide (pSleep ≤ (20000 : Int)))) = (Value.bool (ruleB pDown pSleep)))) ∧
   ((decide (pSleep > pDown)) = Bool.false →
   (Value.bool Bool.false) = (Value.bool (ruleB pDown pSleep))))))) ∧
  ((btw pDown (1 : Int) (10000 : Int)) = Bool.false →
  (Value.bool Bool.false) = (Value.bool (ruleB pDown pSleep))))))) := by kernel_rfl
theorem ruleOkI_any (pDown pSleep : Int) (w : World) : Calls Try.prog 79 #[.agg #[.int .i64 pDown, .int .i64 pSleep]] w fun e w' => e = .returned (.bool (ruleB pDown pSleep)) ∧ Below w.heap.size w w' := by
  refine fnB (tb := [(60, sBtw)]) ⟨sBtwI_ok, trivial⟩ Try.func79 ((ruleOkI_T pDown pSleep).mpr ?_) (HS.start w (fun _ => False)) (fun v ch' w' hk hs => ⟨by rw [hk], hs.below⟩)
  repeat' (first | with_reducible exact rfl | exact True.intro | refine And.intro ?_ ?_ | intro _)
  all_goals (simp_all [drainB, ruleB]; try omega)
theorem ruleOkS_T (pDown pSleep : Int) : (exFn Try.prog {tb := [(59, sBtw)]} 400 Try.f74 ([.a (.agg [.int pDown, .int pSleep])]) ([]) (fun v _ => v.den = .bool (ruleB pDown pSleep))) = (
  (∀ b0 : Nat,
  (b0 = b0 ∧
  (((btw pDown (1 : Int) (10000 : Int)) = Bool.true →
  (b0 = b0 ∧
   (b0 = b0 ∧
   (((decide (pSleep > pDown)) = Bool.true →
   (b0 = b0 ∧
    (Value.bool (decide (pSleep ≤ (20000 : Int)))) = (Value.bool (ruleB pDown pSleep)))) ∧
   ((decide (pSleep > pDown)) = Bool.false →
   (Value.bool Bool.false) = (Value.bool (ruleB pDown pSleep))))))) ∧
  ((btw pDown (1 : Int) (10000 : Int)) = Bool.false →
  (Value.bool Bool.false) = (Value.bool (ruleB pDown pSleep))))))) := by kernel_rfl
theorem ruleOkS_any (pDown pSleep : Int) (w : World) : Calls Try.prog 74 #[.agg #[.int .i64 pDown, .int .i64 pSleep]] w fun e w' => e = .returned (.bool (ruleB pDown pSleep)) ∧ Below w.heap.size w w' := by
  refine fnB (tb := [(59, sBtw)]) ⟨sBtwS_ok, trivial⟩ Try.func74 ((ruleOkS_T pDown pSleep).mpr ?_) (HS.start w (fun _ => False)) (fun v ch' w' hk hs => ⟨by rw [hk], hs.below⟩)
  repeat' (first | with_reducible exact rfl | exact True.intro | refine And.intro ?_ ?_ | intro _)
  all_goals (simp_all [drainB, ruleB]; try omega)
def sRuleOk : Sm := fun args ch k =>
  match args with
  | [.a (.agg [c0, c1])] =>
    match ints [c0, c1], bools [] with
    | some [pDown, pSleep], some [] => k (.a (.c (.bool (ruleB pDown pSleep)))) ch []
    | _, _ => False
  | _ => False
theorem sRuleOk_ok {f : FuncId} (hc : ∀ args w, (callFunc f args).run Try.prog w = .ok (.enter f args) w) (h : ∀ (pDown pSleep : Int) (w : World), Calls Try.prog f #[.agg #[.int .i64 pDown, .int .i64 pSleep]] w fun e w' => e = .returned (.bool (ruleB pDown pSleep)) ∧ Below w.heap.size w w') : SmOK Try.prog f sRuleOk := by
  refine smB hc fun args ch k w X h0 hs => ?_
  unfold sRuleOk at h0
  split at h0
  · split at h0
    · rename_i pDown pSleep hi hb
      obtain ⟨e0, hi1⟩ := ints_cons hi
      obtain ⟨e1, hi2⟩ := ints_cons hi1
      refine ⟨_, h0, ?_⟩
      simp only [List.map_cons, List.map_nil, den_a, den_c, SA.den, e0, e1]
      exact h pDown pSleep w
    · exact h0.elim
  · exact h0.elim
theorem sRuleOk_I : SmOK Try.prog 79 sRuleOk := sRuleOk_ok Try.call79 ruleOkI_any
theorem sRuleOk_S : SmOK Try.prog 74 sRuleOk := sRuleOk_ok Try.call74 ruleOkS_any
end Go.Proofs.Ytlkklplnomecgaa
