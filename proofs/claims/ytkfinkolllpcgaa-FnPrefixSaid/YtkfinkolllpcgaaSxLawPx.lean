/-
  FnPrefix.
-/
import Derived.Test.YtkfinkolllpcgaaSxSame
import Derived.Test.YtkfinkolllpcgaaSxRun3
import Derived.Test.YtkfinkolllpcgaaSxDr8
import Derived.Test.YtkfinkolllpcgaaSxCode
namespace Go.Proofs.Ytkfinkolllpcgaa
set_option linter.unusedVariables false
set_option linter.unusedSimpArgs false
open Go.RowKit
set_option maxRecDepth 100000
set_option maxHeartbeats 8000000

def sBig : Sm := inlM Try.prog {tb := []} 300 Try.f20
theorem sBig_ok : SmOK Try.prog 20 sBig := inlM_ok mixed (E := {tb := []}) trivial Try.func20 Try.call20 (fun _ _ _ => loopsOK_nil _ _ _)
theorem law_FnPrefix_T (co : Option Addr) (cn cc : Nat) (cu : Nat → Int) : (exFn Try.prog {tb := [(20, sBig), (44, sDrawL), (33, sRun), (40, sRun), (25, sSameC), (31, sDrawN), (45, sFrame)]} 400 Try.f10 ([.a (.c (.sl 0 co cn cc))]) ([.row ⟨false, co, 0, 1, cn, 0, [fun i => .u8 (cu i)]⟩]) (fun v _ => v.den = .bool true)) = (
  (((decide (((cn : Nat) : Int) > (1048576 : Int))) = Bool.true →
  (Value.bool Bool.true) = (Value.bool Bool.true)) ∧
  ((decide (((cn : Nat) : Int) > (1048576 : Int))) = Bool.false →
  (Exists (fun (u0 : (Nat →
   Int)) => (((co = co ∧
   (cn = cn ∧
   [(fun (i1 : Nat) => (SC.u8 (cu i1)))] = [(fun (i2 : Nat) => (SC.u8 (u0 i2)))])) ∧
   (codeC cn u0)) ∧
   (∀ zn3 : Nat,
   (∀ f04 : (Nat →
   Int),
   (∀ f15 : (Nat →
   Int),
   (∀ f26 : (Nat →
   Int),
   (∀ f37 : (Nat →
   Int),
   (∀ zm8 : Nat,
   (∀ q09 : (Nat →
   Int),
   (∀ ro010 : (Option Addr),
   (∀ rc011 : Nat,
   (∀ ro112 : (Option Addr),
   (∀ rc113 : Nat,
   (((leN zn3 41) ∧
   (leN zm8 30)) →
   (Exists (fun (g014 : (Nat →
    Int)) => (Exists (fun (g115 : (Nat →
    Int)) => (Exists (fun (g216 : (Nat →
    Int)) => (Exists (fun (g317 : (Nat →
    Int)) => ((ro010 = ro010 ∧
    (zn3 = zn3 ∧
    [(fun (i18 : Nat) => (SC.int (f04 i18))), (fun (i19 : Nat) => (SC.int (f15 i19))), (fun (i20 : Nat) => (SC.int (f26 i20))), (fun (i21 : Nat) => (SC.int (f37 i21)))] = [(fun (i22 : Nat) => (SC.int (g014 i22))), (fun (i23 : Nat) => (SC.int (g115 i23))), (fun (i24 : Nat) => (SC.int (g216 i24))), (fun (i25 : Nat) => (SC.int (g317 i25)))])) ∧
    (Exists (fun (g026 : (Nat →
    Int)) => ((ro112 = ro112 ∧
    (zm8 = zm8 ∧
    [(fun (i27 : Nat) => (SC.int (q09 i27)))] = [(fun (i28 : Nat) => (SC.int (g026 i28)))])) ∧
    (((lenC zn3) ∧
    (lenC zm8)) ∧
    (∀ ro029 : (Option Addr),
    (∀ rc030 : Nat,
    (∀ b31 : Nat,
    (b31 = b31 ∧
    (Exists (fun (g032 : (Nat →
    Int)) => (Exists (fun (g133 : (Nat →
    Int)) => (Exists (fun (g234 : (Nat →
    Int)) => (Exists (fun (g335 : (Nat →
    Int)) => ((ro010 = ro010 ∧
    (zn3 = zn3 ∧
    [(fun (i36 : Nat) => (SC.int (f04 i36))), (fun (i37 : Nat) => (SC.int (f15 i37))), (fun (i38 : Nat) => (SC.int (f26 i38))), (fun (i39 : Nat) => (SC.int (f37 i39)))] = [(fun (i40 : Nat) => (SC.int (g032 i40))), (fun (i41 : Nat) => (SC.int (g133 i41))), (fun (i42 : Nat) => (SC.int (g234 i42))), (fun (i43 : Nat) => (SC.int (g335 i43)))])) ∧
    (Exists (fun (g044 : (Nat →
    Int)) => ((ro112 = ro112 ∧
    (zm8 = zm8 ∧
    [(fun (i45 : Nat) => (SC.int (q09 i45)))] = [(fun (i46 : Nat) => (SC.int (g044 i46)))])) ∧
    (((lenC zn3) ∧
    (lenC zm8)) ∧
    (∀ ro047 : (Option Addr),
    (∀ rc048 : Nat,
    (∀ b49 : Nat,
    (b49 = b49 ∧
    ((((runB zn3 g014 g115 g216 g317 zm8 g026) != (runB zn3 g032 g133 g234 g335 zm8 g044)) = Bool.false →
    ((((runW zn3 g014 g115 g216 g317 zm8 g026) != (runW zn3 g032 g133 g234 g335 zm8 g044)) = Bool.false →
     (b31 = b31 ∧
      (b49 = b49 ∧
      (Exists (fun (g050 : (Nat →
      Int)) => (Exists (fun (g151 : (Nat →
      Int)) => (Exists (fun (g252 : (Nat →
      Int)) => (Exists (fun (g353 : (Nat →
      Int)) => ((ro029 = ro029 ∧
      (((runS zn3 g014 g115 g216 g317 zm8 g026)).3 = ((runS zn3 g014 g115 g216 g317 zm8 g026)).3 ∧
      [(fun (i54 : Nat) => (SC.int (((runS zn3 g014 g115 g216 g317 zm8 g026)).4 i54))), (fun (i55 : Nat) => (SC.int (((runS zn3 g014 g115 g216 g317 zm8 g026)).5 i55))), (fun (i56 : Nat) => (SC.int (((runS zn3 g014 g115 g216 g317 zm8 g026)).6 i56))), (fun (i57 : Nat) => (SC.int (((runS zn3 g014 g115 g216 g317 zm8 g026)).7 i57)))] = [(fun (i58 : Nat) => (SC.int (g050 i58))), (fun (i59 : Nat) => (SC.int (g151 i59))), (fun (i60 : Nat) => (SC.int (g252 i60))), (fun (i61 : Nat) => (SC.int (g353 i61)))])) ∧
      (Exists (fun (g062 : (Nat →
      Int)) => (Exists (fun (g163 : (Nat →
      Int)) => (Exists (fun (g264 : (Nat →
      Int)) => (Exists (fun (g365 : (Nat →
      Int)) => ((ro047 = ro047 ∧
      (((runS zn3 g032 g133 g234 g335 zm8 g044)).3 = ((runS zn3 g032 g133 g234 g335 zm8 g044)).3 ∧
      [(fun (i66 : Nat) => (SC.int (((runS zn3 g032 g133 g234 g335 zm8 g044)).4 i66))), (fun (i67 : Nat) => (SC.int (((runS zn3 g032 g133 g234 g335 zm8 g044)).5 i67))), (fun (i68 : Nat) => (SC.int (((runS zn3 g032 g133 g234 g335 zm8 g044)).6 i68))), (fun (i69 : Nat) => (SC.int (((runS zn3 g032 g133 g234 g335 zm8 g044)).7 i69)))] = [(fun (i70 : Nat) => (SC.int (g062 i70))), (fun (i71 : Nat) => (SC.int (g163 i71))), (fun (i72 : Nat) => (SC.int (g264 i72))), (fun (i73 : Nat) => (SC.int (g365 i73)))])) ∧
      ((lenC ((runS zn3 g014 g115 g216 g317 zm8 g026)).3) ∧
      (((!(sameB ((runS zn3 g014 g115 g216 g317 zm8 g026)).3 g050 g151 g252 g353 ((runS zn3 g032 g133 g234 g335 zm8 g044)).3 g062 g163 g264 g365)) = Bool.true →
      (Value.bool Bool.false) = (Value.bool Bool.true)) ∧
      ((!(sameB ((runS zn3 g014 g115 g216 g317 zm8 g026)).3 g050 g151 g252 g353 ((runS zn3 g032 g133 g234 g335 zm8 g044)).3 g062 g163 g264 g365)) = Bool.false →
      (b31 = b31 ∧
       (b31 = b31 ∧
       (((((runS zn3 g014 g115 g216 g317 zm8 g026)).2 == ((((runS zn3 g014 g115 g216 g317 zm8 g026)).3 : Nat) : Int)) = Bool.true →
       (((!(runB zn3 g014 g115 g216 g317 zm8 g026)) = Bool.false →
        (b31 = b31 ∧
         (((((runS zn3 g014 g115 g216 g317 zm8 g026)).2 == ((zn3 : Nat) : Int)) = Bool.true →
         (Exists (fun (u74 : (Nat →
          Int)) => (((co = co ∧
          (cn = cn ∧
          [(fun (i75 : Nat) => (SC.u8 (cu i75)))] = [(fun (i76 : Nat) => (SC.u8 (u74 i76)))])) ∧
          (codeC cn u74)) ∧
          (∀ zn77 : Nat,
          (∀ zf78 : (Nat →
          Int),
          (∀ ro079 : (Option Addr),
          (∀ rc080 : Nat,
          (((nzC zn77 zf78) ∧
          (leN zn77 30)) →
          (((decide (((zn77 : Nat) : Int) ≤ (30 : Int))) = Bool.true →
           (Value.bool (decide ((frameV (7 : Int) (0 : Int) (0 : Int) (0 : Int)) > (0 : Int)))) = (Value.bool Bool.true)) ∧
           ((decide (((zn77 : Nat) : Int) ≤ (30 : Int))) = Bool.false →
           (Value.bool Bool.false) = (Value.bool Bool.true)))))))))))) ∧
         ((((runS zn3 g014 g115 g216 g317 zm8 g026)).2 == ((zn3 : Nat) : Int)) = Bool.false →
         (Value.bool Bool.false) = (Value.bool Bool.true))))) ∧
        ((!(runB zn3 g014 g115 g216 g317 zm8 g026)) = Bool.true →
        (Exists (fun (u81 : (Nat →
         Int)) => (((co = co ∧
         (cn = cn ∧
         [(fun (i82 : Nat) => (SC.u8 (cu i82)))] = [(fun (i83 : Nat) => (SC.u8 (u81 i83)))])) ∧
         (codeC cn u81)) ∧
         (∀ zn84 : Nat,
         (∀ zf85 : (Nat →
         Int),
         (∀ ro086 : (Option Addr),
         (∀ rc087 : Nat,
         (((nzC zn84 zf85) ∧
         (leN zn84 30)) →
         (((decide (((zn84 : Nat) : Int) ≤ (30 : Int))) = Bool.true →
          (Value.bool (decide ((frameV (7 : Int) (0 : Int) (0 : Int) (0 : Int)) > (0 : Int)))) = (Value.bool Bool.true)) ∧
          ((decide (((zn84 : Nat) : Int) ≤ (30 : Int))) = Bool.false →
          (Value.bool Bool.false) = (Value.bool Bool.true)))))))))))))) ∧
       ((((runS zn3 g014 g115 g216 g317 zm8 g026)).2 == ((((runS zn3 g014 g115 g216 g317 zm8 g026)).3 : Nat) : Int)) = Bool.false →
       (Value.bool Bool.false) = (Value.bool Bool.true))))))))))))))))))))))))))))) ∧
     (((runW zn3 g014 g115 g216 g317 zm8 g026) != (runW zn3 g032 g133 g234 g335 zm8 g044)) = Bool.true →
     (Value.bool Bool.false) = (Value.bool Bool.true)))) ∧
    (((runB zn3 g014 g115 g216 g317 zm8 g026) != (runB zn3 g032 g133 g234 g335 zm8 g044)) = Bool.true →
    (Value.bool Bool.false) = (Value.bool Bool.true))))))))))))))))))))))))))))))))))))))))))))))))))))))) := by kernel_rfl
theorem law_FnPrefix_any (co : Option Addr) (cn cc : Nat) (cu : Nat → Int) (W : World) (hr : Row.sat W ⟨false, co, 0, 1, cn, 0, [fun i => .u8 (cu i)]⟩) (hu : ∀ i, 0 ≤ cu i ∧ cu i ≤ 255) : Calls Try.prog 10 #[.slice co cn cc] W fun e W' => e = .returned (.bool true) ∧ Below W.heap.size W W' := by
  refine fn_ok mixed (E := {tb := [(20, sBig), (44, sDrawL), (33, sRun), (40, sRun), (25, sSameC), (31, sDrawN), (45, sFrame)]}) ⟨sBig_ok, sDrawL_ok, sRun_I, sRun_S, sSameC_ok, sDrawN_ok, sFrame_ok_frameI, trivial⟩ Try.func10 (fun _ _ => loopsOK_nil _ _ _) (@Eq.mpr _ _ (law_FnPrefix_T co cn cc cu) ?_) (HS.rows (fun _ => False) [⟨false, co, 0, 1, cn, 0, [fun i => .u8 (cu i)]⟩] (by simpa using hr)) (fun v ch' w' hk hs => ⟨by rw [hk], hs.below⟩)
  clear hr
  by_cases hle : cn ≤ 1048576
  · have hcode : codeC cn cu := ⟨hle, hu⟩
    have f7 := (frame_facts (show formB 7 0 0 0 = true by decide)).2
    refine ⟨fun h => by exfalso; replace h := of_decide_eq_true h; omega, fun h => ?_⟩
    clear h
    refine ⟨cu, ⟨⟨rfl, rfl, rfl⟩, hcode⟩, ?_⟩
    rintro zn f0 f1 f2 f3 zm q0 ro0 rc0 ro1 rc1 ⟨hn, hm⟩
    have hn' : zn ≤ 41 := hn
    have hm' : zm ≤ 30 := hm
    have hs := runS_in zn f0 f1 f2 f3 zm q0
    have hb : runB zn f0 f1 f2 f3 zm q0 = (runOk zn f0 f1 f2 f3 zm q0 && ((runS zn f0 f1 f2 f3 zm q0).cnt == (zn : Int))) := rfl
    have hself : ∀ (n : Nat) (a b c d : Nat → Int), sameB n a b c d n a b c d = true := fun n a b c d => same_yes fun i _ => ⟨rfl, rfl, rfl, rfl⟩
    have hc : ((runS zn f0 f1 f2 f3 zm q0).cnt == ((runS zn f0 f1 f2 f3 zm q0).rn : Int)) = true := by rw [hs.1]; simp
    have hrn : (runS zn f0 f1 f2 f3 zm q0).rn ≤ 300 := hs.2
    have hB : (!(runB zn f0 f1 f2 f3 zm q0)) = false → ((runS zn f0 f1 f2 f3 zm q0).cnt == (zn : Int)) = true := fun h => by
      have hbt : runB zn f0 f1 f2 f3 zm q0 = true := by simpa using h
      rw [hb] at hbt
      exact (Bool.and_eq_true_iff.1 hbt).2
    have f7a : decide (frameV 7 0 0 0 > 0) = true := decide_eq_true (by omega)
    repeat' (first
      | with_reducible exact rfl
      | exact True.intro
      | with_reducible assumption
      | exact congrArg Value.bool f7a
      | refine And.intro ?_ ?_
      | apply Exists.intro
      | (intro h; exfalso; rw [hc] at h; cases h; done)
      | (intro h; exfalso; rw [hB (by with_reducible assumption)] at h; cases h; done)
      | (intro h; exfalso; simp at h; done)
      | (intro h; exfalso; simp [hself] at h; done)
      | (intro h; exfalso; simp [hs.1] at h; done)
      | (intro h; exfalso; simp at h; omega)
      | (intro h; replace h := of_decide_eq_true h; first | (exfalso; omega) | skip)
      | (intro h; replace h := of_decide_eq_false h; first | (exfalso; omega) | skip)
      | (intro (h : _ ∧ _); obtain ⟨_, _⟩ := h)
      | intro _
      | omega
      | (show _ ≤ _; omega))
    all_goals trace_state
  · refine ⟨fun _ => rfl, fun h => ?_⟩
    replace h := of_decide_eq_false h
    exfalso
    omega
theorem walk_FnPrefix (ao : Option Addr) (len cap : Nat) (w : World) (h : Has w (.slice .u8) [.slice ao len cap]) : Calls Try.prog 10 #[.slice ao len cap] w fun e w' => e = .returned (.bool true) ∧ Below w.heap.size w w' := by
  obtain ⟨u, hu, hr⟩ := row_u8_of_has h
  exact law_FnPrefix_any ao len cap u w hr hu
end Go.Proofs.Ytkfinkolllpcgaa
