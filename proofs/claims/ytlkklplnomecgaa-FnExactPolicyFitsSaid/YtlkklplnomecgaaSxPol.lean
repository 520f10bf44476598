/-
  Policies: copied, compared, marked, held, walked in place.
-/
import Derived.Test.YtlkklplnomecgaaSxSl
namespace Go.Proofs.Ytlkklplnomecgaa
set_option linter.unusedVariables false
set_option linter.unusedSimpArgs false
open Go.RowKit
set_option maxRecDepth 100000

/-- A literal slice, as a row. -/
theorem HS.asRow {X : Cx} {w : World} {b : Nat} {t : TypeId} {cs : List SC} (h : HS X [.cells b t cs] w) (n : Nat) (f : Nat → SC) (hn : cs.length = n) (hm : n ≤ 1048576) (hf : ∀ i, i < n → (cs.getD i .nil).den = (f i).den) :
    HS X [.row ⟨true, some ⟨b, 0, none⟩, t, 1, n, n, [f]⟩] w := by
  have hb : w.heap[b]? = some (.cells (cs.map SC.den).toArray t (0, 0)) := h.sat 0 _ rfl
  refine ⟨h.fr, fun i c hc => ?_, fun i j ci cj b hij hi hj _ _ _ => ?_, fun i c g hc ho ha => ?_⟩
  · cases i with
    | zero =>
      simp at hc
      subst hc
      refine ⟨rfl, fun ho => (by cases ho), fun _ => .inr ⟨b, _, rfl, hb, Nat.le_refl _, by simp only [maxLen]; omega, by simp [hn], fun i hi c g hg => ?_⟩⟩
      cases c with
      | zero =>
        simp at hg
        subst hg
        have hi' : i < cs.length := by rw [hn]; exact hi
        have := hf i hi
        simp only [List.getD_eq_getElem?_getD, List.getElem?_eq_getElem hi', Option.getD_some] at this
        simp [List.getElem?_eq_getElem hi', this]
      | succ c => simp at hg
    | succ i => simp at hc
  · cases i with
    | zero => cases j with | zero => exact absurd rfl hij | succ j => simp at hj
    | succ i => simp at hi
  · cases i with
    | zero =>
      simp at hc
      subst hc
      obtain ⟨_, off, ha⟩ := ha
      injection ha with ha
      injection ha with ha
      subst ha
      exact h.new 0 _ _ rfl rfl rfl
    | succ i => simp at hc

theorem defI_T  : (exFn Try.prog {} 400 Try.f35 ([]) ([]) (fun v ch => ∃ b, OutIs v ch (.agg #[.int .i64 0, .int .i64 60, .int .i64 8, .int .i64 2, .int .i64 6, .slice (some ⟨b, 0, none⟩) 4 4, .int .i64 20, .int .i64 400]) [.cells b 3 [.il 1, .il 1, .il 1, .il 1]])) = (
  (∀ b0 : Nat,
  (∀ b1 : Nat,
  (b0 = b0 ∧
  (b0 = b0 ∧
  (Exists (fun (b2 : Nat) => ((Value.agg (List.toArray [(Value.int IntKind.i64 (0 : Int)), (Value.int IntKind.i64 (60 : Int)), (Value.int IntKind.i64 (8 : Int)), (Value.int IntKind.i64 (2 : Int)), (Value.int IntKind.i64 (6 : Int)), (Value.slice (Option.some (Addr.mk b1 0 Option.none)) 4 4), (Value.int IntKind.i64 (20 : Int)), (Value.int IntKind.i64 (400 : Int))])) = (Value.agg (List.toArray [(Value.int IntKind.i64 (0 : Int)), (Value.int IntKind.i64 (60 : Int)), (Value.int IntKind.i64 (8 : Int)), (Value.int IntKind.i64 (2 : Int)), (Value.int IntKind.i64 (6 : Int)), (Value.slice (Option.some (Addr.mk b2 0 Option.none)) 4 4), (Value.int IntKind.i64 (20 : Int)), (Value.int IntKind.i64 (400 : Int))])) ∧
  ([(Ch.cells b1 3 [(SC.il (1 : Int)), (SC.il (1 : Int)), (SC.il (1 : Int)), (SC.il (1 : Int))])] = [(Ch.cells b2 3 [(SC.il (1 : Int)), (SC.il (1 : Int)), (SC.il (1 : Int)), (SC.il (1 : Int))])] ∧
  Bool.true = Bool.true))))))))) := by kernel_rfl
theorem defI_any (w : World) : Calls Try.prog 35 #[] w fun e w' => ∃ b, e = .returned (.agg #[.int .i64 0, .int .i64 60, .int .i64 8, .int .i64 2, .int .i64 6, .slice (some ⟨b, 0, none⟩) 4 4, .int .i64 20, .int .i64 400]) ∧ HS ⟨w, fun _ => False⟩ [.row ⟨true, some ⟨b, 0, none⟩, 3, 1, 4, 4, [fun _ => .int 1]⟩] w' := by
  refine fnB (tb := []) trivial Try.func35 (defI_T.mpr ?_) (HS.start w (fun _ => False)) (fun v ch' w' ⟨b, hk⟩ hs => ⟨b, by rw [hk.1], (hk.hs hs).asRow 4 _ rfl (by omega) fun i hi => ?_⟩)
  · repeat' (first | exact rfl | refine And.intro ?_ ?_ | intro _)
    exact ⟨_, rfl, rfl, rfl⟩
  · match i, hi with
    | 0, _ => rfl
    | 1, _ => rfl
    | 2, _ => rfl
    | 3, _ => rfl
theorem defS_T  : (exFn Try.prog {} 400 Try.f34 ([]) ([]) (fun v ch => ∃ b, OutIs v ch (.agg #[.int .i64 0, .int .i64 60, .int .i64 8, .int .i64 2, .int .i64 6, .slice (some ⟨b, 0, none⟩) 4 4, .int .i64 20, .int .i64 400]) [.cells b 3 [.il 1, .il 1, .il 1, .il 1]])) = (
  (∀ b0 : Nat,
  (∀ b1 : Nat,
  (b0 = b0 ∧
  (b0 = b0 ∧
  (Exists (fun (b2 : Nat) => ((Value.agg (List.toArray [(Value.int IntKind.i64 (0 : Int)), (Value.int IntKind.i64 (60 : Int)), (Value.int IntKind.i64 (8 : Int)), (Value.int IntKind.i64 (2 : Int)), (Value.int IntKind.i64 (6 : Int)), (Value.slice (Option.some (Addr.mk b1 0 Option.none)) 4 4), (Value.int IntKind.i64 (20 : Int)), (Value.int IntKind.i64 (400 : Int))])) = (Value.agg (List.toArray [(Value.int IntKind.i64 (0 : Int)), (Value.int IntKind.i64 (60 : Int)), (Value.int IntKind.i64 (8 : Int)), (Value.int IntKind.i64 (2 : Int)), (Value.int IntKind.i64 (6 : Int)), (Value.slice (Option.some (Addr.mk b2 0 Option.none)) 4 4), (Value.int IntKind.i64 (20 : Int)), (Value.int IntKind.i64 (400 : Int))])) ∧
  ([(Ch.cells b1 3 [(SC.il (1 : Int)), (SC.il (1 : Int)), (SC.il (1 : Int)), (SC.il (1 : Int))])] = [(Ch.cells b2 3 [(SC.il (1 : Int)), (SC.il (1 : Int)), (SC.il (1 : Int)), (SC.il (1 : Int))])] ∧
  Bool.true = Bool.true))))))))) := by kernel_rfl
theorem defS_any (w : World) : Calls Try.prog 34 #[] w fun e w' => ∃ b, e = .returned (.agg #[.int .i64 0, .int .i64 60, .int .i64 8, .int .i64 2, .int .i64 6, .slice (some ⟨b, 0, none⟩) 4 4, .int .i64 20, .int .i64 400]) ∧ HS ⟨w, fun _ => False⟩ [.row ⟨true, some ⟨b, 0, none⟩, 3, 1, 4, 4, [fun _ => .int 1]⟩] w' := by
  refine fnB (tb := []) trivial Try.func34 (defS_T.mpr ?_) (HS.start w (fun _ => False)) (fun v ch' w' ⟨b, hk⟩ hs => ⟨b, by rw [hk.1], (hk.hs hs).asRow 4 _ rfl (by omega) fun i hi => ?_⟩)
  · repeat' (first | exact rfl | refine And.intro ?_ ?_ | intro _)
    exact ⟨_, rfl, rfl, rfl⟩
  · match i, hi with
    | 0, _ => rfl
    | 1, _ => rfl
    | 2, _ => rfl
    | 3, _ => rfl
def sDefault : Sm := fun args ch k =>
  match args with
  | [] => ∀ b, k (.a (.agg [.il 0, .il 60, .il 8, .il 2, .il 6, .sl ch.length (some ⟨b, 0, none⟩) 4 4, .il 20, .il 400])) (ch ++ [.row ⟨true, some ⟨b, 0, none⟩, 3, 1, 4, 4, [fun _ => .int 1]⟩]) []
  | _ => False
theorem defI_ok : SmOK Try.prog 35 sDefault := by
  refine smN Try.call35 fun args ch k w X h0 hs => ?_
  unfold sDefault at h0
  split at h0
  · exact Calls.mono (defI_any w) fun e w' ⟨b, he, hs'⟩ => ⟨.a (.agg [.il 0, .il 60, .il 8, .il 2, .il 6, .sl ch.length (some ⟨b, 0, none⟩) 4 4, .il 20, .il 400]), _, he, hs', rfl, h0 b⟩
  · exact h0.elim
theorem defS_ok : SmOK Try.prog 34 sDefault := by
  refine smN Try.call34 fun args ch k w X h0 hs => ?_
  unfold sDefault at h0
  split at h0
  · exact Calls.mono (defS_any w) fun e w' ⟨b, he, hs'⟩ => ⟨.a (.agg [.il 0, .il 60, .il 8, .il 2, .il 6, .sl ch.length (some ⟨b, 0, none⟩) 4 4, .il 20, .il 400]), _, he, hs', rfl, h0 b⟩
  · exact h0.elim
def iToPowerRule : Sm := inlM Try.prog {tb := []} 300 Try.f76
theorem iToPowerRule_ok : SmOK Try.prog 76 iToPowerRule := inlM_ok mixed (E := {tb := []}) trivial Try.func76 Try.call76 (fun _ _ _ => loopsOK_nil _ _ _)
def iEqPowerRule : Sm := inlM Try.prog {tb := []} 300 Try.f68
theorem iEqPowerRule_ok : SmOK Try.prog 68 iEqPowerRule := inlM_ok mixed (E := {tb := []}) trivial Try.func68 Try.call68 (fun _ _ _ => loopsOK_nil _ _ _)
def iToPolicy : Sm := inlM Try.prog {tb := [(75, sToIntS), (76, iToPowerRule)]} 300 Try.f41
theorem iToPolicy_ok : SmOK Try.prog 41 iToPolicy := inlM_ok mixed (E := {tb := [(75, sToIntS), (76, iToPowerRule)]}) ⟨sToIntS_ok, iToPowerRule_ok, trivial⟩ Try.func41 Try.call41 (fun _ _ _ => loopsOK_nil _ _ _)
def iEqPolicy : Sm := inlM Try.prog {tb := [(67, sEqIntS), (68, iEqPowerRule)]} 300 Try.f36
theorem iEqPolicy_ok : SmOK Try.prog 36 iEqPolicy := inlM_ok mixed (E := {tb := [(67, sEqIntS), (68, iEqPowerRule)]}) ⟨sEqIntS_ok, iEqPowerRule_ok, trivial⟩ Try.func36 Try.call36 (fun _ _ _ => loopsOK_nil _ _ _)
def iMarkPolicy : Sm := inlM Try.prog {tb := [(69, sMarkIntS)]} 300 Try.f37
theorem iMarkPolicy_ok : SmOK Try.prog 37 iMarkPolicy := inlM_ok mixed (E := {tb := [(69, sMarkIntS)]}) ⟨sMarkIntS_ok, trivial⟩ Try.func37 Try.call37 (fun _ _ _ => loopsOK_nil _ _ _)
def iHeldPolicy : Sm := inlM Try.prog {tb := [(70, sHeldIntS)]} 300 Try.f38
theorem iHeldPolicy_ok : SmOK Try.prog 38 iHeldPolicy := inlM_ok mixed (E := {tb := [(70, sHeldIntS)]}) ⟨sHeldIntS_ok, trivial⟩ Try.func38 Try.call38 (fun _ _ _ => loopsOK_nil _ _ _)
def iSzPolicy : Sm := inlM Try.prog {tb := [(71, sSzIntS)]} 300 Try.f39
theorem iSzPolicy_ok : SmOK Try.prog 39 iSzPolicy := inlM_ok mixed (E := {tb := [(71, sSzIntS)]}) ⟨sSzIntS_ok, trivial⟩ Try.func39 Try.call39 (fun _ _ _ => loopsOK_nil _ _ _)

theorem law_FnExactDefaultPolicy_T  : (exFn Try.prog {tb := [(34, sDefault), (35, sDefault), (36, iEqPolicy), (37, iMarkPolicy), (38, iHeldPolicy)]} 400 Try.f9 ([]) ([]) (fun v _ => v.den = .bool true)) = (
  (∀ b0 : Nat,
  (∀ b1 : Nat,
  (b1 = b1 ∧
  (∀ b2 : Nat,
  (∀ b3 : Nat,
  (b3 = b3 ∧
  (b3 = b3 ∧
  (b1 = b1 ∧
  (∀ b4 : Nat,
  (∀ b5 : Nat,
  (b4 = b4 ∧
  (b5 = b5 ∧
  (b4 = b4 ∧
  (b5 = b5 ∧
  (b4 = b4 ∧
  (b5 = b5 ∧
  (b4 = b4 ∧
  (b5 = b5 ∧
  (b4 = b4 ∧
  (b5 = b5 ∧
  (b4 = b4 ∧
  (b5 = b5 ∧
  (Exists (fun (g06 : (Nat →
  Int)) => (Exists (fun (q07 : (Nat →
  Int)) => (((Option.some (Addr.mk b2 0 Option.none)) = (Option.some (Addr.mk b2 0 Option.none)) ∧
  (4 = 4 ∧
  ([(fun (x8 : Nat) => (SC.int (1 : Int)))] = [(fun (i9 : Nat) => (SC.int (g06 i9)))] ∧
  ((Option.some (Addr.mk b0 0 Option.none)) = (Option.some (Addr.mk b0 0 Option.none)) ∧
  (4 = 4 ∧
  ([(fun (x10 : Nat) => (SC.int (1 : Int)))] = [(fun (i11 : Nat) => (SC.int (q07 i11)))] ∧
  (4 = 4 ∧
  (capC 4)))))))) ∧
  ((∀ i12 : Nat,
  (i12 < 4 →
  (g06 i12) = (q07 i12))) ∧
  (b4 = b4 ∧
  (b5 = b5 ∧
  (∀ b13 : Nat,
  (∀ b14 : Nat,
  (b13 = b13 ∧
  (b14 = b14 ∧
  (b13 = b13 ∧
  (b14 = b14 ∧
  (b3 = b3 ∧
  (∀ b15 : Nat,
  (b15 = b15 ∧
  (Exists (fun (g016 : (Nat →
  Int)) => (((Option.some (Addr.mk b2 0 Option.none)) = (Option.some (Addr.mk b2 0 Option.none)) ∧
  (4 = 4 ∧
  ([(fun (x17 : Nat) => (SC.int (1 : Int)))] = [(fun (i18 : Nat) => (SC.int (g016 i18)))] ∧
  (markC 4 (1 : Int))))) ∧
  (b3 = b3 ∧
  (∀ b19 : Nat,
  (b19 = b19 ∧
  (((Option.some (Addr.mk b2 0 Option.none)) = (Option.some (Addr.mk b2 0 Option.none)) ∧
  (4 = 4 ∧
  ([(fun (i20 : Nat) => (SC.int (mk (1 : Int) 1 0 i20)))] = [(fun (i21 : Nat) => (SC.int (mk (1 : Int) 1 0 i21)))] ∧
  (markC 4 (1 : Int))))) ∧
  (((decide ((mk (1 : Int) 1 0 4) < (0 : Int))) = Bool.true →
  (Value.bool Bool.false) = (Value.bool Bool.true)) ∧
  ((decide ((mk (1 : Int) 1 0 4) < (0 : Int))) = Bool.false →
  (((decide ((mk (1 : Int) 1 0 4) < (0 : Int))) = Bool.true →
   (Value.bool Bool.false) = (Value.bool Bool.true)) ∧
   ((decide ((mk (1 : Int) 1 0 4) < (0 : Int))) = Bool.false →
   ((((mk (1 : Int) 1 0 4) != (mk (1 : Int) 1 0 4)) = Bool.true →
    (Value.bool Bool.false) = (Value.bool Bool.true)) ∧
    (((mk (1 : Int) 1 0 4) != (mk (1 : Int) 1 0 4)) = Bool.false →
    (∀ b22 : Nat,
     (∀ b23 : Nat,
     (b23 = b23 ∧
     (b23 = b23 ∧
     (b1 = b1 ∧
     (∀ b24 : Nat,
     (∀ b25 : Nat,
     (b24 = b24 ∧
     (b25 = b25 ∧
     (b24 = b24 ∧
     (b25 = b25 ∧
     (b24 = b24 ∧
     (b25 = b25 ∧
     (b24 = b24 ∧
     (b25 = b25 ∧
     (b24 = b24 ∧
     (b25 = b25 ∧
     (b24 = b24 ∧
     (b25 = b25 ∧
     (Exists (fun (g026 : (Nat →
     Int)) => (Exists (fun (q027 : (Nat →
     Int)) => (((Option.some (Addr.mk b22 0 Option.none)) = (Option.some (Addr.mk b22 0 Option.none)) ∧
     (4 = 4 ∧
     ([(fun (x28 : Nat) => (SC.int (1 : Int)))] = [(fun (i29 : Nat) => (SC.int (g026 i29)))] ∧
     ((Option.some (Addr.mk b0 0 Option.none)) = (Option.some (Addr.mk b0 0 Option.none)) ∧
     (4 = 4 ∧
     ([(fun (x30 : Nat) => (SC.int (1 : Int)))] = [(fun (i31 : Nat) => (SC.int (q027 i31)))] ∧
     (4 = 4 ∧
     (capC 4)))))))) ∧
     ((∀ i32 : Nat,
     (i32 < 4 →
     (g026 i32) = (q027 i32))) ∧
     (b24 = b24 ∧
     (b25 = b25 ∧
     (∀ b33 : Nat,
     (∀ b34 : Nat,
     (b33 = b33 ∧
     (b34 = b34 ∧
     (b33 = b33 ∧
     (b34 = b34 ∧
     (b3 = b3 ∧
     (∀ b35 : Nat,
     (b35 = b35 ∧
     (((Option.some (Addr.mk b2 0 Option.none)) = (Option.some (Addr.mk b2 0 Option.none)) ∧
     (4 = 4 ∧
     ([(fun (i36 : Nat) => (SC.int (mk (1 : Int) 1 0 i36)))] = [(fun (i37 : Nat) => (SC.int (mk (1 : Int) 1 0 i37)))] ∧
     (markC 4 (1 : Int))))) ∧
     (((decide ((mk (1 : Int) 1 0 4) < (0 : Int))) = Bool.true →
     (Value.bool Bool.false) = (Value.bool Bool.true)) ∧
     ((decide ((mk (1 : Int) 1 0 4) < (0 : Int))) = Bool.false →
     (((decide ((mk (1 : Int) 1 0 4) < (0 : Int))) = Bool.true →
      (Value.bool Bool.false) = (Value.bool Bool.true)) ∧
      ((decide ((mk (1 : Int) 1 0 4) < (0 : Int))) = Bool.false →
      ((((mk (1 : Int) 1 0 4) != (mk (1 : Int) 1 0 4)) = Bool.true →
       (Value.bool Bool.false) = (Value.bool Bool.true)) ∧
       (((mk (1 : Int) 1 0 4) != (mk (1 : Int) 1 0 4)) = Bool.false →
       (Value.bool Bool.true) = (Value.bool Bool.true))))))))))))))))))))))))))))))))))))))))))))))))))))))))))))))))))))))))))))))))))))))))))))))))) := by kernel_rfl
theorem walk_FnExactDefaultPolicy (W : World) : Calls Try.prog 9 #[] W fun e W' => e = .returned (.bool true) ∧ Below W.heap.size W W' := by
  refine fnB (tb := [(34, sDefault), (35, sDefault), (36, iEqPolicy), (37, iMarkPolicy), (38, iHeldPolicy)]) ⟨defS_ok, defI_ok, iEqPolicy_ok, iMarkPolicy_ok, iHeldPolicy_ok, trivial⟩ Try.func9 (law_FnExactDefaultPolicy_T.mpr ?_) (HS.start W (fun _ => False)) (fun v ch' w' hk hs => ⟨by rw [hk], hs.below⟩)
  repeat' (first
    | exact rfl
    | exact True.intro
    | refine And.intro ?_ ?_
    | apply Exists.intro
    | assumption
    | omega
    | (intro h; exfalso; revert h; simp [mk]; done)
    | (intro h; exfalso; simp [mk] at h; omega)
    | intro _)
end Go.Proofs.Ytlkklplnomecgaa
