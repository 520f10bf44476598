/-
  Policies and boxes as objects.
-/
import Derived.Test.YtlkklplnomecgaaSxO
import Derived.Test.YtlkklplnomecgaaSxPol
namespace Go.Proofs.Ytlkklplnomecgaa
set_option linter.unusedVariables false
set_option linter.unusedSimpArgs false
open Go.RowKit
set_option maxRecDepth 100000
set_option maxHeartbeats 8000000

/-! Policy -/
structure PolicyD where
  Page : Int
  Cap : Int
  Limit : Int
  Low : Int
  High : Int
  WeightsN : Nat
  (Weightsg0 : Nat → Int)
  RuleDown : Int
  RuleSleep : Int
def isPolicy (v : Value) (x : PolicyD) (rs : List Row) : Prop :=
  ∃ (WeightsO : Option Addr) (WeightsC WeightsT WeightsK : Nat) (WeightsB : Bool), v = .agg #[.int .i64 x.Page, .int .i64 x.Cap, .int .i64 x.Limit, .int .i64 x.Low, .int .i64 x.High, .slice WeightsO x.WeightsN WeightsC, .int .i64 x.RuleDown, .int .i64 x.RuleSleep] ∧ rs = [⟨WeightsB, WeightsO, WeightsT, 1, x.WeightsN, WeightsK, [fun i => .int (x.Weightsg0 i)]⟩]
abbrev capPolicy (x : PolicyD) : Prop := x.WeightsN ≤ 1048576
abbrev szPPolicy (z k : Int) (WeightsN : Nat) : Prop := z = -1 ∨ (0 ≤ z ∧ z ≤ k ∧ WeightsN ≤ 1048576)
abbrev lensPolicy (x : PolicyD) : Prop := x.WeightsN ≤ 9223372036854775807
theorem wholePolicy {v : Value} {x : PolicyD} {rs : List Row} (h : isPolicy v x rs) : wholeC true v 8 := by
  obtain ⟨_, _, _, _, _, rfl, rfl⟩ := h
  exact ⟨_, rfl, rfl, List.all_eq_true.1 rfl⟩
def markPolicyD (k : Int) (x : PolicyD) : PolicyD := ⟨x.Page, x.Cap, x.Limit, x.Low, x.High, x.WeightsN, fun i => mk (k) 1 0 i, x.RuleDown, x.RuleSleep⟩
def endPolicy (k : Int) (x : PolicyD) : Int := mk (k) 1 0 x.WeightsN
theorem toPolicy_T (Page : Int) (Cap : Int) (Limit : Int) (Low : Int) (High : Int) (WeightsO : Option Addr) (WeightsN WeightsC : Nat) (Weightsg0 : Nat → Int) (RuleDown : Int) (RuleSleep : Int) : (exFn Try.prog {tb := [(75, sToIntS), (76, iToPowerRule)]} 400 Try.f41 ([.a (.agg [.int Page, .int Cap, .int Limit, .int Low, .int High, .sl 0 WeightsO WeightsN WeightsC, .int RuleDown, .int RuleSleep])]) ([.row ⟨false, WeightsO, 0, 1, WeightsN, 0, [fun i => .int (Weightsg0 i)]⟩]) (fun v ch => ∃ (ro0 : Option Addr) (rc0 : Nat), OutR v ch (.agg #[.int .i64 (Page), .int .i64 (Cap), .int .i64 (Limit), .int .i64 (Low), .int .i64 (High), .slice ro0 (WeightsN) rc0, .int .i64 (RuleDown), .int .i64 (RuleSleep)]) [.row ⟨true, ro0, 3, 1, WeightsN, rc0, [fun i => .int (Weightsg0 i)]⟩])) = (
  (∀ b0 : Nat,
  (∀ b1 : Nat,
  (∀ b2 : Nat,
  (b0 = b0 ∧
  (b2 = b2 ∧
  (b0 = b0 ∧
  (b2 = b2 ∧
  (b0 = b0 ∧
  (b2 = b2 ∧
  (b0 = b0 ∧
  (b2 = b2 ∧
  (b0 = b0 ∧
  (b2 = b2 ∧
  (b0 = b0 ∧
  (Exists (fun (g03 : (Nat →
  Int)) => ((WeightsO = WeightsO ∧
  (WeightsN = WeightsN ∧
  ([(fun (i4 : Nat) => (SC.int (Weightsg0 i4)))] = [(fun (i5 : Nat) => (SC.int (g03 i5)))] ∧
  (capC WeightsN)))) ∧
  (∀ b6 : Nat,
  (b2 = b2 ∧
  (b0 = b0 ∧
  (∀ b7 : Nat,
  (∀ b8 : Nat,
  (∀ b9 : Nat,
  (b7 = b7 ∧
  (b9 = b9 ∧
  (b7 = b7 ∧
  (b9 = b9 ∧
  (b9 = b9 ∧
  (b8 = b8 ∧
  (b8 = b8 ∧
  (b2 = b2 ∧
  (b2 = b2 ∧
  (b1 = b1 ∧
  (b1 = b1 ∧
  (Exists (fun (ro010 : (Option Addr)) => (Exists (fun (rc011 : Nat) => ((Value.agg (List.toArray [(Value.int IntKind.i64 Page), (Value.int IntKind.i64 Cap), (Value.int IntKind.i64 Limit), (Value.int IntKind.i64 Low), (Value.int IntKind.i64 High), (Value.slice (Option.some (Addr.mk b6 0 Option.none)) WeightsN WeightsN), (Value.int IntKind.i64 RuleDown), (Value.int IntKind.i64 RuleSleep)])) = (Value.agg (List.toArray [(Value.int IntKind.i64 Page), (Value.int IntKind.i64 Cap), (Value.int IntKind.i64 Limit), (Value.int IntKind.i64 Low), (Value.int IntKind.i64 High), (Value.slice ro010 WeightsN rc011), (Value.int IntKind.i64 RuleDown), (Value.int IntKind.i64 RuleSleep)])) ∧
  (((Bool.true = Bool.true ∧
  ((Option.some (Addr.mk b6 0 Option.none)) = ro010 ∧
  (3 = 3 ∧
  (1 = 1 ∧
  (WeightsN = WeightsN ∧
  (WeightsN = rc011 ∧
  ((∀ i12 : Nat,
  (i12 < WeightsN →
  (Value.int IntKind.i64 (g03 i12)) = (Value.int IntKind.i64 (Weightsg0 i12)))) ∧
  True))))))) ∧
  True) ∧
  Bool.true = Bool.true))))))))))))))))))))))))))))))))))))))))) := by kernel_rfl
theorem toPolicy_any (Page : Int) (Cap : Int) (Limit : Int) (Low : Int) (High : Int) (WeightsO : Option Addr) (WeightsN WeightsC : Nat) (Weightsg0 : Nat → Int) (RuleDown : Int) (RuleSleep : Int) (w : World) (hrWeights : Row.sat w ⟨false, WeightsO, 0, 1, WeightsN, 0, [fun i => .int (Weightsg0 i)]⟩) (hpre : capC WeightsN) : Calls Try.prog 41 #[.agg #[.int .i64 Page, .int .i64 Cap, .int .i64 Limit, .int .i64 Low, .int .i64 High, .slice WeightsO WeightsN WeightsC, .int .i64 RuleDown, .int .i64 RuleSleep]] w fun e w' => ∃ (ro0 : Option Addr) (rc0 : Nat), e = .returned (.agg #[.int .i64 (Page), .int .i64 (Cap), .int .i64 (Limit), .int .i64 (Low), .int .i64 (High), .slice ro0 (WeightsN) rc0, .int .i64 (RuleDown), .int .i64 (RuleSleep)]) ∧ HS ⟨w, fun _ => False⟩ [.row ⟨true, ro0, 3, 1, WeightsN, rc0, [fun i => .int (Weightsg0 i)]⟩] w' := by
  refine fnB (tb := [(75, sToIntS), (76, iToPowerRule)]) ⟨sToIntS_ok, iToPowerRule_ok, trivial⟩ Try.func41 ((toPolicy_T Page Cap Limit Low High WeightsO WeightsN WeightsC Weightsg0 RuleDown RuleSleep).mpr ?_) (HS.rows (fun _ => False) [⟨false, WeightsO, 0, 1, WeightsN, 0, [fun i => .int (Weightsg0 i)]⟩] (by simp; exact hrWeights)) (fun v ch' w' ⟨ro0, rc0, hk⟩ hs => ⟨ro0, rc0, by rw [hk.1], hk.hs hs⟩)
  clear hrWeights
  repeat' (first
    | exact rfl
    | exact True.intro
    | refine And.intro ?_ ?_
    | apply Exists.intro
    | assumption
    | omega
    | intro _)
def sToPolicyO : Sm := fun args ch k =>
  match args with
  | [.a (.c (.obj i0 v0))] =>
    match ch[i0]? with
    | some (.obj _ r0) => ∃ (x : PolicyD), (isPolicy v0 x r0 ∧ capPolicy x) ∧ ∀ (v' : Value) (rs' : List Row), isPolicy v' (x) rs' → k (.a (.c (.obj ch.length v'))) (ch ++ [.obj true rs']) []
    | _ => False
  | _ => False
theorem sToPolicyO_ok_laws_toPolicy : SmOK Try.prog 41 sToPolicyO := by
  refine smN Try.call41 fun args ch k w X h0 hs => ?_
  unfold sToPolicyO at h0
  split at h0
  · rename_i i0 v0
    split at h0
    · rename_i o0 r0 hi0
      obtain ⟨x, ⟨⟨_, _, _, _, _, rfl, rfl⟩, hpre⟩, h0⟩ := h0
      have hw0 := hs.seeObj hi0
      simp only [List.map_cons, List.map_nil, den_a, den_c, SA.den, den_obj]
      refine Calls.mono (toPolicy_any x.Page x.Cap x.Limit x.Low x.High _ x.WeightsN _ x.Weightsg0 x.RuleDown x.RuleSleep w (Row.seenAs (hw0 _ (mem0)).2 rfl rfl) hpre) fun e w' ⟨ro0, rc0, he, hs'⟩ => ⟨_, [.obj true _], ?_, hs'.pack (rs := [_]) (by simp), rfl, h0 _ _ ⟨ro0, rc0, _, _, _, rfl, rfl⟩⟩
      rw [he]
      rfl
    · exact h0.elim
  · exact h0.elim
theorem eqPolicy_T (Page : Int) (Cap : Int) (Limit : Int) (Low : Int) (High : Int) (WeightsN : Nat) (Weightsg0 : Nat → Int) (RuleDown : Int) (RuleSleep : Int) (aWeightsO : Option Addr) (aWeightsC : Nat) (bWeightsO : Option Addr) (bWeightsC : Nat) : (exFn Try.prog {tb := [(67, sEqIntS), (68, iEqPowerRule)]} 400 Try.f36 ([.a (.agg [.int Page, .int Cap, .int Limit, .int Low, .int High, .sl 0 aWeightsO WeightsN aWeightsC, .int RuleDown, .int RuleSleep]), .a (.agg [.int Page, .int Cap, .int Limit, .int Low, .int High, .sl 1 bWeightsO WeightsN bWeightsC, .int RuleDown, .int RuleSleep])]) ([.row ⟨false, aWeightsO, 0, 1, WeightsN, 0, [fun i => .int (Weightsg0 i)]⟩, .row ⟨false, bWeightsO, 0, 1, WeightsN, 0, [fun i => .int (Weightsg0 i)]⟩]) (fun v _ => v.den = .bool true)) = (
  (∀ b0 : Nat,
  (∀ b1 : Nat,
  (b0 = b0 ∧
  (b1 = b1 ∧
  (((Page != Page) = Bool.true →
  (Value.bool Bool.false) = (Value.bool Bool.true)) ∧
  ((Page != Page) = Bool.false →
  (b0 = b0 ∧
   (b1 = b1 ∧
   (((Cap != Cap) = Bool.true →
   (Value.bool Bool.false) = (Value.bool Bool.true)) ∧
   ((Cap != Cap) = Bool.false →
   (b0 = b0 ∧
    (b1 = b1 ∧
    (((Limit != Limit) = Bool.true →
    (Value.bool Bool.false) = (Value.bool Bool.true)) ∧
    ((Limit != Limit) = Bool.false →
    (b0 = b0 ∧
     (b1 = b1 ∧
     (((Low != Low) = Bool.true →
     (Value.bool Bool.false) = (Value.bool Bool.true)) ∧
     ((Low != Low) = Bool.false →
     (b0 = b0 ∧
      (b1 = b1 ∧
      (((High != High) = Bool.true →
      (Value.bool Bool.false) = (Value.bool Bool.true)) ∧
      ((High != High) = Bool.false →
      (b0 = b0 ∧
       (b1 = b1 ∧
       (Exists (fun (g02 : (Nat →
       Int)) => (Exists (fun (q03 : (Nat →
       Int)) => ((aWeightsO = aWeightsO ∧
       (WeightsN = WeightsN ∧
       ([(fun (i4 : Nat) => (SC.int (Weightsg0 i4)))] = [(fun (i5 : Nat) => (SC.int (g02 i5)))] ∧
       (bWeightsO = bWeightsO ∧
       (WeightsN = WeightsN ∧
       ([(fun (i6 : Nat) => (SC.int (Weightsg0 i6)))] = [(fun (i7 : Nat) => (SC.int (q03 i7)))] ∧
       (WeightsN = WeightsN ∧
       (capC WeightsN)))))))) ∧
       ((∀ i8 : Nat,
       (i8 < WeightsN →
       (g02 i8) = (q03 i8))) ∧
       (b0 = b0 ∧
       (b1 = b1 ∧
       (∀ b9 : Nat,
       (∀ b10 : Nat,
       (b9 = b9 ∧
       (b10 = b10 ∧
       (((RuleDown != RuleDown) = Bool.true →
       (Value.bool Bool.false) = (Value.bool Bool.true)) ∧
       ((RuleDown != RuleDown) = Bool.false →
       (b9 = b9 ∧
        (b10 = b10 ∧
        (((RuleSleep != RuleSleep) = Bool.true →
        (Value.bool Bool.false) = (Value.bool Bool.true)) ∧
        ((RuleSleep != RuleSleep) = Bool.false →
        (Value.bool Bool.true) = (Value.bool Bool.true)))))))))))))))))))))))))))))))))))))))))))) := by kernel_rfl
theorem eqPolicy_any (Page : Int) (Cap : Int) (Limit : Int) (Low : Int) (High : Int) (WeightsN : Nat) (Weightsg0 : Nat → Int) (RuleDown : Int) (RuleSleep : Int) (aWeightsO : Option Addr) (aWeightsC : Nat) (bWeightsO : Option Addr) (bWeightsC : Nat) (w : World) (hra0 : Row.sat w ⟨false, aWeightsO, 0, 1, WeightsN, 0, [fun i => .int (Weightsg0 i)]⟩) (hrb0 : Row.sat w ⟨false, bWeightsO, 0, 1, WeightsN, 0, [fun i => .int (Weightsg0 i)]⟩) (hcap : WeightsN ≤ 1048576) : Calls Try.prog 36 #[.agg #[.int .i64 Page, .int .i64 Cap, .int .i64 Limit, .int .i64 Low, .int .i64 High, .slice aWeightsO WeightsN aWeightsC, .int .i64 RuleDown, .int .i64 RuleSleep], .agg #[.int .i64 Page, .int .i64 Cap, .int .i64 Limit, .int .i64 Low, .int .i64 High, .slice bWeightsO WeightsN bWeightsC, .int .i64 RuleDown, .int .i64 RuleSleep]] w fun e w' => e = .returned (.bool true) ∧ Below w.heap.size w w' := by
  refine fnB (tb := [(67, sEqIntS), (68, iEqPowerRule)]) ⟨sEqIntS_ok, iEqPowerRule_ok, trivial⟩ Try.func36 ((eqPolicy_T Page Cap Limit Low High WeightsN Weightsg0 RuleDown RuleSleep aWeightsO aWeightsC bWeightsO bWeightsC).mpr ?_) (HS.rows (fun _ => False) [⟨false, aWeightsO, 0, 1, WeightsN, 0, [fun i => .int (Weightsg0 i)]⟩, ⟨false, bWeightsO, 0, 1, WeightsN, 0, [fun i => .int (Weightsg0 i)]⟩] (by simp; exact ⟨hra0, hrb0⟩)) (fun v ch' w' hk hs => ⟨by rw [hk], hs.below⟩)
  clear hra0 hrb0
  repeat' (first
    | exact rfl
    | exact True.intro
    | assumption
    | refine And.intro ?_ ?_
    | apply Exists.intro
    | omega
    | (intro h; exfalso; simp at h; done)
    | (intro h; exfalso; simp at h; omega)
    | intro _)
def sEqPolicyO : Sm := fun args ch k =>
  match args with
  | [.a (.c (.obj i v)), .a (.c (.obj j u))] =>
    match ch[i]?, ch[j]? with
    | some (.obj _ rs), some (.obj _ us) => ∃ x : PolicyD, (isPolicy v x rs ∧ isPolicy u x us ∧ capPolicy x) ∧ k (.a (.c (.lit true))) ch []
    | _, _ => False
  | _ => False
theorem sEqPolicyO_ok : SmOK Try.prog 36 sEqPolicyO := by
  refine smB Try.call36 fun args ch k w X h0 hs => ?_
  unfold sEqPolicyO at h0
  split at h0
  · rename_i i v j u
    split at h0
    · rename_i o rs o' us hi hj
      obtain ⟨x, ⟨⟨_, _, _, _, _, rfl, rfl⟩, ⟨_, _, _, _, _, rfl, rfl⟩, hc⟩, h0⟩ := h0
      have h1 := hs.seeObj hi
      have h2 := hs.seeObj hj
      refine ⟨_, h0, ?_⟩
      exact eqPolicy_any x.Page x.Cap x.Limit x.Low x.High x.WeightsN x.Weightsg0 x.RuleDown x.RuleSleep _ _ _ _ w (Row.seenAs (h1 _ (mem0)).2 rfl rfl) (Row.seenAs (h2 _ (mem0)).2 rfl rfl) hc
    · exact h0.elim
  · exact h0.elim
theorem markPolicy_T (Page : Int) (Cap : Int) (Limit : Int) (Low : Int) (High : Int) (WeightsN : Nat) (Weightsg0 : Nat → Int) (RuleDown : Int) (RuleSleep : Int) (WeightsO : Option Addr) (WeightsC : Nat) (WeightsT WeightsK : Nat) (k0 : Int) : (exFn Try.prog {tb := [(69, sMarkIntS)]} 400 Try.f37 ([.a (.agg [.int Page, .int Cap, .int Limit, .int Low, .int High, .sl 0 WeightsO WeightsN WeightsC, .int RuleDown, .int RuleSleep]), .a (.c (.int k0))]) ([.row ⟨true, WeightsO, WeightsT, 1, WeightsN, WeightsK, [fun i => .int (Weightsg0 i)]⟩]) (fun v ch => v.den = .int .i64 (mk (k0) 1 0 WeightsN) ∧ selC ch [0] = [.row ⟨true, WeightsO, WeightsT, 1, WeightsN, WeightsK, [fun i => .int (mk (k0) 1 0 i)]⟩])) = (
  (∀ b0 : Nat,
  (b0 = b0 ∧
  (Exists (fun (g01 : (Nat →
  Int)) => ((WeightsO = WeightsO ∧
  (WeightsN = WeightsN ∧
  ([(fun (i2 : Nat) => (SC.int (Weightsg0 i2)))] = [(fun (i3 : Nat) => (SC.int (g01 i3)))] ∧
  (markC WeightsN k0)))) ∧
  ((Value.int IntKind.i64 (mk k0 1 0 WeightsN)) = (Value.int IntKind.i64 (mk k0 1 0 WeightsN)) ∧
  [(Ch.row (Row.mk Bool.true WeightsO WeightsT 1 WeightsN WeightsK [(fun (i4 : Nat) => (SC.int (mk k0 1 0 i4)))]))] = [(Ch.row (Row.mk Bool.true WeightsO WeightsT 1 WeightsN WeightsK [(fun (i5 : Nat) => (SC.int (mk k0 1 0 i5)))]))]))))))) := by kernel_rfl
theorem markPolicy_any (Page : Int) (Cap : Int) (Limit : Int) (Low : Int) (High : Int) (WeightsN : Nat) (Weightsg0 : Nat → Int) (RuleDown : Int) (RuleSleep : Int) (WeightsO : Option Addr) (WeightsC : Nat) (WeightsT WeightsK : Nat) (k0 : Int) (w : World) (M : Nat → Prop) (hs : HS ⟨w, M⟩ [.row ⟨true, WeightsO, WeightsT, 1, WeightsN, WeightsK, [fun i => .int (Weightsg0 i)]⟩] w) (hcap : WeightsN ≤ 1048576) (h0 : 0 ≤ k0 ∧ k0 ≤ 549755813888) : Calls Try.prog 37 #[.agg #[.int .i64 Page, .int .i64 Cap, .int .i64 Limit, .int .i64 Low, .int .i64 High, .slice WeightsO WeightsN WeightsC, .int .i64 RuleDown, .int .i64 RuleSleep], .int .i64 k0] w fun e w' => e = .returned (.int .i64 (mk (k0) 1 0 WeightsN)) ∧ HS ⟨w, M⟩ [.row ⟨true, WeightsO, WeightsT, 1, WeightsN, WeightsK, [fun i => .int (mk (k0) 1 0 i)]⟩] w' := by
  refine fnB (tb := [(69, sMarkIntS)]) ⟨sMarkIntS_ok, trivial⟩ Try.func37 ((markPolicy_T Page Cap Limit Low High WeightsN Weightsg0 RuleDown RuleSleep WeightsO WeightsC WeightsT WeightsK k0).mpr ?_) hs (fun v ch' w' ⟨hv, hc⟩ hs => ⟨by rw [hv], by rw [← hc]; exact hs.sel _ (by simp)⟩)
  clear hs
  have hb0 : 0 ≤ mk (k0) 1 0 WeightsN ∧ mk (k0) 1 0 WeightsN ≤ k0 + 16777216 := mk_more (by omega) (by omega) (by omega)
  repeat' (first
    | exact rfl
    | exact True.intro
    | assumption
    | refine And.intro ?_ ?_
    | apply Exists.intro
    | omega
    | (intro h; exfalso; simp at h; done)
    | (intro h; exfalso; simp at h; omega)
    | intro _)
def sMarkPolicyO : Sm := fun args ch k =>
  match args with
  | [.a (.c (.obj i v)), .a (.c kc)] =>
    match ch[i]?, asI kc with
    | some (.obj true rs), some k0 => ∃ x : PolicyD, (isPolicy v x rs ∧ capPolicy x ∧ mrkC k0) ∧ (endC k0 (endPolicy k0 x) 16777216 → ∀ rs' : List Row, isPolicy v (markPolicyD k0 x) rs' → k (.a (.c (.int (endPolicy k0 x)))) (ch.set i (.obj true rs')) [i])
    | _, _ => False
  | _ => False
theorem sMarkPolicyO_ok : SmOK Try.prog 37 sMarkPolicyO := by
  refine smTurnO Try.call37 fun args ch k w X h0 hs => ?_
  unfold sMarkPolicyO at h0
  split at h0
  · rename_i i v kc
    split at h0
    · rename_i rs k0 hi hk
      obtain ⟨x, ⟨⟨WeightsO, WeightsC, WeightsT, WeightsK, WeightsB, rfl, rfl⟩, hc, hk0⟩, h0⟩ := h0
      have h1 := hs.seeObj hi
      have eWeights : WeightsB = true := (h1 _ (mem0)).1
      subst eWeights
      have hb0 : 0 ≤ mk (k0) 1 0 x.WeightsN ∧ mk (k0) 1 0 x.WeightsN ≤ k0 + 16777216 := mk_more (by omega) (by omega) (by omega)
      refine ⟨_, i, _, _, hi, h0 ⟨by unfold endPolicy; omega, by unfold endPolicy; omega⟩ [⟨true, WeightsO, WeightsT, 1, x.WeightsN, WeightsK, [fun i => .int ((markPolicyD k0 x).Weightsg0 i)]⟩] ⟨_, _, _, _, _, rfl, rfl⟩, by simp, (at_cons rfl rfl rfl (fun _ h => h)), ?_⟩
      simp only [List.map_cons, List.map_nil, den_a, den_c, asI_den hk]
      exact markPolicy_any x.Page x.Cap x.Limit x.Low x.High x.WeightsN x.Weightsg0 x.RuleDown x.RuleSleep WeightsO WeightsC WeightsT WeightsK k0 w _ (hs.open hi) hc hk0
    · exact h0.elim
  · exact h0.elim
theorem heldPolicy_T (Page : Int) (Cap : Int) (Limit : Int) (Low : Int) (High : Int) (RuleDown : Int) (RuleSleep : Int) (WeightsN : Nat) (WeightsO : Option Addr) (WeightsC : Nat) (k0 : Int) : (exFn Try.prog {tb := [(70, sHeldIntS)]} 400 Try.f38 ([.a (.agg [.int Page, .int Cap, .int Limit, .int Low, .int High, .sl 0 WeightsO WeightsN WeightsC, .int RuleDown, .int RuleSleep]), .a (.c (.int k0))]) ([.row ⟨false, WeightsO, 0, 1, WeightsN, 0, [fun i => .int (mk (k0) 1 0 i)]⟩]) (fun v _ => v.den = .int .i64 (mk (k0) 1 0 WeightsN))) = (
  (∀ b0 : Nat,
  (b0 = b0 ∧
  ((WeightsO = WeightsO ∧
  (WeightsN = WeightsN ∧
  ([(fun (i1 : Nat) => (SC.int (mk k0 1 0 i1)))] = [(fun (i2 : Nat) => (SC.int (mk k0 1 0 i2)))] ∧
  (markC WeightsN k0)))) ∧
  (((decide ((mk k0 1 0 WeightsN) < (0 : Int))) = Bool.true →
  (Value.int IntKind.i64 (-1 : Int)) = (Value.int IntKind.i64 (mk k0 1 0 WeightsN))) ∧
  ((decide ((mk k0 1 0 WeightsN) < (0 : Int))) = Bool.false →
  (Value.int IntKind.i64 (mk k0 1 0 WeightsN)) = (Value.int IntKind.i64 (mk k0 1 0 WeightsN)))))))) := by kernel_rfl
theorem heldPolicy_any (Page : Int) (Cap : Int) (Limit : Int) (Low : Int) (High : Int) (RuleDown : Int) (RuleSleep : Int) (WeightsN : Nat) (WeightsO : Option Addr) (WeightsC : Nat) (k0 : Int) (w : World) (hr0 : Row.sat w ⟨false, WeightsO, 0, 1, WeightsN, 0, [fun i => .int (mk (k0) 1 0 i)]⟩) (hcap : WeightsN ≤ 1048576) (h0 : 0 ≤ k0 ∧ k0 ≤ 549755813888) : Calls Try.prog 38 #[.agg #[.int .i64 Page, .int .i64 Cap, .int .i64 Limit, .int .i64 Low, .int .i64 High, .slice WeightsO WeightsN WeightsC, .int .i64 RuleDown, .int .i64 RuleSleep], .int .i64 k0] w fun e w' => e = .returned (.int .i64 (mk (k0) 1 0 WeightsN)) ∧ Below w.heap.size w w' := by
  refine fnB (tb := [(70, sHeldIntS)]) ⟨sHeldIntS_ok, trivial⟩ Try.func38 ((heldPolicy_T Page Cap Limit Low High RuleDown RuleSleep WeightsN WeightsO WeightsC k0).mpr ?_) (HS.rows (fun _ => False) [⟨false, WeightsO, 0, 1, WeightsN, 0, [fun i => .int (mk (k0) 1 0 i)]⟩] (by simp; exact hr0)) (fun v ch' w' hk hs => ⟨by rw [hk], hs.below⟩)
  clear hr0
  have hb0 : 0 ≤ mk (k0) 1 0 WeightsN ∧ mk (k0) 1 0 WeightsN ≤ k0 + 16777216 := mk_more (by omega) (by omega) (by omega)
  repeat' (first
    | exact rfl
    | exact True.intro
    | assumption
    | refine And.intro ?_ ?_
    | apply Exists.intro
    | omega
    | (intro h; exfalso; simp at h; done)
    | (intro h; exfalso; simp at h; omega)
    | intro _)
def sHeldPolicyO : Sm := fun args ch k =>
  match args with
  | [.a (.c (.obj i v)), .a (.c kc)] =>
    match ch[i]?, asI kc with
    | some (.obj _ rs), some k0 => ∃ x : PolicyD, (isPolicy v (markPolicyD k0 x) rs ∧ capPolicy x ∧ mrkC k0) ∧ k (.a (.c (.int (endPolicy k0 x)))) ch []
    | _, _ => False
  | _ => False
theorem sHeldPolicyO_ok : SmOK Try.prog 38 sHeldPolicyO := by
  refine smB Try.call38 fun args ch k w X h0 hs => ?_
  unfold sHeldPolicyO at h0
  split at h0
  · rename_i i v kc
    split at h0
    · rename_i o rs k0 hi hk
      obtain ⟨x, ⟨⟨_, _, _, _, _, rfl, rfl⟩, hc, hk0⟩, h0⟩ := h0
      have h1 := hs.seeObj hi
      refine ⟨_, h0, ?_⟩
      simp only [List.map_cons, List.map_nil, den_a, den_c, asI_den hk]
      exact heldPolicy_any x.Page x.Cap x.Limit x.Low x.High x.RuleDown x.RuleSleep x.WeightsN _ _ k0 w (Row.seenAs (h1 _ (mem0)).2 rfl rfl) hc hk0
    · exact h0.elim
  · exact h0.elim
theorem szPolicy_T (Page : Int) (Cap : Int) (Limit : Int) (Low : Int) (High : Int) (RuleDown : Int) (RuleSleep : Int) (WeightsO : Option Addr) (WeightsN WeightsC : Nat) (k0 : Int) : (exFn Try.prog {tb := [(71, sSzIntS)]} 400 Try.f39 ([.a (.agg [.int Page, .int Cap, .int Limit, .int Low, .int High, .sl 0 WeightsO WeightsN WeightsC, .int RuleDown, .int RuleSleep]), .a (.c (.int k0))]) ([]) (fun v _ => ∃ z : Int, v.den = .int .i64 z ∧ szPPolicy z k0 WeightsN)) = (
  (∀ b0 : Nat,
  (b0 = b0 ∧
  ((szC WeightsN k0) ∧
  (((k0 < ((WeightsN : Nat) : Int)) →
  (Exists (fun (z1 : Int) => ((Value.int IntKind.i64 (-1 : Int)) = (Value.int IntKind.i64 z1) ∧
   (szPPolicy z1 k0 WeightsN))))) ∧
  ((((WeightsN : Nat) : Int) ≤ k0) →
  (((decide ((k0 - ((WeightsN : Nat) : Int)) < (0 : Int))) = Bool.true →
   (Exists (fun (z2 : Int) => ((Value.int IntKind.i64 (-1 : Int)) = (Value.int IntKind.i64 z2) ∧
    (szPPolicy z2 k0 WeightsN))))) ∧
   ((decide ((k0 - ((WeightsN : Nat) : Int)) < (0 : Int))) = Bool.false →
   (Exists (fun (z3 : Int) => ((Value.int IntKind.i64 (k0 - ((WeightsN : Nat) : Int))) = (Value.int IntKind.i64 z3) ∧
    (szPPolicy z3 k0 WeightsN)))))))))))) := by kernel_rfl
theorem szPolicy_any (Page : Int) (Cap : Int) (Limit : Int) (Low : Int) (High : Int) (RuleDown : Int) (RuleSleep : Int) (WeightsO : Option Addr) (WeightsN WeightsC : Nat) (k0 : Int) (w : World) (hn : WeightsN ≤ 9223372036854775807) (h0 : 0 ≤ k0 ∧ k0 ≤ 1048576) : Calls Try.prog 39 #[.agg #[.int .i64 Page, .int .i64 Cap, .int .i64 Limit, .int .i64 Low, .int .i64 High, .slice WeightsO WeightsN WeightsC, .int .i64 RuleDown, .int .i64 RuleSleep], .int .i64 k0] w fun e w' => ∃ z : Int, (z = -1 ∨ (0 ≤ z ∧ z ≤ k0 ∧ WeightsN ≤ 1048576)) ∧ e = .returned (.int .i64 z) ∧ Below w.heap.size w w' := by
  refine fnB (tb := [(71, sSzIntS)]) ⟨sSzIntS_ok, trivial⟩ Try.func39 ((szPolicy_T Page Cap Limit Low High RuleDown RuleSleep WeightsO WeightsN WeightsC k0).mpr ?_) (HS.start w (fun _ => False)) (fun v ch' w' ⟨z, hv, hz⟩ hs => ⟨z, hz, by rw [hv], hs.below⟩)
  repeat' (first
    | (refine ⟨_, rfl, ?_⟩; first | exact .inl rfl | (refine .inr ?_; omega))
    | exact True.intro
    | assumption
    | refine And.intro ?_ ?_
    | omega
    | (intro h; exfalso; simp at h; done)
    | (intro h; exfalso; simp at h; omega)
    | intro _)
def sSzPolicyO : Sm := fun args ch k =>
  match args with
  | [.a (.c (.obj i v)), .a (.c kc)] =>
    match ch[i]?, asI kc with
    | some (.obj _ rs), some k0 => ∃ x : PolicyD, (isPolicy v x rs ∧ lensPolicy x ∧ szK k0) ∧ (k (.a (.c (.il (-1)))) ch [] ∧ ∀ z : Int, szO z k0 → capPolicy x → k (.a (.c (.int z))) ch [])
    | _, _ => False
  | _ => False
theorem sSzPolicyO_ok : SmOK Try.prog 39 sSzPolicyO := by
  refine smV Try.call39 fun args ch k w X h0 hs => ?_
  unfold sSzPolicyO at h0
  split at h0
  · rename_i i v kc
    split at h0
    · rename_i o rs k0 hi hk
      obtain ⟨x, ⟨⟨_, _, _, _, _, rfl, rfl⟩, hc, hk0⟩, h1, h2⟩ := h0
      simp only [List.map_cons, List.map_nil, den_a, den_c, asI_den hk]
      refine Calls.mono (szPolicy_any x.Page x.Cap x.Limit x.Low x.High x.RuleDown x.RuleSleep _ x.WeightsN _ k0 w hc hk0) fun e w' ⟨z, hz, he, hb⟩ => ?_
      rcases hz with rfl | ⟨hz0, hz1, hz2⟩
      · exact ⟨.a (.c (.il (-1))), he, hb, h1⟩
      · exact ⟨.a (.c (.int z)), he, hb, h2 z ⟨hz0, hz1⟩ hz2⟩
    · exact h0.elim
  · exact h0.elim
/-! PolicyBox -/
structure PolicyBoxD where
  ActivePage : Int
  ActiveCap : Int
  ActiveLimit : Int
  ActiveLow : Int
  ActiveHigh : Int
  ActiveWeightsN : Nat
  (ActiveWeightsg0 : Nat → Int)
  ActiveRuleDown : Int
  ActiveRuleSleep : Int
  NextPage : Int
  NextCap : Int
  NextLimit : Int
  NextLow : Int
  NextHigh : Int
  NextWeightsN : Nat
  (NextWeightsg0 : Nat → Int)
  NextRuleDown : Int
  NextRuleSleep : Int
  Waits : Bool
def isPolicyBox (v : Value) (x : PolicyBoxD) (rs : List Row) : Prop :=
  ∃ (ActiveWeightsO NextWeightsO : Option Addr) (ActiveWeightsC ActiveWeightsT ActiveWeightsK NextWeightsC NextWeightsT NextWeightsK : Nat) (ActiveWeightsB NextWeightsB : Bool), v = .agg #[.int .i64 x.ActivePage, .int .i64 x.ActiveCap, .int .i64 x.ActiveLimit, .int .i64 x.ActiveLow, .int .i64 x.ActiveHigh, .slice ActiveWeightsO x.ActiveWeightsN ActiveWeightsC, .int .i64 x.ActiveRuleDown, .int .i64 x.ActiveRuleSleep, .int .i64 x.NextPage, .int .i64 x.NextCap, .int .i64 x.NextLimit, .int .i64 x.NextLow, .int .i64 x.NextHigh, .slice NextWeightsO x.NextWeightsN NextWeightsC, .int .i64 x.NextRuleDown, .int .i64 x.NextRuleSleep, .bool x.Waits] ∧ rs = [⟨ActiveWeightsB, ActiveWeightsO, ActiveWeightsT, 1, x.ActiveWeightsN, ActiveWeightsK, [fun i => .int (x.ActiveWeightsg0 i)]⟩, ⟨NextWeightsB, NextWeightsO, NextWeightsT, 1, x.NextWeightsN, NextWeightsK, [fun i => .int (x.NextWeightsg0 i)]⟩]
abbrev capPolicyBox (x : PolicyBoxD) : Prop := x.ActiveWeightsN ≤ 1048576 ∧ x.NextWeightsN ≤ 1048576
abbrev szPPolicyBox (z k : Int) (ActiveWeightsN NextWeightsN : Nat) : Prop := z = -1 ∨ (0 ≤ z ∧ z ≤ k ∧ ActiveWeightsN ≤ 1048576 ∧ NextWeightsN ≤ 1048576)
abbrev lensPolicyBox (x : PolicyBoxD) : Prop := x.ActiveWeightsN ≤ 9223372036854775807 ∧ x.NextWeightsN ≤ 9223372036854775807
theorem wholePolicyBox {v : Value} {x : PolicyBoxD} {rs : List Row} (h : isPolicyBox v x rs) : wholeC true v 17 := by
  obtain ⟨_, _, _, _, _, _, _, _, _, _, rfl, rfl⟩ := h
  exact ⟨_, rfl, rfl, List.all_eq_true.1 rfl⟩
def markPolicyBoxD (k : Int) (x : PolicyBoxD) : PolicyBoxD := ⟨x.ActivePage, x.ActiveCap, x.ActiveLimit, x.ActiveLow, x.ActiveHigh, x.ActiveWeightsN, fun i => mk (k) 1 0 i, x.ActiveRuleDown, x.ActiveRuleSleep, x.NextPage, x.NextCap, x.NextLimit, x.NextLow, x.NextHigh, x.NextWeightsN, fun i => mk (mk (k) 1 0 x.ActiveWeightsN) 1 0 i, x.NextRuleDown, x.NextRuleSleep, x.Waits⟩
def endPolicyBox (k : Int) (x : PolicyBoxD) : Int := mk (mk (k) 1 0 x.ActiveWeightsN) 1 0 x.NextWeightsN
theorem toPolicyBox_T (ActivePage : Int) (ActiveCap : Int) (ActiveLimit : Int) (ActiveLow : Int) (ActiveHigh : Int) (ActiveWeightsO : Option Addr) (ActiveWeightsN ActiveWeightsC : Nat) (ActiveWeightsg0 : Nat → Int) (ActiveRuleDown : Int) (ActiveRuleSleep : Int) (NextPage : Int) (NextCap : Int) (NextLimit : Int) (NextLow : Int) (NextHigh : Int) (NextWeightsO : Option Addr) (NextWeightsN NextWeightsC : Nat) (NextWeightsg0 : Nat → Int) (NextRuleDown : Int) (NextRuleSleep : Int) (Waits : Bool) : (exFn Try.prog {tb := [(41, iToPolicy)]} 400 Try.f48 ([.a (.agg [.int ActivePage, .int ActiveCap, .int ActiveLimit, .int ActiveLow, .int ActiveHigh, .sl 0 ActiveWeightsO ActiveWeightsN ActiveWeightsC, .int ActiveRuleDown, .int ActiveRuleSleep, .int NextPage, .int NextCap, .int NextLimit, .int NextLow, .int NextHigh, .sl 1 NextWeightsO NextWeightsN NextWeightsC, .int NextRuleDown, .int NextRuleSleep, .bool Waits])]) ([.row ⟨false, ActiveWeightsO, 0, 1, ActiveWeightsN, 0, [fun i => .int (ActiveWeightsg0 i)]⟩, .row ⟨false, NextWeightsO, 0, 1, NextWeightsN, 0, [fun i => .int (NextWeightsg0 i)]⟩]) (fun v ch => ∃ (ro0 : Option Addr) (rc0 : Nat) (ro1 : Option Addr) (rc1 : Nat), OutR v ch (.agg #[.int .i64 (ActivePage), .int .i64 (ActiveCap), .int .i64 (ActiveLimit), .int .i64 (ActiveLow), .int .i64 (ActiveHigh), .slice ro0 (ActiveWeightsN) rc0, .int .i64 (ActiveRuleDown), .int .i64 (ActiveRuleSleep), .int .i64 (NextPage), .int .i64 (NextCap), .int .i64 (NextLimit), .int .i64 (NextLow), .int .i64 (NextHigh), .slice ro1 (NextWeightsN) rc1, .int .i64 (NextRuleDown), .int .i64 (NextRuleSleep), .bool (Waits)]) [.row ⟨true, ro0, 3, 1, ActiveWeightsN, rc0, [fun i => .int (ActiveWeightsg0 i)]⟩, .row ⟨true, ro1, 3, 1, NextWeightsN, rc1, [fun i => .int (NextWeightsg0 i)]⟩])) = (
  (∀ b0 : Nat,
  (∀ b1 : Nat,
  (∀ b2 : Nat,
  (b0 = b0 ∧
  (∀ b3 : Nat,
  (∀ b4 : Nat,
  (∀ b5 : Nat,
  (b3 = b3 ∧
  (b5 = b5 ∧
  (b3 = b3 ∧
  (b5 = b5 ∧
  (b3 = b3 ∧
  (b5 = b5 ∧
  (b3 = b3 ∧
  (b5 = b5 ∧
  (b3 = b3 ∧
  (b5 = b5 ∧
  (b3 = b3 ∧
  (Exists (fun (g06 : (Nat →
  Int)) => ((ActiveWeightsO = ActiveWeightsO ∧
  (ActiveWeightsN = ActiveWeightsN ∧
  ([(fun (i7 : Nat) => (SC.int (ActiveWeightsg0 i7)))] = [(fun (i8 : Nat) => (SC.int (g06 i8)))] ∧
  (capC ActiveWeightsN)))) ∧
  (∀ b9 : Nat,
  (b5 = b5 ∧
  (b3 = b3 ∧
  (∀ b10 : Nat,
  (∀ b11 : Nat,
  (∀ b12 : Nat,
  (b10 = b10 ∧
  (b12 = b12 ∧
  (b10 = b10 ∧
  (b12 = b12 ∧
  (b12 = b12 ∧
  (b11 = b11 ∧
  (b11 = b11 ∧
  (b5 = b5 ∧
  (b5 = b5 ∧
  (b4 = b4 ∧
  (b4 = b4 ∧
  (b2 = b2 ∧
  (b0 = b0 ∧
  (∀ b13 : Nat,
  (∀ b14 : Nat,
  (∀ b15 : Nat,
  (b13 = b13 ∧
  (b15 = b15 ∧
  (b13 = b13 ∧
  (b15 = b15 ∧
  (b13 = b13 ∧
  (b15 = b15 ∧
  (b13 = b13 ∧
  (b15 = b15 ∧
  (b13 = b13 ∧
  (b15 = b15 ∧
  (b13 = b13 ∧
  (Exists (fun (g016 : (Nat →
  Int)) => ((NextWeightsO = NextWeightsO ∧
  (NextWeightsN = NextWeightsN ∧
  ([(fun (i17 : Nat) => (SC.int (NextWeightsg0 i17)))] = [(fun (i18 : Nat) => (SC.int (g016 i18)))] ∧
  (capC NextWeightsN)))) ∧
  (∀ b19 : Nat,
  (b15 = b15 ∧
  (b13 = b13 ∧
  (∀ b20 : Nat,
  (∀ b21 : Nat,
  (∀ b22 : Nat,
  (b20 = b20 ∧
  (b22 = b22 ∧
  (b20 = b20 ∧
  (b22 = b22 ∧
  (b22 = b22 ∧
  (b21 = b21 ∧
  (b21 = b21 ∧
  (b15 = b15 ∧
  (b15 = b15 ∧
  (b14 = b14 ∧
  (b14 = b14 ∧
  (b2 = b2 ∧
  (b0 = b0 ∧
  (b2 = b2 ∧
  (b2 = b2 ∧
  (b1 = b1 ∧
  (b1 = b1 ∧
  (Exists (fun (ro023 : (Option Addr)) => (Exists (fun (rc024 : Nat) => (Exists (fun (ro125 : (Option Addr)) => (Exists (fun (rc126 : Nat) => ((Value.agg (List.toArray [(Value.int IntKind.i64 ActivePage), (Value.int IntKind.i64 ActiveCap), (Value.int IntKind.i64 ActiveLimit), (Value.int IntKind.i64 ActiveLow), (Value.int IntKind.i64 ActiveHigh), (Value.slice (Option.some (Addr.mk b9 0 Option.none)) ActiveWeightsN ActiveWeightsN), (Value.int IntKind.i64 ActiveRuleDown), (Value.int IntKind.i64 ActiveRuleSleep), (Value.int IntKind.i64 NextPage), (Value.int IntKind.i64 NextCap), (Value.int IntKind.i64 NextLimit), (Value.int IntKind.i64 NextLow), (Value.int IntKind.i64 NextHigh), (Value.slice (Option.some (Addr.mk b19 0 Option.none)) NextWeightsN NextWeightsN), (Value.int IntKind.i64 NextRuleDown), (Value.int IntKind.i64 NextRuleSleep), (Value.bool Waits)])) = (Value.agg (List.toArray [(Value.int IntKind.i64 ActivePage), (Value.int IntKind.i64 ActiveCap), (Value.int IntKind.i64 ActiveLimit), (Value.int IntKind.i64 ActiveLow), (Value.int IntKind.i64 ActiveHigh), (Value.slice ro023 ActiveWeightsN rc024), (Value.int IntKind.i64 ActiveRuleDown), (Value.int IntKind.i64 ActiveRuleSleep), (Value.int IntKind.i64 NextPage), (Value.int IntKind.i64 NextCap), (Value.int IntKind.i64 NextLimit), (Value.int IntKind.i64 NextLow), (Value.int IntKind.i64 NextHigh), (Value.slice ro125 NextWeightsN rc126), (Value.int IntKind.i64 NextRuleDown), (Value.int IntKind.i64 NextRuleSleep), (Value.bool Waits)])) ∧
  (((Bool.true = Bool.true ∧
  ((Option.some (Addr.mk b9 0 Option.none)) = ro023 ∧
  (3 = 3 ∧
  (1 = 1 ∧
  (ActiveWeightsN = ActiveWeightsN ∧
  (ActiveWeightsN = rc024 ∧
  ((∀ i27 : Nat,
  (i27 < ActiveWeightsN →
  (Value.int IntKind.i64 (g06 i27)) = (Value.int IntKind.i64 (ActiveWeightsg0 i27)))) ∧
  True))))))) ∧
  ((Bool.true = Bool.true ∧
  ((Option.some (Addr.mk b19 0 Option.none)) = ro125 ∧
  (3 = 3 ∧
  (1 = 1 ∧
  (NextWeightsN = NextWeightsN ∧
  (NextWeightsN = rc126 ∧
  ((∀ i28 : Nat,
  (i28 < NextWeightsN →
  (Value.int IntKind.i64 (g016 i28)) = (Value.int IntKind.i64 (NextWeightsg0 i28)))) ∧
  True))))))) ∧
  True)) ∧
  Bool.true = Bool.true))))))))))))))))))))))))))))))))))))))))))))))))))))))))))))))))))))))))))))))))))))))))))) := by kernel_rfl
theorem toPolicyBox_any (ActivePage : Int) (ActiveCap : Int) (ActiveLimit : Int) (ActiveLow : Int) (ActiveHigh : Int) (ActiveWeightsO : Option Addr) (ActiveWeightsN ActiveWeightsC : Nat) (ActiveWeightsg0 : Nat → Int) (ActiveRuleDown : Int) (ActiveRuleSleep : Int) (NextPage : Int) (NextCap : Int) (NextLimit : Int) (NextLow : Int) (NextHigh : Int) (NextWeightsO : Option Addr) (NextWeightsN NextWeightsC : Nat) (NextWeightsg0 : Nat → Int) (NextRuleDown : Int) (NextRuleSleep : Int) (Waits : Bool) (w : World) (hrActiveWeights : Row.sat w ⟨false, ActiveWeightsO, 0, 1, ActiveWeightsN, 0, [fun i => .int (ActiveWeightsg0 i)]⟩) (hrNextWeights : Row.sat w ⟨false, NextWeightsO, 0, 1, NextWeightsN, 0, [fun i => .int (NextWeightsg0 i)]⟩) (hpre : capC ActiveWeightsN ∧ capC NextWeightsN) : Calls Try.prog 48 #[.agg #[.int .i64 ActivePage, .int .i64 ActiveCap, .int .i64 ActiveLimit, .int .i64 ActiveLow, .int .i64 ActiveHigh, .slice ActiveWeightsO ActiveWeightsN ActiveWeightsC, .int .i64 ActiveRuleDown, .int .i64 ActiveRuleSleep, .int .i64 NextPage, .int .i64 NextCap, .int .i64 NextLimit, .int .i64 NextLow, .int .i64 NextHigh, .slice NextWeightsO NextWeightsN NextWeightsC, .int .i64 NextRuleDown, .int .i64 NextRuleSleep, .bool Waits]] w fun e w' => ∃ (ro0 : Option Addr) (rc0 : Nat) (ro1 : Option Addr) (rc1 : Nat), e = .returned (.agg #[.int .i64 (ActivePage), .int .i64 (ActiveCap), .int .i64 (ActiveLimit), .int .i64 (ActiveLow), .int .i64 (ActiveHigh), .slice ro0 (ActiveWeightsN) rc0, .int .i64 (ActiveRuleDown), .int .i64 (ActiveRuleSleep), .int .i64 (NextPage), .int .i64 (NextCap), .int .i64 (NextLimit), .int .i64 (NextLow), .int .i64 (NextHigh), .slice ro1 (NextWeightsN) rc1, .int .i64 (NextRuleDown), .int .i64 (NextRuleSleep), .bool (Waits)]) ∧ HS ⟨w, fun _ => False⟩ [.row ⟨true, ro0, 3, 1, ActiveWeightsN, rc0, [fun i => .int (ActiveWeightsg0 i)]⟩, .row ⟨true, ro1, 3, 1, NextWeightsN, rc1, [fun i => .int (NextWeightsg0 i)]⟩] w' := by
  refine fnB (tb := [(41, iToPolicy)]) ⟨iToPolicy_ok, trivial⟩ Try.func48 ((toPolicyBox_T ActivePage ActiveCap ActiveLimit ActiveLow ActiveHigh ActiveWeightsO ActiveWeightsN ActiveWeightsC ActiveWeightsg0 ActiveRuleDown ActiveRuleSleep NextPage NextCap NextLimit NextLow NextHigh NextWeightsO NextWeightsN NextWeightsC NextWeightsg0 NextRuleDown NextRuleSleep Waits).mpr ?_) (HS.rows (fun _ => False) [⟨false, ActiveWeightsO, 0, 1, ActiveWeightsN, 0, [fun i => .int (ActiveWeightsg0 i)]⟩, ⟨false, NextWeightsO, 0, 1, NextWeightsN, 0, [fun i => .int (NextWeightsg0 i)]⟩] (by simp; exact ⟨hrActiveWeights, hrNextWeights⟩)) (fun v ch' w' ⟨ro0, rc0, ro1, rc1, hk⟩ hs => ⟨ro0, rc0, ro1, rc1, by rw [hk.1], hk.hs hs⟩)
  clear hrActiveWeights hrNextWeights
  repeat' (first
    | exact rfl
    | exact True.intro
    | refine And.intro ?_ ?_
    | apply Exists.intro
    | assumption
    | omega
    | intro _)
def sToPolicyBoxO : Sm := fun args ch k =>
  match args with
  | [.a (.c (.obj i0 v0))] =>
    match ch[i0]? with
    | some (.obj _ r0) => ∃ (x : PolicyBoxD), (isPolicyBox v0 x r0 ∧ capPolicyBox x) ∧ ∀ (v' : Value) (rs' : List Row), isPolicyBox v' (x) rs' → k (.a (.c (.obj ch.length v'))) (ch ++ [.obj true rs']) []
    | _ => False
  | _ => False
theorem sToPolicyBoxO_ok_laws_toPolicyBox : SmOK Try.prog 48 sToPolicyBoxO := by
  refine smN Try.call48 fun args ch k w X h0 hs => ?_
  unfold sToPolicyBoxO at h0
  split at h0
  · rename_i i0 v0
    split at h0
    · rename_i o0 r0 hi0
      obtain ⟨x, ⟨⟨_, _, _, _, _, _, _, _, _, _, rfl, rfl⟩, hpre⟩, h0⟩ := h0
      have hw0 := hs.seeObj hi0
      simp only [List.map_cons, List.map_nil, den_a, den_c, SA.den, den_obj]
      refine Calls.mono (toPolicyBox_any x.ActivePage x.ActiveCap x.ActiveLimit x.ActiveLow x.ActiveHigh _ x.ActiveWeightsN _ x.ActiveWeightsg0 x.ActiveRuleDown x.ActiveRuleSleep x.NextPage x.NextCap x.NextLimit x.NextLow x.NextHigh _ x.NextWeightsN _ x.NextWeightsg0 x.NextRuleDown x.NextRuleSleep x.Waits w (Row.seenAs (hw0 _ (mem0)).2 rfl rfl) (Row.seenAs (hw0 _ ((memS mem0))).2 rfl rfl) hpre) fun e w' ⟨ro0, rc0, ro1, rc1, he, hs'⟩ => ⟨_, [.obj true _], ?_, hs'.pack (rs := [_, _]) (by simp), rfl, h0 _ _ ⟨ro0, ro1, rc0, _, _, rc1, _, _, _, _, rfl, rfl⟩⟩
      rw [he]
      rfl
    · exact h0.elim
  · exact h0.elim
theorem eqPolicyBox_T (ActivePage : Int) (ActiveCap : Int) (ActiveLimit : Int) (ActiveLow : Int) (ActiveHigh : Int) (ActiveWeightsN : Nat) (ActiveWeightsg0 : Nat → Int) (ActiveRuleDown : Int) (ActiveRuleSleep : Int) (NextPage : Int) (NextCap : Int) (NextLimit : Int) (NextLow : Int) (NextHigh : Int) (NextWeightsN : Nat) (NextWeightsg0 : Nat → Int) (NextRuleDown : Int) (NextRuleSleep : Int) (Waits : Bool) (aActiveWeightsO : Option Addr) (aActiveWeightsC : Nat) (aNextWeightsO : Option Addr) (aNextWeightsC : Nat) (bActiveWeightsO : Option Addr) (bActiveWeightsC : Nat) (bNextWeightsO : Option Addr) (bNextWeightsC : Nat) : (exFn Try.prog {tb := [(36, iEqPolicy)]} 400 Try.f50 ([.a (.agg [.int ActivePage, .int ActiveCap, .int ActiveLimit, .int ActiveLow, .int ActiveHigh, .sl 0 aActiveWeightsO ActiveWeightsN aActiveWeightsC, .int ActiveRuleDown, .int ActiveRuleSleep, .int NextPage, .int NextCap, .int NextLimit, .int NextLow, .int NextHigh, .sl 1 aNextWeightsO NextWeightsN aNextWeightsC, .int NextRuleDown, .int NextRuleSleep, .bool Waits]), .a (.agg [.int ActivePage, .int ActiveCap, .int ActiveLimit, .int ActiveLow, .int ActiveHigh, .sl 2 bActiveWeightsO ActiveWeightsN bActiveWeightsC, .int ActiveRuleDown, .int ActiveRuleSleep, .int NextPage, .int NextCap, .int NextLimit, .int NextLow, .int NextHigh, .sl 3 bNextWeightsO NextWeightsN bNextWeightsC, .int NextRuleDown, .int NextRuleSleep, .bool Waits])]) ([.row ⟨false, aActiveWeightsO, 0, 1, ActiveWeightsN, 0, [fun i => .int (ActiveWeightsg0 i)]⟩, .row ⟨false, aNextWeightsO, 0, 1, NextWeightsN, 0, [fun i => .int (NextWeightsg0 i)]⟩, .row ⟨false, bActiveWeightsO, 0, 1, ActiveWeightsN, 0, [fun i => .int (ActiveWeightsg0 i)]⟩, .row ⟨false, bNextWeightsO, 0, 1, NextWeightsN, 0, [fun i => .int (NextWeightsg0 i)]⟩]) (fun v _ => v.den = .bool true)) = (
  (∀ b0 : Nat,
  (∀ b1 : Nat,
  (b0 = b0 ∧
  (b1 = b1 ∧
  (∀ b2 : Nat,
  (∀ b3 : Nat,
  (b2 = b2 ∧
  (b3 = b3 ∧
  (((ActivePage != ActivePage) = Bool.true →
  (Value.bool Bool.false) = (Value.bool Bool.true)) ∧
  ((ActivePage != ActivePage) = Bool.false →
  (b2 = b2 ∧
   (b3 = b3 ∧
   (((ActiveCap != ActiveCap) = Bool.true →
   (Value.bool Bool.false) = (Value.bool Bool.true)) ∧
   ((ActiveCap != ActiveCap) = Bool.false →
   (b2 = b2 ∧
    (b3 = b3 ∧
    (((ActiveLimit != ActiveLimit) = Bool.true →
    (Value.bool Bool.false) = (Value.bool Bool.true)) ∧
    ((ActiveLimit != ActiveLimit) = Bool.false →
    (b2 = b2 ∧
     (b3 = b3 ∧
     (((ActiveLow != ActiveLow) = Bool.true →
     (Value.bool Bool.false) = (Value.bool Bool.true)) ∧
     ((ActiveLow != ActiveLow) = Bool.false →
     (b2 = b2 ∧
      (b3 = b3 ∧
      (((ActiveHigh != ActiveHigh) = Bool.true →
      (Value.bool Bool.false) = (Value.bool Bool.true)) ∧
      ((ActiveHigh != ActiveHigh) = Bool.false →
      (b2 = b2 ∧
       (b3 = b3 ∧
       (Exists (fun (g04 : (Nat →
       Int)) => (Exists (fun (q05 : (Nat →
       Int)) => ((aActiveWeightsO = aActiveWeightsO ∧
       (ActiveWeightsN = ActiveWeightsN ∧
       ([(fun (i6 : Nat) => (SC.int (ActiveWeightsg0 i6)))] = [(fun (i7 : Nat) => (SC.int (g04 i7)))] ∧
       (bActiveWeightsO = bActiveWeightsO ∧
       (ActiveWeightsN = ActiveWeightsN ∧
       ([(fun (i8 : Nat) => (SC.int (ActiveWeightsg0 i8)))] = [(fun (i9 : Nat) => (SC.int (q05 i9)))] ∧
       (ActiveWeightsN = ActiveWeightsN ∧
       (capC ActiveWeightsN)))))))) ∧
       ((∀ i10 : Nat,
       (i10 < ActiveWeightsN →
       (g04 i10) = (q05 i10))) ∧
       (b2 = b2 ∧
       (b3 = b3 ∧
       (∀ b11 : Nat,
       (∀ b12 : Nat,
       (b11 = b11 ∧
       (b12 = b12 ∧
       (((ActiveRuleDown != ActiveRuleDown) = Bool.true →
       (Value.bool Bool.false) = (Value.bool Bool.true)) ∧
       ((ActiveRuleDown != ActiveRuleDown) = Bool.false →
       (b11 = b11 ∧
        (b12 = b12 ∧
        (((ActiveRuleSleep != ActiveRuleSleep) = Bool.true →
        (Value.bool Bool.false) = (Value.bool Bool.true)) ∧
        ((ActiveRuleSleep != ActiveRuleSleep) = Bool.false →
        (b0 = b0 ∧
         (b1 = b1 ∧
         (∀ b13 : Nat,
         (∀ b14 : Nat,
         (b13 = b13 ∧
         (b14 = b14 ∧
         (((NextPage != NextPage) = Bool.true →
         (Value.bool Bool.false) = (Value.bool Bool.true)) ∧
         ((NextPage != NextPage) = Bool.false →
         (b13 = b13 ∧
          (b14 = b14 ∧
          (((NextCap != NextCap) = Bool.true →
          (Value.bool Bool.false) = (Value.bool Bool.true)) ∧
          ((NextCap != NextCap) = Bool.false →
          (b13 = b13 ∧
           (b14 = b14 ∧
           (((NextLimit != NextLimit) = Bool.true →
           (Value.bool Bool.false) = (Value.bool Bool.true)) ∧
           ((NextLimit != NextLimit) = Bool.false →
           (b13 = b13 ∧
            (b14 = b14 ∧
            (((NextLow != NextLow) = Bool.true →
            (Value.bool Bool.false) = (Value.bool Bool.true)) ∧
            ((NextLow != NextLow) = Bool.false →
            (b13 = b13 ∧
             (b14 = b14 ∧
             (((NextHigh != NextHigh) = Bool.true →
             (Value.bool Bool.false) = (Value.bool Bool.true)) ∧
             ((NextHigh != NextHigh) = Bool.false →
             (b13 = b13 ∧
              (b14 = b14 ∧
              (Exists (fun (g015 : (Nat →
              Int)) => (Exists (fun (q016 : (Nat →
              Int)) => ((aNextWeightsO = aNextWeightsO ∧
              (NextWeightsN = NextWeightsN ∧
              ([(fun (i17 : Nat) => (SC.int (NextWeightsg0 i17)))] = [(fun (i18 : Nat) => (SC.int (g015 i18)))] ∧
              (bNextWeightsO = bNextWeightsO ∧
              (NextWeightsN = NextWeightsN ∧
              ([(fun (i19 : Nat) => (SC.int (NextWeightsg0 i19)))] = [(fun (i20 : Nat) => (SC.int (q016 i20)))] ∧
              (NextWeightsN = NextWeightsN ∧
              (capC NextWeightsN)))))))) ∧
              ((∀ i21 : Nat,
              (i21 < NextWeightsN →
              (g015 i21) = (q016 i21))) ∧
              (b13 = b13 ∧
              (b14 = b14 ∧
              (∀ b22 : Nat,
              (∀ b23 : Nat,
              (b22 = b22 ∧
              (b23 = b23 ∧
              (((NextRuleDown != NextRuleDown) = Bool.true →
              (Value.bool Bool.false) = (Value.bool Bool.true)) ∧
              ((NextRuleDown != NextRuleDown) = Bool.false →
              (b22 = b22 ∧
               (b23 = b23 ∧
               (((NextRuleSleep != NextRuleSleep) = Bool.true →
               (Value.bool Bool.false) = (Value.bool Bool.true)) ∧
               ((NextRuleSleep != NextRuleSleep) = Bool.false →
               (b0 = b0 ∧
                (b1 = b1 ∧
                (((Waits != Waits) = Bool.true →
                (Value.bool Bool.false) = (Value.bool Bool.true)) ∧
                ((Waits != Waits) = Bool.false →
                (Value.bool Bool.true) = (Value.bool Bool.true)))))))))))))))))))))))))))))))))))))))))))))))))))))))))))))))))))))))))))))))))))))))))))))))) := by kernel_rfl
theorem eqPolicyBox_any (ActivePage : Int) (ActiveCap : Int) (ActiveLimit : Int) (ActiveLow : Int) (ActiveHigh : Int) (ActiveWeightsN : Nat) (ActiveWeightsg0 : Nat → Int) (ActiveRuleDown : Int) (ActiveRuleSleep : Int) (NextPage : Int) (NextCap : Int) (NextLimit : Int) (NextLow : Int) (NextHigh : Int) (NextWeightsN : Nat) (NextWeightsg0 : Nat → Int) (NextRuleDown : Int) (NextRuleSleep : Int) (Waits : Bool) (aActiveWeightsO : Option Addr) (aActiveWeightsC : Nat) (aNextWeightsO : Option Addr) (aNextWeightsC : Nat) (bActiveWeightsO : Option Addr) (bActiveWeightsC : Nat) (bNextWeightsO : Option Addr) (bNextWeightsC : Nat) (w : World) (hra0 : Row.sat w ⟨false, aActiveWeightsO, 0, 1, ActiveWeightsN, 0, [fun i => .int (ActiveWeightsg0 i)]⟩) (hra1 : Row.sat w ⟨false, aNextWeightsO, 0, 1, NextWeightsN, 0, [fun i => .int (NextWeightsg0 i)]⟩) (hrb0 : Row.sat w ⟨false, bActiveWeightsO, 0, 1, ActiveWeightsN, 0, [fun i => .int (ActiveWeightsg0 i)]⟩) (hrb1 : Row.sat w ⟨false, bNextWeightsO, 0, 1, NextWeightsN, 0, [fun i => .int (NextWeightsg0 i)]⟩) (hcap : ActiveWeightsN ≤ 1048576 ∧ NextWeightsN ≤ 1048576) : Calls Try.prog 50 #[.agg #[.int .i64 ActivePage, .int .i64 ActiveCap, .int .i64 ActiveLimit, .int .i64 ActiveLow, .int .i64 ActiveHigh, .slice aActiveWeightsO ActiveWeightsN aActiveWeightsC, .int .i64 ActiveRuleDown, .int .i64 ActiveRuleSleep, .int .i64 NextPage, .int .i64 NextCap, .int .i64 NextLimit, .int .i64 NextLow, .int .i64 NextHigh, .slice aNextWeightsO NextWeightsN aNextWeightsC, .int .i64 NextRuleDown, .int .i64 NextRuleSleep, .bool Waits], .agg #[.int .i64 ActivePage, .int .i64 ActiveCap, .int .i64 ActiveLimit, .int .i64 ActiveLow, .int .i64 ActiveHigh, .slice bActiveWeightsO ActiveWeightsN bActiveWeightsC, .int .i64 ActiveRuleDown, .int .i64 ActiveRuleSleep, .int .i64 NextPage, .int .i64 NextCap, .int .i64 NextLimit, .int .i64 NextLow, .int .i64 NextHigh, .slice bNextWeightsO NextWeightsN bNextWeightsC, .int .i64 NextRuleDown, .int .i64 NextRuleSleep, .bool Waits]] w fun e w' => e = .returned (.bool true) ∧ Below w.heap.size w w' := by
  refine fnB (tb := [(36, iEqPolicy)]) ⟨iEqPolicy_ok, trivial⟩ Try.func50 ((eqPolicyBox_T ActivePage ActiveCap ActiveLimit ActiveLow ActiveHigh ActiveWeightsN ActiveWeightsg0 ActiveRuleDown ActiveRuleSleep NextPage NextCap NextLimit NextLow NextHigh NextWeightsN NextWeightsg0 NextRuleDown NextRuleSleep Waits aActiveWeightsO aActiveWeightsC aNextWeightsO aNextWeightsC bActiveWeightsO bActiveWeightsC bNextWeightsO bNextWeightsC).mpr ?_) (HS.rows (fun _ => False) [⟨false, aActiveWeightsO, 0, 1, ActiveWeightsN, 0, [fun i => .int (ActiveWeightsg0 i)]⟩, ⟨false, aNextWeightsO, 0, 1, NextWeightsN, 0, [fun i => .int (NextWeightsg0 i)]⟩, ⟨false, bActiveWeightsO, 0, 1, ActiveWeightsN, 0, [fun i => .int (ActiveWeightsg0 i)]⟩, ⟨false, bNextWeightsO, 0, 1, NextWeightsN, 0, [fun i => .int (NextWeightsg0 i)]⟩] (by simp; exact ⟨hra0, hra1, hrb0, hrb1⟩)) (fun v ch' w' hk hs => ⟨by rw [hk], hs.below⟩)
  clear hra0 hra1 hrb0 hrb1
  repeat' (first
    | exact rfl
    | exact True.intro
    | assumption
    | refine And.intro ?_ ?_
    | apply Exists.intro
    | omega
    | (intro h; exfalso; simp at h; done)
    | (intro h; exfalso; simp at h; omega)
    | intro _)
def sEqPolicyBoxO : Sm := fun args ch k =>
  match args with
  | [.a (.c (.obj i v)), .a (.c (.obj j u))] =>
    match ch[i]?, ch[j]? with
    | some (.obj _ rs), some (.obj _ us) => ∃ x : PolicyBoxD, (isPolicyBox v x rs ∧ isPolicyBox u x us ∧ capPolicyBox x) ∧ k (.a (.c (.lit true))) ch []
    | _, _ => False
  | _ => False
theorem sEqPolicyBoxO_ok : SmOK Try.prog 50 sEqPolicyBoxO := by
  refine smB Try.call50 fun args ch k w X h0 hs => ?_
  unfold sEqPolicyBoxO at h0
  split at h0
  · rename_i i v j u
    split at h0
    · rename_i o rs o' us hi hj
      obtain ⟨x, ⟨⟨_, _, _, _, _, _, _, _, _, _, rfl, rfl⟩, ⟨_, _, _, _, _, _, _, _, _, _, rfl, rfl⟩, hc⟩, h0⟩ := h0
      have h1 := hs.seeObj hi
      have h2 := hs.seeObj hj
      refine ⟨_, h0, ?_⟩
      exact eqPolicyBox_any x.ActivePage x.ActiveCap x.ActiveLimit x.ActiveLow x.ActiveHigh x.ActiveWeightsN x.ActiveWeightsg0 x.ActiveRuleDown x.ActiveRuleSleep x.NextPage x.NextCap x.NextLimit x.NextLow x.NextHigh x.NextWeightsN x.NextWeightsg0 x.NextRuleDown x.NextRuleSleep x.Waits _ _ _ _ _ _ _ _ w (Row.seenAs (h1 _ (mem0)).2 rfl rfl) (Row.seenAs (h1 _ ((memS mem0))).2 rfl rfl) (Row.seenAs (h2 _ (mem0)).2 rfl rfl) (Row.seenAs (h2 _ ((memS mem0))).2 rfl rfl) hc
    · exact h0.elim
  · exact h0.elim
theorem markPolicyBox_T (ActivePage : Int) (ActiveCap : Int) (ActiveLimit : Int) (ActiveLow : Int) (ActiveHigh : Int) (ActiveWeightsN : Nat) (ActiveWeightsg0 : Nat → Int) (ActiveRuleDown : Int) (ActiveRuleSleep : Int) (NextPage : Int) (NextCap : Int) (NextLimit : Int) (NextLow : Int) (NextHigh : Int) (NextWeightsN : Nat) (NextWeightsg0 : Nat → Int) (NextRuleDown : Int) (NextRuleSleep : Int) (Waits : Bool) (ActiveWeightsO : Option Addr) (ActiveWeightsC : Nat) (NextWeightsO : Option Addr) (NextWeightsC : Nat) (ActiveWeightsT ActiveWeightsK NextWeightsT NextWeightsK : Nat) (k0 : Int) : (exFn Try.prog {tb := [(37, iMarkPolicy)]} 400 Try.f51 ([.a (.agg [.int ActivePage, .int ActiveCap, .int ActiveLimit, .int ActiveLow, .int ActiveHigh, .sl 0 ActiveWeightsO ActiveWeightsN ActiveWeightsC, .int ActiveRuleDown, .int ActiveRuleSleep, .int NextPage, .int NextCap, .int NextLimit, .int NextLow, .int NextHigh, .sl 1 NextWeightsO NextWeightsN NextWeightsC, .int NextRuleDown, .int NextRuleSleep, .bool Waits]), .a (.c (.int k0))]) ([.row ⟨true, ActiveWeightsO, ActiveWeightsT, 1, ActiveWeightsN, ActiveWeightsK, [fun i => .int (ActiveWeightsg0 i)]⟩, .row ⟨true, NextWeightsO, NextWeightsT, 1, NextWeightsN, NextWeightsK, [fun i => .int (NextWeightsg0 i)]⟩]) (fun v ch => v.den = .int .i64 (mk (mk (k0) 1 0 ActiveWeightsN) 1 0 NextWeightsN) ∧ selC ch [0, 1] = [.row ⟨true, ActiveWeightsO, ActiveWeightsT, 1, ActiveWeightsN, ActiveWeightsK, [fun i => .int (mk (k0) 1 0 i)]⟩, .row ⟨true, NextWeightsO, NextWeightsT, 1, NextWeightsN, NextWeightsK, [fun i => .int (mk (mk (k0) 1 0 ActiveWeightsN) 1 0 i)]⟩])) = (
  (∀ b0 : Nat,
  (b0 = b0 ∧
  (∀ b1 : Nat,
  (b1 = b1 ∧
  (Exists (fun (g02 : (Nat →
  Int)) => ((ActiveWeightsO = ActiveWeightsO ∧
  (ActiveWeightsN = ActiveWeightsN ∧
  ([(fun (i3 : Nat) => (SC.int (ActiveWeightsg0 i3)))] = [(fun (i4 : Nat) => (SC.int (g02 i4)))] ∧
  (markC ActiveWeightsN k0)))) ∧
  (b0 = b0 ∧
  (∀ b5 : Nat,
  (b5 = b5 ∧
  (Exists (fun (g06 : (Nat →
  Int)) => ((NextWeightsO = NextWeightsO ∧
  (NextWeightsN = NextWeightsN ∧
  ([(fun (i7 : Nat) => (SC.int (NextWeightsg0 i7)))] = [(fun (i8 : Nat) => (SC.int (g06 i8)))] ∧
  (markC NextWeightsN (mk k0 1 0 ActiveWeightsN))))) ∧
  ((Value.int IntKind.i64 (mk (mk k0 1 0 ActiveWeightsN) 1 0 NextWeightsN)) = (Value.int IntKind.i64 (mk (mk k0 1 0 ActiveWeightsN) 1 0 NextWeightsN)) ∧
  [(Ch.row (Row.mk Bool.true ActiveWeightsO ActiveWeightsT 1 ActiveWeightsN ActiveWeightsK [(fun (i9 : Nat) => (SC.int (mk k0 1 0 i9)))])), (Ch.row (Row.mk Bool.true NextWeightsO NextWeightsT 1 NextWeightsN NextWeightsK [(fun (i10 : Nat) => (SC.int (mk (mk k0 1 0 ActiveWeightsN) 1 0 i10)))]))] = [(Ch.row (Row.mk Bool.true ActiveWeightsO ActiveWeightsT 1 ActiveWeightsN ActiveWeightsK [(fun (i11 : Nat) => (SC.int (mk k0 1 0 i11)))])), (Ch.row (Row.mk Bool.true NextWeightsO NextWeightsT 1 NextWeightsN NextWeightsK [(fun (i12 : Nat) => (SC.int (mk (mk k0 1 0 ActiveWeightsN) 1 0 i12)))]))]))))))))))))))) := by kernel_rfl
theorem markPolicyBox_any (ActivePage : Int) (ActiveCap : Int) (ActiveLimit : Int) (ActiveLow : Int) (ActiveHigh : Int) (ActiveWeightsN : Nat) (ActiveWeightsg0 : Nat → Int) (ActiveRuleDown : Int) (ActiveRuleSleep : Int) (NextPage : Int) (NextCap : Int) (NextLimit : Int) (NextLow : Int) (NextHigh : Int) (NextWeightsN : Nat) (NextWeightsg0 : Nat → Int) (NextRuleDown : Int) (NextRuleSleep : Int) (Waits : Bool) (ActiveWeightsO : Option Addr) (ActiveWeightsC : Nat) (NextWeightsO : Option Addr) (NextWeightsC : Nat) (ActiveWeightsT ActiveWeightsK NextWeightsT NextWeightsK : Nat) (k0 : Int) (w : World) (M : Nat → Prop) (hs : HS ⟨w, M⟩ [.row ⟨true, ActiveWeightsO, ActiveWeightsT, 1, ActiveWeightsN, ActiveWeightsK, [fun i => .int (ActiveWeightsg0 i)]⟩, .row ⟨true, NextWeightsO, NextWeightsT, 1, NextWeightsN, NextWeightsK, [fun i => .int (NextWeightsg0 i)]⟩] w) (hcap : ActiveWeightsN ≤ 1048576 ∧ NextWeightsN ≤ 1048576) (h0 : 0 ≤ k0 ∧ k0 ≤ 549755813888) : Calls Try.prog 51 #[.agg #[.int .i64 ActivePage, .int .i64 ActiveCap, .int .i64 ActiveLimit, .int .i64 ActiveLow, .int .i64 ActiveHigh, .slice ActiveWeightsO ActiveWeightsN ActiveWeightsC, .int .i64 ActiveRuleDown, .int .i64 ActiveRuleSleep, .int .i64 NextPage, .int .i64 NextCap, .int .i64 NextLimit, .int .i64 NextLow, .int .i64 NextHigh, .slice NextWeightsO NextWeightsN NextWeightsC, .int .i64 NextRuleDown, .int .i64 NextRuleSleep, .bool Waits], .int .i64 k0] w fun e w' => e = .returned (.int .i64 (mk (mk (k0) 1 0 ActiveWeightsN) 1 0 NextWeightsN)) ∧ HS ⟨w, M⟩ [.row ⟨true, ActiveWeightsO, ActiveWeightsT, 1, ActiveWeightsN, ActiveWeightsK, [fun i => .int (mk (k0) 1 0 i)]⟩, .row ⟨true, NextWeightsO, NextWeightsT, 1, NextWeightsN, NextWeightsK, [fun i => .int (mk (mk (k0) 1 0 ActiveWeightsN) 1 0 i)]⟩] w' := by
  refine fnB (tb := [(37, iMarkPolicy)]) ⟨iMarkPolicy_ok, trivial⟩ Try.func51 ((markPolicyBox_T ActivePage ActiveCap ActiveLimit ActiveLow ActiveHigh ActiveWeightsN ActiveWeightsg0 ActiveRuleDown ActiveRuleSleep NextPage NextCap NextLimit NextLow NextHigh NextWeightsN NextWeightsg0 NextRuleDown NextRuleSleep Waits ActiveWeightsO ActiveWeightsC NextWeightsO NextWeightsC ActiveWeightsT ActiveWeightsK NextWeightsT NextWeightsK k0).mpr ?_) hs (fun v ch' w' ⟨hv, hc⟩ hs => ⟨by rw [hv], by rw [← hc]; exact hs.sel _ (by simp)⟩)
  clear hs
  have hb0 : 0 ≤ mk (k0) 1 0 ActiveWeightsN ∧ mk (k0) 1 0 ActiveWeightsN ≤ k0 + 16777216 := mk_more (by omega) (by omega) (by omega)
  have hb1 : 0 ≤ mk (mk (k0) 1 0 ActiveWeightsN) 1 0 NextWeightsN ∧ mk (mk (k0) 1 0 ActiveWeightsN) 1 0 NextWeightsN ≤ mk (k0) 1 0 ActiveWeightsN + 16777216 := mk_more (by omega) (by omega) (by omega)
  repeat' (first
    | exact rfl
    | exact True.intro
    | assumption
    | refine And.intro ?_ ?_
    | apply Exists.intro
    | omega
    | (intro h; exfalso; simp at h; done)
    | (intro h; exfalso; simp at h; omega)
    | intro _)
def sMarkPolicyBoxO : Sm := fun args ch k =>
  match args with
  | [.a (.c (.obj i v)), .a (.c kc)] =>
    match ch[i]?, asI kc with
    | some (.obj true rs), some k0 => ∃ x : PolicyBoxD, (isPolicyBox v x rs ∧ capPolicyBox x ∧ mrkC k0) ∧ (endC k0 (endPolicyBox k0 x) 33554432 → ∀ rs' : List Row, isPolicyBox v (markPolicyBoxD k0 x) rs' → k (.a (.c (.int (endPolicyBox k0 x)))) (ch.set i (.obj true rs')) [i])
    | _, _ => False
  | _ => False
theorem sMarkPolicyBoxO_ok : SmOK Try.prog 51 sMarkPolicyBoxO := by
  refine smTurnO Try.call51 fun args ch k w X h0 hs => ?_
  unfold sMarkPolicyBoxO at h0
  split at h0
  · rename_i i v kc
    split at h0
    · rename_i rs k0 hi hk
      obtain ⟨x, ⟨⟨ActiveWeightsO, NextWeightsO, ActiveWeightsC, ActiveWeightsT, ActiveWeightsK, NextWeightsC, NextWeightsT, NextWeightsK, ActiveWeightsB, NextWeightsB, rfl, rfl⟩, hc, hk0⟩, h0⟩ := h0
      have h1 := hs.seeObj hi
      have eActiveWeights : ActiveWeightsB = true := (h1 _ (mem0)).1
      subst eActiveWeights
      have eNextWeights : NextWeightsB = true := (h1 _ ((memS mem0))).1
      subst eNextWeights
      have hb0 : 0 ≤ mk (k0) 1 0 x.ActiveWeightsN ∧ mk (k0) 1 0 x.ActiveWeightsN ≤ k0 + 16777216 := mk_more (by omega) (by omega) (by omega)
      have hb1 : 0 ≤ mk (mk (k0) 1 0 x.ActiveWeightsN) 1 0 x.NextWeightsN ∧ mk (mk (k0) 1 0 x.ActiveWeightsN) 1 0 x.NextWeightsN ≤ mk (k0) 1 0 x.ActiveWeightsN + 16777216 := mk_more (by omega) (by omega) (by omega)
      refine ⟨_, i, _, _, hi, h0 ⟨by unfold endPolicyBox; omega, by unfold endPolicyBox; omega⟩ [⟨true, ActiveWeightsO, ActiveWeightsT, 1, x.ActiveWeightsN, ActiveWeightsK, [fun i => .int ((markPolicyBoxD k0 x).ActiveWeightsg0 i)]⟩, ⟨true, NextWeightsO, NextWeightsT, 1, x.NextWeightsN, NextWeightsK, [fun i => .int ((markPolicyBoxD k0 x).NextWeightsg0 i)]⟩] ⟨_, _, _, _, _, _, _, _, _, _, rfl, rfl⟩, by simp, (at_cons rfl rfl rfl ((at_cons rfl rfl rfl (fun _ h => h)))), ?_⟩
      simp only [List.map_cons, List.map_nil, den_a, den_c, asI_den hk]
      exact markPolicyBox_any x.ActivePage x.ActiveCap x.ActiveLimit x.ActiveLow x.ActiveHigh x.ActiveWeightsN x.ActiveWeightsg0 x.ActiveRuleDown x.ActiveRuleSleep x.NextPage x.NextCap x.NextLimit x.NextLow x.NextHigh x.NextWeightsN x.NextWeightsg0 x.NextRuleDown x.NextRuleSleep x.Waits ActiveWeightsO ActiveWeightsC NextWeightsO NextWeightsC ActiveWeightsT ActiveWeightsK NextWeightsT NextWeightsK k0 w _ (hs.open hi) hc hk0
    · exact h0.elim
  · exact h0.elim
theorem heldPolicyBox_T (ActivePage : Int) (ActiveCap : Int) (ActiveLimit : Int) (ActiveLow : Int) (ActiveHigh : Int) (ActiveRuleDown : Int) (ActiveRuleSleep : Int) (NextPage : Int) (NextCap : Int) (NextLimit : Int) (NextLow : Int) (NextHigh : Int) (NextRuleDown : Int) (NextRuleSleep : Int) (Waits : Bool) (ActiveWeightsN NextWeightsN : Nat) (ActiveWeightsO : Option Addr) (ActiveWeightsC : Nat) (NextWeightsO : Option Addr) (NextWeightsC : Nat) (k0 : Int) : (exFn Try.prog {tb := [(38, iHeldPolicy)]} 400 Try.f52 ([.a (.agg [.int ActivePage, .int ActiveCap, .int ActiveLimit, .int ActiveLow, .int ActiveHigh, .sl 0 ActiveWeightsO ActiveWeightsN ActiveWeightsC, .int ActiveRuleDown, .int ActiveRuleSleep, .int NextPage, .int NextCap, .int NextLimit, .int NextLow, .int NextHigh, .sl 1 NextWeightsO NextWeightsN NextWeightsC, .int NextRuleDown, .int NextRuleSleep, .bool Waits]), .a (.c (.int k0))]) ([.row ⟨false, ActiveWeightsO, 0, 1, ActiveWeightsN, 0, [fun i => .int (mk (k0) 1 0 i)]⟩, .row ⟨false, NextWeightsO, 0, 1, NextWeightsN, 0, [fun i => .int (mk (mk (k0) 1 0 ActiveWeightsN) 1 0 i)]⟩]) (fun v _ => v.den = .int .i64 (mk (mk (k0) 1 0 ActiveWeightsN) 1 0 NextWeightsN))) = (
  (∀ b0 : Nat,
  (b0 = b0 ∧
  (∀ b1 : Nat,
  (b1 = b1 ∧
  ((ActiveWeightsO = ActiveWeightsO ∧
  (ActiveWeightsN = ActiveWeightsN ∧
  ([(fun (i2 : Nat) => (SC.int (mk k0 1 0 i2)))] = [(fun (i3 : Nat) => (SC.int (mk k0 1 0 i3)))] ∧
  (markC ActiveWeightsN k0)))) ∧
  (((decide ((mk k0 1 0 ActiveWeightsN) < (0 : Int))) = Bool.true →
  (Value.int IntKind.i64 (-1 : Int)) = (Value.int IntKind.i64 (mk (mk k0 1 0 ActiveWeightsN) 1 0 NextWeightsN))) ∧
  ((decide ((mk k0 1 0 ActiveWeightsN) < (0 : Int))) = Bool.false →
  (((decide ((mk k0 1 0 ActiveWeightsN) < (0 : Int))) = Bool.true →
   (Value.int IntKind.i64 (-1 : Int)) = (Value.int IntKind.i64 (mk (mk k0 1 0 ActiveWeightsN) 1 0 NextWeightsN))) ∧
   ((decide ((mk k0 1 0 ActiveWeightsN) < (0 : Int))) = Bool.false →
   (b0 = b0 ∧
    (∀ b4 : Nat,
    (b4 = b4 ∧
    ((NextWeightsO = NextWeightsO ∧
    (NextWeightsN = NextWeightsN ∧
    ([(fun (i5 : Nat) => (SC.int (mk (mk k0 1 0 ActiveWeightsN) 1 0 i5)))] = [(fun (i6 : Nat) => (SC.int (mk (mk k0 1 0 ActiveWeightsN) 1 0 i6)))] ∧
    (markC NextWeightsN (mk k0 1 0 ActiveWeightsN))))) ∧
    (((decide ((mk (mk k0 1 0 ActiveWeightsN) 1 0 NextWeightsN) < (0 : Int))) = Bool.true →
    (Value.int IntKind.i64 (-1 : Int)) = (Value.int IntKind.i64 (mk (mk k0 1 0 ActiveWeightsN) 1 0 NextWeightsN))) ∧
    ((decide ((mk (mk k0 1 0 ActiveWeightsN) 1 0 NextWeightsN) < (0 : Int))) = Bool.false →
    (((decide ((mk (mk k0 1 0 ActiveWeightsN) 1 0 NextWeightsN) < (0 : Int))) = Bool.true →
     (Value.int IntKind.i64 (-1 : Int)) = (Value.int IntKind.i64 (mk (mk k0 1 0 ActiveWeightsN) 1 0 NextWeightsN))) ∧
     ((decide ((mk (mk k0 1 0 ActiveWeightsN) 1 0 NextWeightsN) < (0 : Int))) = Bool.false →
     (Value.int IntKind.i64 (mk (mk k0 1 0 ActiveWeightsN) 1 0 NextWeightsN)) = (Value.int IntKind.i64 (mk (mk k0 1 0 ActiveWeightsN) 1 0 NextWeightsN)))))))))))))))))))) := by kernel_rfl
theorem heldPolicyBox_any (ActivePage : Int) (ActiveCap : Int) (ActiveLimit : Int) (ActiveLow : Int) (ActiveHigh : Int) (ActiveRuleDown : Int) (ActiveRuleSleep : Int) (NextPage : Int) (NextCap : Int) (NextLimit : Int) (NextLow : Int) (NextHigh : Int) (NextRuleDown : Int) (NextRuleSleep : Int) (Waits : Bool) (ActiveWeightsN NextWeightsN : Nat) (ActiveWeightsO : Option Addr) (ActiveWeightsC : Nat) (NextWeightsO : Option Addr) (NextWeightsC : Nat) (k0 : Int) (w : World) (hr0 : Row.sat w ⟨false, ActiveWeightsO, 0, 1, ActiveWeightsN, 0, [fun i => .int (mk (k0) 1 0 i)]⟩) (hr1 : Row.sat w ⟨false, NextWeightsO, 0, 1, NextWeightsN, 0, [fun i => .int (mk (mk (k0) 1 0 ActiveWeightsN) 1 0 i)]⟩) (hcap : ActiveWeightsN ≤ 1048576 ∧ NextWeightsN ≤ 1048576) (h0 : 0 ≤ k0 ∧ k0 ≤ 549755813888) : Calls Try.prog 52 #[.agg #[.int .i64 ActivePage, .int .i64 ActiveCap, .int .i64 ActiveLimit, .int .i64 ActiveLow, .int .i64 ActiveHigh, .slice ActiveWeightsO ActiveWeightsN ActiveWeightsC, .int .i64 ActiveRuleDown, .int .i64 ActiveRuleSleep, .int .i64 NextPage, .int .i64 NextCap, .int .i64 NextLimit, .int .i64 NextLow, .int .i64 NextHigh, .slice NextWeightsO NextWeightsN NextWeightsC, .int .i64 NextRuleDown, .int .i64 NextRuleSleep, .bool Waits], .int .i64 k0] w fun e w' => e = .returned (.int .i64 (mk (mk (k0) 1 0 ActiveWeightsN) 1 0 NextWeightsN)) ∧ Below w.heap.size w w' := by
  refine fnB (tb := [(38, iHeldPolicy)]) ⟨iHeldPolicy_ok, trivial⟩ Try.func52 ((heldPolicyBox_T ActivePage ActiveCap ActiveLimit ActiveLow ActiveHigh ActiveRuleDown ActiveRuleSleep NextPage NextCap NextLimit NextLow NextHigh NextRuleDown NextRuleSleep Waits ActiveWeightsN NextWeightsN ActiveWeightsO ActiveWeightsC NextWeightsO NextWeightsC k0).mpr ?_) (HS.rows (fun _ => False) [⟨false, ActiveWeightsO, 0, 1, ActiveWeightsN, 0, [fun i => .int (mk (k0) 1 0 i)]⟩, ⟨false, NextWeightsO, 0, 1, NextWeightsN, 0, [fun i => .int (mk (mk (k0) 1 0 ActiveWeightsN) 1 0 i)]⟩] (by simp; exact ⟨hr0, hr1⟩)) (fun v ch' w' hk hs => ⟨by rw [hk], hs.below⟩)
  clear hr0 hr1
  have hb0 : 0 ≤ mk (k0) 1 0 ActiveWeightsN ∧ mk (k0) 1 0 ActiveWeightsN ≤ k0 + 16777216 := mk_more (by omega) (by omega) (by omega)
  have hb1 : 0 ≤ mk (mk (k0) 1 0 ActiveWeightsN) 1 0 NextWeightsN ∧ mk (mk (k0) 1 0 ActiveWeightsN) 1 0 NextWeightsN ≤ mk (k0) 1 0 ActiveWeightsN + 16777216 := mk_more (by omega) (by omega) (by omega)
  repeat' (first
    | exact rfl
    | exact True.intro
    | assumption
    | refine And.intro ?_ ?_
    | apply Exists.intro
    | omega
    | (intro h; exfalso; simp at h; done)
    | (intro h; exfalso; simp at h; omega)
    | intro _)
def sHeldPolicyBoxO : Sm := fun args ch k =>
  match args with
  | [.a (.c (.obj i v)), .a (.c kc)] =>
    match ch[i]?, asI kc with
    | some (.obj _ rs), some k0 => ∃ x : PolicyBoxD, (isPolicyBox v (markPolicyBoxD k0 x) rs ∧ capPolicyBox x ∧ mrkC k0) ∧ k (.a (.c (.int (endPolicyBox k0 x)))) ch []
    | _, _ => False
  | _ => False
theorem sHeldPolicyBoxO_ok : SmOK Try.prog 52 sHeldPolicyBoxO := by
  refine smB Try.call52 fun args ch k w X h0 hs => ?_
  unfold sHeldPolicyBoxO at h0
  split at h0
  · rename_i i v kc
    split at h0
    · rename_i o rs k0 hi hk
      obtain ⟨x, ⟨⟨_, _, _, _, _, _, _, _, _, _, rfl, rfl⟩, hc, hk0⟩, h0⟩ := h0
      have h1 := hs.seeObj hi
      refine ⟨_, h0, ?_⟩
      simp only [List.map_cons, List.map_nil, den_a, den_c, asI_den hk]
      exact heldPolicyBox_any x.ActivePage x.ActiveCap x.ActiveLimit x.ActiveLow x.ActiveHigh x.ActiveRuleDown x.ActiveRuleSleep x.NextPage x.NextCap x.NextLimit x.NextLow x.NextHigh x.NextRuleDown x.NextRuleSleep x.Waits x.ActiveWeightsN x.NextWeightsN _ _ _ _ k0 w (Row.seenAs (h1 _ (mem0)).2 rfl rfl) (Row.seenAs (h1 _ ((memS mem0))).2 rfl rfl) hc hk0
    · exact h0.elim
  · exact h0.elim
theorem szPolicyBox_T (ActivePage : Int) (ActiveCap : Int) (ActiveLimit : Int) (ActiveLow : Int) (ActiveHigh : Int) (ActiveRuleDown : Int) (ActiveRuleSleep : Int) (NextPage : Int) (NextCap : Int) (NextLimit : Int) (NextLow : Int) (NextHigh : Int) (NextRuleDown : Int) (NextRuleSleep : Int) (Waits : Bool) (ActiveWeightsO : Option Addr) (ActiveWeightsN ActiveWeightsC : Nat) (NextWeightsO : Option Addr) (NextWeightsN NextWeightsC : Nat) (k0 : Int) : (exFn Try.prog {tb := [(39, iSzPolicy)]} 400 Try.f46 ([.a (.agg [.int ActivePage, .int ActiveCap, .int ActiveLimit, .int ActiveLow, .int ActiveHigh, .sl 0 ActiveWeightsO ActiveWeightsN ActiveWeightsC, .int ActiveRuleDown, .int ActiveRuleSleep, .int NextPage, .int NextCap, .int NextLimit, .int NextLow, .int NextHigh, .sl 1 NextWeightsO NextWeightsN NextWeightsC, .int NextRuleDown, .int NextRuleSleep, .bool Waits]), .a (.c (.int k0))]) ([]) (fun v _ => ∃ z : Int, v.den = .int .i64 z ∧ szPPolicyBox z k0 ActiveWeightsN NextWeightsN)) = (
  (∀ b0 : Nat,
  (b0 = b0 ∧
  (∀ b1 : Nat,
  (b1 = b1 ∧
  ((szC ActiveWeightsN k0) ∧
  (((k0 < ((ActiveWeightsN : Nat) : Int)) →
  (Exists (fun (z2 : Int) => ((Value.int IntKind.i64 (-1 : Int)) = (Value.int IntKind.i64 z2) ∧
   (szPPolicyBox z2 k0 ActiveWeightsN NextWeightsN))))) ∧
  ((((ActiveWeightsN : Nat) : Int) ≤ k0) →
  (((decide ((k0 - ((ActiveWeightsN : Nat) : Int)) < (0 : Int))) = Bool.true →
   (Exists (fun (z3 : Int) => ((Value.int IntKind.i64 (-1 : Int)) = (Value.int IntKind.i64 z3) ∧
    (szPPolicyBox z3 k0 ActiveWeightsN NextWeightsN))))) ∧
   ((decide ((k0 - ((ActiveWeightsN : Nat) : Int)) < (0 : Int))) = Bool.false →
   (((decide ((k0 - ((ActiveWeightsN : Nat) : Int)) < (0 : Int))) = Bool.true →
    (Exists (fun (z4 : Int) => ((Value.int IntKind.i64 (-1 : Int)) = (Value.int IntKind.i64 z4) ∧
     (szPPolicyBox z4 k0 ActiveWeightsN NextWeightsN))))) ∧
    ((decide ((k0 - ((ActiveWeightsN : Nat) : Int)) < (0 : Int))) = Bool.false →
    (b0 = b0 ∧
     (∀ b5 : Nat,
     (b5 = b5 ∧
     ((szC NextWeightsN (k0 - ((ActiveWeightsN : Nat) : Int))) ∧
     ((((k0 - ((ActiveWeightsN : Nat) : Int)) < ((NextWeightsN : Nat) : Int)) →
     (Exists (fun (z6 : Int) => ((Value.int IntKind.i64 (-1 : Int)) = (Value.int IntKind.i64 z6) ∧
      (szPPolicyBox z6 k0 ActiveWeightsN NextWeightsN))))) ∧
     ((((NextWeightsN : Nat) : Int) ≤ (k0 - ((ActiveWeightsN : Nat) : Int))) →
     (((decide (((k0 - ((ActiveWeightsN : Nat) : Int)) - ((NextWeightsN : Nat) : Int)) < (0 : Int))) = Bool.true →
      (Exists (fun (z7 : Int) => ((Value.int IntKind.i64 (-1 : Int)) = (Value.int IntKind.i64 z7) ∧
       (szPPolicyBox z7 k0 ActiveWeightsN NextWeightsN))))) ∧
      ((decide (((k0 - ((ActiveWeightsN : Nat) : Int)) - ((NextWeightsN : Nat) : Int)) < (0 : Int))) = Bool.false →
      (((decide (((k0 - ((ActiveWeightsN : Nat) : Int)) - ((NextWeightsN : Nat) : Int)) < (0 : Int))) = Bool.true →
       (Exists (fun (z8 : Int) => ((Value.int IntKind.i64 (-1 : Int)) = (Value.int IntKind.i64 z8) ∧
        (szPPolicyBox z8 k0 ActiveWeightsN NextWeightsN))))) ∧
       ((decide (((k0 - ((ActiveWeightsN : Nat) : Int)) - ((NextWeightsN : Nat) : Int)) < (0 : Int))) = Bool.false →
       (Exists (fun (z9 : Int) => ((Value.int IntKind.i64 ((k0 - ((ActiveWeightsN : Nat) : Int)) - ((NextWeightsN : Nat) : Int))) = (Value.int IntKind.i64 z9) ∧
        (szPPolicyBox z9 k0 ActiveWeightsN NextWeightsN)))))))))))))))))))))))))) := by kernel_rfl
theorem szPolicyBox_any (ActivePage : Int) (ActiveCap : Int) (ActiveLimit : Int) (ActiveLow : Int) (ActiveHigh : Int) (ActiveRuleDown : Int) (ActiveRuleSleep : Int) (NextPage : Int) (NextCap : Int) (NextLimit : Int) (NextLow : Int) (NextHigh : Int) (NextRuleDown : Int) (NextRuleSleep : Int) (Waits : Bool) (ActiveWeightsO : Option Addr) (ActiveWeightsN ActiveWeightsC : Nat) (NextWeightsO : Option Addr) (NextWeightsN NextWeightsC : Nat) (k0 : Int) (w : World) (hn : ActiveWeightsN ≤ 9223372036854775807 ∧ NextWeightsN ≤ 9223372036854775807) (h0 : 0 ≤ k0 ∧ k0 ≤ 1048576) : Calls Try.prog 46 #[.agg #[.int .i64 ActivePage, .int .i64 ActiveCap, .int .i64 ActiveLimit, .int .i64 ActiveLow, .int .i64 ActiveHigh, .slice ActiveWeightsO ActiveWeightsN ActiveWeightsC, .int .i64 ActiveRuleDown, .int .i64 ActiveRuleSleep, .int .i64 NextPage, .int .i64 NextCap, .int .i64 NextLimit, .int .i64 NextLow, .int .i64 NextHigh, .slice NextWeightsO NextWeightsN NextWeightsC, .int .i64 NextRuleDown, .int .i64 NextRuleSleep, .bool Waits], .int .i64 k0] w fun e w' => ∃ z : Int, (z = -1 ∨ (0 ≤ z ∧ z ≤ k0 ∧ ActiveWeightsN ≤ 1048576 ∧ NextWeightsN ≤ 1048576)) ∧ e = .returned (.int .i64 z) ∧ Below w.heap.size w w' := by
  refine fnB (tb := [(39, iSzPolicy)]) ⟨iSzPolicy_ok, trivial⟩ Try.func46 ((szPolicyBox_T ActivePage ActiveCap ActiveLimit ActiveLow ActiveHigh ActiveRuleDown ActiveRuleSleep NextPage NextCap NextLimit NextLow NextHigh NextRuleDown NextRuleSleep Waits ActiveWeightsO ActiveWeightsN ActiveWeightsC NextWeightsO NextWeightsN NextWeightsC k0).mpr ?_) (HS.start w (fun _ => False)) (fun v ch' w' ⟨z, hv, hz⟩ hs => ⟨z, hz, by rw [hv], hs.below⟩)
  repeat' (first
    | (refine ⟨_, rfl, ?_⟩; first | exact .inl rfl | (refine .inr ?_; omega))
    | exact True.intro
    | assumption
    | refine And.intro ?_ ?_
    | omega
    | (intro h; exfalso; simp at h; done)
    | (intro h; exfalso; simp at h; omega)
    | intro _)
def sSzPolicyBoxO : Sm := fun args ch k =>
  match args with
  | [.a (.c (.obj i v)), .a (.c kc)] =>
    match ch[i]?, asI kc with
    | some (.obj _ rs), some k0 => ∃ x : PolicyBoxD, (isPolicyBox v x rs ∧ lensPolicyBox x ∧ szK k0) ∧ (k (.a (.c (.il (-1)))) ch [] ∧ ∀ z : Int, szO z k0 → capPolicyBox x → k (.a (.c (.int z))) ch [])
    | _, _ => False
  | _ => False
theorem sSzPolicyBoxO_ok : SmOK Try.prog 46 sSzPolicyBoxO := by
  refine smV Try.call46 fun args ch k w X h0 hs => ?_
  unfold sSzPolicyBoxO at h0
  split at h0
  · rename_i i v kc
    split at h0
    · rename_i o rs k0 hi hk
      obtain ⟨x, ⟨⟨_, _, _, _, _, _, _, _, _, _, rfl, rfl⟩, hc, hk0⟩, h1, h2⟩ := h0
      simp only [List.map_cons, List.map_nil, den_a, den_c, asI_den hk]
      refine Calls.mono (szPolicyBox_any x.ActivePage x.ActiveCap x.ActiveLimit x.ActiveLow x.ActiveHigh x.ActiveRuleDown x.ActiveRuleSleep x.NextPage x.NextCap x.NextLimit x.NextLow x.NextHigh x.NextRuleDown x.NextRuleSleep x.Waits _ x.ActiveWeightsN _ _ x.NextWeightsN _ k0 w hc hk0) fun e w' ⟨z, hz, he, hb⟩ => ?_
      rcases hz with rfl | ⟨hz0, hz1, hz2⟩
      · exact ⟨.a (.c (.il (-1))), he, hb, h1⟩
      · exact ⟨.a (.c (.int z)), he, hb, h2 z ⟨hz0, hz1⟩ hz2⟩
    · exact h0.elim
  · exact h0.elim
end Go.Proofs.Ytlkklplnomecgaa
