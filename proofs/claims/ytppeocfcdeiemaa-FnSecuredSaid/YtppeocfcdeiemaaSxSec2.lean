/-
  Secured lines: read.
-/
import Derived.Test.YtppeocfcdeiemaaSxSec1
namespace Go.Proofs.Ytppeocfcdeiemaa
set_option linter.unusedVariables false
set_option linter.unusedSimpArgs false
open Go.RowKit
set_option maxRecDepth 100000
set_option maxHeartbeats 8000000

theorem readI_T (sKey : Int) (sTreeRoot : Int) (sTreeMidO : Option Addr) (sTreeMidN sTreeMidC : Nat) (sTreeMidg0 sTreeMidg1 : Nat → Int) (sTreeLeafO : Option Addr) (sTreeLeafN sTreeLeafC : Nat) (sTreeLeafg0 sTreeLeafg1 : Nat → Int) (sDataO : Option Addr) (sDataN sDataC : Nat) (sDatag0 : Nat → Int) (sTagsO : Option Addr) (sTagsN sTagsC : Nat) (sTagsg0 : Nat → Int) (line : Int) : (exFn Try.prog {tb := [(14, sLC), (45, sFits), (29, sIsW), (46, sTag), (47, sSeal)]} 400 Try.f21 ([.a (.agg [.int sKey, .int sTreeRoot, .sl 0 sTreeMidO sTreeMidN sTreeMidC, .sl 1 sTreeLeafO sTreeLeafN sTreeLeafC, .sl 2 sDataO sDataN sDataC, .sl 3 sTagsO sTagsN sTagsC]), .a (.c (.int line))]) ([.row ⟨false, sTreeMidO, 0, 2, sTreeMidN, 0, [fun i => .int (sTreeMidg0 i), fun i => .int (sTreeMidg1 i)]⟩, .row ⟨false, sTreeLeafO, 0, 2, sTreeLeafN, 0, [fun i => .int (sTreeLeafg0 i), fun i => .int (sTreeLeafg1 i)]⟩, .row ⟨false, sDataO, 0, 1, sDataN, 0, [fun i => .int (sDatag0 i)]⟩, .row ⟨false, sTagsO, 0, 1, sTagsN, 0, [fun i => .int (sTagsg0 i)]⟩]) (fun v _ => v.den = .tuple #[.int .i64 (rdV sKey sTreeRoot sTreeMidN sTreeLeafN sTreeMidg0 sTreeMidg1 sTreeLeafg0 sTreeLeafg1 sDataN sTagsN sDatag0 sTagsg0 line), .bool (rdOk sKey sTreeRoot sTreeMidN sTreeLeafN sTreeMidg0 sTreeMidg1 sTreeLeafg0 sTreeLeafg1 sDataN sTagsN sDatag0 sTagsg0 line)])) = (
  (∀ b0 : Nat,
  (b0 = b0 ∧
  (b0 = b0 ∧
  (Exists (fun (mc1 : (Nat →
  Int)) => (Exists (fun (mt2 : (Nat →
  Int)) => (Exists (fun (lc3 : (Nat →
  Int)) => (Exists (fun (lt4 : (Nat →
  Int)) => ((sTreeMidO = sTreeMidO ∧
  (sTreeMidN = sTreeMidN ∧
  ([(fun (i5 : Nat) => (SC.int (sTreeMidg0 i5))), (fun (i6 : Nat) => (SC.int (sTreeMidg1 i6)))] = [(fun (i7 : Nat) => (SC.int (mc1 i7))), (fun (i8 : Nat) => (SC.int (mt2 i8)))] ∧
  (sTreeLeafO = sTreeLeafO ∧
  (sTreeLeafN = sTreeLeafN ∧
  [(fun (i9 : Nat) => (SC.int (sTreeLeafg0 i9))), (fun (i10 : Nat) => (SC.int (sTreeLeafg1 i10)))] = [(fun (i11 : Nat) => (SC.int (lc3 i11))), (fun (i12 : Nat) => (SC.int (lt4 i12)))]))))) ∧
  (((!(lcOk sKey sTreeRoot sTreeMidN sTreeLeafN mc1 mt2 lc3 lt4 line)) = Bool.false →
  (b0 = b0 ∧
   (Exists (fun (sTreeMidg013 : (Nat →
   Int)) => (Exists (fun (sTreeMidg114 : (Nat →
   Int)) => (Exists (fun (sTreeLeafg015 : (Nat →
   Int)) => (Exists (fun (sTreeLeafg116 : (Nat →
   Int)) => (Exists (fun (sDatag017 : (Nat →
   Int)) => (Exists (fun (sTagsg018 : (Nat →
   Int)) => ((sTreeMidO = sTreeMidO ∧
   (sTreeMidN = sTreeMidN ∧
   ([(fun (i19 : Nat) => (SC.int (sTreeMidg0 i19))), (fun (i20 : Nat) => (SC.int (sTreeMidg1 i20)))] = [(fun (i21 : Nat) => (SC.int (sTreeMidg013 i21))), (fun (i22 : Nat) => (SC.int (sTreeMidg114 i22)))] ∧
   (sTreeLeafO = sTreeLeafO ∧
   (sTreeLeafN = sTreeLeafN ∧
   ([(fun (i23 : Nat) => (SC.int (sTreeLeafg0 i23))), (fun (i24 : Nat) => (SC.int (sTreeLeafg1 i24)))] = [(fun (i25 : Nat) => (SC.int (sTreeLeafg015 i25))), (fun (i26 : Nat) => (SC.int (sTreeLeafg116 i26)))] ∧
   (sDataO = sDataO ∧
   (sDataN = sDataN ∧
   ([(fun (i27 : Nat) => (SC.int (sDatag0 i27)))] = [(fun (i28 : Nat) => (SC.int (sDatag017 i28)))] ∧
   (sTagsO = sTagsO ∧
   (sTagsN = sTagsN ∧
   [(fun (i29 : Nat) => (SC.int (sTagsg0 i29)))] = [(fun (i30 : Nat) => (SC.int (sTagsg018 i30)))]))))))))))) ∧
   (True ∧
   (((!(fitsB sDataN sTagsN)) = Bool.false →
   (b0 = b0 ∧
    (sDataO = sDataO ∧
    (sDataN = sDataN ∧
    ((0 ≤ line ∧ line < ((sDataN : Nat) : Int)) ∧
    (sDataO = sDataO ∧
    ((Int.toNat line) < sDataN ∧
    (True ∧
    (((!(isW (sDatag0 (Int.toNat line)))) = Bool.false →
    (b0 = b0 ∧
     (sTagsO = sTagsO ∧
     (sTagsN = sTagsN ∧
     ((0 ≤ line ∧ line < ((sTagsN : Nat) : Int)) ∧
     (sTagsO = sTagsO ∧
     ((Int.toNat line) < sTagsN ∧
     (b0 = b0 ∧
     (b0 = b0 ∧
     (sDataO = sDataO ∧
     (sDataN = sDataN ∧
     ((0 ≤ line ∧ line < ((sDataN : Nat) : Int)) ∧
     (sDataO = sDataO ∧
     ((Int.toNat line) < sDataN ∧
     (True ∧
     ((((sTagsg0 (Int.toNat line)) != (tagW sKey line (lcV sKey sTreeRoot sTreeMidN sTreeLeafN mc1 mt2 lc3 lt4 line) (sDatag0 (Int.toNat line)))) = Bool.true →
     (Value.tuple (List.toArray [(Value.int IntKind.i64 (0 : Int)), (Value.bool Bool.false)])) = (Value.tuple (List.toArray [(Value.int IntKind.i64 (rdV sKey sTreeRoot sTreeMidN sTreeLeafN sTreeMidg0 sTreeMidg1 sTreeLeafg0 sTreeLeafg1 sDataN sTagsN sDatag0 sTagsg0 line)), (Value.bool (rdOk sKey sTreeRoot sTreeMidN sTreeLeafN sTreeMidg0 sTreeMidg1 sTreeLeafg0 sTreeLeafg1 sDataN sTagsN sDatag0 sTagsg0 line))]))) ∧
     (((sTagsg0 (Int.toNat line)) != (tagW sKey line (lcV sKey sTreeRoot sTreeMidN sTreeLeafN mc1 mt2 lc3 lt4 line) (sDatag0 (Int.toNat line)))) = Bool.false →
     (b0 = b0 ∧
      (b0 = b0 ∧
      (sDataO = sDataO ∧
      (sDataN = sDataN ∧
      ((0 ≤ line ∧ line < ((sDataN : Nat) : Int)) ∧
      (sDataO = sDataO ∧
      ((Int.toNat line) < sDataN ∧
      (True ∧
      (Value.tuple (List.toArray [(Value.int IntKind.i64 (sealW sKey line (lcV sKey sTreeRoot sTreeMidN sTreeLeafN mc1 mt2 lc3 lt4 line) (sDatag0 (Int.toNat line)))), (Value.bool Bool.true)])) = (Value.tuple (List.toArray [(Value.int IntKind.i64 (rdV sKey sTreeRoot sTreeMidN sTreeLeafN sTreeMidg0 sTreeMidg1 sTreeLeafg0 sTreeLeafg1 sDataN sTagsN sDatag0 sTagsg0 line)), (Value.bool (rdOk sKey sTreeRoot sTreeMidN sTreeLeafN sTreeMidg0 sTreeMidg1 sTreeLeafg0 sTreeLeafg1 sDataN sTagsN sDatag0 sTagsg0 line))]))))))))))))))))))))))))))) ∧
    ((!(isW (sDatag0 (Int.toNat line)))) = Bool.true →
    (Value.tuple (List.toArray [(Value.int IntKind.i64 (0 : Int)), (Value.bool Bool.false)])) = (Value.tuple (List.toArray [(Value.int IntKind.i64 (rdV sKey sTreeRoot sTreeMidN sTreeLeafN sTreeMidg0 sTreeMidg1 sTreeLeafg0 sTreeLeafg1 sDataN sTagsN sDatag0 sTagsg0 line)), (Value.bool (rdOk sKey sTreeRoot sTreeMidN sTreeLeafN sTreeMidg0 sTreeMidg1 sTreeLeafg0 sTreeLeafg1 sDataN sTagsN sDatag0 sTagsg0 line))])))))))))))) ∧
   ((!(fitsB sDataN sTagsN)) = Bool.true →
   (Value.tuple (List.toArray [(Value.int IntKind.i64 (0 : Int)), (Value.bool Bool.false)])) = (Value.tuple (List.toArray [(Value.int IntKind.i64 (rdV sKey sTreeRoot sTreeMidN sTreeLeafN sTreeMidg0 sTreeMidg1 sTreeLeafg0 sTreeLeafg1 sDataN sTagsN sDatag0 sTagsg0 line)), (Value.bool (rdOk sKey sTreeRoot sTreeMidN sTreeLeafN sTreeMidg0 sTreeMidg1 sTreeLeafg0 sTreeLeafg1 sDataN sTagsN sDatag0 sTagsg0 line))])))))))))))))))))))) ∧
  ((!(lcOk sKey sTreeRoot sTreeMidN sTreeLeafN mc1 mt2 lc3 lt4 line)) = Bool.true →
  (Value.tuple (List.toArray [(Value.int IntKind.i64 (0 : Int)), (Value.bool Bool.false)])) = (Value.tuple (List.toArray [(Value.int IntKind.i64 (rdV sKey sTreeRoot sTreeMidN sTreeLeafN sTreeMidg0 sTreeMidg1 sTreeLeafg0 sTreeLeafg1 sDataN sTagsN sDatag0 sTagsg0 line)), (Value.bool (rdOk sKey sTreeRoot sTreeMidN sTreeLeafN sTreeMidg0 sTreeMidg1 sTreeLeafg0 sTreeLeafg1 sDataN sTagsN sDatag0 sTagsg0 line))]))))))))))))))))) := by kernel_rfl
theorem readI_any (sKey : Int) (sTreeRoot : Int) (sTreeMidO : Option Addr) (sTreeMidN sTreeMidC : Nat) (sTreeMidg0 sTreeMidg1 : Nat → Int) (sTreeLeafO : Option Addr) (sTreeLeafN sTreeLeafC : Nat) (sTreeLeafg0 sTreeLeafg1 : Nat → Int) (sDataO : Option Addr) (sDataN sDataC : Nat) (sDatag0 : Nat → Int) (sTagsO : Option Addr) (sTagsN sTagsC : Nat) (sTagsg0 : Nat → Int) (line : Int) (w : World) (hrsTreeMid : Row.sat w ⟨false, sTreeMidO, 0, 2, sTreeMidN, 0, [fun i => .int (sTreeMidg0 i), fun i => .int (sTreeMidg1 i)]⟩) (hrsTreeLeaf : Row.sat w ⟨false, sTreeLeafO, 0, 2, sTreeLeafN, 0, [fun i => .int (sTreeLeafg0 i), fun i => .int (sTreeLeafg1 i)]⟩) (hrsData : Row.sat w ⟨false, sDataO, 0, 1, sDataN, 0, [fun i => .int (sDatag0 i)]⟩) (hrsTags : Row.sat w ⟨false, sTagsO, 0, 1, sTagsN, 0, [fun i => .int (sTagsg0 i)]⟩) : Calls Try.prog 21 #[.agg #[.int .i64 sKey, .int .i64 sTreeRoot, .slice sTreeMidO sTreeMidN sTreeMidC, .slice sTreeLeafO sTreeLeafN sTreeLeafC, .slice sDataO sDataN sDataC, .slice sTagsO sTagsN sTagsC], .int .i64 line] w fun e w' => e = .returned (.tuple #[.int .i64 (rdV sKey sTreeRoot sTreeMidN sTreeLeafN sTreeMidg0 sTreeMidg1 sTreeLeafg0 sTreeLeafg1 sDataN sTagsN sDatag0 sTagsg0 line), .bool (rdOk sKey sTreeRoot sTreeMidN sTreeLeafN sTreeMidg0 sTreeMidg1 sTreeLeafg0 sTreeLeafg1 sDataN sTagsN sDatag0 sTagsg0 line)]) ∧ Below w.heap.size w w' := by
  refine fnB (tb := [(14, sLC), (45, sFits), (29, sIsW), (46, sTag), (47, sSeal)]) ⟨sLC_impl, sFits_ok_fitsI, sIsW_impl, sTag_impl, sOpen_impl, trivial⟩ Try.func21 (@Eq.mpr _ _ (readI_T sKey sTreeRoot sTreeMidO sTreeMidN sTreeMidC sTreeMidg0 sTreeMidg1 sTreeLeafO sTreeLeafN sTreeLeafC sTreeLeafg0 sTreeLeafg1 sDataO sDataN sDataC sDatag0 sTagsO sTagsN sTagsC sTagsg0 line) ?_) (HS.rows (fun _ => False) [⟨false, sTreeMidO, 0, 2, sTreeMidN, 0, [fun i => .int (sTreeMidg0 i), fun i => .int (sTreeMidg1 i)]⟩, ⟨false, sTreeLeafO, 0, 2, sTreeLeafN, 0, [fun i => .int (sTreeLeafg0 i), fun i => .int (sTreeLeafg1 i)]⟩, ⟨false, sDataO, 0, 1, sDataN, 0, [fun i => .int (sDatag0 i)]⟩, ⟨false, sTagsO, 0, 1, sTagsN, 0, [fun i => .int (sTagsg0 i)]⟩] (by simp; exact ⟨hrsTreeMid, hrsTreeLeaf, hrsData, hrsTags⟩)) (fun v ch' w' hk hs => ⟨by rw [hk], hs.below⟩)
  clear hrsTreeMid hrsTreeLeaf hrsData hrsTags
  cases hl : lcOk sKey sTreeRoot sTreeMidN sTreeLeafN sTreeMidg0 sTreeMidg1 sTreeLeafg0 sTreeLeafg1 line
  · have hr : rdOk sKey sTreeRoot sTreeMidN sTreeLeafN sTreeMidg0 sTreeMidg1 sTreeLeafg0 sTreeLeafg1 sDataN sTagsN sDatag0 sTagsg0 line = false := by simp [rdOk, hl]
    repeat' (first
      | with_reducible exact rfl
      | exact True.intro
      | assumption
      | refine And.intro ?_ ?_
      | apply Exists.intro
      | (intro h; exfalso; simp [hl] at h; done)
      | (intro h; exfalso; simp [hl] at h; omega)
      | intro _
      | omega
      | (simp; omega))
    all_goals simp [rdV, hr]
  · obtain ⟨hn, hm, hb, _⟩ := lcOk_facts hl
    have hlc : lcV sKey sTreeRoot sTreeMidN sTreeLeafN sTreeMidg0 sTreeMidg1 sTreeLeafg0 sTreeLeafg1 line = sTreeLeafg0 line.toNat := by simp [lcV, hl]
    cases hf : fitsB sDataN sTagsN
    · have hr : rdOk sKey sTreeRoot sTreeMidN sTreeLeafN sTreeMidg0 sTreeMidg1 sTreeLeafg0 sTreeLeafg1 sDataN sTagsN sDatag0 sTagsg0 line = false := by simp [rdOk, hf]
      repeat' (first
        | with_reducible exact rfl
        | exact True.intro
        | assumption
        | refine And.intro ?_ ?_
        | apply Exists.intro
        | (intro h; exfalso; simp [hl, hf] at h; done)
        | (intro h; exfalso; simp [hl, hf] at h; omega)
        | intro _
        | omega
        | (simp; omega))
      all_goals simp [rdV, hr]
    · obtain ⟨hdn, htn⟩ := fits_facts hf
      cases hw : isW (sDatag0 line.toNat)
      · have hr : rdOk sKey sTreeRoot sTreeMidN sTreeLeafN sTreeMidg0 sTreeMidg1 sTreeLeafg0 sTreeLeafg1 sDataN sTagsN sDatag0 sTagsg0 line = false := by simp [rdOk, hw]
        repeat' (first
          | with_reducible exact rfl
          | exact True.intro
          | assumption
          | refine And.intro ?_ ?_
          | apply Exists.intro
          | (intro h; exfalso; simp [hl, hf, hw] at h; done)
          | (intro h; exfalso; simp [hl, hf, hw] at h; omega)
          | intro _
          | omega
          | (simp; omega))
        all_goals simp [rdV, hr]
      · cases ht : (sTagsg0 line.toNat == tagW sKey line (sTreeLeafg0 line.toNat) (sDatag0 line.toNat))
        · have hr : rdOk sKey sTreeRoot sTreeMidN sTreeLeafN sTreeMidg0 sTreeMidg1 sTreeLeafg0 sTreeLeafg1 sDataN sTagsN sDatag0 sTagsg0 line = false := by simp only [rdOk, ht, Bool.and_false]
          have ht2 : ¬ sTagsg0 line.toNat = tagW sKey line (sTreeLeafg0 line.toNat) (sDatag0 line.toNat) := by simpa using ht
          repeat' (first
            | with_reducible exact rfl
            | exact True.intro
            | assumption
            | refine And.intro ?_ ?_
            | apply Exists.intro
            | (intro h; exfalso; simp [hl, hf, hw, hlc, ht2] at h; done)
            | (intro h; exfalso; simp [hl, hf, hw, hlc, ht2] at h; omega)
            | intro _
            | omega
            | (simp; omega))
          all_goals simp [rdV, hr]
        · have hr : rdOk sKey sTreeRoot sTreeMidN sTreeLeafN sTreeMidg0 sTreeMidg1 sTreeLeafg0 sTreeLeafg1 sDataN sTagsN sDatag0 sTagsg0 line = true := by simp only [rdOk, hl, hf, hw, ht, Bool.and_true]
          have ht2 : sTagsg0 line.toNat = tagW sKey line (sTreeLeafg0 line.toNat) (sDatag0 line.toNat) := by simpa using ht
          repeat' (first
            | with_reducible exact rfl
            | exact True.intro
            | assumption
            | refine And.intro ?_ ?_
            | apply Exists.intro
            | (intro h; exfalso; simp [hl, hf, hw, hlc, ht2] at h; done)
            | (intro h; exfalso; simp [hl, hf, hw, hlc, ht2] at h; omega)
            | intro _
            | omega
            | (simp; omega))
          all_goals simp [rdV, hr, hlc]
theorem readS_T (sKey : Int) (sTreeRoot : Int) (sTreeMidO : Option Addr) (sTreeMidN sTreeMidC : Nat) (sTreeMidg0 sTreeMidg1 : Nat → Int) (sTreeLeafO : Option Addr) (sTreeLeafN sTreeLeafC : Nat) (sTreeLeafg0 sTreeLeafg1 : Nat → Int) (sDataO : Option Addr) (sDataN sDataC : Nat) (sDatag0 : Nat → Int) (sTagsO : Option Addr) (sTagsN sTagsC : Nat) (sTagsg0 : Nat → Int) (line : Int) : (exFn Try.prog {tb := [(53, sLC), (49, sFits), (34, sIsW), (51, sTag), (54, sSeal)]} 400 Try.f26 ([.a (.agg [.int sKey, .int sTreeRoot, .sl 0 sTreeMidO sTreeMidN sTreeMidC, .sl 1 sTreeLeafO sTreeLeafN sTreeLeafC, .sl 2 sDataO sDataN sDataC, .sl 3 sTagsO sTagsN sTagsC]), .a (.c (.int line))]) ([.row ⟨false, sTreeMidO, 0, 2, sTreeMidN, 0, [fun i => .int (sTreeMidg0 i), fun i => .int (sTreeMidg1 i)]⟩, .row ⟨false, sTreeLeafO, 0, 2, sTreeLeafN, 0, [fun i => .int (sTreeLeafg0 i), fun i => .int (sTreeLeafg1 i)]⟩, .row ⟨false, sDataO, 0, 1, sDataN, 0, [fun i => .int (sDatag0 i)]⟩, .row ⟨false, sTagsO, 0, 1, sTagsN, 0, [fun i => .int (sTagsg0 i)]⟩]) (fun v _ => v.den = .tuple #[.int .i64 (rdV sKey sTreeRoot sTreeMidN sTreeLeafN sTreeMidg0 sTreeMidg1 sTreeLeafg0 sTreeLeafg1 sDataN sTagsN sDatag0 sTagsg0 line), .bool (rdOk sKey sTreeRoot sTreeMidN sTreeLeafN sTreeMidg0 sTreeMidg1 sTreeLeafg0 sTreeLeafg1 sDataN sTagsN sDatag0 sTagsg0 line)])) = (
  (∀ b0 : Nat,
  (b0 = b0 ∧
  (b0 = b0 ∧
  (Exists (fun (mc1 : (Nat →
  Int)) => (Exists (fun (mt2 : (Nat →
  Int)) => (Exists (fun (lc3 : (Nat →
  Int)) => (Exists (fun (lt4 : (Nat →
  Int)) => ((sTreeMidO = sTreeMidO ∧
  (sTreeMidN = sTreeMidN ∧
  ([(fun (i5 : Nat) => (SC.int (sTreeMidg0 i5))), (fun (i6 : Nat) => (SC.int (sTreeMidg1 i6)))] = [(fun (i7 : Nat) => (SC.int (mc1 i7))), (fun (i8 : Nat) => (SC.int (mt2 i8)))] ∧
  (sTreeLeafO = sTreeLeafO ∧
  (sTreeLeafN = sTreeLeafN ∧
  [(fun (i9 : Nat) => (SC.int (sTreeLeafg0 i9))), (fun (i10 : Nat) => (SC.int (sTreeLeafg1 i10)))] = [(fun (i11 : Nat) => (SC.int (lc3 i11))), (fun (i12 : Nat) => (SC.int (lt4 i12)))]))))) ∧
  (((!(lcOk sKey sTreeRoot sTreeMidN sTreeLeafN mc1 mt2 lc3 lt4 line)) = Bool.false →
  (b0 = b0 ∧
   (Exists (fun (sTreeMidg013 : (Nat →
   Int)) => (Exists (fun (sTreeMidg114 : (Nat →
   Int)) => (Exists (fun (sTreeLeafg015 : (Nat →
   Int)) => (Exists (fun (sTreeLeafg116 : (Nat →
   Int)) => (Exists (fun (sDatag017 : (Nat →
   Int)) => (Exists (fun (sTagsg018 : (Nat →
   Int)) => ((sTreeMidO = sTreeMidO ∧
   (sTreeMidN = sTreeMidN ∧
   ([(fun (i19 : Nat) => (SC.int (sTreeMidg0 i19))), (fun (i20 : Nat) => (SC.int (sTreeMidg1 i20)))] = [(fun (i21 : Nat) => (SC.int (sTreeMidg013 i21))), (fun (i22 : Nat) => (SC.int (sTreeMidg114 i22)))] ∧
   (sTreeLeafO = sTreeLeafO ∧
   (sTreeLeafN = sTreeLeafN ∧
   ([(fun (i23 : Nat) => (SC.int (sTreeLeafg0 i23))), (fun (i24 : Nat) => (SC.int (sTreeLeafg1 i24)))] = [(fun (i25 : Nat) => (SC.int (sTreeLeafg015 i25))), (fun (i26 : Nat) => (SC.int (sTreeLeafg116 i26)))] ∧
   (sDataO = sDataO ∧
   (sDataN = sDataN ∧
   ([(fun (i27 : Nat) => (SC.int (sDatag0 i27)))] = [(fun (i28 : Nat) => (SC.int (sDatag017 i28)))] ∧
   (sTagsO = sTagsO ∧
   (sTagsN = sTagsN ∧
   [(fun (i29 : Nat) => (SC.int (sTagsg0 i29)))] = [(fun (i30 : Nat) => (SC.int (sTagsg018 i30)))]))))))))))) ∧
   (True ∧
   (((!(fitsB sDataN sTagsN)) = Bool.false →
   (b0 = b0 ∧
    (sDataO = sDataO ∧
    (sDataN = sDataN ∧
    ((0 ≤ line ∧ line < ((sDataN : Nat) : Int)) ∧
    (sDataO = sDataO ∧
    ((Int.toNat line) < sDataN ∧
    (True ∧
    (((!(isW (sDatag0 (Int.toNat line)))) = Bool.false →
    (b0 = b0 ∧
     (sTagsO = sTagsO ∧
     (sTagsN = sTagsN ∧
     ((0 ≤ line ∧ line < ((sTagsN : Nat) : Int)) ∧
     (sTagsO = sTagsO ∧
     ((Int.toNat line) < sTagsN ∧
     (b0 = b0 ∧
     (b0 = b0 ∧
     (sDataO = sDataO ∧
     (sDataN = sDataN ∧
     ((0 ≤ line ∧ line < ((sDataN : Nat) : Int)) ∧
     (sDataO = sDataO ∧
     ((Int.toNat line) < sDataN ∧
     (True ∧
     ((((sTagsg0 (Int.toNat line)) != (tagW sKey line (lcV sKey sTreeRoot sTreeMidN sTreeLeafN mc1 mt2 lc3 lt4 line) (sDatag0 (Int.toNat line)))) = Bool.true →
     (Value.tuple (List.toArray [(Value.int IntKind.i64 (0 : Int)), (Value.bool Bool.false)])) = (Value.tuple (List.toArray [(Value.int IntKind.i64 (rdV sKey sTreeRoot sTreeMidN sTreeLeafN sTreeMidg0 sTreeMidg1 sTreeLeafg0 sTreeLeafg1 sDataN sTagsN sDatag0 sTagsg0 line)), (Value.bool (rdOk sKey sTreeRoot sTreeMidN sTreeLeafN sTreeMidg0 sTreeMidg1 sTreeLeafg0 sTreeLeafg1 sDataN sTagsN sDatag0 sTagsg0 line))]))) ∧
     (((sTagsg0 (Int.toNat line)) != (tagW sKey line (lcV sKey sTreeRoot sTreeMidN sTreeLeafN mc1 mt2 lc3 lt4 line) (sDatag0 (Int.toNat line)))) = Bool.false →
     (b0 = b0 ∧
      (b0 = b0 ∧
      (sDataO = sDataO ∧
      (sDataN = sDataN ∧
      ((0 ≤ line ∧ line < ((sDataN : Nat) : Int)) ∧
      (sDataO = sDataO ∧
      ((Int.toNat line) < sDataN ∧
      (True ∧
      (Value.tuple (List.toArray [(Value.int IntKind.i64 (sealW sKey line (lcV sKey sTreeRoot sTreeMidN sTreeLeafN mc1 mt2 lc3 lt4 line) (sDatag0 (Int.toNat line)))), (Value.bool Bool.true)])) = (Value.tuple (List.toArray [(Value.int IntKind.i64 (rdV sKey sTreeRoot sTreeMidN sTreeLeafN sTreeMidg0 sTreeMidg1 sTreeLeafg0 sTreeLeafg1 sDataN sTagsN sDatag0 sTagsg0 line)), (Value.bool (rdOk sKey sTreeRoot sTreeMidN sTreeLeafN sTreeMidg0 sTreeMidg1 sTreeLeafg0 sTreeLeafg1 sDataN sTagsN sDatag0 sTagsg0 line))]))))))))))))))))))))))))))) ∧
    ((!(isW (sDatag0 (Int.toNat line)))) = Bool.true →
    (Value.tuple (List.toArray [(Value.int IntKind.i64 (0 : Int)), (Value.bool Bool.false)])) = (Value.tuple (List.toArray [(Value.int IntKind.i64 (rdV sKey sTreeRoot sTreeMidN sTreeLeafN sTreeMidg0 sTreeMidg1 sTreeLeafg0 sTreeLeafg1 sDataN sTagsN sDatag0 sTagsg0 line)), (Value.bool (rdOk sKey sTreeRoot sTreeMidN sTreeLeafN sTreeMidg0 sTreeMidg1 sTreeLeafg0 sTreeLeafg1 sDataN sTagsN sDatag0 sTagsg0 line))])))))))))))) ∧
   ((!(fitsB sDataN sTagsN)) = Bool.true →
   (Value.tuple (List.toArray [(Value.int IntKind.i64 (0 : Int)), (Value.bool Bool.false)])) = (Value.tuple (List.toArray [(Value.int IntKind.i64 (rdV sKey sTreeRoot sTreeMidN sTreeLeafN sTreeMidg0 sTreeMidg1 sTreeLeafg0 sTreeLeafg1 sDataN sTagsN sDatag0 sTagsg0 line)), (Value.bool (rdOk sKey sTreeRoot sTreeMidN sTreeLeafN sTreeMidg0 sTreeMidg1 sTreeLeafg0 sTreeLeafg1 sDataN sTagsN sDatag0 sTagsg0 line))])))))))))))))))))))) ∧
  ((!(lcOk sKey sTreeRoot sTreeMidN sTreeLeafN mc1 mt2 lc3 lt4 line)) = Bool.true →
  (Value.tuple (List.toArray [(Value.int IntKind.i64 (0 : Int)), (Value.bool Bool.false)])) = (Value.tuple (List.toArray [(Value.int IntKind.i64 (rdV sKey sTreeRoot sTreeMidN sTreeLeafN sTreeMidg0 sTreeMidg1 sTreeLeafg0 sTreeLeafg1 sDataN sTagsN sDatag0 sTagsg0 line)), (Value.bool (rdOk sKey sTreeRoot sTreeMidN sTreeLeafN sTreeMidg0 sTreeMidg1 sTreeLeafg0 sTreeLeafg1 sDataN sTagsN sDatag0 sTagsg0 line))]))))))))))))))))) := by kernel_rfl
theorem readS_any (sKey : Int) (sTreeRoot : Int) (sTreeMidO : Option Addr) (sTreeMidN sTreeMidC : Nat) (sTreeMidg0 sTreeMidg1 : Nat → Int) (sTreeLeafO : Option Addr) (sTreeLeafN sTreeLeafC : Nat) (sTreeLeafg0 sTreeLeafg1 : Nat → Int) (sDataO : Option Addr) (sDataN sDataC : Nat) (sDatag0 : Nat → Int) (sTagsO : Option Addr) (sTagsN sTagsC : Nat) (sTagsg0 : Nat → Int) (line : Int) (w : World) (hrsTreeMid : Row.sat w ⟨false, sTreeMidO, 0, 2, sTreeMidN, 0, [fun i => .int (sTreeMidg0 i), fun i => .int (sTreeMidg1 i)]⟩) (hrsTreeLeaf : Row.sat w ⟨false, sTreeLeafO, 0, 2, sTreeLeafN, 0, [fun i => .int (sTreeLeafg0 i), fun i => .int (sTreeLeafg1 i)]⟩) (hrsData : Row.sat w ⟨false, sDataO, 0, 1, sDataN, 0, [fun i => .int (sDatag0 i)]⟩) (hrsTags : Row.sat w ⟨false, sTagsO, 0, 1, sTagsN, 0, [fun i => .int (sTagsg0 i)]⟩) : Calls Try.prog 26 #[.agg #[.int .i64 sKey, .int .i64 sTreeRoot, .slice sTreeMidO sTreeMidN sTreeMidC, .slice sTreeLeafO sTreeLeafN sTreeLeafC, .slice sDataO sDataN sDataC, .slice sTagsO sTagsN sTagsC], .int .i64 line] w fun e w' => e = .returned (.tuple #[.int .i64 (rdV sKey sTreeRoot sTreeMidN sTreeLeafN sTreeMidg0 sTreeMidg1 sTreeLeafg0 sTreeLeafg1 sDataN sTagsN sDatag0 sTagsg0 line), .bool (rdOk sKey sTreeRoot sTreeMidN sTreeLeafN sTreeMidg0 sTreeMidg1 sTreeLeafg0 sTreeLeafg1 sDataN sTagsN sDatag0 sTagsg0 line)]) ∧ Below w.heap.size w w' := by
  refine fnB (tb := [(53, sLC), (49, sFits), (34, sIsW), (51, sTag), (54, sSeal)]) ⟨sLC_spec, sFits_ok_fitsS, sIsW_spec, sTag_spec, sOpen_spec, trivial⟩ Try.func26 (@Eq.mpr _ _ (readS_T sKey sTreeRoot sTreeMidO sTreeMidN sTreeMidC sTreeMidg0 sTreeMidg1 sTreeLeafO sTreeLeafN sTreeLeafC sTreeLeafg0 sTreeLeafg1 sDataO sDataN sDataC sDatag0 sTagsO sTagsN sTagsC sTagsg0 line) ?_) (HS.rows (fun _ => False) [⟨false, sTreeMidO, 0, 2, sTreeMidN, 0, [fun i => .int (sTreeMidg0 i), fun i => .int (sTreeMidg1 i)]⟩, ⟨false, sTreeLeafO, 0, 2, sTreeLeafN, 0, [fun i => .int (sTreeLeafg0 i), fun i => .int (sTreeLeafg1 i)]⟩, ⟨false, sDataO, 0, 1, sDataN, 0, [fun i => .int (sDatag0 i)]⟩, ⟨false, sTagsO, 0, 1, sTagsN, 0, [fun i => .int (sTagsg0 i)]⟩] (by simp; exact ⟨hrsTreeMid, hrsTreeLeaf, hrsData, hrsTags⟩)) (fun v ch' w' hk hs => ⟨by rw [hk], hs.below⟩)
  clear hrsTreeMid hrsTreeLeaf hrsData hrsTags
  cases hl : lcOk sKey sTreeRoot sTreeMidN sTreeLeafN sTreeMidg0 sTreeMidg1 sTreeLeafg0 sTreeLeafg1 line
  · have hr : rdOk sKey sTreeRoot sTreeMidN sTreeLeafN sTreeMidg0 sTreeMidg1 sTreeLeafg0 sTreeLeafg1 sDataN sTagsN sDatag0 sTagsg0 line = false := by simp [rdOk, hl]
    repeat' (first
      | with_reducible exact rfl
      | exact True.intro
      | assumption
      | refine And.intro ?_ ?_
      | apply Exists.intro
      | (intro h; exfalso; simp [hl] at h; done)
      | (intro h; exfalso; simp [hl] at h; omega)
      | intro _
      | omega
      | (simp; omega))
    all_goals simp [rdV, hr]
  · obtain ⟨hn, hm, hb, _⟩ := lcOk_facts hl
    have hlc : lcV sKey sTreeRoot sTreeMidN sTreeLeafN sTreeMidg0 sTreeMidg1 sTreeLeafg0 sTreeLeafg1 line = sTreeLeafg0 line.toNat := by simp [lcV, hl]
    cases hf : fitsB sDataN sTagsN
    · have hr : rdOk sKey sTreeRoot sTreeMidN sTreeLeafN sTreeMidg0 sTreeMidg1 sTreeLeafg0 sTreeLeafg1 sDataN sTagsN sDatag0 sTagsg0 line = false := by simp [rdOk, hf]
      repeat' (first
        | with_reducible exact rfl
        | exact True.intro
        | assumption
        | refine And.intro ?_ ?_
        | apply Exists.intro
        | (intro h; exfalso; simp [hl, hf] at h; done)
        | (intro h; exfalso; simp [hl, hf] at h; omega)
        | intro _
        | omega
        | (simp; omega))
      all_goals simp [rdV, hr]
    · obtain ⟨hdn, htn⟩ := fits_facts hf
      cases hw : isW (sDatag0 line.toNat)
      · have hr : rdOk sKey sTreeRoot sTreeMidN sTreeLeafN sTreeMidg0 sTreeMidg1 sTreeLeafg0 sTreeLeafg1 sDataN sTagsN sDatag0 sTagsg0 line = false := by simp [rdOk, hw]
        repeat' (first
          | with_reducible exact rfl
          | exact True.intro
          | assumption
          | refine And.intro ?_ ?_
          | apply Exists.intro
          | (intro h; exfalso; simp [hl, hf, hw] at h; done)
          | (intro h; exfalso; simp [hl, hf, hw] at h; omega)
          | intro _
          | omega
          | (simp; omega))
        all_goals simp [rdV, hr]
      · cases ht : (sTagsg0 line.toNat == tagW sKey line (sTreeLeafg0 line.toNat) (sDatag0 line.toNat))
        · have hr : rdOk sKey sTreeRoot sTreeMidN sTreeLeafN sTreeMidg0 sTreeMidg1 sTreeLeafg0 sTreeLeafg1 sDataN sTagsN sDatag0 sTagsg0 line = false := by simp only [rdOk, ht, Bool.and_false]
          have ht2 : ¬ sTagsg0 line.toNat = tagW sKey line (sTreeLeafg0 line.toNat) (sDatag0 line.toNat) := by simpa using ht
          repeat' (first
            | with_reducible exact rfl
            | exact True.intro
            | assumption
            | refine And.intro ?_ ?_
            | apply Exists.intro
            | (intro h; exfalso; simp [hl, hf, hw, hlc, ht2] at h; done)
            | (intro h; exfalso; simp [hl, hf, hw, hlc, ht2] at h; omega)
            | intro _
            | omega
            | (simp; omega))
          all_goals simp [rdV, hr]
        · have hr : rdOk sKey sTreeRoot sTreeMidN sTreeLeafN sTreeMidg0 sTreeMidg1 sTreeLeafg0 sTreeLeafg1 sDataN sTagsN sDatag0 sTagsg0 line = true := by simp only [rdOk, hl, hf, hw, ht, Bool.and_true]
          have ht2 : sTagsg0 line.toNat = tagW sKey line (sTreeLeafg0 line.toNat) (sDatag0 line.toNat) := by simpa using ht
          repeat' (first
            | with_reducible exact rfl
            | exact True.intro
            | assumption
            | refine And.intro ?_ ?_
            | apply Exists.intro
            | (intro h; exfalso; simp [hl, hf, hw, hlc, ht2] at h; done)
            | (intro h; exfalso; simp [hl, hf, hw, hlc, ht2] at h; omega)
            | intro _
            | omega
            | (simp; omega))
          all_goals simp [rdV, hr, hlc]
def sRead : Sm := fun args ch kk =>
  match args with
  | [.a (.agg [c0, c1, .sl i0 a0 n0 d0, .sl i1 a1 n1 d1, .sl i2 a2 n2 d2, .sl i3 a3 n3 d3]), .a (.c c2)] =>
    match ch[i0]?, ch[i1]?, ch[i2]?, ch[i3]?, ints [c0, c1, c2] with
    | some (.row r0), some (.row r1), some (.row r2), some (.row r3), some [sKey, sTreeRoot, line] => ∃ sTreeMidg0 sTreeMidg1 sTreeLeafg0 sTreeLeafg1 sDatag0 sTagsg0 : Nat → Int, (a0 = r0.ao ∧ n0 = r0.n ∧ r0.fld = [fun i => .int (sTreeMidg0 i), fun i => .int (sTreeMidg1 i)] ∧ a1 = r1.ao ∧ n1 = r1.n ∧ r1.fld = [fun i => .int (sTreeLeafg0 i), fun i => .int (sTreeLeafg1 i)] ∧ a2 = r2.ao ∧ n2 = r2.n ∧ r2.fld = [fun i => .int (sDatag0 i)] ∧ a3 = r3.ao ∧ n3 = r3.n ∧ r3.fld = [fun i => .int (sTagsg0 i)]) ∧ kk (.tup [.c (.int (rdV sKey sTreeRoot n0 n1 sTreeMidg0 sTreeMidg1 sTreeLeafg0 sTreeLeafg1 n2 n3 sDatag0 sTagsg0 line)), .c (.bool (rdOk sKey sTreeRoot n0 n1 sTreeMidg0 sTreeMidg1 sTreeLeafg0 sTreeLeafg1 n2 n3 sDatag0 sTagsg0 line))]) ch []
    | _, _, _, _, _ => False
  | _ => False
theorem sRead_ok {f : FuncId} (hc : ∀ args w, (callFunc f args).run Try.prog w = .ok (.enter f args) w) (h : ∀ (sKey : Int) (sTreeRoot : Int) (sTreeMidO : Option Addr) (sTreeMidN sTreeMidC : Nat) (sTreeMidg0 sTreeMidg1 : Nat → Int) (sTreeLeafO : Option Addr) (sTreeLeafN sTreeLeafC : Nat) (sTreeLeafg0 sTreeLeafg1 : Nat → Int) (sDataO : Option Addr) (sDataN sDataC : Nat) (sDatag0 : Nat → Int) (sTagsO : Option Addr) (sTagsN sTagsC : Nat) (sTagsg0 : Nat → Int) (line : Int) (w : World), Row.sat w ⟨false, sTreeMidO, 0, 2, sTreeMidN, 0, [fun i => .int (sTreeMidg0 i), fun i => .int (sTreeMidg1 i)]⟩ → Row.sat w ⟨false, sTreeLeafO, 0, 2, sTreeLeafN, 0, [fun i => .int (sTreeLeafg0 i), fun i => .int (sTreeLeafg1 i)]⟩ → Row.sat w ⟨false, sDataO, 0, 1, sDataN, 0, [fun i => .int (sDatag0 i)]⟩ → Row.sat w ⟨false, sTagsO, 0, 1, sTagsN, 0, [fun i => .int (sTagsg0 i)]⟩ → Calls Try.prog f #[.agg #[.int .i64 sKey, .int .i64 sTreeRoot, .slice sTreeMidO sTreeMidN sTreeMidC, .slice sTreeLeafO sTreeLeafN sTreeLeafC, .slice sDataO sDataN sDataC, .slice sTagsO sTagsN sTagsC], .int .i64 line] w fun e w' => e = .returned (.tuple #[.int .i64 (rdV sKey sTreeRoot sTreeMidN sTreeLeafN sTreeMidg0 sTreeMidg1 sTreeLeafg0 sTreeLeafg1 sDataN sTagsN sDatag0 sTagsg0 line), .bool (rdOk sKey sTreeRoot sTreeMidN sTreeLeafN sTreeMidg0 sTreeMidg1 sTreeLeafg0 sTreeLeafg1 sDataN sTagsN sDatag0 sTagsg0 line)]) ∧ Below w.heap.size w w') : SmOK Try.prog f sRead := by
  refine smB hc fun args ch kk w X h0 hs => ?_
  unfold sRead at h0
  split at h0
  · rename_i c0 c1 i0 a0 n0 d0 i1 a1 n1 d1 i2 a2 n2 d2 i3 a3 n3 d3 c2
    split at h0
    · rename_i r0 r1 r2 r3 sKey sTreeRoot line hr0 hr1 hr2 hr3 hi
      obtain ⟨sTreeMidg0, sTreeMidg1, sTreeLeafg0, sTreeLeafg1, sDatag0, sTagsg0, ⟨rfl, rfl, hf0, rfl, rfl, hf1, rfl, rfl, hf2, rfl, rfl, hf3⟩, h0⟩ := h0
      obtain ⟨ec0, hi⟩ := ints_cons hi
      obtain ⟨ec1, hi⟩ := ints_cons hi
      obtain ⟨ec2, hi⟩ := ints_cons hi
      refine ⟨_, h0, ?_⟩
      simp only [List.map_cons, List.map_nil, den_a, den_c, SA.den, den_sl, ec0, ec1, ec2]
      exact h sKey sTreeRoot r0.ao r0.n d0 sTreeMidg0 sTreeMidg1 r1.ao r1.n d1 sTreeLeafg0 sTreeLeafg1 r2.ao r2.n d2 sDatag0 r3.ao r3.n d3 sTagsg0 line w (Row.seenAs (hs.sat i0 _ hr0) hf0 rfl) (Row.seenAs (hs.sat i1 _ hr1) hf1 rfl) (Row.seenAs (hs.sat i2 _ hr2) hf2 rfl) (Row.seenAs (hs.sat i3 _ hr3) hf3 rfl)
    · exact h0.elim
  · exact h0.elim
theorem sRead_ok_readI : SmOK Try.prog 21 sRead := sRead_ok Try.call21 (fun sKey sTreeRoot sTreeMidO sTreeMidN sTreeMidC sTreeMidg0 sTreeMidg1 sTreeLeafO sTreeLeafN sTreeLeafC sTreeLeafg0 sTreeLeafg1 sDataO sDataN sDataC sDatag0 sTagsO sTagsN sTagsC sTagsg0 line w h0 h1 h2 h3 => readI_any sKey sTreeRoot sTreeMidO sTreeMidN sTreeMidC sTreeMidg0 sTreeMidg1 sTreeLeafO sTreeLeafN sTreeLeafC sTreeLeafg0 sTreeLeafg1 sDataO sDataN sDataC sDatag0 sTagsO sTagsN sTagsC sTagsg0 line w h0 h1 h2 h3)
theorem sRead_ok_readS : SmOK Try.prog 26 sRead := sRead_ok Try.call26 (fun sKey sTreeRoot sTreeMidO sTreeMidN sTreeMidC sTreeMidg0 sTreeMidg1 sTreeLeafO sTreeLeafN sTreeLeafC sTreeLeafg0 sTreeLeafg1 sDataO sDataN sDataC sDatag0 sTagsO sTagsN sTagsC sTagsg0 line w h0 h1 h2 h3 => readS_any sKey sTreeRoot sTreeMidO sTreeMidN sTreeMidC sTreeMidg0 sTreeMidg1 sTreeLeafO sTreeLeafN sTreeLeafC sTreeLeafg0 sTreeLeafg1 sDataO sDataN sDataC sDatag0 sTagsO sTagsN sTagsC sTagsg0 line w h0 h1 h2 h3)
end Go.Proofs.Ytppeocfcdeiemaa
