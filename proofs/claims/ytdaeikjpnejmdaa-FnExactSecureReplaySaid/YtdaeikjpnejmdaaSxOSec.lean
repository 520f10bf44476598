/-
  Secured lines as objects.
-/
import Derived.Test.YtdaeikjpnejmdaaSxO
import Derived.Test.YtdaeikjpnejmdaaSxSec1
namespace Go.Proofs.Ytdaeikjpnejmdaa
set_option linter.unusedVariables false
set_option linter.unusedSimpArgs false
open Go.RowKit
set_option maxRecDepth 100000
set_option maxHeartbeats 8000000

/-! Secure -/
structure SecureD where
  Key : Int
  TreeRoot : Int
  TreeMidN : Nat
  (TreeMidg0 TreeMidg1 : Nat → Int)
  TreeLeafN : Nat
  (TreeLeafg0 TreeLeafg1 : Nat → Int)
  DataN : Nat
  (Datag0 : Nat → Int)
  TagsN : Nat
  (Tagsg0 : Nat → Int)
def isSecure (v : Value) (x : SecureD) (rs : List Row) : Prop :=
  ∃ (TreeMidO TreeLeafO DataO TagsO : Option Addr) (TreeMidC TreeMidT TreeMidK TreeLeafC TreeLeafT TreeLeafK DataC DataT DataK TagsC TagsT TagsK : Nat) (TreeMidB TreeLeafB DataB TagsB : Bool), v = .agg #[.int .i64 x.Key, .int .i64 x.TreeRoot, .slice TreeMidO x.TreeMidN TreeMidC, .slice TreeLeafO x.TreeLeafN TreeLeafC, .slice DataO x.DataN DataC, .slice TagsO x.TagsN TagsC] ∧ rs = [⟨TreeMidB, TreeMidO, TreeMidT, 2, x.TreeMidN, TreeMidK, [fun i => .int (x.TreeMidg0 i), fun i => .int (x.TreeMidg1 i)]⟩, ⟨TreeLeafB, TreeLeafO, TreeLeafT, 2, x.TreeLeafN, TreeLeafK, [fun i => .int (x.TreeLeafg0 i), fun i => .int (x.TreeLeafg1 i)]⟩, ⟨DataB, DataO, DataT, 1, x.DataN, DataK, [fun i => .int (x.Datag0 i)]⟩, ⟨TagsB, TagsO, TagsT, 1, x.TagsN, TagsK, [fun i => .int (x.Tagsg0 i)]⟩]
abbrev capSecure (x : SecureD) : Prop := x.TreeMidN ≤ 1048576 ∧ x.TreeLeafN ≤ 1048576 ∧ x.DataN ≤ 1048576 ∧ x.TagsN ≤ 1048576
abbrev szPSecure (z k : Int) (TreeMidN TreeLeafN DataN TagsN : Nat) : Prop := z = -1 ∨ (0 ≤ z ∧ z ≤ k ∧ TreeMidN ≤ 1048576 ∧ TreeLeafN ≤ 1048576 ∧ DataN ≤ 1048576 ∧ TagsN ≤ 1048576)
abbrev lensSecure (x : SecureD) : Prop := x.TreeMidN ≤ 9223372036854775807 ∧ x.TreeLeafN ≤ 9223372036854775807 ∧ x.DataN ≤ 9223372036854775807 ∧ x.TagsN ≤ 9223372036854775807
theorem wholeSecure {v : Value} {x : SecureD} {rs : List Row} (h : isSecure v x rs) : wholeC true v 6 := by
  obtain ⟨_, _, _, _, _, _, _, _, _, _, _, _, _, _, _, _, _, _, _, _, rfl, rfl⟩ := h
  exact ⟨_, rfl, rfl, List.all_eq_true.1 rfl⟩
def markSecureD (k : Int) (x : SecureD) : SecureD := ⟨x.Key, x.TreeRoot, x.TreeMidN, fun i => mk (k) 2 0 i, fun i => mk (k) 2 1 i, x.TreeLeafN, fun i => mk (mk (k) 2 0 x.TreeMidN) 2 0 i, fun i => mk (mk (k) 2 0 x.TreeMidN) 2 1 i, x.DataN, fun i => mk (mk (mk (k) 2 0 x.TreeMidN) 2 0 x.TreeLeafN) 1 0 i, x.TagsN, fun i => mk (mk (mk (mk (k) 2 0 x.TreeMidN) 2 0 x.TreeLeafN) 1 0 x.DataN) 1 0 i⟩
def endSecure (k : Int) (x : SecureD) : Int := mk (mk (mk (mk (k) 2 0 x.TreeMidN) 2 0 x.TreeLeafN) 1 0 x.DataN) 1 0 x.TagsN
theorem toSecure_T (Key : Int) (TreeRoot : Int) (TreeMidO : Option Addr) (TreeMidN TreeMidC : Nat) (TreeMidg0 TreeMidg1 : Nat → Int) (TreeLeafO : Option Addr) (TreeLeafN TreeLeafC : Nat) (TreeLeafg0 TreeLeafg1 : Nat → Int) (DataO : Option Addr) (DataN DataC : Nat) (Datag0 : Nat → Int) (TagsO : Option Addr) (TagsN TagsC : Nat) (Tagsg0 : Nat → Int) : (exFn Try.prog {tb := [(99, sToIntS), (43, iToTree)]} 400 Try.f59 ([.a (.agg [.int Key, .int TreeRoot, .sl 0 TreeMidO TreeMidN TreeMidC, .sl 1 TreeLeafO TreeLeafN TreeLeafC, .sl 2 DataO DataN DataC, .sl 3 TagsO TagsN TagsC])]) ([.row ⟨false, TreeMidO, 0, 2, TreeMidN, 0, [fun i => .int (TreeMidg0 i), fun i => .int (TreeMidg1 i)]⟩, .row ⟨false, TreeLeafO, 0, 2, TreeLeafN, 0, [fun i => .int (TreeLeafg0 i), fun i => .int (TreeLeafg1 i)]⟩, .row ⟨false, DataO, 0, 1, DataN, 0, [fun i => .int (Datag0 i)]⟩, .row ⟨false, TagsO, 0, 1, TagsN, 0, [fun i => .int (Tagsg0 i)]⟩]) (fun v ch => ∃ (ro0 : Option Addr) (rc0 : Nat) (ro1 : Option Addr) (rc1 : Nat) (ro2 : Option Addr) (rc2 : Nat) (ro3 : Option Addr) (rc3 : Nat), OutR v ch (.agg #[.int .i64 (Key), .int .i64 (TreeRoot), .slice ro0 (TreeMidN) rc0, .slice ro1 (TreeLeafN) rc1, .slice ro2 (DataN) rc2, .slice ro3 (TagsN) rc3]) [.row ⟨true, ro0, 55, 2, TreeMidN, rc0, [fun i => .int (TreeMidg0 i), fun i => .int (TreeMidg1 i)]⟩, .row ⟨true, ro1, 55, 2, TreeLeafN, rc1, [fun i => .int (TreeLeafg0 i), fun i => .int (TreeLeafg1 i)]⟩, .row ⟨true, ro2, 3, 1, DataN, rc2, [fun i => .int (Datag0 i)]⟩, .row ⟨true, ro3, 3, 1, TagsN, rc3, [fun i => .int (Tagsg0 i)]⟩])) = (
  (∀ b0 : Nat,
  (∀ b1 : Nat,
  (∀ b2 : Nat,
  (b0 = b0 ∧
  (b2 = b2 ∧
  (b0 = b0 ∧
  (∀ b3 : Nat,
  (∀ b4 : Nat,
  (∀ b5 : Nat,
  (b3 = b3 ∧
  (b5 = b5 ∧
  (b3 = b3 ∧
  (Exists (fun (g06 : (Nat →
  Int)) => (Exists (fun (g17 : (Nat →
  Int)) => ((TreeMidO = TreeMidO ∧
  (TreeMidN = TreeMidN ∧
  ([(fun (i8 : Nat) => (SC.int (TreeMidg0 i8))), (fun (i9 : Nat) => (SC.int (TreeMidg1 i9)))] = [(fun (i10 : Nat) => (SC.int (g06 i10))), (fun (i11 : Nat) => (SC.int (g17 i11)))] ∧
  (capC TreeMidN)))) ∧
  (∀ b12 : Nat,
  (b5 = b5 ∧
  (b3 = b3 ∧
  (Exists (fun (g013 : (Nat →
  Int)) => (Exists (fun (g114 : (Nat →
  Int)) => ((TreeLeafO = TreeLeafO ∧
  (TreeLeafN = TreeLeafN ∧
  ([(fun (i15 : Nat) => (SC.int (TreeLeafg0 i15))), (fun (i16 : Nat) => (SC.int (TreeLeafg1 i16)))] = [(fun (i17 : Nat) => (SC.int (g013 i17))), (fun (i18 : Nat) => (SC.int (g114 i18)))] ∧
  (capC TreeLeafN)))) ∧
  (∀ b19 : Nat,
  (b5 = b5 ∧
  (b5 = b5 ∧
  (b4 = b4 ∧
  (b4 = b4 ∧
  (b2 = b2 ∧
  (b0 = b0 ∧
  (Exists (fun (g020 : (Nat →
  Int)) => ((DataO = DataO ∧
  (DataN = DataN ∧
  ([(fun (i21 : Nat) => (SC.int (Datag0 i21)))] = [(fun (i22 : Nat) => (SC.int (g020 i22)))] ∧
  (capC DataN)))) ∧
  (∀ b23 : Nat,
  (b2 = b2 ∧
  (b0 = b0 ∧
  (Exists (fun (g024 : (Nat →
  Int)) => ((TagsO = TagsO ∧
  (TagsN = TagsN ∧
  ([(fun (i25 : Nat) => (SC.int (Tagsg0 i25)))] = [(fun (i26 : Nat) => (SC.int (g024 i26)))] ∧
  (capC TagsN)))) ∧
  (∀ b27 : Nat,
  (b2 = b2 ∧
  (b2 = b2 ∧
  (b1 = b1 ∧
  (b1 = b1 ∧
  (Exists (fun (ro028 : (Option Addr)) => (Exists (fun (rc029 : Nat) => (Exists (fun (ro130 : (Option Addr)) => (Exists (fun (rc131 : Nat) => (Exists (fun (ro232 : (Option Addr)) => (Exists (fun (rc233 : Nat) => (Exists (fun (ro334 : (Option Addr)) => (Exists (fun (rc335 : Nat) => ((Value.agg (List.toArray [(Value.int IntKind.i64 Key), (Value.int IntKind.i64 TreeRoot), (Value.slice (Option.some (Addr.mk b12 0 Option.none)) TreeMidN TreeMidN), (Value.slice (Option.some (Addr.mk b19 0 Option.none)) TreeLeafN TreeLeafN), (Value.slice (Option.some (Addr.mk b23 0 Option.none)) DataN DataN), (Value.slice (Option.some (Addr.mk b27 0 Option.none)) TagsN TagsN)])) = (Value.agg (List.toArray [(Value.int IntKind.i64 Key), (Value.int IntKind.i64 TreeRoot), (Value.slice ro028 TreeMidN rc029), (Value.slice ro130 TreeLeafN rc131), (Value.slice ro232 DataN rc233), (Value.slice ro334 TagsN rc335)])) ∧
  (((Bool.true = Bool.true ∧
  ((Option.some (Addr.mk b12 0 Option.none)) = ro028 ∧
  (55 = 55 ∧
  (2 = 2 ∧
  (TreeMidN = TreeMidN ∧
  (TreeMidN = rc029 ∧
  ((∀ i36 : Nat,
  (i36 < TreeMidN →
  (Value.int IntKind.i64 (g06 i36)) = (Value.int IntKind.i64 (TreeMidg0 i36)))) ∧
  ((∀ i37 : Nat,
  (i37 < TreeMidN →
  (Value.int IntKind.i64 (g17 i37)) = (Value.int IntKind.i64 (TreeMidg1 i37)))) ∧
  True)))))))) ∧
  ((Bool.true = Bool.true ∧
  ((Option.some (Addr.mk b19 0 Option.none)) = ro130 ∧
  (55 = 55 ∧
  (2 = 2 ∧
  (TreeLeafN = TreeLeafN ∧
  (TreeLeafN = rc131 ∧
  ((∀ i38 : Nat,
  (i38 < TreeLeafN →
  (Value.int IntKind.i64 (g013 i38)) = (Value.int IntKind.i64 (TreeLeafg0 i38)))) ∧
  ((∀ i39 : Nat,
  (i39 < TreeLeafN →
  (Value.int IntKind.i64 (g114 i39)) = (Value.int IntKind.i64 (TreeLeafg1 i39)))) ∧
  True)))))))) ∧
  ((Bool.true = Bool.true ∧
  ((Option.some (Addr.mk b23 0 Option.none)) = ro232 ∧
  (3 = 3 ∧
  (1 = 1 ∧
  (DataN = DataN ∧
  (DataN = rc233 ∧
  ((∀ i40 : Nat,
  (i40 < DataN →
  (Value.int IntKind.i64 (g020 i40)) = (Value.int IntKind.i64 (Datag0 i40)))) ∧
  True))))))) ∧
  ((Bool.true = Bool.true ∧
  ((Option.some (Addr.mk b27 0 Option.none)) = ro334 ∧
  (3 = 3 ∧
  (1 = 1 ∧
  (TagsN = TagsN ∧
  (TagsN = rc335 ∧
  ((∀ i41 : Nat,
  (i41 < TagsN →
  (Value.int IntKind.i64 (g024 i41)) = (Value.int IntKind.i64 (Tagsg0 i41)))) ∧
  True))))))) ∧
  True)))) ∧
  Bool.true = Bool.true))))))))))))))))))))))))))))))))))))))))))))))))))))))))))))))))) := by kernel_rfl
theorem toSecure_any (Key : Int) (TreeRoot : Int) (TreeMidO : Option Addr) (TreeMidN TreeMidC : Nat) (TreeMidg0 TreeMidg1 : Nat → Int) (TreeLeafO : Option Addr) (TreeLeafN TreeLeafC : Nat) (TreeLeafg0 TreeLeafg1 : Nat → Int) (DataO : Option Addr) (DataN DataC : Nat) (Datag0 : Nat → Int) (TagsO : Option Addr) (TagsN TagsC : Nat) (Tagsg0 : Nat → Int) (w : World) (hrTreeMid : Row.sat w ⟨false, TreeMidO, 0, 2, TreeMidN, 0, [fun i => .int (TreeMidg0 i), fun i => .int (TreeMidg1 i)]⟩) (hrTreeLeaf : Row.sat w ⟨false, TreeLeafO, 0, 2, TreeLeafN, 0, [fun i => .int (TreeLeafg0 i), fun i => .int (TreeLeafg1 i)]⟩) (hrData : Row.sat w ⟨false, DataO, 0, 1, DataN, 0, [fun i => .int (Datag0 i)]⟩) (hrTags : Row.sat w ⟨false, TagsO, 0, 1, TagsN, 0, [fun i => .int (Tagsg0 i)]⟩) (hpre : capC TreeMidN ∧ capC TreeLeafN ∧ capC DataN ∧ capC TagsN) : Calls Try.prog 59 #[.agg #[.int .i64 Key, .int .i64 TreeRoot, .slice TreeMidO TreeMidN TreeMidC, .slice TreeLeafO TreeLeafN TreeLeafC, .slice DataO DataN DataC, .slice TagsO TagsN TagsC]] w fun e w' => ∃ (ro0 : Option Addr) (rc0 : Nat) (ro1 : Option Addr) (rc1 : Nat) (ro2 : Option Addr) (rc2 : Nat) (ro3 : Option Addr) (rc3 : Nat), e = .returned (.agg #[.int .i64 (Key), .int .i64 (TreeRoot), .slice ro0 (TreeMidN) rc0, .slice ro1 (TreeLeafN) rc1, .slice ro2 (DataN) rc2, .slice ro3 (TagsN) rc3]) ∧ HS ⟨w, fun _ => False⟩ [.row ⟨true, ro0, 55, 2, TreeMidN, rc0, [fun i => .int (TreeMidg0 i), fun i => .int (TreeMidg1 i)]⟩, .row ⟨true, ro1, 55, 2, TreeLeafN, rc1, [fun i => .int (TreeLeafg0 i), fun i => .int (TreeLeafg1 i)]⟩, .row ⟨true, ro2, 3, 1, DataN, rc2, [fun i => .int (Datag0 i)]⟩, .row ⟨true, ro3, 3, 1, TagsN, rc3, [fun i => .int (Tagsg0 i)]⟩] w' := by
  refine fnB (tb := [(99, sToIntS), (43, iToTree)]) ⟨sToIntS_ok, iToTree_ok, trivial⟩ Try.func59 ((toSecure_T Key TreeRoot TreeMidO TreeMidN TreeMidC TreeMidg0 TreeMidg1 TreeLeafO TreeLeafN TreeLeafC TreeLeafg0 TreeLeafg1 DataO DataN DataC Datag0 TagsO TagsN TagsC Tagsg0).mpr ?_) (HS.rows (fun _ => False) [⟨false, TreeMidO, 0, 2, TreeMidN, 0, [fun i => .int (TreeMidg0 i), fun i => .int (TreeMidg1 i)]⟩, ⟨false, TreeLeafO, 0, 2, TreeLeafN, 0, [fun i => .int (TreeLeafg0 i), fun i => .int (TreeLeafg1 i)]⟩, ⟨false, DataO, 0, 1, DataN, 0, [fun i => .int (Datag0 i)]⟩, ⟨false, TagsO, 0, 1, TagsN, 0, [fun i => .int (Tagsg0 i)]⟩] (by simp; exact ⟨hrTreeMid, hrTreeLeaf, hrData, hrTags⟩)) (fun v ch' w' ⟨ro0, rc0, ro1, rc1, ro2, rc2, ro3, rc3, hk⟩ hs => ⟨ro0, rc0, ro1, rc1, ro2, rc2, ro3, rc3, by rw [hk.1], hk.hs hs⟩)
  clear hrTreeMid hrTreeLeaf hrData hrTags
  repeat' (first
    | exact rfl
    | exact True.intro
    | refine And.intro ?_ ?_
    | apply Exists.intro
    | assumption
    | omega
    | intro _)
def sToSecureO : Sm := fun args ch k =>
  match args with
  | [.a (.c (.obj i0 v0))] =>
    match ch[i0]? with
    | some (.obj _ r0) => ∃ (x : SecureD), (isSecure v0 x r0 ∧ capSecure x) ∧ ∀ (v' : Value) (rs' : List Row), isSecure v' (x) rs' → k (.a (.c (.obj ch.length v'))) (ch ++ [.obj true rs']) []
    | _ => False
  | _ => False
theorem sToSecureO_ok_laws_toSecure : SmOK Try.prog 59 sToSecureO := by
  refine smN Try.call59 fun args ch k w X h0 hs => ?_
  unfold sToSecureO at h0
  split at h0
  · rename_i i0 v0
    split at h0
    · rename_i o0 r0 hi0
      obtain ⟨x, ⟨⟨_, _, _, _, _, _, _, _, _, _, _, _, _, _, _, _, _, _, _, _, rfl, rfl⟩, hpre⟩, h0⟩ := h0
      have hw0 := hs.seeObj hi0
      simp only [List.map_cons, List.map_nil, den_a, den_c, SA.den, den_obj]
      refine Calls.mono (toSecure_any x.Key x.TreeRoot _ x.TreeMidN _ x.TreeMidg0 x.TreeMidg1 _ x.TreeLeafN _ x.TreeLeafg0 x.TreeLeafg1 _ x.DataN _ x.Datag0 _ x.TagsN _ x.Tagsg0 w (Row.seenAs (hw0 _ (mem0)).2 rfl rfl) (Row.seenAs (hw0 _ ((memS mem0))).2 rfl rfl) (Row.seenAs (hw0 _ ((memS (memS mem0)))).2 rfl rfl) (Row.seenAs (hw0 _ ((memS (memS (memS mem0))))).2 rfl rfl) hpre) fun e w' ⟨ro0, rc0, ro1, rc1, ro2, rc2, ro3, rc3, he, hs'⟩ => ⟨_, [.obj true _], ?_, hs'.pack (rs := [_, _, _, _]) (by simp), rfl, h0 _ _ ⟨ro0, ro1, ro2, ro3, rc0, _, _, rc1, _, _, rc2, _, _, rc3, _, _, _, _, _, _, rfl, rfl⟩⟩
      rw [he]
      rfl
    · exact h0.elim
  · exact h0.elim
theorem eqSecure_T (Key : Int) (TreeRoot : Int) (TreeMidN : Nat) (TreeMidg0 TreeMidg1 : Nat → Int) (TreeLeafN : Nat) (TreeLeafg0 TreeLeafg1 : Nat → Int) (DataN : Nat) (Datag0 : Nat → Int) (TagsN : Nat) (Tagsg0 : Nat → Int) (aTreeMidO : Option Addr) (aTreeMidC : Nat) (aTreeLeafO : Option Addr) (aTreeLeafC : Nat) (aDataO : Option Addr) (aDataC : Nat) (aTagsO : Option Addr) (aTagsC : Nat) (bTreeMidO : Option Addr) (bTreeMidC : Nat) (bTreeLeafO : Option Addr) (bTreeLeafC : Nat) (bDataO : Option Addr) (bDataC : Nat) (bTagsO : Option Addr) (bTagsC : Nat) : (exFn Try.prog {tb := [(101, sEqIntS), (45, iEqTree)]} 400 Try.f61 ([.a (.agg [.int Key, .int TreeRoot, .sl 0 aTreeMidO TreeMidN aTreeMidC, .sl 1 aTreeLeafO TreeLeafN aTreeLeafC, .sl 2 aDataO DataN aDataC, .sl 3 aTagsO TagsN aTagsC]), .a (.agg [.int Key, .int TreeRoot, .sl 4 bTreeMidO TreeMidN bTreeMidC, .sl 5 bTreeLeafO TreeLeafN bTreeLeafC, .sl 6 bDataO DataN bDataC, .sl 7 bTagsO TagsN bTagsC])]) ([.row ⟨false, aTreeMidO, 0, 2, TreeMidN, 0, [fun i => .int (TreeMidg0 i), fun i => .int (TreeMidg1 i)]⟩, .row ⟨false, aTreeLeafO, 0, 2, TreeLeafN, 0, [fun i => .int (TreeLeafg0 i), fun i => .int (TreeLeafg1 i)]⟩, .row ⟨false, aDataO, 0, 1, DataN, 0, [fun i => .int (Datag0 i)]⟩, .row ⟨false, aTagsO, 0, 1, TagsN, 0, [fun i => .int (Tagsg0 i)]⟩, .row ⟨false, bTreeMidO, 0, 2, TreeMidN, 0, [fun i => .int (TreeMidg0 i), fun i => .int (TreeMidg1 i)]⟩, .row ⟨false, bTreeLeafO, 0, 2, TreeLeafN, 0, [fun i => .int (TreeLeafg0 i), fun i => .int (TreeLeafg1 i)]⟩, .row ⟨false, bDataO, 0, 1, DataN, 0, [fun i => .int (Datag0 i)]⟩, .row ⟨false, bTagsO, 0, 1, TagsN, 0, [fun i => .int (Tagsg0 i)]⟩]) (fun v _ => v.den = .bool true)) = (
  (∀ b0 : Nat,
  (∀ b1 : Nat,
  (b0 = b0 ∧
  (b1 = b1 ∧
  (((Key != Key) = Bool.true →
  (Value.bool Bool.false) = (Value.bool Bool.true)) ∧
  ((Key != Key) = Bool.false →
  (b0 = b0 ∧
   (b1 = b1 ∧
   (∀ b2 : Nat,
   (∀ b3 : Nat,
   (b2 = b2 ∧
   (b3 = b3 ∧
   (((TreeRoot != TreeRoot) = Bool.true →
   (Value.bool Bool.false) = (Value.bool Bool.true)) ∧
   ((TreeRoot != TreeRoot) = Bool.false →
   (b2 = b2 ∧
    (b3 = b3 ∧
    (Exists (fun (g04 : (Nat →
    Int)) => (Exists (fun (g15 : (Nat →
    Int)) => (Exists (fun (q06 : (Nat →
    Int)) => (Exists (fun (q17 : (Nat →
    Int)) => ((aTreeMidO = aTreeMidO ∧
    (TreeMidN = TreeMidN ∧
    ([(fun (i8 : Nat) => (SC.int (TreeMidg0 i8))), (fun (i9 : Nat) => (SC.int (TreeMidg1 i9)))] = [(fun (i10 : Nat) => (SC.int (g04 i10))), (fun (i11 : Nat) => (SC.int (g15 i11)))] ∧
    (bTreeMidO = bTreeMidO ∧
    (TreeMidN = TreeMidN ∧
    ([(fun (i12 : Nat) => (SC.int (TreeMidg0 i12))), (fun (i13 : Nat) => (SC.int (TreeMidg1 i13)))] = [(fun (i14 : Nat) => (SC.int (q06 i14))), (fun (i15 : Nat) => (SC.int (q17 i15)))] ∧
    (TreeMidN = TreeMidN ∧
    (capC TreeMidN)))))))) ∧
    ((∀ i16 : Nat,
    (i16 < TreeMidN →
    ((g04 i16) = (q06 i16) ∧
     (g15 i16) = (q17 i16)))) ∧
    (b2 = b2 ∧
    (b3 = b3 ∧
    (Exists (fun (g017 : (Nat →
    Int)) => (Exists (fun (g118 : (Nat →
    Int)) => (Exists (fun (q019 : (Nat →
    Int)) => (Exists (fun (q120 : (Nat →
    Int)) => ((aTreeLeafO = aTreeLeafO ∧
    (TreeLeafN = TreeLeafN ∧
    ([(fun (i21 : Nat) => (SC.int (TreeLeafg0 i21))), (fun (i22 : Nat) => (SC.int (TreeLeafg1 i22)))] = [(fun (i23 : Nat) => (SC.int (g017 i23))), (fun (i24 : Nat) => (SC.int (g118 i24)))] ∧
    (bTreeLeafO = bTreeLeafO ∧
    (TreeLeafN = TreeLeafN ∧
    ([(fun (i25 : Nat) => (SC.int (TreeLeafg0 i25))), (fun (i26 : Nat) => (SC.int (TreeLeafg1 i26)))] = [(fun (i27 : Nat) => (SC.int (q019 i27))), (fun (i28 : Nat) => (SC.int (q120 i28)))] ∧
    (TreeLeafN = TreeLeafN ∧
    (capC TreeLeafN)))))))) ∧
    ((∀ i29 : Nat,
    (i29 < TreeLeafN →
    ((g017 i29) = (q019 i29) ∧
     (g118 i29) = (q120 i29)))) ∧
    (b0 = b0 ∧
    (b1 = b1 ∧
    (Exists (fun (g030 : (Nat →
    Int)) => (Exists (fun (q031 : (Nat →
    Int)) => ((aDataO = aDataO ∧
    (DataN = DataN ∧
    ([(fun (i32 : Nat) => (SC.int (Datag0 i32)))] = [(fun (i33 : Nat) => (SC.int (g030 i33)))] ∧
    (bDataO = bDataO ∧
    (DataN = DataN ∧
    ([(fun (i34 : Nat) => (SC.int (Datag0 i34)))] = [(fun (i35 : Nat) => (SC.int (q031 i35)))] ∧
    (DataN = DataN ∧
    (capC DataN)))))))) ∧
    ((∀ i36 : Nat,
    (i36 < DataN →
    (g030 i36) = (q031 i36))) ∧
    (b0 = b0 ∧
    (b1 = b1 ∧
    (Exists (fun (g037 : (Nat →
    Int)) => (Exists (fun (q038 : (Nat →
    Int)) => ((aTagsO = aTagsO ∧
    (TagsN = TagsN ∧
    ([(fun (i39 : Nat) => (SC.int (Tagsg0 i39)))] = [(fun (i40 : Nat) => (SC.int (g037 i40)))] ∧
    (bTagsO = bTagsO ∧
    (TagsN = TagsN ∧
    ([(fun (i41 : Nat) => (SC.int (Tagsg0 i41)))] = [(fun (i42 : Nat) => (SC.int (q038 i42)))] ∧
    (TagsN = TagsN ∧
    (capC TagsN)))))))) ∧
    ((∀ i43 : Nat,
    (i43 < TagsN →
    (g037 i43) = (q038 i43))) ∧
    (Value.bool Bool.true) = (Value.bool Bool.true)))))))))))))))))))))))))))))))))))))))))))))))))))))))) := by kernel_rfl
theorem eqSecure_any (Key : Int) (TreeRoot : Int) (TreeMidN : Nat) (TreeMidg0 TreeMidg1 : Nat → Int) (TreeLeafN : Nat) (TreeLeafg0 TreeLeafg1 : Nat → Int) (DataN : Nat) (Datag0 : Nat → Int) (TagsN : Nat) (Tagsg0 : Nat → Int) (aTreeMidO : Option Addr) (aTreeMidC : Nat) (aTreeLeafO : Option Addr) (aTreeLeafC : Nat) (aDataO : Option Addr) (aDataC : Nat) (aTagsO : Option Addr) (aTagsC : Nat) (bTreeMidO : Option Addr) (bTreeMidC : Nat) (bTreeLeafO : Option Addr) (bTreeLeafC : Nat) (bDataO : Option Addr) (bDataC : Nat) (bTagsO : Option Addr) (bTagsC : Nat) (w : World) (hra0 : Row.sat w ⟨false, aTreeMidO, 0, 2, TreeMidN, 0, [fun i => .int (TreeMidg0 i), fun i => .int (TreeMidg1 i)]⟩) (hra1 : Row.sat w ⟨false, aTreeLeafO, 0, 2, TreeLeafN, 0, [fun i => .int (TreeLeafg0 i), fun i => .int (TreeLeafg1 i)]⟩) (hra2 : Row.sat w ⟨false, aDataO, 0, 1, DataN, 0, [fun i => .int (Datag0 i)]⟩) (hra3 : Row.sat w ⟨false, aTagsO, 0, 1, TagsN, 0, [fun i => .int (Tagsg0 i)]⟩) (hrb0 : Row.sat w ⟨false, bTreeMidO, 0, 2, TreeMidN, 0, [fun i => .int (TreeMidg0 i), fun i => .int (TreeMidg1 i)]⟩) (hrb1 : Row.sat w ⟨false, bTreeLeafO, 0, 2, TreeLeafN, 0, [fun i => .int (TreeLeafg0 i), fun i => .int (TreeLeafg1 i)]⟩) (hrb2 : Row.sat w ⟨false, bDataO, 0, 1, DataN, 0, [fun i => .int (Datag0 i)]⟩) (hrb3 : Row.sat w ⟨false, bTagsO, 0, 1, TagsN, 0, [fun i => .int (Tagsg0 i)]⟩) (hcap : TreeMidN ≤ 1048576 ∧ TreeLeafN ≤ 1048576 ∧ DataN ≤ 1048576 ∧ TagsN ≤ 1048576) : Calls Try.prog 61 #[.agg #[.int .i64 Key, .int .i64 TreeRoot, .slice aTreeMidO TreeMidN aTreeMidC, .slice aTreeLeafO TreeLeafN aTreeLeafC, .slice aDataO DataN aDataC, .slice aTagsO TagsN aTagsC], .agg #[.int .i64 Key, .int .i64 TreeRoot, .slice bTreeMidO TreeMidN bTreeMidC, .slice bTreeLeafO TreeLeafN bTreeLeafC, .slice bDataO DataN bDataC, .slice bTagsO TagsN bTagsC]] w fun e w' => e = .returned (.bool true) ∧ Below w.heap.size w w' := by
  refine fnB (tb := [(101, sEqIntS), (45, iEqTree)]) ⟨sEqIntS_ok, iEqTree_ok, trivial⟩ Try.func61 ((eqSecure_T Key TreeRoot TreeMidN TreeMidg0 TreeMidg1 TreeLeafN TreeLeafg0 TreeLeafg1 DataN Datag0 TagsN Tagsg0 aTreeMidO aTreeMidC aTreeLeafO aTreeLeafC aDataO aDataC aTagsO aTagsC bTreeMidO bTreeMidC bTreeLeafO bTreeLeafC bDataO bDataC bTagsO bTagsC).mpr ?_) (HS.rows (fun _ => False) [⟨false, aTreeMidO, 0, 2, TreeMidN, 0, [fun i => .int (TreeMidg0 i), fun i => .int (TreeMidg1 i)]⟩, ⟨false, aTreeLeafO, 0, 2, TreeLeafN, 0, [fun i => .int (TreeLeafg0 i), fun i => .int (TreeLeafg1 i)]⟩, ⟨false, aDataO, 0, 1, DataN, 0, [fun i => .int (Datag0 i)]⟩, ⟨false, aTagsO, 0, 1, TagsN, 0, [fun i => .int (Tagsg0 i)]⟩, ⟨false, bTreeMidO, 0, 2, TreeMidN, 0, [fun i => .int (TreeMidg0 i), fun i => .int (TreeMidg1 i)]⟩, ⟨false, bTreeLeafO, 0, 2, TreeLeafN, 0, [fun i => .int (TreeLeafg0 i), fun i => .int (TreeLeafg1 i)]⟩, ⟨false, bDataO, 0, 1, DataN, 0, [fun i => .int (Datag0 i)]⟩, ⟨false, bTagsO, 0, 1, TagsN, 0, [fun i => .int (Tagsg0 i)]⟩] (by simp; exact ⟨hra0, hra1, hra2, hra3, hrb0, hrb1, hrb2, hrb3⟩)) (fun v ch' w' hk hs => ⟨by rw [hk], hs.below⟩)
  clear hra0 hra1 hra2 hra3 hrb0 hrb1 hrb2 hrb3
  repeat' (first
    | exact rfl
    | exact True.intro
    | assumption
    | refine And.intro ?_ ?_
    | apply Exists.intro
    | omega
    | (intro h; exfalso; simp at h; done)
    | (intro h; exfalso; simp at h; omega)
    | intro _)
def sEqSecureO : Sm := fun args ch k =>
  match args with
  | [.a (.c (.obj i v)), .a (.c (.obj j u))] =>
    match ch[i]?, ch[j]? with
    | some (.obj _ rs), some (.obj _ us) => ∃ x : SecureD, (isSecure v x rs ∧ isSecure u x us ∧ capSecure x) ∧ k (.a (.c (.lit true))) ch []
    | _, _ => False
  | _ => False
theorem sEqSecureO_ok : SmOK Try.prog 61 sEqSecureO := by
  refine smB Try.call61 fun args ch k w X h0 hs => ?_
  unfold sEqSecureO at h0
  split at h0
  · rename_i i v j u
    split at h0
    · rename_i o rs o' us hi hj
      obtain ⟨x, ⟨⟨_, _, _, _, _, _, _, _, _, _, _, _, _, _, _, _, _, _, _, _, rfl, rfl⟩, ⟨_, _, _, _, _, _, _, _, _, _, _, _, _, _, _, _, _, _, _, _, rfl, rfl⟩, hc⟩, h0⟩ := h0
      have h1 := hs.seeObj hi
      have h2 := hs.seeObj hj
      refine ⟨_, h0, ?_⟩
      exact eqSecure_any x.Key x.TreeRoot x.TreeMidN x.TreeMidg0 x.TreeMidg1 x.TreeLeafN x.TreeLeafg0 x.TreeLeafg1 x.DataN x.Datag0 x.TagsN x.Tagsg0 _ _ _ _ _ _ _ _ _ _ _ _ _ _ _ _ w (Row.seenAs (h1 _ (mem0)).2 rfl rfl) (Row.seenAs (h1 _ ((memS mem0))).2 rfl rfl) (Row.seenAs (h1 _ ((memS (memS mem0)))).2 rfl rfl) (Row.seenAs (h1 _ ((memS (memS (memS mem0))))).2 rfl rfl) (Row.seenAs (h2 _ (mem0)).2 rfl rfl) (Row.seenAs (h2 _ ((memS mem0))).2 rfl rfl) (Row.seenAs (h2 _ ((memS (memS mem0)))).2 rfl rfl) (Row.seenAs (h2 _ ((memS (memS (memS mem0))))).2 rfl rfl) hc
    · exact h0.elim
  · exact h0.elim
theorem markSecure_T (Key : Int) (TreeRoot : Int) (TreeMidN : Nat) (TreeMidg0 TreeMidg1 : Nat → Int) (TreeLeafN : Nat) (TreeLeafg0 TreeLeafg1 : Nat → Int) (DataN : Nat) (Datag0 : Nat → Int) (TagsN : Nat) (Tagsg0 : Nat → Int) (TreeMidO : Option Addr) (TreeMidC : Nat) (TreeLeafO : Option Addr) (TreeLeafC : Nat) (DataO : Option Addr) (DataC : Nat) (TagsO : Option Addr) (TagsC : Nat) (TreeMidT TreeMidK TreeLeafT TreeLeafK DataT DataK TagsT TagsK : Nat) (k0 : Int) : (exFn Try.prog {tb := [(102, sMarkIntS), (46, iMarkTree)]} 400 Try.f62 ([.a (.agg [.int Key, .int TreeRoot, .sl 0 TreeMidO TreeMidN TreeMidC, .sl 1 TreeLeafO TreeLeafN TreeLeafC, .sl 2 DataO DataN DataC, .sl 3 TagsO TagsN TagsC]), .a (.c (.int k0))]) ([.row ⟨true, TreeMidO, TreeMidT, 2, TreeMidN, TreeMidK, [fun i => .int (TreeMidg0 i), fun i => .int (TreeMidg1 i)]⟩, .row ⟨true, TreeLeafO, TreeLeafT, 2, TreeLeafN, TreeLeafK, [fun i => .int (TreeLeafg0 i), fun i => .int (TreeLeafg1 i)]⟩, .row ⟨true, DataO, DataT, 1, DataN, DataK, [fun i => .int (Datag0 i)]⟩, .row ⟨true, TagsO, TagsT, 1, TagsN, TagsK, [fun i => .int (Tagsg0 i)]⟩]) (fun v ch => v.den = .int .i64 (mk (mk (mk (mk (k0) 2 0 TreeMidN) 2 0 TreeLeafN) 1 0 DataN) 1 0 TagsN) ∧ selC ch [0, 1, 2, 3] = [.row ⟨true, TreeMidO, TreeMidT, 2, TreeMidN, TreeMidK, [fun i => .int (mk (k0) 2 0 i), fun i => .int (mk (k0) 2 1 i)]⟩, .row ⟨true, TreeLeafO, TreeLeafT, 2, TreeLeafN, TreeLeafK, [fun i => .int (mk (mk (k0) 2 0 TreeMidN) 2 0 i), fun i => .int (mk (mk (k0) 2 0 TreeMidN) 2 1 i)]⟩, .row ⟨true, DataO, DataT, 1, DataN, DataK, [fun i => .int (mk (mk (mk (k0) 2 0 TreeMidN) 2 0 TreeLeafN) 1 0 i)]⟩, .row ⟨true, TagsO, TagsT, 1, TagsN, TagsK, [fun i => .int (mk (mk (mk (mk (k0) 2 0 TreeMidN) 2 0 TreeLeafN) 1 0 DataN) 1 0 i)]⟩])) = (
  (∀ b0 : Nat,
  (b0 = b0 ∧
  (∀ b1 : Nat,
  (b1 = b1 ∧
  (Exists (fun (g02 : (Nat →
  Int)) => (Exists (fun (g13 : (Nat →
  Int)) => ((TreeMidO = TreeMidO ∧
  (TreeMidN = TreeMidN ∧
  ([(fun (i4 : Nat) => (SC.int (TreeMidg0 i4))), (fun (i5 : Nat) => (SC.int (TreeMidg1 i5)))] = [(fun (i6 : Nat) => (SC.int (g02 i6))), (fun (i7 : Nat) => (SC.int (g13 i7)))] ∧
  (markC TreeMidN k0)))) ∧
  (b1 = b1 ∧
  (Exists (fun (g08 : (Nat →
  Int)) => (Exists (fun (g19 : (Nat →
  Int)) => ((TreeLeafO = TreeLeafO ∧
  (TreeLeafN = TreeLeafN ∧
  ([(fun (i10 : Nat) => (SC.int (TreeLeafg0 i10))), (fun (i11 : Nat) => (SC.int (TreeLeafg1 i11)))] = [(fun (i12 : Nat) => (SC.int (g08 i12))), (fun (i13 : Nat) => (SC.int (g19 i13)))] ∧
  (markC TreeLeafN (mk k0 2 0 TreeMidN))))) ∧
  (b0 = b0 ∧
  (Exists (fun (g014 : (Nat →
  Int)) => ((DataO = DataO ∧
  (DataN = DataN ∧
  ([(fun (i15 : Nat) => (SC.int (Datag0 i15)))] = [(fun (i16 : Nat) => (SC.int (g014 i16)))] ∧
  (markC DataN (mk (mk k0 2 0 TreeMidN) 2 0 TreeLeafN))))) ∧
  (b0 = b0 ∧
  (Exists (fun (g017 : (Nat →
  Int)) => ((TagsO = TagsO ∧
  (TagsN = TagsN ∧
  ([(fun (i18 : Nat) => (SC.int (Tagsg0 i18)))] = [(fun (i19 : Nat) => (SC.int (g017 i19)))] ∧
  (markC TagsN (mk (mk (mk k0 2 0 TreeMidN) 2 0 TreeLeafN) 1 0 DataN))))) ∧
  ((Value.int IntKind.i64 (mk (mk (mk (mk k0 2 0 TreeMidN) 2 0 TreeLeafN) 1 0 DataN) 1 0 TagsN)) = (Value.int IntKind.i64 (mk (mk (mk (mk k0 2 0 TreeMidN) 2 0 TreeLeafN) 1 0 DataN) 1 0 TagsN)) ∧
  [(Ch.row (Row.mk Bool.true TreeMidO TreeMidT 2 TreeMidN TreeMidK [(fun (i20 : Nat) => (SC.int (mk k0 2 0 i20))), (fun (i21 : Nat) => (SC.int (mk k0 2 1 i21)))])), (Ch.row (Row.mk Bool.true TreeLeafO TreeLeafT 2 TreeLeafN TreeLeafK [(fun (i22 : Nat) => (SC.int (mk (mk k0 2 0 TreeMidN) 2 0 i22))), (fun (i23 : Nat) => (SC.int (mk (mk k0 2 0 TreeMidN) 2 1 i23)))])), (Ch.row (Row.mk Bool.true DataO DataT 1 DataN DataK [(fun (i24 : Nat) => (SC.int (mk (mk (mk k0 2 0 TreeMidN) 2 0 TreeLeafN) 1 0 i24)))])), (Ch.row (Row.mk Bool.true TagsO TagsT 1 TagsN TagsK [(fun (i25 : Nat) => (SC.int (mk (mk (mk (mk k0 2 0 TreeMidN) 2 0 TreeLeafN) 1 0 DataN) 1 0 i25)))]))] = [(Ch.row (Row.mk Bool.true TreeMidO TreeMidT 2 TreeMidN TreeMidK [(fun (i26 : Nat) => (SC.int (mk k0 2 0 i26))), (fun (i27 : Nat) => (SC.int (mk k0 2 1 i27)))])), (Ch.row (Row.mk Bool.true TreeLeafO TreeLeafT 2 TreeLeafN TreeLeafK [(fun (i28 : Nat) => (SC.int (mk (mk k0 2 0 TreeMidN) 2 0 i28))), (fun (i29 : Nat) => (SC.int (mk (mk k0 2 0 TreeMidN) 2 1 i29)))])), (Ch.row (Row.mk Bool.true DataO DataT 1 DataN DataK [(fun (i30 : Nat) => (SC.int (mk (mk (mk k0 2 0 TreeMidN) 2 0 TreeLeafN) 1 0 i30)))])), (Ch.row (Row.mk Bool.true TagsO TagsT 1 TagsN TagsK [(fun (i31 : Nat) => (SC.int (mk (mk (mk (mk k0 2 0 TreeMidN) 2 0 TreeLeafN) 1 0 DataN) 1 0 i31)))]))]))))))))))))))))))))))))) := by kernel_rfl
theorem markSecure_any (Key : Int) (TreeRoot : Int) (TreeMidN : Nat) (TreeMidg0 TreeMidg1 : Nat → Int) (TreeLeafN : Nat) (TreeLeafg0 TreeLeafg1 : Nat → Int) (DataN : Nat) (Datag0 : Nat → Int) (TagsN : Nat) (Tagsg0 : Nat → Int) (TreeMidO : Option Addr) (TreeMidC : Nat) (TreeLeafO : Option Addr) (TreeLeafC : Nat) (DataO : Option Addr) (DataC : Nat) (TagsO : Option Addr) (TagsC : Nat) (TreeMidT TreeMidK TreeLeafT TreeLeafK DataT DataK TagsT TagsK : Nat) (k0 : Int) (w : World) (M : Nat → Prop) (hs : HS ⟨w, M⟩ [.row ⟨true, TreeMidO, TreeMidT, 2, TreeMidN, TreeMidK, [fun i => .int (TreeMidg0 i), fun i => .int (TreeMidg1 i)]⟩, .row ⟨true, TreeLeafO, TreeLeafT, 2, TreeLeafN, TreeLeafK, [fun i => .int (TreeLeafg0 i), fun i => .int (TreeLeafg1 i)]⟩, .row ⟨true, DataO, DataT, 1, DataN, DataK, [fun i => .int (Datag0 i)]⟩, .row ⟨true, TagsO, TagsT, 1, TagsN, TagsK, [fun i => .int (Tagsg0 i)]⟩] w) (hcap : TreeMidN ≤ 1048576 ∧ TreeLeafN ≤ 1048576 ∧ DataN ≤ 1048576 ∧ TagsN ≤ 1048576) (h0 : 0 ≤ k0 ∧ k0 ≤ 549755813888) : Calls Try.prog 62 #[.agg #[.int .i64 Key, .int .i64 TreeRoot, .slice TreeMidO TreeMidN TreeMidC, .slice TreeLeafO TreeLeafN TreeLeafC, .slice DataO DataN DataC, .slice TagsO TagsN TagsC], .int .i64 k0] w fun e w' => e = .returned (.int .i64 (mk (mk (mk (mk (k0) 2 0 TreeMidN) 2 0 TreeLeafN) 1 0 DataN) 1 0 TagsN)) ∧ HS ⟨w, M⟩ [.row ⟨true, TreeMidO, TreeMidT, 2, TreeMidN, TreeMidK, [fun i => .int (mk (k0) 2 0 i), fun i => .int (mk (k0) 2 1 i)]⟩, .row ⟨true, TreeLeafO, TreeLeafT, 2, TreeLeafN, TreeLeafK, [fun i => .int (mk (mk (k0) 2 0 TreeMidN) 2 0 i), fun i => .int (mk (mk (k0) 2 0 TreeMidN) 2 1 i)]⟩, .row ⟨true, DataO, DataT, 1, DataN, DataK, [fun i => .int (mk (mk (mk (k0) 2 0 TreeMidN) 2 0 TreeLeafN) 1 0 i)]⟩, .row ⟨true, TagsO, TagsT, 1, TagsN, TagsK, [fun i => .int (mk (mk (mk (mk (k0) 2 0 TreeMidN) 2 0 TreeLeafN) 1 0 DataN) 1 0 i)]⟩] w' := by
  refine fnB (tb := [(102, sMarkIntS), (46, iMarkTree)]) ⟨sMarkIntS_ok, iMarkTree_ok, trivial⟩ Try.func62 ((markSecure_T Key TreeRoot TreeMidN TreeMidg0 TreeMidg1 TreeLeafN TreeLeafg0 TreeLeafg1 DataN Datag0 TagsN Tagsg0 TreeMidO TreeMidC TreeLeafO TreeLeafC DataO DataC TagsO TagsC TreeMidT TreeMidK TreeLeafT TreeLeafK DataT DataK TagsT TagsK k0).mpr ?_) hs (fun v ch' w' ⟨hv, hc⟩ hs => ⟨by rw [hv], by rw [← hc]; exact hs.sel _ (by simp)⟩)
  clear hs
  have hb0 : 0 ≤ mk (k0) 2 0 TreeMidN ∧ mk (k0) 2 0 TreeMidN ≤ k0 + 16777216 := mk_more (by omega) (by omega) (by omega)
  have hb1 : 0 ≤ mk (mk (k0) 2 0 TreeMidN) 2 0 TreeLeafN ∧ mk (mk (k0) 2 0 TreeMidN) 2 0 TreeLeafN ≤ mk (k0) 2 0 TreeMidN + 16777216 := mk_more (by omega) (by omega) (by omega)
  have hb2 : 0 ≤ mk (mk (mk (k0) 2 0 TreeMidN) 2 0 TreeLeafN) 1 0 DataN ∧ mk (mk (mk (k0) 2 0 TreeMidN) 2 0 TreeLeafN) 1 0 DataN ≤ mk (mk (k0) 2 0 TreeMidN) 2 0 TreeLeafN + 16777216 := mk_more (by omega) (by omega) (by omega)
  have hb3 : 0 ≤ mk (mk (mk (mk (k0) 2 0 TreeMidN) 2 0 TreeLeafN) 1 0 DataN) 1 0 TagsN ∧ mk (mk (mk (mk (k0) 2 0 TreeMidN) 2 0 TreeLeafN) 1 0 DataN) 1 0 TagsN ≤ mk (mk (mk (k0) 2 0 TreeMidN) 2 0 TreeLeafN) 1 0 DataN + 16777216 := mk_more (by omega) (by omega) (by omega)
  repeat' (first
    | exact rfl
    | exact True.intro
    | assumption
    | refine And.intro ?_ ?_
    | apply Exists.intro
    | omega
    | (intro h; exfalso; simp at h; done)
    | (intro h; exfalso; simp at h; omega)
    | intro _)
def sMarkSecureO : Sm := fun args ch k =>
  match args with
  | [.a (.c (.obj i v)), .a (.c kc)] =>
    match ch[i]?, asI kc with
    | some (.obj true rs), some k0 => ∃ x : SecureD, (isSecure v x rs ∧ capSecure x ∧ mrkC k0) ∧ (endC k0 (endSecure k0 x) 67108864 → ∀ rs' : List Row, isSecure v (markSecureD k0 x) rs' → k (.a (.c (.int (endSecure k0 x)))) (ch.set i (.obj true rs')) [i])
    | _, _ => False
  | _ => False
theorem sMarkSecureO_ok : SmOK Try.prog 62 sMarkSecureO := by
  refine smTurnO Try.call62 fun args ch k w X h0 hs => ?_
  unfold sMarkSecureO at h0
  split at h0
  · rename_i i v kc
    split at h0
    · rename_i rs k0 hi hk
      obtain ⟨x, ⟨⟨TreeMidO, TreeLeafO, DataO, TagsO, TreeMidC, TreeMidT, TreeMidK, TreeLeafC, TreeLeafT, TreeLeafK, DataC, DataT, DataK, TagsC, TagsT, TagsK, TreeMidB, TreeLeafB, DataB, TagsB, rfl, rfl⟩, hc, hk0⟩, h0⟩ := h0
      have h1 := hs.seeObj hi
      have eTreeMid : TreeMidB = true := (h1 _ (mem0)).1
      subst eTreeMid
      have eTreeLeaf : TreeLeafB = true := (h1 _ ((memS mem0))).1
      subst eTreeLeaf
      have eData : DataB = true := (h1 _ ((memS (memS mem0)))).1
      subst eData
      have eTags : TagsB = true := (h1 _ ((memS (memS (memS mem0))))).1
      subst eTags
      have hb0 : 0 ≤ mk (k0) 2 0 x.TreeMidN ∧ mk (k0) 2 0 x.TreeMidN ≤ k0 + 16777216 := mk_more (by omega) (by omega) (by omega)
      have hb1 : 0 ≤ mk (mk (k0) 2 0 x.TreeMidN) 2 0 x.TreeLeafN ∧ mk (mk (k0) 2 0 x.TreeMidN) 2 0 x.TreeLeafN ≤ mk (k0) 2 0 x.TreeMidN + 16777216 := mk_more (by omega) (by omega) (by omega)
      have hb2 : 0 ≤ mk (mk (mk (k0) 2 0 x.TreeMidN) 2 0 x.TreeLeafN) 1 0 x.DataN ∧ mk (mk (mk (k0) 2 0 x.TreeMidN) 2 0 x.TreeLeafN) 1 0 x.DataN ≤ mk (mk (k0) 2 0 x.TreeMidN) 2 0 x.TreeLeafN + 16777216 := mk_more (by omega) (by omega) (by omega)
      have hb3 : 0 ≤ mk (mk (mk (mk (k0) 2 0 x.TreeMidN) 2 0 x.TreeLeafN) 1 0 x.DataN) 1 0 x.TagsN ∧ mk (mk (mk (mk (k0) 2 0 x.TreeMidN) 2 0 x.TreeLeafN) 1 0 x.DataN) 1 0 x.TagsN ≤ mk (mk (mk (k0) 2 0 x.TreeMidN) 2 0 x.TreeLeafN) 1 0 x.DataN + 16777216 := mk_more (by omega) (by omega) (by omega)
      refine ⟨_, i, _, _, hi, h0 ⟨by unfold endSecure; omega, by unfold endSecure; omega⟩ [⟨true, TreeMidO, TreeMidT, 2, x.TreeMidN, TreeMidK, [fun i => .int ((markSecureD k0 x).TreeMidg0 i), fun i => .int ((markSecureD k0 x).TreeMidg1 i)]⟩, ⟨true, TreeLeafO, TreeLeafT, 2, x.TreeLeafN, TreeLeafK, [fun i => .int ((markSecureD k0 x).TreeLeafg0 i), fun i => .int ((markSecureD k0 x).TreeLeafg1 i)]⟩, ⟨true, DataO, DataT, 1, x.DataN, DataK, [fun i => .int ((markSecureD k0 x).Datag0 i)]⟩, ⟨true, TagsO, TagsT, 1, x.TagsN, TagsK, [fun i => .int ((markSecureD k0 x).Tagsg0 i)]⟩] ⟨_, _, _, _, _, _, _, _, _, _, _, _, _, _, _, _, _, _, _, _, rfl, rfl⟩, by simp, (at_cons rfl rfl rfl ((at_cons rfl rfl rfl ((at_cons rfl rfl rfl ((at_cons rfl rfl rfl (fun _ h => h)))))))), ?_⟩
      simp only [List.map_cons, List.map_nil, den_a, den_c, asI_den hk]
      exact markSecure_any x.Key x.TreeRoot x.TreeMidN x.TreeMidg0 x.TreeMidg1 x.TreeLeafN x.TreeLeafg0 x.TreeLeafg1 x.DataN x.Datag0 x.TagsN x.Tagsg0 TreeMidO TreeMidC TreeLeafO TreeLeafC DataO DataC TagsO TagsC TreeMidT TreeMidK TreeLeafT TreeLeafK DataT DataK TagsT TagsK k0 w _ (hs.open hi) hc hk0
    · exact h0.elim
  · exact h0.elim
theorem heldSecure_T (Key : Int) (TreeRoot : Int) (TreeMidN TreeLeafN DataN TagsN : Nat) (TreeMidO : Option Addr) (TreeMidC : Nat) (TreeLeafO : Option Addr) (TreeLeafC : Nat) (DataO : Option Addr) (DataC : Nat) (TagsO : Option Addr) (TagsC : Nat) (k0 : Int) : (exFn Try.prog {tb := [(103, sHeldIntS), (47, iHeldTree)]} 400 Try.f63 ([.a (.agg [.int Key, .int TreeRoot, .sl 0 TreeMidO TreeMidN TreeMidC, .sl 1 TreeLeafO TreeLeafN TreeLeafC, .sl 2 DataO DataN DataC, .sl 3 TagsO TagsN TagsC]), .a (.c (.int k0))]) ([.row ⟨false, TreeMidO, 0, 2, TreeMidN, 0, [fun i => .int (mk (k0) 2 0 i), fun i => .int (mk (k0) 2 1 i)]⟩, .row ⟨false, TreeLeafO, 0, 2, TreeLeafN, 0, [fun i => .int (mk (mk (k0) 2 0 TreeMidN) 2 0 i), fun i => .int (mk (mk (k0) 2 0 TreeMidN) 2 1 i)]⟩, .row ⟨false, DataO, 0, 1, DataN, 0, [fun i => .int (mk (mk (mk (k0) 2 0 TreeMidN) 2 0 TreeLeafN) 1 0 i)]⟩, .row ⟨false, TagsO, 0, 1, TagsN, 0, [fun i => .int (mk (mk (mk (mk (k0) 2 0 TreeMidN) 2 0 TreeLeafN) 1 0 DataN) 1 0 i)]⟩]) (fun v _ => v.den = .int .i64 (mk (mk (mk (mk (k0) 2 0 TreeMidN) 2 0 TreeLeafN) 1 0 DataN) 1 0 TagsN))) = (
  (∀ b0 : Nat,
  (b0 = b0 ∧
  (∀ b1 : Nat,
  (b1 = b1 ∧
  ((TreeMidO = TreeMidO ∧
  (TreeMidN = TreeMidN ∧
  ([(fun (i2 : Nat) => (SC.int (mk k0 2 0 i2))), (fun (i3 : Nat) => (SC.int (mk k0 2 1 i3)))] = [(fun (i4 : Nat) => (SC.int (mk k0 2 0 i4))), (fun (i5 : Nat) => (SC.int (mk k0 2 1 i5)))] ∧
  (markC TreeMidN k0)))) ∧
  (((decide ((mk k0 2 0 TreeMidN) < (0 : Int))) = Bool.true →
  (Value.int IntKind.i64 (-1 : Int)) = (Value.int IntKind.i64 (mk (mk (mk (mk k0 2 0 TreeMidN) 2 0 TreeLeafN) 1 0 DataN) 1 0 TagsN))) ∧
  ((decide ((mk k0 2 0 TreeMidN) < (0 : Int))) = Bool.false →
  (b1 = b1 ∧
   ((TreeLeafO = TreeLeafO ∧
   (TreeLeafN = TreeLeafN ∧
   ([(fun (i6 : Nat) => (SC.int (mk (mk k0 2 0 TreeMidN) 2 0 i6))), (fun (i7 : Nat) => (SC.int (mk (mk k0 2 0 TreeMidN) 2 1 i7)))] = [(fun (i8 : Nat) => (SC.int (mk (mk k0 2 0 TreeMidN) 2 0 i8))), (fun (i9 : Nat) => (SC.int (mk (mk k0 2 0 TreeMidN) 2 1 i9)))] ∧
   (markC TreeLeafN (mk k0 2 0 TreeMidN))))) ∧
   (((decide ((mk (mk k0 2 0 TreeMidN) 2 0 TreeLeafN) < (0 : Int))) = Bool.true →
   (Value.int IntKind.i64 (-1 : Int)) = (Value.int IntKind.i64 (mk (mk (mk (mk k0 2 0 TreeMidN) 2 0 TreeLeafN) 1 0 DataN) 1 0 TagsN))) ∧
   ((decide ((mk (mk k0 2 0 TreeMidN) 2 0 TreeLeafN) < (0 : Int))) = Bool.false →
   (((decide ((mk (mk k0 2 0 TreeMidN) 2 0 TreeLeafN) < (0 : Int))) = Bool.true →
    (Value.int IntKind.i64 (-1 : Int)) = (Value.int IntKind.i64 (mk (mk (mk (mk k0 2 0 TreeMidN) 2 0 TreeLeafN) 1 0 DataN) 1 0 TagsN))) ∧
    ((decide ((mk (mk k0 2 0 TreeMidN) 2 0 TreeLeafN) < (0 : Int))) = Bool.false →
    (b0 = b0 ∧
     ((DataO = DataO ∧
     (DataN = DataN ∧
     ([(fun (i10 : Nat) => (SC.int (mk (mk (mk k0 2 0 TreeMidN) 2 0 TreeLeafN) 1 0 i10)))] = [(fun (i11 : Nat) => (SC.int (mk (mk (mk k0 2 0 TreeMidN) 2 0 TreeLeafN) 1 0 i11)))] ∧
     (markC DataN (mk (mk k0 2 0 TreeMidN) 2 0 TreeLeafN))))) ∧
     (((decide ((mk (mk (mk k0 2 0 TreeMidN) 2 0 TreeLeafN) 1 0 DataN) < (0 : Int))) = Bool.true →
     (Value.int IntKind.i64 (-1 : Int)) = (Value.int IntKind.i64 (mk (mk (mk (mk k0 2 0 TreeMidN) 2 0 TreeLeafN) 1 0 DataN) 1 0 TagsN))) ∧
     ((decide ((mk (mk (mk k0 2 0 TreeMidN) 2 0 TreeLeafN) 1 0 DataN) < (0 : Int))) = Bool.false →
     (b0 = b0 ∧
      ((TagsO = TagsO ∧
      (TagsN = TagsN ∧
      ([(fun (i12 : Nat) => (SC.int (mk (mk (mk (mk k0 2 0 TreeMidN) 2 0 TreeLeafN) 1 0 DataN) 1 0 i12)))] = [(fun (i13 : Nat) => (SC.int (mk (mk (mk (mk k0 2 0 TreeMidN) 2 0 TreeLeafN) 1 0 DataN) 1 0 i13)))] ∧
      (markC TagsN (mk (mk (mk k0 2 0 TreeMidN) 2 0 TreeLeafN) 1 0 DataN))))) ∧
      (((decide ((mk (mk (mk (mk k0 2 0 TreeMidN) 2 0 TreeLeafN) 1 0 DataN) 1 0 TagsN) < (0 : Int))) = Bool.true →
      (Value.int IntKind.i64 (-1 : Int)) = (Value.int IntKind.i64 (mk (mk (mk (mk k0 2 0 TreeMidN) 2 0 TreeLeafN) 1 0 DataN) 1 0 TagsN))) ∧
      ((decide ((mk (mk (mk (mk k0 2 0 TreeMidN) 2 0 TreeLeafN) 1 0 DataN) 1 0 TagsN) < (0 : Int))) = Bool.false →
      (Value.int IntKind.i64 (mk (mk (mk (mk k0 2 0 TreeMidN) 2 0 TreeLeafN) 1 0 DataN) 1 0 TagsN)) = (Value.int IntKind.i64 (mk (mk (mk (mk k0 2 0 TreeMidN) 2 0 TreeLeafN) 1 0 DataN) 1 0 TagsN)))))))))))))))))))))))) := by kernel_rfl
theorem heldSecure_any (Key : Int) (TreeRoot : Int) (TreeMidN TreeLeafN DataN TagsN : Nat) (TreeMidO : Option Addr) (TreeMidC : Nat) (TreeLeafO : Option Addr) (TreeLeafC : Nat) (DataO : Option Addr) (DataC : Nat) (TagsO : Option Addr) (TagsC : Nat) (k0 : Int) (w : World) (hr0 : Row.sat w ⟨false, TreeMidO, 0, 2, TreeMidN, 0, [fun i => .int (mk (k0) 2 0 i), fun i => .int (mk (k0) 2 1 i)]⟩) (hr1 : Row.sat w ⟨false, TreeLeafO, 0, 2, TreeLeafN, 0, [fun i => .int (mk (mk (k0) 2 0 TreeMidN) 2 0 i), fun i => .int (mk (mk (k0) 2 0 TreeMidN) 2 1 i)]⟩) (hr2 : Row.sat w ⟨false, DataO, 0, 1, DataN, 0, [fun i => .int (mk (mk (mk (k0) 2 0 TreeMidN) 2 0 TreeLeafN) 1 0 i)]⟩) (hr3 : Row.sat w ⟨false, TagsO, 0, 1, TagsN, 0, [fun i => .int (mk (mk (mk (mk (k0) 2 0 TreeMidN) 2 0 TreeLeafN) 1 0 DataN) 1 0 i)]⟩) (hcap : TreeMidN ≤ 1048576 ∧ TreeLeafN ≤ 1048576 ∧ DataN ≤ 1048576 ∧ TagsN ≤ 1048576) (h0 : 0 ≤ k0 ∧ k0 ≤ 549755813888) : Calls Try.prog 63 #[.agg #[.int .i64 Key, .int .i64 TreeRoot, .slice TreeMidO TreeMidN TreeMidC, .slice TreeLeafO TreeLeafN TreeLeafC, .slice DataO DataN DataC, .slice TagsO TagsN TagsC], .int .i64 k0] w fun e w' => e = .returned (.int .i64 (mk (mk (mk (mk (k0) 2 0 TreeMidN) 2 0 TreeLeafN) 1 0 DataN) 1 0 TagsN)) ∧ Below w.heap.size w w' := by
  refine fnB (tb := [(103, sHeldIntS), (47, iHeldTree)]) ⟨sHeldIntS_ok, iHeldTree_ok, trivial⟩ Try.func63 ((heldSecure_T Key TreeRoot TreeMidN TreeLeafN DataN TagsN TreeMidO TreeMidC TreeLeafO TreeLeafC DataO DataC TagsO TagsC k0).mpr ?_) (HS.rows (fun _ => False) [⟨false, TreeMidO, 0, 2, TreeMidN, 0, [fun i => .int (mk (k0) 2 0 i), fun i => .int (mk (k0) 2 1 i)]⟩, ⟨false, TreeLeafO, 0, 2, TreeLeafN, 0, [fun i => .int (mk (mk (k0) 2 0 TreeMidN) 2 0 i), fun i => .int (mk (mk (k0) 2 0 TreeMidN) 2 1 i)]⟩, ⟨false, DataO, 0, 1, DataN, 0, [fun i => .int (mk (mk (mk (k0) 2 0 TreeMidN) 2 0 TreeLeafN) 1 0 i)]⟩, ⟨false, TagsO, 0, 1, TagsN, 0, [fun i => .int (mk (mk (mk (mk (k0) 2 0 TreeMidN) 2 0 TreeLeafN) 1 0 DataN) 1 0 i)]⟩] (by simp; exact ⟨hr0, hr1, hr2, hr3⟩)) (fun v ch' w' hk hs => ⟨by rw [hk], hs.below⟩)
  clear hr0 hr1 hr2 hr3
  have hb0 : 0 ≤ mk (k0) 2 0 TreeMidN ∧ mk (k0) 2 0 TreeMidN ≤ k0 + 16777216 := mk_more (by omega) (by omega) (by omega)
  have hb1 : 0 ≤ mk (mk (k0) 2 0 TreeMidN) 2 0 TreeLeafN ∧ mk (mk (k0) 2 0 TreeMidN) 2 0 TreeLeafN ≤ mk (k0) 2 0 TreeMidN + 16777216 := mk_more (by omega) (by omega) (by omega)
  have hb2 : 0 ≤ mk (mk (mk (k0) 2 0 TreeMidN) 2 0 TreeLeafN) 1 0 DataN ∧ mk (mk (mk (k0) 2 0 TreeMidN) 2 0 TreeLeafN) 1 0 DataN ≤ mk (mk (k0) 2 0 TreeMidN) 2 0 TreeLeafN + 16777216 := mk_more (by omega) (by omega) (by omega)
  have hb3 : 0 ≤ mk (mk (mk (mk (k0) 2 0 TreeMidN) 2 0 TreeLeafN) 1 0 DataN) 1 0 TagsN ∧ mk (mk (mk (mk (k0) 2 0 TreeMidN) 2 0 TreeLeafN) 1 0 DataN) 1 0 TagsN ≤ mk (mk (mk (k0) 2 0 TreeMidN) 2 0 TreeLeafN) 1 0 DataN + 16777216 := mk_more (by omega) (by omega) (by omega)
  repeat' (first
    | exact rfl
    | exact True.intro
    | assumption
    | refine And.intro ?_ ?_
    | apply Exists.intro
    | omega
    | (intro h; exfalso; simp at h; done)
    | (intro h; exfalso; simp at h; omega)
    | intro _)
def sHeldSecureO : Sm := fun args ch k =>
  match args with
  | [.a (.c (.obj i v)), .a (.c kc)] =>
    match ch[i]?, asI kc with
    | some (.obj _ rs), some k0 => ∃ x : SecureD, (isSecure v (markSecureD k0 x) rs ∧ capSecure x ∧ mrkC k0) ∧ k (.a (.c (.int (endSecure k0 x)))) ch []
    | _, _ => False
  | _ => False
theorem sHeldSecureO_ok : SmOK Try.prog 63 sHeldSecureO := by
  refine smB Try.call63 fun args ch k w X h0 hs => ?_
  unfold sHeldSecureO at h0
  split at h0
  · rename_i i v kc
    split at h0
    · rename_i o rs k0 hi hk
      obtain ⟨x, ⟨⟨_, _, _, _, _, _, _, _, _, _, _, _, _, _, _, _, _, _, _, _, rfl, rfl⟩, hc, hk0⟩, h0⟩ := h0
      have h1 := hs.seeObj hi
      refine ⟨_, h0, ?_⟩
      simp only [List.map_cons, List.map_nil, den_a, den_c, asI_den hk]
      exact heldSecure_any x.Key x.TreeRoot x.TreeMidN x.TreeLeafN x.DataN x.TagsN _ _ _ _ _ _ _ _ k0 w (Row.seenAs (h1 _ (mem0)).2 rfl rfl) (Row.seenAs (h1 _ ((memS mem0))).2 rfl rfl) (Row.seenAs (h1 _ ((memS (memS mem0)))).2 rfl rfl) (Row.seenAs (h1 _ ((memS (memS (memS mem0))))).2 rfl rfl) hc hk0
    · exact h0.elim
  · exact h0.elim
theorem szSecure_T (Key : Int) (TreeRoot : Int) (TreeMidO : Option Addr) (TreeMidN TreeMidC : Nat) (TreeLeafO : Option Addr) (TreeLeafN TreeLeafC : Nat) (DataO : Option Addr) (DataN DataC : Nat) (TagsO : Option Addr) (TagsN TagsC : Nat) (k0 : Int) : (exFn Try.prog {tb := [(97, sSzIntS), (41, iSzTree)]} 400 Try.f57 ([.a (.agg [.int Key, .int TreeRoot, .sl 0 TreeMidO TreeMidN TreeMidC, .sl 1 TreeLeafO TreeLeafN TreeLeafC, .sl 2 DataO DataN DataC, .sl 3 TagsO TagsN TagsC]), .a (.c (.int k0))]) ([]) (fun v _ => ∃ z : Int, v.den = .int .i64 z ∧ szPSecure z k0 TreeMidN TreeLeafN DataN TagsN)) = (
  (∀ b0 : Nat,
  (b0 = b0 ∧
  (∀ b1 : Nat,
  (b1 = b1 ∧
  ((szC TreeMidN k0) ∧
  (((k0 < ((TreeMidN : Nat) : Int)) →
  (Exists (fun (z2 : Int) => ((Value.int IntKind.i64 (-1 : Int)) = (Value.int IntKind.i64 z2) ∧
   (szPSecure z2 k0 TreeMidN TreeLeafN DataN TagsN))))) ∧
  ((((TreeMidN : Nat) : Int) ≤ k0) →
  (((decide ((k0 - ((TreeMidN : Nat) : Int)) < (0 : Int))) = Bool.true →
   (Exists (fun (z3 : Int) => ((Value.int IntKind.i64 (-1 : Int)) = (Value.int IntKind.i64 z3) ∧
    (szPSecure z3 k0 TreeMidN TreeLeafN DataN TagsN))))) ∧
   ((decide ((k0 - ((TreeMidN : Nat) : Int)) < (0 : Int))) = Bool.false →
   (b1 = b1 ∧
    ((szC TreeLeafN (k0 - ((TreeMidN : Nat) : Int))) ∧
    ((((k0 - ((TreeMidN : Nat) : Int)) < ((TreeLeafN : Nat) : Int)) →
    (Exists (fun (z4 : Int) => ((Value.int IntKind.i64 (-1 : Int)) = (Value.int IntKind.i64 z4) ∧
     (szPSecure z4 k0 TreeMidN TreeLeafN DataN TagsN))))) ∧
    ((((TreeLeafN : Nat) : Int) ≤ (k0 - ((TreeMidN : Nat) : Int))) →
    (((decide (((k0 - ((TreeMidN : Nat) : Int)) - ((TreeLeafN : Nat) : Int)) < (0 : Int))) = Bool.true →
     (Exists (fun (z5 : Int) => ((Value.int IntKind.i64 (-1 : Int)) = (Value.int IntKind.i64 z5) ∧
      (szPSecure z5 k0 TreeMidN TreeLeafN DataN TagsN))))) ∧
     ((decide (((k0 - ((TreeMidN : Nat) : Int)) - ((TreeLeafN : Nat) : Int)) < (0 : Int))) = Bool.false →
     (((decide (((k0 - ((TreeMidN : Nat) : Int)) - ((TreeLeafN : Nat) : Int)) < (0 : Int))) = Bool.true →
      (Exists (fun (z6 : Int) => ((Value.int IntKind.i64 (-1 : Int)) = (Value.int IntKind.i64 z6) ∧
       (szPSecure z6 k0 TreeMidN TreeLeafN DataN TagsN))))) ∧
      ((decide (((k0 - ((TreeMidN : Nat) : Int)) - ((TreeLeafN : Nat) : Int)) < (0 : Int))) = Bool.false →
      (b0 = b0 ∧
       ((szC DataN ((k0 - ((TreeMidN : Nat) : Int)) - ((TreeLeafN : Nat) : Int))) ∧
       (((((k0 - ((TreeMidN : Nat) : Int)) - ((TreeLeafN : Nat) : Int)) < ((DataN : Nat) : Int)) →
       (Exists (fun (z7 : Int) => ((Value.int IntKind.i64 (-1 : Int)) = (Value.int IntKind.i64 z7) ∧
        (szPSecure z7 k0 TreeMidN TreeLeafN DataN TagsN))))) ∧
       ((((DataN : Nat) : Int) ≤ ((k0 - ((TreeMidN : Nat) : Int)) - ((TreeLeafN : Nat) : Int))) →
       (((decide ((((k0 - ((TreeMidN : Nat) : Int)) - ((TreeLeafN : Nat) : Int)) - ((DataN : Nat) : Int)) < (0 : Int))) = Bool.true →
        (Exists (fun (z8 : Int) => ((Value.int IntKind.i64 (-1 : Int)) = (Value.int IntKind.i64 z8) ∧
         (szPSecure z8 k0 TreeMidN TreeLeafN DataN TagsN))))) ∧
        ((decide ((((k0 - ((TreeMidN : Nat) : Int)) - ((TreeLeafN : Nat) : Int)) - ((DataN : Nat) : Int)) < (0 : Int))) = Bool.false →
        (b0 = b0 ∧
         ((szC TagsN (((k0 - ((TreeMidN : Nat) : Int)) - ((TreeLeafN : Nat) : Int)) - ((DataN : Nat) : Int))) ∧
         ((((((k0 - ((TreeMidN : Nat) : Int)) - ((TreeLeafN : Nat) : Int)) - ((DataN : Nat) : Int)) < ((TagsN : Nat) : Int)) →
         (Exists (fun (z9 : Int) => ((Value.int IntKind.i64 (-1 : Int)) = (Value.int IntKind.i64 z9) ∧
          (szPSecure z9 k0 TreeMidN TreeLeafN DataN TagsN))))) ∧
         ((((TagsN : Nat) : Int) ≤ (((k0 - ((TreeMidN : Nat) : Int)) - ((TreeLeafN : Nat) : Int)) - ((DataN : Nat) : Int))) →
         (((decide (((((k0 - ((TreeMidN : Nat) : Int)) - ((TreeLeafN : Nat) : Int)) - ((DataN : Nat) : Int)) - ((TagsN : Nat) : Int)) < (0 : Int))) = Bool.true →
          (Exists (fun (z10 : Int) => ((Value.int IntKind.i64 (-1 : Int)) = (Value.int IntKind.i64 z10) ∧
           (szPSecure z10 k0 TreeMidN TreeLeafN DataN TagsN))))) ∧
          ((decide (((((k0 - ((TreeMidN : Nat) : Int)) - ((TreeLeafN : Nat) : Int)) - ((DataN : Nat) : Int)) - ((TagsN : Nat) : Int)) < (0 : Int))) = Bool.false →
          (Exists (fun (z11 : Int) => ((Value.int IntKind.i64 ((((k0 - ((TreeMidN : Nat) : Int)) - ((TreeLeafN : Nat) : Int)) - ((DataN : Nat) : Int)) - ((TagsN : Nat) : Int))) = (Value.int IntKind.i64 z11) ∧
           (szPSecure z11 k0 TreeMidN TreeLeafN DataN TagsN)))))))))))))))))))))))))))))))))) := by kernel_rfl
theorem szSecure_any (Key : Int) (TreeRoot : Int) (TreeMidO : Option Addr) (TreeMidN TreeMidC : Nat) (TreeLeafO : Option Addr) (TreeLeafN TreeLeafC : Nat) (DataO : Option Addr) (DataN DataC : Nat) (TagsO : Option Addr) (TagsN TagsC : Nat) (k0 : Int) (w : World) (hn : TreeMidN ≤ 9223372036854775807 ∧ TreeLeafN ≤ 9223372036854775807 ∧ DataN ≤ 9223372036854775807 ∧ TagsN ≤ 9223372036854775807) (h0 : 0 ≤ k0 ∧ k0 ≤ 1048576) : Calls Try.prog 57 #[.agg #[.int .i64 Key, .int .i64 TreeRoot, .slice TreeMidO TreeMidN TreeMidC, .slice TreeLeafO TreeLeafN TreeLeafC, .slice DataO DataN DataC, .slice TagsO TagsN TagsC], .int .i64 k0] w fun e w' => ∃ z : Int, (z = -1 ∨ (0 ≤ z ∧ z ≤ k0 ∧ TreeMidN ≤ 1048576 ∧ TreeLeafN ≤ 1048576 ∧ DataN ≤ 1048576 ∧ TagsN ≤ 1048576)) ∧ e = .returned (.int .i64 z) ∧ Below w.heap.size w w' := by
  refine fnB (tb := [(97, sSzIntS), (41, iSzTree)]) ⟨sSzIntS_ok, iSzTree_ok, trivial⟩ Try.func57 ((szSecure_T Key TreeRoot TreeMidO TreeMidN TreeMidC TreeLeafO TreeLeafN TreeLeafC DataO DataN DataC TagsO TagsN TagsC k0).mpr ?_) (HS.start w (fun _ => False)) (fun v ch' w' ⟨z, hv, hz⟩ hs => ⟨z, hz, by rw [hv], hs.below⟩)
  repeat' (first
    | (refine ⟨_, rfl, ?_⟩; first | exact .inl rfl | (refine .inr ?_; omega))
    | exact True.intro
    | assumption
    | refine And.intro ?_ ?_
    | omega
    | (intro h; exfalso; simp at h; done)
    | (intro h; exfalso; simp at h; omega)
    | intro _)
def sSzSecureO : Sm := fun args ch k =>
  match args with
  | [.a (.c (.obj i v)), .a (.c kc)] =>
    match ch[i]?, asI kc with
    | some (.obj _ rs), some k0 => ∃ x : SecureD, (isSecure v x rs ∧ lensSecure x ∧ szK k0) ∧ (k (.a (.c (.il (-1)))) ch [] ∧ ∀ z : Int, szO z k0 → capSecure x → k (.a (.c (.int z))) ch [])
    | _, _ => False
  | _ => False
theorem sSzSecureO_ok : SmOK Try.prog 57 sSzSecureO := by
  refine smV Try.call57 fun args ch k w X h0 hs => ?_
  unfold sSzSecureO at h0
  split at h0
  · rename_i i v kc
    split at h0
    · rename_i o rs k0 hi hk
      obtain ⟨x, ⟨⟨_, _, _, _, _, _, _, _, _, _, _, _, _, _, _, _, _, _, _, _, rfl, rfl⟩, hc, hk0⟩, h1, h2⟩ := h0
      simp only [List.map_cons, List.map_nil, den_a, den_c, asI_den hk]
      refine Calls.mono (szSecure_any x.Key x.TreeRoot _ x.TreeMidN _ _ x.TreeLeafN _ _ x.DataN _ _ x.TagsN _ k0 w hc hk0) fun e w' ⟨z, hz, he, hb⟩ => ?_
      rcases hz with rfl | ⟨hz0, hz1, hz2⟩
      · exact ⟨.a (.c (.il (-1))), he, hb, h1⟩
      · exact ⟨.a (.c (.int z)), he, hb, h2 z ⟨hz0, hz1⟩ hz2⟩
    · exact h0.elim
  · exact h0.elim
end Go.Proofs.Ytdaeikjpnejmdaa
