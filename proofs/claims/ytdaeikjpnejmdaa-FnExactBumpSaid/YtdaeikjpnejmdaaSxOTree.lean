/-
  Trees as objects.
-/
import Derived.Test.YtdaeikjpnejmdaaSxO
import Derived.Test.YtdaeikjpnejmdaaSxTree2
namespace Go.Proofs.Ytdaeikjpnejmdaa
open Go.RowKit
set_option maxRecDepth 100000
set_option maxHeartbeats 8000000

/-! Tree -/
structure TreeD where
  Root : Int
  MidN : Nat
  (Midg0 Midg1 : Nat → Int)
  LeafN : Nat
  (Leafg0 Leafg1 : Nat → Int)
def isTree (v : Value) (x : TreeD) (rs : List Row) : Prop :=
  ∃ (MidO LeafO : Option Addr) (MidC MidT MidK LeafC LeafT LeafK : Nat) (MidB LeafB : Bool), v = .agg #[.int .i64 x.Root, .slice MidO x.MidN MidC, .slice LeafO x.LeafN LeafC] ∧ rs = [⟨MidB, MidO, MidT, 2, x.MidN, MidK, [fun i => .int (x.Midg0 i), fun i => .int (x.Midg1 i)]⟩, ⟨LeafB, LeafO, LeafT, 2, x.LeafN, LeafK, [fun i => .int (x.Leafg0 i), fun i => .int (x.Leafg1 i)]⟩]
abbrev capTree (x : TreeD) : Prop := x.MidN ≤ 1048576 ∧ x.LeafN ≤ 1048576
abbrev szPTree (z k : Int) (MidN LeafN : Nat) : Prop := z = -1 ∨ (0 ≤ z ∧ z ≤ k ∧ MidN ≤ 1048576 ∧ LeafN ≤ 1048576)
abbrev lensTree (x : TreeD) : Prop := x.MidN ≤ 9223372036854775807 ∧ x.LeafN ≤ 9223372036854775807
theorem wholeTree {v : Value} {x : TreeD} {rs : List Row} (h : isTree v x rs) : wholeC true v 3 := by
  obtain ⟨_, _, _, _, _, _, _, _, _, _, rfl, rfl⟩ := h
  exact ⟨_, rfl, rfl, List.all_eq_true.1 rfl⟩
def markTreeD (k : Int) (x : TreeD) : TreeD := ⟨x.Root, x.MidN, fun i => mk (k) 2 0 i, fun i => mk (k) 2 1 i, x.LeafN, fun i => mk (mk (k) 2 0 x.MidN) 2 0 i, fun i => mk (mk (k) 2 0 x.MidN) 2 1 i⟩
def endTree (k : Int) (x : TreeD) : Int := mk (mk (k) 2 0 x.MidN) 2 0 x.LeafN
theorem toTree_T (Root : Int) (MidO : Option Addr) (MidN MidC : Nat) (Midg0 Midg1 : Nat → Int) (LeafO : Option Addr) (LeafN LeafC : Nat) (Leafg0 Leafg1 : Nat → Int) : (exFn Try.prog {tb := [(84, sToNodeS)]} 400 Try.f43 ([.a (.agg [.int Root, .sl 0 MidO MidN MidC, .sl 1 LeafO LeafN LeafC])]) ([.row ⟨false, MidO, 0, 2, MidN, 0, [fun i => .int (Midg0 i), fun i => .int (Midg1 i)]⟩, .row ⟨false, LeafO, 0, 2, LeafN, 0, [fun i => .int (Leafg0 i), fun i => .int (Leafg1 i)]⟩]) (fun v ch => ∃ (ro0 : Option Addr) (rc0 : Nat) (ro1 : Option Addr) (rc1 : Nat), OutR v ch (.agg #[.int .i64 (Root), .slice ro0 (MidN) rc0, .slice ro1 (LeafN) rc1]) [.row ⟨true, ro0, 55, 2, MidN, rc0, [fun i => .int (Midg0 i), fun i => .int (Midg1 i)]⟩, .row ⟨true, ro1, 55, 2, LeafN, rc1, [fun i => .int (Leafg0 i), fun i => .int (Leafg1 i)]⟩])) = (
  (∀ b0 : Nat,
  (∀ b1 : Nat,
  (∀ b2 : Nat,
  (b0 = b0 ∧
  (b2 = b2 ∧
  (b0 = b0 ∧
  (Exists (fun (g03 : (Nat →
  Int)) => (Exists (fun (g14 : (Nat →
  Int)) => ((MidO = MidO ∧
  (MidN = MidN ∧
  ([(fun (i5 : Nat) => (SC.int (Midg0 i5))), (fun (i6 : Nat) => (SC.int (Midg1 i6)))] = [(fun (i7 : Nat) => (SC.int (g03 i7))), (fun (i8 : Nat) => (SC.int (g14 i8)))] ∧
  (capC MidN)))) ∧
  (∀ b9 : Nat,
  (b2 = b2 ∧
  (b0 = b0 ∧
  (Exists (fun (g010 : (Nat →
  Int)) => (Exists (fun (g111 : (Nat →
  Int)) => ((LeafO = LeafO ∧
  (LeafN = LeafN ∧
  ([(fun (i12 : Nat) => (SC.int (Leafg0 i12))), (fun (i13 : Nat) => (SC.int (Leafg1 i13)))] = [(fun (i14 : Nat) => (SC.int (g010 i14))), (fun (i15 : Nat) => (SC.int (g111 i15)))] ∧
  (capC LeafN)))) ∧
  (∀ b16 : Nat,
  (b2 = b2 ∧
  (b2 = b2 ∧
  (b1 = b1 ∧
  (b1 = b1 ∧
  (Exists (fun (ro017 : (Option Addr)) => (Exists (fun (rc018 : Nat) => (Exists (fun (ro119 : (Option Addr)) => (Exists (fun (rc120 : Nat) => ((Value.agg (List.toArray [(Value.int IntKind.i64 Root), (Value.slice (Option.some (Addr.mk b9 0 Option.none)) MidN MidN), (Value.slice (Option.some (Addr.mk b16 0 Option.none)) LeafN LeafN)])) = (Value.agg (List.toArray [(Value.int IntKind.i64 Root), (Value.slice ro017 MidN rc018), (Value.slice ro119 LeafN rc120)])) ∧
  (((Bool.true = Bool.true ∧
  ((Option.some (Addr.mk b9 0 Option.none)) = ro017 ∧
  (55 = 55 ∧
  (2 = 2 ∧
  (MidN = MidN ∧
  (MidN = rc018 ∧
  ((∀ i21 : Nat,
  (i21 < MidN →
  (Value.int IntKind.i64 (g03 i21)) = (Value.int IntKind.i64 (Midg0 i21)))) ∧
  ((∀ i22 : Nat,
  (i22 < MidN →
  (Value.int IntKind.i64 (g14 i22)) = (Value.int IntKind.i64 (Midg1 i22)))) ∧
  True)))))))) ∧
  ((Bool.true = Bool.true ∧
  ((Option.some (Addr.mk b16 0 Option.none)) = ro119 ∧
  (55 = 55 ∧
  (2 = 2 ∧
  (LeafN = LeafN ∧
  (LeafN = rc120 ∧
  ((∀ i23 : Nat,
  (i23 < LeafN →
  (Value.int IntKind.i64 (g010 i23)) = (Value.int IntKind.i64 (Leafg0 i23)))) ∧
  ((∀ i24 : Nat,
  (i24 < LeafN →
  (Value.int IntKind.i64 (g111 i24)) = (Value.int IntKind.i64 (Leafg1 i24)))) ∧
  True)))))))) ∧
  True)) ∧
  Bool.true = Bool.true))))))))))))))))))))))))))))))))))) := by kernel_rfl
theorem toTree_any (Root : Int) (MidO : Option Addr) (MidN MidC : Nat) (Midg0 Midg1 : Nat → Int) (LeafO : Option Addr) (LeafN LeafC : Nat) (Leafg0 Leafg1 : Nat → Int) (w : World) (hrMid : Row.sat w ⟨false, MidO, 0, 2, MidN, 0, [fun i => .int (Midg0 i), fun i => .int (Midg1 i)]⟩) (hrLeaf : Row.sat w ⟨false, LeafO, 0, 2, LeafN, 0, [fun i => .int (Leafg0 i), fun i => .int (Leafg1 i)]⟩) (hpre : capC MidN ∧ capC LeafN) : Calls Try.prog 43 #[.agg #[.int .i64 Root, .slice MidO MidN MidC, .slice LeafO LeafN LeafC]] w fun e w' => ∃ (ro0 : Option Addr) (rc0 : Nat) (ro1 : Option Addr) (rc1 : Nat), e = .returned (.agg #[.int .i64 (Root), .slice ro0 (MidN) rc0, .slice ro1 (LeafN) rc1]) ∧ HS ⟨w, fun _ => False⟩ [.row ⟨true, ro0, 55, 2, MidN, rc0, [fun i => .int (Midg0 i), fun i => .int (Midg1 i)]⟩, .row ⟨true, ro1, 55, 2, LeafN, rc1, [fun i => .int (Leafg0 i), fun i => .int (Leafg1 i)]⟩] w' := by
  refine fnB (tb := [(84, sToNodeS)]) ⟨sToNodeS_ok, trivial⟩ Try.func43 ((toTree_T Root MidO MidN MidC Midg0 Midg1 LeafO LeafN LeafC Leafg0 Leafg1).mpr ?_) (HS.rows (fun _ => False) [⟨false, MidO, 0, 2, MidN, 0, [fun i => .int (Midg0 i), fun i => .int (Midg1 i)]⟩, ⟨false, LeafO, 0, 2, LeafN, 0, [fun i => .int (Leafg0 i), fun i => .int (Leafg1 i)]⟩] (by simp; exact ⟨hrMid, hrLeaf⟩)) (fun v ch' w' ⟨ro0, rc0, ro1, rc1, hk⟩ hs => ⟨ro0, rc0, ro1, rc1, by rw [hk.1], hk.hs hs⟩)
  clear hrMid hrLeaf
  repeat' (first
    | exact rfl
    | exact True.intro
    | refine And.intro ?_ ?_
    | apply Exists.intro
    | assumption
    | omega
    | intro _)
def sToTreeO : Sm := fun args ch k =>
  match args with
  | [.a (.c (.obj i0 v0))] =>
    match ch[i0]? with
    | some (.obj _ r0) => ∃ (x : TreeD), (isTree v0 x r0 ∧ capTree x) ∧ ∀ (v' : Value) (rs' : List Row), isTree v' (x) rs' → k (.a (.c (.obj ch.length v'))) (ch ++ [.obj true rs']) []
    | _ => False
  | _ => False
theorem sToTreeO_ok_laws_toTree : SmOK Try.prog 43 sToTreeO := by
  refine smN Try.call43 fun args ch k w X h0 hs => ?_
  unfold sToTreeO at h0
  split at h0
  · rename_i i0 v0
    split at h0
    · rename_i o0 r0 hi0
      obtain ⟨x, ⟨⟨_, _, _, _, _, _, _, _, _, _, rfl, rfl⟩, hpre⟩, h0⟩ := h0
      have hw0 := hs.seeObj hi0
      simp only [List.map_cons, List.map_nil, den_a, den_c, SA.den, den_obj]
      refine Calls.mono (toTree_any x.Root _ x.MidN _ x.Midg0 x.Midg1 _ x.LeafN _ x.Leafg0 x.Leafg1 w (Row.seenAs (hw0 _ (mem0)).2 rfl rfl) (Row.seenAs (hw0 _ ((memS mem0))).2 rfl rfl) hpre) fun e w' ⟨ro0, rc0, ro1, rc1, he, hs'⟩ => ⟨_, [.obj true _], ?_, hs'.pack (rs := [_, _]) (by simp), rfl, h0 _ _ ⟨ro0, ro1, rc0, _, _, rc1, _, _, _, _, rfl, rfl⟩⟩
      rw [he]
      rfl
    · exact h0.elim
  · exact h0.elim
theorem eqTree_T (Root : Int) (MidN : Nat) (Midg0 Midg1 : Nat → Int) (LeafN : Nat) (Leafg0 Leafg1 : Nat → Int) (aMidO : Option Addr) (aMidC : Nat) (aLeafO : Option Addr) (aLeafC : Nat) (bMidO : Option Addr) (bMidC : Nat) (bLeafO : Option Addr) (bLeafC : Nat) : (exFn Try.prog {tb := [(86, sEqNodeS)]} 400 Try.f45 ([.a (.agg [.int Root, .sl 0 aMidO MidN aMidC, .sl 1 aLeafO LeafN aLeafC]), .a (.agg [.int Root, .sl 2 bMidO MidN bMidC, .sl 3 bLeafO LeafN bLeafC])]) ([.row ⟨false, aMidO, 0, 2, MidN, 0, [fun i => .int (Midg0 i), fun i => .int (Midg1 i)]⟩, .row ⟨false, aLeafO, 0, 2, LeafN, 0, [fun i => .int (Leafg0 i), fun i => .int (Leafg1 i)]⟩, .row ⟨false, bMidO, 0, 2, MidN, 0, [fun i => .int (Midg0 i), fun i => .int (Midg1 i)]⟩, .row ⟨false, bLeafO, 0, 2, LeafN, 0, [fun i => .int (Leafg0 i), fun i => .int (Leafg1 i)]⟩]) (fun v _ => v.den = .bool true)) = (
  (∀ b0 : Nat,
  (∀ b1 : Nat,
  (b0 = b0 ∧
  (b1 = b1 ∧
  (((Root != Root) = Bool.true →
  (Value.bool Bool.false) = (Value.bool Bool.true)) ∧
  ((Root != Root) = Bool.false →
  (b0 = b0 ∧
   (b1 = b1 ∧
   (Exists (fun (g02 : (Nat →
   Int)) => (Exists (fun (g13 : (Nat →
   Int)) => (Exists (fun (q04 : (Nat →
   Int)) => (Exists (fun (q15 : (Nat →
   Int)) => ((aMidO = aMidO ∧
   (MidN = MidN ∧
   ([(fun (i6 : Nat) => (SC.int (Midg0 i6))), (fun (i7 : Nat) => (SC.int (Midg1 i7)))] = [(fun (i8 : Nat) => (SC.int (g02 i8))), (fun (i9 : Nat) => (SC.int (g13 i9)))] ∧
   (bMidO = bMidO ∧
   (MidN = MidN ∧
   ([(fun (i10 : Nat) => (SC.int (Midg0 i10))), (fun (i11 : Nat) => (SC.int (Midg1 i11)))] = [(fun (i12 : Nat) => (SC.int (q04 i12))), (fun (i13 : Nat) => (SC.int (q15 i13)))] ∧
   (MidN = MidN ∧
   (capC MidN)))))))) ∧
   ((∀ i14 : Nat,
   (i14 < MidN →
   ((g02 i14) = (q04 i14) ∧
    (g13 i14) = (q15 i14)))) ∧
   (b0 = b0 ∧
   (b1 = b1 ∧
   (Exists (fun (g015 : (Nat →
   Int)) => (Exists (fun (g116 : (Nat →
   Int)) => (Exists (fun (q017 : (Nat →
   Int)) => (Exists (fun (q118 : (Nat →
   Int)) => ((aLeafO = aLeafO ∧
   (LeafN = LeafN ∧
   ([(fun (i19 : Nat) => (SC.int (Leafg0 i19))), (fun (i20 : Nat) => (SC.int (Leafg1 i20)))] = [(fun (i21 : Nat) => (SC.int (g015 i21))), (fun (i22 : Nat) => (SC.int (g116 i22)))] ∧
   (bLeafO = bLeafO ∧
   (LeafN = LeafN ∧
   ([(fun (i23 : Nat) => (SC.int (Leafg0 i23))), (fun (i24 : Nat) => (SC.int (Leafg1 i24)))] = [(fun (i25 : Nat) => (SC.int (q017 i25))), (fun (i26 : Nat) => (SC.int (q118 i26)))] ∧
   (LeafN = LeafN ∧
   (capC LeafN)))))))) ∧
   ((∀ i27 : Nat,
   (i27 < LeafN →
   ((g015 i27) = (q017 i27) ∧
    (g116 i27) = (q118 i27)))) ∧
   (Value.bool Bool.true) = (Value.bool Bool.true)))))))))))))))))))))))))))))))) := by kernel_rfl
theorem eqTree_any (Root : Int) (MidN : Nat) (Midg0 Midg1 : Nat → Int) (LeafN : Nat) (Leafg0 Leafg1 : Nat → Int) (aMidO : Option Addr) (aMidC : Nat) (aLeafO : Option Addr) (aLeafC : Nat) (bMidO : Option Addr) (bMidC : Nat) (bLeafO : Option Addr) (bLeafC : Nat) (w : World) (hra0 : Row.sat w ⟨false, aMidO, 0, 2, MidN, 0, [fun i => .int (Midg0 i), fun i => .int (Midg1 i)]⟩) (hra1 : Row.sat w ⟨false, aLeafO, 0, 2, LeafN, 0, [fun i => .int (Leafg0 i), fun i => .int (Leafg1 i)]⟩) (hrb0 : Row.sat w ⟨false, bMidO, 0, 2, MidN, 0, [fun i => .int (Midg0 i), fun i => .int (Midg1 i)]⟩) (hrb1 : Row.sat w ⟨false, bLeafO, 0, 2, LeafN, 0, [fun i => .int (Leafg0 i), fun i => .int (Leafg1 i)]⟩) (hcap : MidN ≤ 1048576 ∧ LeafN ≤ 1048576) : Calls Try.prog 45 #[.agg #[.int .i64 Root, .slice aMidO MidN aMidC, .slice aLeafO LeafN aLeafC], .agg #[.int .i64 Root, .slice bMidO MidN bMidC, .slice bLeafO LeafN bLeafC]] w fun e w' => e = .returned (.bool true) ∧ Below w.heap.size w w' := by
  refine fnB (tb := [(86, sEqNodeS)]) ⟨sEqNodeS_ok, trivial⟩ Try.func45 ((eqTree_T Root MidN Midg0 Midg1 LeafN Leafg0 Leafg1 aMidO aMidC aLeafO aLeafC bMidO bMidC bLeafO bLeafC).mpr ?_) (HS.rows (fun _ => False) [⟨false, aMidO, 0, 2, MidN, 0, [fun i => .int (Midg0 i), fun i => .int (Midg1 i)]⟩, ⟨false, aLeafO, 0, 2, LeafN, 0, [fun i => .int (Leafg0 i), fun i => .int (Leafg1 i)]⟩, ⟨false, bMidO, 0, 2, MidN, 0, [fun i => .int (Midg0 i), fun i => .int (Midg1 i)]⟩, ⟨false, bLeafO, 0, 2, LeafN, 0, [fun i => .int (Leafg0 i), fun i => .int (Leafg1 i)]⟩] (by simp; exact ⟨hra0, hra1, hrb0, hrb1⟩)) (fun v ch' w' hk hs => ⟨by rw [hk], hs.below⟩)
  clear hra0 hra1 hrb0 hrb1
  repeat' (first
    | exact rfl
    | exact True.intro
    | assumption
    | refine And.intro ?_ ?_
    | apply Exists.intro
    | omega
    | (intro h; exfalso; simp at h; done)
    | (intro h; exfalso; simp at h; omega)
    | intro _)
def sEqTreeO : Sm := fun args ch k =>
  match args with
  | [.a (.c (.obj i v)), .a (.c (.obj j u))] =>
    match ch[i]?, ch[j]? with
    | some (.obj _ rs), some (.obj _ us) => ∃ x : TreeD, (isTree v x rs ∧ isTree u x us ∧ capTree x) ∧ k (.a (.c (.lit true))) ch []
    | _, _ => False
  | _ => False
theorem sEqTreeO_ok : SmOK Try.prog 45 sEqTreeO := by
  refine smB Try.call45 fun args ch k w X h0 hs => ?_
  unfold sEqTreeO at h0
  split at h0
  · rename_i i v j u
    split at h0
    · rename_i o rs o' us hi hj
      obtain ⟨x, ⟨⟨_, _, _, _, _, _, _, _, _, _, rfl, rfl⟩, ⟨_, _, _, _, _, _, _, _, _, _, rfl, rfl⟩, hc⟩, h0⟩ := h0
      have h1 := hs.seeObj hi
      have h2 := hs.seeObj hj
      refine ⟨_, h0, ?_⟩
      exact eqTree_any x.Root x.MidN x.Midg0 x.Midg1 x.LeafN x.Leafg0 x.Leafg1 _ _ _ _ _ _ _ _ w (Row.seenAs (h1 _ (mem0)).2 rfl rfl) (Row.seenAs (h1 _ ((memS mem0))).2 rfl rfl) (Row.seenAs (h2 _ (mem0)).2 rfl rfl) (Row.seenAs (h2 _ ((memS mem0))).2 rfl rfl) hc
    · exact h0.elim
  · exact h0.elim
theorem markTree_T (Root : Int) (MidN : Nat) (Midg0 Midg1 : Nat → Int) (LeafN : Nat) (Leafg0 Leafg1 : Nat → Int) (MidO : Option Addr) (MidC : Nat) (LeafO : Option Addr) (LeafC : Nat) (MidT MidK LeafT LeafK : Nat) (k0 : Int) : (exFn Try.prog {tb := [(87, sMarkNodeS)]} 400 Try.f46 ([.a (.agg [.int Root, .sl 0 MidO MidN MidC, .sl 1 LeafO LeafN LeafC]), .a (.c (.int k0))]) ([.row ⟨true, MidO, MidT, 2, MidN, MidK, [fun i => .int (Midg0 i), fun i => .int (Midg1 i)]⟩, .row ⟨true, LeafO, LeafT, 2, LeafN, LeafK, [fun i => .int (Leafg0 i), fun i => .int (Leafg1 i)]⟩]) (fun v ch => v.den = .int .i64 (mk (mk (k0) 2 0 MidN) 2 0 LeafN) ∧ selC ch [0, 1] = [.row ⟨true, MidO, MidT, 2, MidN, MidK, [fun i => .int (mk (k0) 2 0 i), fun i => .int (mk (k0) 2 1 i)]⟩, .row ⟨true, LeafO, LeafT, 2, LeafN, LeafK, [fun i => .int (mk (mk (k0) 2 0 MidN) 2 0 i), fun i => .int (mk (mk (k0) 2 0 MidN) 2 1 i)]⟩])) = (
  (∀ b0 : Nat,
  (b0 = b0 ∧
  (Exists (fun (g01 : (Nat →
  Int)) => (Exists (fun (g12 : (Nat →
  Int)) => ((MidO = MidO ∧
  (MidN = MidN ∧
  ([(fun (i3 : Nat) => (SC.int (Midg0 i3))), (fun (i4 : Nat) => (SC.int (Midg1 i4)))] = [(fun (i5 : Nat) => (SC.int (g01 i5))), (fun (i6 : Nat) => (SC.int (g12 i6)))] ∧
  (markC MidN k0)))) ∧
  (b0 = b0 ∧
  (Exists (fun (g07 : (Nat →
  Int)) => (Exists (fun (g18 : (Nat →
  Int)) => ((LeafO = LeafO ∧
  (LeafN = LeafN ∧
  ([(fun (i9 : Nat) => (SC.int (Leafg0 i9))), (fun (i10 : Nat) => (SC.int (Leafg1 i10)))] = [(fun (i11 : Nat) => (SC.int (g07 i11))), (fun (i12 : Nat) => (SC.int (g18 i12)))] ∧
  (markC LeafN (mk k0 2 0 MidN))))) ∧
  ((Value.int IntKind.i64 (mk (mk k0 2 0 MidN) 2 0 LeafN)) = (Value.int IntKind.i64 (mk (mk k0 2 0 MidN) 2 0 LeafN)) ∧
  [(Ch.row (Row.mk Bool.true MidO MidT 2 MidN MidK [(fun (i13 : Nat) => (SC.int (mk k0 2 0 i13))), (fun (i14 : Nat) => (SC.int (mk k0 2 1 i14)))])), (Ch.row (Row.mk Bool.true LeafO LeafT 2 LeafN LeafK [(fun (i15 : Nat) => (SC.int (mk (mk k0 2 0 MidN) 2 0 i15))), (fun (i16 : Nat) => (SC.int (mk (mk k0 2 0 MidN) 2 1 i16)))]))] = [(Ch.row (Row.mk Bool.true MidO MidT 2 MidN MidK [(fun (i17 : Nat) => (SC.int (mk k0 2 0 i17))), (fun (i18 : Nat) => (SC.int (mk k0 2 1 i18)))])), (Ch.row (Row.mk Bool.true LeafO LeafT 2 LeafN LeafK [(fun (i19 : Nat) => (SC.int (mk (mk k0 2 0 MidN) 2 0 i19))), (fun (i20 : Nat) => (SC.int (mk (mk k0 2 0 MidN) 2 1 i20)))]))]))))))))))))))) := by kernel_rfl
theorem markTree_any (Root : Int) (MidN : Nat) (Midg0 Midg1 : Nat → Int) (LeafN : Nat) (Leafg0 Leafg1 : Nat → Int) (MidO : Option Addr) (MidC : Nat) (LeafO : Option Addr) (LeafC : Nat) (MidT MidK LeafT LeafK : Nat) (k0 : Int) (w : World) (M : Nat → Prop) (hs : HS ⟨w, M⟩ [.row ⟨true, MidO, MidT, 2, MidN, MidK, [fun i => .int (Midg0 i), fun i => .int (Midg1 i)]⟩, .row ⟨true, LeafO, LeafT, 2, LeafN, LeafK, [fun i => .int (Leafg0 i), fun i => .int (Leafg1 i)]⟩] w) (hcap : MidN ≤ 1048576 ∧ LeafN ≤ 1048576) (h0 : 0 ≤ k0 ∧ k0 ≤ 549755813888) : Calls Try.prog 46 #[.agg #[.int .i64 Root, .slice MidO MidN MidC, .slice LeafO LeafN LeafC], .int .i64 k0] w fun e w' => e = .returned (.int .i64 (mk (mk (k0) 2 0 MidN) 2 0 LeafN)) ∧ HS ⟨w, M⟩ [.row ⟨true, MidO, MidT, 2, MidN, MidK, [fun i => .int (mk (k0) 2 0 i), fun i => .int (mk (k0) 2 1 i)]⟩, .row ⟨true, LeafO, LeafT, 2, LeafN, LeafK, [fun i => .int (mk (mk (k0) 2 0 MidN) 2 0 i), fun i => .int (mk (mk (k0) 2 0 MidN) 2 1 i)]⟩] w' := by
  refine fnB (tb := [(87, sMarkNodeS)]) ⟨sMarkNodeS_ok, trivial⟩ Try.func46 ((markTree_T Root MidN Midg0 Midg1 LeafN Leafg0 Leafg1 MidO MidC LeafO LeafC MidT MidK LeafT LeafK k0).mpr ?_) hs (fun v ch' w' ⟨hv, hc⟩ hs => ⟨by rw [hv], by rw [← hc]; exact hs.sel _ (by simp)⟩)
  clear hs
  have hb0 : 0 ≤ mk (k0) 2 0 MidN ∧ mk (k0) 2 0 MidN ≤ k0 + 16777216 := mk_more (by omega) (by omega) (by omega)
  have hb1 : 0 ≤ mk (mk (k0) 2 0 MidN) 2 0 LeafN ∧ mk (mk (k0) 2 0 MidN) 2 0 LeafN ≤ mk (k0) 2 0 MidN + 16777216 := mk_more (by omega) (by omega) (by omega)
  repeat' (first
    | exact rfl
    | exact True.intro
    | assumption
    | refine And.intro ?_ ?_
    | apply Exists.intro
    | omega
    | (intro h; exfalso; simp at h; done)
    | (intro h; exfalso; simp at h; omega)
    | intro _)
def sMarkTreeO : Sm := fun args ch k =>
  match args with
  | [.a (.c (.obj i v)), .a (.c kc)] =>
    match ch[i]?, asI kc with
    | some (.obj true rs), some k0 => ∃ x : TreeD, (isTree v x rs ∧ capTree x ∧ mrkC k0) ∧ (endC k0 (endTree k0 x) 33554432 → ∀ rs' : List Row, isTree v (markTreeD k0 x) rs' → k (.a (.c (.int (endTree k0 x)))) (ch.set i (.obj true rs')) [i])
    | _, _ => False
  | _ => False
theorem sMarkTreeO_ok : SmOK Try.prog 46 sMarkTreeO := by
  refine smTurnO Try.call46 fun args ch k w X h0 hs => ?_
  unfold sMarkTreeO at h0
  split at h0
  · rename_i i v kc
    split at h0
    · rename_i rs k0 hi hk
      obtain ⟨x, ⟨⟨MidO, LeafO, MidC, MidT, MidK, LeafC, LeafT, LeafK, MidB, LeafB, rfl, rfl⟩, hc, hk0⟩, h0⟩ := h0
      have h1 := hs.seeObj hi
      have eMid : MidB = true := (h1 _ (mem0)).1
      subst eMid
      have eLeaf : LeafB = true := (h1 _ ((memS mem0))).1
      subst eLeaf
      have hb0 : 0 ≤ mk (k0) 2 0 x.MidN ∧ mk (k0) 2 0 x.MidN ≤ k0 + 16777216 := mk_more (by omega) (by omega) (by omega)
      have hb1 : 0 ≤ mk (mk (k0) 2 0 x.MidN) 2 0 x.LeafN ∧ mk (mk (k0) 2 0 x.MidN) 2 0 x.LeafN ≤ mk (k0) 2 0 x.MidN + 16777216 := mk_more (by omega) (by omega) (by omega)
      refine ⟨_, i, _, _, hi, h0 ⟨by unfold endTree; omega, by unfold endTree; omega⟩ [⟨true, MidO, MidT, 2, x.MidN, MidK, [fun i => .int ((markTreeD k0 x).Midg0 i), fun i => .int ((markTreeD k0 x).Midg1 i)]⟩, ⟨true, LeafO, LeafT, 2, x.LeafN, LeafK, [fun i => .int ((markTreeD k0 x).Leafg0 i), fun i => .int ((markTreeD k0 x).Leafg1 i)]⟩] ⟨_, _, _, _, _, _, _, _, _, _, rfl, rfl⟩, by simp, (at_cons rfl rfl rfl ((at_cons rfl rfl rfl (fun _ h => h)))), ?_⟩
      simp only [List.map_cons, List.map_nil, den_a, den_c, asI_den hk]
      exact markTree_any x.Root x.MidN x.Midg0 x.Midg1 x.LeafN x.Leafg0 x.Leafg1 MidO MidC LeafO LeafC MidT MidK LeafT LeafK k0 w _ (hs.open hi) hc hk0
    · exact h0.elim
  · exact h0.elim
theorem heldTree_T (Root : Int) (MidN LeafN : Nat) (MidO : Option Addr) (MidC : Nat) (LeafO : Option Addr) (LeafC : Nat) (k0 : Int) : (exFn Try.prog {tb := [(88, sHeldNodeS)]} 400 Try.f47 ([.a (.agg [.int Root, .sl 0 MidO MidN MidC, .sl 1 LeafO LeafN LeafC]), .a (.c (.int k0))]) ([.row ⟨false, MidO, 0, 2, MidN, 0, [fun i => .int (mk (k0) 2 0 i), fun i => .int (mk (k0) 2 1 i)]⟩, .row ⟨false, LeafO, 0, 2, LeafN, 0, [fun i => .int (mk (mk (k0) 2 0 MidN) 2 0 i), fun i => .int (mk (mk (k0) 2 0 MidN) 2 1 i)]⟩]) (fun v _ => v.den = .int .i64 (mk (mk (k0) 2 0 MidN) 2 0 LeafN))) = (
  (∀ b0 : Nat,
  (b0 = b0 ∧
  ((MidO = MidO ∧
  (MidN = MidN ∧
  ([(fun (i1 : Nat) => (SC.int (mk k0 2 0 i1))), (fun (i2 : Nat) => (SC.int (mk k0 2 1 i2)))] = [(fun (i3 : Nat) => (SC.int (mk k0 2 0 i3))), (fun (i4 : Nat) => (SC.int (mk k0 2 1 i4)))] ∧
  (markC MidN k0)))) ∧
  (((decide ((mk k0 2 0 MidN) < (0 : Int))) = Bool.true →
  (Value.int IntKind.i64 (-1 : Int)) = (Value.int IntKind.i64 (mk (mk k0 2 0 MidN) 2 0 LeafN))) ∧
  ((decide ((mk k0 2 0 MidN) < (0 : Int))) = Bool.false →
  (b0 = b0 ∧
   ((LeafO = LeafO ∧
   (LeafN = LeafN ∧
   ([(fun (i5 : Nat) => (SC.int (mk (mk k0 2 0 MidN) 2 0 i5))), (fun (i6 : Nat) => (SC.int (mk (mk k0 2 0 MidN) 2 1 i6)))] = [(fun (i7 : Nat) => (SC.int (mk (mk k0 2 0 MidN) 2 0 i7))), (fun (i8 : Nat) => (SC.int (mk (mk k0 2 0 MidN) 2 1 i8)))] ∧
   (markC LeafN (mk k0 2 0 MidN))))) ∧
   (((decide ((mk (mk k0 2 0 MidN) 2 0 LeafN) < (0 : Int))) = Bool.true →
   (Value.int IntKind.i64 (-1 : Int)) = (Value.int IntKind.i64 (mk (mk k0 2 0 MidN) 2 0 LeafN))) ∧
   ((decide ((mk (mk k0 2 0 MidN) 2 0 LeafN) < (0 : Int))) = Bool.false →
   (Value.int IntKind.i64 (mk (mk k0 2 0 MidN) 2 0 LeafN)) = (Value.int IntKind.i64 (mk (mk k0 2 0 MidN) 2 0 LeafN)))))))))))) := by kernel_rfl
theorem heldTree_any (Root : Int) (MidN LeafN : Nat) (MidO : Option Addr) (MidC : Nat) (LeafO : Option Addr) (LeafC : Nat) (k0 : Int) (w : World) (hr0 : Row.sat w ⟨false, MidO, 0, 2, MidN, 0, [fun i => .int (mk (k0) 2 0 i), fun i => .int (mk (k0) 2 1 i)]⟩) (hr1 : Row.sat w ⟨false, LeafO, 0, 2, LeafN, 0, [fun i => .int (mk (mk (k0) 2 0 MidN) 2 0 i), fun i => .int (mk (mk (k0) 2 0 MidN) 2 1 i)]⟩) (hcap : MidN ≤ 1048576 ∧ LeafN ≤ 1048576) (h0 : 0 ≤ k0 ∧ k0 ≤ 549755813888) : Calls Try.prog 47 #[.agg #[.int .i64 Root, .slice MidO MidN MidC, .slice LeafO LeafN LeafC], .int .i64 k0] w fun e w' => e = .returned (.int .i64 (mk (mk (k0) 2 0 MidN) 2 0 LeafN)) ∧ Below w.heap.size w w' := by
  refine fnB (tb := [(88, sHeldNodeS)]) ⟨sHeldNodeS_ok, trivial⟩ Try.func47 ((heldTree_T Root MidN LeafN MidO MidC LeafO LeafC k0).mpr ?_) (HS.rows (fun _ => False) [⟨false, MidO, 0, 2, MidN, 0, [fun i => .int (mk (k0) 2 0 i), fun i => .int (mk (k0) 2 1 i)]⟩, ⟨false, LeafO, 0, 2, LeafN, 0, [fun i => .int (mk (mk (k0) 2 0 MidN) 2 0 i), fun i => .int (mk (mk (k0) 2 0 MidN) 2 1 i)]⟩] (by simp; exact ⟨hr0, hr1⟩)) (fun v ch' w' hk hs => ⟨by rw [hk], hs.below⟩)
  clear hr0 hr1
  have hb0 : 0 ≤ mk (k0) 2 0 MidN ∧ mk (k0) 2 0 MidN ≤ k0 + 16777216 := mk_more (by omega) (by omega) (by omega)
  have hb1 : 0 ≤ mk (mk (k0) 2 0 MidN) 2 0 LeafN ∧ mk (mk (k0) 2 0 MidN) 2 0 LeafN ≤ mk (k0) 2 0 MidN + 16777216 := mk_more (by omega) (by omega) (by omega)
  repeat' (first
    | exact rfl
    | exact True.intro
    | assumption
    | refine And.intro ?_ ?_
    | apply Exists.intro
    | omega
    | (intro h; exfalso; simp at h; done)
    | (intro h; exfalso; simp at h; omega)
    | intro _)
def sHeldTreeO : Sm := fun args ch k =>
  match args with
  | [.a (.c (.obj i v)), .a (.c kc)] =>
    match ch[i]?, asI kc with
    | some (.obj _ rs), some k0 => ∃ x : TreeD, (isTree v (markTreeD k0 x) rs ∧ capTree x ∧ mrkC k0) ∧ k (.a (.c (.int (endTree k0 x)))) ch []
    | _, _ => False
  | _ => False
theorem sHeldTreeO_ok : SmOK Try.prog 47 sHeldTreeO := by
  refine smB Try.call47 fun args ch k w X h0 hs => ?_
  unfold sHeldTreeO at h0
  split at h0
  · rename_i i v kc
    split at h0
    · rename_i o rs k0 hi hk
      obtain ⟨x, ⟨⟨_, _, _, _, _, _, _, _, _, _, rfl, rfl⟩, hc, hk0⟩, h0⟩ := h0
      have h1 := hs.seeObj hi
      refine ⟨_, h0, ?_⟩
      simp only [List.map_cons, List.map_nil, den_a, den_c, asI_den hk]
      exact heldTree_any x.Root x.MidN x.LeafN _ _ _ _ k0 w (Row.seenAs (h1 _ (mem0)).2 rfl rfl) (Row.seenAs (h1 _ ((memS mem0))).2 rfl rfl) hc hk0
    · exact h0.elim
  · exact h0.elim
theorem szTree_T (Root : Int) (MidO : Option Addr) (MidN MidC : Nat) (LeafO : Option Addr) (LeafN LeafC : Nat) (k0 : Int) : (exFn Try.prog {tb := [(82, sSzNodeS)]} 400 Try.f41 ([.a (.agg [.int Root, .sl 0 MidO MidN MidC, .sl 1 LeafO LeafN LeafC]), .a (.c (.int k0))]) ([]) (fun v _ => ∃ z : Int, v.den = .int .i64 z ∧ szPTree z k0 MidN LeafN)) = (
  (∀ b0 : Nat,
  (b0 = b0 ∧
  ((szC MidN k0) ∧
  (((k0 < ((MidN : Nat) : Int)) →
  (Exists (fun (z1 : Int) => ((Value.int IntKind.i64 (-1 : Int)) = (Value.int IntKind.i64 z1) ∧
   (szPTree z1 k0 MidN LeafN))))) ∧
  ((((MidN : Nat) : Int) ≤ k0) →
  (((decide ((k0 - ((MidN : Nat) : Int)) < (0 : Int))) = Bool.true →
   (Exists (fun (z2 : Int) => ((Value.int IntKind.i64 (-1 : Int)) = (Value.int IntKind.i64 z2) ∧
    (szPTree z2 k0 MidN LeafN))))) ∧
   ((decide ((k0 - ((MidN : Nat) : Int)) < (0 : Int))) = Bool.false →
   (b0 = b0 ∧
    ((szC LeafN (k0 - ((MidN : Nat) : Int))) ∧
    ((((k0 - ((MidN : Nat) : Int)) < ((LeafN : Nat) : Int)) →
    (Exists (fun (z3 : Int) => ((Value.int IntKind.i64 (-1 : Int)) = (Value.int IntKind.i64 z3) ∧
     (szPTree z3 k0 MidN LeafN))))) ∧
    ((((LeafN : Nat) : Int) ≤ (k0 - ((MidN : Nat) : Int))) →
    (((decide (((k0 - ((MidN : Nat) : Int)) - ((LeafN : Nat) : Int)) < (0 : Int))) = Bool.true →
     (Exists (fun (z4 : Int) => ((Value.int IntKind.i64 (-1 : Int)) = (Value.int IntKind.i64 z4) ∧
      (szPTree z4 k0 MidN LeafN))))) ∧
     ((decide (((k0 - ((MidN : Nat) : Int)) - ((LeafN : Nat) : Int)) < (0 : Int))) = Bool.false →
     (Exists (fun (z5 : Int) => ((Value.int IntKind.i64 ((k0 - ((MidN : Nat) : Int)) - ((LeafN : Nat) : Int))) = (Value.int IntKind.i64 z5) ∧
      (szPTree z5 k0 MidN LeafN)))))))))))))))))) := by kernel_rfl
theorem szTree_any (Root : Int) (MidO : Option Addr) (MidN MidC : Nat) (LeafO : Option Addr) (LeafN LeafC : Nat) (k0 : Int) (w : World) (hn : MidN ≤ 9223372036854775807 ∧ LeafN ≤ 9223372036854775807) (h0 : 0 ≤ k0 ∧ k0 ≤ 1048576) : Calls Try.prog 41 #[.agg #[.int .i64 Root, .slice MidO MidN MidC, .slice LeafO LeafN LeafC], .int .i64 k0] w fun e w' => ∃ z : Int, (z = -1 ∨ (0 ≤ z ∧ z ≤ k0 ∧ MidN ≤ 1048576 ∧ LeafN ≤ 1048576)) ∧ e = .returned (.int .i64 z) ∧ Below w.heap.size w w' := by
  refine fnB (tb := [(82, sSzNodeS)]) ⟨sSzNodeS_ok, trivial⟩ Try.func41 ((szTree_T Root MidO MidN MidC LeafO LeafN LeafC k0).mpr ?_) (HS.start w (fun _ => False)) (fun v ch' w' ⟨z, hv, hz⟩ hs => ⟨z, hz, by rw [hv], hs.below⟩)
  repeat' (first
    | (refine ⟨_, rfl, ?_⟩; first | exact .inl rfl | (refine .inr ?_; omega))
    | exact True.intro
    | assumption
    | refine And.intro ?_ ?_
    | omega
    | (intro h; exfalso; simp at h; done)
    | (intro h; exfalso; simp at h; omega)
    | intro _)
def sSzTreeO : Sm := fun args ch k =>
  match args with
  | [.a (.c (.obj i v)), .a (.c kc)] =>
    match ch[i]?, asI kc with
    | some (.obj _ rs), some k0 => ∃ x : TreeD, (isTree v x rs ∧ lensTree x ∧ szK k0) ∧ (k (.a (.c (.il (-1)))) ch [] ∧ ∀ z : Int, szO z k0 → capTree x → k (.a (.c (.int z))) ch [])
    | _, _ => False
  | _ => False
theorem sSzTreeO_ok : SmOK Try.prog 41 sSzTreeO := by
  refine smV Try.call41 fun args ch k w X h0 hs => ?_
  unfold sSzTreeO at h0
  split at h0
  · rename_i i v kc
    split at h0
    · rename_i o rs k0 hi hk
      obtain ⟨x, ⟨⟨_, _, _, _, _, _, _, _, _, _, rfl, rfl⟩, hc, hk0⟩, h1, h2⟩ := h0
      simp only [List.map_cons, List.map_nil, den_a, den_c, asI_den hk]
      refine Calls.mono (szTree_any x.Root _ x.MidN _ _ x.LeafN _ k0 w hc hk0) fun e w' ⟨z, hz, he, hb⟩ => ?_
      rcases hz with rfl | ⟨hz0, hz1, hz2⟩
      · exact ⟨.a (.c (.il (-1))), he, hb, h1⟩
      · exact ⟨.a (.c (.int z)), he, hb, h2 z ⟨hz0, hz1⟩ hz2⟩
    · exact h0.elim
  · exact h0.elim
end Go.Proofs.Ytdaeikjpnejmdaa
