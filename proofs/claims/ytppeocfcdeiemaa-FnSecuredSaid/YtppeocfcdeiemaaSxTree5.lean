/-
  Trees bumped.
-/
import Derived.Test.YtppeocfcdeiemaaSxTree4
namespace Go.Proofs.Ytppeocfcdeiemaa
set_option linter.unusedVariables false
set_option linter.unusedSimpArgs false
open Go.RowKit
set_option maxRecDepth 100000
set_option maxHeartbeats 8000000

def bOk (key root : Int) (n m : Nat) (mc mt lc lt : Nat → Int) (leaf : Int) : Bool := btw leaf 0 7 && treeB key root n m mc mt lc lt && decide (root + 1 ≤ 1000000000) && decide (mc (leaf / 4).toNat + 1 ≤ 1000000000) && decide (lc leaf.toNat + 1 ≤ 1000000000)
def bR (key root : Int) (n m : Nat) (mc mt lc lt : Nat → Int) (leaf : Int) : Int := if bOk key root n m mc mt lc lt leaf = true then root + 1 else root
def bMc (key root : Int) (n m : Nat) (mc mt lc lt : Nat → Int) (leaf : Int) (i : Nat) : Int := if bOk key root n m mc mt lc lt leaf = true ∧ i = (leaf / 4).toNat then mc i + 1 else mc i
def bMt (key root : Int) (n m : Nat) (mc mt lc lt : Nat → Int) (leaf : Int) (i : Nat) : Int := if bOk key root n m mc mt lc lt leaf = true then tagW key (1000 + i) (root + 1) (bMc key root n m mc mt lc lt leaf i) else mt i
def bLc (key root : Int) (n m : Nat) (mc mt lc lt : Nat → Int) (leaf : Int) (j : Nat) : Int := if bOk key root n m mc mt lc lt leaf = true ∧ j = leaf.toNat then lc j + 1 else lc j
def bLt (key root : Int) (n m : Nat) (mc mt lc lt : Nat → Int) (leaf : Int) (j : Nat) : Int := if bOk key root n m mc mt lc lt leaf = true ∧ j / 4 = (leaf / 4).toNat then tagW key (2000 + j) (bMc key root n m mc mt lc lt leaf (leaf / 4).toNat) (bLc key root n m mc mt lc lt leaf j) else lt j
theorem dT {p q : Prop} [Decidable p] (h : p → q) : decide p = true → q := fun e => h (of_decide_eq_true e)
theorem dF {p q : Prop} [Decidable p] (h : ¬ p → q) : decide p = false → q := fun e => h (of_decide_eq_false e)
theorem btw_yes {x lo hi : Int} (h : lo ≤ x ∧ x ≤ hi) : btw x lo hi = true := by simp [btw]; omega
theorem btw_facts {x lo hi : Int} (h : btw x lo hi = true) : lo ≤ x ∧ x ≤ hi := by simp [btw] at h; omega
theorem lcOk_facts {key root : Int} {n m : Nat} {mc mt lc lt : Nat → Int} {leaf : Int} (h : lcOk key root n m mc mt lc lt leaf = true) : n = 2 ∧ m = 8 ∧ (0 ≤ leaf ∧ leaf ≤ 7) ∧ (0 ≤ root ∧ root ≤ 1000000000) ∧ (0 ≤ mc (leaf / 4).toNat ∧ mc (leaf / 4).toNat ≤ 1000000000) ∧ (0 ≤ lc leaf.toNat ∧ lc leaf.toNat ≤ 1000000000) := by
  simp only [lcOk, Bool.and_eq_true, beq_iff_eq] at h
  obtain ⟨⟨⟨⟨⟨⟨⟨⟨_, h1⟩, h2⟩, h3⟩, h4⟩, h5⟩, h6⟩, _⟩, _⟩ := h
  exact ⟨by omega, by omega, btw_facts h3, btw_facts h4, btw_facts h5, btw_facts h6⟩
theorem treeB_get {key root : Int} {n m : Nat} {mc mt lc lt : Nat → Int} (h : treeB key root n m mc mt lc lt = true) (j : Nat) (hj : j < 8) : lcOk key root n m mc mt lc lt j = true := by
  simp only [treeB, Bool.and_eq_true] at h
  obtain ⟨⟨⟨⟨⟨⟨⟨h0, h1⟩, h2⟩, h3⟩, h4⟩, h5⟩, h6⟩, h7⟩ := h
  match j, hj with
  | 0, _ => exact h0
  | 1, _ => exact h1
  | 2, _ => exact h2
  | 3, _ => exact h3
  | 4, _ => exact h4
  | 5, _ => exact h5
  | 6, _ => exact h6
  | 7, _ => exact h7
theorem treeB_facts {key root : Int} {n m : Nat} {mc mt lc lt : Nat → Int} (h : treeB key root n m mc mt lc lt = true) : n = 2 ∧ m = 8 ∧ (0 ≤ root ∧ root ≤ 1000000000) ∧ (∀ i, i < 2 → 0 ≤ mc i ∧ mc i ≤ 1000000000) ∧ (∀ j, j < 8 → 0 ≤ lc j ∧ lc j ≤ 1000000000) := by
  have h0 := lcOk_facts (treeB_get h 0 (by omega))
  have h4 := lcOk_facts (treeB_get h 4 (by omega))
  refine ⟨h0.1, h0.2.1, h0.2.2.2.1, fun i hi => ?_, fun j hj => ?_⟩
  · match i, hi with
    | 0, _ => exact h0.2.2.2.2.1
    | 1, _ => exact h4.2.2.2.2.1
  · have := (lcOk_facts (treeB_get h j hj)).2.2.2.2.2
    simpa using this
theorem bOk_facts {key root : Int} {n m : Nat} {mc mt lc lt : Nat → Int} {leaf : Int} (h : bOk key root n m mc mt lc lt leaf = true) : (0 ≤ leaf ∧ leaf ≤ 7) ∧ treeB key root n m mc mt lc lt = true ∧ root + 1 ≤ 1000000000 ∧ mc (leaf / 4).toNat + 1 ≤ 1000000000 ∧ lc leaf.toNat + 1 ≤ 1000000000 := by
  simp only [bOk, Bool.and_eq_true, decide_eq_true_eq] at h
  obtain ⟨⟨⟨⟨h1, h2⟩, h3⟩, h4⟩, h5⟩ := h
  exact ⟨btw_facts h1, h2, h3, h4, h5⟩
theorem bumpI_T (key : Int) (tRoot : Int) (tMidO : Option Addr) (tMidN tMidC : Nat) (tMidg0 tMidg1 : Nat → Int) (tLeafO : Option Addr) (tLeafN tLeafC : Nat) (tLeafg0 tLeafg1 : Nat → Int) (leaf : Int) : (exFn Try.prog {tb := [(32, sCopyT), (33, sBtw), (13, sTOk), (30, sMidT), (31, sLeafT)], R := [(11, 3), (16, 5)]} 400 Try.f12 ([.a (.c (.int key)), .a (.agg [.int tRoot, .sl 0 tMidO tMidN tMidC, .sl 1 tLeafO tLeafN tLeafC]), .a (.c (.int leaf))]) ([.row ⟨false, tMidO, 0, 2, tMidN, 0, [fun i => .int (tMidg0 i), fun i => .int (tMidg1 i)]⟩, .row ⟨false, tLeafO, 0, 2, tLeafN, 0, [fun i => .int (tLeafg0 i), fun i => .int (tLeafg1 i)]⟩]) (fun v ch => ∃ (ro0 : Option Addr) (rc0 : Nat) (ro1 : Option Addr) (rc1 : Nat), OutR v ch (.tuple #[.agg #[.int .i64 (bR key tRoot tMidN tLeafN tMidg0 tMidg1 tLeafg0 tLeafg1 leaf), .slice ro0 (tMidN) rc0, .slice ro1 (tLeafN) rc1], .bool (bOk key tRoot tMidN tLeafN tMidg0 tMidg1 tLeafg0 tLeafg1 leaf)]) [.row ⟨true, ro0, 37, 2, tMidN, rc0, [fun i => .int (bMc key tRoot tMidN tLeafN tMidg0 tMidg1 tLeafg0 tLeafg1 leaf i), fun i => .int (bMt key tRoot tMidN tLeafN tMidg0 tMidg1 tLeafg0 tLeafg1 leaf i)]⟩, .row ⟨true, ro1, 37, 2, tLeafN, rc1, [fun i => .int (bLc key tRoot tMidN tLeafN tMidg0 tMidg1 tLeafg0 tLeafg1 leaf i), fun i => .int (bLt key tRoot tMidN tLeafN tMidg0 tMidg1 tLeafg0 tLeafg1 leaf i)]⟩])) = (
  (∀ b0 : Nat,
  (∀ b1 : Nat,
  (b0 = b0 ∧
  (Exists (fun (tMidg02 : (Nat →
  Int)) => (Exists (fun (tMidg13 : (Nat →
  Int)) => (Exists (fun (tLeafg04 : (Nat →
  Int)) => (Exists (fun (tLeafg15 : (Nat →
  Int)) => ((tMidO = tMidO ∧
  (tMidN = tMidN ∧
  ([(fun (i6 : Nat) => (SC.int (tMidg0 i6))), (fun (i7 : Nat) => (SC.int (tMidg1 i7)))] = [(fun (i8 : Nat) => (SC.int (tMidg02 i8))), (fun (i9 : Nat) => (SC.int (tMidg13 i9)))] ∧
  (tLeafO = tLeafO ∧
  (tLeafN = tLeafN ∧
  ([(fun (i10 : Nat) => (SC.int (tLeafg0 i10))), (fun (i11 : Nat) => (SC.int (tLeafg1 i11)))] = [(fun (i12 : Nat) => (SC.int (tLeafg04 i12))), (fun (i13 : Nat) => (SC.int (tLeafg15 i13)))] ∧
  ((capC tMidN) ∧
  (capC tLeafN)))))))) ∧
  (∀ ro014 : (Option Addr),
  (∀ rc015 : Nat,
  (∀ ro116 : (Option Addr),
  (∀ rc117 : Nat,
  (∀ b18 : Nat,
  (b18 = b18 ∧
  (((!(btw leaf (0 : Int) (7 : Int))) = Bool.false →
  (b0 = b0 ∧
   (Exists (fun (tMidg019 : (Nat →
   Int)) => (Exists (fun (tMidg120 : (Nat →
   Int)) => (Exists (fun (tLeafg021 : (Nat →
   Int)) => (Exists (fun (tLeafg122 : (Nat →
   Int)) => ((tMidO = tMidO ∧
   (tMidN = tMidN ∧
   ([(fun (i23 : Nat) => (SC.int (tMidg0 i23))), (fun (i24 : Nat) => (SC.int (tMidg1 i24)))] = [(fun (i25 : Nat) => (SC.int (tMidg019 i25))), (fun (i26 : Nat) => (SC.int (tMidg120 i26)))] ∧
   (tLeafO = tLeafO ∧
   (tLeafN = tLeafN ∧
   [(fun (i27 : Nat) => (SC.int (tLeafg0 i27))), (fun (i28 : Nat) => (SC.int (tLeafg1 i28)))] = [(fun (i29 : Nat) => (SC.int (tLeafg021 i29))), (fun (i30 : Nat) => (SC.int (tLeafg122 i30)))]))))) ∧
   (((!(treeB key tRoot tMidN tLeafN tMidg019 tMidg120 tLeafg021 tLeafg122)) = Bool.true →
   (b18 = b18 ∧
    (b1 = b1 ∧
    (b1 = b1 ∧
    (Exists (fun (ro031 : (Option Addr)) => (Exists (fun (rc032 : Nat) => (Exists (fun (ro133 : (Option Addr)) => (Exists (fun (rc134 : Nat) => ((Value.tuple (List.toArray [(Value.agg (List.toArray [(Value.int IntKind.i64 tRoot), (Value.slice ro014 tMidN rc015), (Value.slice ro116 tLeafN rc117)])), (Value.bool Bool.false)])) = (Value.tuple (List.toArray [(Value.agg (List.toArray [(Value.int IntKind.i64 (bR key tRoot tMidN tLeafN tMidg0 tMidg1 tLeafg0 tLeafg1 leaf)), (Value.slice ro031 tMidN rc032), (Value.slice ro133 tLeafN rc134)])), (Value.bool (bOk key tRoot tMidN tLeafN tMidg0 tMidg1 tLeafg0 tLeafg1 leaf))])) ∧
    (((Bool.true = Bool.true ∧
    (ro014 = ro031 ∧
    (37 = 37 ∧
    (2 = 2 ∧
    (tMidN = tMidN ∧
    (rc015 = rc032 ∧
    ((∀ i35 : Nat,
    (i35 < tMidN →
    (Value.int IntKind.i64 (tMidg02 i35)) = (Value.int IntKind.i64 (bMc key tRoot tMidN tLeafN tMidg0 tMidg1 tLeafg0 tLeafg1 leaf i35)))) ∧
    ((∀ i36 : Nat,
    (i36 < tMidN →
    (Value.int IntKind.i64 (tMidg13 i36)) = (Value.int IntKind.i64 (bMt key tRoot tMidN tLeafN tMidg0 tMidg1 tLeafg0 tLeafg1 leaf i36)))) ∧
    True)))))))) ∧
    ((Bool.true = Bool.true ∧
    (ro116 = ro133 ∧
    (37 = 37 ∧
    (2 = 2 ∧
    (tLeafN = tLeafN ∧
    (rc117 = rc134 ∧
    ((∀ i37 : Nat,
    (i37 < tLeafN →
    (Value.int IntKind.i64 (tLeafg04 i37)) = (Value.int IntKind.i64 (bLc key tRoot tMidN tLeafN tMidg0 tMidg1 tLeafg0 tLeafg1 leaf i37)))) ∧
    ((∀ i38 : Nat,
    (i38 < tLeafN →
    (Value.int IntKind.i64 (tLeafg15 i38)) = (Value.int IntKind.i64 (bLt key tRoot tMidN tLeafN tMidg0 tMidg1 tLeafg0 tLeafg1 leaf i38)))) ∧
    True)))))))) ∧
    True)) ∧
    Bool.true = Bool.true)))))))))))))) ∧
   ((!(treeB key tRoot tMidN tLeafN tMidg019 tMidg120 tLeafg021 tLeafg122)) = Bool.false →
   ((divC leaf (4 : Int)) ∧
    (b18 = b18 ∧
    ((rng (tRoot + (1 : Int))) ∧
    (b18 = b18 ∧
    (b18 = b18 ∧
    (ro014 = ro014 ∧
    (tMidN = tMidN ∧
    ((0 ≤ (leaf / (4 : Int)) ∧ (leaf / (4 : Int)) < ((tMidN : Nat) : Int)) ∧
    (ro014 = ro014 ∧
    ((Int.toNat (leaf / (4 : Int))) < tMidN ∧
    (ro014 = ro014 ∧
    ((Int.toNat (leaf / (4 : Int))) < tMidN ∧
    ((rng ((tMidg02 (Int.toNat (leaf / (4 : Int)))) + (1 : Int))) ∧
    (ro014 = ro014 ∧
    (tMidN = tMidN ∧
    ((0 ≤ (leaf / (4 : Int)) ∧ (leaf / (4 : Int)) < ((tMidN : Nat) : Int)) ∧
    (ro014 = ro014 ∧
    ((Int.toNat (leaf / (4 : Int))) < tMidN ∧
    (ro014 = ro014 ∧
    ((Int.toNat (leaf / (4 : Int))) < tMidN ∧
    (b18 = b18 ∧
    (ro116 = ro116 ∧
    (tLeafN = tLeafN ∧
    ((0 ≤ leaf ∧ leaf < ((tLeafN : Nat) : Int)) ∧
    (ro116 = ro116 ∧
    ((Int.toNat leaf) < tLeafN ∧
    (ro116 = ro116 ∧
    ((Int.toNat leaf) < tLeafN ∧
    ((rng ((tLeafg04 (Int.toNat leaf)) + (1 : Int))) ∧
    (ro116 = ro116 ∧
    (tLeafN = tLeafN ∧
    ((0 ≤ leaf ∧ leaf < ((tLeafN : Nat) : Int)) ∧
    (ro116 = ro116 ∧
    ((Int.toNat leaf) < tLeafN ∧
    (ro116 = ro116 ∧
    ((Int.toNat leaf) < tLeafN ∧
    (b18 = b18 ∧
    (((decide ((tRoot + (1 : Int)) > (1000000000 : Int))) = Bool.false →
    (b18 = b18 ∧
     (ro014 = ro014 ∧
     (tMidN = tMidN ∧
     ((0 ≤ (leaf / (4 : Int)) ∧ (leaf / (4 : Int)) < ((tMidN : Nat) : Int)) ∧
     (ro014 = ro014 ∧
     ((Int.toNat (leaf / (4 : Int))) < tMidN ∧
     (ro014 = ro014 ∧
     ((Int.toNat (leaf / (4 : Int))) < tMidN ∧
     (((decide ((if (Int.toNat (leaf / (4 : Int))) = (Int.toNat (leaf / (4 : Int))) then ((tMidg02 (Int.toNat (leaf / (4 : Int)))) + (1 : Int)) else (tMidg02 (Int.toNat (leaf / (4 : Int))))) > (1000000000 : Int))) = Bool.false →
     (b18 = b18 ∧
      (ro116 = ro116 ∧
      (tLeafN = tLeafN ∧
      ((0 ≤ leaf ∧ leaf < ((tLeafN : Nat) : Int)) ∧
      (ro116 = ro116 ∧
      ((Int.toNat leaf) < tLeafN ∧
      (ro116 = ro116 ∧
      ((Int.toNat leaf) < tLeafN ∧
      (((decide ((if (Int.toNat leaf) = (Int.toNat leaf) then ((tLeafg04 (Int.toNat leaf)) + (1 : Int)) else (tLeafg04 (Int.toNat leaf))) > (1000000000 : Int))) = Bool.true →
      (b0 = b0 ∧
       (Exists (fun (tMidg039 : (Nat →
       Int)) => (Exists (fun (tMidg140 : (Nat →
       Int)) => (Exists (fun (tLeafg041 : (Nat →
       Int)) => (Exists (fun (tLeafg142 : (Nat →
       Int)) => ((tMidO = tMidO ∧
       (tMidN = tMidN ∧
       ([(fun (i43 : Nat) => (SC.int (tMidg0 i43))), (fun (i44 : Nat) => (SC.int (tMidg1 i44)))] = [(fun (i45 : Nat) => (SC.int (tMidg039 i45))), (fun (i46 : Nat) => (SC.int (tMidg140 i46)))] ∧
       (tLeafO = tLeafO ∧
       (tLeafN = tLeafN ∧
       ([(fun (i47 : Nat) => (SC.int (tLeafg0 i47))), (fun (i48 : Nat) => (SC.int (tLeafg1 i48)))] = [(fun (i49 : Nat) => (SC.int (tLeafg041 i49))), (fun (i50 : Nat) => (SC.int (tLeafg142 i50)))] ∧
       ((capC tMidN) ∧
       (capC tLeafN)))))))) ∧
       (∀ ro051 : (Option Addr),
       (∀ rc052 : Nat,
       (∀ ro153 : (Option Addr),
       (∀ rc154 : Nat,
       (b1 = b1 ∧
       (b1 = b1 ∧
       (Exists (fun (ro055 : (Option Addr)) => (Exists (fun (rc056 : Nat) => (Exists (fun (ro157 : (Option Addr)) => (Exists (fun (rc158 : Nat) => ((Value.tuple (List.toArray [(Value.agg (List.toArray [(Value.int IntKind.i64 tRoot), (Value.slice ro051 tMidN rc052), (Value.slice ro153 tLeafN rc154)])), (Value.bool Bool.false)])) = (Value.tuple (List.toArray [(Value.agg (List.toArray [(Value.int IntKind.i64 (bR key tRoot tMidN tLeafN tMidg0 tMidg1 tLeafg0 tLeafg1 leaf)), (Value.slice ro055 tMidN rc056), (Value.slice ro157 tLeafN rc158)])), (Value.bool (bOk key tRoot tMidN tLeafN tMidg0 tMidg1 tLeafg0 tLeafg1 leaf))])) ∧
       (((Bool.true = Bool.true ∧
       (ro051 = ro055 ∧
       (37 = 37 ∧
       (2 = 2 ∧
       (tMidN = tMidN ∧
       (rc052 = rc056 ∧
       ((∀ i59 : Nat,
       (i59 < tMidN →
       (Value.int IntKind.i64 (tMidg039 i59)) = (Value.int IntKind.i64 (bMc key tRoot tMidN tLeafN tMidg0 tMidg1 tLeafg0 tLeafg1 leaf i59)))) ∧
       ((∀ i60 : Nat,
       (i60 < tMidN →
       (Value.int IntKind.i64 (tMidg140 i60)) = (Value.int IntKind.i64 (bMt key tRoot tMidN tLeafN tMidg0 tMidg1 tLeafg0 tLeafg1 leaf i60)))) ∧
       True)))))))) ∧
       ((Bool.true = Bool.true ∧
       (ro153 = ro157 ∧
       (37 = 37 ∧
       (2 = 2 ∧
       (tLeafN = tLeafN ∧
       (rc154 = rc158 ∧
       ((∀ i61 : Nat,
       (i61 < tLeafN →
       (Value.int IntKind.i64 (tLeafg041 i61)) = (Value.int IntKind.i64 (bLc key tRoot tMidN tLeafN tMidg0 tMidg1 tLeafg0 tLeafg1 leaf i61)))) ∧
       ((∀ i62 : Nat,
       (i62 < tLeafN →
       (Value.int IntKind.i64 (tLeafg142 i62)) = (Value.int IntKind.i64 (bLt key tRoot tMidN tLeafN tMidg0 tMidg1 tLeafg0 tLeafg1 leaf i62)))) ∧
       True)))))))) ∧
       True)) ∧
       Bool.true = Bool.true))))))))))))))))))))))))))) ∧
      ((decide ((if (Int.toNat leaf) = (Int.toNat leaf) then ((tLeafg04 (Int.toNat leaf)) + (1 : Int)) else (tLeafg04 (Int.toNat leaf))) > (1000000000 : Int))) = Bool.false →
      (b18 = b18 ∧
       (((decide ((0 : Int) < ((tMidN : Nat) : Int))) = Bool.true →
       (b18 = b18 ∧
        (b18 = b18 ∧
        (Exists (fun (g063 : (Nat →
        Int)) => (Exists (fun (g164 : (Nat →
        Int)) => ((ro014 = ro014 ∧
        (tMidN = tMidN ∧
        [(fun (j65 : Nat) => (SC.int (if j65 = (Int.toNat (leaf / (4 : Int))) then ((tMidg02 (Int.toNat (leaf / (4 : Int)))) + (1 : Int)) else (tMidg02 j65)))), (fun (i66 : Nat) => (SC.int (tMidg13 i66)))] = [(fun (i67 : Nat) => (SC.int (g063 i67))), (fun (i68 : Nat) => (SC.int (g164 i68)))])) ∧
        (((0 ≤ (0 : Int) ∧ (0 : Int) < ((tMidN : Nat) : Int)) ∧
        (tagC (0 : Int))) ∧
        (True ∧
        (ro014 = ro014 ∧
        (tMidN = tMidN ∧
        ((0 ≤ (0 : Int) ∧ (0 : Int) < ((tMidN : Nat) : Int)) ∧
        (ro014 = ro014 ∧
        (0 < tMidN ∧
        (ro014 = ro014 ∧
        (0 < tMidN ∧
        (True ∧
        (((decide ((1 : Int) < ((tMidN : Nat) : Int))) = Bool.true →
        (b18 = b18 ∧
         (b18 = b18 ∧
         (Exists (fun (g069 : (Nat →
         Int)) => (Exists (fun (g170 : (Nat →
         Int)) => ((ro014 = ro014 ∧
         (tMidN = tMidN ∧
         [(fun (j71 : Nat) => (SC.int (if j71 = (Int.toNat (leaf / (4 : Int))) then ((tMidg02 (Int.toNat (leaf / (4 : Int)))) + (1 : Int)) else (tMidg02 j71)))), (fun (j72 : Nat) => (SC.int (if j72 = 0 then (tagW key ((1000 : Int) + (0 : Int)) (tRoot + (1 : Int)) (g063 0)) else (tMidg13 j72))))] = [(fun (i73 : Nat) => (SC.int (g069 i73))), (fun (i74 : Nat) => (SC.int (g170 i74)))])) ∧
         (((0 ≤ (1 : Int) ∧ (1 : Int) < ((tMidN : Nat) : Int)) ∧
         (tagC (1 : Int))) ∧
         (True ∧
         (ro014 = ro014 ∧
         (tMidN = tMidN ∧
         ((0 ≤ (1 : Int) ∧ (1 : Int) < ((tMidN : Nat) : Int)) ∧
         (ro014 = ro014 ∧
         (1 < tMidN ∧
         (ro014 = ro014 ∧
         (1 < tMidN ∧
         (True ∧
         (((decide ((2 : Int) < ((tMidN : Nat) : Int))) = Bool.true →
         (b18 = b18 ∧
          (b18 = b18 ∧
          (Exists (fun (g075 : (Nat →
          Int)) => (Exists (fun (g176 : (Nat →
          Int)) => ((ro014 = ro014 ∧
          (tMidN = tMidN ∧
          [(fun (j77 : Nat) => (SC.int (if j77 = (Int.toNat (leaf / (4 : Int))) then ((tMidg02 (Int.toNat (leaf / (4 : Int)))) + (1 : Int)) else (tMidg02 j77)))), (fun (j78 : Nat) => (SC.int (if j78 = 1 then (tagW key ((1000 : Int) + (1 : Int)) (tRoot + (1 : Int)) (g069 1)) else (if j78 = 0 then (tagW key ((1000 : Int) + (0 : Int)) (tRoot + (1 : Int)) (g063 0)) else (tMidg13 j78)))))] = [(fun (i79 : Nat) => (SC.int (g075 i79))), (fun (i80 : Nat) => (SC.int (g176 i80)))])) ∧
          (((0 ≤ (2 : Int) ∧ (2 : Int) < ((tMidN : Nat) : Int)) ∧
          (tagC (2 : Int))) ∧
          (True ∧
          (ro014 = ro014 ∧
          (tMidN = tMidN ∧
          ((0 ≤ (2 : Int) ∧ (2 : Int) < ((tMidN : Nat) : Int)) ∧
          (ro014 = ro014 ∧
          (2 < tMidN ∧
          (ro014 = ro014 ∧
          (2 < tMidN ∧
          (True ∧
          False)))))))))))))))))) ∧
         ((decide ((2 : Int) < ((tMidN : Nat) : Int))) = Bool.false →
         ((rng ((leaf / (4 : Int)) * (4 : Int))) ∧
          ((rng ((leaf / (4 : Int)) + (1 : Int))) ∧
          ((rng (((leaf / (4 : Int)) + (1 : Int)) * (4 : Int))) ∧
          (((decide (((leaf / (4 : Int)) * (4 : Int)) < (((leaf / (4 : Int)) + (1 : Int)) * (4 : Int)))) = Bool.true →
          (b18 = b18 ∧
           (b18 = b18 ∧
           (Exists (fun (g081 : (Nat →
           Int)) => (Exists (fun (g182 : (Nat →
           Int)) => ((ro014 = ro014 ∧
           (tMidN = tMidN ∧
           [(fun (j83 : Nat) => (SC.int (if j83 = (Int.toNat (leaf / (4 : Int))) then ((tMidg02 (Int.toNat (leaf / (4 : Int)))) + (1 : Int)) else (tMidg02 j83)))), (fun (j84 : Nat) => (SC.int (if j84 = 1 then (tagW key ((1000 : Int) + (1 : Int)) (tRoot + (1 : Int)) (g069 1)) else (if j84 = 0 then (tagW key ((1000 : Int) + (0 : Int)) (tRoot + (1 : Int)) (g063 0)) else (tMidg13 j84)))))] = [(fun (i85 : Nat) => (SC.int (g081 i85))), (fun (i86 : Nat) => (SC.int (g182 i86)))])) ∧
           (Exists (fun (g087 : (Nat →
           Int)) => (Exists (fun (g188 : (Nat →
           Int)) => ((ro116 = ro116 ∧
           (tLeafN = tLeafN ∧
           [(fun (j89 : Nat) => (SC.int (if j89 = (Int.toNat leaf) then ((tLeafg04 (Int.toNat leaf)) + (1 : Int)) else (tLeafg04 j89)))), (fun (i90 : Nat) => (SC.int (tLeafg15 i90)))] = [(fun (i91 : Nat) => (SC.int (g087 i91))), (fun (i92 : Nat) => (SC.int (g188 i92)))])) ∧
           (((0 ≤ (((leaf / (4 : Int)) * (4 : Int)) / (4 : Int)) ∧ (((leaf / (4 : Int)) * (4 : Int)) / (4 : Int)) < ((tMidN : Nat) : Int)) ∧
           ((0 ≤ ((leaf / (4 : Int)) * (4 : Int)) ∧ ((leaf / (4 : Int)) * (4 : Int)) < ((tLeafN : Nat) : Int)) ∧
           (tagC ((leaf / (4 : Int)) * (4 : Int))))) ∧
           (True ∧
           (ro116 = ro116 ∧
           (tLeafN = tLeafN ∧
           ((0 ≤ ((leaf / (4 : Int)) * (4 : Int)) ∧ ((leaf / (4 : Int)) * (4 : Int)) < ((tLeafN : Nat) : Int)) ∧
           (ro116 = ro116 ∧
           ((Int.toNat ((leaf / (4 : Int)) * (4 : Int))) < tLeafN ∧
           (ro116 = ro116 ∧
           ((Int.toNat ((leaf / (4 : Int)) * (4 : Int))) < tLeafN ∧
           (True ∧
           ((rng (((leaf / (4 : Int)) * (4 : Int)) + (1 : Int))) ∧
           ((rng ((leaf / (4 : Int)) + (1 : Int))) ∧
           ((rng (((leaf / (4 : Int)) + (1 : Int)) * (4 : Int))) ∧
           (((decide ((((leaf / (4 : Int)) * (4 : Int)) + (1 : Int)) < (((leaf / (4 : Int)) + (1 : Int)) * (4 : Int)))) = Bool.true →
           (b18 = b18 ∧
            (b18 = b18 ∧
            (Exists (fun (g093 : (Nat →
            Int)) => (Exists (fun (g194 : (Nat →
            Int)) => ((ro014 = ro014 ∧
            (tMidN = tMidN ∧
            [(fun (j95 : Nat) => (SC.int (if j95 = (Int.toNat (leaf / (4 : Int))) then ((tMidg02 (Int.toNat (leaf / (4 : Int)))) + (1 : Int)) else (tMidg02 j95)))), (fun (j96 : Nat) => (SC.int (if j96 = 1 then (tagW key ((1000 : Int) + (1 : Int)) (tRoot + (1 : Int)) (g069 1)) else (if j96 = 0 then (tagW key ((1000 : Int) + (0 : Int)) (tRoot + (1 : Int)) (g063 0)) else (tMidg13 j96)))))] = [(fun (i97 : Nat) => (SC.int (g093 i97))), (fun (i98 : Nat) => (SC.int (g194 i98)))])) ∧
            (Exists (fun (g099 : (Nat →
            Int)) => (Exists (fun (g1100 : (Nat →
            Int)) => ((ro116 = ro116 ∧
            (tLeafN = tLeafN ∧
            [(fun (j101 : Nat) => (SC.int (if j101 = (Int.toNat leaf) then ((tLeafg04 (Int.toNat leaf)) + (1 : Int)) else (tLeafg04 j101)))), (fun (j102 : Nat) => (SC.int (if j102 = (Int.toNat ((leaf / (4 : Int)) * (4 : Int))) then (tagW key ((2000 : Int) + ((leaf / (4 : Int)) * (4 : Int))) (g081 (Int.toNat (((leaf / (4 : Int)) * (4 : Int)) / (4 : Int)))) (g087 (Int.toNat ((leaf / (4 : Int)) * (4 : Int))))) else (tLeafg15 j102))))] = [(fun (i103 : Nat) => (SC.int (g099 i103))), (fun (i104 : Nat) => (SC.int (g1100 i104)))])) ∧
            (((0 ≤ ((((leaf / (4 : Int)) * (4 : Int)) + (1 : Int)) / (4 : Int)) ∧ ((((leaf / (4 : Int)) * (4 : Int)) + (1 : Int)) / (4 : Int)) < ((tMidN : Nat) : Int)) ∧
            ((0 ≤ (((leaf / (4 : Int)) * (4 : Int)) + (1 : Int)) ∧ (((leaf / (4 : Int)) * (4 : Int)) + (1 : Int)) < ((tLeafN : Nat) : Int)) ∧
            (tagC (((leaf / (4 : Int)) * (4 : Int)) + (1 : Int))))) ∧
            (True ∧
            (ro116 = ro116 ∧
            (tLeafN = tLeafN ∧
            ((0 ≤ (((leaf / (4 : Int)) * (4 : Int)) + (1 : Int)) ∧ (((leaf / (4 : Int)) * (4 : Int)) + (1 : Int)) < ((tLeafN : Nat) : Int)) ∧
            (ro116 = ro116 ∧
            ((Int.toNat (((leaf / (4 : Int)) * (4 : Int)) + (1 : Int))) < tLeafN ∧
            (ro116 = ro116 ∧
            ((Int.toNat (((leaf / (4 : Int)) * (4 : Int)) + (1 : Int))) < tLeafN ∧
            (True ∧
            ((rng ((((leaf / (4 : Int)) * (4 : Int)) + (1 : Int)) + (1 : Int))) ∧
            ((rng ((leaf / (4 : Int)) + (1 : Int))) ∧
            ((rng (((leaf / (4 : Int)) + (1 : Int)) * (4 : Int))) ∧
            (((decide (((((leaf / (4 : Int)) * (4 : Int)) + (1 : Int)) + (1 : Int)) < (((leaf / (4 : Int)) + (1 : Int)) * (4 : Int)))) = Bool.true →
            (b18 = b18 ∧
             (b18 = b18 ∧
             (Exists (fun (g0105 : (Nat →
             Int)) => (Exists (fun (g1106 : (Nat →
             Int)) => ((ro014 = ro014 ∧
             (tMidN = tMidN ∧
             [(fun (j107 : Nat) => (SC.int (if j107 = (Int.toNat (leaf / (4 : Int))) then ((tMidg02 (Int.toNat (leaf / (4 : Int)))) + (1 : Int)) else (tMidg02 j107)))), (fun (j108 : Nat) => (SC.int (if j108 = 1 then (tagW key ((1000 : Int) + (1 : Int)) (tRoot + (1 : Int)) (g069 1)) else (if j108 = 0 then (tagW key ((1000 : Int) + (0 : Int)) (tRoot + (1 : Int)) (g063 0)) else (tMidg13 j108)))))] = [(fun (i109 : Nat) => (SC.int (g0105 i109))), (fun (i110 : Nat) => (SC.int (g1106 i110)))])) ∧
             (Exists (fun (g0111 : (Nat →
             Int)) => (Exists (fun (g1112 : (Nat →
             Int)) => ((ro116 = ro116 ∧
             (tLeafN = tLeafN ∧
             [(fun (j113 : Nat) => (SC.int (if j113 = (Int.toNat leaf) then ((tLeafg04 (Int.toNat leaf)) + (1 : Int)) else (tLeafg04 j113)))), (fun (j114 : Nat) => (SC.int (if j114 = (Int.toNat (((leaf / (4 : Int)) * (4 : Int)) + (1 : Int))) then (tagW key ((2000 : Int) + (((leaf / (4 : Int)) * (4 : Int)) + (1 : Int))) (g093 (Int.toNat ((((leaf / (4 : Int)) * (4 : Int)) + (1 : Int)) / (4 : Int)))) (g099 (Int.toNat (((leaf / (4 : Int)) * (4 : Int)) + (1 : Int))))) else (if j114 = (Int.toNat ((leaf / (4 : Int)) * (4 : Int))) then (tagW key ((2000 : Int) + ((leaf / (4 : Int)) * (4 : Int))) (g081 (Int.toNat (((leaf / (4 : Int)) * (4 : Int)) / (4 : Int)))) (g087 (Int.toNat ((leaf / (4 : Int)) * (4 : Int))))) else (tLeafg15 j114)))))] = [(fun (i115 : Nat) => (SC.int (g0111 i115))), (fun (i116 : Nat) => (SC.int (g1112 i116)))])) ∧
             (((0 ≤ (((((leaf / (4 : Int)) * (4 : Int)) + (1 : Int)) + (1 : Int)) / (4 : Int)) ∧ (((((leaf / (4 : Int)) * (4 : Int)) + (1 : Int)) + (1 : Int)) / (4 : Int)) < ((tMidN : Nat) : Int)) ∧
             ((0 ≤ ((((leaf / (4 : Int)) * (4 : Int)) + (1 : Int)) + (1 : Int)) ∧ ((((leaf / (4 : Int)) * (4 : Int)) + (1 : Int)) + (1 : Int)) < ((tLeafN : Nat) : Int)) ∧
             (tagC ((((leaf / (4 : Int)) * (4 : Int)) + (1 : Int)) + (1 : Int))))) ∧
             (True ∧
             (ro116 = ro116 ∧
             (tLeafN = tLeafN ∧
             ((0 ≤ ((((leaf / (4 : Int)) * (4 : Int)) + (1 : Int)) + (1 : Int)) ∧ ((((leaf / (4 : Int)) * (4 : Int)) + (1 : Int)) + (1 : Int)) < ((tLeafN : Nat) : Int)) ∧
             (ro116 = ro116 ∧
             ((Int.toNat ((((leaf / (4 : Int)) * (4 : Int)) + (1 : Int)) + (1 : Int))) < tLeafN ∧
             (ro116 = ro116 ∧
             ((Int.toNat ((((leaf / (4 : Int)) * (4 : Int)) + (1 : Int)) + (1 : Int))) < tLeafN ∧
             (True ∧
             ((rng (((((leaf / (4 : Int)) * (4 : Int)) + (1 : Int)) + (1 : Int)) + (1 : Int))) ∧
             ((rng ((leaf / (4 : Int)) + (1 : Int))) ∧
             ((rng (((leaf / (4 : Int)) + (1 : Int)) * (4 : Int))) ∧
             (((decide ((((((leaf / (4 : Int)) * (4 : Int)) + (1 : Int)) + (1 : Int)) + (1 : Int)) < (((leaf / (4 : Int)) + (1 : Int)) * (4 : Int)))) = Bool.true →
             (b18 = b18 ∧
              (b18 = b18 ∧
              (Exists (fun (g0117 : (Nat →
              Int)) => (Exists (fun (g1118 : (Nat →
              Int)) => ((ro014 = ro014 ∧
              (tMidN = tMidN ∧
              [(fun (j119 : Nat) => (SC.int (if j119 = (Int.toNat (leaf / (4 : Int))) then ((tMidg02 (Int.toNat (leaf / (4 : Int)))) + (1 : Int)) else (tMidg02 j119)))), (fun (j120 : Nat) => (SC.int (if j120 = 1 then (tagW key ((1000 : Int) + (1 : Int)) (tRoot + (1 : Int)) (g069 1)) else (if j120 = 0 then (tagW key ((1000 : Int) + (0 : Int)) (tRoot + (1 : Int)) (g063 0)) else (tMidg13 j120)))))] = [(fun (i121 : Nat) => (SC.int (g0117 i121))), (fun (i122 : Nat) => (SC.int (g1118 i122)))])) ∧
              (Exists (fun (g0123 : (Nat →
              Int)) => (Exists (fun (g1124 : (Nat →
              Int)) => ((ro116 = ro116 ∧
              (tLeafN = tLeafN ∧
              [(fun (j125 : Nat) => (SC.int (if j125 = (Int.toNat leaf) then ((tLeafg04 (Int.toNat leaf)) + (1 : Int)) else (tLeafg04 j125)))), (fun (j126 : Nat) => (SC.int (if j126 = (Int.toNat ((((leaf / (4 : Int)) * (4 : Int)) + (1 : Int)) + (1 : Int))) then (tagW key ((2000 : Int) + ((((leaf / (4 : Int)) * (4 : Int)) + (1 : Int)) + (1 : Int))) (g0105 (Int.toNat (((((leaf / (4 : Int)) * (4 : Int)) + (1 : Int)) + (1 : Int)) / (4 : Int)))) (g0111 (Int.toNat ((((leaf / (4 : Int)) * (4 : Int)) + (1 : Int)) + (1 : Int))))) else (if j126 = (Int.toNat (((leaf / (4 : Int)) * (4 : Int)) + (1 : Int))) then (tagW key ((2000 : Int) + (((leaf / (4 : Int)) * (4 : Int)) + (1 : Int))) (g093 (Int.toNat ((((leaf / (4 : Int)) * (4 : Int)) + (1 : Int)) / (4 : Int)))) (g099 (Int.toNat (((leaf / (4 : Int)) * (4 : Int)) + (1 : Int))))) else (if j126 = (Int.toNat ((leaf / (4 : Int)) * (4 : Int))) then (tagW key ((2000 : Int) + ((leaf / (4 : Int)) * (4 : Int))) (g081 (Int.toNat (((leaf / (4 : Int)) * (4 : Int)) / (4 : Int)))) (g087 (Int.toNat ((leaf / (4 : Int)) * (4 : Int))))) else (tLeafg15 j126))))))] = [(fun (i127 : Nat) => (SC.int (g0123 i127))), (fun (i128 : Nat) => (SC.int (g1124 i128)))])) ∧
              (((0 ≤ ((((((leaf / (4 : Int)) * (4 : Int)) + (1 : Int)) + (1 : Int)) + (1 : Int)) / (4 : Int)) ∧ ((((((leaf / (4 : Int)) * (4 : Int)) + (1 : Int)) + (1 : Int)) + (1 : Int)) / (4 : Int)) < ((tMidN : Nat) : Int)) ∧
              ((0 ≤ (((((leaf / (4 : Int)) * (4 : Int)) + (1 : Int)) + (1 : Int)) + (1 : Int)) ∧ (((((leaf / (4 : Int)) * (4 : Int)) + (1 : Int)) + (1 : Int)) + (1 : Int)) < ((tLeafN : Nat) : Int)) ∧
              (tagC (((((leaf / (4 : Int)) * (4 : Int)) + (1 : Int)) + (1 : Int)) + (1 : Int))))) ∧
              (True ∧
              (ro116 = ro116 ∧
              (tLeafN = tLeafN ∧
              ((0 ≤ (((((leaf / (4 : Int)) * (4 : Int)) + (1 : Int)) + (1 : Int)) + (1 : Int)) ∧ (((((leaf / (4 : Int)) * (4 : Int)) + (1 : Int)) + (1 : Int)) + (1 : Int)) < ((tLeafN : Nat) : Int)) ∧
              (ro116 = ro116 ∧
              ((Int.toNat (((((leaf / (4 : Int)) * (4 : Int)) + (1 : Int)) + (1 : Int)) + (1 : Int))) < tLeafN ∧
              (ro116 = ro116 ∧
              ((Int.toNat (((((leaf / (4 : Int)) * (4 : Int)) + (1 : Int)) + (1 : Int)) + (1 : Int))) < tLeafN ∧
              (True ∧
              ((rng ((((((leaf / (4 : Int)) * (4 : Int)) + (1 : Int)) + (1 : Int)) + (1 : Int)) + (1 : Int))) ∧
              ((rng ((leaf / (4 : Int)) + (1 : Int))) ∧
              ((rng (((leaf / (4 : Int)) + (1 : Int)) * (4 : Int))) ∧
              (((decide (((((((leaf / (4 : Int)) * (4 : Int)) + (1 : Int)) + (1 : Int)) + (1 : Int)) + (1 : Int)) < (((leaf / (4 : Int)) + (1 : Int)) * (4 : Int)))) = Bool.true →
              (b18 = b18 ∧
               (b18 = b18 ∧
               (Exists (fun (g0129 : (Nat →
               Int)) => (Exists (fun (g1130 : (Nat →
               Int)) => ((ro014 = ro014 ∧
               (tMidN = tMidN ∧
               [(fun (j131 : Nat) => (SC.int (if j131 = (Int.toNat (leaf / (4 : Int))) then ((tMidg02 (Int.toNat (leaf / (4 : Int)))) + (1 : Int)) else (tMidg02 j131)))), (fun (j132 : Nat) => (SC.int (if j132 = 1 then (tagW key ((1000 : Int) + (1 : Int)) (tRoot + (1 : Int)) (g069 1)) else (if j132 = 0 then (tagW key ((1000 : Int) + (0 : Int)) (tRoot + (1 : Int)) (g063 0)) else (tMidg13 j132)))))] = [(fun (i133 : Nat) => (SC.int (g0129 i133))), (fun (i134 : Nat) => (SC.int (g1130 i134)))])) ∧
               (Exists (fun (g0135 : (Nat →
               Int)) => (Exists (fun (g1136 : (Nat →
               Int)) => ((ro116 = ro116 ∧
               (tLeafN = tLeafN ∧
               [(fun (j137 : Nat) => (SC.int (if j137 = (Int.toNat leaf) then ((tLeafg04 (Int.toNat leaf)) + (1 : Int)) else (tLeafg04 j137)))), (fun (j138 : Nat) => (SC.int (if j138 = (Int.toNat (((((leaf / (4 : Int)) * (4 : Int)) + (1 : Int)) + (1 : Int)) + (1 : Int))) then (tagW key ((2000 : Int) + (((((leaf / (4 : Int)) * (4 : Int)) + (1 : Int)) + (1 : Int)) + (1 : Int))) (g0117 (Int.toNat ((((((leaf / (4 : Int)) * (4 : Int)) + (1 : Int)) + (1 : Int)) + (1 : Int)) / (4 : Int)))) (g0123 (Int.toNat (((((leaf / (4 : Int)) * (4 : Int)) + (1 : Int)) + (1 : Int)) + (1 : Int))))) else (if j138 = (Int.toNat ((((leaf / (4 : Int)) * (4 : Int)) + (1 : Int)) + (1 : Int))) then (tagW key ((2000 : Int) + ((((leaf / (4 : Int)) * (4 : Int)) + (1 : Int)) + (1 : Int))) (g0105 (Int.toNat (((((leaf / (4 : Int)) * (4 : Int)) + (1 : Int)) + (1 : Int)) / (4 : Int)))) (g0111 (Int.toNat ((((leaf / (4 : Int)) * (4 : Int)) + (1 : Int)) + (1 : Int))))) else (if j138 = (Int.toNat (((leaf / (4 : Int)) * (4 : Int)) + (1 : Int))) then (tagW key ((2000 : Int) + (((leaf / (4 : Int)) * (4 : Int)) + (1 : Int))) (g093 (Int.toNat ((((leaf / (4 : Int)) * (4 : Int)) + (1 : Int)) / (4 : Int)))) (g099 (Int.toNat (((leaf / (4 : Int)) * (4 : Int)) + (1 : Int))))) else (if j138 = (Int.toNat ((leaf / (4 : Int)) * (4 : Int))) then (tagW key ((2000 : Int) + ((leaf / (4 : Int)) * (4 : Int))) (g081 (Int.toNat (((leaf / (4 : Int)) * (4 : Int)) / (4 : Int)))) (g087 (Int.toNat ((leaf / (4 : Int)) * (4 : Int))))) else (tLeafg15 j138)))))))] = [(fun (i139 : Nat) => (SC.int (g0135 i139))), (fun (i140 : Nat) => (SC.int (g1136 i140)))])) ∧
               (((0 ≤ (((((((leaf / (4 : Int)) * (4 : Int)) + (1 : Int)) + (1 : Int)) + (1 : Int)) + (1 : Int)) / (4 : Int)) ∧ (((((((leaf / (4 : Int)) * (4 : Int)) + (1 : Int)) + (1 : Int)) + (1 : Int)) + (1 : Int)) / (4 : Int)) < ((tMidN : Nat) : Int)) ∧
               ((0 ≤ ((((((leaf / (4 : Int)) * (4 : Int)) + (1 : Int)) + (1 : Int)) + (1 : Int)) + (1 : Int)) ∧ ((((((leaf / (4 : Int)) * (4 : Int)) + (1 : Int)) + (1 : Int)) + (1 : Int)) + (1 : Int)) < ((tLeafN : Nat) : Int)) ∧
               (tagC ((((((leaf / (4 : Int)) * (4 : Int)) + (1 : Int)) + (1 : Int)) + (1 : Int)) + (1 : Int))))) ∧
               (True ∧
               (ro116 = ro116 ∧
               (tLeafN = tLeafN ∧
               ((0 ≤ ((((((leaf / (4 : Int)) * (4 : Int)) + (1 : Int)) + (1 : Int)) + (1 : Int)) + (1 : Int)) ∧ ((((((leaf / (4 : Int)) * (4 : Int)) + (1 : Int)) + (1 : Int)) + (1 : Int)) + (1 : Int)) < ((tLeafN : Nat) : Int)) ∧
               (ro116 = ro116 ∧
               ((Int.toNat ((((((leaf / (4 : Int)) * (4 : Int)) + (1 : Int)) + (1 : Int)) + (1 : Int)) + (1 : Int))) < tLeafN ∧
               (ro116 = ro116 ∧
               ((Int.toNat ((((((leaf / (4 : Int)) * (4 : Int)) + (1 : Int)) + (1 : Int)) + (1 : Int)) + (1 : Int))) < tLeafN ∧
               (True ∧
               ((rng (((((((leaf / (4 : Int)) * (4 : Int)) + (1 : Int)) + (1 : Int)) + (1 : Int)) + (1 : Int)) + (1 : Int))) ∧
               False)))))))))))))))))))))))) ∧
              ((decide (((((((leaf / (4 : Int)) * (4 : Int)) + (1 : Int)) + (1 : Int)) + (1 : Int)) + (1 : Int)) < (((leaf / (4 : Int)) + (1 : Int)) * (4 : Int)))) = Bool.false →
              (b18 = b18 ∧
               (b1 = b1 ∧
               (b1 = b1 ∧
               (Exists (fun (ro0141 : (Option Addr)) => (Exists (fun (rc0142 : Nat) => (Exists (fun (ro1143 : (Option Addr)) => (Exists (fun (rc1144 : Nat) => ((Value.tuple (List.toArray [(Value.agg (List.toArray [(Value.int IntKind.i64 (tRoot + (1 : Int))), (Value.slice ro014 tMidN rc015), (Value.slice ro116 tLeafN rc117)])), (Value.bool Bool.true)])) = (Value.tuple (List.toArray [(Value.agg (List.toArray [(Value.int IntKind.i64 (bR key tRoot tMidN tLeafN tMidg0 tMidg1 tLeafg0 tLeafg1 leaf)), (Value.slice ro0141 tMidN rc0142), (Value.slice ro1143 tLeafN rc1144)])), (Value.bool (bOk key tRoot tMidN tLeafN tMidg0 tMidg1 tLeafg0 tLeafg1 leaf))])) ∧
               (((Bool.true = Bool.true ∧
               (ro014 = ro0141 ∧
               (37 = 37 ∧
               (2 = 2 ∧
               (tMidN = tMidN ∧
               (rc015 = rc0142 ∧
               ((∀ i145 : Nat,
               (i145 < tMidN →
               (Value.int IntKind.i64 (if i145 = (Int.toNat (leaf / (4 : Int))) then ((tMidg02 (Int.toNat (leaf / (4 : Int)))) + (1 : Int)) else (tMidg02 i145))) = (Value.int IntKind.i64 (bMc key tRoot tMidN tLeafN tMidg0 tMidg1 tLeafg0 tLeafg1 leaf i145)))) ∧
               ((∀ i146 : Nat,
               (i146 < tMidN →
               (Value.int IntKind.i64 (if i146 = 1 then (tagW key ((1000 : Int) + (1 : Int)) (tRoot + (1 : Int)) (g069 1)) else (if i146 = 0 then (tagW key ((1000 : Int) + (0 : Int)) (tRoot + (1 : Int)) (g063 0)) else (tMidg13 i146)))) = (Value.int IntKind.i64 (bMt key tRoot tMidN tLeafN tMidg0 tMidg1 tLeafg0 tLeafg1 leaf i146)))) ∧
               True)))))))) ∧
               ((Bool.true = Bool.true ∧
               (ro116 = ro1143 ∧
               (37 = 37 ∧
               (2 = 2 ∧
               (tLeafN = tLeafN ∧
               (rc117 = rc1144 ∧
               ((∀ i147 : Nat,
               (i147 < tLeafN →
               (Value.int IntKind.i64 (if i147 = (Int.toNat leaf) then ((tLeafg04 (Int.toNat leaf)) + (1 : Int)) else (tLeafg04 i147))) = (Value.int IntKind.i64 (bLc key tRoot tMidN tLeafN tMidg0 tMidg1 tLeafg0 tLeafg1 leaf i147)))) ∧
               ((∀ i148 : Nat,
               (i148 < tLeafN →
               (Value.int IntKind.i64 (if i148 = (Int.toNat (((((leaf / (4 : Int)) * (4 : Int)) + (1 : Int)) + (1 : Int)) + (1 : Int))) then (tagW key ((2000 : Int) + (((((leaf / (4 : Int)) * (4 : Int)) + (1 : Int)) + (1 : Int)) + (1 : Int))) (g0117 (Int.toNat ((((((leaf / (4 : Int)) * (4 : Int)) + (1 : Int)) + (1 : Int)) + (1 : Int)) / (4 : Int)))) (g0123 (Int.toNat (((((leaf / (4 : Int)) * (4 : Int)) + (1 : Int)) + (1 : Int)) + (1 : Int))))) else (if i148 = (Int.toNat ((((leaf / (4 : Int)) * (4 : Int)) + (1 : Int)) + (1 : Int))) then (tagW key ((2000 : Int) + ((((leaf / (4 : Int)) * (4 : Int)) + (1 : Int)) + (1 : Int))) (g0105 (Int.toNat (((((leaf / (4 : Int)) * (4 : Int)) + (1 : Int)) + (1 : Int)) / (4 : Int)))) (g0111 (Int.toNat ((((leaf / (4 : Int)) * (4 : Int)) + (1 : Int)) + (1 : Int))))) else (if i148 = (Int.toNat (((leaf / (4 : Int)) * (4 : Int)) + (1 : Int))) then (tagW key ((2000 : Int) + (((leaf / (4 : Int)) * (4 : Int)) + (1 : Int))) (g093 (Int.toNat ((((leaf / (4 : Int)) * (4 : Int)) + (1 : Int)) / (4 : Int)))) (g099 (Int.toNat (((leaf / (4 : Int)) * (4 : Int)) + (1 : Int))))) else (if i148 = (Int.toNat ((leaf / (4 : Int)) * (4 : Int))) then (tagW key ((2000 : Int) + ((leaf / (4 : Int)) * (4 : Int))) (g081 (Int.toNat (((leaf / (4 : Int)) * (4 : Int)) / (4 : Int)))) (g087 (Int.toNat ((leaf / (4 : Int)) * (4 : Int))))) else (tLeafg15 i148)))))) = (Value.int IntKind.i64 (bLt key tRoot tMidN tLeafN tMidg0 tMidg1 tLeafg0 tLeafg1 leaf i148)))) ∧
               True)))))))) ∧
               True)) ∧
               Bool.true = Bool.true))))))))))))))))))))))))))))))))))))))))) ∧
             ((decide ((((((leaf / (4 : Int)) * (4 : Int)) + (1 : Int)) + (1 : Int)) + (1 : Int)) < (((leaf / (4 : Int)) + (1 : Int)) * (4 : Int)))) = Bool.false →
             (b18 = b18 ∧
              (b1 = b1 ∧
              (b1 = b1 ∧
              (Exists (fun (ro0149 : (Option Addr)) => (Exists (fun (rc0150 : Nat) => (Exists (fun (ro1151 : (Option Addr)) => (Exists (fun (rc1152 : Nat) => ((Value.tuple (List.toArray [(Value.agg (List.toArray [(Value.int IntKind.i64 (tRoot + (1 : Int))), (Value.slice ro014 tMidN rc015), (Value.slice ro116 tLeafN rc117)])), (Value.bool Bool.true)])) = (Value.tuple (List.toArray [(Value.agg (List.toArray [(Value.int IntKind.i64 (bR key tRoot tMidN tLeafN tMidg0 tMidg1 tLeafg0 tLeafg1 leaf)), (Value.slice ro0149 tMidN rc0150), (Value.slice ro1151 tLeafN rc1152)])), (Value.bool (bOk key tRoot tMidN tLeafN tMidg0 tMidg1 tLeafg0 tLeafg1 leaf))])) ∧
              (((Bool.true = Bool.true ∧
              (ro014 = ro0149 ∧
              (37 = 37 ∧
              (2 = 2 ∧
              (tMidN = tMidN ∧
              (rc015 = rc0150 ∧
              ((∀ i153 : Nat,
              (i153 < tMidN →
              (Value.int IntKind.i64 (if i153 = (Int.toNat (leaf / (4 : Int))) then ((tMidg02 (Int.toNat (leaf / (4 : Int)))) + (1 : Int)) else (tMidg02 i153))) = (Value.int IntKind.i64 (bMc key tRoot tMidN tLeafN tMidg0 tMidg1 tLeafg0 tLeafg1 leaf i153)))) ∧
              ((∀ i154 : Nat,
              (i154 < tMidN →
              (Value.int IntKind.i64 (if i154 = 1 then (tagW key ((1000 : Int) + (1 : Int)) (tRoot + (1 : Int)) (g069 1)) else (if i154 = 0 then (tagW key ((1000 : Int) + (0 : Int)) (tRoot + (1 : Int)) (g063 0)) else (tMidg13 i154)))) = (Value.int IntKind.i64 (bMt key tRoot tMidN tLeafN tMidg0 tMidg1 tLeafg0 tLeafg1 leaf i154)))) ∧
              True)))))))) ∧
              ((Bool.true = Bool.true ∧
              (ro116 = ro1151 ∧
              (37 = 37 ∧
              (2 = 2 ∧
              (tLeafN = tLeafN ∧
              (rc117 = rc1152 ∧
              ((∀ i155 : Nat,
              (i155 < tLeafN →
              (Value.int IntKind.i64 (if i155 = (Int.toNat leaf) then ((tLeafg04 (Int.toNat leaf)) + (1 : Int)) else (tLeafg04 i155))) = (Value.int IntKind.i64 (bLc key tRoot tMidN tLeafN tMidg0 tMidg1 tLeafg0 tLeafg1 leaf i155)))) ∧
              ((∀ i156 : Nat,
              (i156 < tLeafN →
              (Value.int IntKind.i64 (if i156 = (Int.toNat ((((leaf / (4 : Int)) * (4 : Int)) + (1 : Int)) + (1 : Int))) then (tagW key ((2000 : Int) + ((((leaf / (4 : Int)) * (4 : Int)) + (1 : Int)) + (1 : Int))) (g0105 (Int.toNat (((((leaf / (4 : Int)) * (4 : Int)) + (1 : Int)) + (1 : Int)) / (4 : Int)))) (g0111 (Int.toNat ((((leaf / (4 : Int)) * (4 : Int)) + (1 : Int)) + (1 : Int))))) else (if i156 = (Int.toNat (((leaf / (4 : Int)) * (4 : Int)) + (1 : Int))) then (tagW key ((2000 : Int) + (((leaf / (4 : Int)) * (4 : Int)) + (1 : Int))) (g093 (Int.toNat ((((leaf / (4 : Int)) * (4 : Int)) + (1 : Int)) / (4 : Int)))) (g099 (Int.toNat (((leaf / (4 : Int)) * (4 : Int)) + (1 : Int))))) else (if i156 = (Int.toNat ((leaf / (4 : Int)) * (4 : Int))) then (tagW key ((2000 : Int) + ((leaf / (4 : Int)) * (4 : Int))) (g081 (Int.toNat (((leaf / (4 : Int)) * (4 : Int)) / (4 : Int)))) (g087 (Int.toNat ((leaf / (4 : Int)) * (4 : Int))))) else (tLeafg15 i156))))) = (Value.int IntKind.i64 (bLt key tRoot tMidN tLeafN tMidg0 tMidg1 tLeafg0 tLeafg1 leaf i156)))) ∧
              True)))))))) ∧
              True)) ∧
              Bool.true = Bool.true))))))))))))))))))))))))))))))))))))))))) ∧
            ((decide (((((leaf / (4 : Int)) * (4 : Int)) + (1 : Int)) + (1 : Int)) < (((leaf / (4 : Int)) + (1 : Int)) * (4 : Int)))) = Bool.false →
            (b18 = b18 ∧
             (b1 = b1 ∧
             (b1 = b1 ∧
             (Exists (fun (ro0157 : (Option Addr)) => (Exists (fun (rc0158 : Nat) => (Exists (fun (ro1159 : (Option Addr)) => (Exists (fun (rc1160 : Nat) => ((Value.tuple (List.toArray [(Value.agg (List.toArray [(Value.int IntKind.i64 (tRoot + (1 : Int))), (Value.slice ro014 tMidN rc015), (Value.slice ro116 tLeafN rc117)])), (Value.bool Bool.true)])) = (Value.tuple (List.toArray [(Value.agg (List.toArray [(Value.int IntKind.i64 (bR key tRoot tMidN tLeafN tMidg0 tMidg1 tLeafg0 tLeafg1 leaf)), (Value.slice ro0157 tMidN rc0158), (Value.slice ro1159 tLeafN rc1160)])), (Value.bool (bOk key tRoot tMidN tLeafN tMidg0 tMidg1 tLeafg0 tLeafg1 leaf))])) ∧
             (((Bool.true = Bool.true ∧
             (ro014 = ro0157 ∧
             (37 = 37 ∧
             (2 = 2 ∧
             (tMidN = tMidN ∧
             (rc015 = rc0158 ∧
             ((∀ i161 : Nat,
             (i161 < tMidN →
             (Value.int IntKind.i64 (if i161 = (Int.toNat (leaf / (4 : Int))) then ((tMidg02 (Int.toNat (leaf / (4 : Int)))) + (1 : Int)) else (tMidg02 i161))) = (Value.int IntKind.i64 (bMc key tRoot tMidN tLeafN tMidg0 tMidg1 tLeafg0 tLeafg1 leaf i161)))) ∧
             ((∀ i162 : Nat,
             (i162 < tMidN →
             (Value.int IntKind.i64 (if i162 = 1 then (tagW key ((1000 : Int) + (1 : Int)) (tRoot + (1 : Int)) (g069 1)) else (if i162 = 0 then (tagW key ((1000 : Int) + (0 : Int)) (tRoot + (1 : Int)) (g063 0)) else (tMidg13 i162)))) = (Value.int IntKind.i64 (bMt key tRoot tMidN tLeafN tMidg0 tMidg1 tLeafg0 tLeafg1 leaf i162)))) ∧
             True)))))))) ∧
             ((Bool.true = Bool.true ∧
             (ro116 = ro1159 ∧
             (37 = 37 ∧
             (2 = 2 ∧
             (tLeafN = tLeafN ∧
             (rc117 = rc1160 ∧
             ((∀ i163 : Nat,
             (i163 < tLeafN →
             (Value.int IntKind.i64 (if i163 = (Int.toNat leaf) then ((tLeafg04 (Int.toNat leaf)) + (1 : Int)) else (tLeafg04 i163))) = (Value.int IntKind.i64 (bLc key tRoot tMidN tLeafN tMidg0 tMidg1 tLeafg0 tLeafg1 leaf i163)))) ∧
             ((∀ i164 : Nat,
             (i164 < tLeafN →
             (Value.int IntKind.i64 (if i164 = (Int.toNat (((leaf / (4 : Int)) * (4 : Int)) + (1 : Int))) then (tagW key ((2000 : Int) + (((leaf / (4 : Int)) * (4 : Int)) + (1 : Int))) (g093 (Int.toNat ((((leaf / (4 : Int)) * (4 : Int)) + (1 : Int)) / (4 : Int)))) (g099 (Int.toNat (((leaf / (4 : Int)) * (4 : Int)) + (1 : Int))))) else (if i164 = (Int.toNat ((leaf / (4 : Int)) * (4 : Int))) then (tagW key ((2000 : Int) + ((leaf / (4 : Int)) * (4 : Int))) (g081 (Int.toNat (((leaf / (4 : Int)) * (4 : Int)) / (4 : Int)))) (g087 (Int.toNat ((leaf / (4 : Int)) * (4 : Int))))) else (tLeafg15 i164)))) = (Value.int IntKind.i64 (bLt key tRoot tMidN tLeafN tMidg0 tMidg1 tLeafg0 tLeafg1 leaf i164)))) ∧
             True)))))))) ∧
             True)) ∧
             Bool.true = Bool.true))))))))))))))))))))))))))))))))))))))))) ∧
           ((decide ((((leaf / (4 : Int)) * (4 : Int)) + (1 : Int)) < (((leaf / (4 : Int)) + (1 : Int)) * (4 : Int)))) = Bool.false →
           (b18 = b18 ∧
            (b1 = b1 ∧
            (b1 = b1 ∧
            (Exists (fun (ro0165 : (Option Addr)) => (Exists (fun (rc0166 : Nat) => (Exists (fun (ro1167 : (Option Addr)) => (Exists (fun (rc1168 : Nat) => ((Value.tuple (List.toArray [(Value.agg (List.toArray [(Value.int IntKind.i64 (tRoot + (1 : Int))), (Value.slice ro014 tMidN rc015), (Value.slice ro116 tLeafN rc117)])), (Value.bool Bool.true)])) = (Value.tuple (List.toArray [(Value.agg (List.toArray [(Value.int IntKind.i64 (bR key tRoot tMidN tLeafN tMidg0 tMidg1 tLeafg0 tLeafg1 leaf)), (Value.slice ro0165 tMidN rc0166), (Value.slice ro1167 tLeafN rc1168)])), (Value.bool (bOk key tRoot tMidN tLeafN tMidg0 tMidg1 tLeafg0 tLeafg1 leaf))])) ∧
            (((Bool.true = Bool.true ∧
            (ro014 = ro0165 ∧
            (37 = 37 ∧
            (2 = 2 ∧
            (tMidN = tMidN ∧
            (rc015 = rc0166 ∧
            ((∀ i169 : Nat,
            (i169 < tMidN →
            (Value.int IntKind.i64 (if i169 = (Int.toNat (leaf / (4 : Int))) then ((tMidg02 (Int.toNat (leaf / (4 : Int)))) + (1 : Int)) else (tMidg02 i169))) = (Value.int IntKind.i64 (bMc key tRoot tMidN tLeafN tMidg0 tMidg1 tLeafg0 tLeafg1 leaf i169)))) ∧
            ((∀ i170 : Nat,
            (i170 < tMidN →
            (Value.int IntKind.i64 (if i170 = 1 then (tagW key ((1000 : Int) + (1 : Int)) (tRoot + (1 : Int)) (g069 1)) else (if i170 = 0 then (tagW key ((1000 : Int) + (0 : Int)) (tRoot + (1 : Int)) (g063 0)) else (tMidg13 i170)))) = (Value.int IntKind.i64 (bMt key tRoot tMidN tLeafN tMidg0 tMidg1 tLeafg0 tLeafg1 leaf i170)))) ∧
            True)))))))) ∧
            ((Bool.true = Bool.true ∧
            (ro116 = ro1167 ∧
            (37 = 37 ∧
            (2 = 2 ∧
            (tLeafN = tLeafN ∧
            (rc117 = rc1168 ∧
            ((∀ i171 : Nat,
            (i171 < tLeafN →
            (Value.int IntKind.i64 (if i171 = (Int.toNat leaf) then ((tLeafg04 (Int.toNat leaf)) + (1 : Int)) else (tLeafg04 i171))) = (Value.int IntKind.i64 (bLc key tRoot tMidN tLeafN tMidg0 tMidg1 tLeafg0 tLeafg1 leaf i171)))) ∧
            ((∀ i172 : Nat,
            (i172 < tLeafN →
            (Value.int IntKind.i64 (if i172 = (Int.toNat ((leaf / (4 : Int)) * (4 : Int))) then (tagW key ((2000 : Int) + ((leaf / (4 : Int)) * (4 : Int))) (g081 (Int.toNat (((leaf / (4 : Int)) * (4 : Int)) / (4 : Int)))) (g087 (Int.toNat ((leaf / (4 : Int)) * (4 : Int))))) else (tLeafg15 i172))) = (Value.int IntKind.i64 (bLt key tRoot tMidN tLeafN tMidg0 tMidg1 tLeafg0 tLeafg1 leaf i172)))) ∧
            True)))))))) ∧
            True)) ∧
            Bool.true = Bool.true))))))))))))))))))))))))))))))))))))))))) ∧
          ((decide (((leaf / (4 : Int)) * (4 : Int)) < (((leaf / (4 : Int)) + (1 : Int)) * (4 : Int)))) = Bool.false →
          (b18 = b18 ∧
           (b1 = b1 ∧
           (b1 = b1 ∧
           (Exists (fun (ro0173 : (Option Addr)) => (Exists (fun (rc0174 : Nat) => (Exists (fun (ro1175 : (Option Addr)) => (Exists (fun (rc1176 : Nat) => ((Value.tuple (List.toArray [(Value.agg (List.toArray [(Value.int IntKind.i64 (tRoot + (1 : Int))), (Value.slice ro014 tMidN rc015), (Value.slice ro116 tLeafN rc117)])), (Value.bool Bool.true)])) = (Value.tuple (List.toArray [(Value.agg (List.toArray [(Value.int IntKind.i64 (bR key tRoot tMidN tLeafN tMidg0 tMidg1 tLeafg0 tLeafg1 leaf)), (Value.slice ro0173 tMidN rc0174), (Value.slice ro1175 tLeafN rc1176)])), (Value.bool (bOk key tRoot tMidN tLeafN tMidg0 tMidg1 tLeafg0 tLeafg1 leaf))])) ∧
           (((Bool.true = Bool.true ∧
           (ro014 = ro0173 ∧
           (37 = 37 ∧
           (2 = 2 ∧
           (tMidN = tMidN ∧
           (rc015 = rc0174 ∧
           ((∀ i177 : Nat,
           (i177 < tMidN →
           (Value.int IntKind.i64 (if i177 = (Int.toNat (leaf / (4 : Int))) then ((tMidg02 (Int.toNat (leaf / (4 : Int)))) + (1 : Int)) else (tMidg02 i177))) = (Value.int IntKind.i64 (bMc key tRoot tMidN tLeafN tMidg0 tMidg1 tLeafg0 tLeafg1 leaf i177)))) ∧
           ((∀ i178 : Nat,
           (i178 < tMidN →
           (Value.int IntKind.i64 (if i178 = 1 then (tagW key ((1000 : Int) + (1 : Int)) (tRoot + (1 : Int)) (g069 1)) else (if i178 = 0 then (tagW key ((1000 : Int) + (0 : Int)) (tRoot + (1 : Int)) (g063 0)) else (tMidg13 i178)))) = (Value.int IntKind.i64 (bMt key tRoot tMidN tLeafN tMidg0 tMidg1 tLeafg0 tLeafg1 leaf i178)))) ∧
           True)))))))) ∧
           ((Bool.true = Bool.true ∧
           (ro116 = ro1175 ∧
           (37 = 37 ∧
           (2 = 2 ∧
           (tLeafN = tLeafN ∧
           (rc117 = rc1176 ∧
           ((∀ i179 : Nat,
           (i179 < tLeafN →
           (Value.int IntKind.i64 (if i179 = (Int.toNat leaf) then ((tLeafg04 (Int.toNat leaf)) + (1 : Int)) else (tLeafg04 i179))) = (Value.int IntKind.i64 (bLc key tRoot tMidN tLeafN tMidg0 tMidg1 tLeafg0 tLeafg1 leaf i179)))) ∧
           ((∀ i180 : Nat,
           (i180 < tLeafN →
           (Value.int IntKind.i64 (tLeafg15 i180)) = (Value.int IntKind.i64 (bLt key tRoot tMidN tLeafN tMidg0 tMidg1 tLeafg0 tLeafg1 leaf i180)))) ∧
           True)))))))) ∧
           True)) ∧
           Bool.true = Bool.true)))))))))))))))))))))))))))))))))))))) ∧
        ((decide ((1 : Int) < ((tMidN : Nat) : Int))) = Bool.false →
        ((rng ((leaf / (4 : Int)) * (4 : Int))) ∧
         ((rng ((leaf / (4 : Int)) + (1 : Int))) ∧
         ((rng (((leaf / (4 : Int)) + (1 : Int)) * (4 : Int))) ∧
         (((decide (((leaf / (4 : Int)) * (4 : Int)) < (((leaf / (4 : Int)) + (1 : Int)) * (4 : Int)))) = Bool.true →
         (b18 = b18 ∧
          (b18 = b18 ∧
          (Exists (fun (g0181 : (Nat →
          Int)) => (Exists (fun (g1182 : (Nat →
          Int)) => ((ro014 = ro014 ∧
          (tMidN = tMidN ∧
          [(fun (j183 : Nat) => (SC.int (if j183 = (Int.toNat (leaf / (4 : Int))) then ((tMidg02 (Int.toNat (leaf / (4 : Int)))) + (1 : Int)) else (tMidg02 j183)))), (fun (j184 : Nat) => (SC.int (if j184 = 0 then (tagW key ((1000 : Int) + (0 : Int)) (tRoot + (1 : Int)) (g063 0)) else (tMidg13 j184))))] = [(fun (i185 : Nat) => (SC.int (g0181 i185))), (fun (i186 : Nat) => (SC.int (g1182 i186)))])) ∧
          (Exists (fun (g0187 : (Nat →
          Int)) => (Exists (fun (g1188 : (Nat →
          Int)) => ((ro116 = ro116 ∧
          (tLeafN = tLeafN ∧
          [(fun (j189 : Nat) => (SC.int (if j189 = (Int.toNat leaf) then ((tLeafg04 (Int.toNat leaf)) + (1 : Int)) else (tLeafg04 j189)))), (fun (i190 : Nat) => (SC.int (tLeafg15 i190)))] = [(fun (i191 : Nat) => (SC.int (g0187 i191))), (fun (i192 : Nat) => (SC.int (g1188 i192)))])) ∧
          (((0 ≤ (((leaf / (4 : Int)) * (4 : Int)) / (4 : Int)) ∧ (((leaf / (4 : Int)) * (4 : Int)) / (4 : Int)) < ((tMidN : Nat) : Int)) ∧
          ((0 ≤ ((leaf / (4 : Int)) * (4 : Int)) ∧ ((leaf / (4 : Int)) * (4 : Int)) < ((tLeafN : Nat) : Int)) ∧
          (tagC ((leaf / (4 : Int)) * (4 : Int))))) ∧
          (True ∧
          (ro116 = ro116 ∧
          (tLeafN = tLeafN ∧
          ((0 ≤ ((leaf / (4 : Int)) * (4 : Int)) ∧ ((leaf / (4 : Int)) * (4 : Int)) < ((tLeafN : Nat) : Int)) ∧
          (ro116 = ro116 ∧
          ((Int.toNat ((leaf / (4 : Int)) * (4 : Int))) < tLeafN ∧
          (ro116 = ro116 ∧
          ((Int.toNat ((leaf / (4 : Int)) * (4 : Int))) < tLeafN ∧
          (True ∧
          ((rng (((leaf / (4 : Int)) * (4 : Int)) + (1 : Int))) ∧
          ((rng ((leaf / (4 : Int)) + (1 : Int))) ∧
          ((rng (((leaf / (4 : Int)) + (1 : Int)) * (4 : Int))) ∧
          (((decide ((((leaf / (4 : Int)) * (4 : Int)) + (1 : Int)) < (((leaf / (4 : Int)) + (1 : Int)) * (4 : Int)))) = Bool.true →
          (b18 = b18 ∧
           (b18 = b18 ∧
           (Exists (fun (g0193 : (Nat →
           Int)) => (Exists (fun (g1194 : (Nat →
           Int)) => ((ro014 = ro014 ∧
           (tMidN = tMidN ∧
           [(fun (j195 : Nat) => (SC.int (if j195 = (Int.toNat (leaf / (4 : Int))) then ((tMidg02 (Int.toNat (leaf / (4 : Int)))) + (1 : Int)) else (tMidg02 j195)))), (fun (j196 : Nat) => (SC.int (if j196 = 0 then (tagW key ((1000 : Int) + (0 : Int)) (tRoot + (1 : Int)) (g063 0)) else (tMidg13 j196))))] = [(fun (i197 : Nat) => (SC.int (g0193 i197))), (fun (i198 : Nat) => (SC.int (g1194 i198)))])) ∧
           (Exists (fun (g0199 : (Nat →
           Int)) => (Exists (fun (g1200 : (Nat →
           Int)) => ((ro116 = ro116 ∧
           (tLeafN = tLeafN ∧
           [(fun (j201 : Nat) => (SC.int (if j201 = (Int.toNat leaf) then ((tLeafg04 (Int.toNat leaf)) + (1 : Int)) else (tLeafg04 j201)))), (fun (j202 : Nat) => (SC.int (if j202 = (Int.toNat ((leaf / (4 : Int)) * (4 : Int))) then (tagW key ((2000 : Int) + ((leaf / (4 : Int)) * (4 : Int))) (g0181 (Int.toNat (((leaf / (4 : Int)) * (4 : Int)) / (4 : Int)))) (g0187 (Int.toNat ((leaf / (4 : Int)) * (4 : Int))))) else (tLeafg15 j202))))] = [(fun (i203 : Nat) => (SC.int (g0199 i203))), (fun (i204 : Nat) => (SC.int (g1200 i204)))])) ∧
           (((0 ≤ ((((leaf / (4 : Int)) * (4 : Int)) + (1 : Int)) / (4 : Int)) ∧ ((((leaf / (4 : Int)) * (4 : Int)) + (1 : Int)) / (4 : Int)) < ((tMidN : Nat) : Int)) ∧
           ((0 ≤ (((leaf / (4 : Int)) * (4 : Int)) + (1 : Int)) ∧ (((leaf / (4 : Int)) * (4 : Int)) + (1 : Int)) < ((tLeafN : Nat) : Int)) ∧
           (tagC (((leaf / (4 : Int)) * (4 : Int)) + (1 : Int))))) ∧
           (True ∧
           (ro116 = ro116 ∧
           (tLeafN = tLeafN ∧
           ((0 ≤ (((leaf / (4 : Int)) * (4 : Int)) + (1 : Int)) ∧ (((leaf / (4 : Int)) * (4 : Int)) + (1 : Int)) < ((tLeafN : Nat) : Int)) ∧
           (ro116 = ro116 ∧
           ((Int.toNat (((leaf / (4 : Int)) * (4 : Int)) + (1 : Int))) < tLeafN ∧
           (ro116 = ro116 ∧
           ((Int.toNat (((leaf / (4 : Int)) * (4 : Int)) + (1 : Int))) < tLeafN ∧
           (True ∧
           ((rng ((((leaf / (4 : Int)) * (4 : Int)) + (1 : Int)) + (1 : Int))) ∧
           ((rng ((leaf / (4 : Int)) + (1 : Int))) ∧
           ((rng (((leaf / (4 : Int)) + (1 : Int)) * (4 : Int))) ∧
           (((decide (((((leaf / (4 : Int)) * (4 : Int)) + (1 : Int)) + (1 : Int)) < (((leaf / (4 : Int)) + (1 : Int)) * (4 : Int)))) = Bool.true →
           (b18 = b18 ∧
            (b18 = b18 ∧
            (Exists (fun (g0205 : (Nat →
            Int)) => (Exists (fun (g1206 : (Nat →
            Int)) => ((ro014 = ro014 ∧
            (tMidN = tMidN ∧
            [(fun (j207 : Nat) => (SC.int (if j207 = (Int.toNat (leaf / (4 : Int))) then ((tMidg02 (Int.toNat (leaf / (4 : Int)))) + (1 : Int)) else (tMidg02 j207)))), (fun (j208 : Nat) => (SC.int (if j208 = 0 then (tagW key ((1000 : Int) + (0 : Int)) (tRoot + (1 : Int)) (g063 0)) else (tMidg13 j208))))] = [(fun (i209 : Nat) => (SC.int (g0205 i209))), (fun (i210 : Nat) => (SC.int (g1206 i210)))])) ∧
            (Exists (fun (g0211 : (Nat →
            Int)) => (Exists (fun (g1212 : (Nat →
            Int)) => ((ro116 = ro116 ∧
            (tLeafN = tLeafN ∧
            [(fun (j213 : Nat) => (SC.int (if j213 = (Int.toNat leaf) then ((tLeafg04 (Int.toNat leaf)) + (1 : Int)) else (tLeafg04 j213)))), (fun (j214 : Nat) => (SC.int (if j214 = (Int.toNat (((leaf / (4 : Int)) * (4 : Int)) + (1 : Int))) then (tagW key ((2000 : Int) + (((leaf / (4 : Int)) * (4 : Int)) + (1 : Int))) (g0193 (Int.toNat ((((leaf / (4 : Int)) * (4 : Int)) + (1 : Int)) / (4 : Int)))) (g0199 (Int.toNat (((leaf / (4 : Int)) * (4 : Int)) + (1 : Int))))) else (if j214 = (Int.toNat ((leaf / (4 : Int)) * (4 : Int))) then (tagW key ((2000 : Int) + ((leaf / (4 : Int)) * (4 : Int))) (g0181 (Int.toNat (((leaf / (4 : Int)) * (4 : Int)) / (4 : Int)))) (g0187 (Int.toNat ((leaf / (4 : Int)) * (4 : Int))))) else (tLeafg15 j214)))))] = [(fun (i215 : Nat) => (SC.int (g0211 i215))), (fun (i216 : Nat) => (SC.int (g1212 i216)))])) ∧
            (((0 ≤ (((((leaf / (4 : Int)) * (4 : Int)) + (1 : Int)) + (1 : Int)) / (4 : Int)) ∧ (((((leaf / (4 : Int)) * (4 : Int)) + (1 : Int)) + (1 : Int)) / (4 : Int)) < ((tMidN : Nat) : Int)) ∧
            ((0 ≤ ((((leaf / (4 : Int)) * (4 : Int)) + (1 : Int)) + (1 : Int)) ∧ ((((leaf / (4 : Int)) * (4 : Int)) + (1 : Int)) + (1 : Int)) < ((tLeafN : Nat) : Int)) ∧
            (tagC ((((leaf / (4 : Int)) * (4 : Int)) + (1 : Int)) + (1 : Int))))) ∧
            (True ∧
            (ro116 = ro116 ∧
            (tLeafN = tLeafN ∧
            ((0 ≤ ((((leaf / (4 : Int)) * (4 : Int)) + (1 : Int)) + (1 : Int)) ∧ ((((leaf / (4 : Int)) * (4 : Int)) + (1 : Int)) + (1 : Int)) < ((tLeafN : Nat) : Int)) ∧
            (ro116 = ro116 ∧
            ((Int.toNat ((((leaf / (4 : Int)) * (4 : Int)) + (1 : Int)) + (1 : Int))) < tLeafN ∧
            (ro116 = ro116 ∧
            ((Int.toNat ((((leaf / (4 : Int)) * (4 : Int)) + (1 : Int)) + (1 : Int))) < tLeafN ∧
            (True ∧
            ((rng (((((leaf / (4 : Int)) * (4 : Int)) + (1 : Int)) + (1 : Int)) + (1 : Int))) ∧
            ((rng ((leaf / (4 : Int)) + (1 : Int))) ∧
            ((rng (((leaf / (4 : Int)) + (1 : Int)) * (4 : Int))) ∧
            (((decide ((((((leaf / (4 : Int)) * (4 : Int)) + (1 : Int)) + (1 : Int)) + (1 : Int)) < (((leaf / (4 : Int)) + (1 : Int)) * (4 : Int)))) = Bool.true →
            (b18 = b18 ∧
             (b18 = b18 ∧
             (Exists (fun (g0217 : (Nat →
             Int)) => (Exists (fun (g1218 : (Nat →
             Int)) => ((ro014 = ro014 ∧
             (tMidN = tMidN ∧
             [(fun (j219 : Nat) => (SC.int (if j219 = (Int.toNat (leaf / (4 : Int))) then ((tMidg02 (Int.toNat (leaf / (4 : Int)))) + (1 : Int)) else (tMidg02 j219)))), (fun (j220 : Nat) => (SC.int (if j220 = 0 then (tagW key ((1000 : Int) + (0 : Int)) (tRoot + (1 : Int)) (g063 0)) else (tMidg13 j220))))] = [(fun (i221 : Nat) => (SC.int (g0217 i221))), (fun (i222 : Nat) => (SC.int (g1218 i222)))])) ∧
             (Exists (fun (g0223 : (Nat →
             Int)) => (Exists (fun (g1224 : (Nat →
             Int)) => ((ro116 = ro116 ∧
             (tLeafN = tLeafN ∧
             [(fun (j225 : Nat) => (SC.int (if j225 = (Int.toNat leaf) then ((tLeafg04 (Int.toNat leaf)) + (1 : Int)) else (tLeafg04 j225)))), (fun (j226 : Nat) => (SC.int (if j226 = (Int.toNat ((((leaf / (4 : Int)) * (4 : Int)) + (1 : Int)) + (1 : Int))) then (tagW key ((2000 : Int) + ((((leaf / (4 : Int)) * (4 : Int)) + (1 : Int)) + (1 : Int))) (g0205 (Int.toNat (((((leaf / (4 : Int)) * (4 : Int)) + (1 : Int)) + (1 : Int)) / (4 : Int)))) (g0211 (Int.toNat ((((leaf / (4 : Int)) * (4 : Int)) + (1 : Int)) + (1 : Int))))) else (if j226 = (Int.toNat (((leaf / (4 : Int)) * (4 : Int)) + (1 : Int))) then (tagW key ((2000 : Int) + (((leaf / (4 : Int)) * (4 : Int)) + (1 : Int))) (g0193 (Int.toNat ((((leaf / (4 : Int)) * (4 : Int)) + (1 : Int)) / (4 : Int)))) (g0199 (Int.toNat (((leaf / (4 : Int)) * (4 : Int)) + (1 : Int))))) else (if j226 = (Int.toNat ((leaf / (4 : Int)) * (4 : Int))) then (tagW key ((2000 : Int) + ((leaf / (4 : Int)) * (4 : Int))) (g0181 (Int.toNat (((leaf / (4 : Int)) * (4 : Int)) / (4 : Int)))) (g0187 (Int.toNat ((leaf / (4 : Int)) * (4 : Int))))) else (tLeafg15 j226))))))] = [(fun (i227 : Nat) => (SC.int (g0223 i227))), (fun (i228 : Nat) => (SC.int (g1224 i228)))])) ∧
             (((0 ≤ ((((((leaf / (4 : Int)) * (4 : Int)) + (1 : Int)) + (1 : Int)) + (1 : Int)) / (4 : Int)) ∧ ((((((leaf / (4 : Int)) * (4 : Int)) + (1 : Int)) + (1 : Int)) + (1 : Int)) / (4 : Int)) < ((tMidN : Nat) : Int)) ∧
             ((0 ≤ (((((leaf / (4 : Int)) * (4 : Int)) + (1 : Int)) + (1 : Int)) + (1 : Int)) ∧ (((((leaf / (4 : Int)) * (4 : Int)) + (1 : Int)) + (1 : Int)) + (1 : Int)) < ((tLeafN : Nat) : Int)) ∧
             (tagC (((((leaf / (4 : Int)) * (4 : Int)) + (1 : Int)) + (1 : Int)) + (1 : Int))))) ∧
             (True ∧
             (ro116 = ro116 ∧
             (tLeafN = tLeafN ∧
             ((0 ≤ (((((leaf / (4 : Int)) * (4 : Int)) + (1 : Int)) + (1 : Int)) + (1 : Int)) ∧ (((((leaf / (4 : Int)) * (4 : Int)) + (1 : Int)) + (1 : Int)) + (1 : Int)) < ((tLeafN : Nat) : Int)) ∧
             (ro116 = ro116 ∧
             ((Int.toNat (((((leaf / (4 : Int)) * (4 : Int)) + (1 : Int)) + (1 : Int)) + (1 : Int))) < tLeafN ∧
             (ro116 = ro116 ∧
             ((Int.toNat (((((leaf / (4 : Int)) * (4 : Int)) + (1 : Int)) + (1 : Int)) + (1 : Int))) < tLeafN ∧
             (True ∧
             ((rng ((((((leaf / (4 : Int)) * (4 : Int)) + (1 : Int)) + (1 : Int)) + (1 : Int)) + (1 : Int))) ∧
             ((rng ((leaf / (4 : Int)) + (1 : Int))) ∧
             ((rng (((leaf / (4 : Int)) + (1 : Int)) * (4 : Int))) ∧
             (((decide (((((((leaf / (4 : Int)) * (4 : Int)) + (1 : Int)) + (1 : Int)) + (1 : Int)) + (1 : Int)) < (((leaf / (4 : Int)) + (1 : Int)) * (4 : Int)))) = Bool.true →
             (b18 = b18 ∧
              (b18 = b18 ∧
              (Exists (fun (g0229 : (Nat →
              Int)) => (Exists (fun (g1230 : (Nat →
              Int)) => ((ro014 = ro014 ∧
              (tMidN = tMidN ∧
              [(fun (j231 : Nat) => (SC.int (if j231 = (Int.toNat (leaf / (4 : Int))) then ((tMidg02 (Int.toNat (leaf / (4 : Int)))) + (1 : Int)) else (tMidg02 j231)))), (fun (j232 : Nat) => (SC.int (if j232 = 0 then (tagW key ((1000 : Int) + (0 : Int)) (tRoot + (1 : Int)) (g063 0)) else (tMidg13 j232))))] = [(fun (i233 : Nat) => (SC.int (g0229 i233))), (fun (i234 : Nat) => (SC.int (g1230 i234)))])) ∧
              (Exists (fun (g0235 : (Nat →
              Int)) => (Exists (fun (g1236 : (Nat →
              Int)) => ((ro116 = ro116 ∧
              (tLeafN = tLeafN ∧
              [(fun (j237 : Nat) => (SC.int (if j237 = (Int.toNat leaf) then ((tLeafg04 (Int.toNat leaf)) + (1 : Int)) else (tLeafg04 j237)))), (fun (j238 : Nat) => (SC.int (if j238 = (Int.toNat (((((leaf / (4 : Int)) * (4 : Int)) + (1 : Int)) + (1 : Int)) + (1 : Int))) then (tagW key ((2000 : Int) + (((((leaf / (4 : Int)) * (4 : Int)) + (1 : Int)) + (1 : Int)) + (1 : Int))) (g0217 (Int.toNat ((((((leaf / (4 : Int)) * (4 : Int)) + (1 : Int)) + (1 : Int)) + (1 : Int)) / (4 : Int)))) (g0223 (Int.toNat (((((leaf / (4 : Int)) * (4 : Int)) + (1 : Int)) + (1 : Int)) + (1 : Int))))) else (if j238 = (Int.toNat ((((leaf / (4 : Int)) * (4 : Int)) + (1 : Int)) + (1 : Int))) then (tagW key ((2000 : Int) + ((((leaf / (4 : Int)) * (4 : Int)) + (1 : Int)) + (1 : Int))) (g0205 (Int.toNat (((((leaf / (4 : Int)) * (4 : Int)) + (1 : Int)) + (1 : Int)) / (4 : Int)))) (g0211 (Int.toNat ((((leaf / (4 : Int)) * (4 : Int)) + (1 : Int)) + (1 : Int))))) else (if j238 = (Int.toNat (((leaf / (4 : Int)) * (4 : Int)) + (1 : Int))) then (tagW key ((2000 : Int) + (((leaf / (4 : Int)) * (4 : Int)) + (1 : Int))) (g0193 (Int.toNat ((((leaf / (4 : Int)) * (4 : Int)) + (1 : Int)) / (4 : Int)))) (g0199 (Int.toNat (((leaf / (4 : Int)) * (4 : Int)) + (1 : Int))))) else (if j238 = (Int.toNat ((leaf / (4 : Int)) * (4 : Int))) then (tagW key ((2000 : Int) + ((leaf / (4 : Int)) * (4 : Int))) (g0181 (Int.toNat (((leaf / (4 : Int)) * (4 : Int)) / (4 : Int)))) (g0187 (Int.toNat ((leaf / (4 : Int)) * (4 : Int))))) else (tLeafg15 j238)))))))] = [(fun (i239 : Nat) => (SC.int (g0235 i239))), (fun (i240 : Nat) => (SC.int (g1236 i240)))])) ∧
              (((0 ≤ (((((((leaf / (4 : Int)) * (4 : Int)) + (1 : Int)) + (1 : Int)) + (1 : Int)) + (1 : Int)) / (4 : Int)) ∧ (((((((leaf / (4 : Int)) * (4 : Int)) + (1 : Int)) + (1 : Int)) + (1 : Int)) + (1 : Int)) / (4 : Int)) < ((tMidN : Nat) : Int)) ∧
              ((0 ≤ ((((((leaf / (4 : Int)) * (4 : Int)) + (1 : Int)) + (1 : Int)) + (1 : Int)) + (1 : Int)) ∧ ((((((leaf / (4 : Int)) * (4 : Int)) + (1 : Int)) + (1 : Int)) + (1 : Int)) + (1 : Int)) < ((tLeafN : Nat) : Int)) ∧
              (tagC ((((((leaf / (4 : Int)) * (4 : Int)) + (1 : Int)) + (1 : Int)) + (1 : Int)) + (1 : Int))))) ∧
              (True ∧
              (ro116 = ro116 ∧
              (tLeafN = tLeafN ∧
              ((0 ≤ ((((((leaf / (4 : Int)) * (4 : Int)) + (1 : Int)) + (1 : Int)) + (1 : Int)) + (1 : Int)) ∧ ((((((leaf / (4 : Int)) * (4 : Int)) + (1 : Int)) + (1 : Int)) + (1 : Int)) + (1 : Int)) < ((tLeafN : Nat) : Int)) ∧
              (ro116 = ro116 ∧
              ((Int.toNat ((((((leaf / (4 : Int)) * (4 : Int)) + (1 : Int)) + (1 : Int)) + (1 : Int)) + (1 : Int))) < tLeafN ∧
              (ro116 = ro116 ∧
              ((Int.toNat ((((((leaf / (4 : Int)) * (4 : Int)) + (1 : Int)) + (1 : Int)) + (1 : Int)) + (1 : Int))) < tLeafN ∧
              (True ∧
              ((rng (((((((leaf / (4 : Int)) * (4 : Int)) + (1 : Int)) + (1 : Int)) + (1 : Int)) + (1 : Int)) + (1 : Int))) ∧
              False)))))))))))))))))))))))) ∧
             ((decide (((((((leaf / (4 : Int)) * (4 : Int)) + (1 : Int)) + (1 : Int)) + (1 : Int)) + (1 : Int)) < (((leaf / (4 : Int)) + (1 : Int)) * (4 : Int)))) = Bool.false →
             (b18 = b18 ∧
              (b1 = b1 ∧
              (b1 = b1 ∧
              (Exists (fun (ro0241 : (Option Addr)) => (Exists (fun (rc0242 : Nat) => (Exists (fun (ro1243 : (Option Addr)) => (Exists (fun (rc1244 : Nat) => ((Value.tuple (List.toArray [(Value.agg (List.toArray [(Value.int IntKind.i64 (tRoot + (1 : Int))), (Value.slice ro014 tMidN rc015), (Value.slice ro116 tLeafN rc117)])), (Value.bool Bool.true)])) = (Value.tuple (List.toArray [(Value.agg (List.toArray [(Value.int IntKind.i64 (bR key tRoot tMidN tLeafN tMidg0 tMidg1 tLeafg0 tLeafg1 leaf)), (Value.slice ro0241 tMidN rc0242), (Value.slice ro1243 tLeafN rc1244)])), (Value.bool (bOk key tRoot tMidN tLeafN tMidg0 tMidg1 tLeafg0 tLeafg1 leaf))])) ∧
              (((Bool.true = Bool.true ∧
              (ro014 = ro0241 ∧
              (37 = 37 ∧
              (2 = 2 ∧
              (tMidN = tMidN ∧
              (rc015 = rc0242 ∧
              ((∀ i245 : Nat,
              (i245 < tMidN →
              (Value.int IntKind.i64 (if i245 = (Int.toNat (leaf / (4 : Int))) then ((tMidg02 (Int.toNat (leaf / (4 : Int)))) + (1 : Int)) else (tMidg02 i245))) = (Value.int IntKind.i64 (bMc key tRoot tMidN tLeafN tMidg0 tMidg1 tLeafg0 tLeafg1 leaf i245)))) ∧
              ((∀ i246 : Nat,
              (i246 < tMidN →
              (Value.int IntKind.i64 (if i246 = 0 then (tagW key ((1000 : Int) + (0 : Int)) (tRoot + (1 : Int)) (g063 0)) else (tMidg13 i246))) = (Value.int IntKind.i64 (bMt key tRoot tMidN tLeafN tMidg0 tMidg1 tLeafg0 tLeafg1 leaf i246)))) ∧
              True)))))))) ∧
              ((Bool.true = Bool.true ∧
              (ro116 = ro1243 ∧
              (37 = 37 ∧
              (2 = 2 ∧
              (tLeafN = tLeafN ∧
              (rc117 = rc1244 ∧
              ((∀ i247 : Nat,
              (i247 < tLeafN →
              (Value.int IntKind.i64 (if i247 = (Int.toNat leaf) then ((tLeafg04 (Int.toNat leaf)) + (1 : Int)) else (tLeafg04 i247))) = (Value.int IntKind.i64 (bLc key tRoot tMidN tLeafN tMidg0 tMidg1 tLeafg0 tLeafg1 leaf i247)))) ∧
              ((∀ i248 : Nat,
              (i248 < tLeafN →
              (Value.int IntKind.i64 (if i248 = (Int.toNat (((((leaf / (4 : Int)) * (4 : Int)) + (1 : Int)) + (1 : Int)) + (1 : Int))) then (tagW key ((2000 : Int) + (((((leaf / (4 : Int)) * (4 : Int)) + (1 : Int)) + (1 : Int)) + (1 : Int))) (g0217 (Int.toNat ((((((leaf / (4 : Int)) * (4 : Int)) + (1 : Int)) + (1 : Int)) + (1 : Int)) / (4 : Int)))) (g0223 (Int.toNat (((((leaf / (4 : Int)) * (4 : Int)) + (1 : Int)) + (1 : Int)) + (1 : Int))))) else (if i248 = (Int.toNat ((((leaf / (4 : Int)) * (4 : Int)) + (1 : Int)) + (1 : Int))) then (tagW key ((2000 : Int) + ((((leaf / (4 : Int)) * (4 : Int)) + (1 : Int)) + (1 : Int))) (g0205 (Int.toNat (((((leaf / (4 : Int)) * (4 : Int)) + (1 : Int)) + (1 : Int)) / (4 : Int)))) (g0211 (Int.toNat ((((leaf / (4 : Int)) * (4 : Int)) + (1 : Int)) + (1 : Int))))) else (if i248 = (Int.toNat (((leaf / (4 : Int)) * (4 : Int)) + (1 : Int))) then (tagW key ((2000 : Int) + (((leaf / (4 : Int)) * (4 : Int)) + (1 : Int))) (g0193 (Int.toNat ((((leaf / (4 : Int)) * (4 : Int)) + (1 : Int)) / (4 : Int)))) (g0199 (Int.toNat (((leaf / (4 : Int)) * (4 : Int)) + (1 : Int))))) else (if i248 = (Int.toNat ((leaf / (4 : Int)) * (4 : Int))) then (tagW key ((2000 : Int) + ((leaf / (4 : Int)) * (4 : Int))) (g0181 (Int.toNat (((leaf / (4 : Int)) * (4 : Int)) / (4 : Int)))) (g0187 (Int.toNat ((leaf / (4 : Int)) * (4 : Int))))) else (tLeafg15 i248)))))) = (Value.int IntKind.i64 (bLt key tRoot tMidN tLeafN tMidg0 tMidg1 tLeafg0 tLeafg1 leaf i248)))) ∧
              True)))))))) ∧
              True)) ∧
              Bool.true = Bool.true))))))))))))))))))))))))))))))))))))))))) ∧
            ((decide ((((((leaf / (4 : Int)) * (4 : Int)) + (1 : Int)) + (1 : Int)) + (1 : Int)) < (((leaf / (4 : Int)) + (1 : Int)) * (4 : Int)))) = Bool.false →
            (b18 = b18 ∧
             (b1 = b1 ∧
             (b1 = b1 ∧
             (Exists (fun (ro0249 : (Option Addr)) => (Exists (fun (rc0250 : Nat) => (Exists (fun (ro1251 : (Option Addr)) => (Exists (fun (rc1252 : Nat) => ((Value.tuple (List.toArray [(Value.agg (List.toArray [(Value.int IntKind.i64 (tRoot + (1 : Int))), (Value.slice ro014 tMidN rc015), (Value.slice ro116 tLeafN rc117)])), (Value.bool Bool.true)])) = (Value.tuple (List.toArray [(Value.agg (List.toArray [(Value.int IntKind.i64 (bR key tRoot tMidN tLeafN tMidg0 tMidg1 tLeafg0 tLeafg1 leaf)), (Value.slice ro0249 tMidN rc0250), (Value.slice ro1251 tLeafN rc1252)])), (Value.bool (bOk key tRoot tMidN tLeafN tMidg0 tMidg1 tLeafg0 tLeafg1 leaf))])) ∧
             (((Bool.true = Bool.true ∧
             (ro014 = ro0249 ∧
             (37 = 37 ∧
             (2 = 2 ∧
             (tMidN = tMidN ∧
             (rc015 = rc0250 ∧
             ((∀ i253 : Nat,
             (i253 < tMidN →
             (Value.int IntKind.i64 (if i253 = (Int.toNat (leaf / (4 : Int))) then ((tMidg02 (Int.toNat (leaf / (4 : Int)))) + (1 : Int)) else (tMidg02 i253))) = (Value.int IntKind.i64 (bMc key tRoot tMidN tLeafN tMidg0 tMidg1 tLeafg0 tLeafg1 leaf i253)))) ∧
             ((∀ i254 : Nat,
             (i254 < tMidN →
             (Value.int IntKind.i64 (if i254 = 0 then (tagW key ((1000 : Int) + (0 : Int)) (tRoot + (1 : Int)) (g063 0)) else (tMidg13 i254))) = (Value.int IntKind.i64 (bMt key tRoot tMidN tLeafN tMidg0 tMidg1 tLeafg0 tLeafg1 leaf i254)))) ∧
             True)))))))) ∧
             ((Bool.true = Bool.true ∧
             (ro116 = ro1251 ∧
             (37 = 37 ∧
             (2 = 2 ∧
             (tLeafN = tLeafN ∧
             (rc117 = rc1252 ∧
             ((∀ i255 : Nat,
             (i255 < tLeafN →
             (Value.int IntKind.i64 (if i255 = (Int.toNat leaf) then ((tLeafg04 (Int.toNat leaf)) + (1 : Int)) else (tLeafg04 i255))) = (Value.int IntKind.i64 (bLc key tRoot tMidN tLeafN tMidg0 tMidg1 tLeafg0 tLeafg1 leaf i255)))) ∧
             ((∀ i256 : Nat,
             (i256 < tLeafN →
             (Value.int IntKind.i64 (if i256 = (Int.toNat ((((leaf / (4 : Int)) * (4 : Int)) + (1 : Int)) + (1 : Int))) then (tagW key ((2000 : Int) + ((((leaf / (4 : Int)) * (4 : Int)) + (1 : Int)) + (1 : Int))) (g0205 (Int.toNat (((((leaf / (4 : Int)) * (4 : Int)) + (1 : Int)) + (1 : Int)) / (4 : Int)))) (g0211 (Int.toNat ((((leaf / (4 : Int)) * (4 : Int)) + (1 : Int)) + (1 : Int))))) else (if i256 = (Int.toNat (((leaf / (4 : Int)) * (4 : Int)) + (1 : Int))) then (tagW key ((2000 : Int) + (((leaf / (4 : Int)) * (4 : Int)) + (1 : Int))) (g0193 (Int.toNat ((((leaf / (4 : Int)) * (4 : Int)) + (1 : Int)) / (4 : Int)))) (g0199 (Int.toNat (((leaf / (4 : Int)) * (4 : Int)) + (1 : Int))))) else (if i256 = (Int.toNat ((leaf / (4 : Int)) * (4 : Int))) then (tagW key ((2000 : Int) + ((leaf / (4 : Int)) * (4 : Int))) (g0181 (Int.toNat (((leaf / (4 : Int)) * (4 : Int)) / (4 : Int)))) (g0187 (Int.toNat ((leaf / (4 : Int)) * (4 : Int))))) else (tLeafg15 i256))))) = (Value.int IntKind.i64 (bLt key tRoot tMidN tLeafN tMidg0 tMidg1 tLeafg0 tLeafg1 leaf i256)))) ∧
             True)))))))) ∧
             True)) ∧
             Bool.true = Bool.true))))))))))))))))))))))))))))))))))))))))) ∧
           ((decide (((((leaf / (4 : Int)) * (4 : Int)) + (1 : Int)) + (1 : Int)) < (((leaf / (4 : Int)) + (1 : Int)) * (4 : Int)))) = Bool.false →
           (b18 = b18 ∧
            (b1 = b1 ∧
            (b1 = b1 ∧
            (Exists (fun (ro0257 : (Option Addr)) => (Exists (fun (rc0258 : Nat) => (Exists (fun (ro1259 : (Option Addr)) => (Exists (fun (rc1260 : Nat) => ((Value.tuple (List.toArray [(Value.agg (List.toArray [(Value.int IntKind.i64 (tRoot + (1 : Int))), (Value.slice ro014 tMidN rc015), (Value.slice ro116 tLeafN rc117)])), (Value.bool Bool.true)])) = (Value.tuple (List.toArray [(Value.agg (List.toArray [(Value.int IntKind.i64 (bR key tRoot tMidN tLeafN tMidg0 tMidg1 tLeafg0 tLeafg1 leaf)), (Value.slice ro0257 tMidN rc0258), (Value.slice ro1259 tLeafN rc1260)])), (Value.bool (bOk key tRoot tMidN tLeafN tMidg0 tMidg1 tLeafg0 tLeafg1 leaf))])) ∧
            (((Bool.true = Bool.true ∧
            (ro014 = ro0257 ∧
            (37 = 37 ∧
            (2 = 2 ∧
            (tMidN = tMidN ∧
            (rc015 = rc0258 ∧
            ((∀ i261 : Nat,
            (i261 < tMidN →
            (Value.int IntKind.i64 (if i261 = (Int.toNat (leaf / (4 : Int))) then ((tMidg02 (Int.toNat (leaf / (4 : Int)))) + (1 : Int)) else (tMidg02 i261))) = (Value.int IntKind.i64 (bMc key tRoot tMidN tLeafN tMidg0 tMidg1 tLeafg0 tLeafg1 leaf i261)))) ∧
            ((∀ i262 : Nat,
            (i262 < tMidN →
            (Value.int IntKind.i64 (if i262 = 0 then (tagW key ((1000 : Int) + (0 : Int)) (tRoot + (1 : Int)) (g063 0)) else (tMidg13 i262))) = (Value.int IntKind.i64 (bMt key tRoot tMidN tLeafN tMidg0 tMidg1 tLeafg0 tLeafg1 leaf i262)))) ∧
            True)))))))) ∧
            ((Bool.true = Bool.true ∧
            (ro116 = ro1259 ∧
            (37 = 37 ∧
            (2 = 2 ∧
            (tLeafN = tLeafN ∧
            (rc117 = rc1260 ∧
            ((∀ i263 : Nat,
            (i263 < tLeafN →
            (Value.int IntKind.i64 (if i263 = (Int.toNat leaf) then ((tLeafg04 (Int.toNat leaf)) + (1 : Int)) else (tLeafg04 i263))) = (Value.int IntKind.i64 (bLc key tRoot tMidN tLeafN tMidg0 tMidg1 tLeafg0 tLeafg1 leaf i263)))) ∧
            ((∀ i264 : Nat,
            (i264 < tLeafN →
            (Value.int IntKind.i64 (if i264 = (Int.toNat (((leaf / (4 : Int)) * (4 : Int)) + (1 : Int))) then (tagW key ((2000 : Int) + (((leaf / (4 : Int)) * (4 : Int)) + (1 : Int))) (g0193 (Int.toNat ((((leaf / (4 : Int)) * (4 : Int)) + (1 : Int)) / (4 : Int)))) (g0199 (Int.toNat (((leaf / (4 : Int)) * (4 : Int)) + (1 : Int))))) else (if i264 = (Int.toNat ((leaf / (4 : Int)) * (4 : Int))) then (tagW key ((2000 : Int) + ((leaf / (4 : Int)) * (4 : Int))) (g0181 (Int.toNat (((leaf / (4 : Int)) * (4 : Int)) / (4 : Int)))) (g0187 (Int.toNat ((leaf / (4 : Int)) * (4 : Int))))) else (tLeafg15 i264)))) = (Value.int IntKind.i64 (bLt key tRoot tMidN tLeafN tMidg0 tMidg1 tLeafg0 tLeafg1 leaf i264)))) ∧
            True)))))))) ∧
            True)) ∧
            Bool.true = Bool.true))))))))))))))))))))))))))))))))))))))))) ∧
          ((decide ((((leaf / (4 : Int)) * (4 : Int)) + (1 : Int)) < (((leaf / (4 : Int)) + (1 : Int)) * (4 : Int)))) = Bool.false →
          (b18 = b18 ∧
           (b1 = b1 ∧
           (b1 = b1 ∧
           (Exists (fun (ro0265 : (Option Addr)) => (Exists (fun (rc0266 : Nat) => (Exists (fun (ro1267 : (Option Addr)) => (Exists (fun (rc1268 : Nat) => ((Value.tuple (List.toArray [(Value.agg (List.toArray [(Value.int IntKind.i64 (tRoot + (1 : Int))), (Value.slice ro014 tMidN rc015), (Value.slice ro116 tLeafN rc117)])), (Value.bool Bool.true)])) = (Value.tuple (List.toArray [(Value.agg (List.toArray [(Value.int IntKind.i64 (bR key tRoot tMidN tLeafN tMidg0 tMidg1 tLeafg0 tLeafg1 leaf)), (Value.slice ro0265 tMidN rc0266), (Value.slice ro1267 tLeafN rc1268)])), (Value.bool (bOk key tRoot tMidN tLeafN tMidg0 tMidg1 tLeafg0 tLeafg1 leaf))])) ∧
           (((Bool.true = Bool.true ∧
           (ro014 = ro0265 ∧
           (37 = 37 ∧
           (2 = 2 ∧
           (tMidN = tMidN ∧
           (rc015 = rc0266 ∧
           ((∀ i269 : Nat,
           (i269 < tMidN →
           (Value.int IntKind.i64 (if i269 = (Int.toNat (leaf / (4 : Int))) then ((tMidg02 (Int.toNat (leaf / (4 : Int)))) + (1 : Int)) else (tMidg02 i269))) = (Value.int IntKind.i64 (bMc key tRoot tMidN tLeafN tMidg0 tMidg1 tLeafg0 tLeafg1 leaf i269)))) ∧
           ((∀ i270 : Nat,
           (i270 < tMidN →
           (Value.int IntKind.i64 (if i270 = 0 then (tagW key ((1000 : Int) + (0 : Int)) (tRoot + (1 : Int)) (g063 0)) else (tMidg13 i270))) = (Value.int IntKind.i64 (bMt key tRoot tMidN tLeafN tMidg0 tMidg1 tLeafg0 tLeafg1 leaf i270)))) ∧
           True)))))))) ∧
           ((Bool.true = Bool.true ∧
           (ro116 = ro1267 ∧
           (37 = 37 ∧
           (2 = 2 ∧
           (tLeafN = tLeafN ∧
           (rc117 = rc1268 ∧
           ((∀ i271 : Nat,
           (i271 < tLeafN →
           (Value.int IntKind.i64 (if i271 = (Int.toNat leaf) then ((tLeafg04 (Int.toNat leaf)) + (1 : Int)) else (tLeafg04 i271))) = (Value.int IntKind.i64 (bLc key tRoot tMidN tLeafN tMidg0 tMidg1 tLeafg0 tLeafg1 leaf i271)))) ∧
           ((∀ i272 : Nat,
           (i272 < tLeafN →
           (Value.int IntKind.i64 (if i272 = (Int.toNat ((leaf / (4 : Int)) * (4 : Int))) then (tagW key ((2000 : Int) + ((leaf / (4 : Int)) * (4 : Int))) (g0181 (Int.toNat (((leaf / (4 : Int)) * (4 : Int)) / (4 : Int)))) (g0187 (Int.toNat ((leaf / (4 : Int)) * (4 : Int))))) else (tLeafg15 i272))) = (Value.int IntKind.i64 (bLt key tRoot tMidN tLeafN tMidg0 tMidg1 tLeafg0 tLeafg1 leaf i272)))) ∧
           True)))))))) ∧
           True)) ∧
           Bool.true = Bool.true))))))))))))))))))))))))))))))))))))))))) ∧
         ((decide (((leaf / (4 : Int)) * (4 : Int)) < (((leaf / (4 : Int)) + (1 : Int)) * (4 : Int)))) = Bool.false →
         (b18 = b18 ∧
          (b1 = b1 ∧
          (b1 = b1 ∧
          (Exists (fun (ro0273 : (Option Addr)) => (Exists (fun (rc0274 : Nat) => (Exists (fun (ro1275 : (Option Addr)) => (Exists (fun (rc1276 : Nat) => ((Value.tuple (List.toArray [(Value.agg (List.toArray [(Value.int IntKind.i64 (tRoot + (1 : Int))), (Value.slice ro014 tMidN rc015), (Value.slice ro116 tLeafN rc117)])), (Value.bool Bool.true)])) = (Value.tuple (List.toArray [(Value.agg (List.toArray [(Value.int IntKind.i64 (bR key tRoot tMidN tLeafN tMidg0 tMidg1 tLeafg0 tLeafg1 leaf)), (Value.slice ro0273 tMidN rc0274), (Value.slice ro1275 tLeafN rc1276)])), (Value.bool (bOk key tRoot tMidN tLeafN tMidg0 tMidg1 tLeafg0 tLeafg1 leaf))])) ∧
          (((Bool.true = Bool.true ∧
          (ro014 = ro0273 ∧
          (37 = 37 ∧
          (2 = 2 ∧
          (tMidN = tMidN ∧
          (rc015 = rc0274 ∧
          ((∀ i277 : Nat,
          (i277 < tMidN →
          (Value.int IntKind.i64 (if i277 = (Int.toNat (leaf / (4 : Int))) then ((tMidg02 (Int.toNat (leaf / (4 : Int)))) + (1 : Int)) else (tMidg02 i277))) = (Value.int IntKind.i64 (bMc key tRoot tMidN tLeafN tMidg0 tMidg1 tLeafg0 tLeafg1 leaf i277)))) ∧
          ((∀ i278 : Nat,
          (i278 < tMidN →
          (Value.int IntKind.i64 (if i278 = 0 then (tagW key ((1000 : Int) + (0 : Int)) (tRoot + (1 : Int)) (g063 0)) else (tMidg13 i278))) = (Value.int IntKind.i64 (bMt key tRoot tMidN tLeafN tMidg0 tMidg1 tLeafg0 tLeafg1 leaf i278)))) ∧
          True)))))))) ∧
          ((Bool.true = Bool.true ∧
          (ro116 = ro1275 ∧
          (37 = 37 ∧
          (2 = 2 ∧
          (tLeafN = tLeafN ∧
          (rc117 = rc1276 ∧
          ((∀ i279 : Nat,
          (i279 < tLeafN →
          (Value.int IntKind.i64 (if i279 = (Int.toNat leaf) then ((tLeafg04 (Int.toNat leaf)) + (1 : Int)) else (tLeafg04 i279))) = (Value.int IntKind.i64 (bLc key tRoot tMidN tLeafN tMidg0 tMidg1 tLeafg0 tLeafg1 leaf i279)))) ∧
          ((∀ i280 : Nat,
          (i280 < tLeafN →
          (Value.int IntKind.i64 (tLeafg15 i280)) = (Value.int IntKind.i64 (bLt key tRoot tMidN tLeafN tMidg0 tMidg1 tLeafg0 tLeafg1 leaf i280)))) ∧
          True)))))))) ∧
          True)) ∧
          Bool.true = Bool.true)))))))))))))))))))))))))))))))))))))) ∧
       ((decide ((0 : Int) < ((tMidN : Nat) : Int))) = Bool.false →
       ((rng ((leaf / (4 : Int)) * (4 : Int))) ∧
        ((rng ((leaf / (4 : Int)) + (1 : Int))) ∧
        ((rng (((leaf / (4 : Int)) + (1 : Int)) * (4 : Int))) ∧
        (((decide (((leaf / (4 : Int)) * (4 : Int)) < (((leaf / (4 : Int)) + (1 : Int)) * (4 : Int)))) = Bool.true →
        (b18 = b18 ∧
         (b18 = b18 ∧
         (Exists (fun (g0281 : (Nat →
         Int)) => (Exists (fun (g1282 : (Nat →
         Int)) => ((ro014 = ro014 ∧
         (tMidN = tMidN ∧
         [(fun (j283 : Nat) => (SC.int (if j283 = (Int.toNat (leaf / (4 : Int))) then ((tMidg02 (Int.toNat (leaf / (4 : Int)))) + (1 : Int)) else (tMidg02 j283)))), (fun (i284 : Nat) => (SC.int (tMidg13 i284)))] = [(fun (i285 : Nat) => (SC.int (g0281 i285))), (fun (i286 : Nat) => (SC.int (g1282 i286)))])) ∧
         (Exists (fun (g0287 : (Nat →
         Int)) => (Exists (fun (g1288 : (Nat →
         Int)) => ((ro116 = ro116 ∧
         (tLeafN = tLeafN ∧
         [(fun (j289 : Nat) => (SC.int (if j289 = (Int.toNat leaf) then ((tLeafg04 (Int.toNat leaf)) + (1 : Int)) else (tLeafg04 j289)))), (fun (i290 : Nat) => (SC.int (tLeafg15 i290)))] = [(fun (i291 : Nat) => (SC.int (g0287 i291))), (fun (i292 : Nat) => (SC.int (g1288 i292)))])) ∧
         (((0 ≤ (((leaf / (4 : Int)) * (4 : Int)) / (4 : Int)) ∧ (((leaf / (4 : Int)) * (4 : Int)) / (4 : Int)) < ((tMidN : Nat) : Int)) ∧
         ((0 ≤ ((leaf / (4 : Int)) * (4 : Int)) ∧ ((leaf / (4 : Int)) * (4 : Int)) < ((tLeafN : Nat) : Int)) ∧
         (tagC ((leaf / (4 : Int)) * (4 : Int))))) ∧
         (True ∧
         (ro116 = ro116 ∧
         (tLeafN = tLeafN ∧
         ((0 ≤ ((leaf / (4 : Int)) * (4 : Int)) ∧ ((leaf / (4 : Int)) * (4 : Int)) < ((tLeafN : Nat) : Int)) ∧
         (ro116 = ro116 ∧
         ((Int.toNat ((leaf / (4 : Int)) * (4 : Int))) < tLeafN ∧
         (ro116 = ro116 ∧
         ((Int.toNat ((leaf / (4 : Int)) * (4 : Int))) < tLeafN ∧
         (True ∧
         ((rng (((leaf / (4 : Int)) * (4 : Int)) + (1 : Int))) ∧
         ((rng ((leaf / (4 : Int)) + (1 : Int))) ∧
         ((rng (((leaf / (4 : Int)) + (1 : Int)) * (4 : Int))) ∧
         (((decide ((((leaf / (4 : Int)) * (4 : Int)) + (1 : Int)) < (((leaf / (4 : Int)) + (1 : Int)) * (4 : Int)))) = Bool.true →
         (b18 = b18 ∧
          (b18 = b18 ∧
          (Exists (fun (g0293 : (Nat →
          Int)) => (Exists (fun (g1294 : (Nat →
          Int)) => ((ro014 = ro014 ∧
          (tMidN = tMidN ∧
          [(fun (j295 : Nat) => (SC.int (if j295 = (Int.toNat (leaf / (4 : Int))) then ((tMidg02 (Int.toNat (leaf / (4 : Int)))) + (1 : Int)) else (tMidg02 j295)))), (fun (i296 : Nat) => (SC.int (tMidg13 i296)))] = [(fun (i297 : Nat) => (SC.int (g0293 i297))), (fun (i298 : Nat) => (SC.int (g1294 i298)))])) ∧
          (Exists (fun (g0299 : (Nat →
          Int)) => (Exists (fun (g1300 : (Nat →
          Int)) => ((ro116 = ro116 ∧
          (tLeafN = tLeafN ∧
          [(fun (j301 : Nat) => (SC.int (if j301 = (Int.toNat leaf) then ((tLeafg04 (Int.toNat leaf)) + (1 : Int)) else (tLeafg04 j301)))), (fun (j302 : Nat) => (SC.int (if j302 = (Int.toNat ((leaf / (4 : Int)) * (4 : Int))) then (tagW key ((2000 : Int) + ((leaf / (4 : Int)) * (4 : Int))) (g0281 (Int.toNat (((leaf / (4 : Int)) * (4 : Int)) / (4 : Int)))) (g0287 (Int.toNat ((leaf / (4 : Int)) * (4 : Int))))) else (tLeafg15 j302))))] = [(fun (i303 : Nat) => (SC.int (g0299 i303))), (fun (i304 : Nat) => (SC.int (g1300 i304)))])) ∧
          (((0 ≤ ((((leaf / (4 : Int)) * (4 : Int)) + (1 : Int)) / (4 : Int)) ∧ ((((leaf / (4 : Int)) * (4 : Int)) + (1 : Int)) / (4 : Int)) < ((tMidN : Nat) : Int)) ∧
          ((0 ≤ (((leaf / (4 : Int)) * (4 : Int)) + (1 : Int)) ∧ (((leaf / (4 : Int)) * (4 : Int)) + (1 : Int)) < ((tLeafN : Nat) : Int)) ∧
          (tagC (((leaf / (4 : Int)) * (4 : Int)) + (1 : Int))))) ∧
          (True ∧
          (ro116 = ro116 ∧
          (tLeafN = tLeafN ∧
          ((0 ≤ (((leaf / (4 : Int)) * (4 : Int)) + (1 : Int)) ∧ (((leaf / (4 : Int)) * (4 : Int)) + (1 : Int)) < ((tLeafN : Nat) : Int)) ∧
          (ro116 = ro116 ∧
          ((Int.toNat (((leaf / (4 : Int)) * (4 : Int)) + (1 : Int))) < tLeafN ∧
          (ro116 = ro116 ∧
          ((Int.toNat (((leaf / (4 : Int)) * (4 : Int)) + (1 : Int))) < tLeafN ∧
          (True ∧
          ((rng ((((leaf / (4 : Int)) * (4 : Int)) + (1 : Int)) + (1 : Int))) ∧
          ((rng ((leaf / (4 : Int)) + (1 : Int))) ∧
          ((rng (((leaf / (4 : Int)) + (1 : Int)) * (4 : Int))) ∧
          (((decide (((((leaf / (4 : Int)) * (4 : Int)) + (1 : Int)) + (1 : Int)) < (((leaf / (4 : Int)) + (1 : Int)) * (4 : Int)))) = Bool.true →
          (b18 = b18 ∧
           (b18 = b18 ∧
           (Exists (fun (g0305 : (Nat →
           Int)) => (Exists (fun (g1306 : (Nat →
           Int)) => ((ro014 = ro014 ∧
           (tMidN = tMidN ∧
           [(fun (j307 : Nat) => (SC.int (if j307 = (Int.toNat (leaf / (4 : Int))) then ((tMidg02 (Int.toNat (leaf / (4 : Int)))) + (1 : Int)) else (tMidg02 j307)))), (fun (i308 : Nat) => (SC.int (tMidg13 i308)))] = [(fun (i309 : Nat) => (SC.int (g0305 i309))), (fun (i310 : Nat) => (SC.int (g1306 i310)))])) ∧
           (Exists (fun (g0311 : (Nat →
           Int)) => (Exists (fun (g1312 : (Nat →
           Int)) => ((ro116 = ro116 ∧
           (tLeafN = tLeafN ∧
           [(fun (j313 : Nat) => (SC.int (if j313 = (Int.toNat leaf) then ((tLeafg04 (Int.toNat leaf)) + (1 : Int)) else (tLeafg04 j313)))), (fun (j314 : Nat) => (SC.int (if j314 = (Int.toNat (((leaf / (4 : Int)) * (4 : Int)) + (1 : Int))) then (tagW key ((2000 : Int) + (((leaf / (4 : Int)) * (4 : Int)) + (1 : Int))) (g0293 (Int.toNat ((((leaf / (4 : Int)) * (4 : Int)) + (1 : Int)) / (4 : Int)))) (g0299 (Int.toNat (((leaf / (4 : Int)) * (4 : Int)) + (1 : Int))))) else (if j314 = (Int.toNat ((leaf / (4 : Int)) * (4 : Int))) then (tagW key ((2000 : Int) + ((leaf / (4 : Int)) * (4 : Int))) (g0281 (Int.toNat (((leaf / (4 : Int)) * (4 : Int)) / (4 : Int)))) (g0287 (Int.toNat ((leaf / (4 : Int)) * (4 : Int))))) else (tLeafg15 j314)))))] = [(fun (i315 : Nat) => (SC.int (g0311 i315))), (fun (i316 : Nat) => (SC.int (g1312 i316)))])) ∧
           (((0 ≤ (((((leaf / (4 : Int)) * (4 : Int)) + (1 : Int)) + (1 : Int)) / (4 : Int)) ∧ (((((leaf / (4 : Int)) * (4 : Int)) + (1 : Int)) + (1 : Int)) / (4 : Int)) < ((tMidN : Nat) : Int)) ∧
           ((0 ≤ ((((leaf / (4 : Int)) * (4 : Int)) + (1 : Int)) + (1 : Int)) ∧ ((((leaf / (4 : Int)) * (4 : Int)) + (1 : Int)) + (1 : Int)) < ((tLeafN : Nat) : Int)) ∧
           (tagC ((((leaf / (4 : Int)) * (4 : Int)) + (1 : Int)) + (1 : Int))))) ∧
           (True ∧
           (ro116 = ro116 ∧
           (tLeafN = tLeafN ∧
           ((0 ≤ ((((leaf / (4 : Int)) * (4 : Int)) + (1 : Int)) + (1 : Int)) ∧ ((((leaf / (4 : Int)) * (4 : Int)) + (1 : Int)) + (1 : Int)) < ((tLeafN : Nat) : Int)) ∧
           (ro116 = ro116 ∧
           ((Int.toNat ((((leaf / (4 : Int)) * (4 : Int)) + (1 : Int)) + (1 : Int))) < tLeafN ∧
           (ro116 = ro116 ∧
           ((Int.toNat ((((leaf / (4 : Int)) * (4 : Int)) + (1 : Int)) + (1 : Int))) < tLeafN ∧
           (True ∧
           ((rng (((((leaf / (4 : Int)) * (4 : Int)) + (1 : Int)) + (1 : Int)) + (1 : Int))) ∧
           ((rng ((leaf / (4 : Int)) + (1 : Int))) ∧
           ((rng (((leaf / (4 : Int)) + (1 : Int)) * (4 : Int))) ∧
           (((decide ((((((leaf / (4 : Int)) * (4 : Int)) + (1 : Int)) + (1 : Int)) + (1 : Int)) < (((leaf / (4 : Int)) + (1 : Int)) * (4 : Int)))) = Bool.true →
           (b18 = b18 ∧
            (b18 = b18 ∧
            (Exists (fun (g0317 : (Nat →
            Int)) => (Exists (fun (g1318 : (Nat →
            Int)) => ((ro014 = ro014 ∧
            (tMidN = tMidN ∧
            [(fun (j319 : Nat) => (SC.int (if j319 = (Int.toNat (leaf / (4 : Int))) then ((tMidg02 (Int.toNat (leaf / (4 : Int)))) + (1 : Int)) else (tMidg02 j319)))), (fun (i320 : Nat) => (SC.int (tMidg13 i320)))] = [(fun (i321 : Nat) => (SC.int (g0317 i321))), (fun (i322 : Nat) => (SC.int (g1318 i322)))])) ∧
            (Exists (fun (g0323 : (Nat →
            Int)) => (Exists (fun (g1324 : (Nat →
            Int)) => ((ro116 = ro116 ∧
            (tLeafN = tLeafN ∧
            [(fun (j325 : Nat) => (SC.int (if j325 = (Int.toNat leaf) then ((tLeafg04 (Int.toNat leaf)) + (1 : Int)) else (tLeafg04 j325)))), (fun (j326 : Nat) => (SC.int (if j326 = (Int.toNat ((((leaf / (4 : Int)) * (4 : Int)) + (1 : Int)) + (1 : Int))) then (tagW key ((2000 : Int) + ((((leaf / (4 : Int)) * (4 : Int)) + (1 : Int)) + (1 : Int))) (g0305 (Int.toNat (((((leaf / (4 : Int)) * (4 : Int)) + (1 : Int)) + (1 : Int)) / (4 : Int)))) (g0311 (Int.toNat ((((leaf / (4 : Int)) * (4 : Int)) + (1 : Int)) + (1 : Int))))) else (if j326 = (Int.toNat (((leaf / (4 : Int)) * (4 : Int)) + (1 : Int))) then (tagW key ((2000 : Int) + (((leaf / (4 : Int)) * (4 : Int)) + (1 : Int))) (g0293 (Int.toNat ((((leaf / (4 : Int)) * (4 : Int)) + (1 : Int)) / (4 : Int)))) (g0299 (Int.toNat (((leaf / (4 : Int)) * (4 : Int)) + (1 : Int))))) else (if j326 = (Int.toNat ((leaf / (4 : Int)) * (4 : Int))) then (tagW key ((2000 : Int) + ((leaf / (4 : Int)) * (4 : Int))) (g0281 (Int.toNat (((leaf / (4 : Int)) * (4 : Int)) / (4 : Int)))) (g0287 (Int.toNat ((leaf / (4 : Int)) * (4 : Int))))) else (tLeafg15 j326))))))] = [(fun (i327 : Nat) => (SC.int (g0323 i327))), (fun (i328 : Nat) => (SC.int (g1324 i328)))])) ∧
            (((0 ≤ ((((((leaf / (4 : Int)) * (4 : Int)) + (1 : Int)) + (1 : Int)) + (1 : Int)) / (4 : Int)) ∧ ((((((leaf / (4 : Int)) * (4 : Int)) + (1 : Int)) + (1 : Int)) + (1 : Int)) / (4 : Int)) < ((tMidN : Nat) : Int)) ∧
            ((0 ≤ (((((leaf / (4 : Int)) * (4 : Int)) + (1 : Int)) + (1 : Int)) + (1 : Int)) ∧ (((((leaf / (4 : Int)) * (4 : Int)) + (1 : Int)) + (1 : Int)) + (1 : Int)) < ((tLeafN : Nat) : Int)) ∧
            (tagC (((((leaf / (4 : Int)) * (4 : Int)) + (1 : Int)) + (1 : Int)) + (1 : Int))))) ∧
            (True ∧
            (ro116 = ro116 ∧
            (tLeafN = tLeafN ∧
            ((0 ≤ (((((leaf / (4 : Int)) * (4 : Int)) + (1 : Int)) + (1 : Int)) + (1 : Int)) ∧ (((((leaf / (4 : Int)) * (4 : Int)) + (1 : Int)) + (1 : Int)) + (1 : Int)) < ((tLeafN : Nat) : Int)) ∧
            (ro116 = ro116 ∧
            ((Int.toNat (((((leaf / (4 : Int)) * (4 : Int)) + (1 : Int)) + (1 : Int)) + (1 : Int))) < tLeafN ∧
            (ro116 = ro116 ∧
            ((Int.toNat (((((leaf / (4 : Int)) * (4 : Int)) + (1 : Int)) + (1 : Int)) + (1 : Int))) < tLeafN ∧
            (True ∧
            ((rng ((((((leaf / (4 : Int)) * (4 : Int)) + (1 : Int)) + (1 : Int)) + (1 : Int)) + (1 : Int))) ∧
            ((rng ((leaf / (4 : Int)) + (1 : Int))) ∧
            ((rng (((leaf / (4 : Int)) + (1 : Int)) * (4 : Int))) ∧
            (((decide (((((((leaf / (4 : Int)) * (4 : Int)) + (1 : Int)) + (1 : Int)) + (1 : Int)) + (1 : Int)) < (((leaf / (4 : Int)) + (1 : Int)) * (4 : Int)))) = Bool.true →
            (b18 = b18 ∧
             (b18 = b18 ∧
             (Exists (fun (g0329 : (Nat →
             Int)) => (Exists (fun (g1330 : (Nat →
             Int)) => ((ro014 = ro014 ∧
             (tMidN = tMidN ∧
             [(fun (j331 : Nat) => (SC.int (if j331 = (Int.toNat (leaf / (4 : Int))) then ((tMidg02 (Int.toNat (leaf / (4 : Int)))) + (1 : Int)) else (tMidg02 j331)))), (fun (i332 : Nat) => (SC.int (tMidg13 i332)))] = [(fun (i333 : Nat) => (SC.int (g0329 i333))), (fun (i334 : Nat) => (SC.int (g1330 i334)))])) ∧
             (Exists (fun (g0335 : (Nat →
             Int)) => (Exists (fun (g1336 : (Nat →
             Int)) => ((ro116 = ro116 ∧
             (tLeafN = tLeafN ∧
             [(fun (j337 : Nat) => (SC.int (if j337 = (Int.toNat leaf) then ((tLeafg04 (Int.toNat leaf)) + (1 : Int)) else (tLeafg04 j337)))), (fun (j338 : Nat) => (SC.int (if j338 = (Int.toNat (((((leaf / (4 : Int)) * (4 : Int)) + (1 : Int)) + (1 : Int)) + (1 : Int))) then (tagW key ((2000 : Int) + (((((leaf / (4 : Int)) * (4 : Int)) + (1 : Int)) + (1 : Int)) + (1 : Int))) (g0317 (Int.toNat ((((((leaf / (4 : Int)) * (4 : Int)) + (1 : Int)) + (1 : Int)) + (1 : Int)) / (4 : Int)))) (g0323 (Int.toNat (((((leaf / (4 : Int)) * (4 : Int)) + (1 : Int)) + (1 : Int)) + (1 : Int))))) else (if j338 = (Int.toNat ((((leaf / (4 : Int)) * (4 : Int)) + (1 : Int)) + (1 : Int))) then (tagW key ((2000 : Int) + ((((leaf / (4 : Int)) * (4 : Int)) + (1 : Int)) + (1 : Int))) (g0305 (Int.toNat (((((leaf / (4 : Int)) * (4 : Int)) + (1 : Int)) + (1 : Int)) / (4 : Int)))) (g0311 (Int.toNat ((((leaf / (4 : Int)) * (4 : Int)) + (1 : Int)) + (1 : Int))))) else (if j338 = (Int.toNat (((leaf / (4 : Int)) * (4 : Int)) + (1 : Int))) then (tagW key ((2000 : Int) + (((leaf / (4 : Int)) * (4 : Int)) + (1 : Int))) (g0293 (Int.toNat ((((leaf / (4 : Int)) * (4 : Int)) + (1 : Int)) / (4 : Int)))) (g0299 (Int.toNat (((leaf / (4 : Int)) * (4 : Int)) + (1 : Int))))) else (if j338 = (Int.toNat ((leaf / (4 : Int)) * (4 : Int))) then (tagW key ((2000 : Int) + ((leaf / (4 : Int)) * (4 : Int))) (g0281 (Int.toNat (((leaf / (4 : Int)) * (4 : Int)) / (4 : Int)))) (g0287 (Int.toNat ((leaf / (4 : Int)) * (4 : Int))))) else (tLeafg15 j338)))))))] = [(fun (i339 : Nat) => (SC.int (g0335 i339))), (fun (i340 : Nat) => (SC.int (g1336 i340)))])) ∧
             (((0 ≤ (((((((leaf / (4 : Int)) * (4 : Int)) + (1 : Int)) + (1 : Int)) + (1 : Int)) + (1 : Int)) / (4 : Int)) ∧ (((((((leaf / (4 : Int)) * (4 : Int)) + (1 : Int)) + (1 : Int)) + (1 : Int)) + (1 : Int)) / (4 : Int)) < ((tMidN : Nat) : Int)) ∧
             ((0 ≤ ((((((leaf / (4 : Int)) * (4 : Int)) + (1 : Int)) + (1 : Int)) + (1 : Int)) + (1 : Int)) ∧ ((((((leaf / (4 : Int)) * (4 : Int)) + (1 : Int)) + (1 : Int)) + (1 : Int)) + (1 : Int)) < ((tLeafN : Nat) : Int)) ∧
             (tagC ((((((leaf / (4 : Int)) * (4 : Int)) + (1 : Int)) + (1 : Int)) + (1 : Int)) + (1 : Int))))) ∧
             (True ∧
             (ro116 = ro116 ∧
             (tLeafN = tLeafN ∧
             ((0 ≤ ((((((leaf / (4 : Int)) * (4 : Int)) + (1 : Int)) + (1 : Int)) + (1 : Int)) + (1 : Int)) ∧ ((((((leaf / (4 : Int)) * (4 : Int)) + (1 : Int)) + (1 : Int)) + (1 : Int)) + (1 : Int)) < ((tLeafN : Nat) : Int)) ∧
             (ro116 = ro116 ∧
             ((Int.toNat ((((((leaf / (4 : Int)) * (4 : Int)) + (1 : Int)) + (1 : Int)) + (1 : Int)) + (1 : Int))) < tLeafN ∧
             (ro116 = ro116 ∧
             ((Int.toNat ((((((leaf / (4 : Int)) * (4 : Int)) + (1 : Int)) + (1 : Int)) + (1 : Int)) + (1 : Int))) < tLeafN ∧
             (True ∧
             ((rng (((((((leaf / (4 : Int)) * (4 : Int)) + (1 : Int)) + (1 : Int)) + (1 : Int)) + (1 : Int)) + (1 : Int))) ∧
             False)))))))))))))))))))))))) ∧
            ((decide (((((((leaf / (4 : Int)) * (4 : Int)) + (1 : Int)) + (1 : Int)) + (1 : Int)) + (1 : Int)) < (((leaf / (4 : Int)) + (1 : Int)) * (4 : Int)))) = Bool.false →
            (b18 = b18 ∧
             (b1 = b1 ∧
             (b1 = b1 ∧
             (Exists (fun (ro0341 : (Option Addr)) => (Exists (fun (rc0342 : Nat) => (Exists (fun (ro1343 : (Option Addr)) => (Exists (fun (rc1344 : Nat) => ((Value.tuple (List.toArray [(Value.agg (List.toArray [(Value.int IntKind.i64 (tRoot + (1 : Int))), (Value.slice ro014 tMidN rc015), (Value.slice ro116 tLeafN rc117)])), (Value.bool Bool.true)])) = (Value.tuple (List.toArray [(Value.agg (List.toArray [(Value.int IntKind.i64 (bR key tRoot tMidN tLeafN tMidg0 tMidg1 tLeafg0 tLeafg1 leaf)), (Value.slice ro0341 tMidN rc0342), (Value.slice ro1343 tLeafN rc1344)])), (Value.bool (bOk key tRoot tMidN tLeafN tMidg0 tMidg1 tLeafg0 tLeafg1 leaf))])) ∧
             (((Bool.true = Bool.true ∧
             (ro014 = ro0341 ∧
             (37 = 37 ∧
             (2 = 2 ∧
             (tMidN = tMidN ∧
             (rc015 = rc0342 ∧
             ((∀ i345 : Nat,
             (i345 < tMidN →
             (Value.int IntKind.i64 (if i345 = (Int.toNat (leaf / (4 : Int))) then ((tMidg02 (Int.toNat (leaf / (4 : Int)))) + (1 : Int)) else (tMidg02 i345))) = (Value.int IntKind.i64 (bMc key tRoot tMidN tLeafN tMidg0 tMidg1 tLeafg0 tLeafg1 leaf i345)))) ∧
             ((∀ i346 : Nat,
             (i346 < tMidN →
             (Value.int IntKind.i64 (tMidg13 i346)) = (Value.int IntKind.i64 (bMt key tRoot tMidN tLeafN tMidg0 tMidg1 tLeafg0 tLeafg1 leaf i346)))) ∧
             True)))))))) ∧
             ((Bool.true = Bool.true ∧
             (ro116 = ro1343 ∧
             (37 = 37 ∧
             (2 = 2 ∧
             (tLeafN = tLeafN ∧
             (rc117 = rc1344 ∧
             ((∀ i347 : Nat,
             (i347 < tLeafN →
             (Value.int IntKind.i64 (if i347 = (Int.toNat leaf) then ((tLeafg04 (Int.toNat leaf)) + (1 : Int)) else (tLeafg04 i347))) = (Value.int IntKind.i64 (bLc key tRoot tMidN tLeafN tMidg0 tMidg1 tLeafg0 tLeafg1 leaf i347)))) ∧
             ((∀ i348 : Nat,
             (i348 < tLeafN →
             (Value.int IntKind.i64 (if i348 = (Int.toNat (((((leaf / (4 : Int)) * (4 : Int)) + (1 : Int)) + (1 : Int)) + (1 : Int))) then (tagW key ((2000 : Int) + (((((leaf / (4 : Int)) * (4 : Int)) + (1 : Int)) + (1 : Int)) + (1 : Int))) (g0317 (Int.toNat ((((((leaf / (4 : Int)) * (4 : Int)) + (1 : Int)) + (1 : Int)) + (1 : Int)) / (4 : Int)))) (g0323 (Int.toNat (((((leaf / (4 : Int)) * (4 : Int)) + (1 : Int)) + (1 : Int)) + (1 : Int))))) else (if i348 = (Int.toNat ((((leaf / (4 : Int)) * (4 : Int)) + (1 : Int)) + (1 : Int))) then (tagW key ((2000 : Int) + ((((leaf / (4 : Int)) * (4 : Int)) + (1 : Int)) + (1 : Int))) (g0305 (Int.toNat (((((leaf / (4 : Int)) * (4 : Int)) + (1 : Int)) + (1 : Int)) / (4 : Int)))) (g0311 (Int.toNat ((((leaf / (4 : Int)) * (4 : Int)) + (1 : Int)) + (1 : Int))))) else (if i348 = (Int.toNat (((leaf / (4 : Int)) * (4 : Int)) + (1 : Int))) then (tagW key ((2000 : Int) + (((leaf / (4 : Int)) * (4 : Int)) + (1 : Int))) (g0293 (Int.toNat ((((leaf / (4 : Int)) * (4 : Int)) + (1 : Int)) / (4 : Int)))) (g0299 (Int.toNat (((leaf / (4 : Int)) * (4 : Int)) + (1 : Int))))) else (if i348 = (Int.toNat ((leaf / (4 : Int)) * (4 : Int))) then (tagW key ((2000 : Int) + ((leaf / (4 : Int)) * (4 : Int))) (g0281 (Int.toNat (((leaf / (4 : Int)) * (4 : Int)) / (4 : Int)))) (g0287 (Int.toNat ((leaf / (4 : Int)) * (4 : Int))))) else (tLeafg15 i348)))))) = (Value.int IntKind.i64 (bLt key tRoot tMidN tLeafN tMidg0 tMidg1 tLeafg0 tLeafg1 leaf i348)))) ∧
             True)))))))) ∧
             True)) ∧
             Bool.true = Bool.true))))))))))))))))))))))))))))))))))))))))) ∧
           ((decide ((((((leaf / (4 : Int)) * (4 : Int)) + (1 : Int)) + (1 : Int)) + (1 : Int)) < (((leaf / (4 : Int)) + (1 : Int)) * (4 : Int)))) = Bool.false →
           (b18 = b18 ∧
            (b1 = b1 ∧
            (b1 = b1 ∧
            (Exists (fun (ro0349 : (Option Addr)) => (Exists (fun (rc0350 : Nat) => (Exists (fun (ro1351 : (Option Addr)) => (Exists (fun (rc1352 : Nat) => ((Value.tuple (List.toArray [(Value.agg (List.toArray [(Value.int IntKind.i64 (tRoot + (1 : Int))), (Value.slice ro014 tMidN rc015), (Value.slice ro116 tLeafN rc117)])), (Value.bool Bool.true)])) = (Value.tuple (List.toArray [(Value.agg (List.toArray [(Value.int IntKind.i64 (bR key tRoot tMidN tLeafN tMidg0 tMidg1 tLeafg0 tLeafg1 leaf)), (Value.slice ro0349 tMidN rc0350), (Value.slice ro1351 tLeafN rc1352)])), (Value.bool (bOk key tRoot tMidN tLeafN tMidg0 tMidg1 tLeafg0 tLeafg1 leaf))])) ∧
            (((Bool.true = Bool.true ∧
            (ro014 = ro0349 ∧
            (37 = 37 ∧
            (2 = 2 ∧
            (tMidN = tMidN ∧
            (rc015 = rc0350 ∧
            ((∀ i353 : Nat,
            (i353 < tMidN →
            (Value.int IntKind.i64 (if i353 = (Int.toNat (leaf / (4 : Int))) then ((tMidg02 (Int.toNat (leaf / (4 : Int)))) + (1 : Int)) else (tMidg02 i353))) = (Value.int IntKind.i64 (bMc key tRoot tMidN tLeafN tMidg0 tMidg1 tLeafg0 tLeafg1 leaf i353)))) ∧
            ((∀ i354 : Nat,
            (i354 < tMidN →
            (Value.int IntKind.i64 (tMidg13 i354)) = (Value.int IntKind.i64 (bMt key tRoot tMidN tLeafN tMidg0 tMidg1 tLeafg0 tLeafg1 leaf i354)))) ∧
            True)))))))) ∧
            ((Bool.true = Bool.true ∧
            (ro116 = ro1351 ∧
            (37 = 37 ∧
            (2 = 2 ∧
            (tLeafN = tLeafN ∧
            (rc117 = rc1352 ∧
            ((∀ i355 : Nat,
            (i355 < tLeafN →
            (Value.int IntKind.i64 (if i355 = (Int.toNat leaf) then ((tLeafg04 (Int.toNat leaf)) + (1 : Int)) else (tLeafg04 i355))) = (Value.int IntKind.i64 (bLc key tRoot tMidN tLeafN tMidg0 tMidg1 tLeafg0 tLeafg1 leaf i355)))) ∧
            ((∀ i356 : Nat,
            (i356 < tLeafN →
            (Value.int IntKind.i64 (if i356 = (Int.toNat ((((leaf / (4 : Int)) * (4 : Int)) + (1 : Int)) + (1 : Int))) then (tagW key ((2000 : Int) + ((((leaf / (4 : Int)) * (4 : Int)) + (1 : Int)) + (1 : Int))) (g0305 (Int.toNat (((((leaf / (4 : Int)) * (4 : Int)) + (1 : Int)) + (1 : Int)) / (4 : Int)))) (g0311 (Int.toNat ((((leaf / (4 : Int)) * (4 : Int)) + (1 : Int)) + (1 : Int))))) else (if i356 = (Int.toNat (((leaf / (4 : Int)) * (4 : Int)) + (1 : Int))) then (tagW key ((2000 : Int) + (((leaf / (4 : Int)) * (4 : Int)) + (1 : Int))) (g0293 (Int.toNat ((((leaf / (4 : Int)) * (4 : Int)) + (1 : Int)) / (4 : Int)))) (g0299 (Int.toNat (((leaf / (4 : Int)) * (4 : Int)) + (1 : Int))))) else (if i356 = (Int.toNat ((leaf / (4 : Int)) * (4 : Int))) then (tagW key ((2000 : Int) + ((leaf / (4 : Int)) * (4 : Int))) (g0281 (Int.toNat (((leaf / (4 : Int)) * (4 : Int)) / (4 : Int)))) (g0287 (Int.toNat ((leaf / (4 : Int)) * (4 : Int))))) else (tLeafg15 i356))))) = (Value.int IntKind.i64 (bLt key tRoot tMidN tLeafN tMidg0 tMidg1 tLeafg0 tLeafg1 leaf i356)))) ∧
            True)))))))) ∧
            True)) ∧
            Bool.true = Bool.true))))))))))))))))))))))))))))))))))))))))) ∧
          ((decide (((((leaf / (4 : Int)) * (4 : Int)) + (1 : Int)) + (1 : Int)) < (((leaf / (4 : Int)) + (1 : Int)) * (4 : Int)))) = Bool.false →
          (b18 = b18 ∧
           (b1 = b1 ∧
           (b1 = b1 ∧
           (Exists (fun (ro0357 : (Option Addr)) => (Exists (fun (rc0358 : Nat) => (Exists (fun (ro1359 : (Option Addr)) => (Exists (fun (rc1360 : Nat) => ((Value.tuple (List.toArray [(Value.agg (List.toArray [(Value.int IntKind.i64 (tRoot + (1 : Int))), (Value.slice ro014 tMidN rc015), (Value.slice ro116 tLeafN rc117)])), (Value.bool Bool.true)])) = (Value.tuple (List.toArray [(Value.agg (List.toArray [(Value.int IntKind.i64 (bR key tRoot tMidN tLeafN tMidg0 tMidg1 tLeafg0 tLeafg1 leaf)), (Value.slice ro0357 tMidN rc0358), (Value.slice ro1359 tLeafN rc1360)])), (Value.bool (bOk key tRoot tMidN tLeafN tMidg0 tMidg1 tLeafg0 tLeafg1 leaf))])) ∧
           (((Bool.true = Bool.true ∧
           (ro014 = ro0357 ∧
           (37 = 37 ∧
           (2 = 2 ∧
           (tMidN = tMidN ∧
           (rc015 = rc0358 ∧
           ((∀ i361 : Nat,
           (i361 < tMidN →
           (Value.int IntKind.i64 (if i361 = (Int.toNat (leaf / (4 : Int))) then ((tMidg02 (Int.toNat (leaf / (4 : Int)))) + (1 : Int)) else (tMidg02 i361))) = (Value.int IntKind.i64 (bMc key tRoot tMidN tLeafN tMidg0 tMidg1 tLeafg0 tLeafg1 leaf i361)))) ∧
           ((∀ i362 : Nat,
           (i362 < tMidN →
           (Value.int IntKind.i64 (tMidg13 i362)) = (Value.int IntKind.i64 (bMt key tRoot tMidN tLeafN tMidg0 tMidg1 tLeafg0 tLeafg1 leaf i362)))) ∧
           True)))))))) ∧
           ((Bool.true = Bool.true ∧
           (ro116 = ro1359 ∧
           (37 = 37 ∧
           (2 = 2 ∧
           (tLeafN = tLeafN ∧
           (rc117 = rc1360 ∧
           ((∀ i363 : Nat,
           (i363 < tLeafN →
           (Value.int IntKind.i64 (if i363 = (Int.toNat leaf) then ((tLeafg04 (Int.toNat leaf)) + (1 : Int)) else (tLeafg04 i363))) = (Value.int IntKind.i64 (bLc key tRoot tMidN tLeafN tMidg0 tMidg1 tLeafg0 tLeafg1 leaf i363)))) ∧
           ((∀ i364 : Nat,
           (i364 < tLeafN →
           (Value.int IntKind.i64 (if i364 = (Int.toNat (((leaf / (4 : Int)) * (4 : Int)) + (1 : Int))) then (tagW key ((2000 : Int) + (((leaf / (4 : Int)) * (4 : Int)) + (1 : Int))) (g0293 (Int.toNat ((((leaf / (4 : Int)) * (4 : Int)) + (1 : Int)) / (4 : Int)))) (g0299 (Int.toNat (((leaf / (4 : Int)) * (4 : Int)) + (1 : Int))))) else (if i364 = (Int.toNat ((leaf / (4 : Int)) * (4 : Int))) then (tagW key ((2000 : Int) + ((leaf / (4 : Int)) * (4 : Int))) (g0281 (Int.toNat (((leaf / (4 : Int)) * (4 : Int)) / (4 : Int)))) (g0287 (Int.toNat ((leaf / (4 : Int)) * (4 : Int))))) else (tLeafg15 i364)))) = (Value.int IntKind.i64 (bLt key tRoot tMidN tLeafN tMidg0 tMidg1 tLeafg0 tLeafg1 leaf i364)))) ∧
           True)))))))) ∧
           True)) ∧
           Bool.true = Bool.true))))))))))))))))))))))))))))))))))))))))) ∧
         ((decide ((((leaf / (4 : Int)) * (4 : Int)) + (1 : Int)) < (((leaf / (4 : Int)) + (1 : Int)) * (4 : Int)))) = Bool.false →
         (b18 = b18 ∧
          (b1 = b1 ∧
          (b1 = b1 ∧
          (Exists (fun (ro0365 : (Option Addr)) => (Exists (fun (rc0366 : Nat) => (Exists (fun (ro1367 : (Option Addr)) => (Exists (fun (rc1368 : Nat) => ((Value.tuple (List.toArray [(Value.agg (List.toArray [(Value.int IntKind.i64 (tRoot + (1 : Int))), (Value.slice ro014 tMidN rc015), (Value.slice ro116 tLeafN rc117)])), (Value.bool Bool.true)])) = (Value.tuple (List.toArray [(Value.agg (List.toArray [(Value.int IntKind.i64 (bR key tRoot tMidN tLeafN tMidg0 tMidg1 tLeafg0 tLeafg1 leaf)), (Value.slice ro0365 tMidN rc0366), (Value.slice ro1367 tLeafN rc1368)])), (Value.bool (bOk key tRoot tMidN tLeafN tMidg0 tMidg1 tLeafg0 tLeafg1 leaf))])) ∧
          (((Bool.true = Bool.true ∧
          (ro014 = ro0365 ∧
          (37 = 37 ∧
          (2 = 2 ∧
          (tMidN = tMidN ∧
          (rc015 = rc0366 ∧
          ((∀ i369 : Nat,
          (i369 < tMidN →
          (Value.int IntKind.i64 (if i369 = (Int.toNat (leaf / (4 : Int))) then ((tMidg02 (Int.toNat (leaf / (4 : Int)))) + (1 : Int)) else (tMidg02 i369))) = (Value.int IntKind.i64 (bMc key tRoot tMidN tLeafN tMidg0 tMidg1 tLeafg0 tLeafg1 leaf i369)))) ∧
          ((∀ i370 : Nat,
          (i370 < tMidN →
          (Value.int IntKind.i64 (tMidg13 i370)) = (Value.int IntKind.i64 (bMt key tRoot tMidN tLeafN tMidg0 tMidg1 tLeafg0 tLeafg1 leaf i370)))) ∧
          True)))))))) ∧
          ((Bool.true = Bool.true ∧
          (ro116 = ro1367 ∧
          (37 = 37 ∧
          (2 = 2 ∧
          (tLeafN = tLeafN ∧
          (rc117 = rc1368 ∧
          ((∀ i371 : Nat,
          (i371 < tLeafN →
          (Value.int IntKind.i64 (if i371 = (Int.toNat leaf) then ((tLeafg04 (Int.toNat leaf)) + (1 : Int)) else (tLeafg04 i371))) = (Value.int IntKind.i64 (bLc key tRoot tMidN tLeafN tMidg0 tMidg1 tLeafg0 tLeafg1 leaf i371)))) ∧
          ((∀ i372 : Nat,
          (i372 < tLeafN →
          (Value.int IntKind.i64 (if i372 = (Int.toNat ((leaf / (4 : Int)) * (4 : Int))) then (tagW key ((2000 : Int) + ((leaf / (4 : Int)) * (4 : Int))) (g0281 (Int.toNat (((leaf / (4 : Int)) * (4 : Int)) / (4 : Int)))) (g0287 (Int.toNat ((leaf / (4 : Int)) * (4 : Int))))) else (tLeafg15 i372))) = (Value.int IntKind.i64 (bLt key tRoot tMidN tLeafN tMidg0 tMidg1 tLeafg0 tLeafg1 leaf i372)))) ∧
          True)))))))) ∧
          True)) ∧
          Bool.true = Bool.true))))))))))))))))))))))))))))))))))))))))) ∧
        ((decide (((leaf / (4 : Int)) * (4 : Int)) < (((leaf / (4 : Int)) + (1 : Int)) * (4 : Int)))) = Bool.false →
        (b18 = b18 ∧
         (b1 = b1 ∧
         (b1 = b1 ∧
         (Exists (fun (ro0373 : (Option Addr)) => (Exists (fun (rc0374 : Nat) => (Exists (fun (ro1375 : (Option Addr)) => (Exists (fun (rc1376 : Nat) => ((Value.tuple (List.toArray [(Value.agg (List.toArray [(Value.int IntKind.i64 (tRoot + (1 : Int))), (Value.slice ro014 tMidN rc015), (Value.slice ro116 tLeafN rc117)])), (Value.bool Bool.true)])) = (Value.tuple (List.toArray [(Value.agg (List.toArray [(Value.int IntKind.i64 (bR key tRoot tMidN tLeafN tMidg0 tMidg1 tLeafg0 tLeafg1 leaf)), (Value.slice ro0373 tMidN rc0374), (Value.slice ro1375 tLeafN rc1376)])), (Value.bool (bOk key tRoot tMidN tLeafN tMidg0 tMidg1 tLeafg0 tLeafg1 leaf))])) ∧
         (((Bool.true = Bool.true ∧
         (ro014 = ro0373 ∧
         (37 = 37 ∧
         (2 = 2 ∧
         (tMidN = tMidN ∧
         (rc015 = rc0374 ∧
         ((∀ i377 : Nat,
         (i377 < tMidN →
         (Value.int IntKind.i64 (if i377 = (Int.toNat (leaf / (4 : Int))) then ((tMidg02 (Int.toNat (leaf / (4 : Int)))) + (1 : Int)) else (tMidg02 i377))) = (Value.int IntKind.i64 (bMc key tRoot tMidN tLeafN tMidg0 tMidg1 tLeafg0 tLeafg1 leaf i377)))) ∧
         ((∀ i378 : Nat,
         (i378 < tMidN →
         (Value.int IntKind.i64 (tMidg13 i378)) = (Value.int IntKind.i64 (bMt key tRoot tMidN tLeafN tMidg0 tMidg1 tLeafg0 tLeafg1 leaf i378)))) ∧
         True)))))))) ∧
         ((Bool.true = Bool.true ∧
         (ro116 = ro1375 ∧
         (37 = 37 ∧
         (2 = 2 ∧
         (tLeafN = tLeafN ∧
         (rc117 = rc1376 ∧
         ((∀ i379 : Nat,
         (i379 < tLeafN →
         (Value.int IntKind.i64 (if i379 = (Int.toNat leaf) then ((tLeafg04 (Int.toNat leaf)) + (1 : Int)) else (tLeafg04 i379))) = (Value.int IntKind.i64 (bLc key tRoot tMidN tLeafN tMidg0 tMidg1 tLeafg0 tLeafg1 leaf i379)))) ∧
         ((∀ i380 : Nat,
         (i380 < tLeafN →
         (Value.int IntKind.i64 (tLeafg15 i380)) = (Value.int IntKind.i64 (bLt key tRoot tMidN tLeafN tMidg0 tMidg1 tLeafg0 tLeafg1 leaf i380)))) ∧
         True)))))))) ∧
         True)) ∧
         Bool.true = Bool.true)))))))))))))))))))))))))))))))) ∧
     ((decide ((if (Int.toNat (leaf / (4 : Int))) = (Int.toNat (leaf / (4 : Int))) then ((tMidg02 (Int.toNat (leaf / (4 : Int)))) + (1 : Int)) else (tMidg02 (Int.toNat (leaf / (4 : Int))))) > (1000000000 : Int))) = Bool.true →
     (b0 = b0 ∧
      (Exists (fun (tMidg0381 : (Nat →
      Int)) => (Exists (fun (tMidg1382 : (Nat →
      Int)) => (Exists (fun (tLeafg0383 : (Nat →
      Int)) => (Exists (fun (tLeafg1384 : (Nat →
      Int)) => ((tMidO = tMidO ∧
      (tMidN = tMidN ∧
      ([(fun (i385 : Nat) => (SC.int (tMidg0 i385))), (fun (i386 : Nat) => (SC.int (tMidg1 i386)))] = [(fun (i387 : Nat) => (SC.int (tMidg0381 i387))), (fun (i388 : Nat) => (SC.int (tMidg1382 i388)))] ∧
      (tLeafO = tLeafO ∧
      (tLeafN = tLeafN ∧
      ([(fun (i389 : Nat) => (SC.int (tLeafg0 i389))), (fun (i390 : Nat) => (SC.int (tLeafg1 i390)))] = [(fun (i391 : Nat) => (SC.int (tLeafg0383 i391))), (fun (i392 : Nat) => (SC.int (tLeafg1384 i392)))] ∧
      ((capC tMidN) ∧
      (capC tLeafN)))))))) ∧
      (∀ ro0393 : (Option Addr),
      (∀ rc0394 : Nat,
      (∀ ro1395 : (Option Addr),
      (∀ rc1396 : Nat,
      (b1 = b1 ∧
      (b1 = b1 ∧
      (Exists (fun (ro0397 : (Option Addr)) => (Exists (fun (rc0398 : Nat) => (Exists (fun (ro1399 : (Option Addr)) => (Exists (fun (rc1400 : Nat) => ((Value.tuple (List.toArray [(Value.agg (List.toArray [(Value.int IntKind.i64 tRoot), (Value.slice ro0393 tMidN rc0394), (Value.slice ro1395 tLeafN rc1396)])), (Value.bool Bool.false)])) = (Value.tuple (List.toArray [(Value.agg (List.toArray [(Value.int IntKind.i64 (bR key tRoot tMidN tLeafN tMidg0 tMidg1 tLeafg0 tLeafg1 leaf)), (Value.slice ro0397 tMidN rc0398), (Value.slice ro1399 tLeafN rc1400)])), (Value.bool (bOk key tRoot tMidN tLeafN tMidg0 tMidg1 tLeafg0 tLeafg1 leaf))])) ∧
      (((Bool.true = Bool.true ∧
      (ro0393 = ro0397 ∧
      (37 = 37 ∧
      (2 = 2 ∧
      (tMidN = tMidN ∧
      (rc0394 = rc0398 ∧
      ((∀ i401 : Nat,
      (i401 < tMidN →
      (Value.int IntKind.i64 (tMidg0381 i401)) = (Value.int IntKind.i64 (bMc key tRoot tMidN tLeafN tMidg0 tMidg1 tLeafg0 tLeafg1 leaf i401)))) ∧
      ((∀ i402 : Nat,
      (i402 < tMidN →
      (Value.int IntKind.i64 (tMidg1382 i402)) = (Value.int IntKind.i64 (bMt key tRoot tMidN tLeafN tMidg0 tMidg1 tLeafg0 tLeafg1 leaf i402)))) ∧
      True)))))))) ∧
      ((Bool.true = Bool.true ∧
      (ro1395 = ro1399 ∧
      (37 = 37 ∧
      (2 = 2 ∧
      (tLeafN = tLeafN ∧
      (rc1396 = rc1400 ∧
      ((∀ i403 : Nat,
      (i403 < tLeafN →
      (Value.int IntKind.i64 (tLeafg0383 i403)) = (Value.int IntKind.i64 (bLc key tRoot tMidN tLeafN tMidg0 tMidg1 tLeafg0 tLeafg1 leaf i403)))) ∧
      ((∀ i404 : Nat,
      (i404 < tLeafN →
      (Value.int IntKind.i64 (tLeafg1384 i404)) = (Value.int IntKind.i64 (bLt key tRoot tMidN tLeafN tMidg0 tMidg1 tLeafg0 tLeafg1 leaf i404)))) ∧
      True)))))))) ∧
      True)) ∧
      Bool.true = Bool.true))))))))))))))))))))))))))))))))))))) ∧
    ((decide ((tRoot + (1 : Int)) > (1000000000 : Int))) = Bool.true →
    (b0 = b0 ∧
     (Exists (fun (tMidg0405 : (Nat →
     Int)) => (Exists (fun (tMidg1406 : (Nat →
     Int)) => (Exists (fun (tLeafg0407 : (Nat →
     Int)) => (Exists (fun (tLeafg1408 : (Nat →
     Int)) => ((tMidO = tMidO ∧
     (tMidN = tMidN ∧
     ([(fun (i409 : Nat) => (SC.int (tMidg0 i409))), (fun (i410 : Nat) => (SC.int (tMidg1 i410)))] = [(fun (i411 : Nat) => (SC.int (tMidg0405 i411))), (fun (i412 : Nat) => (SC.int (tMidg1406 i412)))] ∧
     (tLeafO = tLeafO ∧
     (tLeafN = tLeafN ∧
     ([(fun (i413 : Nat) => (SC.int (tLeafg0 i413))), (fun (i414 : Nat) => (SC.int (tLeafg1 i414)))] = [(fun (i415 : Nat) => (SC.int (tLeafg0407 i415))), (fun (i416 : Nat) => (SC.int (tLeafg1408 i416)))] ∧
     ((capC tMidN) ∧
     (capC tLeafN)))))))) ∧
     (∀ ro0417 : (Option Addr),
     (∀ rc0418 : Nat,
     (∀ ro1419 : (Option Addr),
     (∀ rc1420 : Nat,
     (b1 = b1 ∧
     (b1 = b1 ∧
     (Exists (fun (ro0421 : (Option Addr)) => (Exists (fun (rc0422 : Nat) => (Exists (fun (ro1423 : (Option Addr)) => (Exists (fun (rc1424 : Nat) => ((Value.tuple (List.toArray [(Value.agg (List.toArray [(Value.int IntKind.i64 tRoot), (Value.slice ro0417 tMidN rc0418), (Value.slice ro1419 tLeafN rc1420)])), (Value.bool Bool.false)])) = (Value.tuple (List.toArray [(Value.agg (List.toArray [(Value.int IntKind.i64 (bR key tRoot tMidN tLeafN tMidg0 tMidg1 tLeafg0 tLeafg1 leaf)), (Value.slice ro0421 tMidN rc0422), (Value.slice ro1423 tLeafN rc1424)])), (Value.bool (bOk key tRoot tMidN tLeafN tMidg0 tMidg1 tLeafg0 tLeafg1 leaf))])) ∧
     (((Bool.true = Bool.true ∧
     (ro0417 = ro0421 ∧
     (37 = 37 ∧
     (2 = 2 ∧
     (tMidN = tMidN ∧
     (rc0418 = rc0422 ∧
     ((∀ i425 : Nat,
     (i425 < tMidN →
     (Value.int IntKind.i64 (tMidg0405 i425)) = (Value.int IntKind.i64 (bMc key tRoot tMidN tLeafN tMidg0 tMidg1 tLeafg0 tLeafg1 leaf i425)))) ∧
     ((∀ i426 : Nat,
     (i426 < tMidN →
     (Value.int IntKind.i64 (tMidg1406 i426)) = (Value.int IntKind.i64 (bMt key tRoot tMidN tLeafN tMidg0 tMidg1 tLeafg0 tLeafg1 leaf i426)))) ∧
     True)))))))) ∧
     ((Bool.true = Bool.true ∧
     (ro1419 = ro1423 ∧
     (37 = 37 ∧
     (2 = 2 ∧
     (tLeafN = tLeafN ∧
     (rc1420 = rc1424 ∧
     ((∀ i427 : Nat,
     (i427 < tLeafN →
     (Value.int IntKind.i64 (tLeafg0407 i427)) = (Value.int IntKind.i64 (bLc key tRoot tMidN tLeafN tMidg0 tMidg1 tLeafg0 tLeafg1 leaf i427)))) ∧
     ((∀ i428 : Nat,
     (i428 < tLeafN →
     (Value.int IntKind.i64 (tLeafg1408 i428)) = (Value.int IntKind.i64 (bLt key tRoot tMidN tLeafN tMidg0 tMidg1 tLeafg0 tLeafg1 leaf i428)))) ∧
     True)))))))) ∧
     True)) ∧
     Bool.true = Bool.true)))))))))))))))))))))))))))))))))))))))))))))))))))))))))))))))))))))))))))))) ∧
  ((!(btw leaf (0 : Int) (7 : Int))) = Bool.true →
  (b18 = b18 ∧
   (b1 = b1 ∧
   (b1 = b1 ∧
   (Exists (fun (ro0429 : (Option Addr)) => (Exists (fun (rc0430 : Nat) => (Exists (fun (ro1431 : (Option Addr)) => (Exists (fun (rc1432 : Nat) => ((Value.tuple (List.toArray [(Value.agg (List.toArray [(Value.int IntKind.i64 tRoot), (Value.slice ro014 tMidN rc015), (Value.slice ro116 tLeafN rc117)])), (Value.bool Bool.false)])) = (Value.tuple (List.toArray [(Value.agg (List.toArray [(Value.int IntKind.i64 (bR key tRoot tMidN tLeafN tMidg0 tMidg1 tLeafg0 tLeafg1 leaf)), (Value.slice ro0429 tMidN rc0430), (Value.slice ro1431 tLeafN rc1432)])), (Value.bool (bOk key tRoot tMidN tLeafN tMidg0 tMidg1 tLeafg0 tLeafg1 leaf))])) ∧
   (((Bool.true = Bool.true ∧
   (ro014 = ro0429 ∧
   (37 = 37 ∧
   (2 = 2 ∧
   (tMidN = tMidN ∧
   (rc015 = rc0430 ∧
   ((∀ i433 : Nat,
   (i433 < tMidN →
   (Value.int IntKind.i64 (tMidg02 i433)) = (Value.int IntKind.i64 (bMc key tRoot tMidN tLeafN tMidg0 tMidg1 tLeafg0 tLeafg1 leaf i433)))) ∧
   ((∀ i434 : Nat,
   (i434 < tMidN →
   (Value.int IntKind.i64 (tMidg13 i434)) = (Value.int IntKind.i64 (bMt key tRoot tMidN tLeafN tMidg0 tMidg1 tLeafg0 tLeafg1 leaf i434)))) ∧
   True)))))))) ∧
   ((Bool.true = Bool.true ∧
   (ro116 = ro1431 ∧
   (37 = 37 ∧
   (2 = 2 ∧
   (tLeafN = tLeafN ∧
   (rc117 = rc1432 ∧
   ((∀ i435 : Nat,
   (i435 < tLeafN →
   (Value.int IntKind.i64 (tLeafg04 i435)) = (Value.int IntKind.i64 (bLc key tRoot tMidN tLeafN tMidg0 tMidg1 tLeafg0 tLeafg1 leaf i435)))) ∧
   ((∀ i436 : Nat,
   (i436 < tLeafN →
   (Value.int IntKind.i64 (tLeafg15 i436)) = (Value.int IntKind.i64 (bLt key tRoot tMidN tLeafN tMidg0 tMidg1 tLeafg0 tLeafg1 leaf i436)))) ∧
   True)))))))) ∧
   True)) ∧
   Bool.true = Bool.true)))))))))))))))))))))))))))))))))) := by kernel_rfl
theorem bumpI_any (key : Int) (tRoot : Int) (tMidO : Option Addr) (tMidN tMidC : Nat) (tMidg0 tMidg1 : Nat → Int) (tLeafO : Option Addr) (tLeafN tLeafC : Nat) (tLeafg0 tLeafg1 : Nat → Int) (leaf : Int) (w : World) (hrtMid : Row.sat w ⟨false, tMidO, 0, 2, tMidN, 0, [fun i => .int (tMidg0 i), fun i => .int (tMidg1 i)]⟩) (hrtLeaf : Row.sat w ⟨false, tLeafO, 0, 2, tLeafN, 0, [fun i => .int (tLeafg0 i), fun i => .int (tLeafg1 i)]⟩) (hpre : capC tMidN ∧ capC tLeafN) : Calls Try.prog 12 #[.int .i64 key, .agg #[.int .i64 tRoot, .slice tMidO tMidN tMidC, .slice tLeafO tLeafN tLeafC], .int .i64 leaf] w fun e w' => ∃ (ro0 : Option Addr) (rc0 : Nat) (ro1 : Option Addr) (rc1 : Nat), e = .returned (.tuple #[.agg #[.int .i64 (bR key tRoot tMidN tLeafN tMidg0 tMidg1 tLeafg0 tLeafg1 leaf), .slice ro0 (tMidN) rc0, .slice ro1 (tLeafN) rc1], .bool (bOk key tRoot tMidN tLeafN tMidg0 tMidg1 tLeafg0 tLeafg1 leaf)]) ∧ HS ⟨w, fun _ => False⟩ [.row ⟨true, ro0, 37, 2, tMidN, rc0, [fun i => .int (bMc key tRoot tMidN tLeafN tMidg0 tMidg1 tLeafg0 tLeafg1 leaf i), fun i => .int (bMt key tRoot tMidN tLeafN tMidg0 tMidg1 tLeafg0 tLeafg1 leaf i)]⟩, .row ⟨true, ro1, 37, 2, tLeafN, rc1, [fun i => .int (bLc key tRoot tMidN tLeafN tMidg0 tMidg1 tLeafg0 tLeafg1 leaf i), fun i => .int (bLt key tRoot tMidN tLeafN tMidg0 tMidg1 tLeafg0 tLeafg1 leaf i)]⟩] w' := by
  refine fnB (tb := [(32, sCopyT), (33, sBtw), (13, sTOk), (30, sMidT), (31, sLeafT)]) (R' := [(11, 3), (16, 5)]) ⟨sCopyT_ok_copyI, sBtwI_ok, sTOk_ok_okI, sMidT_impl, sLeafT_impl, trivial⟩ Try.func12 (@Eq.mpr _ _ (bumpI_T key tRoot tMidO tMidN tMidC tMidg0 tMidg1 tLeafO tLeafN tLeafC tLeafg0 tLeafg1 leaf) ?_) (HS.rows (fun _ => False) [⟨false, tMidO, 0, 2, tMidN, 0, [fun i => .int (tMidg0 i), fun i => .int (tMidg1 i)]⟩, ⟨false, tLeafO, 0, 2, tLeafN, 0, [fun i => .int (tLeafg0 i), fun i => .int (tLeafg1 i)]⟩] (by simp; exact ⟨hrtMid, hrtLeaf⟩)) (fun v ch' w' ⟨ro0, rc0, ro1, rc1, hk⟩ hs => ⟨ro0, rc0, ro1, rc1, by rw [hk.1], hk.hs hs⟩)
  clear hrtMid hrtLeaf
  by_cases hok : bOk key tRoot tMidN tLeafN tMidg0 tMidg1 tLeafg0 tLeafg1 leaf = true
  · obtain ⟨hb, ht, h1, h2, h3⟩ := bOk_facts hok
    obtain ⟨hn, hm, hr, hmc, hlc⟩ := treeB_facts ht
    subst hn
    subst hm
    have hl : leaf = 0 ∨ leaf = 1 ∨ leaf = 2 ∨ leaf = 3 ∨ leaf = 4 ∨ leaf = 5 ∨ leaf = 6 ∨ leaf = 7 := by omega
    have m0 := hmc 0 (by omega)
    have m1 := hmc 1 (by omega)
    have l0 := hlc 0 (by omega)
    have l1 := hlc 1 (by omega)
    have l2 := hlc 2 (by omega)
    have l3 := hlc 3 (by omega)
    have l4 := hlc 4 (by omega)
    have l5 := hlc 5 (by omega)
    have l6 := hlc 6 (by omega)
    have l7 := hlc 7 (by omega)
    have hbt := btw_yes hb
    rcases hl with rfl | rfl | rfl | rfl | rfl | rfl | rfl | rfl
    all_goals simp at h2 h3
    all_goals
      repeat' (first
        | with_reducible exact rfl
        | exact True.intro
        | assumption
        | refine And.intro ?_ ?_
        | apply Exists.intro
        | (refine dT fun h => ?_; exfalso; simp at h; omega)
        | (refine dF fun h => ?_; exfalso; simp at h; omega)
        | (refine dT fun h => ?_; (try simp only [↓reduceIte] at h))
        | (refine dF fun h => ?_; (try simp only [↓reduceIte] at h))
        | (intro h; exfalso; simp [hbt, ht] at h; done)
        | intro _
        | omega
        | (simp; omega))
    all_goals first
      | (simp [bR, hok]; done)
      | (rename_i i hi; have hi2 : i = 0 ∨ i = 1 := (by omega); rcases hi2 with rfl | rfl <;> simp [bMc, bMt, bR, hok]; done)
      | (rename_i i hi; have hi2 : i = 0 ∨ i = 1 ∨ i = 2 ∨ i = 3 ∨ i = 4 ∨ i = 5 ∨ i = 6 ∨ i = 7 := (by omega); rcases hi2 with rfl | rfl | rfl | rfl | rfl | rfl | rfl | rfl <;> simp [bMc, bLc, bLt, hok]; done)
  · have hok : bOk key tRoot tMidN tLeafN tMidg0 tMidg1 tLeafg0 tLeafg1 leaf = false := by simpa using hok
    by_cases hbt : btw leaf 0 7 = true
    · by_cases ht : treeB key tRoot tMidN tLeafN tMidg0 tMidg1 tLeafg0 tLeafg1 = true
      · obtain ⟨hn, hm, hr, hmc, hlc⟩ := treeB_facts ht
        subst hn
        subst hm
        have hb := btw_facts hbt
        have m0 := hmc (leaf / 4).toNat (by omega)
        have l0 := hlc leaf.toNat (by omega)
        have hbad : tRoot + 1 > 1000000000 ∨ tMidg0 (leaf / 4).toNat + 1 > 1000000000 ∨ tLeafg0 leaf.toNat + 1 > 1000000000 := by
          simp [bOk, hbt, ht] at hok
          omega
        repeat' (first
          | with_reducible exact rfl
          | exact True.intro
          | assumption
          | refine And.intro ?_ ?_
          | apply Exists.intro
          | (refine dT fun h => ?_; exfalso; simp at h; omega)
          | (refine dF fun h => ?_; exfalso; simp at h; omega)
          | (refine dT fun h => ?_; (try simp only [↓reduceIte] at h))
          | (refine dF fun h => ?_; (try simp only [↓reduceIte] at h))
          | (intro h; exfalso; simp [hbt, ht] at h; done)
          | intro _
          | omega
          | (simp; omega))
        all_goals simp [bR, bMc, bMt, bLc, bLt, hok]
      · have ht : treeB key tRoot tMidN tLeafN tMidg0 tMidg1 tLeafg0 tLeafg1 = false := by simpa using ht
        repeat' (first
          | with_reducible exact rfl
          | exact True.intro
          | assumption
          | refine And.intro ?_ ?_
          | apply Exists.intro
          | (refine dT fun h => ?_; exfalso; simp at h; omega)
          | (refine dF fun h => ?_; exfalso; simp at h; omega)
          | (refine dT fun h => ?_; (try simp only [↓reduceIte] at h))
          | (refine dF fun h => ?_; (try simp only [↓reduceIte] at h))
          | (intro h; exfalso; simp [hbt, ht] at h; done)
          | intro _
          | omega
          | (simp; omega))
        all_goals simp [bR, bMc, bMt, bLc, bLt, hok]
    · have hbt : btw leaf 0 7 = false := by simpa using hbt
      have ht : True := True.intro
      repeat' (first
        | with_reducible exact rfl
        | exact True.intro
        | assumption
        | refine And.intro ?_ ?_
        | apply Exists.intro
        | (refine dT fun h => ?_; exfalso; simp at h; omega)
        | (refine dF fun h => ?_; exfalso; simp at h; omega)
        | (refine dT fun h => ?_; (try simp only [↓reduceIte] at h))
        | (refine dF fun h => ?_; (try simp only [↓reduceIte] at h))
        | (intro h; exfalso; simp [hbt, ht] at h; done)
        | intro _
        | omega
        | (simp; omega))
      all_goals simp [bR, bMc, bMt, bLc, bLt, hok]
def sBump : Sm := fun args ch kk =>
  match args with
  | [.a (.c c0), .a (.agg [c1, .sl i0 a0 n0 d0, .sl i1 a1 n1 d1]), .a (.c c2)] =>
    match ch[i0]?, ch[i1]?, ints [c0, c1, c2] with
    | some (.row r0), some (.row r1), some [key, tRoot, leaf] => ∃ tMidg0 tMidg1 tLeafg0 tLeafg1 : Nat → Int, (a0 = r0.ao ∧ n0 = r0.n ∧ r0.fld = [fun i => .int (tMidg0 i), fun i => .int (tMidg1 i)] ∧ a1 = r1.ao ∧ n1 = r1.n ∧ r1.fld = [fun i => .int (tLeafg0 i), fun i => .int (tLeafg1 i)] ∧ capC n0 ∧ capC n1) ∧ ∀ (ro0 : Option Addr) (rc0 : Nat), ∀ (ro1 : Option Addr) (rc1 : Nat), kk (.tup [.agg [.int (bR key tRoot n0 n1 tMidg0 tMidg1 tLeafg0 tLeafg1 leaf), .sl (ch.length) ro0 (n0) rc0, .sl (ch.length + 1) ro1 (n1) rc1], .c (.bool (bOk key tRoot n0 n1 tMidg0 tMidg1 tLeafg0 tLeafg1 leaf))]) (ch ++ [.row ⟨true, ro0, 37, 2, n0, rc0, [fun i => .int (bMc key tRoot n0 n1 tMidg0 tMidg1 tLeafg0 tLeafg1 leaf i), fun i => .int (bMt key tRoot n0 n1 tMidg0 tMidg1 tLeafg0 tLeafg1 leaf i)]⟩, .row ⟨true, ro1, 37, 2, n1, rc1, [fun i => .int (bLc key tRoot n0 n1 tMidg0 tMidg1 tLeafg0 tLeafg1 leaf i), fun i => .int (bLt key tRoot n0 n1 tMidg0 tMidg1 tLeafg0 tLeafg1 leaf i)]⟩]) []
    | _, _, _ => False
  | _ => False
theorem sBump_ok {f : FuncId} (hc : ∀ args w, (callFunc f args).run Try.prog w = .ok (.enter f args) w) (h : ∀ (key : Int) (tRoot : Int) (tMidO : Option Addr) (tMidN tMidC : Nat) (tMidg0 tMidg1 : Nat → Int) (tLeafO : Option Addr) (tLeafN tLeafC : Nat) (tLeafg0 tLeafg1 : Nat → Int) (leaf : Int) (w : World), Row.sat w ⟨false, tMidO, 0, 2, tMidN, 0, [fun i => .int (tMidg0 i), fun i => .int (tMidg1 i)]⟩ → Row.sat w ⟨false, tLeafO, 0, 2, tLeafN, 0, [fun i => .int (tLeafg0 i), fun i => .int (tLeafg1 i)]⟩ → capC tMidN ∧ capC tLeafN → Calls Try.prog f #[.int .i64 key, .agg #[.int .i64 tRoot, .slice tMidO tMidN tMidC, .slice tLeafO tLeafN tLeafC], .int .i64 leaf] w fun e w' => ∃ (ro0 : Option Addr) (rc0 : Nat) (ro1 : Option Addr) (rc1 : Nat), e = .returned (.tuple #[.agg #[.int .i64 (bR key tRoot tMidN tLeafN tMidg0 tMidg1 tLeafg0 tLeafg1 leaf), .slice ro0 (tMidN) rc0, .slice ro1 (tLeafN) rc1], .bool (bOk key tRoot tMidN tLeafN tMidg0 tMidg1 tLeafg0 tLeafg1 leaf)]) ∧ HS ⟨w, fun _ => False⟩ [.row ⟨true, ro0, 37, 2, tMidN, rc0, [fun i => .int (bMc key tRoot tMidN tLeafN tMidg0 tMidg1 tLeafg0 tLeafg1 leaf i), fun i => .int (bMt key tRoot tMidN tLeafN tMidg0 tMidg1 tLeafg0 tLeafg1 leaf i)]⟩, .row ⟨true, ro1, 37, 2, tLeafN, rc1, [fun i => .int (bLc key tRoot tMidN tLeafN tMidg0 tMidg1 tLeafg0 tLeafg1 leaf i), fun i => .int (bLt key tRoot tMidN tLeafN tMidg0 tMidg1 tLeafg0 tLeafg1 leaf i)]⟩] w') : SmOK Try.prog f sBump := by
  refine smN hc fun args ch kk w X h0 hs => ?_
  unfold sBump at h0
  split at h0
  · rename_i c0 c1 i0 a0 n0 d0 i1 a1 n1 d1 c2
    split at h0
    · rename_i r0 r1 key tRoot leaf hr0 hr1 hi
      obtain ⟨tMidg0, tMidg1, tLeafg0, tLeafg1, ⟨rfl, rfl, hf0, rfl, rfl, hf1, hpre⟩, h0⟩ := h0
      obtain ⟨ec0, hi⟩ := ints_cons hi
      obtain ⟨ec1, hi⟩ := ints_cons hi
      obtain ⟨ec2, hi⟩ := ints_cons hi
      refine Calls.mono (?_ : Calls Try.prog f _ w (fun e w' => ∃ (ro0 : Option Addr) (rc0 : Nat) (ro1 : Option Addr) (rc1 : Nat), e = .returned (.tuple #[.agg #[.int .i64 (bR key tRoot r0.n r1.n tMidg0 tMidg1 tLeafg0 tLeafg1 leaf), .slice ro0 (r0.n) rc0, .slice ro1 (r1.n) rc1], .bool (bOk key tRoot r0.n r1.n tMidg0 tMidg1 tLeafg0 tLeafg1 leaf)]) ∧ HS ⟨w, fun _ => False⟩ [.row ⟨true, ro0, 37, 2, r0.n, rc0, [fun i => .int (bMc key tRoot r0.n r1.n tMidg0 tMidg1 tLeafg0 tLeafg1 leaf i), fun i => .int (bMt key tRoot r0.n r1.n tMidg0 tMidg1 tLeafg0 tLeafg1 leaf i)]⟩, .row ⟨true, ro1, 37, 2, r1.n, rc1, [fun i => .int (bLc key tRoot r0.n r1.n tMidg0 tMidg1 tLeafg0 tLeafg1 leaf i), fun i => .int (bLt key tRoot r0.n r1.n tMidg0 tMidg1 tLeafg0 tLeafg1 leaf i)]⟩] w')) (fun e w' ⟨ro0, rc0, ro1, rc1, he, hs'⟩ => ⟨_, _, ?_, hs', rfl, h0 ro0 rc0 ro1 rc1⟩)
      · simp only [List.map_cons, List.map_nil, den_a, den_c, SA.den, den_sl, ec0, ec1, ec2]
        exact h key tRoot r0.ao r0.n d0 tMidg0 tMidg1 r1.ao r1.n d1 tLeafg0 tLeafg1 leaf w (Row.seenAs (hs.sat i0 _ hr0) hf0 rfl) (Row.seenAs (hs.sat i1 _ hr1) hf1 rfl) hpre
      · rw [he]
        rfl
    · exact h0.elim
  · exact h0.elim
theorem sBump_ok_bumpI : SmOK Try.prog 12 sBump := sBump_ok Try.call12 (fun key tRoot tMidO tMidN tMidC tMidg0 tMidg1 tLeafO tLeafN tLeafC tLeafg0 tLeafg1 leaf w h0 h1 hp => bumpI_any key tRoot tMidO tMidN tMidC tMidg0 tMidg1 tLeafO tLeafN tLeafC tLeafg0 tLeafg1 leaf w h0 h1 hp)
end Go.Proofs.Ytppeocfcdeiemaa
