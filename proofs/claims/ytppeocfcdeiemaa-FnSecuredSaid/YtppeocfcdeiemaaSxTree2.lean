/-
  Trees, copied and made, walked by symbols.
-/
import Derived.Test.YtppeocfcdeiemaaSxTree
namespace Go.Proofs.Ytppeocfcdeiemaa
set_option linter.unusedVariables false
set_option linter.unusedSimpArgs false
open Go.RowKit
set_option maxRecDepth 100000

theorem copyI_T (tRoot : Int) (tMidO : Option Addr) (tMidN tMidC : Nat) (tMidg0 tMidg1 : Nat → Int) (tLeafO : Option Addr) (tLeafN tLeafC : Nat) (tLeafg0 tLeafg1 : Nat → Int) : (exFn Try.prog {tb := []} 400 Try.f32 ([.a (.agg [.int tRoot, .sl 0 tMidO tMidN tMidC, .sl 1 tLeafO tLeafN tLeafC])]) ([.row ⟨false, tMidO, 0, 2, tMidN, 0, [fun i => .int (tMidg0 i), fun i => .int (tMidg1 i)]⟩, .row ⟨false, tLeafO, 0, 2, tLeafN, 0, [fun i => .int (tLeafg0 i), fun i => .int (tLeafg1 i)]⟩]) (fun v ch => ∃ (ro0 : Option Addr) (rc0 : Nat) (ro1 : Option Addr) (rc1 : Nat), OutR v ch (.agg #[.int .i64 (tRoot), .slice ro0 (tMidN) rc0, .slice ro1 (tLeafN) rc1]) [.row ⟨true, ro0, 37, 2, tMidN, rc0, [fun i => .int (tMidg0 i), fun i => .int (tMidg1 i)]⟩, .row ⟨true, ro1, 37, 2, tLeafN, rc1, [fun i => .int (tLeafg0 i), fun i => .int (tLeafg1 i)]⟩])) = (
  (∀ b0 : Nat,
  (∀ b1 : Nat,
  (b0 = b0 ∧
  (b0 = b0 ∧
  (b0 = b0 ∧
  ((∀ b2 : Nat,
  (True ∧
  (((b2 = b2 ∧
  ((tMidO = tMidO ∧
  tMidN = tMidN) ∧
  ((∀ i3 : Nat,
  Bool.true = Bool.true) ∧
  (apC 0 tMidN 16)))) ∧
  (∀ ao4 : (Option Addr),
  (∀ cap5 : Nat,
  (True ∧
  (∀ b6 : Nat,
  (True ∧
  ((b6 = b6 ∧
  ((tLeafO = tLeafO ∧
  tLeafN = tLeafN) ∧
  ((∀ i7 : Nat,
  Bool.true = Bool.true) ∧
  (apC 0 tLeafN 16)))) ∧
  (∀ ao8 : (Option Addr),
  (∀ cap9 : Nat,
  (True ∧
  (b1 = b1 ∧
  (True ∧
  (b1 = b1 ∧
  (Exists (fun (ro010 : (Option Addr)) => (Exists (fun (rc011 : Nat) => (Exists (fun (ro112 : (Option Addr)) => (Exists (fun (rc113 : Nat) => ((Value.agg (List.toArray [(Value.int IntKind.i64 tRoot), (Value.slice ao4 tMidN cap5), (Value.slice ao8 tLeafN cap9)])) = (Value.agg (List.toArray [(Value.int IntKind.i64 tRoot), (Value.slice ro010 tMidN rc011), (Value.slice ro112 tLeafN rc113)])) ∧
  (((Bool.true = Bool.true ∧
  (ao4 = ro010 ∧
  (37 = 37 ∧
  (2 = 2 ∧
  (tMidN = tMidN ∧
  (cap5 = rc011 ∧
  ((∀ i14 : Nat,
  (i14 < tMidN →
  (Value.int IntKind.i64 (tMidg0 i14)) = (Value.int IntKind.i64 (tMidg0 i14)))) ∧
  ((∀ i15 : Nat,
  (i15 < tMidN →
  (Value.int IntKind.i64 (tMidg1 i15)) = (Value.int IntKind.i64 (tMidg1 i15)))) ∧
  True)))))))) ∧
  ((Bool.true = Bool.true ∧
  (ao8 = ro112 ∧
  (37 = 37 ∧
  (2 = 2 ∧
  (tLeafN = tLeafN ∧
  (cap9 = rc113 ∧
  ((∀ i16 : Nat,
  (i16 < tLeafN →
  (Value.int IntKind.i64 (tLeafg0 i16)) = (Value.int IntKind.i64 (tLeafg0 i16)))) ∧
  ((∀ i17 : Nat,
  (i17 < tLeafN →
  (Value.int IntKind.i64 (tLeafg1 i17)) = (Value.int IntKind.i64 (tLeafg1 i17)))) ∧
  True)))))))) ∧
  True)) ∧
  Bool.true = Bool.true))))))))))))))))))))))) ∧
  (∀ b18 : Nat,
  (True ∧
  ((b2 = b2 ∧
  ((tMidO = tMidO ∧
  tMidN = tMidN) ∧
  ((∀ i19 : Nat,
  Bool.true = Bool.true) ∧
  (apC 0 tMidN 16)))) ∧
  (∀ ao20 : (Option Addr),
  (∀ cap21 : Nat,
  (True ∧
  ((b18 = b18 ∧
  ((tLeafO = tLeafO ∧
  tLeafN = tLeafN) ∧
  ((∀ i22 : Nat,
  Bool.true = Bool.true) ∧
  (apC 0 tLeafN 16)))) ∧
  (∀ ao23 : (Option Addr),
  (∀ cap24 : Nat,
  (True ∧
  (b1 = b1 ∧
  (True ∧
  (b1 = b1 ∧
  (Exists (fun (ro025 : (Option Addr)) => (Exists (fun (rc026 : Nat) => (Exists (fun (ro127 : (Option Addr)) => (Exists (fun (rc128 : Nat) => ((Value.agg (List.toArray [(Value.int IntKind.i64 tRoot), (Value.slice ao20 tMidN cap21), (Value.slice ao23 tLeafN cap24)])) = (Value.agg (List.toArray [(Value.int IntKind.i64 tRoot), (Value.slice ro025 tMidN rc026), (Value.slice ro127 tLeafN rc128)])) ∧
  (((Bool.true = Bool.true ∧
  (ao20 = ro025 ∧
  (37 = 37 ∧
  (2 = 2 ∧
  (tMidN = tMidN ∧
  (cap21 = rc026 ∧
  ((∀ i29 : Nat,
  (i29 < tMidN →
  (Value.int IntKind.i64 (tMidg0 i29)) = (Value.int IntKind.i64 (tMidg0 i29)))) ∧
  ((∀ i30 : Nat,
  (i30 < tMidN →
  (Value.int IntKind.i64 (tMidg1 i30)) = (Value.int IntKind.i64 (tMidg1 i30)))) ∧
  True)))))))) ∧
  ((Bool.true = Bool.true ∧
  (ao23 = ro127 ∧
  (37 = 37 ∧
  (2 = 2 ∧
  (tLeafN = tLeafN ∧
  (cap24 = rc128 ∧
  ((∀ i31 : Nat,
  (i31 < tLeafN →
  (Value.int IntKind.i64 (tLeafg0 i31)) = (Value.int IntKind.i64 (tLeafg0 i31)))) ∧
  ((∀ i32 : Nat,
  (i32 < tLeafN →
  (Value.int IntKind.i64 (tLeafg1 i32)) = (Value.int IntKind.i64 (tLeafg1 i32)))) ∧
  True)))))))) ∧
  True)) ∧
  Bool.true = Bool.true)))))))))))))))))))))))))) ∧
  (∀ b33 : Nat,
  (True ∧
  (∀ b34 : Nat,
  (True ∧
  ((b34 = b34 ∧
  ((tMidO = tMidO ∧
  tMidN = tMidN) ∧
  ((∀ i35 : Nat,
  Bool.true = Bool.true) ∧
  (apC 0 tMidN 16)))) ∧
  (∀ ao36 : (Option Addr),
  (∀ cap37 : Nat,
  (True ∧
  ((b33 = b33 ∧
  ((tLeafO = tLeafO ∧
  tLeafN = tLeafN) ∧
  ((∀ i38 : Nat,
  Bool.true = Bool.true) ∧
  (apC 0 tLeafN 16)))) ∧
  (∀ ao39 : (Option Addr),
  (∀ cap40 : Nat,
  (True ∧
  (b1 = b1 ∧
  (True ∧
  (b1 = b1 ∧
  (Exists (fun (ro041 : (Option Addr)) => (Exists (fun (rc042 : Nat) => (Exists (fun (ro143 : (Option Addr)) => (Exists (fun (rc144 : Nat) => ((Value.agg (List.toArray [(Value.int IntKind.i64 tRoot), (Value.slice ao36 tMidN cap37), (Value.slice ao39 tLeafN cap40)])) = (Value.agg (List.toArray [(Value.int IntKind.i64 tRoot), (Value.slice ro041 tMidN rc042), (Value.slice ro143 tLeafN rc144)])) ∧
  (((Bool.true = Bool.true ∧
  (ao36 = ro041 ∧
  (37 = 37 ∧
  (2 = 2 ∧
  (tMidN = tMidN ∧
  (cap37 = rc042 ∧
  ((∀ i45 : Nat,
  (i45 < tMidN →
  (Value.int IntKind.i64 (tMidg0 i45)) = (Value.int IntKind.i64 (tMidg0 i45)))) ∧
  ((∀ i46 : Nat,
  (i46 < tMidN →
  (Value.int IntKind.i64 (tMidg1 i46)) = (Value.int IntKind.i64 (tMidg1 i46)))) ∧
  True)))))))) ∧
  ((Bool.true = Bool.true ∧
  (ao39 = ro143 ∧
  (37 = 37 ∧
  (2 = 2 ∧
  (tLeafN = tLeafN ∧
  (cap40 = rc144 ∧
  ((∀ i47 : Nat,
  (i47 < tLeafN →
  (Value.int IntKind.i64 (tLeafg0 i47)) = (Value.int IntKind.i64 (tLeafg0 i47)))) ∧
  ((∀ i48 : Nat,
  (i48 < tLeafN →
  (Value.int IntKind.i64 (tLeafg1 i48)) = (Value.int IntKind.i64 (tLeafg1 i48)))) ∧
  True)))))))) ∧
  True)) ∧
  Bool.true = Bool.true)))))))))))))))))))))))))))))))) := by kernel_rfl
theorem copyI_any (tRoot : Int) (tMidO : Option Addr) (tMidN tMidC : Nat) (tMidg0 tMidg1 : Nat → Int) (tLeafO : Option Addr) (tLeafN tLeafC : Nat) (tLeafg0 tLeafg1 : Nat → Int) (w : World) (hrtMid : Row.sat w ⟨false, tMidO, 0, 2, tMidN, 0, [fun i => .int (tMidg0 i), fun i => .int (tMidg1 i)]⟩) (hrtLeaf : Row.sat w ⟨false, tLeafO, 0, 2, tLeafN, 0, [fun i => .int (tLeafg0 i), fun i => .int (tLeafg1 i)]⟩) (hpre : capC tMidN ∧ capC tLeafN) : Calls Try.prog 32 #[.agg #[.int .i64 tRoot, .slice tMidO tMidN tMidC, .slice tLeafO tLeafN tLeafC]] w fun e w' => ∃ (ro0 : Option Addr) (rc0 : Nat) (ro1 : Option Addr) (rc1 : Nat), e = .returned (.agg #[.int .i64 (tRoot), .slice ro0 (tMidN) rc0, .slice ro1 (tLeafN) rc1]) ∧ HS ⟨w, fun _ => False⟩ [.row ⟨true, ro0, 37, 2, tMidN, rc0, [fun i => .int (tMidg0 i), fun i => .int (tMidg1 i)]⟩, .row ⟨true, ro1, 37, 2, tLeafN, rc1, [fun i => .int (tLeafg0 i), fun i => .int (tLeafg1 i)]⟩] w' := by
  refine fnB (tb := []) trivial Try.func32 (@Eq.mpr _ _ (copyI_T tRoot tMidO tMidN tMidC tMidg0 tMidg1 tLeafO tLeafN tLeafC tLeafg0 tLeafg1) ?_) (HS.rows (fun _ => False) [⟨false, tMidO, 0, 2, tMidN, 0, [fun i => .int (tMidg0 i), fun i => .int (tMidg1 i)]⟩, ⟨false, tLeafO, 0, 2, tLeafN, 0, [fun i => .int (tLeafg0 i), fun i => .int (tLeafg1 i)]⟩] (by simp; exact ⟨hrtMid, hrtLeaf⟩)) (fun v ch' w' ⟨ro0, rc0, ro1, rc1, hk⟩ hs => ⟨ro0, rc0, ro1, rc1, by rw [hk.1], hk.hs hs⟩)
  clear hrtMid hrtLeaf
  repeat' (first
    | exact rfl
    | exact True.intro
    | refine And.intro ?_ ?_
    | apply Exists.intro
    | assumption
    | omega
    | intro _)
theorem copyS_T (tRoot : Int) (tMidO : Option Addr) (tMidN tMidC : Nat) (tMidg0 tMidg1 : Nat → Int) (tLeafO : Option Addr) (tLeafN tLeafC : Nat) (tLeafg0 tLeafg1 : Nat → Int) : (exFn Try.prog {tb := []} 400 Try.f37 ([.a (.agg [.int tRoot, .sl 0 tMidO tMidN tMidC, .sl 1 tLeafO tLeafN tLeafC])]) ([.row ⟨false, tMidO, 0, 2, tMidN, 0, [fun i => .int (tMidg0 i), fun i => .int (tMidg1 i)]⟩, .row ⟨false, tLeafO, 0, 2, tLeafN, 0, [fun i => .int (tLeafg0 i), fun i => .int (tLeafg1 i)]⟩]) (fun v ch => ∃ (ro0 : Option Addr) (rc0 : Nat) (ro1 : Option Addr) (rc1 : Nat), OutR v ch (.agg #[.int .i64 (tRoot), .slice ro0 (tMidN) rc0, .slice ro1 (tLeafN) rc1]) [.row ⟨true, ro0, 37, 2, tMidN, rc0, [fun i => .int (tMidg0 i), fun i => .int (tMidg1 i)]⟩, .row ⟨true, ro1, 37, 2, tLeafN, rc1, [fun i => .int (tLeafg0 i), fun i => .int (tLeafg1 i)]⟩])) = (
  (∀ b0 : Nat,
  (∀ b1 : Nat,
  (b0 = b0 ∧
  (b0 = b0 ∧
  (b0 = b0 ∧
  ((∀ b2 : Nat,
  (True ∧
  (((b2 = b2 ∧
  ((tMidO = tMidO ∧
  tMidN = tMidN) ∧
  ((∀ i3 : Nat,
  Bool.true = Bool.true) ∧
  (apC 0 tMidN 16)))) ∧
  (∀ ao4 : (Option Addr),
  (∀ cap5 : Nat,
  (True ∧
  (∀ b6 : Nat,
  (True ∧
  ((b6 = b6 ∧
  ((tLeafO = tLeafO ∧
  tLeafN = tLeafN) ∧
  ((∀ i7 : Nat,
  Bool.true = Bool.true) ∧
  (apC 0 tLeafN 16)))) ∧
  (∀ ao8 : (Option Addr),
  (∀ cap9 : Nat,
  (True ∧
  (b1 = b1 ∧
  (True ∧
  (b1 = b1 ∧
  (Exists (fun (ro010 : (Option Addr)) => (Exists (fun (rc011 : Nat) => (Exists (fun (ro112 : (Option Addr)) => (Exists (fun (rc113 : Nat) => ((Value.agg (List.toArray [(Value.int IntKind.i64 tRoot), (Value.slice ao4 tMidN cap5), (Value.slice ao8 tLeafN cap9)])) = (Value.agg (List.toArray [(Value.int IntKind.i64 tRoot), (Value.slice ro010 tMidN rc011), (Value.slice ro112 tLeafN rc113)])) ∧
  (((Bool.true = Bool.true ∧
  (ao4 = ro010 ∧
  (37 = 37 ∧
  (2 = 2 ∧
  (tMidN = tMidN ∧
  (cap5 = rc011 ∧
  ((∀ i14 : Nat,
  (i14 < tMidN →
  (Value.int IntKind.i64 (tMidg0 i14)) = (Value.int IntKind.i64 (tMidg0 i14)))) ∧
  ((∀ i15 : Nat,
  (i15 < tMidN →
  (Value.int IntKind.i64 (tMidg1 i15)) = (Value.int IntKind.i64 (tMidg1 i15)))) ∧
  True)))))))) ∧
  ((Bool.true = Bool.true ∧
  (ao8 = ro112 ∧
  (37 = 37 ∧
  (2 = 2 ∧
  (tLeafN = tLeafN ∧
  (cap9 = rc113 ∧
  ((∀ i16 : Nat,
  (i16 < tLeafN →
  (Value.int IntKind.i64 (tLeafg0 i16)) = (Value.int IntKind.i64 (tLeafg0 i16)))) ∧
  ((∀ i17 : Nat,
  (i17 < tLeafN →
  (Value.int IntKind.i64 (tLeafg1 i17)) = (Value.int IntKind.i64 (tLeafg1 i17)))) ∧
  True)))))))) ∧
  True)) ∧
  Bool.true = Bool.true))))))))))))))))))))))) ∧
  (∀ b18 : Nat,
  (True ∧
  ((b2 = b2 ∧
  ((tMidO = tMidO ∧
  tMidN = tMidN) ∧
  ((∀ i19 : Nat,
  Bool.true = Bool.true) ∧
  (apC 0 tMidN 16)))) ∧
  (∀ ao20 : (Option Addr),
  (∀ cap21 : Nat,
  (True ∧
  ((b18 = b18 ∧
  ((tLeafO = tLeafO ∧
  tLeafN = tLeafN) ∧
  ((∀ i22 : Nat,
  Bool.true = Bool.true) ∧
  (apC 0 tLeafN 16)))) ∧
  (∀ ao23 : (Option Addr),
  (∀ cap24 : Nat,
  (True ∧
  (b1 = b1 ∧
  (True ∧
  (b1 = b1 ∧
  (Exists (fun (ro025 : (Option Addr)) => (Exists (fun (rc026 : Nat) => (Exists (fun (ro127 : (Option Addr)) => (Exists (fun (rc128 : Nat) => ((Value.agg (List.toArray [(Value.int IntKind.i64 tRoot), (Value.slice ao20 tMidN cap21), (Value.slice ao23 tLeafN cap24)])) = (Value.agg (List.toArray [(Value.int IntKind.i64 tRoot), (Value.slice ro025 tMidN rc026), (Value.slice ro127 tLeafN rc128)])) ∧
  (((Bool.true = Bool.true ∧
  (ao20 = ro025 ∧
  (37 = 37 ∧
  (2 = 2 ∧
  (tMidN = tMidN ∧
  (cap21 = rc026 ∧
  ((∀ i29 : Nat,
  (i29 < tMidN →
  (Value.int IntKind.i64 (tMidg0 i29)) = (Value.int IntKind.i64 (tMidg0 i29)))) ∧
  ((∀ i30 : Nat,
  (i30 < tMidN →
  (Value.int IntKind.i64 (tMidg1 i30)) = (Value.int IntKind.i64 (tMidg1 i30)))) ∧
  True)))))))) ∧
  ((Bool.true = Bool.true ∧
  (ao23 = ro127 ∧
  (37 = 37 ∧
  (2 = 2 ∧
  (tLeafN = tLeafN ∧
  (cap24 = rc128 ∧
  ((∀ i31 : Nat,
  (i31 < tLeafN →
  (Value.int IntKind.i64 (tLeafg0 i31)) = (Value.int IntKind.i64 (tLeafg0 i31)))) ∧
  ((∀ i32 : Nat,
  (i32 < tLeafN →
  (Value.int IntKind.i64 (tLeafg1 i32)) = (Value.int IntKind.i64 (tLeafg1 i32)))) ∧
  True)))))))) ∧
  True)) ∧
  Bool.true = Bool.true)))))))))))))))))))))))))) ∧
  (∀ b33 : Nat,
  (True ∧
  (∀ b34 : Nat,
  (True ∧
  ((b34 = b34 ∧
  ((tMidO = tMidO ∧
  tMidN = tMidN) ∧
  ((∀ i35 : Nat,
  Bool.true = Bool.true) ∧
  (apC 0 tMidN 16)))) ∧
  (∀ ao36 : (Option Addr),
  (∀ cap37 : Nat,
  (True ∧
  ((b33 = b33 ∧
  ((tLeafO = tLeafO ∧
  tLeafN = tLeafN) ∧
  ((∀ i38 : Nat,
  Bool.true = Bool.true) ∧
  (apC 0 tLeafN 16)))) ∧
  (∀ ao39 : (Option Addr),
  (∀ cap40 : Nat,
  (True ∧
  (b1 = b1 ∧
  (True ∧
  (b1 = b1 ∧
  (Exists (fun (ro041 : (Option Addr)) => (Exists (fun (rc042 : Nat) => (Exists (fun (ro143 : (Option Addr)) => (Exists (fun (rc144 : Nat) => ((Value.agg (List.toArray [(Value.int IntKind.i64 tRoot), (Value.slice ao36 tMidN cap37), (Value.slice ao39 tLeafN cap40)])) = (Value.agg (List.toArray [(Value.int IntKind.i64 tRoot), (Value.slice ro041 tMidN rc042), (Value.slice ro143 tLeafN rc144)])) ∧
  (((Bool.true = Bool.true ∧
  (ao36 = ro041 ∧
  (37 = 37 ∧
  (2 = 2 ∧
  (tMidN = tMidN ∧
  (cap37 = rc042 ∧
  ((∀ i45 : Nat,
  (i45 < tMidN →
  (Value.int IntKind.i64 (tMidg0 i45)) = (Value.int IntKind.i64 (tMidg0 i45)))) ∧
  ((∀ i46 : Nat,
  (i46 < tMidN →
  (Value.int IntKind.i64 (tMidg1 i46)) = (Value.int IntKind.i64 (tMidg1 i46)))) ∧
  True)))))))) ∧
  ((Bool.true = Bool.true ∧
  (ao39 = ro143 ∧
  (37 = 37 ∧
  (2 = 2 ∧
  (tLeafN = tLeafN ∧
  (cap40 = rc144 ∧
  ((∀ i47 : Nat,
  (i47 < tLeafN →
  (Value.int IntKind.i64 (tLeafg0 i47)) = (Value.int IntKind.i64 (tLeafg0 i47)))) ∧
  ((∀ i48 : Nat,
  (i48 < tLeafN →
  (Value.int IntKind.i64 (tLeafg1 i48)) = (Value.int IntKind.i64 (tLeafg1 i48)))) ∧
  True)))))))) ∧
  True)) ∧
  Bool.true = Bool.true)))))))))))))))))))))))))))))))) := by kernel_rfl
theorem copyS_any (tRoot : Int) (tMidO : Option Addr) (tMidN tMidC : Nat) (tMidg0 tMidg1 : Nat → Int) (tLeafO : Option Addr) (tLeafN tLeafC : Nat) (tLeafg0 tLeafg1 : Nat → Int) (w : World) (hrtMid : Row.sat w ⟨false, tMidO, 0, 2, tMidN, 0, [fun i => .int (tMidg0 i), fun i => .int (tMidg1 i)]⟩) (hrtLeaf : Row.sat w ⟨false, tLeafO, 0, 2, tLeafN, 0, [fun i => .int (tLeafg0 i), fun i => .int (tLeafg1 i)]⟩) (hpre : capC tMidN ∧ capC tLeafN) : Calls Try.prog 37 #[.agg #[.int .i64 tRoot, .slice tMidO tMidN tMidC, .slice tLeafO tLeafN tLeafC]] w fun e w' => ∃ (ro0 : Option Addr) (rc0 : Nat) (ro1 : Option Addr) (rc1 : Nat), e = .returned (.agg #[.int .i64 (tRoot), .slice ro0 (tMidN) rc0, .slice ro1 (tLeafN) rc1]) ∧ HS ⟨w, fun _ => False⟩ [.row ⟨true, ro0, 37, 2, tMidN, rc0, [fun i => .int (tMidg0 i), fun i => .int (tMidg1 i)]⟩, .row ⟨true, ro1, 37, 2, tLeafN, rc1, [fun i => .int (tLeafg0 i), fun i => .int (tLeafg1 i)]⟩] w' := by
  refine fnB (tb := []) trivial Try.func37 (@Eq.mpr _ _ (copyS_T tRoot tMidO tMidN tMidC tMidg0 tMidg1 tLeafO tLeafN tLeafC tLeafg0 tLeafg1) ?_) (HS.rows (fun _ => False) [⟨false, tMidO, 0, 2, tMidN, 0, [fun i => .int (tMidg0 i), fun i => .int (tMidg1 i)]⟩, ⟨false, tLeafO, 0, 2, tLeafN, 0, [fun i => .int (tLeafg0 i), fun i => .int (tLeafg1 i)]⟩] (by simp; exact ⟨hrtMid, hrtLeaf⟩)) (fun v ch' w' ⟨ro0, rc0, ro1, rc1, hk⟩ hs => ⟨ro0, rc0, ro1, rc1, by rw [hk.1], hk.hs hs⟩)
  clear hrtMid hrtLeaf
  repeat' (first
    | exact rfl
    | exact True.intro
    | refine And.intro ?_ ?_
    | apply Exists.intro
    | assumption
    | omega
    | intro _)
def sCopyT : Sm := fun args ch kk =>
  match args with
  | [.a (.agg [c0, .sl i0 a0 n0 d0, .sl i1 a1 n1 d1])] =>
    match ch[i0]?, ch[i1]?, ints [c0] with
    | some (.row r0), some (.row r1), some [tRoot] => ∃ tMidg0 tMidg1 tLeafg0 tLeafg1 : Nat → Int, (a0 = r0.ao ∧ n0 = r0.n ∧ r0.fld = [fun i => .int (tMidg0 i), fun i => .int (tMidg1 i)] ∧ a1 = r1.ao ∧ n1 = r1.n ∧ r1.fld = [fun i => .int (tLeafg0 i), fun i => .int (tLeafg1 i)] ∧ capC n0 ∧ capC n1) ∧ ∀ (ro0 : Option Addr) (rc0 : Nat), ∀ (ro1 : Option Addr) (rc1 : Nat), kk (.a (.agg [.int (tRoot), .sl (ch.length) ro0 (n0) rc0, .sl (ch.length + 1) ro1 (n1) rc1])) (ch ++ [.row ⟨true, ro0, 37, 2, n0, rc0, [fun i => .int (tMidg0 i), fun i => .int (tMidg1 i)]⟩, .row ⟨true, ro1, 37, 2, n1, rc1, [fun i => .int (tLeafg0 i), fun i => .int (tLeafg1 i)]⟩]) []
    | _, _, _ => False
  | _ => False
theorem sCopyT_ok {f : FuncId} (hc : ∀ args w, (callFunc f args).run Try.prog w = .ok (.enter f args) w) (h : ∀ (tRoot : Int) (tMidO : Option Addr) (tMidN tMidC : Nat) (tMidg0 tMidg1 : Nat → Int) (tLeafO : Option Addr) (tLeafN tLeafC : Nat) (tLeafg0 tLeafg1 : Nat → Int) (w : World), Row.sat w ⟨false, tMidO, 0, 2, tMidN, 0, [fun i => .int (tMidg0 i), fun i => .int (tMidg1 i)]⟩ → Row.sat w ⟨false, tLeafO, 0, 2, tLeafN, 0, [fun i => .int (tLeafg0 i), fun i => .int (tLeafg1 i)]⟩ → capC tMidN ∧ capC tLeafN → Calls Try.prog f #[.agg #[.int .i64 tRoot, .slice tMidO tMidN tMidC, .slice tLeafO tLeafN tLeafC]] w fun e w' => ∃ (ro0 : Option Addr) (rc0 : Nat) (ro1 : Option Addr) (rc1 : Nat), e = .returned (.agg #[.int .i64 (tRoot), .slice ro0 (tMidN) rc0, .slice ro1 (tLeafN) rc1]) ∧ HS ⟨w, fun _ => False⟩ [.row ⟨true, ro0, 37, 2, tMidN, rc0, [fun i => .int (tMidg0 i), fun i => .int (tMidg1 i)]⟩, .row ⟨true, ro1, 37, 2, tLeafN, rc1, [fun i => .int (tLeafg0 i), fun i => .int (tLeafg1 i)]⟩] w') : SmOK Try.prog f sCopyT := by
  refine smN hc fun args ch kk w X h0 hs => ?_
  unfold sCopyT at h0
  split at h0
  · rename_i c0 i0 a0 n0 d0 i1 a1 n1 d1
    split at h0
    · rename_i r0 r1 tRoot hr0 hr1 hi
      obtain ⟨tMidg0, tMidg1, tLeafg0, tLeafg1, ⟨rfl, rfl, hf0, rfl, rfl, hf1, hpre⟩, h0⟩ := h0
      obtain ⟨ec0, hi⟩ := ints_cons hi
      refine Calls.mono (?_ : Calls Try.prog f _ w (fun e w' => ∃ (ro0 : Option Addr) (rc0 : Nat) (ro1 : Option Addr) (rc1 : Nat), e = .returned (.agg #[.int .i64 (tRoot), .slice ro0 (r0.n) rc0, .slice ro1 (r1.n) rc1]) ∧ HS ⟨w, fun _ => False⟩ [.row ⟨true, ro0, 37, 2, r0.n, rc0, [fun i => .int (tMidg0 i), fun i => .int (tMidg1 i)]⟩, .row ⟨true, ro1, 37, 2, r1.n, rc1, [fun i => .int (tLeafg0 i), fun i => .int (tLeafg1 i)]⟩] w')) (fun e w' ⟨ro0, rc0, ro1, rc1, he, hs'⟩ => ⟨_, _, ?_, hs', rfl, h0 ro0 rc0 ro1 rc1⟩)
      · simp only [List.map_cons, List.map_nil, den_a, den_c, SA.den, den_sl, ec0]
        exact h tRoot r0.ao r0.n d0 tMidg0 tMidg1 r1.ao r1.n d1 tLeafg0 tLeafg1 w (Row.seenAs (hs.sat i0 _ hr0) hf0 rfl) (Row.seenAs (hs.sat i1 _ hr1) hf1 rfl) hpre
      · rw [he]
        rfl
    · exact h0.elim
  · exact h0.elim
theorem sCopyT_ok_copyI : SmOK Try.prog 32 sCopyT := sCopyT_ok Try.call32 (fun tRoot tMidO tMidN tMidC tMidg0 tMidg1 tLeafO tLeafN tLeafC tLeafg0 tLeafg1 w h0 h1 hp => copyI_any tRoot tMidO tMidN tMidC tMidg0 tMidg1 tLeafO tLeafN tLeafC tLeafg0 tLeafg1 w h0 h1 hp)
theorem sCopyT_ok_copyS : SmOK Try.prog 37 sCopyT := sCopyT_ok Try.call37 (fun tRoot tMidO tMidN tMidC tMidg0 tMidg1 tLeafO tLeafN tLeafC tLeafg0 tLeafg1 w h0 h1 hp => copyS_any tRoot tMidO tMidN tMidC tMidg0 tMidg1 tLeafO tLeafN tLeafC tLeafg0 tLeafg1 w h0 h1 hp)
theorem withI_T (tRoot : Int) (tMidO : Option Addr) (tMidN tMidC : Nat) (tMidg0 tMidg1 : Nat → Int) (tLeafO : Option Addr) (tLeafN tLeafC : Nat) (tLeafg0 tLeafg1 : Nat → Int) (oldRoot : Int) (oldMidO : Option Addr) (oldMidN oldMidC : Nat) (oldMidg0 oldMidg1 : Nat → Int) (oldLeafO : Option Addr) (oldLeafN oldLeafC : Nat) (oldLeafg0 oldLeafg1 : Nat → Int) : (exFn Try.prog {tb := [(32, sCopyT)]} 400 Try.f17 ([.a (.agg [.int tRoot, .sl 0 tMidO tMidN tMidC, .sl 1 tLeafO tLeafN tLeafC]), .a (.agg [.int oldRoot, .sl 2 oldMidO oldMidN oldMidC, .sl 3 oldLeafO oldLeafN oldLeafC])]) ([.row ⟨false, tMidO, 0, 2, tMidN, 0, [fun i => .int (tMidg0 i), fun i => .int (tMidg1 i)]⟩, .row ⟨false, tLeafO, 0, 2, tLeafN, 0, [fun i => .int (tLeafg0 i), fun i => .int (tLeafg1 i)]⟩, .row ⟨false, oldMidO, 0, 2, oldMidN, 0, [fun i => .int (oldMidg0 i), fun i => .int (oldMidg1 i)]⟩, .row ⟨false, oldLeafO, 0, 2, oldLeafN, 0, [fun i => .int (oldLeafg0 i), fun i => .int (oldLeafg1 i)]⟩]) (fun v ch => ∃ (ro0 : Option Addr) (rc0 : Nat) (ro1 : Option Addr) (rc1 : Nat), OutR v ch (.agg #[.int .i64 (tRoot), .slice ro0 (oldMidN) rc0, .slice ro1 (oldLeafN) rc1]) [.row ⟨true, ro0, 37, 2, oldMidN, rc0, [fun i => .int (oldMidg0 i), fun i => .int (oldMidg1 i)]⟩, .row ⟨true, ro1, 37, 2, oldLeafN, rc1, [fun i => .int (oldLeafg0 i), fun i => .int (oldLeafg1 i)]⟩])) = (
  (∀ b0 : Nat,
  (∀ b1 : Nat,
  (∀ b2 : Nat,
  (b1 = b1 ∧
  (Exists (fun (tMidg03 : (Nat →
  Int)) => (Exists (fun (tMidg14 : (Nat →
  Int)) => (Exists (fun (tLeafg05 : (Nat →
  Int)) => (Exists (fun (tLeafg16 : (Nat →
  Int)) => ((oldMidO = oldMidO ∧
  (oldMidN = oldMidN ∧
  ([(fun (i7 : Nat) => (SC.int (oldMidg0 i7))), (fun (i8 : Nat) => (SC.int (oldMidg1 i8)))] = [(fun (i9 : Nat) => (SC.int (tMidg03 i9))), (fun (i10 : Nat) => (SC.int (tMidg14 i10)))] ∧
  (oldLeafO = oldLeafO ∧
  (oldLeafN = oldLeafN ∧
  ([(fun (i11 : Nat) => (SC.int (oldLeafg0 i11))), (fun (i12 : Nat) => (SC.int (oldLeafg1 i12)))] = [(fun (i13 : Nat) => (SC.int (tLeafg05 i13))), (fun (i14 : Nat) => (SC.int (tLeafg16 i14)))] ∧
  ((capC oldMidN) ∧
  (capC oldLeafN)))))))) ∧
  (∀ ro015 : (Option Addr),
  (∀ rc016 : Nat,
  (∀ ro117 : (Option Addr),
  (∀ rc118 : Nat,
  (∀ b19 : Nat,
  (b19 = b19 ∧
  (b0 = b0 ∧
  (b19 = b19 ∧
  (b19 = b19 ∧
  (b2 = b2 ∧
  (b2 = b2 ∧
  (Exists (fun (ro020 : (Option Addr)) => (Exists (fun (rc021 : Nat) => (Exists (fun (ro122 : (Option Addr)) => (Exists (fun (rc123 : Nat) => ((Value.agg (List.toArray [(Value.int IntKind.i64 tRoot), (Value.slice ro015 oldMidN rc016), (Value.slice ro117 oldLeafN rc118)])) = (Value.agg (List.toArray [(Value.int IntKind.i64 tRoot), (Value.slice ro020 oldMidN rc021), (Value.slice ro122 oldLeafN rc123)])) ∧
  (((Bool.true = Bool.true ∧
  (ro015 = ro020 ∧
  (37 = 37 ∧
  (2 = 2 ∧
  (oldMidN = oldMidN ∧
  (rc016 = rc021 ∧
  ((∀ i24 : Nat,
  (i24 < oldMidN →
  (Value.int IntKind.i64 (tMidg03 i24)) = (Value.int IntKind.i64 (oldMidg0 i24)))) ∧
  ((∀ i25 : Nat,
  (i25 < oldMidN →
  (Value.int IntKind.i64 (tMidg14 i25)) = (Value.int IntKind.i64 (oldMidg1 i25)))) ∧
  True)))))))) ∧
  ((Bool.true = Bool.true ∧
  (ro117 = ro122 ∧
  (37 = 37 ∧
  (2 = 2 ∧
  (oldLeafN = oldLeafN ∧
  (rc118 = rc123 ∧
  ((∀ i26 : Nat,
  (i26 < oldLeafN →
  (Value.int IntKind.i64 (tLeafg05 i26)) = (Value.int IntKind.i64 (oldLeafg0 i26)))) ∧
  ((∀ i27 : Nat,
  (i27 < oldLeafN →
  (Value.int IntKind.i64 (tLeafg16 i27)) = (Value.int IntKind.i64 (oldLeafg1 i27)))) ∧
  True)))))))) ∧
  True)) ∧
  Bool.true = Bool.true))))))))))))))))))))))))))))))))))) := by kernel_rfl
theorem withI_any (tRoot : Int) (tMidO : Option Addr) (tMidN tMidC : Nat) (tMidg0 tMidg1 : Nat → Int) (tLeafO : Option Addr) (tLeafN tLeafC : Nat) (tLeafg0 tLeafg1 : Nat → Int) (oldRoot : Int) (oldMidO : Option Addr) (oldMidN oldMidC : Nat) (oldMidg0 oldMidg1 : Nat → Int) (oldLeafO : Option Addr) (oldLeafN oldLeafC : Nat) (oldLeafg0 oldLeafg1 : Nat → Int) (w : World) (hrtMid : Row.sat w ⟨false, tMidO, 0, 2, tMidN, 0, [fun i => .int (tMidg0 i), fun i => .int (tMidg1 i)]⟩) (hrtLeaf : Row.sat w ⟨false, tLeafO, 0, 2, tLeafN, 0, [fun i => .int (tLeafg0 i), fun i => .int (tLeafg1 i)]⟩) (hroldMid : Row.sat w ⟨false, oldMidO, 0, 2, oldMidN, 0, [fun i => .int (oldMidg0 i), fun i => .int (oldMidg1 i)]⟩) (hroldLeaf : Row.sat w ⟨false, oldLeafO, 0, 2, oldLeafN, 0, [fun i => .int (oldLeafg0 i), fun i => .int (oldLeafg1 i)]⟩) (hpre : capC oldMidN ∧ capC oldLeafN) : Calls Try.prog 17 #[.agg #[.int .i64 tRoot, .slice tMidO tMidN tMidC, .slice tLeafO tLeafN tLeafC], .agg #[.int .i64 oldRoot, .slice oldMidO oldMidN oldMidC, .slice oldLeafO oldLeafN oldLeafC]] w fun e w' => ∃ (ro0 : Option Addr) (rc0 : Nat) (ro1 : Option Addr) (rc1 : Nat), e = .returned (.agg #[.int .i64 (tRoot), .slice ro0 (oldMidN) rc0, .slice ro1 (oldLeafN) rc1]) ∧ HS ⟨w, fun _ => False⟩ [.row ⟨true, ro0, 37, 2, oldMidN, rc0, [fun i => .int (oldMidg0 i), fun i => .int (oldMidg1 i)]⟩, .row ⟨true, ro1, 37, 2, oldLeafN, rc1, [fun i => .int (oldLeafg0 i), fun i => .int (oldLeafg1 i)]⟩] w' := by
  refine fnB (tb := [(32, sCopyT)]) ⟨sCopyT_ok_copyI, trivial⟩ Try.func17 (@Eq.mpr _ _ (withI_T tRoot tMidO tMidN tMidC tMidg0 tMidg1 tLeafO tLeafN tLeafC tLeafg0 tLeafg1 oldRoot oldMidO oldMidN oldMidC oldMidg0 oldMidg1 oldLeafO oldLeafN oldLeafC oldLeafg0 oldLeafg1) ?_) (HS.rows (fun _ => False) [⟨false, tMidO, 0, 2, tMidN, 0, [fun i => .int (tMidg0 i), fun i => .int (tMidg1 i)]⟩, ⟨false, tLeafO, 0, 2, tLeafN, 0, [fun i => .int (tLeafg0 i), fun i => .int (tLeafg1 i)]⟩, ⟨false, oldMidO, 0, 2, oldMidN, 0, [fun i => .int (oldMidg0 i), fun i => .int (oldMidg1 i)]⟩, ⟨false, oldLeafO, 0, 2, oldLeafN, 0, [fun i => .int (oldLeafg0 i), fun i => .int (oldLeafg1 i)]⟩] (by simp; exact ⟨hrtMid, hrtLeaf, hroldMid, hroldLeaf⟩)) (fun v ch' w' ⟨ro0, rc0, ro1, rc1, hk⟩ hs => ⟨ro0, rc0, ro1, rc1, by rw [hk.1], hk.hs hs⟩)
  clear hrtMid hrtLeaf hroldMid hroldLeaf
  repeat' (first
    | exact rfl
    | exact True.intro
    | refine And.intro ?_ ?_
    | apply Exists.intro
    | assumption
    | omega
    | intro _)
def sWith : Sm := fun args ch kk =>
  match args with
  | [.a (.agg [c0, .sl i0 a0 n0 d0, .sl i1 a1 n1 d1]), .a (.agg [c1, .sl i2 a2 n2 d2, .sl i3 a3 n3 d3])] =>
    match ch[i0]?, ch[i1]?, ch[i2]?, ch[i3]?, ints [c0, c1] with
    | some (.row r0), some (.row r1), some (.row r2), some (.row r3), some [tRoot, oldRoot] => ∃ tMidg0 tMidg1 tLeafg0 tLeafg1 oldMidg0 oldMidg1 oldLeafg0 oldLeafg1 : Nat → Int, (a0 = r0.ao ∧ n0 = r0.n ∧ r0.fld = [fun i => .int (tMidg0 i), fun i => .int (tMidg1 i)] ∧ a1 = r1.ao ∧ n1 = r1.n ∧ r1.fld = [fun i => .int (tLeafg0 i), fun i => .int (tLeafg1 i)] ∧ a2 = r2.ao ∧ n2 = r2.n ∧ r2.fld = [fun i => .int (oldMidg0 i), fun i => .int (oldMidg1 i)] ∧ a3 = r3.ao ∧ n3 = r3.n ∧ r3.fld = [fun i => .int (oldLeafg0 i), fun i => .int (oldLeafg1 i)] ∧ capC n2 ∧ capC n3) ∧ ∀ (ro0 : Option Addr) (rc0 : Nat), ∀ (ro1 : Option Addr) (rc1 : Nat), kk (.a (.agg [.int (tRoot), .sl (ch.length) ro0 (n2) rc0, .sl (ch.length + 1) ro1 (n3) rc1])) (ch ++ [.row ⟨true, ro0, 37, 2, n2, rc0, [fun i => .int (oldMidg0 i), fun i => .int (oldMidg1 i)]⟩, .row ⟨true, ro1, 37, 2, n3, rc1, [fun i => .int (oldLeafg0 i), fun i => .int (oldLeafg1 i)]⟩]) []
    | _, _, _, _, _ => False
  | _ => False
theorem sWith_ok {f : FuncId} (hc : ∀ args w, (callFunc f args).run Try.prog w = .ok (.enter f args) w) (h : ∀ (tRoot : Int) (tMidO : Option Addr) (tMidN tMidC : Nat) (tMidg0 tMidg1 : Nat → Int) (tLeafO : Option Addr) (tLeafN tLeafC : Nat) (tLeafg0 tLeafg1 : Nat → Int) (oldRoot : Int) (oldMidO : Option Addr) (oldMidN oldMidC : Nat) (oldMidg0 oldMidg1 : Nat → Int) (oldLeafO : Option Addr) (oldLeafN oldLeafC : Nat) (oldLeafg0 oldLeafg1 : Nat → Int) (w : World), Row.sat w ⟨false, tMidO, 0, 2, tMidN, 0, [fun i => .int (tMidg0 i), fun i => .int (tMidg1 i)]⟩ → Row.sat w ⟨false, tLeafO, 0, 2, tLeafN, 0, [fun i => .int (tLeafg0 i), fun i => .int (tLeafg1 i)]⟩ → Row.sat w ⟨false, oldMidO, 0, 2, oldMidN, 0, [fun i => .int (oldMidg0 i), fun i => .int (oldMidg1 i)]⟩ → Row.sat w ⟨false, oldLeafO, 0, 2, oldLeafN, 0, [fun i => .int (oldLeafg0 i), fun i => .int (oldLeafg1 i)]⟩ → capC oldMidN ∧ capC oldLeafN → Calls Try.prog f #[.agg #[.int .i64 tRoot, .slice tMidO tMidN tMidC, .slice tLeafO tLeafN tLeafC], .agg #[.int .i64 oldRoot, .slice oldMidO oldMidN oldMidC, .slice oldLeafO oldLeafN oldLeafC]] w fun e w' => ∃ (ro0 : Option Addr) (rc0 : Nat) (ro1 : Option Addr) (rc1 : Nat), e = .returned (.agg #[.int .i64 (tRoot), .slice ro0 (oldMidN) rc0, .slice ro1 (oldLeafN) rc1]) ∧ HS ⟨w, fun _ => False⟩ [.row ⟨true, ro0, 37, 2, oldMidN, rc0, [fun i => .int (oldMidg0 i), fun i => .int (oldMidg1 i)]⟩, .row ⟨true, ro1, 37, 2, oldLeafN, rc1, [fun i => .int (oldLeafg0 i), fun i => .int (oldLeafg1 i)]⟩] w') : SmOK Try.prog f sWith := by
  refine smN hc fun args ch kk w X h0 hs => ?_
  unfold sWith at h0
  split at h0
  · rename_i c0 i0 a0 n0 d0 i1 a1 n1 d1 c1 i2 a2 n2 d2 i3 a3 n3 d3
    split at h0
    · rename_i r0 r1 r2 r3 tRoot oldRoot hr0 hr1 hr2 hr3 hi
      obtain ⟨tMidg0, tMidg1, tLeafg0, tLeafg1, oldMidg0, oldMidg1, oldLeafg0, oldLeafg1, ⟨rfl, rfl, hf0, rfl, rfl, hf1, rfl, rfl, hf2, rfl, rfl, hf3, hpre⟩, h0⟩ := h0
      obtain ⟨ec0, hi⟩ := ints_cons hi
      obtain ⟨ec1, hi⟩ := ints_cons hi
      refine Calls.mono (?_ : Calls Try.prog f _ w (fun e w' => ∃ (ro0 : Option Addr) (rc0 : Nat) (ro1 : Option Addr) (rc1 : Nat), e = .returned (.agg #[.int .i64 (tRoot), .slice ro0 (r2.n) rc0, .slice ro1 (r3.n) rc1]) ∧ HS ⟨w, fun _ => False⟩ [.row ⟨true, ro0, 37, 2, r2.n, rc0, [fun i => .int (oldMidg0 i), fun i => .int (oldMidg1 i)]⟩, .row ⟨true, ro1, 37, 2, r3.n, rc1, [fun i => .int (oldLeafg0 i), fun i => .int (oldLeafg1 i)]⟩] w')) (fun e w' ⟨ro0, rc0, ro1, rc1, he, hs'⟩ => ⟨_, _, ?_, hs', rfl, h0 ro0 rc0 ro1 rc1⟩)
      · simp only [List.map_cons, List.map_nil, den_a, den_c, SA.den, den_sl, ec0, ec1]
        exact h tRoot r0.ao r0.n d0 tMidg0 tMidg1 r1.ao r1.n d1 tLeafg0 tLeafg1 oldRoot r2.ao r2.n d2 oldMidg0 oldMidg1 r3.ao r3.n d3 oldLeafg0 oldLeafg1 w (Row.seenAs (hs.sat i0 _ hr0) hf0 rfl) (Row.seenAs (hs.sat i1 _ hr1) hf1 rfl) (Row.seenAs (hs.sat i2 _ hr2) hf2 rfl) (Row.seenAs (hs.sat i3 _ hr3) hf3 rfl) hpre
      · rw [he]
        rfl
    · exact h0.elim
  · exact h0.elim
theorem sWith_ok_withI : SmOK Try.prog 17 sWith := sWith_ok Try.call17 (fun tRoot tMidO tMidN tMidC tMidg0 tMidg1 tLeafO tLeafN tLeafC tLeafg0 tLeafg1 oldRoot oldMidO oldMidN oldMidC oldMidg0 oldMidg1 oldLeafO oldLeafN oldLeafC oldLeafg0 oldLeafg1 w h0 h1 h2 h3 hp => withI_any tRoot tMidO tMidN tMidC tMidg0 tMidg1 tLeafO tLeafN tLeafC tLeafg0 tLeafg1 oldRoot oldMidO oldMidN oldMidC oldMidg0 oldMidg1 oldLeafO oldLeafN oldLeafC oldLeafg0 oldLeafg1 w h0 h1 h2 h3 hp)
end Go.Proofs.Ytppeocfcdeiemaa
