/-
  Commands drawn, any.
-/
import Derived.Test.YtkfinkolllpcgaaSxDr4
import Derived.Test.YtkfinkolllpcgaaSx17
namespace Go.Proofs.Ytkfinkolllpcgaa
set_option linter.unusedVariables false
set_option linter.unusedSimpArgs false
open Go.RowKit
set_option maxRecDepth 100000
set_option maxHeartbeats 8000000

def sPick : Sm := inlM Try.prog {tb := [(55, sBelow)]} 300 Try.f66
theorem sPick_ok : SmOK Try.prog 66 sPick := inlM_ok mixed (E := {tb := [(55, sBelow)]}) ⟨sBelow_ok, trivial⟩ Try.func66 Try.call66 (fun _ _ _ => loopsOK_nil _ _ _)
theorem sAnyDC_T (cb : Nat) (co : Option Addr) (cn cc : Nat) (ci cz : Int) (cu : Nat → Int) (gGroups : Int) (gBanks : Int) (gRows : Int) (gCols : Int) : (exFn Try.prog {tb := [(55, sBelow), (54, sCmdD), (66, sPick)], D := fun _ => [0]} 400 Try.f75 ([.a (.c (.ptr 0 cb 0)), .a (.agg [.int gGroups, .int gBanks, .int gRows, .int gCols])]) ([.cells cb 94 [.sl 1 co cn cc, .int ci, .int cz], .row ⟨false, co, 0, 1, cn, 0, [fun i => .u8 (cu i)]⟩]) (fun v ch => ∃ (zk : Int) (zb : Int) (zr : Int) (zc : Int) (i1 z1 : Int) , OutC v ch (.agg #[.int .i64 (zk), .int .i64 (zb), .int .i64 (zr), .int .i64 (zc)]) (.cells cb 94 [.sl 1 co cn cc, .int i1, .int z1]) [] ∧ (True) ∧ pos0 i1)) = (
  (∀ b0 : Nat,
  (∀ b1 : Nat,
  (b0 = b0 ∧
  (Exists (fun (u2 : (Nat →
  Int)) => (((cb = cb ∧
  (94 = 94 ∧
  (co = co ∧
  (cn = cn ∧
  [(fun (i3 : Nat) => (SC.u8 (cu i3)))] = [(fun (i4 : Nat) => (SC.u8 (u2 i4)))])))) ∧
  ((codeC cn u2) ∧
  ((pos0 ci) ∧
  (geoC gGroups gBanks gRows gCols)))) ∧
  (∀ zk5 : Int,
  (∀ zb6 : Int,
  (∀ zr7 : Int,
  (∀ zc8 : Int,
  (∀ i19 : Int,
  (∀ z110 : Int,
  ((formB zk5 zb6 zr7 zc8) = Bool.true →
  ((pos0 i19) →
   (∀ b11 : Nat,
    (b11 = b11 ∧
    (Exists (fun (u12 : (Nat →
    Int)) => (((cb = cb ∧
    (94 = 94 ∧
    (co = co ∧
    (cn = cn ∧
    [(fun (i13 : Nat) => (SC.u8 (cu i13)))] = [(fun (i14 : Nat) => (SC.u8 (u12 i14)))])))) ∧
    ((codeC cn u12) ∧
    ((pos0 i19) ∧
    (inR (14 : Int) (1 : Int) (4294967296 : Int))))) ∧
    (∀ z015 : Int,
    (∀ i116 : Int,
    (∀ z117 : Int,
    ((inR z015 (0 : Int) ((14 : Int) - (1 : Int))) →
    ((pos0 i116) →
     (((z015 == (0 : Int)) = Bool.true →
      (∀ b18 : Nat,
       (Exists (fun (u19 : (Nat →
       Int)) => (((cb = cb ∧
       (94 = 94 ∧
       (co = co ∧
       (cn = cn ∧
       [(fun (i20 : Nat) => (SC.u8 (cu i20)))] = [(fun (i21 : Nat) => (SC.u8 (u19 i21)))])))) ∧
       ((codeC cn u19) ∧
       ((pos0 i116) ∧
       (inR (5 : Int) (1 : Int) (4294967296 : Int))))) ∧
       (∀ z022 : Int,
       (∀ i123 : Int,
       (∀ z124 : Int,
       ((inR z022 (0 : Int) ((5 : Int) - (1 : Int))) →
       ((pos0 i123) →
        ((0 ≤ z022 ∧ z022 < ((5 : Nat) : Int)) ∧
         ((z022 = (4 : Int) →
         (b18 = b18 ∧
          (b11 = b11 ∧
          (b11 = b11 ∧
          (b1 = b1 ∧
          (b1 = b1 ∧
          (Exists (fun (zk25 : Int) => (Exists (fun (zb26 : Int) => (Exists (fun (zr27 : Int) => (Exists (fun (zc28 : Int) => (Exists (fun (i129 : Int) => (Exists (fun (z130 : Int) => (((Value.agg (List.toArray [(Value.int IntKind.i64 (6 : Int)), (Value.int IntKind.i64 zb6), (Value.int IntKind.i64 zr7), (Value.int IntKind.i64 zc8)])) = (Value.agg (List.toArray [(Value.int IntKind.i64 zk25), (Value.int IntKind.i64 zb26), (Value.int IntKind.i64 zr27), (Value.int IntKind.i64 zc28)])) ∧
          ((cb = cb ∧
          (94 = 94 ∧
          [(Value.slice co cn cc), (Value.int IntKind.i64 i123), (Value.int IntKind.i64 z124)] = [(Value.slice co cn cc), (Value.int IntKind.i64 i129), (Value.int IntKind.i64 z130)])) ∧
          (True ∧
          Bool.true = Bool.true))) ∧
          (True ∧
          (pos0 i129))))))))))))))))))))) ∧
         ((z022 = (3 : Int) →
         (b18 = b18 ∧
          (b11 = b11 ∧
          (b11 = b11 ∧
          (b1 = b1 ∧
          (b1 = b1 ∧
          (Exists (fun (zk31 : Int) => (Exists (fun (zb32 : Int) => (Exists (fun (zr33 : Int) => (Exists (fun (zc34 : Int) => (Exists (fun (i135 : Int) => (Exists (fun (z136 : Int) => (((Value.agg (List.toArray [(Value.int IntKind.i64 (4 : Int)), (Value.int IntKind.i64 zb6), (Value.int IntKind.i64 zr7), (Value.int IntKind.i64 zc8)])) = (Value.agg (List.toArray [(Value.int IntKind.i64 zk31), (Value.int IntKind.i64 zb32), (Value.int IntKind.i64 zr33), (Value.int IntKind.i64 zc34)])) ∧
          ((cb = cb ∧
          (94 = 94 ∧
          [(Value.slice co cn cc), (Value.int IntKind.i64 i123), (Value.int IntKind.i64 z124)] = [(Value.slice co cn cc), (Value.int IntKind.i64 i135), (Value.int IntKind.i64 z136)])) ∧
          (True ∧
          Bool.true = Bool.true))) ∧
          (True ∧
          (pos0 i135))))))))))))))))))))) ∧
         ((z022 = (2 : Int) →
         (b18 = b18 ∧
          (b11 = b11 ∧
          (b11 = b11 ∧
          (b1 = b1 ∧
          (b1 = b1 ∧
          (Exists (fun (zk37 : Int) => (Exists (fun (zb38 : Int) => (Exists (fun (zr39 : Int) => (Exists (fun (zc40 : Int) => (Exists (fun (i141 : Int) => (Exists (fun (z142 : Int) => (((Value.agg (List.toArray [(Value.int IntKind.i64 (-1 : Int)), (Value.int IntKind.i64 zb6), (Value.int IntKind.i64 zr7), (Value.int IntKind.i64 zc8)])) = (Value.agg (List.toArray [(Value.int IntKind.i64 zk37), (Value.int IntKind.i64 zb38), (Value.int IntKind.i64 zr39), (Value.int IntKind.i64 zc40)])) ∧
          ((cb = cb ∧
          (94 = 94 ∧
          [(Value.slice co cn cc), (Value.int IntKind.i64 i123), (Value.int IntKind.i64 z124)] = [(Value.slice co cn cc), (Value.int IntKind.i64 i141), (Value.int IntKind.i64 z142)])) ∧
          (True ∧
          Bool.true = Bool.true))) ∧
          (True ∧
          (pos0 i141))))))))))))))))))))) ∧
         ((z022 = (1 : Int) →
         (b18 = b18 ∧
          (b11 = b11 ∧
          (b11 = b11 ∧
          (b1 = b1 ∧
          (b1 = b1 ∧
          (Exists (fun (zk43 : Int) => (Exists (fun (zb44 : Int) => (Exists (fun (zr45 : Int) => (Exists (fun (zc46 : Int) => (Exists (fun (i147 : Int) => (Exists (fun (z148 : Int) => (((Value.agg (List.toArray [(Value.int IntKind.i64 (10 : Int)), (Value.int IntKind.i64 zb6), (Value.int IntKind.i64 zr7), (Value.int IntKind.i64 zc8)])) = (Value.agg (List.toArray [(Value.int IntKind.i64 zk43), (Value.int IntKind.i64 zb44), (Value.int IntKind.i64 zr45), (Value.int IntKind.i64 zc46)])) ∧
          ((cb = cb ∧
          (94 = 94 ∧
          [(Value.slice co cn cc), (Value.int IntKind.i64 i123), (Value.int IntKind.i64 z124)] = [(Value.slice co cn cc), (Value.int IntKind.i64 i147), (Value.int IntKind.i64 z148)])) ∧
          (True ∧
          Bool.true = Bool.true))) ∧
          (True ∧
          (pos0 i147))))))))))))))))))))) ∧
         ((z022 = (0 : Int) →
         (b18 = b18 ∧
          (b11 = b11 ∧
          (b11 = b11 ∧
          (b1 = b1 ∧
          (b1 = b1 ∧
          (Exists (fun (zk49 : Int) => (Exists (fun (zb50 : Int) => (Exists (fun (zr51 : Int) => (Exists (fun (zc52 : Int) => (Exists (fun (i153 : Int) => (Exists (fun (z154 : Int) => (((Value.agg (List.toArray [(Value.int IntKind.i64 (0 : Int)), (Value.int IntKind.i64 zb6), (Value.int IntKind.i64 zr7), (Value.int IntKind.i64 zc8)])) = (Value.agg (List.toArray [(Value.int IntKind.i64 zk49), (Value.int IntKind.i64 zb50), (Value.int IntKind.i64 zr51), (Value.int IntKind.i64 zc52)])) ∧
          ((cb = cb ∧
          (94 = 94 ∧
          [(Value.slice co cn cc), (Value.int IntKind.i64 i123), (Value.int IntKind.i64 z124)] = [(Value.slice co cn cc), (Value.int IntKind.i64 i153), (Value.int IntKind.i64 z154)])) ∧
          (True ∧
          Bool.true = Bool.true))) ∧
          (True ∧
          (pos0 i153))))))))))))))))))))) ∧
         True)))))))))))))))) ∧
      ((z015 == (0 : Int)) = Bool.false →
      (((z015 == (1 : Int)) = Bool.true →
       (∀ b55 : Nat,
        (Exists (fun (u56 : (Nat →
        Int)) => (((cb = cb ∧
        (94 = 94 ∧
        (co = co ∧
        (cn = cn ∧
        [(fun (i57 : Nat) => (SC.u8 (cu i57)))] = [(fun (i58 : Nat) => (SC.u8 (u56 i58)))])))) ∧
        ((codeC cn u56) ∧
        ((pos0 i116) ∧
        (inR (3 : Int) (1 : Int) (4294967296 : Int))))) ∧
        (∀ z059 : Int,
        (∀ i160 : Int,
        (∀ z161 : Int,
        ((inR z059 (0 : Int) ((3 : Int) - (1 : Int))) →
        ((pos0 i160) →
         ((0 ≤ z059 ∧ z059 < ((3 : Nat) : Int)) ∧
          ((z059 = (2 : Int) →
          (b55 = b55 ∧
           (b11 = b11 ∧
           (b11 = b11 ∧
           (b1 = b1 ∧
           (b1 = b1 ∧
           (Exists (fun (zk62 : Int) => (Exists (fun (zb63 : Int) => (Exists (fun (zr64 : Int) => (Exists (fun (zc65 : Int) => (Exists (fun (i166 : Int) => (Exists (fun (z167 : Int) => (((Value.agg (List.toArray [(Value.int IntKind.i64 zk5), (Value.int IntKind.i64 (8 : Int)), (Value.int IntKind.i64 zr7), (Value.int IntKind.i64 zc8)])) = (Value.agg (List.toArray [(Value.int IntKind.i64 zk62), (Value.int IntKind.i64 zb63), (Value.int IntKind.i64 zr64), (Value.int IntKind.i64 zc65)])) ∧
           ((cb = cb ∧
           (94 = 94 ∧
           [(Value.slice co cn cc), (Value.int IntKind.i64 i160), (Value.int IntKind.i64 z161)] = [(Value.slice co cn cc), (Value.int IntKind.i64 i166), (Value.int IntKind.i64 z167)])) ∧
           (True ∧
           Bool.true = Bool.true))) ∧
           (True ∧
           (pos0 i166))))))))))))))))))))) ∧
          ((z059 = (1 : Int) →
          (b55 = b55 ∧
           (b11 = b11 ∧
           (b11 = b11 ∧
           (b1 = b1 ∧
           (b1 = b1 ∧
           (Exists (fun (zk68 : Int) => (Exists (fun (zb69 : Int) => (Exists (fun (zr70 : Int) => (Exists (fun (zc71 : Int) => (Exists (fun (i172 : Int) => (Exists (fun (z173 : Int) => (((Value.agg (List.toArray [(Value.int IntKind.i64 zk5), (Value.int IntKind.i64 (7 : Int)), (Value.int IntKind.i64 zr7), (Value.int IntKind.i64 zc8)])) = (Value.agg (List.toArray [(Value.int IntKind.i64 zk68), (Value.int IntKind.i64 zb69), (Value.int IntKind.i64 zr70), (Value.int IntKind.i64 zc71)])) ∧
           ((cb = cb ∧
           (94 = 94 ∧
           [(Value.slice co cn cc), (Value.int IntKind.i64 i160), (Value.int IntKind.i64 z161)] = [(Value.slice co cn cc), (Value.int IntKind.i64 i172), (Value.int IntKind.i64 z173)])) ∧
           (True ∧
           Bool.true = Bool.true))) ∧
           (True ∧
           (pos0 i172))))))))))))))))))))) ∧
          ((z059 = (0 : Int) →
          (b55 = b55 ∧
           (b11 = b11 ∧
           (b11 = b11 ∧
           (b1 = b1 ∧
           (b1 = b1 ∧
           (Exists (fun (zk74 : Int) => (Exists (fun (zb75 : Int) => (Exists (fun (zr76 : Int) => (Exists (fun (zc77 : Int) => (Exists (fun (i178 : Int) => (Exists (fun (z179 : Int) => (((Value.agg (List.toArray [(Value.int IntKind.i64 zk5), (Value.int IntKind.i64 (-1 : Int)), (Value.int IntKind.i64 zr7), (Value.int IntKind.i64 zc8)])) = (Value.agg (List.toArray [(Value.int IntKind.i64 zk74), (Value.int IntKind.i64 zb75), (Value.int IntKind.i64 zr76), (Value.int IntKind.i64 zc77)])) ∧
           ((cb = cb ∧
           (94 = 94 ∧
           [(Value.slice co cn cc), (Value.int IntKind.i64 i160), (Value.int IntKind.i64 z161)] = [(Value.slice co cn cc), (Value.int IntKind.i64 i178), (Value.int IntKind.i64 z179)])) ∧
           (True ∧
           Bool.true = Bool.true))) ∧
           (True ∧
           (pos0 i178))))))))))))))))))))) ∧
          True)))))))))))))) ∧
       ((z015 == (1 : Int)) = Bool.false →
       (((z015 == (2 : Int)) = Bool.true →
        (∀ b80 : Nat,
         (Exists (fun (u81 : (Nat →
         Int)) => (((cb = cb ∧
         (94 = 94 ∧
         (co = co ∧
         (cn = cn ∧
         [(fun (i82 : Nat) => (SC.u8 (cu i82)))] = [(fun (i83 : Nat) => (SC.u8 (u81 i83)))])))) ∧
         ((codeC cn u81) ∧
         ((pos0 i116) ∧
         (inR (3 : Int) (1 : Int) (4294967296 : Int))))) ∧
         (∀ z084 : Int,
         (∀ i185 : Int,
         (∀ z186 : Int,
         ((inR z084 (0 : Int) ((3 : Int) - (1 : Int))) →
         ((pos0 i185) →
          ((0 ≤ z084 ∧ z084 < ((3 : Nat) : Int)) ∧
           ((z084 = (2 : Int) →
           (b80 = b80 ∧
            (b11 = b11 ∧
            (b11 = b11 ∧
            (b1 = b1 ∧
            (b1 = b1 ∧
            (Exists (fun (zk87 : Int) => (Exists (fun (zb88 : Int) => (Exists (fun (zr89 : Int) => (Exists (fun (zc90 : Int) => (Exists (fun (i191 : Int) => (Exists (fun (z192 : Int) => (((Value.agg (List.toArray [(Value.int IntKind.i64 zk5), (Value.int IntKind.i64 zb6), (Value.int IntKind.i64 (16 : Int)), (Value.int IntKind.i64 zc8)])) = (Value.agg (List.toArray [(Value.int IntKind.i64 zk87), (Value.int IntKind.i64 zb88), (Value.int IntKind.i64 zr89), (Value.int IntKind.i64 zc90)])) ∧
            ((cb = cb ∧
            (94 = 94 ∧
            [(Value.slice co cn cc), (Value.int IntKind.i64 i185), (Value.int IntKind.i64 z186)] = [(Value.slice co cn cc), (Value.int IntKind.i64 i191), (Value.int IntKind.i64 z192)])) ∧
            (True ∧
            Bool.true = Bool.true))) ∧
            (True ∧
            (pos0 i191))))))))))))))))))))) ∧
           ((z084 = (1 : Int) →
           (b80 = b80 ∧
            (b11 = b11 ∧
            (b11 = b11 ∧
            (b1 = b1 ∧
            (b1 = b1 ∧
            (Exists (fun (zk93 : Int) => (Exists (fun (zb94 : Int) => (Exists (fun (zr95 : Int) => (Exists (fun (zc96 : Int) => (Exists (fun (i197 : Int) => (Exists (fun (z198 : Int) => (((Value.agg (List.toArray [(Value.int IntKind.i64 zk5), (Value.int IntKind.i64 zb6), (Value.int IntKind.i64 (15 : Int)), (Value.int IntKind.i64 zc8)])) = (Value.agg (List.toArray [(Value.int IntKind.i64 zk93), (Value.int IntKind.i64 zb94), (Value.int IntKind.i64 zr95), (Value.int IntKind.i64 zc96)])) ∧
            ((cb = cb ∧
            (94 = 94 ∧
            [(Value.slice co cn cc), (Value.int IntKind.i64 i185), (Value.int IntKind.i64 z186)] = [(Value.slice co cn cc), (Value.int IntKind.i64 i197), (Value.int IntKind.i64 z198)])) ∧
            (True ∧
            Bool.true = Bool.true))) ∧
            (True ∧
            (pos0 i197))))))))))))))))))))) ∧
           ((z084 = (0 : Int) →
           (b80 = b80 ∧
            (b11 = b11 ∧
            (b11 = b11 ∧
            (b1 = b1 ∧
            (b1 = b1 ∧
            (Exists (fun (zk99 : Int) => (Exists (fun (zb100 : Int) => (Exists (fun (zr101 : Int) => (Exists (fun (zc102 : Int) => (Exists (fun (i1103 : Int) => (Exists (fun (z1104 : Int) => (((Value.agg (List.toArray [(Value.int IntKind.i64 zk5), (Value.int IntKind.i64 zb6), (Value.int IntKind.i64 (-1 : Int)), (Value.int IntKind.i64 zc8)])) = (Value.agg (List.toArray [(Value.int IntKind.i64 zk99), (Value.int IntKind.i64 zb100), (Value.int IntKind.i64 zr101), (Value.int IntKind.i64 zc102)])) ∧
            ((cb = cb ∧
            (94 = 94 ∧
            [(Value.slice co cn cc), (Value.int IntKind.i64 i185), (Value.int IntKind.i64 z186)] = [(Value.slice co cn cc), (Value.int IntKind.i64 i1103), (Value.int IntKind.i64 z1104)])) ∧
            (True ∧
            Bool.true = Bool.true))) ∧
            (True ∧
            (pos0 i1103))))))))))))))))))))) ∧
           True)))))))))))))) ∧
        ((z015 == (2 : Int)) = Bool.false →
        (((z015 == (3 : Int)) = Bool.true →
         (∀ b105 : Nat,
          (Exists (fun (u106 : (Nat →
          Int)) => (((cb = cb ∧
          (94 = 94 ∧
          (co = co ∧
          (cn = cn ∧
          [(fun (i107 : Nat) => (SC.u8 (cu i107)))] = [(fun (i108 : Nat) => (SC.u8 (u106 i108)))])))) ∧
          ((codeC cn u106) ∧
          ((pos0 i116) ∧
          (inR (3 : Int) (1 : Int) (4294967296 : Int))))) ∧
          (∀ z0109 : Int,
          (∀ i1110 : Int,
          (∀ z1111 : Int,
          ((inR z0109 (0 : Int) ((3 : Int) - (1 : Int))) →
          ((pos0 i1110) →
           ((0 ≤ z0109 ∧ z0109 < ((3 : Nat) : Int)) ∧
            ((z0109 = (2 : Int) →
            (b105 = b105 ∧
             (b11 = b11 ∧
             (b11 = b11 ∧
             (b1 = b1 ∧
             (b1 = b1 ∧
             (Exists (fun (zk112 : Int) => (Exists (fun (zb113 : Int) => (Exists (fun (zr114 : Int) => (Exists (fun (zc115 : Int) => (Exists (fun (i1116 : Int) => (Exists (fun (z1117 : Int) => (((Value.agg (List.toArray [(Value.int IntKind.i64 zk5), (Value.int IntKind.i64 zb6), (Value.int IntKind.i64 zr7), (Value.int IntKind.i64 (8 : Int))])) = (Value.agg (List.toArray [(Value.int IntKind.i64 zk112), (Value.int IntKind.i64 zb113), (Value.int IntKind.i64 zr114), (Value.int IntKind.i64 zc115)])) ∧
             ((cb = cb ∧
             (94 = 94 ∧
             [(Value.slice co cn cc), (Value.int IntKind.i64 i1110), (Value.int IntKind.i64 z1111)] = [(Value.slice co cn cc), (Value.int IntKind.i64 i1116), (Value.int IntKind.i64 z1117)])) ∧
             (True ∧
             Bool.true = Bool.true))) ∧
             (True ∧
             (pos0 i1116))))))))))))))))))))) ∧
            ((z0109 = (1 : Int) →
            (b105 = b105 ∧
             (b11 = b11 ∧
             (b11 = b11 ∧
             (b1 = b1 ∧
             (b1 = b1 ∧
             (Exists (fun (zk118 : Int) => (Exists (fun (zb119 : Int) => (Exists (fun (zr120 : Int) => (Exists (fun (zc121 : Int) => (Exists (fun (i1122 : Int) => (Exists (fun (z1123 : Int) => (((Value.agg (List.toArray [(Value.int IntKind.i64 zk5), (Value.int IntKind.i64 zb6), (Value.int IntKind.i64 zr7), (Value.int IntKind.i64 (7 : Int))])) = (Value.agg (List.toArray [(Value.int IntKind.i64 zk118), (Value.int IntKind.i64 zb119), (Value.int IntKind.i64 zr120), (Value.int IntKind.i64 zc121)])) ∧
             ((cb = cb ∧
             (94 = 94 ∧
             [(Value.slice co cn cc), (Value.int IntKind.i64 i1110), (Value.int IntKind.i64 z1111)] = [(Value.slice co cn cc), (Value.int IntKind.i64 i1122), (Value.int IntKind.i64 z1123)])) ∧
             (True ∧
             Bool.true = Bool.true))) ∧
             (True ∧
             (pos0 i1122))))))))))))))))))))) ∧
            ((z0109 = (0 : Int) →
            (b105 = b105 ∧
             (b11 = b11 ∧
             (b11 = b11 ∧
             (b1 = b1 ∧
             (b1 = b1 ∧
             (Exists (fun (zk124 : Int) => (Exists (fun (zb125 : Int) => (Exists (fun (zr126 : Int) => (Exists (fun (zc127 : Int) => (Exists (fun (i1128 : Int) => (Exists (fun (z1129 : Int) => (((Value.agg (List.toArray [(Value.int IntKind.i64 zk5), (Value.int IntKind.i64 zb6), (Value.int IntKind.i64 zr7), (Value.int IntKind.i64 (-1 : Int))])) = (Value.agg (List.toArray [(Value.int IntKind.i64 zk124), (Value.int IntKind.i64 zb125), (Value.int IntKind.i64 zr126), (Value.int IntKind.i64 zc127)])) ∧
             ((cb = cb ∧
             (94 = 94 ∧
             [(Value.slice co cn cc), (Value.int IntKind.i64 i1110), (Value.int IntKind.i64 z1111)] = [(Value.slice co cn cc), (Value.int IntKind.i64 i1128), (Value.int IntKind.i64 z1129)])) ∧
             (True ∧
             Bool.true = Bool.true))) ∧
             (True ∧
             (pos0 i1128))))))))))))))))))))) ∧
            True)))))))))))))) ∧
         ((z015 == (3 : Int)) = Bool.false →
         (b11 = b11 ∧
          (b1 = b1 ∧
          (b1 = b1 ∧
          (Exists (fun (zk130 : Int) => (Exists (fun (zb131 : Int) => (Exists (fun (zr132 : Int) => (Exists (fun (zc133 : Int) => (Exists (fun (i1134 : Int) => (Exists (fun (z1135 : Int) => (((Value.agg (List.toArray [(Value.int IntKind.i64 zk5), (Value.int IntKind.i64 zb6), (Value.int IntKind.i64 zr7), (Value.int IntKind.i64 zc8)])) = (Value.agg (List.toArray [(Value.int IntKind.i64 zk130), (Value.int IntKind.i64 zb131), (Value.int IntKind.i64 zr132), (Value.int IntKind.i64 zc133)])) ∧
          ((cb = cb ∧
          (94 = 94 ∧
          [(Value.slice co cn cc), (Value.int IntKind.i64 i116), (Value.int IntKind.i64 z117)] = [(Value.slice co cn cc), (Value.int IntKind.i64 i1134), (Value.int IntKind.i64 z1135)])) ∧
          (True ∧
          Bool.true = Bool.true))) ∧
          (True ∧
          (pos0 i1134))))))))))))))))))))))))))))))))))))))))))))))))))) := by kernel_rfl
theorem sAnyDC_any (cb : Nat) (co : Option Addr) (cn cc : Nat) (ci cz : Int) (cu : Nat → Int) (gGroups : Int) (gBanks : Int) (gRows : Int) (gCols : Int) (w : World) (hs : HS ⟨w, (Ch.cells cb 94 [.sl 1 co cn cc, .int ci, .int cz]).at⟩ [.cells cb 94 [.sl 1 co cn cc, .int ci, .int cz], .row ⟨false, co, 0, 1, cn, 0, [fun i => .u8 (cu i)]⟩] w) (hcode : codeC cn cu) (hci : pos0 ci) (hpre : geoC gGroups gBanks gRows gCols) : Calls Try.prog 75 #[.pointer (some ⟨cb, 0, none⟩), .agg #[.int .i64 gGroups, .int .i64 gBanks, .int .i64 gRows, .int .i64 gCols]] w fun e w' => ∃ (zk : Int) (zb : Int) (zr : Int) (zc : Int) (i1 z1 : Int) , ((True) ∧ pos0 i1) ∧ e = .returned (.agg #[.int .i64 (zk), .int .i64 (zb), .int .i64 (zr), .int .i64 (zc)]) ∧ HS ⟨w, (Ch.cells cb 94 [.sl 1 co cn cc, .int ci, .int cz]).at⟩ [.cells cb 94 [.sl 1 co cn cc, .int i1, .int z1]] w' := by
  refine fn_ok mixed (E := {tb := [(55, sBelow), (54, sCmdD), (66, sPick)], D := fun _ => [0]}) ⟨sBelow_ok, sCmdD_ok, sPick_ok, trivial⟩ Try.func75 (fun _ _ => loopsOK_nil _ _ _) (@Eq.mpr _ _ (sAnyDC_T cb co cn cc ci cz cu gGroups gBanks gRows gCols) ?_) hs (fun v ch' w' ⟨zk, zb, zr, zc, i1, z1, hk, hf⟩ hs => ⟨zk, zb, zr, zc, i1, z1, hf, by rw [hk.1], hk.hs hs⟩)
  clear hs
  have hcn : cn ≤ 1048576 := hcode.1
  have hci0 : 0 ≤ ci := hci
  have a1 := hpre.1; have a2 := hpre.2.1; have a3 := hpre.2.2.1; have a4 := hpre.2.2.2
  repeat' (first
    | with_reducible exact rfl
    | exact True.intro
    | with_reducible assumption
    | refine And.intro ?_ ?_
    | apply Exists.intro
    | (intro h; exfalso; simp at h; done)
    | (intro h; replace h := of_decide_eq_true h; first | (exfalso; omega) | skip)
    | (intro h; replace h := of_decide_eq_false h; first | (exfalso; omega) | skip)
    | intro _
    | omega)
def sAnyD : Sm := fun args ch k =>
  match args with
  | [.a (.c (.ptr id b off)), .a (.agg [c0, c1, c2, c3])] =>
    match off, ch[id]? with
    | 0, some (.cells b' t [.sl j ao n cap, ic, hc]) =>
      match ch[j]?, asI ic, asI hc, ints [c0, c1, c2, c3] with
      | some (.row r), some i, some z, some [gGroups, gBanks, gRows, gCols] => ∃ u : Nat → Int, ((b = b' ∧ t = 94 ∧ ao = r.ao ∧ n = r.n ∧ r.fld = [fun i => .u8 (u i)]) ∧ codeC n u ∧ pos0 i ∧ geoC gGroups gBanks gRows gCols) ∧ ∀ (zk : Int), ∀ (zb : Int), ∀ (zr : Int), ∀ (zc : Int), ∀ (i1 z1 : Int), (True) → pos0 i1 → k (.a (.agg [.int (zk), .int (zb), .int (zr), .int (zc)])) (ch.set id (.cells b 94 [.sl j ao n cap, .int i1, .int z1])) [id]
      | _, _, _, _ => False
    | _, _ => False
  | _ => False
theorem sAnyD_ok : SmOK Try.prog 75 sAnyD := by
  refine smTurnN Try.call75 fun args ch k w X h0 hs => ?_
  unfold sAnyD at h0
  split at h0
  · rename_i id b off c0 c1 c2 c3
    split at h0
    · rename_i b' t j ao n cap ic hc hid
      split at h0
      · rename_i r i z gGroups gBanks gRows gCols hj hi hz hI
        obtain ⟨u, ⟨⟨rfl, rfl, hao, hn, hf⟩, hcode, hi0, hpre⟩, h0⟩ := h0
        obtain ⟨ec0, hI⟩ := ints_cons hI
        obtain ⟨ec1, hI⟩ := ints_cons hI
        obtain ⟨ec2, hI⟩ := ints_cons hI
        obtain ⟨ec3, hI⟩ := ints_cons hI
        refine ⟨id, _, hid, rfl, ?_⟩
        simp only [List.map_cons, List.map_nil, den_a, den_c, SA.den, ec0, ec1, ec2, ec3]
        exact Calls.mono (sAnyDC_any b ao n cap i z u gGroups gBanks gRows gCols w (hs.cur' hid hj hi hz hao hn hf) hcode hi0 hpre) fun e w' ⟨zk, zb, zr, zc, i1, z1, ⟨hfa, hp⟩, he, hn'⟩ => ⟨.a (.agg [.int (zk), .int (zb), .int (zr), .int (zc)]), _, [], he, hn'.recur, at_cells, rfl, by simpa using h0 zk zb zr zc i1 z1 hfa hp⟩
      · exact h0.elim
    · exact h0.elim
  · exact h0.elim
end Go.Proofs.Ytkfinkolllpcgaa
