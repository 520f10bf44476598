/-
  Lists of commands drawn.
-/
import Derived.Test.YtkfinkolllpcgaaSxDr5
namespace Go.Proofs.Ytkfinkolllpcgaa
set_option linter.unusedVariables false
set_option linter.unusedSimpArgs false
open Go.RowKit
set_option maxRecDepth 100000
set_option maxHeartbeats 8000000

def liH (cb : Nat) (co : Option Addr) (cn cc : Nat) (cu : Nat → Int) (bg : Nat) (G B R C : Int) (zn : Int) (ao : Option Addr) (j cap : Nat) (i : SC) (g : Nat → Value) : List SV := [.a (.c (.ptr 0 cb 0)), .a (.c (.val (g 1))), .a (.c (.val (g 2))), .a (.c (.ptr 2 bg 0)), .a (.c (.sl 3 ao j cap)), .a (.c (.int zn)), .a (.c i), .a (.c (.val (g 7))), .a (.c (.val (g 8))), .a (.c (.val (g 9))), .a (.c (.val (g 10))), .a (.c (.val (g 11))), .a (.c (.val (g 12))), .a (.c (.val (g 13))), .a (.c (.val (g 14))), .a (.c (.val (g 15))), .a (.c (.val (g 16))), .a (.c (.val (g 17))), .a (.c (.val (g 18))), .a (.c (.val (g 19))), .a (.c (.val (g 20))), .a (.c (.val (g 21))), .a (.c (.val (g 22))), .a (.c (.val (g 23))), .a (.c (.val (g 24))), .a (.c (.val (g 25))), .a (.c (.val (g 26))), .a (.c (.val (g 27))), .a (.c (.val (g 28)))]
def liT (cb : Nat) (co : Option Addr) (cn cc : Nat) (cu : Nat → Int) (bg : Nat) (G B R C : Int) (zn : Int) (ao : Option Addr) (j cap : Nat) (ci cz : Int) (f0 f1 f2 f3 : Nat → Int) : List Ch := [.cells cb 94 [.sl 1 co cn cc, .int ci, .int cz], .row ⟨false, co, 0, 1, cn, 0, [fun i => .u8 (cu i)]⟩, .cells bg 39 [.int G, .int B, .int R, .int C], .row ⟨true, ao, 41, 4, j, cap, [fun i => .int (f0 i), fun i => .int (f1 i), fun i => .int (f2 i), fun i => .int (f3 i)]⟩]
def sli (cb : Nat) (co : Option Addr) (cn cc : Nat) (cu : Nat → Int) : LSm := fun ts ch kk => ∃ (b : Nat) (ci cz : Int) (bg : Nat) (G B R C : Int) (zn : Int), (ts.map SV.den = (liH cb co cn cc cu bg G B R C zn (some ⟨b, 0, none⟩) 0 0 (.il 0) (fun d => (ts.getD d .undef).den)).map SV.den ∧ ch = [.cells cb 94 [.sl 1 co cn cc, .int ci, .int cz], .row ⟨false, co, 0, 1, cn, 0, [fun i => .u8 (cu i)]⟩, .cells bg 39 [.int G, .int B, .int R, .int C], .cells b 41 []] ∧ pos0 ci ∧ geoC G B R C ∧ inR zn 0 41) ∧
    ∀ (g : Nat → Value) (ao : Option Addr) (j cap : Nat) (ci cz : Int) (f0 f1 f2 f3 : Nat → Int), (pos0 ci ∧ leN j 41) → kk (.exit 0) (liH cb co cn cc cu bg G B R C zn ao j cap (.int (j : Int)) g) (liT cb co cn cc cu bg G B R C zn ao j cap ci cz f0 f1 f2 f3)
theorem liB (cb : Nat) (co : Option Addr) (cn cc : Nat) (cu : Nat → Int) (bg : Nat) (G B R C : Int) (zn : Int) (ao : Option Addr) (j cap : Nat) (ci cz : Int) (f0 f1 f2 f3 : Nat → Int) (g : Nat → Value) (NX : List SV → List Ch → Prop) (kx : Exit → List SV → List Ch → Prop) : (exCode Try.prog {tb := [(55, sBelow), (65, sOnce), (53, sGeoD), (54, sCmdD)], D := fun _ => [0]} 400 (theLoop Try.f74 0) (liH cb co cn cc cu bg G B R C zn ao j cap (.int (j : Int)) g) (liT cb co cn cc cu bg G B R C zn ao j cap ci cz f0 f1 f2 f3) (loopK NX kx)) = (
  (((decide (((j : Nat) : Int) < zn)) = Bool.true →
  (bg = bg ∧
   (Exists (fun (u0 : (Nat →
   Int)) => (((cb = cb ∧
   (94 = 94 ∧
   (co = co ∧
   (cn = cn ∧
   [(fun (i1 : Nat) => (SC.u8 (cu i1)))] = [(fun (i2 : Nat) => (SC.u8 (u0 i2)))])))) ∧
   ((codeC cn u0) ∧
   ((pos0 ci) ∧
   (geoC G B R C)))) ∧
   (∀ zk3 : Int,
   (∀ zb4 : Int,
   (∀ zr5 : Int,
   (∀ zc6 : Int,
   (∀ i17 : Int,
   (∀ z18 : Int,
   ((formB zk3 zb4 zr5 zc6) = Bool.true →
   ((pos0 i17) →
    (∀ b9 : Nat,
     ((ao = ao ∧
     (j = j ∧
     (cap = cap ∧
     (b9 = b9 ∧
     ((∀ i10 : Nat,
     Bool.true = Bool.true) ∧
     (apC j 1 32)))))) ∧
     (∀ ao'11 : (Option Addr),
     (∀ cap'12 : Nat,
     ((rng (((j : Nat) : Int) + (1 : Int))) ∧
     (NX [(SV.a (SA.c (SC.ptr 0 cb 0))), (SV.a (SA.c (SC.val (g 1)))), (SV.a (SA.c (SC.val (g 2)))), (SV.a (SA.c (SC.ptr 2 bg 0))), (SV.a (SA.c (SC.sl 5 ao'11 (j + 1) cap'12))), (SV.a (SA.c (SC.int zn))), (SV.a (SA.c (SC.int (((j : Nat) : Int) + (1 : Int))))), (SV.a (SA.c (SC.val (g 7)))), (SV.a (SA.c (SC.val (g 8)))), (SV.a (SA.c (SC.val (g 9)))), (SV.a (SA.c (SC.val (g 10)))), (SV.a (SA.c (SC.val (g 11)))), (SV.a (SA.c (SC.val (g 12)))), (SV.a (SA.c (SC.val (g 13)))), (SV.a (SA.c (SC.val (g 14)))), (SV.a (SA.c (SC.val (g 15)))), (SV.a (SA.c (SC.val (g 16)))), (SV.a (SA.c (SC.int ((j : Nat) : Int)))), (SV.a (SA.c (SC.int zn))), (SV.a (SA.c (SC.lit Bool.true))), (SV.a (SA.c (SC.int ((j : Nat) : Int)))), (SV.a (SA.c (SC.int (((j : Nat) : Int) + (1 : Int))))), (SV.a (SA.c (SC.sl 3 ao j cap))), (SV.a (SA.c (SC.ptr 0 cb 0))), (SV.a (SA.agg [(SC.int G), (SC.int B), (SC.int R), (SC.int C)])), (SV.a (SA.agg [(SC.int zk3), (SC.int zb4), (SC.int zr5), (SC.int zc6)])), (SV.a (SA.c (SC.slc 4 b9 1 1))), (SV.a (SA.c (SC.sl 5 ao'11 (j + 1) cap'12))), (SV.a (SA.c (SC.val (g 28))))] [(Ch.cells cb 94 [(SC.sl 1 co cn cc), (SC.int i17), (SC.int z18)]), (Ch.row (Row.mk Bool.false co 0 1 cn 0 [(fun (i13 : Nat) => (SC.u8 (cu i13)))])), (Ch.cells bg 39 [(SC.int G), (SC.int B), (SC.int R), (SC.int C)]), Ch.dead, (Ch.cells b9 41 [(SC.int zk3), (SC.int zb4), (SC.int zr5), (SC.int zc6)]), (Ch.row (Row.mk Bool.true ao'11 41 4 (j + 1) cap'12 [(fun (i14 : Nat) => (SC.int (if i14 < j then (f0 i14) else zk3))), (fun (i15 : Nat) => (SC.int (if i15 < j then (f1 i15) else zb4))), (fun (i16 : Nat) => (SC.int (if i16 < j then (f2 i16) else zr5))), (fun (i17 : Nat) => (SC.int (if i17 < j then (f3 i17) else zc6)))]))]))))))))))))))))))) ∧
  ((decide (((j : Nat) : Int) < zn)) = Bool.false →
  (kx (Exit.exit 0) [(SV.a (SA.c (SC.ptr 0 cb 0))), (SV.a (SA.c (SC.val (g 1)))), (SV.a (SA.c (SC.val (g 2)))), (SV.a (SA.c (SC.ptr 2 bg 0))), (SV.a (SA.c (SC.sl 3 ao j cap))), (SV.a (SA.c (SC.int zn))), (SV.a (SA.c (SC.int ((j : Nat) : Int)))), (SV.a (SA.c (SC.val (g 7)))), (SV.a (SA.c (SC.val (g 8)))), (SV.a (SA.c (SC.val (g 9)))), (SV.a (SA.c (SC.val (g 10)))), (SV.a (SA.c (SC.val (g 11)))), (SV.a (SA.c (SC.val (g 12)))), (SV.a (SA.c (SC.val (g 13)))), (SV.a (SA.c (SC.val (g 14)))), (SV.a (SA.c (SC.val (g 15)))), (SV.a (SA.c (SC.val (g 16)))), (SV.a (SA.c (SC.int ((j : Nat) : Int)))), (SV.a (SA.c (SC.int zn))), (SV.a (SA.c (SC.lit Bool.false))), (SV.a (SA.c (SC.val (g 20)))), (SV.a (SA.c (SC.val (g 21)))), (SV.a (SA.c (SC.val (g 22)))), (SV.a (SA.c (SC.val (g 23)))), (SV.a (SA.c (SC.val (g 24)))), (SV.a (SA.c (SC.val (g 25)))), (SV.a (SA.c (SC.val (g 26)))), (SV.a (SA.c (SC.val (g 27)))), (SV.a (SA.c (SC.val (g 28))))] [(Ch.cells cb 94 [(SC.sl 1 co cn cc), (SC.int ci), (SC.int cz)]), (Ch.row (Row.mk Bool.false co 0 1 cn 0 [(fun (i18 : Nat) => (SC.u8 (cu i18)))])), (Ch.cells bg 39 [(SC.int G), (SC.int B), (SC.int R), (SC.int C)]), (Ch.row (Row.mk Bool.true ao 41 4 j cap [(fun (i19 : Nat) => (SC.int (f0 i19))), (fun (i20 : Nat) => (SC.int (f1 i20))), (fun (i21 : Nat) => (SC.int (f2 i21))), (fun (i22 : Nat) => (SC.int (f3 i22)))]))])))) := by kernel_rfl
theorem li_ok (cb : Nat) (co : Option Addr) (cn cc : Nat) (cu : Nat → Int) (hcode : codeC cn cu) (X : Cx) : LoopOK Try.prog X (theLoop Try.f74 0) (sli cb co cn cc cu) := by
  intro ts ch kk a w hS hT hd hs
  obtain ⟨b, ci0, cz0, bg, G, B, R, C, zn, ⟨h1, rfl, hp0, hgeo, hzn⟩, hk⟩ := hS
  have hz1 := hzn.1
  have hz2 := hzn.2
  refine loop_ok mixed (E := {tb := [(55, sBelow), (65, sOnce), (53, sGeoD), (54, sCmdD)], D := fun _ => [0]}) ⟨sBelow_ok, sOnce_ok, sGeoD_ok, sCmdD_ok, trivial⟩ (loopsOK_nil _ _ _) 400 41 (fun j ts ch => ∃ g ao cap ci cz f0 f1 f2 f3, pos0 ci ∧ ts = liH cb co cn cc cu bg G B R C zn ao j cap (.int (j : Int)) g ∧ ch = liT cb co cn cc cu bg G B R C zn ao j cap ci cz f0 f1 f2 f3) ?_ ?_ hT hd hs
  · rintro j _ _ ⟨g, ao, cap, ci, cz, f0, f1, f2, f3, hci, rfl, rfl⟩ hj
    refine (@Eq.mpr _ _ (liB cb co cn cc cu bg G B R C zn ao j cap ci cz f0 f1 f2 f3 g _ _) ?_)
    repeat' (first
      | with_reducible exact rfl
      | exact True.intro
      | with_reducible assumption
      | (refine ⟨by omega, ?_⟩; show Next _ _ _ _; refine Next.mk (fun g => liH cb co cn cc cu bg G B R C zn _ (j + 1) _ (.int ((j + 1 : Nat) : Int)) g) _ ⟨_, _, _, _, _, _, _, _, _, (by with_reducible assumption), rfl, rfl⟩ rfl fun w hw => hw.sel [0, 1, 2, 5] (by simp))
      | (refine Next.mk (fun g => liH cb co cn cc cu bg G B R C zn ao j cap (.int (j : Int)) g) _ (hk _ _ _ _ _ _ _ _ _ _ ⟨hci, hj⟩) rfl fun w hw => hw)
      | refine And.intro ?_ ?_
      | apply Exists.intro
      | (intro h; replace h := of_decide_eq_true h; first | (exfalso; omega) | skip)
      | (intro h; replace h := of_decide_eq_false h; first | (exfalso; omega) | skip)
      | intro _
      | omega
      | (simp; omega))
  · refine Next.mk (fun g => liH cb co cn cc cu bg G B R C zn (some ⟨b, 0, none⟩) 0 0 (.int ((0 : Nat) : Int)) g) _ ⟨_, _, _, ci0, cz0, fun _ => 0, fun _ => 0, fun _ => 0, fun _ => 0, hp0, rfl, rfl⟩ h1 fun w hw => ?_
    exact hw.rowStart 3 rfl rfl
theorem sListC_T (cb : Nat) (co : Option Addr) (cn cc : Nat) (ci cz : Int) (cu : Nat → Int) : (exFn Try.prog {tb := [(55, sBelow), (65, sOnce), (53, sGeoD), (54, sCmdD)], L := [(7, sli cb co cn cc cu)], D := fun _ => [0]} 400 Try.f74 ([.a (.c (.ptr 0 cb 0))]) ([.cells cb 94 [.sl 1 co cn cc, .int ci, .int cz], .row ⟨false, co, 0, 1, cn, 0, [fun i => .u8 (cu i)]⟩]) (fun v ch => ∃ (zn : Nat) (f0 : Nat → Int) (f1 : Nat → Int) (f2 : Nat → Int) (f3 : Nat → Int) (i1 z1 : Int) (ro0 : Option Addr) (rc0 : Nat), OutC v ch (.slice ro0 (zn) rc0) (.cells cb 94 [.sl 1 co cn cc, .int i1, .int z1]) [.row ⟨true, ro0, 41, 4, zn, rc0, [fun i => .int (f0 i), fun i => .int (f1 i), fun i => .int (f2 i), fun i => .int (f3 i)]⟩] ∧ (leN zn 41) ∧ pos0 i1)) = (
  (Exists (fun (u0 : (Nat →
  Int)) => (((cb = cb ∧
  (94 = 94 ∧
  (co = co ∧
  (cn = cn ∧
  [(fun (i1 : Nat) => (SC.u8 (cu i1)))] = [(fun (i2 : Nat) => (SC.u8 (u0 i2)))])))) ∧
  ((codeC cn u0) ∧
  (pos0 ci))) ∧
  (∀ zg3 : Int,
  (∀ zb4 : Int,
  (∀ zr5 : Int,
  (∀ zc6 : Int,
  (∀ i17 : Int,
  (∀ z18 : Int,
  ((geoC zg3 zb4 zr5 zc6) →
  ((pos0 i17) →
   (∀ b9 : Nat,
    (b9 = b9 ∧
    (∀ b10 : Nat,
    (Exists (fun (u11 : (Nat →
    Int)) => (((cb = cb ∧
    (94 = 94 ∧
    (co = co ∧
    (cn = cn ∧
    [(fun (i12 : Nat) => (SC.u8 (cu i12)))] = [(fun (i13 : Nat) => (SC.u8 (u11 i13)))])))) ∧
    ((codeC cn u11) ∧
    ((pos0 i17) ∧
    (inR (12 : Int) (1 : Int) (4294967296 : Int))))) ∧
    (∀ z014 : Int,
    (∀ i115 : Int,
    (∀ z116 : Int,
    ((inR z014 (0 : Int) ((12 : Int) - (1 : Int))) →
    ((pos0 i115) →
     (Exists (fun (u17 : (Nat →
      Int)) => (((cb = cb ∧
      (94 = 94 ∧
      (co = co ∧
      (cn = cn ∧
      [(fun (i18 : Nat) => (SC.u8 (cu i18)))] = [(fun (i19 : Nat) => (SC.u8 (u17 i19)))])))) ∧
      ((codeC cn u17) ∧
      ((pos0 i115) ∧
      (inR (20 : Int) (1 : Int) (4294967296 : Int))))) ∧
      (∀ z020 : Int,
      (∀ i121 : Int,
      (∀ z122 : Int,
      ((inR z020 (0 : Int) ((20 : Int) - (1 : Int))) →
      ((pos0 i121) →
       (((z020 == (0 : Int)) = Bool.true →
        (Exists (fun (u23 : (Nat →
         Int)) => (((cb = cb ∧
         (94 = 94 ∧
         (co = co ∧
         (cn = cn ∧
         [(fun (i24 : Nat) => (SC.u8 (cu i24)))] = [(fun (i25 : Nat) => (SC.u8 (u23 i25)))])))) ∧
         ((codeC cn u23) ∧
         ((pos0 i121) ∧
         (inR (2 : Int) (1 : Int) (4294967296 : Int))))) ∧
         (∀ z026 : Int,
         (∀ i127 : Int,
         (∀ z128 : Int,
         ((inR z026 (0 : Int) ((2 : Int) - (1 : Int))) →
         ((pos0 i127) →
          ((rng ((40 : Int) + z026)) ∧
           (Exists (fun (b29 : Nat) => (Exists (fun (ci30 : Int) => (Exists (fun (cz31 : Int) => (Exists (fun (bg32 : Nat) => (Exists (fun (G33 : Int) => (Exists (fun (B34 : Int) => (Exists (fun (R35 : Int) => (Exists (fun (C36 : Int) => (Exists (fun (zn37 : Int) => (([(Value.pointer (Option.some (Addr.mk cb 0 Option.none))), (Value.tuple (List.toArray [])), (Value.slice Option.none 0 0), (Value.pointer (Option.some (Addr.mk b9 0 Option.none))), (Value.slice (Option.some (Addr.mk b10 0 Option.none)) 0 0), (Value.int IntKind.i64 ((40 : Int) + z026)), (Value.int IntKind.i64 (0 : Int)), (Value.pointer (Option.some (Addr.mk cb 0 Option.none))), (Value.agg (List.toArray [(Value.int IntKind.i64 zg3), (Value.int IntKind.i64 zb4), (Value.int IntKind.i64 zr5), (Value.int IntKind.i64 zc6)])), (Value.slice (Option.some (Addr.mk b10 0 Option.none)) 0 0), (Value.pointer (Option.some (Addr.mk cb 0 Option.none))), (Value.int IntKind.i64 z014), (Value.pointer (Option.some (Addr.mk cb 0 Option.none))), (Value.bool Bool.true), (Value.pointer (Option.some (Addr.mk cb 0 Option.none))), (Value.int IntKind.i64 z026), (Value.int IntKind.i64 ((40 : Int) + z026)), (Value.tuple (List.toArray [])), (Value.tuple (List.toArray [])), (Value.tuple (List.toArray [])), (Value.tuple (List.toArray [])), (Value.tuple (List.toArray [])), (Value.tuple (List.toArray [])), (Value.tuple (List.toArray [])), (Value.tuple (List.toArray [])), (Value.tuple (List.toArray [])), (Value.tuple (List.toArray [])), (Value.tuple (List.toArray [])), (Value.tuple (List.toArray []))] = [(Value.pointer (Option.some (Addr.mk cb 0 Option.none))), (Value.tuple (List.toArray [])), (Value.slice Option.none 0 0), (Value.pointer (Option.some (Addr.mk bg32 0 Option.none))), (Value.slice (Option.some (Addr.mk b29 0 Option.none)) 0 0), (Value.int IntKind.i64 zn37), (Value.int IntKind.i64 (0 : Int)), (Value.pointer (Option.some (Addr.mk cb 0 Option.none))), (Value.agg (List.toArray [(Value.int IntKind.i64 zg3), (Value.int IntKind.i64 zb4), (Value.int IntKind.i64 zr5), (Value.int IntKind.i64 zc6)])), (Value.slice (Option.some (Addr.mk b10 0 Option.none)) 0 0), (Value.pointer (Option.some (Addr.mk cb 0 Option.none))), (Value.int IntKind.i64 z014), (Value.pointer (Option.some (Addr.mk cb 0 Option.none))), (Value.bool Bool.true), (Value.pointer (Option.some (Addr.mk cb 0 Option.none))), (Value.int IntKind.i64 z026), (Value.int IntKind.i64 ((40 : Int) + z026)), (Value.tuple (List.toArray [])), (Value.tuple (List.toArray [])), (Value.tuple (List.toArray [])), (Value.tuple (List.toArray [])), (Value.tuple (List.toArray [])), (Value.tuple (List.toArray [])), (Value.tuple (List.toArray [])), (Value.tuple (List.toArray [])), (Value.tuple (List.toArray [])), (Value.tuple (List.toArray [])), (Value.tuple (List.toArray [])), (Value.tuple (List.toArray []))] ∧
           ([(Ch.cells cb 94 [(SC.sl 1 co cn cc), (SC.int i127), (SC.int z128)]), (Ch.row (Row.mk Bool.false co 0 1 cn 0 [(fun (i38 : Nat) => (SC.u8 (cu i38)))])), (Ch.cells b9 39 [(SC.int zg3), (SC.int zb4), (SC.int zr5), (SC.int zc6)]), (Ch.cells b10 41 [])] = [(Ch.cells cb 94 [(SC.sl 1 co cn cc), (SC.int ci30), (SC.int cz31)]), (Ch.row (Row.mk Bool.false co 0 1 cn 0 [(fun (i39 : Nat) => (SC.u8 (cu i39)))])), (Ch.cells bg32 39 [(SC.int G33), (SC.int B34), (SC.int R35), (SC.int C36)]), (Ch.cells b29 41 [])] ∧
           ((pos0 ci30) ∧
           ((geoC G33 B34 R35 C36) ∧
           (inR zn37 (0 : Int) (41 : Int)))))) ∧
           (∀ g40 : (Nat →
           Value),
           (∀ ao41 : (Option Addr),
           (∀ j42 : Nat,
           (∀ cap43 : Nat,
           (∀ ci44 : Int,
           (∀ cz45 : Int,
           (∀ f046 : (Nat →
           Int),
           (∀ f147 : (Nat →
           Int),
           (∀ f248 : (Nat →
           Int),
           (∀ f349 : (Nat →
           Int),
           (((pos0 ci44) ∧
           (leN j42 41)) →
           (Exists (fun (zn50 : Nat) => (Exists (fun (f051 : (Nat →
            Int)) => (Exists (fun (f152 : (Nat →
            Int)) => (Exists (fun (f253 : (Nat →
            Int)) => (Exists (fun (f354 : (Nat →
            Int)) => (Exists (fun (i155 : Int) => (Exists (fun (z156 : Int) => (Exists (fun (ro057 : (Option Addr)) => (Exists (fun (rc058 : Nat) => (((Value.slice ao41 j42 cap43) = (Value.slice ro057 zn50 rc058) ∧
            ((cb = cb ∧
            (94 = 94 ∧
            [(Value.slice co cn cc), (Value.int IntKind.i64 ci44), (Value.int IntKind.i64 cz45)] = [(Value.slice co cn cc), (Value.int IntKind.i64 i155), (Value.int IntKind.i64 z156)])) ∧
            (((Bool.true = Bool.true ∧
            (ao41 = ro057 ∧
            (41 = 41 ∧
            (4 = 4 ∧
            (j42 = zn50 ∧
            (cap43 = rc058 ∧
            ((∀ i59 : Nat,
            (i59 < j42 →
            (Value.int IntKind.i64 (f046 i59)) = (Value.int IntKind.i64 (f051 i59)))) ∧
            ((∀ i60 : Nat,
            (i60 < j42 →
            (Value.int IntKind.i64 (f147 i60)) = (Value.int IntKind.i64 (f152 i60)))) ∧
            ((∀ i61 : Nat,
            (i61 < j42 →
            (Value.int IntKind.i64 (f248 i61)) = (Value.int IntKind.i64 (f253 i61)))) ∧
            ((∀ i62 : Nat,
            (i62 < j42 →
            (Value.int IntKind.i64 (f349 i62)) = (Value.int IntKind.i64 (f354 i62)))) ∧
            True)))))))))) ∧
            True) ∧
            Bool.true = Bool.true))) ∧
            ((leN zn50 41) ∧
            (pos0 i155))))))))))))))))))))))))))))))))))))))))))))))))))))))))))))) ∧
        ((z020 == (0 : Int)) = Bool.false →
        (Exists (fun (b63 : Nat) => (Exists (fun (ci64 : Int) => (Exists (fun (cz65 : Int) => (Exists (fun (bg66 : Nat) => (Exists (fun (G67 : Int) => (Exists (fun (B68 : Int) => (Exists (fun (R69 : Int) => (Exists (fun (C70 : Int) => (Exists (fun (zn71 : Int) => (([(Value.pointer (Option.some (Addr.mk cb 0 Option.none))), (Value.tuple (List.toArray [])), (Value.slice Option.none 0 0), (Value.pointer (Option.some (Addr.mk b9 0 Option.none))), (Value.slice (Option.some (Addr.mk b10 0 Option.none)) 0 0), (Value.int IntKind.i64 z014), (Value.int IntKind.i64 (0 : Int)), (Value.pointer (Option.some (Addr.mk cb 0 Option.none))), (Value.agg (List.toArray [(Value.int IntKind.i64 zg3), (Value.int IntKind.i64 zb4), (Value.int IntKind.i64 zr5), (Value.int IntKind.i64 zc6)])), (Value.slice (Option.some (Addr.mk b10 0 Option.none)) 0 0), (Value.pointer (Option.some (Addr.mk cb 0 Option.none))), (Value.int IntKind.i64 z014), (Value.pointer (Option.some (Addr.mk cb 0 Option.none))), (Value.bool Bool.false), (Value.tuple (List.toArray [])), (Value.tuple (List.toArray [])), (Value.tuple (List.toArray [])), (Value.tuple (List.toArray [])), (Value.tuple (List.toArray [])), (Value.tuple (List.toArray [])), (Value.tuple (List.toArray [])), (Value.tuple (List.toArray [])), (Value.tuple (List.toArray [])), (Value.tuple (List.toArray [])), (Value.tuple (List.toArray [])), (Value.tuple (List.toArray [])), (Value.tuple (List.toArray [])), (Value.tuple (List.toArray [])), (Value.tuple (List.toArray []))] = [(Value.pointer (Option.some (Addr.mk cb 0 Option.none))), (Value.tuple (List.toArray [])), (Value.slice Option.none 0 0), (Value.pointer (Option.some (Addr.mk bg66 0 Option.none))), (Value.slice (Option.some (Addr.mk b63 0 Option.none)) 0 0), (Value.int IntKind.i64 zn71), (Value.int IntKind.i64 (0 : Int)), (Value.pointer (Option.some (Addr.mk cb 0 Option.none))), (Value.agg (List.toArray [(Value.int IntKind.i64 zg3), (Value.int IntKind.i64 zb4), (Value.int IntKind.i64 zr5), (Value.int IntKind.i64 zc6)])), (Value.slice (Option.some (Addr.mk b10 0 Option.none)) 0 0), (Value.pointer (Option.some (Addr.mk cb 0 Option.none))), (Value.int IntKind.i64 z014), (Value.pointer (Option.some (Addr.mk cb 0 Option.none))), (Value.bool Bool.false), (Value.tuple (List.toArray [])), (Value.tuple (List.toArray [])), (Value.tuple (List.toArray [])), (Value.tuple (List.toArray [])), (Value.tuple (List.toArray [])), (Value.tuple (List.toArray [])), (Value.tuple (List.toArray [])), (Value.tuple (List.toArray [])), (Value.tuple (List.toArray [])), (Value.tuple (List.toArray [])), (Value.tuple (List.toArray [])), (Value.tuple (List.toArray [])), (Value.tuple (List.toArray [])), (Value.tuple (List.toArray [])), (Value.tuple (List.toArray []))] ∧
         ([(Ch.cells cb 94 [(SC.sl 1 co cn cc), (SC.int i121), (SC.int z122)]), (Ch.row (Row.mk Bool.false co 0 1 cn 0 [(fun (i72 : Nat) => (SC.u8 (cu i72)))])), (Ch.cells b9 39 [(SC.int zg3), (SC.int zb4), (SC.int zr5), (SC.int zc6)]), (Ch.cells b10 41 [])] = [(Ch.cells cb 94 [(SC.sl 1 co cn cc), (SC.int ci64), (SC.int cz65)]), (Ch.row (Row.mk Bool.false co 0 1 cn 0 [(fun (i73 : Nat) => (SC.u8 (cu i73)))])), (Ch.cells bg66 39 [(SC.int G67), (SC.int B68), (SC.int R69), (SC.int C70)]), (Ch.cells b63 41 [])] ∧
         ((pos0 ci64) ∧
         ((geoC G67 B68 R69 C70) ∧
         (inR zn71 (0 : Int) (41 : Int)))))) ∧
         (∀ g74 : (Nat →
         Value),
         (∀ ao75 : (Option Addr),
         (∀ j76 : Nat,
         (∀ cap77 : Nat,
         (∀ ci78 : Int,
         (∀ cz79 : Int,
         (∀ f080 : (Nat →
         Int),
         (∀ f181 : (Nat →
         Int),
         (∀ f282 : (Nat →
         Int),
         (∀ f383 : (Nat →
         Int),
         (((pos0 ci78) ∧
         (leN j76 41)) →
         (Exists (fun (zn84 : Nat) => (Exists (fun (f085 : (Nat →
          Int)) => (Exists (fun (f186 : (Nat →
          Int)) => (Exists (fun (f287 : (Nat →
          Int)) => (Exists (fun (f388 : (Nat →
          Int)) => (Exists (fun (i189 : Int) => (Exists (fun (z190 : Int) => (Exists (fun (ro091 : (Option Addr)) => (Exists (fun (rc092 : Nat) => (((Value.slice ao75 j76 cap77) = (Value.slice ro091 zn84 rc092) ∧
          ((cb = cb ∧
          (94 = 94 ∧
          [(Value.slice co cn cc), (Value.int IntKind.i64 ci78), (Value.int IntKind.i64 cz79)] = [(Value.slice co cn cc), (Value.int IntKind.i64 i189), (Value.int IntKind.i64 z190)])) ∧
          (((Bool.true = Bool.true ∧
          (ao75 = ro091 ∧
          (41 = 41 ∧
          (4 = 4 ∧
          (j76 = zn84 ∧
          (cap77 = rc092 ∧
          ((∀ i93 : Nat,
          (i93 < j76 →
          (Value.int IntKind.i64 (f080 i93)) = (Value.int IntKind.i64 (f085 i93)))) ∧
          ((∀ i94 : Nat,
          (i94 < j76 →
          (Value.int IntKind.i64 (f181 i94)) = (Value.int IntKind.i64 (f186 i94)))) ∧
          ((∀ i95 : Nat,
          (i95 < j76 →
          (Value.int IntKind.i64 (f282 i95)) = (Value.int IntKind.i64 (f287 i95)))) ∧
          ((∀ i96 : Nat,
          (i96 < j76 →
          (Value.int IntKind.i64 (f383 i96)) = (Value.int IntKind.i64 (f388 i96)))) ∧
          True)))))))))) ∧
          True) ∧
          Bool.true = Bool.true))) ∧
          ((leN zn84 41) ∧
          (pos0 i189)))))))))))))))))))))))))))))))))))))))))))))))))))))))))))))))))))))))))))))))))))) := by kernel_rfl
theorem sListC_any (cb : Nat) (co : Option Addr) (cn cc : Nat) (ci cz : Int) (cu : Nat → Int) (w : World) (hs : HS ⟨w, (Ch.cells cb 94 [.sl 1 co cn cc, .int ci, .int cz]).at⟩ [.cells cb 94 [.sl 1 co cn cc, .int ci, .int cz], .row ⟨false, co, 0, 1, cn, 0, [fun i => .u8 (cu i)]⟩] w) (hcode : codeC cn cu) (hci : pos0 ci) : Calls Try.prog 74 #[.pointer (some ⟨cb, 0, none⟩)] w fun e w' => ∃ (zn : Nat) (f0 : Nat → Int) (f1 : Nat → Int) (f2 : Nat → Int) (f3 : Nat → Int) (i1 z1 : Int) (ro0 : Option Addr) (rc0 : Nat), ((leN zn 41) ∧ pos0 i1) ∧ e = .returned (.slice ro0 (zn) rc0) ∧ HS ⟨w, (Ch.cells cb 94 [.sl 1 co cn cc, .int ci, .int cz]).at⟩ [.cells cb 94 [.sl 1 co cn cc, .int i1, .int z1], .row ⟨true, ro0, 41, 4, zn, rc0, [fun i => .int (f0 i), fun i => .int (f1 i), fun i => .int (f2 i), fun i => .int (f3 i)]⟩] w' := by
  refine fn_ok mixed (E := {tb := [(55, sBelow), (65, sOnce), (53, sGeoD), (54, sCmdD)], L := [(7, sli cb co cn cc cu)], D := fun _ => [0]}) ⟨sBelow_ok, sOnce_ok, sGeoD_ok, sCmdD_ok, trivial⟩ Try.func74 (one_loop (by kernel_rfl) (by kernel_rfl) (li_ok cb co cn cc cu hcode _)) (@Eq.mpr _ _ (sListC_T cb co cn cc ci cz cu) ?_) hs (fun v ch' w' ⟨zn, f0, f1, f2, f3, i1, z1, ro0, rc0, hk, hf⟩ hs => ⟨zn, f0, f1, f2, f3, i1, z1, ro0, rc0, hf, by rw [hk.1], hk.hs hs⟩)
  clear hs
  have hcn : cn ≤ 1048576 := hcode.1
  have hci0 : 0 ≤ ci := hci
  repeat' (first
    | with_reducible exact rfl
    | exact True.intro
    | with_reducible assumption
    | refine And.intro ?_ ?_
    | apply Exists.intro
    | (intro i hi; exact rfl)
    | (rintro h; have h1 := h.1; have h2 := h.2; clear h)
    | intro _
    | omega)
def sList : Sm := fun args ch k =>
  match args with
  | [.a (.c (.ptr id b off))] =>
    match off, ch[id]? with
    | 0, some (.cells b' t [.sl j ao n cap, ic, hc]) =>
      match ch[j]?, asI ic, asI hc with
      | some (.row r), some i, some z => ∃ u : Nat → Int, ((b = b' ∧ t = 94 ∧ ao = r.ao ∧ n = r.n ∧ r.fld = [fun i => .u8 (u i)]) ∧ codeC n u ∧ pos0 i) ∧ ∀ (zn : Nat), ∀ (f0 : Nat → Int), ∀ (f1 : Nat → Int), ∀ (f2 : Nat → Int), ∀ (f3 : Nat → Int), ∀ (i1 z1 : Int), ∀ (ro0 : Option Addr) (rc0 : Nat), (leN zn 41) → pos0 i1 → k (.a (.c (.sl (ch.length) ro0 (zn) rc0))) (ch.set id (.cells b 94 [.sl j ao n cap, .int i1, .int z1]) ++ [.row ⟨true, ro0, 41, 4, zn, rc0, [fun i => .int (f0 i), fun i => .int (f1 i), fun i => .int (f2 i), fun i => .int (f3 i)]⟩]) [id]
      | _, _, _ => False
    | _, _ => False
  | _ => False
theorem sList_ok : SmOK Try.prog 74 sList := by
  refine smTurnN Try.call74 fun args ch k w X h0 hs => ?_
  unfold sList at h0
  split at h0
  · rename_i id b off
    split at h0
    · rename_i b' t j ao n cap ic hc hid
      split at h0
      · rename_i r i z hj hi hz
        obtain ⟨u, ⟨⟨rfl, rfl, hao, hn, hf⟩, hcode, hi0⟩, h0⟩ := h0
        refine ⟨id, _, hid, rfl, ?_⟩
        simp only [List.map_cons, List.map_nil, den_a, den_c, SA.den]
        exact Calls.mono (sListC_any b ao n cap i z u  w (hs.cur' hid hj hi hz hao hn hf) hcode hi0) fun e w' ⟨zn, f0, f1, f2, f3, i1, z1, ro0, rc0, ⟨hfa, hp⟩, he, hn'⟩ => ⟨.a (.c (.sl (ch.length) ro0 (zn) rc0)), _, [.row ⟨true, ro0, 41, 4, zn, rc0, [fun i => .int (f0 i), fun i => .int (f1 i), fun i => .int (f2 i), fun i => .int (f3 i)]⟩], he, hn'.recur, at_cells, rfl, h0 zn f0 f1 f2 f3 i1 z1 ro0 rc0 hfa hp⟩
      · exact h0.elim
    · exact h0.elim
  · exact h0.elim
end Go.Proofs.Ytkfinkolllpcgaa
