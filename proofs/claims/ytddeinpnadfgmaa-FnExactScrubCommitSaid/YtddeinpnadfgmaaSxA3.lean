/-
  Arrays copied.
-/
import Derived.Test.YtddeinpnadfgmaaSxA2
namespace Go.Proofs.Ytddeinpnadfgmaa
set_option linter.unusedVariables false
set_option linter.unusedSimpArgs false
open Go.RowKit
set_option maxRecDepth 100000
set_option maxHeartbeats 8000000

theorem symRows_nil {o : Bool} {t : Nat} {sn : Nat → Nat} {sy : Nat → Nat → Int} {po : Nat → Bool} {so : Nat → Option Addr} {sc : Nat → Nat} : symRows o t ⟨0, sn, sy, po⟩ so sc = [] := rfl
theorem cpaI_T (x : AD) (O A H : Option Addr) (C D E : Nat) (so : Nat → Option Addr) (sc : Nat → Nat) : (exFn Try.prog { L := [(3, scpI)] } 400 Try.f53 ([.a (arrS 0 x O A H C D E)]) (arrR 0 x O A H so sc) (fun v ch => ∃ (Oq Aq Hq : Option Addr) (Cq Dq Ee : Nat) (soq : Nat → Option Addr) (scq : Nat → Nat), v.den = arrV x Oq Aq Hq Cq Dq Ee ∧ SelS ch (idsArr v ch) (arrO 0 x Oq Aq Hq Cq Dq Ee soq scq))) = (
  (∀ b0 : Nat,
 (∀ b1 : Nat,
 (b0 = b0 ∧
 (b0 = b0 ∧
 ((∀ b2 : Nat,
 (True ∧
 (((b2 = b2 ∧
 ((A = A ∧
 (x).2 = (x).2) ∧
 ((∀ i3 : Nat,
 Bool.true = Bool.true) ∧
 (apC 0 (x).2 8)))) ∧
 (∀ ao4 : (Option Addr),
 (∀ cap5 : Nat,
 (True ∧
 ((∀ b6 : Nat,
 (True ∧
 (((b6 = b6 ∧
 ((H = H ∧
 (x).4 = (x).4) ∧
 ((∀ i7 : Nat,
 Bool.true = Bool.true) ∧
 (apC 0 (x).4 8)))) ∧
 (∀ ao8 : (Option Addr),
 (∀ cap9 : Nat,
 (True ∧
 (∀ b10 : Nat,
 (True ∧
 (b10 = b10 ∧
 (True ∧
 (b0 = b0 ∧
 (Exists (fun (x11 : AD) => (Exists (fun (O12 : (Option Addr)) => (Exists (fun (A13 : (Option Addr)) => (Exists (fun (H14 : (Option Addr)) => (Exists (fun (C15 : Nat) => (Exists (fun (D16 : Nat) => (Exists (fun (E17 : Nat) => (Exists (fun (so18 : (Nat →
 (Option Addr))) => (Exists (fun (sc19 : (Nat →
 Nat)) => (Exists (fun (bp20 : Nat) => (Exists (fun (br21 : Nat) => (Exists (fun (bo22 : Nat) => (Exists (fun (Aq23 : (Option Addr)) => (Exists (fun (Hq24 : (Option Addr)) => (Exists (fun (Dq25 : Nat) => (Exists (fun (Ee26 : Nat) => (([(Value.agg (List.toArray [(Value.slice O ((x).1).1 C), (Value.slice A (x).2 D), (Value.slice H (x).4 E)])), (Value.pointer (Option.some (Addr.mk b0 0 (none : Option (Nat))))), (Value.pointer (Option.some (Addr.mk b1 0 (none : Option (Nat))))), (Value.pointer (Option.some (Addr.mk b10 0 (none : Option (Nat))))), (Value.tuple (List.toArray [])), (Value.tuple (List.toArray [])), (Value.slice (Option.some (Addr.mk b2 0 (none : Option (Nat)))) 0 0), (Value.pointer (Option.some (Addr.mk b0 1 (none : Option (Nat))))), (Value.slice A (x).2 D), (Value.slice ao4 (x).2 cap5), (Value.slice (Option.some (Addr.mk b6 0 (none : Option (Nat)))) 0 0), (Value.pointer (Option.some (Addr.mk b0 2 (none : Option (Nat))))), (Value.slice H (x).4 E), (Value.slice ao8 (x).4 cap9), (Value.agg (List.toArray [(Value.slice (none : Option (Addr)) 0 0), (Value.slice ao4 (x).2 cap5), (Value.slice ao8 (x).4 cap9)])), (Value.pointer (Option.some (Addr.mk b0 0 (none : Option (Nat))))), (Value.slice O ((x).1).1 C), (Value.int IntKind.i64 ((((x).1).1 : Nat) : Int)), (Value.int IntKind.i64 (0 : Int)), (Value.tuple (List.toArray [])), (Value.tuple (List.toArray [])), (Value.tuple (List.toArray [])), (Value.tuple (List.toArray [])), (Value.tuple (List.toArray [])), (Value.tuple (List.toArray [])), (Value.tuple (List.toArray [])), (Value.tuple (List.toArray [])), (Value.tuple (List.toArray [])), (Value.tuple (List.toArray [])), (Value.tuple (List.toArray [])), (Value.tuple (List.toArray []))] = [(Value.agg (List.toArray [(Value.slice O ((x).1).1 C), (Value.slice A (x).2 D), (Value.slice H (x).4 E)])), (Value.pointer (Option.some (Addr.mk bp20 0 (none : Option (Nat))))), (Value.pointer (Option.some (Addr.mk br21 0 (none : Option (Nat))))), (Value.pointer (Option.some (Addr.mk bo22 0 (none : Option (Nat))))), (Value.tuple (List.toArray [])), (Value.tuple (List.toArray [])), (Value.slice (Option.some (Addr.mk b2 0 (none : Option (Nat)))) 0 0), (Value.pointer (Option.some (Addr.mk b0 1 (none : Option (Nat))))), (Value.slice A (x).2 D), (Value.slice ao4 (x).2 cap5), (Value.slice (Option.some (Addr.mk b6 0 (none : Option (Nat)))) 0 0), (Value.pointer (Option.some (Addr.mk b0 2 (none : Option (Nat))))), (Value.slice H (x).4 E), (Value.slice ao8 (x).4 cap9), (Value.agg (List.toArray [(Value.slice (none : Option (Addr)) 0 0), (Value.slice ao4 (x).2 cap5), (Value.slice ao8 (x).4 cap9)])), (Value.pointer (Option.some (Addr.mk b0 0 (none : Option (Nat))))), (Value.slice O12 ((x11).1).1 C15), (Value.int IntKind.i64 ((((x11).1).1 : Nat) : Int)), (Value.int IntKind.i64 (0 : Int)), (Value.tuple (List.toArray [])), (Value.tuple (List.toArray [])), (Value.tuple (List.toArray [])), (Value.tuple (List.toArray [])), (Value.tuple (List.toArray [])), (Value.tuple (List.toArray [])), (Value.tuple (List.toArray [])), (Value.tuple (List.toArray [])), (Value.tuple (List.toArray [])), (Value.tuple (List.toArray [])), (Value.tuple (List.toArray [])), (Value.tuple (List.toArray []))] ∧
 ((SelS [(Ch.row (Row.mk Bool.false O 0 2 ((x).1).1 0 [(fun (i27 : Nat) => (SC.sl 3 (so i27) (((x).1).2 i27) (sc i27))), (fun (i28 : Nat) => (SC.bool (((x).1).4 i28)))])), (Ch.row (Row.mk Bool.false A 0 1 (x).2 0 [(fun (i29 : Nat) => (SC.int ((x).3 i29)))])), (Ch.row (Row.mk Bool.false H 0 1 (x).4 0 [(fun (i30 : Nat) => (SC.int ((x).5 i30)))])), (Ch.obj Bool.false (symRows Bool.false 0 (x).1 so (fun (x31 : Nat) => 0))), (Ch.cells b0 33 [(SC.sl 0 O ((x).1).1 C), (SC.sl 1 A (x).2 D), (SC.sl 2 H (x).4 E)]), (Ch.cells b1 33 [SC.nil, SC.nil, SC.nil]), Ch.dead, (Ch.row (Row.mk Bool.true ao4 3 1 (x).2 cap5 [(fun (i32 : Nat) => (SC.int ((x).3 i32)))])), Ch.dead, (Ch.row (Row.mk Bool.true ao8 3 1 (x).4 cap9 [(fun (i33 : Nat) => (SC.int ((x).5 i33)))])), (Ch.cells b10 33 [SC.nil, (SC.sl 7 ao4 (x).2 cap5), (SC.sl 9 ao8 (x).4 cap9)])] [0, 1, 2, 3, 4, 5, 10, 1000000, 7, 9, 1000003] [(Ch.row (Row.mk Bool.false O12 0 2 ((x11).1).1 0 [(fun (i34 : Nat) => (SC.sl 3 (so18 i34) (((x11).1).2 i34) (sc19 i34))), (fun (i35 : Nat) => (SC.bool (((x11).1).4 i35)))])), (Ch.row (Row.mk Bool.false A13 0 1 (x11).2 0 [(fun (i36 : Nat) => (SC.int ((x11).3 i36)))])), (Ch.row (Row.mk Bool.false H14 0 1 (x11).4 0 [(fun (i37 : Nat) => (SC.int ((x11).5 i37)))])), (Ch.obj Bool.false (symRows Bool.false 0 (x11).1 so18 (fun (x38 : Nat) => 0))), (Ch.cells bp20 33 [(SC.sl 0 O12 ((x11).1).1 C15), (SC.sl 1 A13 (x11).2 D16), (SC.sl 2 H14 (x11).4 E17)]), (Ch.cells br21 33 [SC.nil, SC.nil, SC.nil]), (Ch.cells bo22 33 [(SC.sl 7 (none : Option (Addr)) 0 0), (SC.sl 8 Aq23 (x11).2 Dq25), (SC.sl 9 Hq24 (x11).4 Ee26)]), (Ch.row (Row.mk Bool.true (none : Option (Addr)) 52 2 0 0 [(fun (i39 : Nat) => (SC.sl 10 (none : Option (Addr)) (((x11).1).2 i39) 0)), (fun (i40 : Nat) => (SC.bool (((x11).1).4 i40)))])), (Ch.row (Row.mk Bool.true Aq23 3 1 (x11).2 Dq25 [(fun (i41 : Nat) => (SC.int ((x11).3 i41)))])), (Ch.row (Row.mk Bool.true Hq24 3 1 (x11).4 Ee26 [(fun (i42 : Nat) => (SC.int ((x11).5 i42)))])), (Ch.obj Bool.true (symRows Bool.true 3 (CD.mk 0 ((x11).1).2 ((x11).1).3 ((x11).1).4) (fun (x43 : Nat) => (none : Option (Addr))) (fun (x44 : Nat) => 0)))]) ∧
 (capA x11))) ∧
 (∀ g45 : (Nat →
 Value),
 (∀ kx46 : Int,
 (∀ Oq47 : (Option Addr),
 (∀ Cq48 : Nat,
 (∀ soq49 : (Nat →
 (Option Addr)),
 (∀ scq50 : (Nat →
 Nat),
 (bo22 = bo22 ∧
 (br21 = br21 ∧
 (br21 = br21 ∧
 (Exists (fun (Oq51 : (Option Addr)) => (Exists (fun (Aq52 : (Option Addr)) => (Exists (fun (Hq53 : (Option Addr)) => (Exists (fun (Cq54 : Nat) => (Exists (fun (Dq55 : Nat) => (Exists (fun (Ee56 : Nat) => (Exists (fun (soq57 : (Nat →
 (Option Addr))) => (Exists (fun (scq58 : (Nat →
 Nat)) => ((Value.agg (List.toArray [(Value.slice Oq47 ((x11).1).1 Cq48), (Value.slice Aq23 (x11).2 Dq25), (Value.slice Hq24 (x11).4 Ee26)])) = (Value.agg (List.toArray [(Value.slice Oq51 ((x).1).1 Cq54), (Value.slice Aq52 (x).2 Dq55), (Value.slice Hq53 (x).4 Ee56)])) ∧
 (SelS [(Ch.row (Row.mk Bool.false O12 0 2 ((x11).1).1 0 [(fun (i59 : Nat) => (SC.sl 3 (so18 i59) (((x11).1).2 i59) (sc19 i59))), (fun (i60 : Nat) => (SC.bool (((x11).1).4 i60)))])), (Ch.row (Row.mk Bool.false A13 0 1 (x11).2 0 [(fun (i61 : Nat) => (SC.int ((x11).3 i61)))])), (Ch.row (Row.mk Bool.false H14 0 1 (x11).4 0 [(fun (i62 : Nat) => (SC.int ((x11).5 i62)))])), (Ch.obj Bool.false (symRows Bool.false 0 (x11).1 so18 (fun (x63 : Nat) => 0))), (Ch.cells bp20 33 [(SC.sl 0 O12 ((x11).1).1 C15), (SC.sl 1 A13 (x11).2 D16), (SC.sl 2 H14 (x11).4 E17)]), (Ch.cells br21 33 [(SC.sl 7 Oq47 ((x11).1).1 Cq48), (SC.sl 8 Aq23 (x11).2 Dq25), (SC.sl 9 Hq24 (x11).4 Ee26)]), (Ch.cells bo22 33 [(SC.sl 7 Oq47 ((x11).1).1 Cq48), (SC.sl 8 Aq23 (x11).2 Dq25), (SC.sl 9 Hq24 (x11).4 Ee26)]), (Ch.row (Row.mk Bool.true Oq47 52 2 ((x11).1).1 Cq48 [(fun (i64 : Nat) => (SC.sl 10 (soq49 i64) (((x11).1).2 i64) (scq50 i64))), (fun (i65 : Nat) => (SC.bool (((x11).1).4 i65)))])), (Ch.row (Row.mk Bool.true Aq23 3 1 (x11).2 Dq25 [(fun (i66 : Nat) => (SC.int ((x11).3 i66)))])), (Ch.row (Row.mk Bool.true Hq24 3 1 (x11).4 Ee26 [(fun (i67 : Nat) => (SC.int ((x11).5 i67)))])), (Ch.obj Bool.true (symRows Bool.true 3 (CD.mk ((x11).1).1 ((x11).1).2 ((x11).1).3 ((x11).1).4) soq49 scq50))] [7, 8, 9, 10] [(Ch.row (Row.mk Bool.true Oq51 52 2 ((x).1).1 Cq54 [(fun (i68 : Nat) => (SC.sl 3 (soq57 i68) (((x).1).2 i68) (scq58 i68))), (fun (i69 : Nat) => (SC.bool (((x).1).4 i69)))])), (Ch.row (Row.mk Bool.true Aq52 3 1 (x).2 Dq55 [(fun (i70 : Nat) => (SC.int ((x).3 i70)))])), (Ch.row (Row.mk Bool.true Hq53 3 1 (x).4 Ee56 [(fun (i71 : Nat) => (SC.int ((x).5 i71)))])), (Ch.obj Bool.true (symRows Bool.true 3 (x).1 soq57 scq58))]))))))))))))))))))))))))))))))))))))))))))))))))))))))))))))))))))))) ∧
 (∀ b72 : Nat,
 (True ∧
 ((b6 = b6 ∧
 ((H = H ∧
 (x).4 = (x).4) ∧
 ((∀ i73 : Nat,
 Bool.true = Bool.true) ∧
 (apC 0 (x).4 8)))) ∧
 (∀ ao74 : (Option Addr),
 (∀ cap75 : Nat,
 (True ∧
 (b72 = b72 ∧
 (True ∧
 (b0 = b0 ∧
 (Exists (fun (x76 : AD) => (Exists (fun (O77 : (Option Addr)) => (Exists (fun (A78 : (Option Addr)) => (Exists (fun (H79 : (Option Addr)) => (Exists (fun (C80 : Nat) => (Exists (fun (D81 : Nat) => (Exists (fun (E82 : Nat) => (Exists (fun (so83 : (Nat →
 (Option Addr))) => (Exists (fun (sc84 : (Nat →
 Nat)) => (Exists (fun (bp85 : Nat) => (Exists (fun (br86 : Nat) => (Exists (fun (bo87 : Nat) => (Exists (fun (Aq88 : (Option Addr)) => (Exists (fun (Hq89 : (Option Addr)) => (Exists (fun (Dq90 : Nat) => (Exists (fun (Ee91 : Nat) => (([(Value.agg (List.toArray [(Value.slice O ((x).1).1 C), (Value.slice A (x).2 D), (Value.slice H (x).4 E)])), (Value.pointer (Option.some (Addr.mk b0 0 (none : Option (Nat))))), (Value.pointer (Option.some (Addr.mk b1 0 (none : Option (Nat))))), (Value.pointer (Option.some (Addr.mk b72 0 (none : Option (Nat))))), (Value.tuple (List.toArray [])), (Value.tuple (List.toArray [])), (Value.slice (Option.some (Addr.mk b2 0 (none : Option (Nat)))) 0 0), (Value.pointer (Option.some (Addr.mk b0 1 (none : Option (Nat))))), (Value.slice A (x).2 D), (Value.slice ao4 (x).2 cap5), (Value.slice (Option.some (Addr.mk b6 0 (none : Option (Nat)))) 0 0), (Value.pointer (Option.some (Addr.mk b0 2 (none : Option (Nat))))), (Value.slice H (x).4 E), (Value.slice ao74 (x).4 cap75), (Value.agg (List.toArray [(Value.slice (none : Option (Addr)) 0 0), (Value.slice ao4 (x).2 cap5), (Value.slice ao74 (x).4 cap75)])), (Value.pointer (Option.some (Addr.mk b0 0 (none : Option (Nat))))), (Value.slice O ((x).1).1 C), (Value.int IntKind.i64 ((((x).1).1 : Nat) : Int)), (Value.int IntKind.i64 (0 : Int)), (Value.tuple (List.toArray [])), (Value.tuple (List.toArray [])), (Value.tuple (List.toArray [])), (Value.tuple (List.toArray [])), (Value.tuple (List.toArray [])), (Value.tuple (List.toArray [])), (Value.tuple (List.toArray [])), (Value.tuple (List.toArray [])), (Value.tuple (List.toArray [])), (Value.tuple (List.toArray [])), (Value.tuple (List.toArray [])), (Value.tuple (List.toArray []))] = [(Value.agg (List.toArray [(Value.slice O ((x).1).1 C), (Value.slice A (x).2 D), (Value.slice H (x).4 E)])), (Value.pointer (Option.some (Addr.mk bp85 0 (none : Option (Nat))))), (Value.pointer (Option.some (Addr.mk br86 0 (none : Option (Nat))))), (Value.pointer (Option.some (Addr.mk bo87 0 (none : Option (Nat))))), (Value.tuple (List.toArray [])), (Value.tuple (List.toArray [])), (Value.slice (Option.some (Addr.mk b2 0 (none : Option (Nat)))) 0 0), (Value.pointer (Option.some (Addr.mk b0 1 (none : Option (Nat))))), (Value.slice A (x).2 D), (Value.slice ao4 (x).2 cap5), (Value.slice (Option.some (Addr.mk b6 0 (none : Option (Nat)))) 0 0), (Value.pointer (Option.some (Addr.mk b0 2 (none : Option (Nat))))), (Value.slice H (x).4 E), (Value.slice ao74 (x).4 cap75), (Value.agg (List.toArray [(Value.slice (none : Option (Addr)) 0 0), (Value.slice ao4 (x).2 cap5), (Value.slice ao74 (x).4 cap75)])), (Value.pointer (Option.some (Addr.mk b0 0 (none : Option (Nat))))), (Value.slice O77 ((x76).1).1 C80), (Value.int IntKind.i64 ((((x76).1).1 : Nat) : Int)), (Value.int IntKind.i64 (0 : Int)), (Value.tuple (List.toArray [])), (Value.tuple (List.toArray [])), (Value.tuple (List.toArray [])), (Value.tuple (List.toArray [])), (Value.tuple (List.toArray [])), (Value.tuple (List.toArray [])), (Value.tuple (List.toArray [])), (Value.tuple (List.toArray [])), (Value.tuple (List.toArray [])), (Value.tuple (List.toArray [])), (Value.tuple (List.toArray [])), (Value.tuple (List.toArray []))] ∧
 ((SelS [(Ch.row (Row.mk Bool.false O 0 2 ((x).1).1 0 [(fun (i92 : Nat) => (SC.sl 3 (so i92) (((x).1).2 i92) (sc i92))), (fun (i93 : Nat) => (SC.bool (((x).1).4 i93)))])), (Ch.row (Row.mk Bool.false A 0 1 (x).2 0 [(fun (i94 : Nat) => (SC.int ((x).3 i94)))])), (Ch.row (Row.mk Bool.false H 0 1 (x).4 0 [(fun (i95 : Nat) => (SC.int ((x).5 i95)))])), (Ch.obj Bool.false (symRows Bool.false 0 (x).1 so (fun (x96 : Nat) => 0))), (Ch.cells b0 33 [(SC.sl 0 O ((x).1).1 C), (SC.sl 1 A (x).2 D), (SC.sl 2 H (x).4 E)]), (Ch.cells b1 33 [SC.nil, SC.nil, SC.nil]), Ch.dead, (Ch.row (Row.mk Bool.true ao4 3 1 (x).2 cap5 [(fun (i97 : Nat) => (SC.int ((x).3 i97)))])), Ch.dead, (Ch.cells b72 33 [SC.nil, (SC.sl 7 ao4 (x).2 cap5), (SC.sl 10 ao74 (x).4 cap75)]), (Ch.row (Row.mk Bool.true ao74 3 1 (x).4 cap75 [(fun (i98 : Nat) => (SC.int ((x).5 i98)))]))] [0, 1, 2, 3, 4, 5, 9, 1000000, 7, 10, 1000003] [(Ch.row (Row.mk Bool.false O77 0 2 ((x76).1).1 0 [(fun (i99 : Nat) => (SC.sl 3 (so83 i99) (((x76).1).2 i99) (sc84 i99))), (fun (i100 : Nat) => (SC.bool (((x76).1).4 i100)))])), (Ch.row (Row.mk Bool.false A78 0 1 (x76).2 0 [(fun (i101 : Nat) => (SC.int ((x76).3 i101)))])), (Ch.row (Row.mk Bool.false H79 0 1 (x76).4 0 [(fun (i102 : Nat) => (SC.int ((x76).5 i102)))])), (Ch.obj Bool.false (symRows Bool.false 0 (x76).1 so83 (fun (x103 : Nat) => 0))), (Ch.cells bp85 33 [(SC.sl 0 O77 ((x76).1).1 C80), (SC.sl 1 A78 (x76).2 D81), (SC.sl 2 H79 (x76).4 E82)]), (Ch.cells br86 33 [SC.nil, SC.nil, SC.nil]), (Ch.cells bo87 33 [(SC.sl 7 (none : Option (Addr)) 0 0), (SC.sl 8 Aq88 (x76).2 Dq90), (SC.sl 9 Hq89 (x76).4 Ee91)]), (Ch.row (Row.mk Bool.true (none : Option (Addr)) 52 2 0 0 [(fun (i104 : Nat) => (SC.sl 10 (none : Option (Addr)) (((x76).1).2 i104) 0)), (fun (i105 : Nat) => (SC.bool (((x76).1).4 i105)))])), (Ch.row (Row.mk Bool.true Aq88 3 1 (x76).2 Dq90 [(fun (i106 : Nat) => (SC.int ((x76).3 i106)))])), (Ch.row (Row.mk Bool.true Hq89 3 1 (x76).4 Ee91 [(fun (i107 : Nat) => (SC.int ((x76).5 i107)))])), (Ch.obj Bool.true (symRows Bool.true 3 (CD.mk 0 ((x76).1).2 ((x76).1).3 ((x76).1).4) (fun (x108 : Nat) => (none : Option (Addr))) (fun (x109 : Nat) => 0)))]) ∧
 (capA x76))) ∧
 (∀ g110 : (Nat →
 Value),
 (∀ kx111 : Int,
 (∀ Oq112 : (Option Addr),
 (∀ Cq113 : Nat,
 (∀ soq114 : (Nat →
 (Option Addr)),
 (∀ scq115 : (Nat →
 Nat),
 (bo87 = bo87 ∧
 (br86 = br86 ∧
 (br86 = br86 ∧
 (Exists (fun (Oq116 : (Option Addr)) => (Exists (fun (Aq117 : (Option Addr)) => (Exists (fun (Hq118 : (Option Addr)) => (Exists (fun (Cq119 : Nat) => (Exists (fun (Dq120 : Nat) => (Exists (fun (Ee121 : Nat) => (Exists (fun (soq122 : (Nat →
 (Option Addr))) => (Exists (fun (scq123 : (Nat →
 Nat)) => ((Value.agg (List.toArray [(Value.slice Oq112 ((x76).1).1 Cq113), (Value.slice Aq88 (x76).2 Dq90), (Value.slice Hq89 (x76).4 Ee91)])) = (Value.agg (List.toArray [(Value.slice Oq116 ((x).1).1 Cq119), (Value.slice Aq117 (x).2 Dq120), (Value.slice Hq118 (x).4 Ee121)])) ∧
 (SelS [(Ch.row (Row.mk Bool.false O77 0 2 ((x76).1).1 0 [(fun (i124 : Nat) => (SC.sl 3 (so83 i124) (((x76).1).2 i124) (sc84 i124))), (fun (i125 : Nat) => (SC.bool (((x76).1).4 i125)))])), (Ch.row (Row.mk Bool.false A78 0 1 (x76).2 0 [(fun (i126 : Nat) => (SC.int ((x76).3 i126)))])), (Ch.row (Row.mk Bool.false H79 0 1 (x76).4 0 [(fun (i127 : Nat) => (SC.int ((x76).5 i127)))])), (Ch.obj Bool.false (symRows Bool.false 0 (x76).1 so83 (fun (x128 : Nat) => 0))), (Ch.cells bp85 33 [(SC.sl 0 O77 ((x76).1).1 C80), (SC.sl 1 A78 (x76).2 D81), (SC.sl 2 H79 (x76).4 E82)]), (Ch.cells br86 33 [(SC.sl 7 Oq112 ((x76).1).1 Cq113), (SC.sl 8 Aq88 (x76).2 Dq90), (SC.sl 9 Hq89 (x76).4 Ee91)]), (Ch.cells bo87 33 [(SC.sl 7 Oq112 ((x76).1).1 Cq113), (SC.sl 8 Aq88 (x76).2 Dq90), (SC.sl 9 Hq89 (x76).4 Ee91)]), (Ch.row (Row.mk Bool.true Oq112 52 2 ((x76).1).1 Cq113 [(fun (i129 : Nat) => (SC.sl 10 (soq114 i129) (((x76).1).2 i129) (scq115 i129))), (fun (i130 : Nat) => (SC.bool (((x76).1).4 i130)))])), (Ch.row (Row.mk Bool.true Aq88 3 1 (x76).2 Dq90 [(fun (i131 : Nat) => (SC.int ((x76).3 i131)))])), (Ch.row (Row.mk Bool.true Hq89 3 1 (x76).4 Ee91 [(fun (i132 : Nat) => (SC.int ((x76).5 i132)))])), (Ch.obj Bool.true (symRows Bool.true 3 (CD.mk ((x76).1).1 ((x76).1).2 ((x76).1).3 ((x76).1).4) soq114 scq115))] [7, 8, 9, 10] [(Ch.row (Row.mk Bool.true Oq116 52 2 ((x).1).1 Cq119 [(fun (i133 : Nat) => (SC.sl 3 (soq122 i133) (((x).1).2 i133) (scq123 i133))), (fun (i134 : Nat) => (SC.bool (((x).1).4 i134)))])), (Ch.row (Row.mk Bool.true Aq117 3 1 (x).2 Dq120 [(fun (i135 : Nat) => (SC.int ((x).3 i135)))])), (Ch.row (Row.mk Bool.true Hq118 3 1 (x).4 Ee121 [(fun (i136 : Nat) => (SC.int ((x).5 i136)))])), (Ch.obj Bool.true (symRows Bool.true 3 (x).1 soq122 scq123))])))))))))))))))))))))))))))))))))))))))))))))))))))))))))))))))))))))))) ∧
 (∀ b137 : Nat,
 (True ∧
 (∀ b138 : Nat,
 (True ∧
 ((b138 = b138 ∧
 ((H = H ∧
 (x).4 = (x).4) ∧
 ((∀ i139 : Nat,
 Bool.true = Bool.true) ∧
 (apC 0 (x).4 8)))) ∧
 (∀ ao140 : (Option Addr),
 (∀ cap141 : Nat,
 (True ∧
 (b137 = b137 ∧
 (True ∧
 (b0 = b0 ∧
 (Exists (fun (x142 : AD) => (Exists (fun (O143 : (Option Addr)) => (Exists (fun (A144 : (Option Addr)) => (Exists (fun (H145 : (Option Addr)) => (Exists (fun (C146 : Nat) => (Exists (fun (D147 : Nat) => (Exists (fun (E148 : Nat) => (Exists (fun (so149 : (Nat →
 (Option Addr))) => (Exists (fun (sc150 : (Nat →
 Nat)) => (Exists (fun (bp151 : Nat) => (Exists (fun (br152 : Nat) => (Exists (fun (bo153 : Nat) => (Exists (fun (Aq154 : (Option Addr)) => (Exists (fun (Hq155 : (Option Addr)) => (Exists (fun (Dq156 : Nat) => (Exists (fun (Ee157 : Nat) => (([(Value.agg (List.toArray [(Value.slice O ((x).1).1 C), (Value.slice A (x).2 D), (Value.slice H (x).4 E)])), (Value.pointer (Option.some (Addr.mk b0 0 (none : Option (Nat))))), (Value.pointer (Option.some (Addr.mk b1 0 (none : Option (Nat))))), (Value.pointer (Option.some (Addr.mk b137 0 (none : Option (Nat))))), (Value.tuple (List.toArray [])), (Value.tuple (List.toArray [])), (Value.slice (Option.some (Addr.mk b2 0 (none : Option (Nat)))) 0 0), (Value.pointer (Option.some (Addr.mk b0 1 (none : Option (Nat))))), (Value.slice A (x).2 D), (Value.slice ao4 (x).2 cap5), (Value.slice (Option.some (Addr.mk b138 0 (none : Option (Nat)))) 0 0), (Value.pointer (Option.some (Addr.mk b0 2 (none : Option (Nat))))), (Value.slice H (x).4 E), (Value.slice ao140 (x).4 cap141), (Value.agg (List.toArray [(Value.slice (none : Option (Addr)) 0 0), (Value.slice ao4 (x).2 cap5), (Value.slice ao140 (x).4 cap141)])), (Value.pointer (Option.some (Addr.mk b0 0 (none : Option (Nat))))), (Value.slice O ((x).1).1 C), (Value.int IntKind.i64 ((((x).1).1 : Nat) : Int)), (Value.int IntKind.i64 (0 : Int)), (Value.tuple (List.toArray [])), (Value.tuple (List.toArray [])), (Value.tuple (List.toArray [])), (Value.tuple (List.toArray [])), (Value.tuple (List.toArray [])), (Value.tuple (List.toArray [])), (Value.tuple (List.toArray [])), (Value.tuple (List.toArray [])), (Value.tuple (List.toArray [])), (Value.tuple (List.toArray [])), (Value.tuple (List.toArray [])), (Value.tuple (List.toArray []))] = [(Value.agg (List.toArray [(Value.slice O ((x).1).1 C), (Value.slice A (x).2 D), (Value.slice H (x).4 E)])), (Value.pointer (Option.some (Addr.mk bp151 0 (none : Option (Nat))))), (Value.pointer (Option.some (Addr.mk br152 0 (none : Option (Nat))))), (Value.pointer (Option.some (Addr.mk bo153 0 (none : Option (Nat))))), (Value.tuple (List.toArray [])), (Value.tuple (List.toArray [])), (Value.slice (Option.some (Addr.mk b2 0 (none : Option (Nat)))) 0 0), (Value.pointer (Option.some (Addr.mk b0 1 (none : Option (Nat))))), (Value.slice A (x).2 D), (Value.slice ao4 (x).2 cap5), (Value.slice (Option.some (Addr.mk b138 0 (none : Option (Nat)))) 0 0), (Value.pointer (Option.some (Addr.mk b0 2 (none : Option (Nat))))), (Value.slice H (x).4 E), (Value.slice ao140 (x).4 cap141), (Value.agg (List.toArray [(Value.slice (none : Option (Addr)) 0 0), (Value.slice ao4 (x).2 cap5), (Value.slice ao140 (x).4 cap141)])), (Value.pointer (Option.some (Addr.mk b0 0 (none : Option (Nat))))), (Value.slice O143 ((x142).1).1 C146), (Value.int IntKind.i64 ((((x142).1).1 : Nat) : Int)), (Value.int IntKind.i64 (0 : Int)), (Value.tuple (List.toArray [])), (Value.tuple (List.toArray [])), (Value.tuple (List.toArray [])), (Value.tuple (List.toArray [])), (Value.tuple (List.toArray [])), (Value.tuple (List.toArray [])), (Value.tuple (List.toArray [])), (Value.tuple (List.toArray [])), (Value.tuple (List.toArray [])), (Value.tuple (List.toArray [])), (Value.tuple (List.toArray [])), (Value.tuple (List.toArray []))] ∧
 ((SelS [(Ch.row (Row.mk Bool.false O 0 2 ((x).1).1 0 [(fun (i158 : Nat) => (SC.sl 3 (so i158) (((x).1).2 i158) (sc i158))), (fun (i159 : Nat) => (SC.bool (((x).1).4 i159)))])), (Ch.row (Row.mk Bool.false A 0 1 (x).2 0 [(fun (i160 : Nat) => (SC.int ((x).3 i160)))])), (Ch.row (Row.mk Bool.false H 0 1 (x).4 0 [(fun (i161 : Nat) => (SC.int ((x).5 i161)))])), (Ch.obj Bool.false (symRows Bool.false 0 (x).1 so (fun (x162 : Nat) => 0))), (Ch.cells b0 33 [(SC.sl 0 O ((x).1).1 C), (SC.sl 1 A (x).2 D), (SC.sl 2 H (x).4 E)]), (Ch.cells b1 33 [SC.nil, SC.nil, SC.nil]), Ch.dead, (Ch.row (Row.mk Bool.true ao4 3 1 (x).2 cap5 [(fun (i163 : Nat) => (SC.int ((x).3 i163)))])), (Ch.cells b137 33 [SC.nil, (SC.sl 7 ao4 (x).2 cap5), (SC.sl 10 ao140 (x).4 cap141)]), Ch.dead, (Ch.row (Row.mk Bool.true ao140 3 1 (x).4 cap141 [(fun (i164 : Nat) => (SC.int ((x).5 i164)))]))] [0, 1, 2, 3, 4, 5, 8, 1000000, 7, 10, 1000003] [(Ch.row (Row.mk Bool.false O143 0 2 ((x142).1).1 0 [(fun (i165 : Nat) => (SC.sl 3 (so149 i165) (((x142).1).2 i165) (sc150 i165))), (fun (i166 : Nat) => (SC.bool (((x142).1).4 i166)))])), (Ch.row (Row.mk Bool.false A144 0 1 (x142).2 0 [(fun (i167 : Nat) => (SC.int ((x142).3 i167)))])), (Ch.row (Row.mk Bool.false H145 0 1 (x142).4 0 [(fun (i168 : Nat) => (SC.int ((x142).5 i168)))])), (Ch.obj Bool.false (symRows Bool.false 0 (x142).1 so149 (fun (x169 : Nat) => 0))), (Ch.cells bp151 33 [(SC.sl 0 O143 ((x142).1).1 C146), (SC.sl 1 A144 (x142).2 D147), (SC.sl 2 H145 (x142).4 E148)]), (Ch.cells br152 33 [SC.nil, SC.nil, SC.nil]), (Ch.cells bo153 33 [(SC.sl 7 (none : Option (Addr)) 0 0), (SC.sl 8 Aq154 (x142).2 Dq156), (SC.sl 9 Hq155 (x142).4 Ee157)]), (Ch.row (Row.mk Bool.true (none : Option (Addr)) 52 2 0 0 [(fun (i170 : Nat) => (SC.sl 10 (none : Option (Addr)) (((x142).1).2 i170) 0)), (fun (i171 : Nat) => (SC.bool (((x142).1).4 i171)))])), (Ch.row (Row.mk Bool.true Aq154 3 1 (x142).2 Dq156 [(fun (i172 : Nat) => (SC.int ((x142).3 i172)))])), (Ch.row (Row.mk Bool.true Hq155 3 1 (x142).4 Ee157 [(fun (i173 : Nat) => (SC.int ((x142).5 i173)))])), (Ch.obj Bool.true (symRows Bool.true 3 (CD.mk 0 ((x142).1).2 ((x142).1).3 ((x142).1).4) (fun (x174 : Nat) => (none : Option (Addr))) (fun (x175 : Nat) => 0)))]) ∧
 (capA x142))) ∧
 (∀ g176 : (Nat →
 Value),
 (∀ kx177 : Int,
 (∀ Oq178 : (Option Addr),
 (∀ Cq179 : Nat,
 (∀ soq180 : (Nat →
 (Option Addr)),
 (∀ scq181 : (Nat →
 Nat),
 (bo153 = bo153 ∧
 (br152 = br152 ∧
 (br152 = br152 ∧
 (Exists (fun (Oq182 : (Option Addr)) => (Exists (fun (Aq183 : (Option Addr)) => (Exists (fun (Hq184 : (Option Addr)) => (Exists (fun (Cq185 : Nat) => (Exists (fun (Dq186 : Nat) => (Exists (fun (Ee187 : Nat) => (Exists (fun (soq188 : (Nat →
 (Option Addr))) => (Exists (fun (scq189 : (Nat →
 Nat)) => ((Value.agg (List.toArray [(Value.slice Oq178 ((x142).1).1 Cq179), (Value.slice Aq154 (x142).2 Dq156), (Value.slice Hq155 (x142).4 Ee157)])) = (Value.agg (List.toArray [(Value.slice Oq182 ((x).1).1 Cq185), (Value.slice Aq183 (x).2 Dq186), (Value.slice Hq184 (x).4 Ee187)])) ∧
 (SelS [(Ch.row (Row.mk Bool.false O143 0 2 ((x142).1).1 0 [(fun (i190 : Nat) => (SC.sl 3 (so149 i190) (((x142).1).2 i190) (sc150 i190))), (fun (i191 : Nat) => (SC.bool (((x142).1).4 i191)))])), (Ch.row (Row.mk Bool.false A144 0 1 (x142).2 0 [(fun (i192 : Nat) => (SC.int ((x142).3 i192)))])), (Ch.row (Row.mk Bool.false H145 0 1 (x142).4 0 [(fun (i193 : Nat) => (SC.int ((x142).5 i193)))])), (Ch.obj Bool.false (symRows Bool.false 0 (x142).1 so149 (fun (x194 : Nat) => 0))), (Ch.cells bp151 33 [(SC.sl 0 O143 ((x142).1).1 C146), (SC.sl 1 A144 (x142).2 D147), (SC.sl 2 H145 (x142).4 E148)]), (Ch.cells br152 33 [(SC.sl 7 Oq178 ((x142).1).1 Cq179), (SC.sl 8 Aq154 (x142).2 Dq156), (SC.sl 9 Hq155 (x142).4 Ee157)]), (Ch.cells bo153 33 [(SC.sl 7 Oq178 ((x142).1).1 Cq179), (SC.sl 8 Aq154 (x142).2 Dq156), (SC.sl 9 Hq155 (x142).4 Ee157)]), (Ch.row (Row.mk Bool.true Oq178 52 2 ((x142).1).1 Cq179 [(fun (i195 : Nat) => (SC.sl 10 (soq180 i195) (((x142).1).2 i195) (scq181 i195))), (fun (i196 : Nat) => (SC.bool (((x142).1).4 i196)))])), (Ch.row (Row.mk Bool.true Aq154 3 1 (x142).2 Dq156 [(fun (i197 : Nat) => (SC.int ((x142).3 i197)))])), (Ch.row (Row.mk Bool.true Hq155 3 1 (x142).4 Ee157 [(fun (i198 : Nat) => (SC.int ((x142).5 i198)))])), (Ch.obj Bool.true (symRows Bool.true 3 (CD.mk ((x142).1).1 ((x142).1).2 ((x142).1).3 ((x142).1).4) soq180 scq181))] [7, 8, 9, 10] [(Ch.row (Row.mk Bool.true Oq182 52 2 ((x).1).1 Cq185 [(fun (i199 : Nat) => (SC.sl 3 (soq188 i199) (((x).1).2 i199) (scq189 i199))), (fun (i200 : Nat) => (SC.bool (((x).1).4 i200)))])), (Ch.row (Row.mk Bool.true Aq183 3 1 (x).2 Dq186 [(fun (i201 : Nat) => (SC.int ((x).3 i201)))])), (Ch.row (Row.mk Bool.true Hq184 3 1 (x).4 Ee187 [(fun (i202 : Nat) => (SC.int ((x).5 i202)))])), (Ch.obj Bool.true (symRows Bool.true 3 (x).1 soq188 scq189))])))))))))))))))))))))))))))))))))))))))))))))))))))))))))))))))))))))))))))) ∧
 ((∀ b203 : Nat,
 (True ∧
 (((b2 = b2 ∧
 ((A = A ∧
 (x).2 = (x).2) ∧
 ((∀ i204 : Nat,
 Bool.true = Bool.true) ∧
 (apC 0 (x).2 8)))) ∧
 (∀ ao205 : (Option Addr),
 (∀ cap206 : Nat,
 (True ∧
 (((b203 = b203 ∧
 ((H = H ∧
 (x).4 = (x).4) ∧
 ((∀ i207 : Nat,
 Bool.true = Bool.true) ∧
 (apC 0 (x).4 8)))) ∧
 (∀ ao208 : (Option Addr),
 (∀ cap209 : Nat,
 (True ∧
 (∀ b210 : Nat,
 (True ∧
 (b210 = b210 ∧
 (True ∧
 (b0 = b0 ∧
 (Exists (fun (x211 : AD) => (Exists (fun (O212 : (Option Addr)) => (Exists (fun (A213 : (Option Addr)) => (Exists (fun (H214 : (Option Addr)) => (Exists (fun (C215 : Nat) => (Exists (fun (D216 : Nat) => (Exists (fun (E217 : Nat) => (Exists (fun (so218 : (Nat →
 (Option Addr))) => (Exists (fun (sc219 : (Nat →
 Nat)) => (Exists (fun (bp220 : Nat) => (Exists (fun (br221 : Nat) => (Exists (fun (bo222 : Nat) => (Exists (fun (Aq223 : (Option Addr)) => (Exists (fun (Hq224 : (Option Addr)) => (Exists (fun (Dq225 : Nat) => (Exists (fun (Ee226 : Nat) => (([(Value.agg (List.toArray [(Value.slice O ((x).1).1 C), (Value.slice A (x).2 D), (Value.slice H (x).4 E)])), (Value.pointer (Option.some (Addr.mk b0 0 (none : Option (Nat))))), (Value.pointer (Option.some (Addr.mk b1 0 (none : Option (Nat))))), (Value.pointer (Option.some (Addr.mk b210 0 (none : Option (Nat))))), (Value.tuple (List.toArray [])), (Value.tuple (List.toArray [])), (Value.slice (Option.some (Addr.mk b2 0 (none : Option (Nat)))) 0 0), (Value.pointer (Option.some (Addr.mk b0 1 (none : Option (Nat))))), (Value.slice A (x).2 D), (Value.slice ao205 (x).2 cap206), (Value.slice (Option.some (Addr.mk b203 0 (none : Option (Nat)))) 0 0), (Value.pointer (Option.some (Addr.mk b0 2 (none : Option (Nat))))), (Value.slice H (x).4 E), (Value.slice ao208 (x).4 cap209), (Value.agg (List.toArray [(Value.slice (none : Option (Addr)) 0 0), (Value.slice ao205 (x).2 cap206), (Value.slice ao208 (x).4 cap209)])), (Value.pointer (Option.some (Addr.mk b0 0 (none : Option (Nat))))), (Value.slice O ((x).1).1 C), (Value.int IntKind.i64 ((((x).1).1 : Nat) : Int)), (Value.int IntKind.i64 (0 : Int)), (Value.tuple (List.toArray [])), (Value.tuple (List.toArray [])), (Value.tuple (List.toArray [])), (Value.tuple (List.toArray [])), (Value.tuple (List.toArray [])), (Value.tuple (List.toArray [])), (Value.tuple (List.toArray [])), (Value.tuple (List.toArray [])), (Value.tuple (List.toArray [])), (Value.tuple (List.toArray [])), (Value.tuple (List.toArray [])), (Value.tuple (List.toArray []))] = [(Value.agg (List.toArray [(Value.slice O ((x).1).1 C), (Value.slice A (x).2 D), (Value.slice H (x).4 E)])), (Value.pointer (Option.some (Addr.mk bp220 0 (none : Option (Nat))))), (Value.pointer (Option.some (Addr.mk br221 0 (none : Option (Nat))))), (Value.pointer (Option.some (Addr.mk bo222 0 (none : Option (Nat))))), (Value.tuple (List.toArray [])), (Value.tuple (List.toArray [])), (Value.slice (Option.some (Addr.mk b2 0 (none : Option (Nat)))) 0 0), (Value.pointer (Option.some (Addr.mk b0 1 (none : Option (Nat))))), (Value.slice A (x).2 D), (Value.slice ao205 (x).2 cap206), (Value.slice (Option.some (Addr.mk b203 0 (none : Option (Nat)))) 0 0), (Value.pointer (Option.some (Addr.mk b0 2 (none : Option (Nat))))), (Value.slice H (x).4 E), (Value.slice ao208 (x).4 cap209), (Value.agg (List.toArray [(Value.slice (none : Option (Addr)) 0 0), (Value.slice ao205 (x).2 cap206), (Value.slice ao208 (x).4 cap209)])), (Value.pointer (Option.some (Addr.mk b0 0 (none : Option (Nat))))), (Value.slice O212 ((x211).1).1 C215), (Value.int IntKind.i64 ((((x211).1).1 : Nat) : Int)), (Value.int IntKind.i64 (0 : Int)), (Value.tuple (List.toArray [])), (Value.tuple (List.toArray [])), (Value.tuple (List.toArray [])), (Value.tuple (List.toArray [])), (Value.tuple (List.toArray [])), (Value.tuple (List.toArray [])), (Value.tuple (List.toArray [])), (Value.tuple (List.toArray [])), (Value.tuple (List.toArray [])), (Value.tuple (List.toArray [])), (Value.tuple (List.toArray [])), (Value.tuple (List.toArray []))] ∧
 ((SelS [(Ch.row (Row.mk Bool.false O 0 2 ((x).1).1 0 [(fun (i227 : Nat) => (SC.sl 3 (so i227) (((x).1).2 i227) (sc i227))), (fun (i228 : Nat) => (SC.bool (((x).1).4 i228)))])), (Ch.row (Row.mk Bool.false A 0 1 (x).2 0 [(fun (i229 : Nat) => (SC.int ((x).3 i229)))])), (Ch.row (Row.mk Bool.false H 0 1 (x).4 0 [(fun (i230 : Nat) => (SC.int ((x).5 i230)))])), (Ch.obj Bool.false (symRows Bool.false 0 (x).1 so (fun (x231 : Nat) => 0))), (Ch.cells b0 33 [(SC.sl 0 O ((x).1).1 C), (SC.sl 1 A (x).2 D), (SC.sl 2 H (x).4 E)]), (Ch.cells b1 33 [SC.nil, SC.nil, SC.nil]), Ch.dead, Ch.dead, (Ch.row (Row.mk Bool.true ao205 3 1 (x).2 cap206 [(fun (i232 : Nat) => (SC.int ((x).3 i232)))])), (Ch.row (Row.mk Bool.true ao208 3 1 (x).4 cap209 [(fun (i233 : Nat) => (SC.int ((x).5 i233)))])), (Ch.cells b210 33 [SC.nil, (SC.sl 8 ao205 (x).2 cap206), (SC.sl 9 ao208 (x).4 cap209)])] [0, 1, 2, 3, 4, 5, 10, 1000000, 8, 9, 1000003] [(Ch.row (Row.mk Bool.false O212 0 2 ((x211).1).1 0 [(fun (i234 : Nat) => (SC.sl 3 (so218 i234) (((x211).1).2 i234) (sc219 i234))), (fun (i235 : Nat) => (SC.bool (((x211).1).4 i235)))])), (Ch.row (Row.mk Bool.false A213 0 1 (x211).2 0 [(fun (i236 : Nat) => (SC.int ((x211).3 i236)))])), (Ch.row (Row.mk Bool.false H214 0 1 (x211).4 0 [(fun (i237 : Nat) => (SC.int ((x211).5 i237)))])), (Ch.obj Bool.false (symRows Bool.false 0 (x211).1 so218 (fun (x238 : Nat) => 0))), (Ch.cells bp220 33 [(SC.sl 0 O212 ((x211).1).1 C215), (SC.sl 1 A213 (x211).2 D216), (SC.sl 2 H214 (x211).4 E217)]), (Ch.cells br221 33 [SC.nil, SC.nil, SC.nil]), (Ch.cells bo222 33 [(SC.sl 7 (none : Option (Addr)) 0 0), (SC.sl 8 Aq223 (x211).2 Dq225), (SC.sl 9 Hq224 (x211).4 Ee226)]), (Ch.row (Row.mk Bool.true (none : Option (Addr)) 52 2 0 0 [(fun (i239 : Nat) => (SC.sl 10 (none : Option (Addr)) (((x211).1).2 i239) 0)), (fun (i240 : Nat) => (SC.bool (((x211).1).4 i240)))])), (Ch.row (Row.mk Bool.true Aq223 3 1 (x211).2 Dq225 [(fun (i241 : Nat) => (SC.int ((x211).3 i241)))])), (Ch.row (Row.mk Bool.true Hq224 3 1 (x211).4 Ee226 [(fun (i242 : Nat) => (SC.int ((x211).5 i242)))])), (Ch.obj Bool.true (symRows Bool.true 3 (CD.mk 0 ((x211).1).2 ((x211).1).3 ((x211).1).4) (fun (x243 : Nat) => (none : Option (Addr))) (fun (x244 : Nat) => 0)))]) ∧
 (capA x211))) ∧
 (∀ g245 : (Nat →
 Value),
 (∀ kx246 : Int,
 (∀ Oq247 : (Option Addr),
 (∀ Cq248 : Nat,
 (∀ soq249 : (Nat →
 (Option Addr)),
 (∀ scq250 : (Nat →
 Nat),
 (bo222 = bo222 ∧
 (br221 = br221 ∧
 (br221 = br221 ∧
 (Exists (fun (Oq251 : (Option Addr)) => (Exists (fun (Aq252 : (Option Addr)) => (Exists (fun (Hq253 : (Option Addr)) => (Exists (fun (Cq254 : Nat) => (Exists (fun (Dq255 : Nat) => (Exists (fun (Ee256 : Nat) => (Exists (fun (soq257 : (Nat →
 (Option Addr))) => (Exists (fun (scq258 : (Nat →
 Nat)) => ((Value.agg (List.toArray [(Value.slice Oq247 ((x211).1).1 Cq248), (Value.slice Aq223 (x211).2 Dq225), (Value.slice Hq224 (x211).4 Ee226)])) = (Value.agg (List.toArray [(Value.slice Oq251 ((x).1).1 Cq254), (Value.slice Aq252 (x).2 Dq255), (Value.slice Hq253 (x).4 Ee256)])) ∧
 (SelS [(Ch.row (Row.mk Bool.false O212 0 2 ((x211).1).1 0 [(fun (i259 : Nat) => (SC.sl 3 (so218 i259) (((x211).1).2 i259) (sc219 i259))), (fun (i260 : Nat) => (SC.bool (((x211).1).4 i260)))])), (Ch.row (Row.mk Bool.false A213 0 1 (x211).2 0 [(fun (i261 : Nat) => (SC.int ((x211).3 i261)))])), (Ch.row (Row.mk Bool.false H214 0 1 (x211).4 0 [(fun (i262 : Nat) => (SC.int ((x211).5 i262)))])), (Ch.obj Bool.false (symRows Bool.false 0 (x211).1 so218 (fun (x263 : Nat) => 0))), (Ch.cells bp220 33 [(SC.sl 0 O212 ((x211).1).1 C215), (SC.sl 1 A213 (x211).2 D216), (SC.sl 2 H214 (x211).4 E217)]), (Ch.cells br221 33 [(SC.sl 7 Oq247 ((x211).1).1 Cq248), (SC.sl 8 Aq223 (x211).2 Dq225), (SC.sl 9 Hq224 (x211).4 Ee226)]), (Ch.cells bo222 33 [(SC.sl 7 Oq247 ((x211).1).1 Cq248), (SC.sl 8 Aq223 (x211).2 Dq225), (SC.sl 9 Hq224 (x211).4 Ee226)]), (Ch.row (Row.mk Bool.true Oq247 52 2 ((x211).1).1 Cq248 [(fun (i264 : Nat) => (SC.sl 10 (soq249 i264) (((x211).1).2 i264) (scq250 i264))), (fun (i265 : Nat) => (SC.bool (((x211).1).4 i265)))])), (Ch.row (Row.mk Bool.true Aq223 3 1 (x211).2 Dq225 [(fun (i266 : Nat) => (SC.int ((x211).3 i266)))])), (Ch.row (Row.mk Bool.true Hq224 3 1 (x211).4 Ee226 [(fun (i267 : Nat) => (SC.int ((x211).5 i267)))])), (Ch.obj Bool.true (symRows Bool.true 3 (CD.mk ((x211).1).1 ((x211).1).2 ((x211).1).3 ((x211).1).4) soq249 scq250))] [7, 8, 9, 10] [(Ch.row (Row.mk Bool.true Oq251 52 2 ((x).1).1 Cq254 [(fun (i268 : Nat) => (SC.sl 3 (soq257 i268) (((x).1).2 i268) (scq258 i268))), (fun (i269 : Nat) => (SC.bool (((x).1).4 i269)))])), (Ch.row (Row.mk Bool.true Aq252 3 1 (x).2 Dq255 [(fun (i270 : Nat) => (SC.int ((x).3 i270)))])), (Ch.row (Row.mk Bool.true Hq253 3 1 (x).4 Ee256 [(fun (i271 : Nat) => (SC.int ((x).5 i271)))])), (Ch.obj Bool.true (symRows Bool.true 3 (x).1 soq257 scq258))]))))))))))))))))))))))))))))))))))))))))))))))))))))))))))))))))))))) ∧
 (∀ b272 : Nat,
 (True ∧
 ((b203 = b203 ∧
 ((H = H ∧
 (x).4 = (x).4) ∧
 ((∀ i273 : Nat,
 Bool.true = Bool.true) ∧
 (apC 0 (x).4 8)))) ∧
 (∀ ao274 : (Option Addr),
 (∀ cap275 : Nat,
 (True ∧
 (b272 = b272 ∧
 (True ∧
 (b0 = b0 ∧
 (Exists (fun (x276 : AD) => (Exists (fun (O277 : (Option Addr)) => (Exists (fun (A278 : (Option Addr)) => (Exists (fun (H279 : (Option Addr)) => (Exists (fun (C280 : Nat) => (Exists (fun (D281 : Nat) => (Exists (fun (E282 : Nat) => (Exists (fun (so283 : (Nat →
 (Option Addr))) => (Exists (fun (sc284 : (Nat →
 Nat)) => (Exists (fun (bp285 : Nat) => (Exists (fun (br286 : Nat) => (Exists (fun (bo287 : Nat) => (Exists (fun (Aq288 : (Option Addr)) => (Exists (fun (Hq289 : (Option Addr)) => (Exists (fun (Dq290 : Nat) => (Exists (fun (Ee291 : Nat) => (([(Value.agg (List.toArray [(Value.slice O ((x).1).1 C), (Value.slice A (x).2 D), (Value.slice H (x).4 E)])), (Value.pointer (Option.some (Addr.mk b0 0 (none : Option (Nat))))), (Value.pointer (Option.some (Addr.mk b1 0 (none : Option (Nat))))), (Value.pointer (Option.some (Addr.mk b272 0 (none : Option (Nat))))), (Value.tuple (List.toArray [])), (Value.tuple (List.toArray [])), (Value.slice (Option.some (Addr.mk b2 0 (none : Option (Nat)))) 0 0), (Value.pointer (Option.some (Addr.mk b0 1 (none : Option (Nat))))), (Value.slice A (x).2 D), (Value.slice ao205 (x).2 cap206), (Value.slice (Option.some (Addr.mk b203 0 (none : Option (Nat)))) 0 0), (Value.pointer (Option.some (Addr.mk b0 2 (none : Option (Nat))))), (Value.slice H (x).4 E), (Value.slice ao274 (x).4 cap275), (Value.agg (List.toArray [(Value.slice (none : Option (Addr)) 0 0), (Value.slice ao205 (x).2 cap206), (Value.slice ao274 (x).4 cap275)])), (Value.pointer (Option.some (Addr.mk b0 0 (none : Option (Nat))))), (Value.slice O ((x).1).1 C), (Value.int IntKind.i64 ((((x).1).1 : Nat) : Int)), (Value.int IntKind.i64 (0 : Int)), (Value.tuple (List.toArray [])), (Value.tuple (List.toArray [])), (Value.tuple (List.toArray [])), (Value.tuple (List.toArray [])), (Value.tuple (List.toArray [])), (Value.tuple (List.toArray [])), (Value.tuple (List.toArray [])), (Value.tuple (List.toArray [])), (Value.tuple (List.toArray [])), (Value.tuple (List.toArray [])), (Value.tuple (List.toArray [])), (Value.tuple (List.toArray []))] = [(Value.agg (List.toArray [(Value.slice O ((x).1).1 C), (Value.slice A (x).2 D), (Value.slice H (x).4 E)])), (Value.pointer (Option.some (Addr.mk bp285 0 (none : Option (Nat))))), (Value.pointer (Option.some (Addr.mk br286 0 (none : Option (Nat))))), (Value.pointer (Option.some (Addr.mk bo287 0 (none : Option (Nat))))), (Value.tuple (List.toArray [])), (Value.tuple (List.toArray [])), (Value.slice (Option.some (Addr.mk b2 0 (none : Option (Nat)))) 0 0), (Value.pointer (Option.some (Addr.mk b0 1 (none : Option (Nat))))), (Value.slice A (x).2 D), (Value.slice ao205 (x).2 cap206), (Value.slice (Option.some (Addr.mk b203 0 (none : Option (Nat)))) 0 0), (Value.pointer (Option.some (Addr.mk b0 2 (none : Option (Nat))))), (Value.slice H (x).4 E), (Value.slice ao274 (x).4 cap275), (Value.agg (List.toArray [(Value.slice (none : Option (Addr)) 0 0), (Value.slice ao205 (x).2 cap206), (Value.slice ao274 (x).4 cap275)])), (Value.pointer (Option.some (Addr.mk b0 0 (none : Option (Nat))))), (Value.slice O277 ((x276).1).1 C280), (Value.int IntKind.i64 ((((x276).1).1 : Nat) : Int)), (Value.int IntKind.i64 (0 : Int)), (Value.tuple (List.toArray [])), (Value.tuple (List.toArray [])), (Value.tuple (List.toArray [])), (Value.tuple (List.toArray [])), (Value.tuple (List.toArray [])), (Value.tuple (List.toArray [])), (Value.tuple (List.toArray [])), (Value.tuple (List.toArray [])), (Value.tuple (List.toArray [])), (Value.tuple (List.toArray [])), (Value.tuple (List.toArray [])), (Value.tuple (List.toArray []))] ∧
 ((SelS [(Ch.row (Row.mk Bool.false O 0 2 ((x).1).1 0 [(fun (i292 : Nat) => (SC.sl 3 (so i292) (((x).1).2 i292) (sc i292))), (fun (i293 : Nat) => (SC.bool (((x).1).4 i293)))])), (Ch.row (Row.mk Bool.false A 0 1 (x).2 0 [(fun (i294 : Nat) => (SC.int ((x).3 i294)))])), (Ch.row (Row.mk Bool.false H 0 1 (x).4 0 [(fun (i295 : Nat) => (SC.int ((x).5 i295)))])), (Ch.obj Bool.false (symRows Bool.false 0 (x).1 so (fun (x296 : Nat) => 0))), (Ch.cells b0 33 [(SC.sl 0 O ((x).1).1 C), (SC.sl 1 A (x).2 D), (SC.sl 2 H (x).4 E)]), (Ch.cells b1 33 [SC.nil, SC.nil, SC.nil]), Ch.dead, Ch.dead, (Ch.row (Row.mk Bool.true ao205 3 1 (x).2 cap206 [(fun (i297 : Nat) => (SC.int ((x).3 i297)))])), (Ch.cells b272 33 [SC.nil, (SC.sl 8 ao205 (x).2 cap206), (SC.sl 10 ao274 (x).4 cap275)]), (Ch.row (Row.mk Bool.true ao274 3 1 (x).4 cap275 [(fun (i298 : Nat) => (SC.int ((x).5 i298)))]))] [0, 1, 2, 3, 4, 5, 9, 1000000, 8, 10, 1000003] [(Ch.row (Row.mk Bool.false O277 0 2 ((x276).1).1 0 [(fun (i299 : Nat) => (SC.sl 3 (so283 i299) (((x276).1).2 i299) (sc284 i299))), (fun (i300 : Nat) => (SC.bool (((x276).1).4 i300)))])), (Ch.row (Row.mk Bool.false A278 0 1 (x276).2 0 [(fun (i301 : Nat) => (SC.int ((x276).3 i301)))])), (Ch.row (Row.mk Bool.false H279 0 1 (x276).4 0 [(fun (i302 : Nat) => (SC.int ((x276).5 i302)))])), (Ch.obj Bool.false (symRows Bool.false 0 (x276).1 so283 (fun (x303 : Nat) => 0))), (Ch.cells bp285 33 [(SC.sl 0 O277 ((x276).1).1 C280), (SC.sl 1 A278 (x276).2 D281), (SC.sl 2 H279 (x276).4 E282)]), (Ch.cells br286 33 [SC.nil, SC.nil, SC.nil]), (Ch.cells bo287 33 [(SC.sl 7 (none : Option (Addr)) 0 0), (SC.sl 8 Aq288 (x276).2 Dq290), (SC.sl 9 Hq289 (x276).4 Ee291)]), (Ch.row (Row.mk Bool.true (none : Option (Addr)) 52 2 0 0 [(fun (i304 : Nat) => (SC.sl 10 (none : Option (Addr)) (((x276).1).2 i304) 0)), (fun (i305 : Nat) => (SC.bool (((x276).1).4 i305)))])), (Ch.row (Row.mk Bool.true Aq288 3 1 (x276).2 Dq290 [(fun (i306 : Nat) => (SC.int ((x276).3 i306)))])), (Ch.row (Row.mk Bool.true Hq289 3 1 (x276).4 Ee291 [(fun (i307 : Nat) => (SC.int ((x276).5 i307)))])), (Ch.obj Bool.true (symRows Bool.true 3 (CD.mk 0 ((x276).1).2 ((x276).1).3 ((x276).1).4) (fun (x308 : Nat) => (none : Option (Addr))) (fun (x309 : Nat) => 0)))]) ∧
 (capA x276))) ∧
 (∀ g310 : (Nat →
 Value),
 (∀ kx311 : Int,
 (∀ Oq312 : (Option Addr),
 (∀ Cq313 : Nat,
 (∀ soq314 : (Nat →
 (Option Addr)),
 (∀ scq315 : (Nat →
 Nat),
 (bo287 = bo287 ∧
 (br286 = br286 ∧
 (br286 = br286 ∧
 (Exists (fun (Oq316 : (Option Addr)) => (Exists (fun (Aq317 : (Option Addr)) => (Exists (fun (Hq318 : (Option Addr)) => (Exists (fun (Cq319 : Nat) => (Exists (fun (Dq320 : Nat) => (Exists (fun (Ee321 : Nat) => (Exists (fun (soq322 : (Nat →
 (Option Addr))) => (Exists (fun (scq323 : (Nat →
 Nat)) => ((Value.agg (List.toArray [(Value.slice Oq312 ((x276).1).1 Cq313), (Value.slice Aq288 (x276).2 Dq290), (Value.slice Hq289 (x276).4 Ee291)])) = (Value.agg (List.toArray [(Value.slice Oq316 ((x).1).1 Cq319), (Value.slice Aq317 (x).2 Dq320), (Value.slice Hq318 (x).4 Ee321)])) ∧
 (SelS [(Ch.row (Row.mk Bool.false O277 0 2 ((x276).1).1 0 [(fun (i324 : Nat) => (SC.sl 3 (so283 i324) (((x276).1).2 i324) (sc284 i324))), (fun (i325 : Nat) => (SC.bool (((x276).1).4 i325)))])), (Ch.row (Row.mk Bool.false A278 0 1 (x276).2 0 [(fun (i326 : Nat) => (SC.int ((x276).3 i326)))])), (Ch.row (Row.mk Bool.false H279 0 1 (x276).4 0 [(fun (i327 : Nat) => (SC.int ((x276).5 i327)))])), (Ch.obj Bool.false (symRows Bool.false 0 (x276).1 so283 (fun (x328 : Nat) => 0))), (Ch.cells bp285 33 [(SC.sl 0 O277 ((x276).1).1 C280), (SC.sl 1 A278 (x276).2 D281), (SC.sl 2 H279 (x276).4 E282)]), (Ch.cells br286 33 [(SC.sl 7 Oq312 ((x276).1).1 Cq313), (SC.sl 8 Aq288 (x276).2 Dq290), (SC.sl 9 Hq289 (x276).4 Ee291)]), (Ch.cells bo287 33 [(SC.sl 7 Oq312 ((x276).1).1 Cq313), (SC.sl 8 Aq288 (x276).2 Dq290), (SC.sl 9 Hq289 (x276).4 Ee291)]), (Ch.row (Row.mk Bool.true Oq312 52 2 ((x276).1).1 Cq313 [(fun (i329 : Nat) => (SC.sl 10 (soq314 i329) (((x276).1).2 i329) (scq315 i329))), (fun (i330 : Nat) => (SC.bool (((x276).1).4 i330)))])), (Ch.row (Row.mk Bool.true Aq288 3 1 (x276).2 Dq290 [(fun (i331 : Nat) => (SC.int ((x276).3 i331)))])), (Ch.row (Row.mk Bool.true Hq289 3 1 (x276).4 Ee291 [(fun (i332 : Nat) => (SC.int ((x276).5 i332)))])), (Ch.obj Bool.true (symRows Bool.true 3 (CD.mk ((x276).1).1 ((x276).1).2 ((x276).1).3 ((x276).1).4) soq314 scq315))] [7, 8, 9, 10] [(Ch.row (Row.mk Bool.true Oq316 52 2 ((x).1).1 Cq319 [(fun (i333 : Nat) => (SC.sl 3 (soq322 i333) (((x).1).2 i333) (scq323 i333))), (fun (i334 : Nat) => (SC.bool (((x).1).4 i334)))])), (Ch.row (Row.mk Bool.true Aq317 3 1 (x).2 Dq320 [(fun (i335 : Nat) => (SC.int ((x).3 i335)))])), (Ch.row (Row.mk Bool.true Hq318 3 1 (x).4 Ee321 [(fun (i336 : Nat) => (SC.int ((x).5 i336)))])), (Ch.obj Bool.true (symRows Bool.true 3 (x).1 soq322 scq323))])))))))))))))))))))))))))))))))))))))))))))))))))))))))))))))))))))))))))) ∧
 (∀ b337 : Nat,
 (True ∧
 ((b2 = b2 ∧
 ((A = A ∧
 (x).2 = (x).2) ∧
 ((∀ i338 : Nat,
 Bool.true = Bool.true) ∧
 (apC 0 (x).2 8)))) ∧
 (∀ ao339 : (Option Addr),
 (∀ cap340 : Nat,
 (True ∧
 ((b203 = b203 ∧
 ((H = H ∧
 (x).4 = (x).4) ∧
 ((∀ i341 : Nat,
 Bool.true = Bool.true) ∧
 (apC 0 (x).4 8)))) ∧
 (∀ ao342 : (Option Addr),
 (∀ cap343 : Nat,
 (True ∧
 (b337 = b337 ∧
 (True ∧
 (b0 = b0 ∧
 (Exists (fun (x344 : AD) => (Exists (fun (O345 : (Option Addr)) => (Exists (fun (A346 : (Option Addr)) => (Exists (fun (H347 : (Option Addr)) => (Exists (fun (C348 : Nat) => (Exists (fun (D349 : Nat) => (Exists (fun (E350 : Nat) => (Exists (fun (so351 : (Nat →
 (Option Addr))) => (Exists (fun (sc352 : (Nat →
 Nat)) => (Exists (fun (bp353 : Nat) => (Exists (fun (br354 : Nat) => (Exists (fun (bo355 : Nat) => (Exists (fun (Aq356 : (Option Addr)) => (Exists (fun (Hq357 : (Option Addr)) => (Exists (fun (Dq358 : Nat) => (Exists (fun (Ee359 : Nat) => (([(Value.agg (List.toArray [(Value.slice O ((x).1).1 C), (Value.slice A (x).2 D), (Value.slice H (x).4 E)])), (Value.pointer (Option.some (Addr.mk b0 0 (none : Option (Nat))))), (Value.pointer (Option.some (Addr.mk b1 0 (none : Option (Nat))))), (Value.pointer (Option.some (Addr.mk b337 0 (none : Option (Nat))))), (Value.tuple (List.toArray [])), (Value.tuple (List.toArray [])), (Value.slice (Option.some (Addr.mk b2 0 (none : Option (Nat)))) 0 0), (Value.pointer (Option.some (Addr.mk b0 1 (none : Option (Nat))))), (Value.slice A (x).2 D), (Value.slice ao339 (x).2 cap340), (Value.slice (Option.some (Addr.mk b203 0 (none : Option (Nat)))) 0 0), (Value.pointer (Option.some (Addr.mk b0 2 (none : Option (Nat))))), (Value.slice H (x).4 E), (Value.slice ao342 (x).4 cap343), (Value.agg (List.toArray [(Value.slice (none : Option (Addr)) 0 0), (Value.slice ao339 (x).2 cap340), (Value.slice ao342 (x).4 cap343)])), (Value.pointer (Option.some (Addr.mk b0 0 (none : Option (Nat))))), (Value.slice O ((x).1).1 C), (Value.int IntKind.i64 ((((x).1).1 : Nat) : Int)), (Value.int IntKind.i64 (0 : Int)), (Value.tuple (List.toArray [])), (Value.tuple (List.toArray [])), (Value.tuple (List.toArray [])), (Value.tuple (List.toArray [])), (Value.tuple (List.toArray [])), (Value.tuple (List.toArray [])), (Value.tuple (List.toArray [])), (Value.tuple (List.toArray [])), (Value.tuple (List.toArray [])), (Value.tuple (List.toArray [])), (Value.tuple (List.toArray [])), (Value.tuple (List.toArray []))] = [(Value.agg (List.toArray [(Value.slice O ((x).1).1 C), (Value.slice A (x).2 D), (Value.slice H (x).4 E)])), (Value.pointer (Option.some (Addr.mk bp353 0 (none : Option (Nat))))), (Value.pointer (Option.some (Addr.mk br354 0 (none : Option (Nat))))), (Value.pointer (Option.some (Addr.mk bo355 0 (none : Option (Nat))))), (Value.tuple (List.toArray [])), (Value.tuple (List.toArray [])), (Value.slice (Option.some (Addr.mk b2 0 (none : Option (Nat)))) 0 0), (Value.pointer (Option.some (Addr.mk b0 1 (none : Option (Nat))))), (Value.slice A (x).2 D), (Value.slice ao339 (x).2 cap340), (Value.slice (Option.some (Addr.mk b203 0 (none : Option (Nat)))) 0 0), (Value.pointer (Option.some (Addr.mk b0 2 (none : Option (Nat))))), (Value.slice H (x).4 E), (Value.slice ao342 (x).4 cap343), (Value.agg (List.toArray [(Value.slice (none : Option (Addr)) 0 0), (Value.slice ao339 (x).2 cap340), (Value.slice ao342 (x).4 cap343)])), (Value.pointer (Option.some (Addr.mk b0 0 (none : Option (Nat))))), (Value.slice O345 ((x344).1).1 C348), (Value.int IntKind.i64 ((((x344).1).1 : Nat) : Int)), (Value.int IntKind.i64 (0 : Int)), (Value.tuple (List.toArray [])), (Value.tuple (List.toArray [])), (Value.tuple (List.toArray [])), (Value.tuple (List.toArray [])), (Value.tuple (List.toArray [])), (Value.tuple (List.toArray [])), (Value.tuple (List.toArray [])), (Value.tuple (List.toArray [])), (Value.tuple (List.toArray [])), (Value.tuple (List.toArray [])), (Value.tuple (List.toArray [])), (Value.tuple (List.toArray []))] ∧
 ((SelS [(Ch.row (Row.mk Bool.false O 0 2 ((x).1).1 0 [(fun (i360 : Nat) => (SC.sl 3 (so i360) (((x).1).2 i360) (sc i360))), (fun (i361 : Nat) => (SC.bool (((x).1).4 i361)))])), (Ch.row (Row.mk Bool.false A 0 1 (x).2 0 [(fun (i362 : Nat) => (SC.int ((x).3 i362)))])), (Ch.row (Row.mk Bool.false H 0 1 (x).4 0 [(fun (i363 : Nat) => (SC.int ((x).5 i363)))])), (Ch.obj Bool.false (symRows Bool.false 0 (x).1 so (fun (x364 : Nat) => 0))), (Ch.cells b0 33 [(SC.sl 0 O ((x).1).1 C), (SC.sl 1 A (x).2 D), (SC.sl 2 H (x).4 E)]), (Ch.cells b1 33 [SC.nil, SC.nil, SC.nil]), Ch.dead, Ch.dead, (Ch.cells b337 33 [SC.nil, (SC.sl 9 ao339 (x).2 cap340), (SC.sl 10 ao342 (x).4 cap343)]), (Ch.row (Row.mk Bool.true ao339 3 1 (x).2 cap340 [(fun (i365 : Nat) => (SC.int ((x).3 i365)))])), (Ch.row (Row.mk Bool.true ao342 3 1 (x).4 cap343 [(fun (i366 : Nat) => (SC.int ((x).5 i366)))]))] [0, 1, 2, 3, 4, 5, 8, 1000000, 9, 10, 1000003] [(Ch.row (Row.mk Bool.false O345 0 2 ((x344).1).1 0 [(fun (i367 : Nat) => (SC.sl 3 (so351 i367) (((x344).1).2 i367) (sc352 i367))), (fun (i368 : Nat) => (SC.bool (((x344).1).4 i368)))])), (Ch.row (Row.mk Bool.false A346 0 1 (x344).2 0 [(fun (i369 : Nat) => (SC.int ((x344).3 i369)))])), (Ch.row (Row.mk Bool.false H347 0 1 (x344).4 0 [(fun (i370 : Nat) => (SC.int ((x344).5 i370)))])), (Ch.obj Bool.false (symRows Bool.false 0 (x344).1 so351 (fun (x371 : Nat) => 0))), (Ch.cells bp353 33 [(SC.sl 0 O345 ((x344).1).1 C348), (SC.sl 1 A346 (x344).2 D349), (SC.sl 2 H347 (x344).4 E350)]), (Ch.cells br354 33 [SC.nil, SC.nil, SC.nil]), (Ch.cells bo355 33 [(SC.sl 7 (none : Option (Addr)) 0 0), (SC.sl 8 Aq356 (x344).2 Dq358), (SC.sl 9 Hq357 (x344).4 Ee359)]), (Ch.row (Row.mk Bool.true (none : Option (Addr)) 52 2 0 0 [(fun (i372 : Nat) => (SC.sl 10 (none : Option (Addr)) (((x344).1).2 i372) 0)), (fun (i373 : Nat) => (SC.bool (((x344).1).4 i373)))])), (Ch.row (Row.mk Bool.true Aq356 3 1 (x344).2 Dq358 [(fun (i374 : Nat) => (SC.int ((x344).3 i374)))])), (Ch.row (Row.mk Bool.true Hq357 3 1 (x344).4 Ee359 [(fun (i375 : Nat) => (SC.int ((x344).5 i375)))])), (Ch.obj Bool.true (symRows Bool.true 3 (CD.mk 0 ((x344).1).2 ((x344).1).3 ((x344).1).4) (fun (x376 : Nat) => (none : Option (Addr))) (fun (x377 : Nat) => 0)))]) ∧
 (capA x344))) ∧
 (∀ g378 : (Nat →
 Value),
 (∀ kx379 : Int,
 (∀ Oq380 : (Option Addr),
 (∀ Cq381 : Nat,
 (∀ soq382 : (Nat →
 (Option Addr)),
 (∀ scq383 : (Nat →
 Nat),
 (bo355 = bo355 ∧
 (br354 = br354 ∧
 (br354 = br354 ∧
 (Exists (fun (Oq384 : (Option Addr)) => (Exists (fun (Aq385 : (Option Addr)) => (Exists (fun (Hq386 : (Option Addr)) => (Exists (fun (Cq387 : Nat) => (Exists (fun (Dq388 : Nat) => (Exists (fun (Ee389 : Nat) => (Exists (fun (soq390 : (Nat →
 (Option Addr))) => (Exists (fun (scq391 : (Nat →
 Nat)) => ((Value.agg (List.toArray [(Value.slice Oq380 ((x344).1).1 Cq381), (Value.slice Aq356 (x344).2 Dq358), (Value.slice Hq357 (x344).4 Ee359)])) = (Value.agg (List.toArray [(Value.slice Oq384 ((x).1).1 Cq387), (Value.slice Aq385 (x).2 Dq388), (Value.slice Hq386 (x).4 Ee389)])) ∧
 (SelS [(Ch.row (Row.mk Bool.false O345 0 2 ((x344).1).1 0 [(fun (i392 : Nat) => (SC.sl 3 (so351 i392) (((x344).1).2 i392) (sc352 i392))), (fun (i393 : Nat) => (SC.bool (((x344).1).4 i393)))])), (Ch.row (Row.mk Bool.false A346 0 1 (x344).2 0 [(fun (i394 : Nat) => (SC.int ((x344).3 i394)))])), (Ch.row (Row.mk Bool.false H347 0 1 (x344).4 0 [(fun (i395 : Nat) => (SC.int ((x344).5 i395)))])), (Ch.obj Bool.false (symRows Bool.false 0 (x344).1 so351 (fun (x396 : Nat) => 0))), (Ch.cells bp353 33 [(SC.sl 0 O345 ((x344).1).1 C348), (SC.sl 1 A346 (x344).2 D349), (SC.sl 2 H347 (x344).4 E350)]), (Ch.cells br354 33 [(SC.sl 7 Oq380 ((x344).1).1 Cq381), (SC.sl 8 Aq356 (x344).2 Dq358), (SC.sl 9 Hq357 (x344).4 Ee359)]), (Ch.cells bo355 33 [(SC.sl 7 Oq380 ((x344).1).1 Cq381), (SC.sl 8 Aq356 (x344).2 Dq358), (SC.sl 9 Hq357 (x344).4 Ee359)]), (Ch.row (Row.mk Bool.true Oq380 52 2 ((x344).1).1 Cq381 [(fun (i397 : Nat) => (SC.sl 10 (soq382 i397) (((x344).1).2 i397) (scq383 i397))), (fun (i398 : Nat) => (SC.bool (((x344).1).4 i398)))])), (Ch.row (Row.mk Bool.true Aq356 3 1 (x344).2 Dq358 [(fun (i399 : Nat) => (SC.int ((x344).3 i399)))])), (Ch.row (Row.mk Bool.true Hq357 3 1 (x344).4 Ee359 [(fun (i400 : Nat) => (SC.int ((x344).5 i400)))])), (Ch.obj Bool.true (symRows Bool.true 3 (CD.mk ((x344).1).1 ((x344).1).2 ((x344).1).3 ((x344).1).4) soq382 scq383))] [7, 8, 9, 10] [(Ch.row (Row.mk Bool.true Oq384 52 2 ((x).1).1 Cq387 [(fun (i401 : Nat) => (SC.sl 3 (soq390 i401) (((x).1).2 i401) (scq391 i401))), (fun (i402 : Nat) => (SC.bool (((x).1).4 i402)))])), (Ch.row (Row.mk Bool.true Aq385 3 1 (x).2 Dq388 [(fun (i403 : Nat) => (SC.int ((x).3 i403)))])), (Ch.row (Row.mk Bool.true Hq386 3 1 (x).4 Ee389 [(fun (i404 : Nat) => (SC.int ((x).5 i404)))])), (Ch.obj Bool.true (symRows Bool.true 3 (x).1 soq390 scq391))])))))))))))))))))))))))))))))))))))))))))))))))))))))))))))))))))))))))))))) ∧
 (∀ b405 : Nat,
 (True ∧
 (((b2 = b2 ∧
 ((A = A ∧
 (x).2 = (x).2) ∧
 ((∀ i406 : Nat,
 Bool.true = Bool.true) ∧
 (apC 0 (x).2 8)))) ∧
 (∀ ao407 : (Option Addr),
 (∀ cap408 : Nat,
 (True ∧
 (∀ b409 : Nat,
 (True ∧
 ((b409 = b409 ∧
 ((H = H ∧
 (x).4 = (x).4) ∧
 ((∀ i410 : Nat,
 Bool.true = Bool.true) ∧
 (apC 0 (x).4 8)))) ∧
 (∀ ao411 : (Option Addr),
 (∀ cap412 : Nat,
 (True ∧
 (b405 = b405 ∧
 (True ∧
 (b0 = b0 ∧
 (Exists (fun (x413 : AD) => (Exists (fun (O414 : (Option Addr)) => (Exists (fun (A415 : (Option Addr)) => (Exists (fun (H416 : (Option Addr)) => (Exists (fun (C417 : Nat) => (Exists (fun (D418 : Nat) => (Exists (fun (E419 : Nat) => (Exists (fun (so420 : (Nat →
 (Option Addr))) => (Exists (fun (sc421 : (Nat →
 Nat)) => (Exists (fun (bp422 : Nat) => (Exists (fun (br423 : Nat) => (Exists (fun (bo424 : Nat) => (Exists (fun (Aq425 : (Option Addr)) => (Exists (fun (Hq426 : (Option Addr)) => (Exists (fun (Dq427 : Nat) => (Exists (fun (Ee428 : Nat) => (([(Value.agg (List.toArray [(Value.slice O ((x).1).1 C), (Value.slice A (x).2 D), (Value.slice H (x).4 E)])), (Value.pointer (Option.some (Addr.mk b0 0 (none : Option (Nat))))), (Value.pointer (Option.some (Addr.mk b1 0 (none : Option (Nat))))), (Value.pointer (Option.some (Addr.mk b405 0 (none : Option (Nat))))), (Value.tuple (List.toArray [])), (Value.tuple (List.toArray [])), (Value.slice (Option.some (Addr.mk b2 0 (none : Option (Nat)))) 0 0), (Value.pointer (Option.some (Addr.mk b0 1 (none : Option (Nat))))), (Value.slice A (x).2 D), (Value.slice ao407 (x).2 cap408), (Value.slice (Option.some (Addr.mk b409 0 (none : Option (Nat)))) 0 0), (Value.pointer (Option.some (Addr.mk b0 2 (none : Option (Nat))))), (Value.slice H (x).4 E), (Value.slice ao411 (x).4 cap412), (Value.agg (List.toArray [(Value.slice (none : Option (Addr)) 0 0), (Value.slice ao407 (x).2 cap408), (Value.slice ao411 (x).4 cap412)])), (Value.pointer (Option.some (Addr.mk b0 0 (none : Option (Nat))))), (Value.slice O ((x).1).1 C), (Value.int IntKind.i64 ((((x).1).1 : Nat) : Int)), (Value.int IntKind.i64 (0 : Int)), (Value.tuple (List.toArray [])), (Value.tuple (List.toArray [])), (Value.tuple (List.toArray [])), (Value.tuple (List.toArray [])), (Value.tuple (List.toArray [])), (Value.tuple (List.toArray [])), (Value.tuple (List.toArray [])), (Value.tuple (List.toArray [])), (Value.tuple (List.toArray [])), (Value.tuple (List.toArray [])), (Value.tuple (List.toArray [])), (Value.tuple (List.toArray []))] = [(Value.agg (List.toArray [(Value.slice O ((x).1).1 C), (Value.slice A (x).2 D), (Value.slice H (x).4 E)])), (Value.pointer (Option.some (Addr.mk bp422 0 (none : Option (Nat))))), (Value.pointer (Option.some (Addr.mk br423 0 (none : Option (Nat))))), (Value.pointer (Option.some (Addr.mk bo424 0 (none : Option (Nat))))), (Value.tuple (List.toArray [])), (Value.tuple (List.toArray [])), (Value.slice (Option.some (Addr.mk b2 0 (none : Option (Nat)))) 0 0), (Value.pointer (Option.some (Addr.mk b0 1 (none : Option (Nat))))), (Value.slice A (x).2 D), (Value.slice ao407 (x).2 cap408), (Value.slice (Option.some (Addr.mk b409 0 (none : Option (Nat)))) 0 0), (Value.pointer (Option.some (Addr.mk b0 2 (none : Option (Nat))))), (Value.slice H (x).4 E), (Value.slice ao411 (x).4 cap412), (Value.agg (List.toArray [(Value.slice (none : Option (Addr)) 0 0), (Value.slice ao407 (x).2 cap408), (Value.slice ao411 (x).4 cap412)])), (Value.pointer (Option.some (Addr.mk b0 0 (none : Option (Nat))))), (Value.slice O414 ((x413).1).1 C417), (Value.int IntKind.i64 ((((x413).1).1 : Nat) : Int)), (Value.int IntKind.i64 (0 : Int)), (Value.tuple (List.toArray [])), (Value.tuple (List.toArray [])), (Value.tuple (List.toArray [])), (Value.tuple (List.toArray [])), (Value.tuple (List.toArray [])), (Value.tuple (List.toArray [])), (Value.tuple (List.toArray [])), (Value.tuple (List.toArray [])), (Value.tuple (List.toArray [])), (Value.tuple (List.toArray [])), (Value.tuple (List.toArray [])), (Value.tuple (List.toArray []))] ∧
 ((SelS [(Ch.row (Row.mk Bool.false O 0 2 ((x).1).1 0 [(fun (i429 : Nat) => (SC.sl 3 (so i429) (((x).1).2 i429) (sc i429))), (fun (i430 : Nat) => (SC.bool (((x).1).4 i430)))])), (Ch.row (Row.mk Bool.false A 0 1 (x).2 0 [(fun (i431 : Nat) => (SC.int ((x).3 i431)))])), (Ch.row (Row.mk Bool.false H 0 1 (x).4 0 [(fun (i432 : Nat) => (SC.int ((x).5 i432)))])), (Ch.obj Bool.false (symRows Bool.false 0 (x).1 so (fun (x433 : Nat) => 0))), (Ch.cells b0 33 [(SC.sl 0 O ((x).1).1 C), (SC.sl 1 A (x).2 D), (SC.sl 2 H (x).4 E)]), (Ch.cells b1 33 [SC.nil, SC.nil, SC.nil]), Ch.dead, (Ch.cells b405 33 [SC.nil, (SC.sl 8 ao407 (x).2 cap408), (SC.sl 10 ao411 (x).4 cap412)]), (Ch.row (Row.mk Bool.true ao407 3 1 (x).2 cap408 [(fun (i434 : Nat) => (SC.int ((x).3 i434)))])), Ch.dead, (Ch.row (Row.mk Bool.true ao411 3 1 (x).4 cap412 [(fun (i435 : Nat) => (SC.int ((x).5 i435)))]))] [0, 1, 2, 3, 4, 5, 7, 1000000, 8, 10, 1000003] [(Ch.row (Row.mk Bool.false O414 0 2 ((x413).1).1 0 [(fun (i436 : Nat) => (SC.sl 3 (so420 i436) (((x413).1).2 i436) (sc421 i436))), (fun (i437 : Nat) => (SC.bool (((x413).1).4 i437)))])), (Ch.row (Row.mk Bool.false A415 0 1 (x413).2 0 [(fun (i438 : Nat) => (SC.int ((x413).3 i438)))])), (Ch.row (Row.mk Bool.false H416 0 1 (x413).4 0 [(fun (i439 : Nat) => (SC.int ((x413).5 i439)))])), (Ch.obj Bool.false (symRows Bool.false 0 (x413).1 so420 (fun (x440 : Nat) => 0))), (Ch.cells bp422 33 [(SC.sl 0 O414 ((x413).1).1 C417), (SC.sl 1 A415 (x413).2 D418), (SC.sl 2 H416 (x413).4 E419)]), (Ch.cells br423 33 [SC.nil, SC.nil, SC.nil]), (Ch.cells bo424 33 [(SC.sl 7 (none : Option (Addr)) 0 0), (SC.sl 8 Aq425 (x413).2 Dq427), (SC.sl 9 Hq426 (x413).4 Ee428)]), (Ch.row (Row.mk Bool.true (none : Option (Addr)) 52 2 0 0 [(fun (i441 : Nat) => (SC.sl 10 (none : Option (Addr)) (((x413).1).2 i441) 0)), (fun (i442 : Nat) => (SC.bool (((x413).1).4 i442)))])), (Ch.row (Row.mk Bool.true Aq425 3 1 (x413).2 Dq427 [(fun (i443 : Nat) => (SC.int ((x413).3 i443)))])), (Ch.row (Row.mk Bool.true Hq426 3 1 (x413).4 Ee428 [(fun (i444 : Nat) => (SC.int ((x413).5 i444)))])), (Ch.obj Bool.true (symRows Bool.true 3 (CD.mk 0 ((x413).1).2 ((x413).1).3 ((x413).1).4) (fun (x445 : Nat) => (none : Option (Addr))) (fun (x446 : Nat) => 0)))]) ∧
 (capA x413))) ∧
 (∀ g447 : (Nat →
 Value),
 (∀ kx448 : Int,
 (∀ Oq449 : (Option Addr),
 (∀ Cq450 : Nat,
 (∀ soq451 : (Nat →
 (Option Addr)),
 (∀ scq452 : (Nat →
 Nat),
 (bo424 = bo424 ∧
 (br423 = br423 ∧
 (br423 = br423 ∧
 (Exists (fun (Oq453 : (Option Addr)) => (Exists (fun (Aq454 : (Option Addr)) => (Exists (fun (Hq455 : (Option Addr)) => (Exists (fun (Cq456 : Nat) => (Exists (fun (Dq457 : Nat) => (Exists (fun (Ee458 : Nat) => (Exists (fun (soq459 : (Nat →
 (Option Addr))) => (Exists (fun (scq460 : (Nat →
 Nat)) => ((Value.agg (List.toArray [(Value.slice Oq449 ((x413).1).1 Cq450), (Value.slice Aq425 (x413).2 Dq427), (Value.slice Hq426 (x413).4 Ee428)])) = (Value.agg (List.toArray [(Value.slice Oq453 ((x).1).1 Cq456), (Value.slice Aq454 (x).2 Dq457), (Value.slice Hq455 (x).4 Ee458)])) ∧
 (SelS [(Ch.row (Row.mk Bool.false O414 0 2 ((x413).1).1 0 [(fun (i461 : Nat) => (SC.sl 3 (so420 i461) (((x413).1).2 i461) (sc421 i461))), (fun (i462 : Nat) => (SC.bool (((x413).1).4 i462)))])), (Ch.row (Row.mk Bool.false A415 0 1 (x413).2 0 [(fun (i463 : Nat) => (SC.int ((x413).3 i463)))])), (Ch.row (Row.mk Bool.false H416 0 1 (x413).4 0 [(fun (i464 : Nat) => (SC.int ((x413).5 i464)))])), (Ch.obj Bool.false (symRows Bool.false 0 (x413).1 so420 (fun (x465 : Nat) => 0))), (Ch.cells bp422 33 [(SC.sl 0 O414 ((x413).1).1 C417), (SC.sl 1 A415 (x413).2 D418), (SC.sl 2 H416 (x413).4 E419)]), (Ch.cells br423 33 [(SC.sl 7 Oq449 ((x413).1).1 Cq450), (SC.sl 8 Aq425 (x413).2 Dq427), (SC.sl 9 Hq426 (x413).4 Ee428)]), (Ch.cells bo424 33 [(SC.sl 7 Oq449 ((x413).1).1 Cq450), (SC.sl 8 Aq425 (x413).2 Dq427), (SC.sl 9 Hq426 (x413).4 Ee428)]), (Ch.row (Row.mk Bool.true Oq449 52 2 ((x413).1).1 Cq450 [(fun (i466 : Nat) => (SC.sl 10 (soq451 i466) (((x413).1).2 i466) (scq452 i466))), (fun (i467 : Nat) => (SC.bool (((x413).1).4 i467)))])), (Ch.row (Row.mk Bool.true Aq425 3 1 (x413).2 Dq427 [(fun (i468 : Nat) => (SC.int ((x413).3 i468)))])), (Ch.row (Row.mk Bool.true Hq426 3 1 (x413).4 Ee428 [(fun (i469 : Nat) => (SC.int ((x413).5 i469)))])), (Ch.obj Bool.true (symRows Bool.true 3 (CD.mk ((x413).1).1 ((x413).1).2 ((x413).1).3 ((x413).1).4) soq451 scq452))] [7, 8, 9, 10] [(Ch.row (Row.mk Bool.true Oq453 52 2 ((x).1).1 Cq456 [(fun (i470 : Nat) => (SC.sl 3 (soq459 i470) (((x).1).2 i470) (scq460 i470))), (fun (i471 : Nat) => (SC.bool (((x).1).4 i471)))])), (Ch.row (Row.mk Bool.true Aq454 3 1 (x).2 Dq457 [(fun (i472 : Nat) => (SC.int ((x).3 i472)))])), (Ch.row (Row.mk Bool.true Hq455 3 1 (x).4 Ee458 [(fun (i473 : Nat) => (SC.int ((x).5 i473)))])), (Ch.obj Bool.true (symRows Bool.true 3 (x).1 soq459 scq460))]))))))))))))))))))))))))))))))))))))))))))))))))))))))))))))))))))))))))) ∧
 (∀ b474 : Nat,
 (True ∧
 ((b2 = b2 ∧
 ((A = A ∧
 (x).2 = (x).2) ∧
 ((∀ i475 : Nat,
 Bool.true = Bool.true) ∧
 (apC 0 (x).2 8)))) ∧
 (∀ ao476 : (Option Addr),
 (∀ cap477 : Nat,
 (True ∧
 ((b474 = b474 ∧
 ((H = H ∧
 (x).4 = (x).4) ∧
 ((∀ i478 : Nat,
 Bool.true = Bool.true) ∧
 (apC 0 (x).4 8)))) ∧
 (∀ ao479 : (Option Addr),
 (∀ cap480 : Nat,
 (True ∧
 (b405 = b405 ∧
 (True ∧
 (b0 = b0 ∧
 (Exists (fun (x481 : AD) => (Exists (fun (O482 : (Option Addr)) => (Exists (fun (A483 : (Option Addr)) => (Exists (fun (H484 : (Option Addr)) => (Exists (fun (C485 : Nat) => (Exists (fun (D486 : Nat) => (Exists (fun (E487 : Nat) => (Exists (fun (so488 : (Nat →
 (Option Addr))) => (Exists (fun (sc489 : (Nat →
 Nat)) => (Exists (fun (bp490 : Nat) => (Exists (fun (br491 : Nat) => (Exists (fun (bo492 : Nat) => (Exists (fun (Aq493 : (Option Addr)) => (Exists (fun (Hq494 : (Option Addr)) => (Exists (fun (Dq495 : Nat) => (Exists (fun (Ee496 : Nat) => (([(Value.agg (List.toArray [(Value.slice O ((x).1).1 C), (Value.slice A (x).2 D), (Value.slice H (x).4 E)])), (Value.pointer (Option.some (Addr.mk b0 0 (none : Option (Nat))))), (Value.pointer (Option.some (Addr.mk b1 0 (none : Option (Nat))))), (Value.pointer (Option.some (Addr.mk b405 0 (none : Option (Nat))))), (Value.tuple (List.toArray [])), (Value.tuple (List.toArray [])), (Value.slice (Option.some (Addr.mk b2 0 (none : Option (Nat)))) 0 0), (Value.pointer (Option.some (Addr.mk b0 1 (none : Option (Nat))))), (Value.slice A (x).2 D), (Value.slice ao476 (x).2 cap477), (Value.slice (Option.some (Addr.mk b474 0 (none : Option (Nat)))) 0 0), (Value.pointer (Option.some (Addr.mk b0 2 (none : Option (Nat))))), (Value.slice H (x).4 E), (Value.slice ao479 (x).4 cap480), (Value.agg (List.toArray [(Value.slice (none : Option (Addr)) 0 0), (Value.slice ao476 (x).2 cap477), (Value.slice ao479 (x).4 cap480)])), (Value.pointer (Option.some (Addr.mk b0 0 (none : Option (Nat))))), (Value.slice O ((x).1).1 C), (Value.int IntKind.i64 ((((x).1).1 : Nat) : Int)), (Value.int IntKind.i64 (0 : Int)), (Value.tuple (List.toArray [])), (Value.tuple (List.toArray [])), (Value.tuple (List.toArray [])), (Value.tuple (List.toArray [])), (Value.tuple (List.toArray [])), (Value.tuple (List.toArray [])), (Value.tuple (List.toArray [])), (Value.tuple (List.toArray [])), (Value.tuple (List.toArray [])), (Value.tuple (List.toArray [])), (Value.tuple (List.toArray [])), (Value.tuple (List.toArray []))] = [(Value.agg (List.toArray [(Value.slice O ((x).1).1 C), (Value.slice A (x).2 D), (Value.slice H (x).4 E)])), (Value.pointer (Option.some (Addr.mk bp490 0 (none : Option (Nat))))), (Value.pointer (Option.some (Addr.mk br491 0 (none : Option (Nat))))), (Value.pointer (Option.some (Addr.mk bo492 0 (none : Option (Nat))))), (Value.tuple (List.toArray [])), (Value.tuple (List.toArray [])), (Value.slice (Option.some (Addr.mk b2 0 (none : Option (Nat)))) 0 0), (Value.pointer (Option.some (Addr.mk b0 1 (none : Option (Nat))))), (Value.slice A (x).2 D), (Value.slice ao476 (x).2 cap477), (Value.slice (Option.some (Addr.mk b474 0 (none : Option (Nat)))) 0 0), (Value.pointer (Option.some (Addr.mk b0 2 (none : Option (Nat))))), (Value.slice H (x).4 E), (Value.slice ao479 (x).4 cap480), (Value.agg (List.toArray [(Value.slice (none : Option (Addr)) 0 0), (Value.slice ao476 (x).2 cap477), (Value.slice ao479 (x).4 cap480)])), (Value.pointer (Option.some (Addr.mk b0 0 (none : Option (Nat))))), (Value.slice O482 ((x481).1).1 C485), (Value.int IntKind.i64 ((((x481).1).1 : Nat) : Int)), (Value.int IntKind.i64 (0 : Int)), (Value.tuple (List.toArray [])), (Value.tuple (List.toArray [])), (Value.tuple (List.toArray [])), (Value.tuple (List.toArray [])), (Value.tuple (List.toArray [])), (Value.tuple (List.toArray [])), (Value.tuple (List.toArray [])), (Value.tuple (List.toArray [])), (Value.tuple (List.toArray [])), (Value.tuple (List.toArray [])), (Value.tuple (List.toArray [])), (Value.tuple (List.toArray []))] ∧
 ((SelS [(Ch.row (Row.mk Bool.false O 0 2 ((x).1).1 0 [(fun (i497 : Nat) => (SC.sl 3 (so i497) (((x).1).2 i497) (sc i497))), (fun (i498 : Nat) => (SC.bool (((x).1).4 i498)))])), (Ch.row (Row.mk Bool.false A 0 1 (x).2 0 [(fun (i499 : Nat) => (SC.int ((x).3 i499)))])), (Ch.row (Row.mk Bool.false H 0 1 (x).4 0 [(fun (i500 : Nat) => (SC.int ((x).5 i500)))])), (Ch.obj Bool.false (symRows Bool.false 0 (x).1 so (fun (x501 : Nat) => 0))), (Ch.cells b0 33 [(SC.sl 0 O ((x).1).1 C), (SC.sl 1 A (x).2 D), (SC.sl 2 H (x).4 E)]), (Ch.cells b1 33 [SC.nil, SC.nil, SC.nil]), Ch.dead, (Ch.cells b405 33 [SC.nil, (SC.sl 9 ao476 (x).2 cap477), (SC.sl 10 ao479 (x).4 cap480)]), Ch.dead, (Ch.row (Row.mk Bool.true ao476 3 1 (x).2 cap477 [(fun (i502 : Nat) => (SC.int ((x).3 i502)))])), (Ch.row (Row.mk Bool.true ao479 3 1 (x).4 cap480 [(fun (i503 : Nat) => (SC.int ((x).5 i503)))]))] [0, 1, 2, 3, 4, 5, 7, 1000000, 9, 10, 1000003] [(Ch.row (Row.mk Bool.false O482 0 2 ((x481).1).1 0 [(fun (i504 : Nat) => (SC.sl 3 (so488 i504) (((x481).1).2 i504) (sc489 i504))), (fun (i505 : Nat) => (SC.bool (((x481).1).4 i505)))])), (Ch.row (Row.mk Bool.false A483 0 1 (x481).2 0 [(fun (i506 : Nat) => (SC.int ((x481).3 i506)))])), (Ch.row (Row.mk Bool.false H484 0 1 (x481).4 0 [(fun (i507 : Nat) => (SC.int ((x481).5 i507)))])), (Ch.obj Bool.false (symRows Bool.false 0 (x481).1 so488 (fun (x508 : Nat) => 0))), (Ch.cells bp490 33 [(SC.sl 0 O482 ((x481).1).1 C485), (SC.sl 1 A483 (x481).2 D486), (SC.sl 2 H484 (x481).4 E487)]), (Ch.cells br491 33 [SC.nil, SC.nil, SC.nil]), (Ch.cells bo492 33 [(SC.sl 7 (none : Option (Addr)) 0 0), (SC.sl 8 Aq493 (x481).2 Dq495), (SC.sl 9 Hq494 (x481).4 Ee496)]), (Ch.row (Row.mk Bool.true (none : Option (Addr)) 52 2 0 0 [(fun (i509 : Nat) => (SC.sl 10 (none : Option (Addr)) (((x481).1).2 i509) 0)), (fun (i510 : Nat) => (SC.bool (((x481).1).4 i510)))])), (Ch.row (Row.mk Bool.true Aq493 3 1 (x481).2 Dq495 [(fun (i511 : Nat) => (SC.int ((x481).3 i511)))])), (Ch.row (Row.mk Bool.true Hq494 3 1 (x481).4 Ee496 [(fun (i512 : Nat) => (SC.int ((x481).5 i512)))])), (Ch.obj Bool.true (symRows Bool.true 3 (CD.mk 0 ((x481).1).2 ((x481).1).3 ((x481).1).4) (fun (x513 : Nat) => (none : Option (Addr))) (fun (x514 : Nat) => 0)))]) ∧
 (capA x481))) ∧
 (∀ g515 : (Nat →
 Value),
 (∀ kx516 : Int,
 (∀ Oq517 : (Option Addr),
 (∀ Cq518 : Nat,
 (∀ soq519 : (Nat →
 (Option Addr)),
 (∀ scq520 : (Nat →
 Nat),
 (bo492 = bo492 ∧
 (br491 = br491 ∧
 (br491 = br491 ∧
 (Exists (fun (Oq521 : (Option Addr)) => (Exists (fun (Aq522 : (Option Addr)) => (Exists (fun (Hq523 : (Option Addr)) => (Exists (fun (Cq524 : Nat) => (Exists (fun (Dq525 : Nat) => (Exists (fun (Ee526 : Nat) => (Exists (fun (soq527 : (Nat →
 (Option Addr))) => (Exists (fun (scq528 : (Nat →
 Nat)) => ((Value.agg (List.toArray [(Value.slice Oq517 ((x481).1).1 Cq518), (Value.slice Aq493 (x481).2 Dq495), (Value.slice Hq494 (x481).4 Ee496)])) = (Value.agg (List.toArray [(Value.slice Oq521 ((x).1).1 Cq524), (Value.slice Aq522 (x).2 Dq525), (Value.slice Hq523 (x).4 Ee526)])) ∧
 (SelS [(Ch.row (Row.mk Bool.false O482 0 2 ((x481).1).1 0 [(fun (i529 : Nat) => (SC.sl 3 (so488 i529) (((x481).1).2 i529) (sc489 i529))), (fun (i530 : Nat) => (SC.bool (((x481).1).4 i530)))])), (Ch.row (Row.mk Bool.false A483 0 1 (x481).2 0 [(fun (i531 : Nat) => (SC.int ((x481).3 i531)))])), (Ch.row (Row.mk Bool.false H484 0 1 (x481).4 0 [(fun (i532 : Nat) => (SC.int ((x481).5 i532)))])), (Ch.obj Bool.false (symRows Bool.false 0 (x481).1 so488 (fun (x533 : Nat) => 0))), (Ch.cells bp490 33 [(SC.sl 0 O482 ((x481).1).1 C485), (SC.sl 1 A483 (x481).2 D486), (SC.sl 2 H484 (x481).4 E487)]), (Ch.cells br491 33 [(SC.sl 7 Oq517 ((x481).1).1 Cq518), (SC.sl 8 Aq493 (x481).2 Dq495), (SC.sl 9 Hq494 (x481).4 Ee496)]), (Ch.cells bo492 33 [(SC.sl 7 Oq517 ((x481).1).1 Cq518), (SC.sl 8 Aq493 (x481).2 Dq495), (SC.sl 9 Hq494 (x481).4 Ee496)]), (Ch.row (Row.mk Bool.true Oq517 52 2 ((x481).1).1 Cq518 [(fun (i534 : Nat) => (SC.sl 10 (soq519 i534) (((x481).1).2 i534) (scq520 i534))), (fun (i535 : Nat) => (SC.bool (((x481).1).4 i535)))])), (Ch.row (Row.mk Bool.true Aq493 3 1 (x481).2 Dq495 [(fun (i536 : Nat) => (SC.int ((x481).3 i536)))])), (Ch.row (Row.mk Bool.true Hq494 3 1 (x481).4 Ee496 [(fun (i537 : Nat) => (SC.int ((x481).5 i537)))])), (Ch.obj Bool.true (symRows Bool.true 3 (CD.mk ((x481).1).1 ((x481).1).2 ((x481).1).3 ((x481).1).4) soq519 scq520))] [7, 8, 9, 10] [(Ch.row (Row.mk Bool.true Oq521 52 2 ((x).1).1 Cq524 [(fun (i538 : Nat) => (SC.sl 3 (soq527 i538) (((x).1).2 i538) (scq528 i538))), (fun (i539 : Nat) => (SC.bool (((x).1).4 i539)))])), (Ch.row (Row.mk Bool.true Aq522 3 1 (x).2 Dq525 [(fun (i540 : Nat) => (SC.int ((x).3 i540)))])), (Ch.row (Row.mk Bool.true Hq523 3 1 (x).4 Ee526 [(fun (i541 : Nat) => (SC.int ((x).5 i541)))])), (Ch.obj Bool.true (symRows Bool.true 3 (x).1 soq527 scq528))])))))))))))))))))))))))))))))))))))))))))))))))))))))))))))))))))))))))))))))))) ∧
 ((∀ b542 : Nat,
 (True ∧
 ((∀ b543 : Nat,
 (True ∧
 (((b543 = b543 ∧
 ((A = A ∧
 (x).2 = (x).2) ∧
 ((∀ i544 : Nat,
 Bool.true = Bool.true) ∧
 (apC 0 (x).2 8)))) ∧
 (∀ ao545 : (Option Addr),
 (∀ cap546 : Nat,
 (True ∧
 (((b542 = b542 ∧
 ((H = H ∧
 (x).4 = (x).4) ∧
 ((∀ i547 : Nat,
 Bool.true = Bool.true) ∧
 (apC 0 (x).4 8)))) ∧
 (∀ ao548 : (Option Addr),
 (∀ cap549 : Nat,
 (True ∧
 (∀ b550 : Nat,
 (True ∧
 (b550 = b550 ∧
 (True ∧
 (b0 = b0 ∧
 (Exists (fun (x551 : AD) => (Exists (fun (O552 : (Option Addr)) => (Exists (fun (A553 : (Option Addr)) => (Exists (fun (H554 : (Option Addr)) => (Exists (fun (C555 : Nat) => (Exists (fun (D556 : Nat) => (Exists (fun (E557 : Nat) => (Exists (fun (so558 : (Nat →
 (Option Addr))) => (Exists (fun (sc559 : (Nat →
 Nat)) => (Exists (fun (bp560 : Nat) => (Exists (fun (br561 : Nat) => (Exists (fun (bo562 : Nat) => (Exists (fun (Aq563 : (Option Addr)) => (Exists (fun (Hq564 : (Option Addr)) => (Exists (fun (Dq565 : Nat) => (Exists (fun (Ee566 : Nat) => (([(Value.agg (List.toArray [(Value.slice O ((x).1).1 C), (Value.slice A (x).2 D), (Value.slice H (x).4 E)])), (Value.pointer (Option.some (Addr.mk b0 0 (none : Option (Nat))))), (Value.pointer (Option.some (Addr.mk b1 0 (none : Option (Nat))))), (Value.pointer (Option.some (Addr.mk b550 0 (none : Option (Nat))))), (Value.tuple (List.toArray [])), (Value.tuple (List.toArray [])), (Value.slice (Option.some (Addr.mk b543 0 (none : Option (Nat)))) 0 0), (Value.pointer (Option.some (Addr.mk b0 1 (none : Option (Nat))))), (Value.slice A (x).2 D), (Value.slice ao545 (x).2 cap546), (Value.slice (Option.some (Addr.mk b542 0 (none : Option (Nat)))) 0 0), (Value.pointer (Option.some (Addr.mk b0 2 (none : Option (Nat))))), (Value.slice H (x).4 E), (Value.slice ao548 (x).4 cap549), (Value.agg (List.toArray [(Value.slice (none : Option (Addr)) 0 0), (Value.slice ao545 (x).2 cap546), (Value.slice ao548 (x).4 cap549)])), (Value.pointer (Option.some (Addr.mk b0 0 (none : Option (Nat))))), (Value.slice O ((x).1).1 C), (Value.int IntKind.i64 ((((x).1).1 : Nat) : Int)), (Value.int IntKind.i64 (0 : Int)), (Value.tuple (List.toArray [])), (Value.tuple (List.toArray [])), (Value.tuple (List.toArray [])), (Value.tuple (List.toArray [])), (Value.tuple (List.toArray [])), (Value.tuple (List.toArray [])), (Value.tuple (List.toArray [])), (Value.tuple (List.toArray [])), (Value.tuple (List.toArray [])), (Value.tuple (List.toArray [])), (Value.tuple (List.toArray [])), (Value.tuple (List.toArray []))] = [(Value.agg (List.toArray [(Value.slice O ((x).1).1 C), (Value.slice A (x).2 D), (Value.slice H (x).4 E)])), (Value.pointer (Option.some (Addr.mk bp560 0 (none : Option (Nat))))), (Value.pointer (Option.some (Addr.mk br561 0 (none : Option (Nat))))), (Value.pointer (Option.some (Addr.mk bo562 0 (none : Option (Nat))))), (Value.tuple (List.toArray [])), (Value.tuple (List.toArray [])), (Value.slice (Option.some (Addr.mk b543 0 (none : Option (Nat)))) 0 0), (Value.pointer (Option.some (Addr.mk b0 1 (none : Option (Nat))))), (Value.slice A (x).2 D), (Value.slice ao545 (x).2 cap546), (Value.slice (Option.some (Addr.mk b542 0 (none : Option (Nat)))) 0 0), (Value.pointer (Option.some (Addr.mk b0 2 (none : Option (Nat))))), (Value.slice H (x).4 E), (Value.slice ao548 (x).4 cap549), (Value.agg (List.toArray [(Value.slice (none : Option (Addr)) 0 0), (Value.slice ao545 (x).2 cap546), (Value.slice ao548 (x).4 cap549)])), (Value.pointer (Option.some (Addr.mk b0 0 (none : Option (Nat))))), (Value.slice O552 ((x551).1).1 C555), (Value.int IntKind.i64 ((((x551).1).1 : Nat) : Int)), (Value.int IntKind.i64 (0 : Int)), (Value.tuple (List.toArray [])), (Value.tuple (List.toArray [])), (Value.tuple (List.toArray [])), (Value.tuple (List.toArray [])), (Value.tuple (List.toArray [])), (Value.tuple (List.toArray [])), (Value.tuple (List.toArray [])), (Value.tuple (List.toArray [])), (Value.tuple (List.toArray [])), (Value.tuple (List.toArray [])), (Value.tuple (List.toArray [])), (Value.tuple (List.toArray []))] ∧
 ((SelS [(Ch.row (Row.mk Bool.false O 0 2 ((x).1).1 0 [(fun (i567 : Nat) => (SC.sl 3 (so i567) (((x).1).2 i567) (sc i567))), (fun (i568 : Nat) => (SC.bool (((x).1).4 i568)))])), (Ch.row (Row.mk Bool.false A 0 1 (x).2 0 [(fun (i569 : Nat) => (SC.int ((x).3 i569)))])), (Ch.row (Row.mk Bool.false H 0 1 (x).4 0 [(fun (i570 : Nat) => (SC.int ((x).5 i570)))])), (Ch.obj Bool.false (symRows Bool.false 0 (x).1 so (fun (x571 : Nat) => 0))), (Ch.cells b0 33 [(SC.sl 0 O ((x).1).1 C), (SC.sl 1 A (x).2 D), (SC.sl 2 H (x).4 E)]), (Ch.cells b1 33 [SC.nil, SC.nil, SC.nil]), Ch.dead, Ch.dead, (Ch.row (Row.mk Bool.true ao545 3 1 (x).2 cap546 [(fun (i572 : Nat) => (SC.int ((x).3 i572)))])), (Ch.row (Row.mk Bool.true ao548 3 1 (x).4 cap549 [(fun (i573 : Nat) => (SC.int ((x).5 i573)))])), (Ch.cells b550 33 [SC.nil, (SC.sl 8 ao545 (x).2 cap546), (SC.sl 9 ao548 (x).4 cap549)])] [0, 1, 2, 3, 4, 5, 10, 1000000, 8, 9, 1000003] [(Ch.row (Row.mk Bool.false O552 0 2 ((x551).1).1 0 [(fun (i574 : Nat) => (SC.sl 3 (so558 i574) (((x551).1).2 i574) (sc559 i574))), (fun (i575 : Nat) => (SC.bool (((x551).1).4 i575)))])), (Ch.row (Row.mk Bool.false A553 0 1 (x551).2 0 [(fun (i576 : Nat) => (SC.int ((x551).3 i576)))])), (Ch.row (Row.mk Bool.false H554 0 1 (x551).4 0 [(fun (i577 : Nat) => (SC.int ((x551).5 i577)))])), (Ch.obj Bool.false (symRows Bool.false 0 (x551).1 so558 (fun (x578 : Nat) => 0))), (Ch.cells bp560 33 [(SC.sl 0 O552 ((x551).1).1 C555), (SC.sl 1 A553 (x551).2 D556), (SC.sl 2 H554 (x551).4 E557)]), (Ch.cells br561 33 [SC.nil, SC.nil, SC.nil]), (Ch.cells bo562 33 [(SC.sl 7 (none : Option (Addr)) 0 0), (SC.sl 8 Aq563 (x551).2 Dq565), (SC.sl 9 Hq564 (x551).4 Ee566)]), (Ch.row (Row.mk Bool.true (none : Option (Addr)) 52 2 0 0 [(fun (i579 : Nat) => (SC.sl 10 (none : Option (Addr)) (((x551).1).2 i579) 0)), (fun (i580 : Nat) => (SC.bool (((x551).1).4 i580)))])), (Ch.row (Row.mk Bool.true Aq563 3 1 (x551).2 Dq565 [(fun (i581 : Nat) => (SC.int ((x551).3 i581)))])), (Ch.row (Row.mk Bool.true Hq564 3 1 (x551).4 Ee566 [(fun (i582 : Nat) => (SC.int ((x551).5 i582)))])), (Ch.obj Bool.true (symRows Bool.true 3 (CD.mk 0 ((x551).1).2 ((x551).1).3 ((x551).1).4) (fun (x583 : Nat) => (none : Option (Addr))) (fun (x584 : Nat) => 0)))]) ∧
 (capA x551))) ∧
 (∀ g585 : (Nat →
 Value),
 (∀ kx586 : Int,
 (∀ Oq587 : (Option Addr),
 (∀ Cq588 : Nat,
 (∀ soq589 : (Nat →
 (Option Addr)),
 (∀ scq590 : (Nat →
 Nat),
 (bo562 = bo562 ∧
 (br561 = br561 ∧
 (br561 = br561 ∧
 (Exists (fun (Oq591 : (Option Addr)) => (Exists (fun (Aq592 : (Option Addr)) => (Exists (fun (Hq593 : (Option Addr)) => (Exists (fun (Cq594 : Nat) => (Exists (fun (Dq595 : Nat) => (Exists (fun (Ee596 : Nat) => (Exists (fun (soq597 : (Nat →
 (Option Addr))) => (Exists (fun (scq598 : (Nat →
 Nat)) => ((Value.agg (List.toArray [(Value.slice Oq587 ((x551).1).1 Cq588), (Value.slice Aq563 (x551).2 Dq565), (Value.slice Hq564 (x551).4 Ee566)])) = (Value.agg (List.toArray [(Value.slice Oq591 ((x).1).1 Cq594), (Value.slice Aq592 (x).2 Dq595), (Value.slice Hq593 (x).4 Ee596)])) ∧
 (SelS [(Ch.row (Row.mk Bool.false O552 0 2 ((x551).1).1 0 [(fun (i599 : Nat) => (SC.sl 3 (so558 i599) (((x551).1).2 i599) (sc559 i599))), (fun (i600 : Nat) => (SC.bool (((x551).1).4 i600)))])), (Ch.row (Row.mk Bool.false A553 0 1 (x551).2 0 [(fun (i601 : Nat) => (SC.int ((x551).3 i601)))])), (Ch.row (Row.mk Bool.false H554 0 1 (x551).4 0 [(fun (i602 : Nat) => (SC.int ((x551).5 i602)))])), (Ch.obj Bool.false (symRows Bool.false 0 (x551).1 so558 (fun (x603 : Nat) => 0))), (Ch.cells bp560 33 [(SC.sl 0 O552 ((x551).1).1 C555), (SC.sl 1 A553 (x551).2 D556), (SC.sl 2 H554 (x551).4 E557)]), (Ch.cells br561 33 [(SC.sl 7 Oq587 ((x551).1).1 Cq588), (SC.sl 8 Aq563 (x551).2 Dq565), (SC.sl 9 Hq564 (x551).4 Ee566)]), (Ch.cells bo562 33 [(SC.sl 7 Oq587 ((x551).1).1 Cq588), (SC.sl 8 Aq563 (x551).2 Dq565), (SC.sl 9 Hq564 (x551).4 Ee566)]), (Ch.row (Row.mk Bool.true Oq587 52 2 ((x551).1).1 Cq588 [(fun (i604 : Nat) => (SC.sl 10 (soq589 i604) (((x551).1).2 i604) (scq590 i604))), (fun (i605 : Nat) => (SC.bool (((x551).1).4 i605)))])), (Ch.row (Row.mk Bool.true Aq563 3 1 (x551).2 Dq565 [(fun (i606 : Nat) => (SC.int ((x551).3 i606)))])), (Ch.row (Row.mk Bool.true Hq564 3 1 (x551).4 Ee566 [(fun (i607 : Nat) => (SC.int ((x551).5 i607)))])), (Ch.obj Bool.true (symRows Bool.true 3 (CD.mk ((x551).1).1 ((x551).1).2 ((x551).1).3 ((x551).1).4) soq589 scq590))] [7, 8, 9, 10] [(Ch.row (Row.mk Bool.true Oq591 52 2 ((x).1).1 Cq594 [(fun (i608 : Nat) => (SC.sl 3 (soq597 i608) (((x).1).2 i608) (scq598 i608))), (fun (i609 : Nat) => (SC.bool (((x).1).4 i609)))])), (Ch.row (Row.mk Bool.true Aq592 3 1 (x).2 Dq595 [(fun (i610 : Nat) => (SC.int ((x).3 i610)))])), (Ch.row (Row.mk Bool.true Hq593 3 1 (x).4 Ee596 [(fun (i611 : Nat) => (SC.int ((x).5 i611)))])), (Ch.obj Bool.true (symRows Bool.true 3 (x).1 soq597 scq598))]))))))))))))))))))))))))))))))))))))))))))))))))))))))))))))))))))))) ∧
 (∀ b612 : Nat,
 (True ∧
 ((b542 = b542 ∧
 ((H = H ∧
 (x).4 = (x).4) ∧
 ((∀ i613 : Nat,
 Bool.true = Bool.true) ∧
 (apC 0 (x).4 8)))) ∧
 (∀ ao614 : (Option Addr),
 (∀ cap615 : Nat,
 (True ∧
 (b612 = b612 ∧
 (True ∧
 (b0 = b0 ∧
 (Exists (fun (x616 : AD) => (Exists (fun (O617 : (Option Addr)) => (Exists (fun (A618 : (Option Addr)) => (Exists (fun (H619 : (Option Addr)) => (Exists (fun (C620 : Nat) => (Exists (fun (D621 : Nat) => (Exists (fun (E622 : Nat) => (Exists (fun (so623 : (Nat →
 (Option Addr))) => (Exists (fun (sc624 : (Nat →
 Nat)) => (Exists (fun (bp625 : Nat) => (Exists (fun (br626 : Nat) => (Exists (fun (bo627 : Nat) => (Exists (fun (Aq628 : (Option Addr)) => (Exists (fun (Hq629 : (Option Addr)) => (Exists (fun (Dq630 : Nat) => (Exists (fun (Ee631 : Nat) => (([(Value.agg (List.toArray [(Value.slice O ((x).1).1 C), (Value.slice A (x).2 D), (Value.slice H (x).4 E)])), (Value.pointer (Option.some (Addr.mk b0 0 (none : Option (Nat))))), (Value.pointer (Option.some (Addr.mk b1 0 (none : Option (Nat))))), (Value.pointer (Option.some (Addr.mk b612 0 (none : Option (Nat))))), (Value.tuple (List.toArray [])), (Value.tuple (List.toArray [])), (Value.slice (Option.some (Addr.mk b543 0 (none : Option (Nat)))) 0 0), (Value.pointer (Option.some (Addr.mk b0 1 (none : Option (Nat))))), (Value.slice A (x).2 D), (Value.slice ao545 (x).2 cap546), (Value.slice (Option.some (Addr.mk b542 0 (none : Option (Nat)))) 0 0), (Value.pointer (Option.some (Addr.mk b0 2 (none : Option (Nat))))), (Value.slice H (x).4 E), (Value.slice ao614 (x).4 cap615), (Value.agg (List.toArray [(Value.slice (none : Option (Addr)) 0 0), (Value.slice ao545 (x).2 cap546), (Value.slice ao614 (x).4 cap615)])), (Value.pointer (Option.some (Addr.mk b0 0 (none : Option (Nat))))), (Value.slice O ((x).1).1 C), (Value.int IntKind.i64 ((((x).1).1 : Nat) : Int)), (Value.int IntKind.i64 (0 : Int)), (Value.tuple (List.toArray [])), (Value.tuple (List.toArray [])), (Value.tuple (List.toArray [])), (Value.tuple (List.toArray [])), (Value.tuple (List.toArray [])), (Value.tuple (List.toArray [])), (Value.tuple (List.toArray [])), (Value.tuple (List.toArray [])), (Value.tuple (List.toArray [])), (Value.tuple (List.toArray [])), (Value.tuple (List.toArray [])), (Value.tuple (List.toArray []))] = [(Value.agg (List.toArray [(Value.slice O ((x).1).1 C), (Value.slice A (x).2 D), (Value.slice H (x).4 E)])), (Value.pointer (Option.some (Addr.mk bp625 0 (none : Option (Nat))))), (Value.pointer (Option.some (Addr.mk br626 0 (none : Option (Nat))))), (Value.pointer (Option.some (Addr.mk bo627 0 (none : Option (Nat))))), (Value.tuple (List.toArray [])), (Value.tuple (List.toArray [])), (Value.slice (Option.some (Addr.mk b543 0 (none : Option (Nat)))) 0 0), (Value.pointer (Option.some (Addr.mk b0 1 (none : Option (Nat))))), (Value.slice A (x).2 D), (Value.slice ao545 (x).2 cap546), (Value.slice (Option.some (Addr.mk b542 0 (none : Option (Nat)))) 0 0), (Value.pointer (Option.some (Addr.mk b0 2 (none : Option (Nat))))), (Value.slice H (x).4 E), (Value.slice ao614 (x).4 cap615), (Value.agg (List.toArray [(Value.slice (none : Option (Addr)) 0 0), (Value.slice ao545 (x).2 cap546), (Value.slice ao614 (x).4 cap615)])), (Value.pointer (Option.some (Addr.mk b0 0 (none : Option (Nat))))), (Value.slice O617 ((x616).1).1 C620), (Value.int IntKind.i64 ((((x616).1).1 : Nat) : Int)), (Value.int IntKind.i64 (0 : Int)), (Value.tuple (List.toArray [])), (Value.tuple (List.toArray [])), (Value.tuple (List.toArray [])), (Value.tuple (List.toArray [])), (Value.tuple (List.toArray [])), (Value.tuple (List.toArray [])), (Value.tuple (List.toArray [])), (Value.tuple (List.toArray [])), (Value.tuple (List.toArray [])), (Value.tuple (List.toArray [])), (Value.tuple (List.toArray [])), (Value.tuple (List.toArray []))] ∧
 ((SelS [(Ch.row (Row.mk Bool.false O 0 2 ((x).1).1 0 [(fun (i632 : Nat) => (SC.sl 3 (so i632) (((x).1).2 i632) (sc i632))), (fun (i633 : Nat) => (SC.bool (((x).1).4 i633)))])), (Ch.row (Row.mk Bool.false A 0 1 (x).2 0 [(fun (i634 : Nat) => (SC.int ((x).3 i634)))])), (Ch.row (Row.mk Bool.false H 0 1 (x).4 0 [(fun (i635 : Nat) => (SC.int ((x).5 i635)))])), (Ch.obj Bool.false (symRows Bool.false 0 (x).1 so (fun (x636 : Nat) => 0))), (Ch.cells b0 33 [(SC.sl 0 O ((x).1).1 C), (SC.sl 1 A (x).2 D), (SC.sl 2 H (x).4 E)]), (Ch.cells b1 33 [SC.nil, SC.nil, SC.nil]), Ch.dead, Ch.dead, (Ch.row (Row.mk Bool.true ao545 3 1 (x).2 cap546 [(fun (i637 : Nat) => (SC.int ((x).3 i637)))])), (Ch.cells b612 33 [SC.nil, (SC.sl 8 ao545 (x).2 cap546), (SC.sl 10 ao614 (x).4 cap615)]), (Ch.row (Row.mk Bool.true ao614 3 1 (x).4 cap615 [(fun (i638 : Nat) => (SC.int ((x).5 i638)))]))] [0, 1, 2, 3, 4, 5, 9, 1000000, 8, 10, 1000003] [(Ch.row (Row.mk Bool.false O617 0 2 ((x616).1).1 0 [(fun (i639 : Nat) => (SC.sl 3 (so623 i639) (((x616).1).2 i639) (sc624 i639))), (fun (i640 : Nat) => (SC.bool (((x616).1).4 i640)))])), (Ch.row (Row.mk Bool.false A618 0 1 (x616).2 0 [(fun (i641 : Nat) => (SC.int ((x616).3 i641)))])), (Ch.row (Row.mk Bool.false H619 0 1 (x616).4 0 [(fun (i642 : Nat) => (SC.int ((x616).5 i642)))])), (Ch.obj Bool.false (symRows Bool.false 0 (x616).1 so623 (fun (x643 : Nat) => 0))), (Ch.cells bp625 33 [(SC.sl 0 O617 ((x616).1).1 C620), (SC.sl 1 A618 (x616).2 D621), (SC.sl 2 H619 (x616).4 E622)]), (Ch.cells br626 33 [SC.nil, SC.nil, SC.nil]), (Ch.cells bo627 33 [(SC.sl 7 (none : Option (Addr)) 0 0), (SC.sl 8 Aq628 (x616).2 Dq630), (SC.sl 9 Hq629 (x616).4 Ee631)]), (Ch.row (Row.mk Bool.true (none : Option (Addr)) 52 2 0 0 [(fun (i644 : Nat) => (SC.sl 10 (none : Option (Addr)) (((x616).1).2 i644) 0)), (fun (i645 : Nat) => (SC.bool (((x616).1).4 i645)))])), (Ch.row (Row.mk Bool.true Aq628 3 1 (x616).2 Dq630 [(fun (i646 : Nat) => (SC.int ((x616).3 i646)))])), (Ch.row (Row.mk Bool.true Hq629 3 1 (x616).4 Ee631 [(fun (i647 : Nat) => (SC.int ((x616).5 i647)))])), (Ch.obj Bool.true (symRows Bool.true 3 (CD.mk 0 ((x616).1).2 ((x616).1).3 ((x616).1).4) (fun (x648 : Nat) => (none : Option (Addr))) (fun (x649 : Nat) => 0)))]) ∧
 (capA x616))) ∧
 (∀ g650 : (Nat →
 Value),
 (∀ kx651 : Int,
 (∀ Oq652 : (Option Addr),
 (∀ Cq653 : Nat,
 (∀ soq654 : (Nat →
 (Option Addr)),
 (∀ scq655 : (Nat →
 Nat),
 (bo627 = bo627 ∧
 (br626 = br626 ∧
 (br626 = br626 ∧
 (Exists (fun (Oq656 : (Option Addr)) => (Exists (fun (Aq657 : (Option Addr)) => (Exists (fun (Hq658 : (Option Addr)) => (Exists (fun (Cq659 : Nat) => (Exists (fun (Dq660 : Nat) => (Exists (fun (Ee661 : Nat) => (Exists (fun (soq662 : (Nat →
 (Option Addr))) => (Exists (fun (scq663 : (Nat →
 Nat)) => ((Value.agg (List.toArray [(Value.slice Oq652 ((x616).1).1 Cq653), (Value.slice Aq628 (x616).2 Dq630), (Value.slice Hq629 (x616).4 Ee631)])) = (Value.agg (List.toArray [(Value.slice Oq656 ((x).1).1 Cq659), (Value.slice Aq657 (x).2 Dq660), (Value.slice Hq658 (x).4 Ee661)])) ∧
 (SelS [(Ch.row (Row.mk Bool.false O617 0 2 ((x616).1).1 0 [(fun (i664 : Nat) => (SC.sl 3 (so623 i664) (((x616).1).2 i664) (sc624 i664))), (fun (i665 : Nat) => (SC.bool (((x616).1).4 i665)))])), (Ch.row (Row.mk Bool.false A618 0 1 (x616).2 0 [(fun (i666 : Nat) => (SC.int ((x616).3 i666)))])), (Ch.row (Row.mk Bool.false H619 0 1 (x616).4 0 [(fun (i667 : Nat) => (SC.int ((x616).5 i667)))])), (Ch.obj Bool.false (symRows Bool.false 0 (x616).1 so623 (fun (x668 : Nat) => 0))), (Ch.cells bp625 33 [(SC.sl 0 O617 ((x616).1).1 C620), (SC.sl 1 A618 (x616).2 D621), (SC.sl 2 H619 (x616).4 E622)]), (Ch.cells br626 33 [(SC.sl 7 Oq652 ((x616).1).1 Cq653), (SC.sl 8 Aq628 (x616).2 Dq630), (SC.sl 9 Hq629 (x616).4 Ee631)]), (Ch.cells bo627 33 [(SC.sl 7 Oq652 ((x616).1).1 Cq653), (SC.sl 8 Aq628 (x616).2 Dq630), (SC.sl 9 Hq629 (x616).4 Ee631)]), (Ch.row (Row.mk Bool.true Oq652 52 2 ((x616).1).1 Cq653 [(fun (i669 : Nat) => (SC.sl 10 (soq654 i669) (((x616).1).2 i669) (scq655 i669))), (fun (i670 : Nat) => (SC.bool (((x616).1).4 i670)))])), (Ch.row (Row.mk Bool.true Aq628 3 1 (x616).2 Dq630 [(fun (i671 : Nat) => (SC.int ((x616).3 i671)))])), (Ch.row (Row.mk Bool.true Hq629 3 1 (x616).4 Ee631 [(fun (i672 : Nat) => (SC.int ((x616).5 i672)))])), (Ch.obj Bool.true (symRows Bool.true 3 (CD.mk ((x616).1).1 ((x616).1).2 ((x616).1).3 ((x616).1).4) soq654 scq655))] [7, 8, 9, 10] [(Ch.row (Row.mk Bool.true Oq656 52 2 ((x).1).1 Cq659 [(fun (i673 : Nat) => (SC.sl 3 (soq662 i673) (((x).1).2 i673) (scq663 i673))), (fun (i674 : Nat) => (SC.bool (((x).1).4 i674)))])), (Ch.row (Row.mk Bool.true Aq657 3 1 (x).2 Dq660 [(fun (i675 : Nat) => (SC.int ((x).3 i675)))])), (Ch.row (Row.mk Bool.true Hq658 3 1 (x).4 Ee661 [(fun (i676 : Nat) => (SC.int ((x).5 i676)))])), (Ch.obj Bool.true (symRows Bool.true 3 (x).1 soq662 scq663))])))))))))))))))))))))))))))))))))))))))))))))))))))))))))))))))))))))))))) ∧
 (∀ b677 : Nat,
 (True ∧
 ((b543 = b543 ∧
 ((A = A ∧
 (x).2 = (x).2) ∧
 ((∀ i678 : Nat,
 Bool.true = Bool.true) ∧
 (apC 0 (x).2 8)))) ∧
 (∀ ao679 : (Option Addr),
 (∀ cap680 : Nat,
 (True ∧
 ((b542 = b542 ∧
 ((H = H ∧
 (x).4 = (x).4) ∧
 ((∀ i681 : Nat,
 Bool.true = Bool.true) ∧
 (apC 0 (x).4 8)))) ∧
 (∀ ao682 : (Option Addr),
 (∀ cap683 : Nat,
 (True ∧
 (b677 = b677 ∧
 (True ∧
 (b0 = b0 ∧
 (Exists (fun (x684 : AD) => (Exists (fun (O685 : (Option Addr)) => (Exists (fun (A686 : (Option Addr)) => (Exists (fun (H687 : (Option Addr)) => (Exists (fun (C688 : Nat) => (Exists (fun (D689 : Nat) => (Exists (fun (E690 : Nat) => (Exists (fun (so691 : (Nat →
 (Option Addr))) => (Exists (fun (sc692 : (Nat →
 Nat)) => (Exists (fun (bp693 : Nat) => (Exists (fun (br694 : Nat) => (Exists (fun (bo695 : Nat) => (Exists (fun (Aq696 : (Option Addr)) => (Exists (fun (Hq697 : (Option Addr)) => (Exists (fun (Dq698 : Nat) => (Exists (fun (Ee699 : Nat) => (([(Value.agg (List.toArray [(Value.slice O ((x).1).1 C), (Value.slice A (x).2 D), (Value.slice H (x).4 E)])), (Value.pointer (Option.some (Addr.mk b0 0 (none : Option (Nat))))), (Value.pointer (Option.some (Addr.mk b1 0 (none : Option (Nat))))), (Value.pointer (Option.some (Addr.mk b677 0 (none : Option (Nat))))), (Value.tuple (List.toArray [])), (Value.tuple (List.toArray [])), (Value.slice (Option.some (Addr.mk b543 0 (none : Option (Nat)))) 0 0), (Value.pointer (Option.some (Addr.mk b0 1 (none : Option (Nat))))), (Value.slice A (x).2 D), (Value.slice ao679 (x).2 cap680), (Value.slice (Option.some (Addr.mk b542 0 (none : Option (Nat)))) 0 0), (Value.pointer (Option.some (Addr.mk b0 2 (none : Option (Nat))))), (Value.slice H (x).4 E), (Value.slice ao682 (x).4 cap683), (Value.agg (List.toArray [(Value.slice (none : Option (Addr)) 0 0), (Value.slice ao679 (x).2 cap680), (Value.slice ao682 (x).4 cap683)])), (Value.pointer (Option.some (Addr.mk b0 0 (none : Option (Nat))))), (Value.slice O ((x).1).1 C), (Value.int IntKind.i64 ((((x).1).1 : Nat) : Int)), (Value.int IntKind.i64 (0 : Int)), (Value.tuple (List.toArray [])), (Value.tuple (List.toArray [])), (Value.tuple (List.toArray [])), (Value.tuple (List.toArray [])), (Value.tuple (List.toArray [])), (Value.tuple (List.toArray [])), (Value.tuple (List.toArray [])), (Value.tuple (List.toArray [])), (Value.tuple (List.toArray [])), (Value.tuple (List.toArray [])), (Value.tuple (List.toArray [])), (Value.tuple (List.toArray []))] = [(Value.agg (List.toArray [(Value.slice O ((x).1).1 C), (Value.slice A (x).2 D), (Value.slice H (x).4 E)])), (Value.pointer (Option.some (Addr.mk bp693 0 (none : Option (Nat))))), (Value.pointer (Option.some (Addr.mk br694 0 (none : Option (Nat))))), (Value.pointer (Option.some (Addr.mk bo695 0 (none : Option (Nat))))), (Value.tuple (List.toArray [])), (Value.tuple (List.toArray [])), (Value.slice (Option.some (Addr.mk b543 0 (none : Option (Nat)))) 0 0), (Value.pointer (Option.some (Addr.mk b0 1 (none : Option (Nat))))), (Value.slice A (x).2 D), (Value.slice ao679 (x).2 cap680), (Value.slice (Option.some (Addr.mk b542 0 (none : Option (Nat)))) 0 0), (Value.pointer (Option.some (Addr.mk b0 2 (none : Option (Nat))))), (Value.slice H (x).4 E), (Value.slice ao682 (x).4 cap683), (Value.agg (List.toArray [(Value.slice (none : Option (Addr)) 0 0), (Value.slice ao679 (x).2 cap680), (Value.slice ao682 (x).4 cap683)])), (Value.pointer (Option.some (Addr.mk b0 0 (none : Option (Nat))))), (Value.slice O685 ((x684).1).1 C688), (Value.int IntKind.i64 ((((x684).1).1 : Nat) : Int)), (Value.int IntKind.i64 (0 : Int)), (Value.tuple (List.toArray [])), (Value.tuple (List.toArray [])), (Value.tuple (List.toArray [])), (Value.tuple (List.toArray [])), (Value.tuple (List.toArray [])), (Value.tuple (List.toArray [])), (Value.tuple (List.toArray [])), (Value.tuple (List.toArray [])), (Value.tuple (List.toArray [])), (Value.tuple (List.toArray [])), (Value.tuple (List.toArray [])), (Value.tuple (List.toArray []))] ∧
 ((SelS [(Ch.row (Row.mk Bool.false O 0 2 ((x).1).1 0 [(fun (i700 : Nat) => (SC.sl 3 (so i700) (((x).1).2 i700) (sc i700))), (fun (i701 : Nat) => (SC.bool (((x).1).4 i701)))])), (Ch.row (Row.mk Bool.false A 0 1 (x).2 0 [(fun (i702 : Nat) => (SC.int ((x).3 i702)))])), (Ch.row (Row.mk Bool.false H 0 1 (x).4 0 [(fun (i703 : Nat) => (SC.int ((x).5 i703)))])), (Ch.obj Bool.false (symRows Bool.false 0 (x).1 so (fun (x704 : Nat) => 0))), (Ch.cells b0 33 [(SC.sl 0 O ((x).1).1 C), (SC.sl 1 A (x).2 D), (SC.sl 2 H (x).4 E)]), (Ch.cells b1 33 [SC.nil, SC.nil, SC.nil]), Ch.dead, Ch.dead, (Ch.cells b677 33 [SC.nil, (SC.sl 9 ao679 (x).2 cap680), (SC.sl 10 ao682 (x).4 cap683)]), (Ch.row (Row.mk Bool.true ao679 3 1 (x).2 cap680 [(fun (i705 : Nat) => (SC.int ((x).3 i705)))])), (Ch.row (Row.mk Bool.true ao682 3 1 (x).4 cap683 [(fun (i706 : Nat) => (SC.int ((x).5 i706)))]))] [0, 1, 2, 3, 4, 5, 8, 1000000, 9, 10, 1000003] [(Ch.row (Row.mk Bool.false O685 0 2 ((x684).1).1 0 [(fun (i707 : Nat) => (SC.sl 3 (so691 i707) (((x684).1).2 i707) (sc692 i707))), (fun (i708 : Nat) => (SC.bool (((x684).1).4 i708)))])), (Ch.row (Row.mk Bool.false A686 0 1 (x684).2 0 [(fun (i709 : Nat) => (SC.int ((x684).3 i709)))])), (Ch.row (Row.mk Bool.false H687 0 1 (x684).4 0 [(fun (i710 : Nat) => (SC.int ((x684).5 i710)))])), (Ch.obj Bool.false (symRows Bool.false 0 (x684).1 so691 (fun (x711 : Nat) => 0))), (Ch.cells bp693 33 [(SC.sl 0 O685 ((x684).1).1 C688), (SC.sl 1 A686 (x684).2 D689), (SC.sl 2 H687 (x684).4 E690)]), (Ch.cells br694 33 [SC.nil, SC.nil, SC.nil]), (Ch.cells bo695 33 [(SC.sl 7 (none : Option (Addr)) 0 0), (SC.sl 8 Aq696 (x684).2 Dq698), (SC.sl 9 Hq697 (x684).4 Ee699)]), (Ch.row (Row.mk Bool.true (none : Option (Addr)) 52 2 0 0 [(fun (i712 : Nat) => (SC.sl 10 (none : Option (Addr)) (((x684).1).2 i712) 0)), (fun (i713 : Nat) => (SC.bool (((x684).1).4 i713)))])), (Ch.row (Row.mk Bool.true Aq696 3 1 (x684).2 Dq698 [(fun (i714 : Nat) => (SC.int ((x684).3 i714)))])), (Ch.row (Row.mk Bool.true Hq697 3 1 (x684).4 Ee699 [(fun (i715 : Nat) => (SC.int ((x684).5 i715)))])), (Ch.obj Bool.true (symRows Bool.true 3 (CD.mk 0 ((x684).1).2 ((x684).1).3 ((x684).1).4) (fun (x716 : Nat) => (none : Option (Addr))) (fun (x717 : Nat) => 0)))]) ∧
 (capA x684))) ∧
 (∀ g718 : (Nat →
 Value),
 (∀ kx719 : Int,
 (∀ Oq720 : (Option Addr),
 (∀ Cq721 : Nat,
 (∀ soq722 : (Nat →
 (Option Addr)),
 (∀ scq723 : (Nat →
 Nat),
 (bo695 = bo695 ∧
 (br694 = br694 ∧
 (br694 = br694 ∧
 (Exists (fun (Oq724 : (Option Addr)) => (Exists (fun (Aq725 : (Option Addr)) => (Exists (fun (Hq726 : (Option Addr)) => (Exists (fun (Cq727 : Nat) => (Exists (fun (Dq728 : Nat) => (Exists (fun (Ee729 : Nat) => (Exists (fun (soq730 : (Nat →
 (Option Addr))) => (Exists (fun (scq731 : (Nat →
 Nat)) => ((Value.agg (List.toArray [(Value.slice Oq720 ((x684).1).1 Cq721), (Value.slice Aq696 (x684).2 Dq698), (Value.slice Hq697 (x684).4 Ee699)])) = (Value.agg (List.toArray [(Value.slice Oq724 ((x).1).1 Cq727), (Value.slice Aq725 (x).2 Dq728), (Value.slice Hq726 (x).4 Ee729)])) ∧
 (SelS [(Ch.row (Row.mk Bool.false O685 0 2 ((x684).1).1 0 [(fun (i732 : Nat) => (SC.sl 3 (so691 i732) (((x684).1).2 i732) (sc692 i732))), (fun (i733 : Nat) => (SC.bool (((x684).1).4 i733)))])), (Ch.row (Row.mk Bool.false A686 0 1 (x684).2 0 [(fun (i734 : Nat) => (SC.int ((x684).3 i734)))])), (Ch.row (Row.mk Bool.false H687 0 1 (x684).4 0 [(fun (i735 : Nat) => (SC.int ((x684).5 i735)))])), (Ch.obj Bool.false (symRows Bool.false 0 (x684).1 so691 (fun (x736 : Nat) => 0))), (Ch.cells bp693 33 [(SC.sl 0 O685 ((x684).1).1 C688), (SC.sl 1 A686 (x684).2 D689), (SC.sl 2 H687 (x684).4 E690)]), (Ch.cells br694 33 [(SC.sl 7 Oq720 ((x684).1).1 Cq721), (SC.sl 8 Aq696 (x684).2 Dq698), (SC.sl 9 Hq697 (x684).4 Ee699)]), (Ch.cells bo695 33 [(SC.sl 7 Oq720 ((x684).1).1 Cq721), (SC.sl 8 Aq696 (x684).2 Dq698), (SC.sl 9 Hq697 (x684).4 Ee699)]), (Ch.row (Row.mk Bool.true Oq720 52 2 ((x684).1).1 Cq721 [(fun (i737 : Nat) => (SC.sl 10 (soq722 i737) (((x684).1).2 i737) (scq723 i737))), (fun (i738 : Nat) => (SC.bool (((x684).1).4 i738)))])), (Ch.row (Row.mk Bool.true Aq696 3 1 (x684).2 Dq698 [(fun (i739 : Nat) => (SC.int ((x684).3 i739)))])), (Ch.row (Row.mk Bool.true Hq697 3 1 (x684).4 Ee699 [(fun (i740 : Nat) => (SC.int ((x684).5 i740)))])), (Ch.obj Bool.true (symRows Bool.true 3 (CD.mk ((x684).1).1 ((x684).1).2 ((x684).1).3 ((x684).1).4) soq722 scq723))] [7, 8, 9, 10] [(Ch.row (Row.mk Bool.true Oq724 52 2 ((x).1).1 Cq727 [(fun (i741 : Nat) => (SC.sl 3 (soq730 i741) (((x).1).2 i741) (scq731 i741))), (fun (i742 : Nat) => (SC.bool (((x).1).4 i742)))])), (Ch.row (Row.mk Bool.true Aq725 3 1 (x).2 Dq728 [(fun (i743 : Nat) => (SC.int ((x).3 i743)))])), (Ch.row (Row.mk Bool.true Hq726 3 1 (x).4 Ee729 [(fun (i744 : Nat) => (SC.int ((x).5 i744)))])), (Ch.obj Bool.true (symRows Bool.true 3 (x).1 soq730 scq731))])))))))))))))))))))))))))))))))))))))))))))))))))))))))))))))))))))))))))))) ∧
 (∀ b745 : Nat,
 (True ∧
 (∀ b746 : Nat,
 (True ∧
 ((b746 = b746 ∧
 ((A = A ∧
 (x).2 = (x).2) ∧
 ((∀ i747 : Nat,
 Bool.true = Bool.true) ∧
 (apC 0 (x).2 8)))) ∧
 (∀ ao748 : (Option Addr),
 (∀ cap749 : Nat,
 (True ∧
 ((b542 = b542 ∧
 ((H = H ∧
 (x).4 = (x).4) ∧
 ((∀ i750 : Nat,
 Bool.true = Bool.true) ∧
 (apC 0 (x).4 8)))) ∧
 (∀ ao751 : (Option Addr),
 (∀ cap752 : Nat,
 (True ∧
 (b745 = b745 ∧
 (True ∧
 (b0 = b0 ∧
 (Exists (fun (x753 : AD) => (Exists (fun (O754 : (Option Addr)) => (Exists (fun (A755 : (Option Addr)) => (Exists (fun (H756 : (Option Addr)) => (Exists (fun (C757 : Nat) => (Exists (fun (D758 : Nat) => (Exists (fun (E759 : Nat) => (Exists (fun (so760 : (Nat →
 (Option Addr))) => (Exists (fun (sc761 : (Nat →
 Nat)) => (Exists (fun (bp762 : Nat) => (Exists (fun (br763 : Nat) => (Exists (fun (bo764 : Nat) => (Exists (fun (Aq765 : (Option Addr)) => (Exists (fun (Hq766 : (Option Addr)) => (Exists (fun (Dq767 : Nat) => (Exists (fun (Ee768 : Nat) => (([(Value.agg (List.toArray [(Value.slice O ((x).1).1 C), (Value.slice A (x).2 D), (Value.slice H (x).4 E)])), (Value.pointer (Option.some (Addr.mk b0 0 (none : Option (Nat))))), (Value.pointer (Option.some (Addr.mk b1 0 (none : Option (Nat))))), (Value.pointer (Option.some (Addr.mk b745 0 (none : Option (Nat))))), (Value.tuple (List.toArray [])), (Value.tuple (List.toArray [])), (Value.slice (Option.some (Addr.mk b746 0 (none : Option (Nat)))) 0 0), (Value.pointer (Option.some (Addr.mk b0 1 (none : Option (Nat))))), (Value.slice A (x).2 D), (Value.slice ao748 (x).2 cap749), (Value.slice (Option.some (Addr.mk b542 0 (none : Option (Nat)))) 0 0), (Value.pointer (Option.some (Addr.mk b0 2 (none : Option (Nat))))), (Value.slice H (x).4 E), (Value.slice ao751 (x).4 cap752), (Value.agg (List.toArray [(Value.slice (none : Option (Addr)) 0 0), (Value.slice ao748 (x).2 cap749), (Value.slice ao751 (x).4 cap752)])), (Value.pointer (Option.some (Addr.mk b0 0 (none : Option (Nat))))), (Value.slice O ((x).1).1 C), (Value.int IntKind.i64 ((((x).1).1 : Nat) : Int)), (Value.int IntKind.i64 (0 : Int)), (Value.tuple (List.toArray [])), (Value.tuple (List.toArray [])), (Value.tuple (List.toArray [])), (Value.tuple (List.toArray [])), (Value.tuple (List.toArray [])), (Value.tuple (List.toArray [])), (Value.tuple (List.toArray [])), (Value.tuple (List.toArray [])), (Value.tuple (List.toArray [])), (Value.tuple (List.toArray [])), (Value.tuple (List.toArray [])), (Value.tuple (List.toArray []))] = [(Value.agg (List.toArray [(Value.slice O ((x).1).1 C), (Value.slice A (x).2 D), (Value.slice H (x).4 E)])), (Value.pointer (Option.some (Addr.mk bp762 0 (none : Option (Nat))))), (Value.pointer (Option.some (Addr.mk br763 0 (none : Option (Nat))))), (Value.pointer (Option.some (Addr.mk bo764 0 (none : Option (Nat))))), (Value.tuple (List.toArray [])), (Value.tuple (List.toArray [])), (Value.slice (Option.some (Addr.mk b746 0 (none : Option (Nat)))) 0 0), (Value.pointer (Option.some (Addr.mk b0 1 (none : Option (Nat))))), (Value.slice A (x).2 D), (Value.slice ao748 (x).2 cap749), (Value.slice (Option.some (Addr.mk b542 0 (none : Option (Nat)))) 0 0), (Value.pointer (Option.some (Addr.mk b0 2 (none : Option (Nat))))), (Value.slice H (x).4 E), (Value.slice ao751 (x).4 cap752), (Value.agg (List.toArray [(Value.slice (none : Option (Addr)) 0 0), (Value.slice ao748 (x).2 cap749), (Value.slice ao751 (x).4 cap752)])), (Value.pointer (Option.some (Addr.mk b0 0 (none : Option (Nat))))), (Value.slice O754 ((x753).1).1 C757), (Value.int IntKind.i64 ((((x753).1).1 : Nat) : Int)), (Value.int IntKind.i64 (0 : Int)), (Value.tuple (List.toArray [])), (Value.tuple (List.toArray [])), (Value.tuple (List.toArray [])), (Value.tuple (List.toArray [])), (Value.tuple (List.toArray [])), (Value.tuple (List.toArray [])), (Value.tuple (List.toArray [])), (Value.tuple (List.toArray [])), (Value.tuple (List.toArray [])), (Value.tuple (List.toArray [])), (Value.tuple (List.toArray [])), (Value.tuple (List.toArray []))] ∧
 ((SelS [(Ch.row (Row.mk Bool.false O 0 2 ((x).1).1 0 [(fun (i769 : Nat) => (SC.sl 3 (so i769) (((x).1).2 i769) (sc i769))), (fun (i770 : Nat) => (SC.bool (((x).1).4 i770)))])), (Ch.row (Row.mk Bool.false A 0 1 (x).2 0 [(fun (i771 : Nat) => (SC.int ((x).3 i771)))])), (Ch.row (Row.mk Bool.false H 0 1 (x).4 0 [(fun (i772 : Nat) => (SC.int ((x).5 i772)))])), (Ch.obj Bool.false (symRows Bool.false 0 (x).1 so (fun (x773 : Nat) => 0))), (Ch.cells b0 33 [(SC.sl 0 O ((x).1).1 C), (SC.sl 1 A (x).2 D), (SC.sl 2 H (x).4 E)]), (Ch.cells b1 33 [SC.nil, SC.nil, SC.nil]), Ch.dead, (Ch.cells b745 33 [SC.nil, (SC.sl 9 ao748 (x).2 cap749), (SC.sl 10 ao751 (x).4 cap752)]), Ch.dead, (Ch.row (Row.mk Bool.true ao748 3 1 (x).2 cap749 [(fun (i774 : Nat) => (SC.int ((x).3 i774)))])), (Ch.row (Row.mk Bool.true ao751 3 1 (x).4 cap752 [(fun (i775 : Nat) => (SC.int ((x).5 i775)))]))] [0, 1, 2, 3, 4, 5, 7, 1000000, 9, 10, 1000003] [(Ch.row (Row.mk Bool.false O754 0 2 ((x753).1).1 0 [(fun (i776 : Nat) => (SC.sl 3 (so760 i776) (((x753).1).2 i776) (sc761 i776))), (fun (i777 : Nat) => (SC.bool (((x753).1).4 i777)))])), (Ch.row (Row.mk Bool.false A755 0 1 (x753).2 0 [(fun (i778 : Nat) => (SC.int ((x753).3 i778)))])), (Ch.row (Row.mk Bool.false H756 0 1 (x753).4 0 [(fun (i779 : Nat) => (SC.int ((x753).5 i779)))])), (Ch.obj Bool.false (symRows Bool.false 0 (x753).1 so760 (fun (x780 : Nat) => 0))), (Ch.cells bp762 33 [(SC.sl 0 O754 ((x753).1).1 C757), (SC.sl 1 A755 (x753).2 D758), (SC.sl 2 H756 (x753).4 E759)]), (Ch.cells br763 33 [SC.nil, SC.nil, SC.nil]), (Ch.cells bo764 33 [(SC.sl 7 (none : Option (Addr)) 0 0), (SC.sl 8 Aq765 (x753).2 Dq767), (SC.sl 9 Hq766 (x753).4 Ee768)]), (Ch.row (Row.mk Bool.true (none : Option (Addr)) 52 2 0 0 [(fun (i781 : Nat) => (SC.sl 10 (none : Option (Addr)) (((x753).1).2 i781) 0)), (fun (i782 : Nat) => (SC.bool (((x753).1).4 i782)))])), (Ch.row (Row.mk Bool.true Aq765 3 1 (x753).2 Dq767 [(fun (i783 : Nat) => (SC.int ((x753).3 i783)))])), (Ch.row (Row.mk Bool.true Hq766 3 1 (x753).4 Ee768 [(fun (i784 : Nat) => (SC.int ((x753).5 i784)))])), (Ch.obj Bool.true (symRows Bool.true 3 (CD.mk 0 ((x753).1).2 ((x753).1).3 ((x753).1).4) (fun (x785 : Nat) => (none : Option (Addr))) (fun (x786 : Nat) => 0)))]) ∧
 (capA x753))) ∧
 (∀ g787 : (Nat →
 Value),
 (∀ kx788 : Int,
 (∀ Oq789 : (Option Addr),
 (∀ Cq790 : Nat,
 (∀ soq791 : (Nat →
 (Option Addr)),
 (∀ scq792 : (Nat →
 Nat),
 (bo764 = bo764 ∧
 (br763 = br763 ∧
 (br763 = br763 ∧
 (Exists (fun (Oq793 : (Option Addr)) => (Exists (fun (Aq794 : (Option Addr)) => (Exists (fun (Hq795 : (Option Addr)) => (Exists (fun (Cq796 : Nat) => (Exists (fun (Dq797 : Nat) => (Exists (fun (Ee798 : Nat) => (Exists (fun (soq799 : (Nat →
 (Option Addr))) => (Exists (fun (scq800 : (Nat →
 Nat)) => ((Value.agg (List.toArray [(Value.slice Oq789 ((x753).1).1 Cq790), (Value.slice Aq765 (x753).2 Dq767), (Value.slice Hq766 (x753).4 Ee768)])) = (Value.agg (List.toArray [(Value.slice Oq793 ((x).1).1 Cq796), (Value.slice Aq794 (x).2 Dq797), (Value.slice Hq795 (x).4 Ee798)])) ∧
 (SelS [(Ch.row (Row.mk Bool.false O754 0 2 ((x753).1).1 0 [(fun (i801 : Nat) => (SC.sl 3 (so760 i801) (((x753).1).2 i801) (sc761 i801))), (fun (i802 : Nat) => (SC.bool (((x753).1).4 i802)))])), (Ch.row (Row.mk Bool.false A755 0 1 (x753).2 0 [(fun (i803 : Nat) => (SC.int ((x753).3 i803)))])), (Ch.row (Row.mk Bool.false H756 0 1 (x753).4 0 [(fun (i804 : Nat) => (SC.int ((x753).5 i804)))])), (Ch.obj Bool.false (symRows Bool.false 0 (x753).1 so760 (fun (x805 : Nat) => 0))), (Ch.cells bp762 33 [(SC.sl 0 O754 ((x753).1).1 C757), (SC.sl 1 A755 (x753).2 D758), (SC.sl 2 H756 (x753).4 E759)]), (Ch.cells br763 33 [(SC.sl 7 Oq789 ((x753).1).1 Cq790), (SC.sl 8 Aq765 (x753).2 Dq767), (SC.sl 9 Hq766 (x753).4 Ee768)]), (Ch.cells bo764 33 [(SC.sl 7 Oq789 ((x753).1).1 Cq790), (SC.sl 8 Aq765 (x753).2 Dq767), (SC.sl 9 Hq766 (x753).4 Ee768)]), (Ch.row (Row.mk Bool.true Oq789 52 2 ((x753).1).1 Cq790 [(fun (i806 : Nat) => (SC.sl 10 (soq791 i806) (((x753).1).2 i806) (scq792 i806))), (fun (i807 : Nat) => (SC.bool (((x753).1).4 i807)))])), (Ch.row (Row.mk Bool.true Aq765 3 1 (x753).2 Dq767 [(fun (i808 : Nat) => (SC.int ((x753).3 i808)))])), (Ch.row (Row.mk Bool.true Hq766 3 1 (x753).4 Ee768 [(fun (i809 : Nat) => (SC.int ((x753).5 i809)))])), (Ch.obj Bool.true (symRows Bool.true 3 (CD.mk ((x753).1).1 ((x753).1).2 ((x753).1).3 ((x753).1).4) soq791 scq792))] [7, 8, 9, 10] [(Ch.row (Row.mk Bool.true Oq793 52 2 ((x).1).1 Cq796 [(fun (i810 : Nat) => (SC.sl 3 (soq799 i810) (((x).1).2 i810) (scq800 i810))), (fun (i811 : Nat) => (SC.bool (((x).1).4 i811)))])), (Ch.row (Row.mk Bool.true Aq794 3 1 (x).2 Dq797 [(fun (i812 : Nat) => (SC.int ((x).3 i812)))])), (Ch.row (Row.mk Bool.true Hq795 3 1 (x).4 Ee798 [(fun (i813 : Nat) => (SC.int ((x).5 i813)))])), (Ch.obj Bool.true (symRows Bool.true 3 (x).1 soq799 scq800))])))))))))))))))))))))))))))))))))))))))))))))))))))))))))))))))))))))))))))))) ∧
 (∀ b814 : Nat,
 (True ∧
 ((∀ b815 : Nat,
 (True ∧
 (((b815 = b815 ∧
 ((A = A ∧
 (x).2 = (x).2) ∧
 ((∀ i816 : Nat,
 Bool.true = Bool.true) ∧
 (apC 0 (x).2 8)))) ∧
 (∀ ao817 : (Option Addr),
 (∀ cap818 : Nat,
 (True ∧
 (∀ b819 : Nat,
 (True ∧
 ((b819 = b819 ∧
 ((H = H ∧
 (x).4 = (x).4) ∧
 ((∀ i820 : Nat,
 Bool.true = Bool.true) ∧
 (apC 0 (x).4 8)))) ∧
 (∀ ao821 : (Option Addr),
 (∀ cap822 : Nat,
 (True ∧
 (b814 = b814 ∧
 (True ∧
 (b0 = b0 ∧
 (Exists (fun (x823 : AD) => (Exists (fun (O824 : (Option Addr)) => (Exists (fun (A825 : (Option Addr)) => (Exists (fun (H826 : (Option Addr)) => (Exists (fun (C827 : Nat) => (Exists (fun (D828 : Nat) => (Exists (fun (E829 : Nat) => (Exists (fun (so830 : (Nat →
 (Option Addr))) => (Exists (fun (sc831 : (Nat →
 Nat)) => (Exists (fun (bp832 : Nat) => (Exists (fun (br833 : Nat) => (Exists (fun (bo834 : Nat) => (Exists (fun (Aq835 : (Option Addr)) => (Exists (fun (Hq836 : (Option Addr)) => (Exists (fun (Dq837 : Nat) => (Exists (fun (Ee838 : Nat) => (([(Value.agg (List.toArray [(Value.slice O ((x).1).1 C), (Value.slice A (x).2 D), (Value.slice H (x).4 E)])), (Value.pointer (Option.some (Addr.mk b0 0 (none : Option (Nat))))), (Value.pointer (Option.some (Addr.mk b1 0 (none : Option (Nat))))), (Value.pointer (Option.some (Addr.mk b814 0 (none : Option (Nat))))), (Value.tuple (List.toArray [])), (Value.tuple (List.toArray [])), (Value.slice (Option.some (Addr.mk b815 0 (none : Option (Nat)))) 0 0), (Value.pointer (Option.some (Addr.mk b0 1 (none : Option (Nat))))), (Value.slice A (x).2 D), (Value.slice ao817 (x).2 cap818), (Value.slice (Option.some (Addr.mk b819 0 (none : Option (Nat)))) 0 0), (Value.pointer (Option.some (Addr.mk b0 2 (none : Option (Nat))))), (Value.slice H (x).4 E), (Value.slice ao821 (x).4 cap822), (Value.agg (List.toArray [(Value.slice (none : Option (Addr)) 0 0), (Value.slice ao817 (x).2 cap818), (Value.slice ao821 (x).4 cap822)])), (Value.pointer (Option.some (Addr.mk b0 0 (none : Option (Nat))))), (Value.slice O ((x).1).1 C), (Value.int IntKind.i64 ((((x).1).1 : Nat) : Int)), (Value.int IntKind.i64 (0 : Int)), (Value.tuple (List.toArray [])), (Value.tuple (List.toArray [])), (Value.tuple (List.toArray [])), (Value.tuple (List.toArray [])), (Value.tuple (List.toArray [])), (Value.tuple (List.toArray [])), (Value.tuple (List.toArray [])), (Value.tuple (List.toArray [])), (Value.tuple (List.toArray [])), (Value.tuple (List.toArray [])), (Value.tuple (List.toArray [])), (Value.tuple (List.toArray []))] = [(Value.agg (List.toArray [(Value.slice O ((x).1).1 C), (Value.slice A (x).2 D), (Value.slice H (x).4 E)])), (Value.pointer (Option.some (Addr.mk bp832 0 (none : Option (Nat))))), (Value.pointer (Option.some (Addr.mk br833 0 (none : Option (Nat))))), (Value.pointer (Option.some (Addr.mk bo834 0 (none : Option (Nat))))), (Value.tuple (List.toArray [])), (Value.tuple (List.toArray [])), (Value.slice (Option.some (Addr.mk b815 0 (none : Option (Nat)))) 0 0), (Value.pointer (Option.some (Addr.mk b0 1 (none : Option (Nat))))), (Value.slice A (x).2 D), (Value.slice ao817 (x).2 cap818), (Value.slice (Option.some (Addr.mk b819 0 (none : Option (Nat)))) 0 0), (Value.pointer (Option.some (Addr.mk b0 2 (none : Option (Nat))))), (Value.slice H (x).4 E), (Value.slice ao821 (x).4 cap822), (Value.agg (List.toArray [(Value.slice (none : Option (Addr)) 0 0), (Value.slice ao817 (x).2 cap818), (Value.slice ao821 (x).4 cap822)])), (Value.pointer (Option.some (Addr.mk b0 0 (none : Option (Nat))))), (Value.slice O824 ((x823).1).1 C827), (Value.int IntKind.i64 ((((x823).1).1 : Nat) : Int)), (Value.int IntKind.i64 (0 : Int)), (Value.tuple (List.toArray [])), (Value.tuple (List.toArray [])), (Value.tuple (List.toArray [])), (Value.tuple (List.toArray [])), (Value.tuple (List.toArray [])), (Value.tuple (List.toArray [])), (Value.tuple (List.toArray [])), (Value.tuple (List.toArray [])), (Value.tuple (List.toArray [])), (Value.tuple (List.toArray [])), (Value.tuple (List.toArray [])), (Value.tuple (List.toArray []))] ∧
 ((SelS [(Ch.row (Row.mk Bool.false O 0 2 ((x).1).1 0 [(fun (i839 : Nat) => (SC.sl 3 (so i839) (((x).1).2 i839) (sc i839))), (fun (i840 : Nat) => (SC.bool (((x).1).4 i840)))])), (Ch.row (Row.mk Bool.false A 0 1 (x).2 0 [(fun (i841 : Nat) => (SC.int ((x).3 i841)))])), (Ch.row (Row.mk Bool.false H 0 1 (x).4 0 [(fun (i842 : Nat) => (SC.int ((x).5 i842)))])), (Ch.obj Bool.false (symRows Bool.false 0 (x).1 so (fun (x843 : Nat) => 0))), (Ch.cells b0 33 [(SC.sl 0 O ((x).1).1 C), (SC.sl 1 A (x).2 D), (SC.sl 2 H (x).4 E)]), (Ch.cells b1 33 [SC.nil, SC.nil, SC.nil]), (Ch.cells b814 33 [SC.nil, (SC.sl 8 ao817 (x).2 cap818), (SC.sl 10 ao821 (x).4 cap822)]), Ch.dead, (Ch.row (Row.mk Bool.true ao817 3 1 (x).2 cap818 [(fun (i844 : Nat) => (SC.int ((x).3 i844)))])), Ch.dead, (Ch.row (Row.mk Bool.true ao821 3 1 (x).4 cap822 [(fun (i845 : Nat) => (SC.int ((x).5 i845)))]))] [0, 1, 2, 3, 4, 5, 6, 1000000, 8, 10, 1000003] [(Ch.row (Row.mk Bool.false O824 0 2 ((x823).1).1 0 [(fun (i846 : Nat) => (SC.sl 3 (so830 i846) (((x823).1).2 i846) (sc831 i846))), (fun (i847 : Nat) => (SC.bool (((x823).1).4 i847)))])), (Ch.row (Row.mk Bool.false A825 0 1 (x823).2 0 [(fun (i848 : Nat) => (SC.int ((x823).3 i848)))])), (Ch.row (Row.mk Bool.false H826 0 1 (x823).4 0 [(fun (i849 : Nat) => (SC.int ((x823).5 i849)))])), (Ch.obj Bool.false (symRows Bool.false 0 (x823).1 so830 (fun (x850 : Nat) => 0))), (Ch.cells bp832 33 [(SC.sl 0 O824 ((x823).1).1 C827), (SC.sl 1 A825 (x823).2 D828), (SC.sl 2 H826 (x823).4 E829)]), (Ch.cells br833 33 [SC.nil, SC.nil, SC.nil]), (Ch.cells bo834 33 [(SC.sl 7 (none : Option (Addr)) 0 0), (SC.sl 8 Aq835 (x823).2 Dq837), (SC.sl 9 Hq836 (x823).4 Ee838)]), (Ch.row (Row.mk Bool.true (none : Option (Addr)) 52 2 0 0 [(fun (i851 : Nat) => (SC.sl 10 (none : Option (Addr)) (((x823).1).2 i851) 0)), (fun (i852 : Nat) => (SC.bool (((x823).1).4 i852)))])), (Ch.row (Row.mk Bool.true Aq835 3 1 (x823).2 Dq837 [(fun (i853 : Nat) => (SC.int ((x823).3 i853)))])), (Ch.row (Row.mk Bool.true Hq836 3 1 (x823).4 Ee838 [(fun (i854 : Nat) => (SC.int ((x823).5 i854)))])), (Ch.obj Bool.true (symRows Bool.true 3 (CD.mk 0 ((x823).1).2 ((x823).1).3 ((x823).1).4) (fun (x855 : Nat) => (none : Option (Addr))) (fun (x856 : Nat) => 0)))]) ∧
 (capA x823))) ∧
 (∀ g857 : (Nat →
 Value),
 (∀ kx858 : Int,
 (∀ Oq859 : (Option Addr),
 (∀ Cq860 : Nat,
 (∀ soq861 : (Nat →
 (Option Addr)),
 (∀ scq862 : (Nat →
 Nat),
 (bo834 = bo834 ∧
 (br833 = br833 ∧
 (br833 = br833 ∧
 (Exists (fun (Oq863 : (Option Addr)) => (Exists (fun (Aq864 : (Option Addr)) => (Exists (fun (Hq865 : (Option Addr)) => (Exists (fun (Cq866 : Nat) => (Exists (fun (Dq867 : Nat) => (Exists (fun (Ee868 : Nat) => (Exists (fun (soq869 : (Nat →
 (Option Addr))) => (Exists (fun (scq870 : (Nat →
 Nat)) => ((Value.agg (List.toArray [(Value.slice Oq859 ((x823).1).1 Cq860), (Value.slice Aq835 (x823).2 Dq837), (Value.slice Hq836 (x823).4 Ee838)])) = (Value.agg (List.toArray [(Value.slice Oq863 ((x).1).1 Cq866), (Value.slice Aq864 (x).2 Dq867), (Value.slice Hq865 (x).4 Ee868)])) ∧
 (SelS [(Ch.row (Row.mk Bool.false O824 0 2 ((x823).1).1 0 [(fun (i871 : Nat) => (SC.sl 3 (so830 i871) (((x823).1).2 i871) (sc831 i871))), (fun (i872 : Nat) => (SC.bool (((x823).1).4 i872)))])), (Ch.row (Row.mk Bool.false A825 0 1 (x823).2 0 [(fun (i873 : Nat) => (SC.int ((x823).3 i873)))])), (Ch.row (Row.mk Bool.false H826 0 1 (x823).4 0 [(fun (i874 : Nat) => (SC.int ((x823).5 i874)))])), (Ch.obj Bool.false (symRows Bool.false 0 (x823).1 so830 (fun (x875 : Nat) => 0))), (Ch.cells bp832 33 [(SC.sl 0 O824 ((x823).1).1 C827), (SC.sl 1 A825 (x823).2 D828), (SC.sl 2 H826 (x823).4 E829)]), (Ch.cells br833 33 [(SC.sl 7 Oq859 ((x823).1).1 Cq860), (SC.sl 8 Aq835 (x823).2 Dq837), (SC.sl 9 Hq836 (x823).4 Ee838)]), (Ch.cells bo834 33 [(SC.sl 7 Oq859 ((x823).1).1 Cq860), (SC.sl 8 Aq835 (x823).2 Dq837), (SC.sl 9 Hq836 (x823).4 Ee838)]), (Ch.row (Row.mk Bool.true Oq859 52 2 ((x823).1).1 Cq860 [(fun (i876 : Nat) => (SC.sl 10 (soq861 i876) (((x823).1).2 i876) (scq862 i876))), (fun (i877 : Nat) => (SC.bool (((x823).1).4 i877)))])), (Ch.row (Row.mk Bool.true Aq835 3 1 (x823).2 Dq837 [(fun (i878 : Nat) => (SC.int ((x823).3 i878)))])), (Ch.row (Row.mk Bool.true Hq836 3 1 (x823).4 Ee838 [(fun (i879 : Nat) => (SC.int ((x823).5 i879)))])), (Ch.obj Bool.true (symRows Bool.true 3 (CD.mk ((x823).1).1 ((x823).1).2 ((x823).1).3 ((x823).1).4) soq861 scq862))] [7, 8, 9, 10] [(Ch.row (Row.mk Bool.true Oq863 52 2 ((x).1).1 Cq866 [(fun (i880 : Nat) => (SC.sl 3 (soq869 i880) (((x).1).2 i880) (scq870 i880))), (fun (i881 : Nat) => (SC.bool (((x).1).4 i881)))])), (Ch.row (Row.mk Bool.true Aq864 3 1 (x).2 Dq867 [(fun (i882 : Nat) => (SC.int ((x).3 i882)))])), (Ch.row (Row.mk Bool.true Hq865 3 1 (x).4 Ee868 [(fun (i883 : Nat) => (SC.int ((x).5 i883)))])), (Ch.obj Bool.true (symRows Bool.true 3 (x).1 soq869 scq870))]))))))))))))))))))))))))))))))))))))))))))))))))))))))))))))))))))))))))) ∧
 (∀ b884 : Nat,
 (True ∧
 ((b815 = b815 ∧
 ((A = A ∧
 (x).2 = (x).2) ∧
 ((∀ i885 : Nat,
 Bool.true = Bool.true) ∧
 (apC 0 (x).2 8)))) ∧
 (∀ ao886 : (Option Addr),
 (∀ cap887 : Nat,
 (True ∧
 ((b884 = b884 ∧
 ((H = H ∧
 (x).4 = (x).4) ∧
 ((∀ i888 : Nat,
 Bool.true = Bool.true) ∧
 (apC 0 (x).4 8)))) ∧
 (∀ ao889 : (Option Addr),
 (∀ cap890 : Nat,
 (True ∧
 (b814 = b814 ∧
 (True ∧
 (b0 = b0 ∧
 (Exists (fun (x891 : AD) => (Exists (fun (O892 : (Option Addr)) => (Exists (fun (A893 : (Option Addr)) => (Exists (fun (H894 : (Option Addr)) => (Exists (fun (C895 : Nat) => (Exists (fun (D896 : Nat) => (Exists (fun (E897 : Nat) => (Exists (fun (so898 : (Nat →
 (Option Addr))) => (Exists (fun (sc899 : (Nat →
 Nat)) => (Exists (fun (bp900 : Nat) => (Exists (fun (br901 : Nat) => (Exists (fun (bo902 : Nat) => (Exists (fun (Aq903 : (Option Addr)) => (Exists (fun (Hq904 : (Option Addr)) => (Exists (fun (Dq905 : Nat) => (Exists (fun (Ee906 : Nat) => (([(Value.agg (List.toArray [(Value.slice O ((x).1).1 C), (Value.slice A (x).2 D), (Value.slice H (x).4 E)])), (Value.pointer (Option.some (Addr.mk b0 0 (none : Option (Nat))))), (Value.pointer (Option.some (Addr.mk b1 0 (none : Option (Nat))))), (Value.pointer (Option.some (Addr.mk b814 0 (none : Option (Nat))))), (Value.tuple (List.toArray [])), (Value.tuple (List.toArray [])), (Value.slice (Option.some (Addr.mk b815 0 (none : Option (Nat)))) 0 0), (Value.pointer (Option.some (Addr.mk b0 1 (none : Option (Nat))))), (Value.slice A (x).2 D), (Value.slice ao886 (x).2 cap887), (Value.slice (Option.some (Addr.mk b884 0 (none : Option (Nat)))) 0 0), (Value.pointer (Option.some (Addr.mk b0 2 (none : Option (Nat))))), (Value.slice H (x).4 E), (Value.slice ao889 (x).4 cap890), (Value.agg (List.toArray [(Value.slice (none : Option (Addr)) 0 0), (Value.slice ao886 (x).2 cap887), (Value.slice ao889 (x).4 cap890)])), (Value.pointer (Option.some (Addr.mk b0 0 (none : Option (Nat))))), (Value.slice O ((x).1).1 C), (Value.int IntKind.i64 ((((x).1).1 : Nat) : Int)), (Value.int IntKind.i64 (0 : Int)), (Value.tuple (List.toArray [])), (Value.tuple (List.toArray [])), (Value.tuple (List.toArray [])), (Value.tuple (List.toArray [])), (Value.tuple (List.toArray [])), (Value.tuple (List.toArray [])), (Value.tuple (List.toArray [])), (Value.tuple (List.toArray [])), (Value.tuple (List.toArray [])), (Value.tuple (List.toArray [])), (Value.tuple (List.toArray [])), (Value.tuple (List.toArray []))] = [(Value.agg (List.toArray [(Value.slice O ((x).1).1 C), (Value.slice A (x).2 D), (Value.slice H (x).4 E)])), (Value.pointer (Option.some (Addr.mk bp900 0 (none : Option (Nat))))), (Value.pointer (Option.some (Addr.mk br901 0 (none : Option (Nat))))), (Value.pointer (Option.some (Addr.mk bo902 0 (none : Option (Nat))))), (Value.tuple (List.toArray [])), (Value.tuple (List.toArray [])), (Value.slice (Option.some (Addr.mk b815 0 (none : Option (Nat)))) 0 0), (Value.pointer (Option.some (Addr.mk b0 1 (none : Option (Nat))))), (Value.slice A (x).2 D), (Value.slice ao886 (x).2 cap887), (Value.slice (Option.some (Addr.mk b884 0 (none : Option (Nat)))) 0 0), (Value.pointer (Option.some (Addr.mk b0 2 (none : Option (Nat))))), (Value.slice H (x).4 E), (Value.slice ao889 (x).4 cap890), (Value.agg (List.toArray [(Value.slice (none : Option (Addr)) 0 0), (Value.slice ao886 (x).2 cap887), (Value.slice ao889 (x).4 cap890)])), (Value.pointer (Option.some (Addr.mk b0 0 (none : Option (Nat))))), (Value.slice O892 ((x891).1).1 C895), (Value.int IntKind.i64 ((((x891).1).1 : Nat) : Int)), (Value.int IntKind.i64 (0 : Int)), (Value.tuple (List.toArray [])), (Value.tuple (List.toArray [])), (Value.tuple (List.toArray [])), (Value.tuple (List.toArray [])), (Value.tuple (List.toArray [])), (Value.tuple (List.toArray [])), (Value.tuple (List.toArray [])), (Value.tuple (List.toArray [])), (Value.tuple (List.toArray [])), (Value.tuple (List.toArray [])), (Value.tuple (List.toArray [])), (Value.tuple (List.toArray []))] ∧
 ((SelS [(Ch.row (Row.mk Bool.false O 0 2 ((x).1).1 0 [(fun (i907 : Nat) => (SC.sl 3 (so i907) (((x).1).2 i907) (sc i907))), (fun (i908 : Nat) => (SC.bool (((x).1).4 i908)))])), (Ch.row (Row.mk Bool.false A 0 1 (x).2 0 [(fun (i909 : Nat) => (SC.int ((x).3 i909)))])), (Ch.row (Row.mk Bool.false H 0 1 (x).4 0 [(fun (i910 : Nat) => (SC.int ((x).5 i910)))])), (Ch.obj Bool.false (symRows Bool.false 0 (x).1 so (fun (x911 : Nat) => 0))), (Ch.cells b0 33 [(SC.sl 0 O ((x).1).1 C), (SC.sl 1 A (x).2 D), (SC.sl 2 H (x).4 E)]), (Ch.cells b1 33 [SC.nil, SC.nil, SC.nil]), (Ch.cells b814 33 [SC.nil, (SC.sl 9 ao886 (x).2 cap887), (SC.sl 10 ao889 (x).4 cap890)]), Ch.dead, Ch.dead, (Ch.row (Row.mk Bool.true ao886 3 1 (x).2 cap887 [(fun (i912 : Nat) => (SC.int ((x).3 i912)))])), (Ch.row (Row.mk Bool.true ao889 3 1 (x).4 cap890 [(fun (i913 : Nat) => (SC.int ((x).5 i913)))]))] [0, 1, 2, 3, 4, 5, 6, 1000000, 9, 10, 1000003] [(Ch.row (Row.mk Bool.false O892 0 2 ((x891).1).1 0 [(fun (i914 : Nat) => (SC.sl 3 (so898 i914) (((x891).1).2 i914) (sc899 i914))), (fun (i915 : Nat) => (SC.bool (((x891).1).4 i915)))])), (Ch.row (Row.mk Bool.false A893 0 1 (x891).2 0 [(fun (i916 : Nat) => (SC.int ((x891).3 i916)))])), (Ch.row (Row.mk Bool.false H894 0 1 (x891).4 0 [(fun (i917 : Nat) => (SC.int ((x891).5 i917)))])), (Ch.obj Bool.false (symRows Bool.false 0 (x891).1 so898 (fun (x918 : Nat) => 0))), (Ch.cells bp900 33 [(SC.sl 0 O892 ((x891).1).1 C895), (SC.sl 1 A893 (x891).2 D896), (SC.sl 2 H894 (x891).4 E897)]), (Ch.cells br901 33 [SC.nil, SC.nil, SC.nil]), (Ch.cells bo902 33 [(SC.sl 7 (none : Option (Addr)) 0 0), (SC.sl 8 Aq903 (x891).2 Dq905), (SC.sl 9 Hq904 (x891).4 Ee906)]), (Ch.row (Row.mk Bool.true (none : Option (Addr)) 52 2 0 0 [(fun (i919 : Nat) => (SC.sl 10 (none : Option (Addr)) (((x891).1).2 i919) 0)), (fun (i920 : Nat) => (SC.bool (((x891).1).4 i920)))])), (Ch.row (Row.mk Bool.true Aq903 3 1 (x891).2 Dq905 [(fun (i921 : Nat) => (SC.int ((x891).3 i921)))])), (Ch.row (Row.mk Bool.true Hq904 3 1 (x891).4 Ee906 [(fun (i922 : Nat) => (SC.int ((x891).5 i922)))])), (Ch.obj Bool.true (symRows Bool.true 3 (CD.mk 0 ((x891).1).2 ((x891).1).3 ((x891).1).4) (fun (x923 : Nat) => (none : Option (Addr))) (fun (x924 : Nat) => 0)))]) ∧
 (capA x891))) ∧
 (∀ g925 : (Nat →
 Value),
 (∀ kx926 : Int,
 (∀ Oq927 : (Option Addr),
 (∀ Cq928 : Nat,
 (∀ soq929 : (Nat →
 (Option Addr)),
 (∀ scq930 : (Nat →
 Nat),
 (bo902 = bo902 ∧
 (br901 = br901 ∧
 (br901 = br901 ∧
 (Exists (fun (Oq931 : (Option Addr)) => (Exists (fun (Aq932 : (Option Addr)) => (Exists (fun (Hq933 : (Option Addr)) => (Exists (fun (Cq934 : Nat) => (Exists (fun (Dq935 : Nat) => (Exists (fun (Ee936 : Nat) => (Exists (fun (soq937 : (Nat →
 (Option Addr))) => (Exists (fun (scq938 : (Nat →
 Nat)) => ((Value.agg (List.toArray [(Value.slice Oq927 ((x891).1).1 Cq928), (Value.slice Aq903 (x891).2 Dq905), (Value.slice Hq904 (x891).4 Ee906)])) = (Value.agg (List.toArray [(Value.slice Oq931 ((x).1).1 Cq934), (Value.slice Aq932 (x).2 Dq935), (Value.slice Hq933 (x).4 Ee936)])) ∧
 (SelS [(Ch.row (Row.mk Bool.false O892 0 2 ((x891).1).1 0 [(fun (i939 : Nat) => (SC.sl 3 (so898 i939) (((x891).1).2 i939) (sc899 i939))), (fun (i940 : Nat) => (SC.bool (((x891).1).4 i940)))])), (Ch.row (Row.mk Bool.false A893 0 1 (x891).2 0 [(fun (i941 : Nat) => (SC.int ((x891).3 i941)))])), (Ch.row (Row.mk Bool.false H894 0 1 (x891).4 0 [(fun (i942 : Nat) => (SC.int ((x891).5 i942)))])), (Ch.obj Bool.false (symRows Bool.false 0 (x891).1 so898 (fun (x943 : Nat) => 0))), (Ch.cells bp900 33 [(SC.sl 0 O892 ((x891).1).1 C895), (SC.sl 1 A893 (x891).2 D896), (SC.sl 2 H894 (x891).4 E897)]), (Ch.cells br901 33 [(SC.sl 7 Oq927 ((x891).1).1 Cq928), (SC.sl 8 Aq903 (x891).2 Dq905), (SC.sl 9 Hq904 (x891).4 Ee906)]), (Ch.cells bo902 33 [(SC.sl 7 Oq927 ((x891).1).1 Cq928), (SC.sl 8 Aq903 (x891).2 Dq905), (SC.sl 9 Hq904 (x891).4 Ee906)]), (Ch.row (Row.mk Bool.true Oq927 52 2 ((x891).1).1 Cq928 [(fun (i944 : Nat) => (SC.sl 10 (soq929 i944) (((x891).1).2 i944) (scq930 i944))), (fun (i945 : Nat) => (SC.bool (((x891).1).4 i945)))])), (Ch.row (Row.mk Bool.true Aq903 3 1 (x891).2 Dq905 [(fun (i946 : Nat) => (SC.int ((x891).3 i946)))])), (Ch.row (Row.mk Bool.true Hq904 3 1 (x891).4 Ee906 [(fun (i947 : Nat) => (SC.int ((x891).5 i947)))])), (Ch.obj Bool.true (symRows Bool.true 3 (CD.mk ((x891).1).1 ((x891).1).2 ((x891).1).3 ((x891).1).4) soq929 scq930))] [7, 8, 9, 10] [(Ch.row (Row.mk Bool.true Oq931 52 2 ((x).1).1 Cq934 [(fun (i948 : Nat) => (SC.sl 3 (soq937 i948) (((x).1).2 i948) (scq938 i948))), (fun (i949 : Nat) => (SC.bool (((x).1).4 i949)))])), (Ch.row (Row.mk Bool.true Aq932 3 1 (x).2 Dq935 [(fun (i950 : Nat) => (SC.int ((x).3 i950)))])), (Ch.row (Row.mk Bool.true Hq933 3 1 (x).4 Ee936 [(fun (i951 : Nat) => (SC.int ((x).5 i951)))])), (Ch.obj Bool.true (symRows Bool.true 3 (x).1 soq937 scq938))])))))))))))))))))))))))))))))))))))))))))))))))))))))))))))))))))))))))))))) ∧
 (∀ b952 : Nat,
 (True ∧
 (∀ b953 : Nat,
 (True ∧
 ((b953 = b953 ∧
 ((A = A ∧
 (x).2 = (x).2) ∧
 ((∀ i954 : Nat,
 Bool.true = Bool.true) ∧
 (apC 0 (x).2 8)))) ∧
 (∀ ao955 : (Option Addr),
 (∀ cap956 : Nat,
 (True ∧
 ((b952 = b952 ∧
 ((H = H ∧
 (x).4 = (x).4) ∧
 ((∀ i957 : Nat,
 Bool.true = Bool.true) ∧
 (apC 0 (x).4 8)))) ∧
 (∀ ao958 : (Option Addr),
 (∀ cap959 : Nat,
 (True ∧
 (b814 = b814 ∧
 (True ∧
 (b0 = b0 ∧
 (Exists (fun (x960 : AD) => (Exists (fun (O961 : (Option Addr)) => (Exists (fun (A962 : (Option Addr)) => (Exists (fun (H963 : (Option Addr)) => (Exists (fun (C964 : Nat) => (Exists (fun (D965 : Nat) => (Exists (fun (E966 : Nat) => (Exists (fun (so967 : (Nat →
 (Option Addr))) => (Exists (fun (sc968 : (Nat →
 Nat)) => (Exists (fun (bp969 : Nat) => (Exists (fun (br970 : Nat) => (Exists (fun (bo971 : Nat) => (Exists (fun (Aq972 : (Option Addr)) => (Exists (fun (Hq973 : (Option Addr)) => (Exists (fun (Dq974 : Nat) => (Exists (fun (Ee975 : Nat) => (([(Value.agg (List.toArray [(Value.slice O ((x).1).1 C), (Value.slice A (x).2 D), (Value.slice H (x).4 E)])), (Value.pointer (Option.some (Addr.mk b0 0 (none : Option (Nat))))), (Value.pointer (Option.some (Addr.mk b1 0 (none : Option (Nat))))), (Value.pointer (Option.some (Addr.mk b814 0 (none : Option (Nat))))), (Value.tuple (List.toArray [])), (Value.tuple (List.toArray [])), (Value.slice (Option.some (Addr.mk b953 0 (none : Option (Nat)))) 0 0), (Value.pointer (Option.some (Addr.mk b0 1 (none : Option (Nat))))), (Value.slice A (x).2 D), (Value.slice ao955 (x).2 cap956), (Value.slice (Option.some (Addr.mk b952 0 (none : Option (Nat)))) 0 0), (Value.pointer (Option.some (Addr.mk b0 2 (none : Option (Nat))))), (Value.slice H (x).4 E), (Value.slice ao958 (x).4 cap959), (Value.agg (List.toArray [(Value.slice (none : Option (Addr)) 0 0), (Value.slice ao955 (x).2 cap956), (Value.slice ao958 (x).4 cap959)])), (Value.pointer (Option.some (Addr.mk b0 0 (none : Option (Nat))))), (Value.slice O ((x).1).1 C), (Value.int IntKind.i64 ((((x).1).1 : Nat) : Int)), (Value.int IntKind.i64 (0 : Int)), (Value.tuple (List.toArray [])), (Value.tuple (List.toArray [])), (Value.tuple (List.toArray [])), (Value.tuple (List.toArray [])), (Value.tuple (List.toArray [])), (Value.tuple (List.toArray [])), (Value.tuple (List.toArray [])), (Value.tuple (List.toArray [])), (Value.tuple (List.toArray [])), (Value.tuple (List.toArray [])), (Value.tuple (List.toArray [])), (Value.tuple (List.toArray []))] = [(Value.agg (List.toArray [(Value.slice O ((x).1).1 C), (Value.slice A (x).2 D), (Value.slice H (x).4 E)])), (Value.pointer (Option.some (Addr.mk bp969 0 (none : Option (Nat))))), (Value.pointer (Option.some (Addr.mk br970 0 (none : Option (Nat))))), (Value.pointer (Option.some (Addr.mk bo971 0 (none : Option (Nat))))), (Value.tuple (List.toArray [])), (Value.tuple (List.toArray [])), (Value.slice (Option.some (Addr.mk b953 0 (none : Option (Nat)))) 0 0), (Value.pointer (Option.some (Addr.mk b0 1 (none : Option (Nat))))), (Value.slice A (x).2 D), (Value.slice ao955 (x).2 cap956), (Value.slice (Option.some (Addr.mk b952 0 (none : Option (Nat)))) 0 0), (Value.pointer (Option.some (Addr.mk b0 2 (none : Option (Nat))))), (Value.slice H (x).4 E), (Value.slice ao958 (x).4 cap959), (Value.agg (List.toArray [(Value.slice (none : Option (Addr)) 0 0), (Value.slice ao955 (x).2 cap956), (Value.slice ao958 (x).4 cap959)])), (Value.pointer (Option.some (Addr.mk b0 0 (none : Option (Nat))))), (Value.slice O961 ((x960).1).1 C964), (Value.int IntKind.i64 ((((x960).1).1 : Nat) : Int)), (Value.int IntKind.i64 (0 : Int)), (Value.tuple (List.toArray [])), (Value.tuple (List.toArray [])), (Value.tuple (List.toArray [])), (Value.tuple (List.toArray [])), (Value.tuple (List.toArray [])), (Value.tuple (List.toArray [])), (Value.tuple (List.toArray [])), (Value.tuple (List.toArray [])), (Value.tuple (List.toArray [])), (Value.tuple (List.toArray [])), (Value.tuple (List.toArray [])), (Value.tuple (List.toArray []))] ∧
 ((SelS [(Ch.row (Row.mk Bool.false O 0 2 ((x).1).1 0 [(fun (i976 : Nat) => (SC.sl 3 (so i976) (((x).1).2 i976) (sc i976))), (fun (i977 : Nat) => (SC.bool (((x).1).4 i977)))])), (Ch.row (Row.mk Bool.false A 0 1 (x).2 0 [(fun (i978 : Nat) => (SC.int ((x).3 i978)))])), (Ch.row (Row.mk Bool.false H 0 1 (x).4 0 [(fun (i979 : Nat) => (SC.int ((x).5 i979)))])), (Ch.obj Bool.false (symRows Bool.false 0 (x).1 so (fun (x980 : Nat) => 0))), (Ch.cells b0 33 [(SC.sl 0 O ((x).1).1 C), (SC.sl 1 A (x).2 D), (SC.sl 2 H (x).4 E)]), (Ch.cells b1 33 [SC.nil, SC.nil, SC.nil]), (Ch.cells b814 33 [SC.nil, (SC.sl 9 ao955 (x).2 cap956), (SC.sl 10 ao958 (x).4 cap959)]), Ch.dead, Ch.dead, (Ch.row (Row.mk Bool.true ao955 3 1 (x).2 cap956 [(fun (i981 : Nat) => (SC.int ((x).3 i981)))])), (Ch.row (Row.mk Bool.true ao958 3 1 (x).4 cap959 [(fun (i982 : Nat) => (SC.int ((x).5 i982)))]))] [0, 1, 2, 3, 4, 5, 6, 1000000, 9, 10, 1000003] [(Ch.row (Row.mk Bool.false O961 0 2 ((x960).1).1 0 [(fun (i983 : Nat) => (SC.sl 3 (so967 i983) (((x960).1).2 i983) (sc968 i983))), (fun (i984 : Nat) => (SC.bool (((x960).1).4 i984)))])), (Ch.row (Row.mk Bool.false A962 0 1 (x960).2 0 [(fun (i985 : Nat) => (SC.int ((x960).3 i985)))])), (Ch.row (Row.mk Bool.false H963 0 1 (x960).4 0 [(fun (i986 : Nat) => (SC.int ((x960).5 i986)))])), (Ch.obj Bool.false (symRows Bool.false 0 (x960).1 so967 (fun (x987 : Nat) => 0))), (Ch.cells bp969 33 [(SC.sl 0 O961 ((x960).1).1 C964), (SC.sl 1 A962 (x960).2 D965), (SC.sl 2 H963 (x960).4 E966)]), (Ch.cells br970 33 [SC.nil, SC.nil, SC.nil]), (Ch.cells bo971 33 [(SC.sl 7 (none : Option (Addr)) 0 0), (SC.sl 8 Aq972 (x960).2 Dq974), (SC.sl 9 Hq973 (x960).4 Ee975)]), (Ch.row (Row.mk Bool.true (none : Option (Addr)) 52 2 0 0 [(fun (i988 : Nat) => (SC.sl 10 (none : Option (Addr)) (((x960).1).2 i988) 0)), (fun (i989 : Nat) => (SC.bool (((x960).1).4 i989)))])), (Ch.row (Row.mk Bool.true Aq972 3 1 (x960).2 Dq974 [(fun (i990 : Nat) => (SC.int ((x960).3 i990)))])), (Ch.row (Row.mk Bool.true Hq973 3 1 (x960).4 Ee975 [(fun (i991 : Nat) => (SC.int ((x960).5 i991)))])), (Ch.obj Bool.true (symRows Bool.true 3 (CD.mk 0 ((x960).1).2 ((x960).1).3 ((x960).1).4) (fun (x992 : Nat) => (none : Option (Addr))) (fun (x993 : Nat) => 0)))]) ∧
 (capA x960))) ∧
 (∀ g994 : (Nat →
 Value),
 (∀ kx995 : Int,
 (∀ Oq996 : (Option Addr),
 (∀ Cq997 : Nat,
 (∀ soq998 : (Nat →
 (Option Addr)),
 (∀ scq999 : (Nat →
 Nat),
 (bo971 = bo971 ∧
 (br970 = br970 ∧
 (br970 = br970 ∧
 (Exists (fun (Oq1000 : (Option Addr)) => (Exists (fun (Aq1001 : (Option Addr)) => (Exists (fun (Hq1002 : (Option Addr)) => (Exists (fun (Cq1003 : Nat) => (Exists (fun (Dq1004 : Nat) => (Exists (fun (Ee1005 : Nat) => (Exists (fun (soq1006 : (Nat →
 (Option Addr))) => (Exists (fun (scq1007 : (Nat →
 Nat)) => ((Value.agg (List.toArray [(Value.slice Oq996 ((x960).1).1 Cq997), (Value.slice Aq972 (x960).2 Dq974), (Value.slice Hq973 (x960).4 Ee975)])) = (Value.agg (List.toArray [(Value.slice Oq1000 ((x).1).1 Cq1003), (Value.slice Aq1001 (x).2 Dq1004), (Value.slice Hq1002 (x).4 Ee1005)])) ∧
 (SelS [(Ch.row (Row.mk Bool.false O961 0 2 ((x960).1).1 0 [(fun (i1008 : Nat) => (SC.sl 3 (so967 i1008) (((x960).1).2 i1008) (sc968 i1008))), (fun (i1009 : Nat) => (SC.bool (((x960).1).4 i1009)))])), (Ch.row (Row.mk Bool.false A962 0 1 (x960).2 0 [(fun (i1010 : Nat) => (SC.int ((x960).3 i1010)))])), (Ch.row (Row.mk Bool.false H963 0 1 (x960).4 0 [(fun (i1011 : Nat) => (SC.int ((x960).5 i1011)))])), (Ch.obj Bool.false (symRows Bool.false 0 (x960).1 so967 (fun (x1012 : Nat) => 0))), (Ch.cells bp969 33 [(SC.sl 0 O961 ((x960).1).1 C964), (SC.sl 1 A962 (x960).2 D965), (SC.sl 2 H963 (x960).4 E966)]), (Ch.cells br970 33 [(SC.sl 7 Oq996 ((x960).1).1 Cq997), (SC.sl 8 Aq972 (x960).2 Dq974), (SC.sl 9 Hq973 (x960).4 Ee975)]), (Ch.cells bo971 33 [(SC.sl 7 Oq996 ((x960).1).1 Cq997), (SC.sl 8 Aq972 (x960).2 Dq974), (SC.sl 9 Hq973 (x960).4 Ee975)]), (Ch.row (Row.mk Bool.true Oq996 52 2 ((x960).1).1 Cq997 [(fun (i1013 : Nat) => (SC.sl 10 (soq998 i1013) (((x960).1).2 i1013) (scq999 i1013))), (fun (i1014 : Nat) => (SC.bool (((x960).1).4 i1014)))])), (Ch.row (Row.mk Bool.true Aq972 3 1 (x960).2 Dq974 [(fun (i1015 : Nat) => (SC.int ((x960).3 i1015)))])), (Ch.row (Row.mk Bool.true Hq973 3 1 (x960).4 Ee975 [(fun (i1016 : Nat) => (SC.int ((x960).5 i1016)))])), (Ch.obj Bool.true (symRows Bool.true 3 (CD.mk ((x960).1).1 ((x960).1).2 ((x960).1).3 ((x960).1).4) soq998 scq999))] [7, 8, 9, 10] [(Ch.row (Row.mk Bool.true Oq1000 52 2 ((x).1).1 Cq1003 [(fun (i1017 : Nat) => (SC.sl 3 (soq1006 i1017) (((x).1).2 i1017) (scq1007 i1017))), (fun (i1018 : Nat) => (SC.bool (((x).1).4 i1018)))])), (Ch.row (Row.mk Bool.true Aq1001 3 1 (x).2 Dq1004 [(fun (i1019 : Nat) => (SC.int ((x).3 i1019)))])), (Ch.row (Row.mk Bool.true Hq1002 3 1 (x).4 Ee1005 [(fun (i1020 : Nat) => (SC.int ((x).5 i1020)))])), (Ch.obj Bool.true (symRows Bool.true 3 (x).1 soq1006 scq1007))]))))))))))))))))))))))))))))))))))))))))))))))))))))))))))))))))))))))))))))))))))))) := by kernel_rfl
theorem cpaI_any (x : AD) (O A H : Option Addr) (C D E : Nat) (so : Nat → Option Addr) (sc : Nat → Nat) (w : World) (hA : SeenA w x O A H so sc) (hcap : capA x) : Calls Try.prog 53 #[arrV x O A H C D E] w fun e w' => ∃ (Oq Aq Hq : Option Addr) (Cq Dq Ee : Nat) (soq : Nat → Option Addr) (scq : Nat → Nat), e = .returned (arrV x Oq Aq Hq Cq Dq Ee) ∧ HS ⟨w, fun _ => False⟩ (arrO 0 x Oq Aq Hq Cq Dq Ee soq scq) w' := by
  refine fn_ok mixed (E := { L := [(3, scpI)] }) trivial Try.func53 (one_loop (by kernel_rfl) (by kernel_rfl) (cpI_ok _)) (@Eq.mpr _ _ (cpaI_T x O A H C D E so sc) ?_) (HS.seenAll (fun _ => False) _ (hA.all 0 seenC_nil)) (fun v ch' w' ⟨Oq, Aq, Hq, Cq, Dq, Ee, soq, scq, hv, hc⟩ hs => ⟨Oq, Aq, Hq, Cq, Dq, Ee, soq, scq, by rw [hv], hc.hs hs⟩)
  clear hA
  have hcap2 := hcap
  obtain ⟨c1, c2, c3, c4⟩ := hcap2
  repeat' (first
    | with_reducible exact rfl
    | exact True.intro
    | with_reducible assumption
    | (refine ⟨x, O, A, H, C, D, E, so, sc, _, _, _, _, _, _, _, ⟨rfl, ?_, hcap⟩, ?_⟩)
    | exact (by refine ⟨?_, rfl⟩; repeat' (first | exact True.intro | exact symRows_push | exact rfl | refine And.intro ?_ ?_ | (intro i hi; show _ = _; with_reducible rfl) | (intro i hi; show _ = _; rfl) | exact symRows_nil | (intro i hi; show _ = _; simp only [SC.den]; split <;> rfl)))
    | refine And.intro ?_ ?_
    | apply Exists.intro
    | (intro h; replace h := of_decide_eq_true h; first | (exfalso; omega) | skip)
    | (intro h; replace h := of_decide_eq_false h; first | (exfalso; omega) | skip)
    | (intro i hi; with_reducible exact rfl)
    | intro _
    | omega
    | exact rfl)
theorem cpaS_T (x : AD) (O A H : Option Addr) (C D E : Nat) (so : Nat → Option Addr) (sc : Nat → Nat) : (exFn Try.prog { L := [(3, scpS)] } 400 Try.f45 ([.a (arrS 0 x O A H C D E)]) (arrR 0 x O A H so sc) (fun v ch => ∃ (Oq Aq Hq : Option Addr) (Cq Dq Ee : Nat) (soq : Nat → Option Addr) (scq : Nat → Nat), v.den = arrV x Oq Aq Hq Cq Dq Ee ∧ SelS ch (idsArr v ch) (arrO 0 x Oq Aq Hq Cq Dq Ee soq scq))) = (
  (∀ b0 : Nat,
 (∀ b1 : Nat,
 (b0 = b0 ∧
 (b0 = b0 ∧
 ((∀ b2 : Nat,
 (True ∧
 (((b2 = b2 ∧
 ((A = A ∧
 (x).2 = (x).2) ∧
 ((∀ i3 : Nat,
 Bool.true = Bool.true) ∧
 (apC 0 (x).2 8)))) ∧
 (∀ ao4 : (Option Addr),
 (∀ cap5 : Nat,
 (True ∧
 ((∀ b6 : Nat,
 (True ∧
 (((b6 = b6 ∧
 ((H = H ∧
 (x).4 = (x).4) ∧
 ((∀ i7 : Nat,
 Bool.true = Bool.true) ∧
 (apC 0 (x).4 8)))) ∧
 (∀ ao8 : (Option Addr),
 (∀ cap9 : Nat,
 (True ∧
 (∀ b10 : Nat,
 (True ∧
 (b10 = b10 ∧
 (True ∧
 (Exists (fun (x11 : AD) => (Exists (fun (O12 : (Option Addr)) => (Exists (fun (A13 : (Option Addr)) => (Exists (fun (H14 : (Option Addr)) => (Exists (fun (C15 : Nat) => (Exists (fun (D16 : Nat) => (Exists (fun (E17 : Nat) => (Exists (fun (so18 : (Nat →
 (Option Addr))) => (Exists (fun (sc19 : (Nat →
 Nat)) => (Exists (fun (bp20 : Nat) => (Exists (fun (br21 : Nat) => (Exists (fun (bo22 : Nat) => (Exists (fun (Aq23 : (Option Addr)) => (Exists (fun (Hq24 : (Option Addr)) => (Exists (fun (Dq25 : Nat) => (Exists (fun (Ee26 : Nat) => (([(Value.agg (List.toArray [(Value.slice O ((x).1).1 C), (Value.slice A (x).2 D), (Value.slice H (x).4 E)])), (Value.pointer (Option.some (Addr.mk b0 0 (none : Option (Nat))))), (Value.pointer (Option.some (Addr.mk b1 0 (none : Option (Nat))))), (Value.pointer (Option.some (Addr.mk b10 0 (none : Option (Nat))))), (Value.int IntKind.i64 (0 : Int)), (Value.slice (Option.some (Addr.mk b2 0 (none : Option (Nat)))) 0 0), (Value.pointer (Option.some (Addr.mk b0 1 (none : Option (Nat))))), (Value.slice A (x).2 D), (Value.slice ao4 (x).2 cap5), (Value.slice (Option.some (Addr.mk b6 0 (none : Option (Nat)))) 0 0), (Value.pointer (Option.some (Addr.mk b0 2 (none : Option (Nat))))), (Value.slice H (x).4 E), (Value.slice ao8 (x).4 cap9), (Value.agg (List.toArray [(Value.slice (none : Option (Addr)) 0 0), (Value.slice ao4 (x).2 cap5), (Value.slice ao8 (x).4 cap9)])), (Value.tuple (List.toArray [])), (Value.tuple (List.toArray [])), (Value.tuple (List.toArray [])), (Value.tuple (List.toArray [])), (Value.tuple (List.toArray [])), (Value.tuple (List.toArray [])), (Value.tuple (List.toArray [])), (Value.tuple (List.toArray [])), (Value.tuple (List.toArray [])), (Value.tuple (List.toArray [])), (Value.tuple (List.toArray [])), (Value.tuple (List.toArray [])), (Value.tuple (List.toArray [])), (Value.tuple (List.toArray [])), (Value.tuple (List.toArray [])), (Value.tuple (List.toArray [])), (Value.tuple (List.toArray [])), (Value.tuple (List.toArray [])), (Value.tuple (List.toArray []))] = [(Value.agg (List.toArray [(Value.slice O ((x).1).1 C), (Value.slice A (x).2 D), (Value.slice H (x).4 E)])), (Value.pointer (Option.some (Addr.mk bp20 0 (none : Option (Nat))))), (Value.pointer (Option.some (Addr.mk br21 0 (none : Option (Nat))))), (Value.pointer (Option.some (Addr.mk bo22 0 (none : Option (Nat))))), (Value.int IntKind.i64 (0 : Int)), (Value.slice (Option.some (Addr.mk b2 0 (none : Option (Nat)))) 0 0), (Value.pointer (Option.some (Addr.mk b0 1 (none : Option (Nat))))), (Value.slice A (x).2 D), (Value.slice ao4 (x).2 cap5), (Value.slice (Option.some (Addr.mk b6 0 (none : Option (Nat)))) 0 0), (Value.pointer (Option.some (Addr.mk b0 2 (none : Option (Nat))))), (Value.slice H (x).4 E), (Value.slice ao8 (x).4 cap9), (Value.agg (List.toArray [(Value.slice (none : Option (Addr)) 0 0), (Value.slice ao4 (x).2 cap5), (Value.slice ao8 (x).4 cap9)])), (Value.tuple (List.toArray [])), (Value.tuple (List.toArray [])), (Value.tuple (List.toArray [])), (Value.tuple (List.toArray [])), (Value.tuple (List.toArray [])), (Value.tuple (List.toArray [])), (Value.tuple (List.toArray [])), (Value.tuple (List.toArray [])), (Value.tuple (List.toArray [])), (Value.tuple (List.toArray [])), (Value.tuple (List.toArray [])), (Value.tuple (List.toArray [])), (Value.tuple (List.toArray [])), (Value.tuple (List.toArray [])), (Value.tuple (List.toArray [])), (Value.tuple (List.toArray [])), (Value.tuple (List.toArray [])), (Value.tuple (List.toArray [])), (Value.tuple (List.toArray []))] ∧
 ((SelS [(Ch.row (Row.mk Bool.false O 0 2 ((x).1).1 0 [(fun (i27 : Nat) => (SC.sl 3 (so i27) (((x).1).2 i27) (sc i27))), (fun (i28 : Nat) => (SC.bool (((x).1).4 i28)))])), (Ch.row (Row.mk Bool.false A 0 1 (x).2 0 [(fun (i29 : Nat) => (SC.int ((x).3 i29)))])), (Ch.row (Row.mk Bool.false H 0 1 (x).4 0 [(fun (i30 : Nat) => (SC.int ((x).5 i30)))])), (Ch.obj Bool.false (symRows Bool.false 0 (x).1 so (fun (x31 : Nat) => 0))), (Ch.cells b0 33 [(SC.sl 0 O ((x).1).1 C), (SC.sl 1 A (x).2 D), (SC.sl 2 H (x).4 E)]), (Ch.cells b1 33 [SC.nil, SC.nil, SC.nil]), Ch.dead, (Ch.row (Row.mk Bool.true ao4 3 1 (x).2 cap5 [(fun (i32 : Nat) => (SC.int ((x).3 i32)))])), Ch.dead, (Ch.row (Row.mk Bool.true ao8 3 1 (x).4 cap9 [(fun (i33 : Nat) => (SC.int ((x).5 i33)))])), (Ch.cells b10 33 [SC.nil, (SC.sl 7 ao4 (x).2 cap5), (SC.sl 9 ao8 (x).4 cap9)])] [0, 1, 2, 3, 4, 5, 10, 1000000, 7, 9, 1000003] [(Ch.row (Row.mk Bool.false O12 0 2 ((x11).1).1 0 [(fun (i34 : Nat) => (SC.sl 3 (so18 i34) (((x11).1).2 i34) (sc19 i34))), (fun (i35 : Nat) => (SC.bool (((x11).1).4 i35)))])), (Ch.row (Row.mk Bool.false A13 0 1 (x11).2 0 [(fun (i36 : Nat) => (SC.int ((x11).3 i36)))])), (Ch.row (Row.mk Bool.false H14 0 1 (x11).4 0 [(fun (i37 : Nat) => (SC.int ((x11).5 i37)))])), (Ch.obj Bool.false (symRows Bool.false 0 (x11).1 so18 (fun (x38 : Nat) => 0))), (Ch.cells bp20 33 [(SC.sl 0 O12 ((x11).1).1 C15), (SC.sl 1 A13 (x11).2 D16), (SC.sl 2 H14 (x11).4 E17)]), (Ch.cells br21 33 [SC.nil, SC.nil, SC.nil]), (Ch.cells bo22 33 [(SC.sl 7 (none : Option (Addr)) 0 0), (SC.sl 8 Aq23 (x11).2 Dq25), (SC.sl 9 Hq24 (x11).4 Ee26)]), (Ch.row (Row.mk Bool.true (none : Option (Addr)) 52 2 0 0 [(fun (i39 : Nat) => (SC.sl 10 (none : Option (Addr)) (((x11).1).2 i39) 0)), (fun (i40 : Nat) => (SC.bool (((x11).1).4 i40)))])), (Ch.row (Row.mk Bool.true Aq23 3 1 (x11).2 Dq25 [(fun (i41 : Nat) => (SC.int ((x11).3 i41)))])), (Ch.row (Row.mk Bool.true Hq24 3 1 (x11).4 Ee26 [(fun (i42 : Nat) => (SC.int ((x11).5 i42)))])), (Ch.obj Bool.true (symRows Bool.true 3 (CD.mk 0 ((x11).1).2 ((x11).1).3 ((x11).1).4) (fun (x43 : Nat) => (none : Option (Addr))) (fun (x44 : Nat) => 0)))]) ∧
 (capA x11))) ∧
 (∀ g45 : (Nat →
 Value),
 (∀ kx46 : Int,
 (∀ Oq47 : (Option Addr),
 (∀ Cq48 : Nat,
 (∀ soq49 : (Nat →
 (Option Addr)),
 (∀ scq50 : (Nat →
 Nat),
 (bo22 = bo22 ∧
 (br21 = br21 ∧
 (br21 = br21 ∧
 (Exists (fun (Oq51 : (Option Addr)) => (Exists (fun (Aq52 : (Option Addr)) => (Exists (fun (Hq53 : (Option Addr)) => (Exists (fun (Cq54 : Nat) => (Exists (fun (Dq55 : Nat) => (Exists (fun (Ee56 : Nat) => (Exists (fun (soq57 : (Nat →
 (Option Addr))) => (Exists (fun (scq58 : (Nat →
 Nat)) => ((Value.agg (List.toArray [(Value.slice Oq47 ((x11).1).1 Cq48), (Value.slice Aq23 (x11).2 Dq25), (Value.slice Hq24 (x11).4 Ee26)])) = (Value.agg (List.toArray [(Value.slice Oq51 ((x).1).1 Cq54), (Value.slice Aq52 (x).2 Dq55), (Value.slice Hq53 (x).4 Ee56)])) ∧
 (SelS [(Ch.row (Row.mk Bool.false O12 0 2 ((x11).1).1 0 [(fun (i59 : Nat) => (SC.sl 3 (so18 i59) (((x11).1).2 i59) (sc19 i59))), (fun (i60 : Nat) => (SC.bool (((x11).1).4 i60)))])), (Ch.row (Row.mk Bool.false A13 0 1 (x11).2 0 [(fun (i61 : Nat) => (SC.int ((x11).3 i61)))])), (Ch.row (Row.mk Bool.false H14 0 1 (x11).4 0 [(fun (i62 : Nat) => (SC.int ((x11).5 i62)))])), (Ch.obj Bool.false (symRows Bool.false 0 (x11).1 so18 (fun (x63 : Nat) => 0))), (Ch.cells bp20 33 [(SC.sl 0 O12 ((x11).1).1 C15), (SC.sl 1 A13 (x11).2 D16), (SC.sl 2 H14 (x11).4 E17)]), (Ch.cells br21 33 [(SC.sl 7 Oq47 ((x11).1).1 Cq48), (SC.sl 8 Aq23 (x11).2 Dq25), (SC.sl 9 Hq24 (x11).4 Ee26)]), (Ch.cells bo22 33 [(SC.sl 7 Oq47 ((x11).1).1 Cq48), (SC.sl 8 Aq23 (x11).2 Dq25), (SC.sl 9 Hq24 (x11).4 Ee26)]), (Ch.row (Row.mk Bool.true Oq47 52 2 ((x11).1).1 Cq48 [(fun (i64 : Nat) => (SC.sl 10 (soq49 i64) (((x11).1).2 i64) (scq50 i64))), (fun (i65 : Nat) => (SC.bool (((x11).1).4 i65)))])), (Ch.row (Row.mk Bool.true Aq23 3 1 (x11).2 Dq25 [(fun (i66 : Nat) => (SC.int ((x11).3 i66)))])), (Ch.row (Row.mk Bool.true Hq24 3 1 (x11).4 Ee26 [(fun (i67 : Nat) => (SC.int ((x11).5 i67)))])), (Ch.obj Bool.true (symRows Bool.true 3 (CD.mk ((x11).1).1 ((x11).1).2 ((x11).1).3 ((x11).1).4) soq49 scq50))] [7, 8, 9, 10] [(Ch.row (Row.mk Bool.true Oq51 52 2 ((x).1).1 Cq54 [(fun (i68 : Nat) => (SC.sl 3 (soq57 i68) (((x).1).2 i68) (scq58 i68))), (fun (i69 : Nat) => (SC.bool (((x).1).4 i69)))])), (Ch.row (Row.mk Bool.true Aq52 3 1 (x).2 Dq55 [(fun (i70 : Nat) => (SC.int ((x).3 i70)))])), (Ch.row (Row.mk Bool.true Hq53 3 1 (x).4 Ee56 [(fun (i71 : Nat) => (SC.int ((x).5 i71)))])), (Ch.obj Bool.true (symRows Bool.true 3 (x).1 soq57 scq58))])))))))))))))))))))))))))))))))))))))))))))))))))))))))))))))))))))) ∧
 (∀ b72 : Nat,
 (True ∧
 ((b6 = b6 ∧
 ((H = H ∧
 (x).4 = (x).4) ∧
 ((∀ i73 : Nat,
 Bool.true = Bool.true) ∧
 (apC 0 (x).4 8)))) ∧
 (∀ ao74 : (Option Addr),
 (∀ cap75 : Nat,
 (True ∧
 (b72 = b72 ∧
 (True ∧
 (Exists (fun (x76 : AD) => (Exists (fun (O77 : (Option Addr)) => (Exists (fun (A78 : (Option Addr)) => (Exists (fun (H79 : (Option Addr)) => (Exists (fun (C80 : Nat) => (Exists (fun (D81 : Nat) => (Exists (fun (E82 : Nat) => (Exists (fun (so83 : (Nat →
 (Option Addr))) => (Exists (fun (sc84 : (Nat →
 Nat)) => (Exists (fun (bp85 : Nat) => (Exists (fun (br86 : Nat) => (Exists (fun (bo87 : Nat) => (Exists (fun (Aq88 : (Option Addr)) => (Exists (fun (Hq89 : (Option Addr)) => (Exists (fun (Dq90 : Nat) => (Exists (fun (Ee91 : Nat) => (([(Value.agg (List.toArray [(Value.slice O ((x).1).1 C), (Value.slice A (x).2 D), (Value.slice H (x).4 E)])), (Value.pointer (Option.some (Addr.mk b0 0 (none : Option (Nat))))), (Value.pointer (Option.some (Addr.mk b1 0 (none : Option (Nat))))), (Value.pointer (Option.some (Addr.mk b72 0 (none : Option (Nat))))), (Value.int IntKind.i64 (0 : Int)), (Value.slice (Option.some (Addr.mk b2 0 (none : Option (Nat)))) 0 0), (Value.pointer (Option.some (Addr.mk b0 1 (none : Option (Nat))))), (Value.slice A (x).2 D), (Value.slice ao4 (x).2 cap5), (Value.slice (Option.some (Addr.mk b6 0 (none : Option (Nat)))) 0 0), (Value.pointer (Option.some (Addr.mk b0 2 (none : Option (Nat))))), (Value.slice H (x).4 E), (Value.slice ao74 (x).4 cap75), (Value.agg (List.toArray [(Value.slice (none : Option (Addr)) 0 0), (Value.slice ao4 (x).2 cap5), (Value.slice ao74 (x).4 cap75)])), (Value.tuple (List.toArray [])), (Value.tuple (List.toArray [])), (Value.tuple (List.toArray [])), (Value.tuple (List.toArray [])), (Value.tuple (List.toArray [])), (Value.tuple (List.toArray [])), (Value.tuple (List.toArray [])), (Value.tuple (List.toArray [])), (Value.tuple (List.toArray [])), (Value.tuple (List.toArray [])), (Value.tuple (List.toArray [])), (Value.tuple (List.toArray [])), (Value.tuple (List.toArray [])), (Value.tuple (List.toArray [])), (Value.tuple (List.toArray [])), (Value.tuple (List.toArray [])), (Value.tuple (List.toArray [])), (Value.tuple (List.toArray [])), (Value.tuple (List.toArray []))] = [(Value.agg (List.toArray [(Value.slice O ((x).1).1 C), (Value.slice A (x).2 D), (Value.slice H (x).4 E)])), (Value.pointer (Option.some (Addr.mk bp85 0 (none : Option (Nat))))), (Value.pointer (Option.some (Addr.mk br86 0 (none : Option (Nat))))), (Value.pointer (Option.some (Addr.mk bo87 0 (none : Option (Nat))))), (Value.int IntKind.i64 (0 : Int)), (Value.slice (Option.some (Addr.mk b2 0 (none : Option (Nat)))) 0 0), (Value.pointer (Option.some (Addr.mk b0 1 (none : Option (Nat))))), (Value.slice A (x).2 D), (Value.slice ao4 (x).2 cap5), (Value.slice (Option.some (Addr.mk b6 0 (none : Option (Nat)))) 0 0), (Value.pointer (Option.some (Addr.mk b0 2 (none : Option (Nat))))), (Value.slice H (x).4 E), (Value.slice ao74 (x).4 cap75), (Value.agg (List.toArray [(Value.slice (none : Option (Addr)) 0 0), (Value.slice ao4 (x).2 cap5), (Value.slice ao74 (x).4 cap75)])), (Value.tuple (List.toArray [])), (Value.tuple (List.toArray [])), (Value.tuple (List.toArray [])), (Value.tuple (List.toArray [])), (Value.tuple (List.toArray [])), (Value.tuple (List.toArray [])), (Value.tuple (List.toArray [])), (Value.tuple (List.toArray [])), (Value.tuple (List.toArray [])), (Value.tuple (List.toArray [])), (Value.tuple (List.toArray [])), (Value.tuple (List.toArray [])), (Value.tuple (List.toArray [])), (Value.tuple (List.toArray [])), (Value.tuple (List.toArray [])), (Value.tuple (List.toArray [])), (Value.tuple (List.toArray [])), (Value.tuple (List.toArray [])), (Value.tuple (List.toArray []))] ∧
 ((SelS [(Ch.row (Row.mk Bool.false O 0 2 ((x).1).1 0 [(fun (i92 : Nat) => (SC.sl 3 (so i92) (((x).1).2 i92) (sc i92))), (fun (i93 : Nat) => (SC.bool (((x).1).4 i93)))])), (Ch.row (Row.mk Bool.false A 0 1 (x).2 0 [(fun (i94 : Nat) => (SC.int ((x).3 i94)))])), (Ch.row (Row.mk Bool.false H 0 1 (x).4 0 [(fun (i95 : Nat) => (SC.int ((x).5 i95)))])), (Ch.obj Bool.false (symRows Bool.false 0 (x).1 so (fun (x96 : Nat) => 0))), (Ch.cells b0 33 [(SC.sl 0 O ((x).1).1 C), (SC.sl 1 A (x).2 D), (SC.sl 2 H (x).4 E)]), (Ch.cells b1 33 [SC.nil, SC.nil, SC.nil]), Ch.dead, (Ch.row (Row.mk Bool.true ao4 3 1 (x).2 cap5 [(fun (i97 : Nat) => (SC.int ((x).3 i97)))])), Ch.dead, (Ch.cells b72 33 [SC.nil, (SC.sl 7 ao4 (x).2 cap5), (SC.sl 10 ao74 (x).4 cap75)]), (Ch.row (Row.mk Bool.true ao74 3 1 (x).4 cap75 [(fun (i98 : Nat) => (SC.int ((x).5 i98)))]))] [0, 1, 2, 3, 4, 5, 9, 1000000, 7, 10, 1000003] [(Ch.row (Row.mk Bool.false O77 0 2 ((x76).1).1 0 [(fun (i99 : Nat) => (SC.sl 3 (so83 i99) (((x76).1).2 i99) (sc84 i99))), (fun (i100 : Nat) => (SC.bool (((x76).1).4 i100)))])), (Ch.row (Row.mk Bool.false A78 0 1 (x76).2 0 [(fun (i101 : Nat) => (SC.int ((x76).3 i101)))])), (Ch.row (Row.mk Bool.false H79 0 1 (x76).4 0 [(fun (i102 : Nat) => (SC.int ((x76).5 i102)))])), (Ch.obj Bool.false (symRows Bool.false 0 (x76).1 so83 (fun (x103 : Nat) => 0))), (Ch.cells bp85 33 [(SC.sl 0 O77 ((x76).1).1 C80), (SC.sl 1 A78 (x76).2 D81), (SC.sl 2 H79 (x76).4 E82)]), (Ch.cells br86 33 [SC.nil, SC.nil, SC.nil]), (Ch.cells bo87 33 [(SC.sl 7 (none : Option (Addr)) 0 0), (SC.sl 8 Aq88 (x76).2 Dq90), (SC.sl 9 Hq89 (x76).4 Ee91)]), (Ch.row (Row.mk Bool.true (none : Option (Addr)) 52 2 0 0 [(fun (i104 : Nat) => (SC.sl 10 (none : Option (Addr)) (((x76).1).2 i104) 0)), (fun (i105 : Nat) => (SC.bool (((x76).1).4 i105)))])), (Ch.row (Row.mk Bool.true Aq88 3 1 (x76).2 Dq90 [(fun (i106 : Nat) => (SC.int ((x76).3 i106)))])), (Ch.row (Row.mk Bool.true Hq89 3 1 (x76).4 Ee91 [(fun (i107 : Nat) => (SC.int ((x76).5 i107)))])), (Ch.obj Bool.true (symRows Bool.true 3 (CD.mk 0 ((x76).1).2 ((x76).1).3 ((x76).1).4) (fun (x108 : Nat) => (none : Option (Addr))) (fun (x109 : Nat) => 0)))]) ∧
 (capA x76))) ∧
 (∀ g110 : (Nat →
 Value),
 (∀ kx111 : Int,
 (∀ Oq112 : (Option Addr),
 (∀ Cq113 : Nat,
 (∀ soq114 : (Nat →
 (Option Addr)),
 (∀ scq115 : (Nat →
 Nat),
 (bo87 = bo87 ∧
 (br86 = br86 ∧
 (br86 = br86 ∧
 (Exists (fun (Oq116 : (Option Addr)) => (Exists (fun (Aq117 : (Option Addr)) => (Exists (fun (Hq118 : (Option Addr)) => (Exists (fun (Cq119 : Nat) => (Exists (fun (Dq120 : Nat) => (Exists (fun (Ee121 : Nat) => (Exists (fun (soq122 : (Nat →
 (Option Addr))) => (Exists (fun (scq123 : (Nat →
 Nat)) => ((Value.agg (List.toArray [(Value.slice Oq112 ((x76).1).1 Cq113), (Value.slice Aq88 (x76).2 Dq90), (Value.slice Hq89 (x76).4 Ee91)])) = (Value.agg (List.toArray [(Value.slice Oq116 ((x).1).1 Cq119), (Value.slice Aq117 (x).2 Dq120), (Value.slice Hq118 (x).4 Ee121)])) ∧
 (SelS [(Ch.row (Row.mk Bool.false O77 0 2 ((x76).1).1 0 [(fun (i124 : Nat) => (SC.sl 3 (so83 i124) (((x76).1).2 i124) (sc84 i124))), (fun (i125 : Nat) => (SC.bool (((x76).1).4 i125)))])), (Ch.row (Row.mk Bool.false A78 0 1 (x76).2 0 [(fun (i126 : Nat) => (SC.int ((x76).3 i126)))])), (Ch.row (Row.mk Bool.false H79 0 1 (x76).4 0 [(fun (i127 : Nat) => (SC.int ((x76).5 i127)))])), (Ch.obj Bool.false (symRows Bool.false 0 (x76).1 so83 (fun (x128 : Nat) => 0))), (Ch.cells bp85 33 [(SC.sl 0 O77 ((x76).1).1 C80), (SC.sl 1 A78 (x76).2 D81), (SC.sl 2 H79 (x76).4 E82)]), (Ch.cells br86 33 [(SC.sl 7 Oq112 ((x76).1).1 Cq113), (SC.sl 8 Aq88 (x76).2 Dq90), (SC.sl 9 Hq89 (x76).4 Ee91)]), (Ch.cells bo87 33 [(SC.sl 7 Oq112 ((x76).1).1 Cq113), (SC.sl 8 Aq88 (x76).2 Dq90), (SC.sl 9 Hq89 (x76).4 Ee91)]), (Ch.row (Row.mk Bool.true Oq112 52 2 ((x76).1).1 Cq113 [(fun (i129 : Nat) => (SC.sl 10 (soq114 i129) (((x76).1).2 i129) (scq115 i129))), (fun (i130 : Nat) => (SC.bool (((x76).1).4 i130)))])), (Ch.row (Row.mk Bool.true Aq88 3 1 (x76).2 Dq90 [(fun (i131 : Nat) => (SC.int ((x76).3 i131)))])), (Ch.row (Row.mk Bool.true Hq89 3 1 (x76).4 Ee91 [(fun (i132 : Nat) => (SC.int ((x76).5 i132)))])), (Ch.obj Bool.true (symRows Bool.true 3 (CD.mk ((x76).1).1 ((x76).1).2 ((x76).1).3 ((x76).1).4) soq114 scq115))] [7, 8, 9, 10] [(Ch.row (Row.mk Bool.true Oq116 52 2 ((x).1).1 Cq119 [(fun (i133 : Nat) => (SC.sl 3 (soq122 i133) (((x).1).2 i133) (scq123 i133))), (fun (i134 : Nat) => (SC.bool (((x).1).4 i134)))])), (Ch.row (Row.mk Bool.true Aq117 3 1 (x).2 Dq120 [(fun (i135 : Nat) => (SC.int ((x).3 i135)))])), (Ch.row (Row.mk Bool.true Hq118 3 1 (x).4 Ee121 [(fun (i136 : Nat) => (SC.int ((x).5 i136)))])), (Ch.obj Bool.true (symRows Bool.true 3 (x).1 soq122 scq123))]))))))))))))))))))))))))))))))))))))))))))))))))))))))))))))))))))))))) ∧
 (∀ b137 : Nat,
 (True ∧
 (∀ b138 : Nat,
 (True ∧
 ((b138 = b138 ∧
 ((H = H ∧
 (x).4 = (x).4) ∧
 ((∀ i139 : Nat,
 Bool.true = Bool.true) ∧
 (apC 0 (x).4 8)))) ∧
 (∀ ao140 : (Option Addr),
 (∀ cap141 : Nat,
 (True ∧
 (b137 = b137 ∧
 (True ∧
 (Exists (fun (x142 : AD) => (Exists (fun (O143 : (Option Addr)) => (Exists (fun (A144 : (Option Addr)) => (Exists (fun (H145 : (Option Addr)) => (Exists (fun (C146 : Nat) => (Exists (fun (D147 : Nat) => (Exists (fun (E148 : Nat) => (Exists (fun (so149 : (Nat →
 (Option Addr))) => (Exists (fun (sc150 : (Nat →
 Nat)) => (Exists (fun (bp151 : Nat) => (Exists (fun (br152 : Nat) => (Exists (fun (bo153 : Nat) => (Exists (fun (Aq154 : (Option Addr)) => (Exists (fun (Hq155 : (Option Addr)) => (Exists (fun (Dq156 : Nat) => (Exists (fun (Ee157 : Nat) => (([(Value.agg (List.toArray [(Value.slice O ((x).1).1 C), (Value.slice A (x).2 D), (Value.slice H (x).4 E)])), (Value.pointer (Option.some (Addr.mk b0 0 (none : Option (Nat))))), (Value.pointer (Option.some (Addr.mk b1 0 (none : Option (Nat))))), (Value.pointer (Option.some (Addr.mk b137 0 (none : Option (Nat))))), (Value.int IntKind.i64 (0 : Int)), (Value.slice (Option.some (Addr.mk b2 0 (none : Option (Nat)))) 0 0), (Value.pointer (Option.some (Addr.mk b0 1 (none : Option (Nat))))), (Value.slice A (x).2 D), (Value.slice ao4 (x).2 cap5), (Value.slice (Option.some (Addr.mk b138 0 (none : Option (Nat)))) 0 0), (Value.pointer (Option.some (Addr.mk b0 2 (none : Option (Nat))))), (Value.slice H (x).4 E), (Value.slice ao140 (x).4 cap141), (Value.agg (List.toArray [(Value.slice (none : Option (Addr)) 0 0), (Value.slice ao4 (x).2 cap5), (Value.slice ao140 (x).4 cap141)])), (Value.tuple (List.toArray [])), (Value.tuple (List.toArray [])), (Value.tuple (List.toArray [])), (Value.tuple (List.toArray [])), (Value.tuple (List.toArray [])), (Value.tuple (List.toArray [])), (Value.tuple (List.toArray [])), (Value.tuple (List.toArray [])), (Value.tuple (List.toArray [])), (Value.tuple (List.toArray [])), (Value.tuple (List.toArray [])), (Value.tuple (List.toArray [])), (Value.tuple (List.toArray [])), (Value.tuple (List.toArray [])), (Value.tuple (List.toArray [])), (Value.tuple (List.toArray [])), (Value.tuple (List.toArray [])), (Value.tuple (List.toArray [])), (Value.tuple (List.toArray []))] = [(Value.agg (List.toArray [(Value.slice O ((x).1).1 C), (Value.slice A (x).2 D), (Value.slice H (x).4 E)])), (Value.pointer (Option.some (Addr.mk bp151 0 (none : Option (Nat))))), (Value.pointer (Option.some (Addr.mk br152 0 (none : Option (Nat))))), (Value.pointer (Option.some (Addr.mk bo153 0 (none : Option (Nat))))), (Value.int IntKind.i64 (0 : Int)), (Value.slice (Option.some (Addr.mk b2 0 (none : Option (Nat)))) 0 0), (Value.pointer (Option.some (Addr.mk b0 1 (none : Option (Nat))))), (Value.slice A (x).2 D), (Value.slice ao4 (x).2 cap5), (Value.slice (Option.some (Addr.mk b138 0 (none : Option (Nat)))) 0 0), (Value.pointer (Option.some (Addr.mk b0 2 (none : Option (Nat))))), (Value.slice H (x).4 E), (Value.slice ao140 (x).4 cap141), (Value.agg (List.toArray [(Value.slice (none : Option (Addr)) 0 0), (Value.slice ao4 (x).2 cap5), (Value.slice ao140 (x).4 cap141)])), (Value.tuple (List.toArray [])), (Value.tuple (List.toArray [])), (Value.tuple (List.toArray [])), (Value.tuple (List.toArray [])), (Value.tuple (List.toArray [])), (Value.tuple (List.toArray [])), (Value.tuple (List.toArray [])), (Value.tuple (List.toArray [])), (Value.tuple (List.toArray [])), (Value.tuple (List.toArray [])), (Value.tuple (List.toArray [])), (Value.tuple (List.toArray [])), (Value.tuple (List.toArray [])), (Value.tuple (List.toArray [])), (Value.tuple (List.toArray [])), (Value.tuple (List.toArray [])), (Value.tuple (List.toArray [])), (Value.tuple (List.toArray [])), (Value.tuple (List.toArray []))] ∧
 ((SelS [(Ch.row (Row.mk Bool.false O 0 2 ((x).1).1 0 [(fun (i158 : Nat) => (SC.sl 3 (so i158) (((x).1).2 i158) (sc i158))), (fun (i159 : Nat) => (SC.bool (((x).1).4 i159)))])), (Ch.row (Row.mk Bool.false A 0 1 (x).2 0 [(fun (i160 : Nat) => (SC.int ((x).3 i160)))])), (Ch.row (Row.mk Bool.false H 0 1 (x).4 0 [(fun (i161 : Nat) => (SC.int ((x).5 i161)))])), (Ch.obj Bool.false (symRows Bool.false 0 (x).1 so (fun (x162 : Nat) => 0))), (Ch.cells b0 33 [(SC.sl 0 O ((x).1).1 C), (SC.sl 1 A (x).2 D), (SC.sl 2 H (x).4 E)]), (Ch.cells b1 33 [SC.nil, SC.nil, SC.nil]), Ch.dead, (Ch.row (Row.mk Bool.true ao4 3 1 (x).2 cap5 [(fun (i163 : Nat) => (SC.int ((x).3 i163)))])), (Ch.cells b137 33 [SC.nil, (SC.sl 7 ao4 (x).2 cap5), (SC.sl 10 ao140 (x).4 cap141)]), Ch.dead, (Ch.row (Row.mk Bool.true ao140 3 1 (x).4 cap141 [(fun (i164 : Nat) => (SC.int ((x).5 i164)))]))] [0, 1, 2, 3, 4, 5, 8, 1000000, 7, 10, 1000003] [(Ch.row (Row.mk Bool.false O143 0 2 ((x142).1).1 0 [(fun (i165 : Nat) => (SC.sl 3 (so149 i165) (((x142).1).2 i165) (sc150 i165))), (fun (i166 : Nat) => (SC.bool (((x142).1).4 i166)))])), (Ch.row (Row.mk Bool.false A144 0 1 (x142).2 0 [(fun (i167 : Nat) => (SC.int ((x142).3 i167)))])), (Ch.row (Row.mk Bool.false H145 0 1 (x142).4 0 [(fun (i168 : Nat) => (SC.int ((x142).5 i168)))])), (Ch.obj Bool.false (symRows Bool.false 0 (x142).1 so149 (fun (x169 : Nat) => 0))), (Ch.cells bp151 33 [(SC.sl 0 O143 ((x142).1).1 C146), (SC.sl 1 A144 (x142).2 D147), (SC.sl 2 H145 (x142).4 E148)]), (Ch.cells br152 33 [SC.nil, SC.nil, SC.nil]), (Ch.cells bo153 33 [(SC.sl 7 (none : Option (Addr)) 0 0), (SC.sl 8 Aq154 (x142).2 Dq156), (SC.sl 9 Hq155 (x142).4 Ee157)]), (Ch.row (Row.mk Bool.true (none : Option (Addr)) 52 2 0 0 [(fun (i170 : Nat) => (SC.sl 10 (none : Option (Addr)) (((x142).1).2 i170) 0)), (fun (i171 : Nat) => (SC.bool (((x142).1).4 i171)))])), (Ch.row (Row.mk Bool.true Aq154 3 1 (x142).2 Dq156 [(fun (i172 : Nat) => (SC.int ((x142).3 i172)))])), (Ch.row (Row.mk Bool.true Hq155 3 1 (x142).4 Ee157 [(fun (i173 : Nat) => (SC.int ((x142).5 i173)))])), (Ch.obj Bool.true (symRows Bool.true 3 (CD.mk 0 ((x142).1).2 ((x142).1).3 ((x142).1).4) (fun (x174 : Nat) => (none : Option (Addr))) (fun (x175 : Nat) => 0)))]) ∧
 (capA x142))) ∧
 (∀ g176 : (Nat →
 Value),
 (∀ kx177 : Int,
 (∀ Oq178 : (Option Addr),
 (∀ Cq179 : Nat,
 (∀ soq180 : (Nat →
 (Option Addr)),
 (∀ scq181 : (Nat →
 Nat),
 (bo153 = bo153 ∧
 (br152 = br152 ∧
 (br152 = br152 ∧
 (Exists (fun (Oq182 : (Option Addr)) => (Exists (fun (Aq183 : (Option Addr)) => (Exists (fun (Hq184 : (Option Addr)) => (Exists (fun (Cq185 : Nat) => (Exists (fun (Dq186 : Nat) => (Exists (fun (Ee187 : Nat) => (Exists (fun (soq188 : (Nat →
 (Option Addr))) => (Exists (fun (scq189 : (Nat →
 Nat)) => ((Value.agg (List.toArray [(Value.slice Oq178 ((x142).1).1 Cq179), (Value.slice Aq154 (x142).2 Dq156), (Value.slice Hq155 (x142).4 Ee157)])) = (Value.agg (List.toArray [(Value.slice Oq182 ((x).1).1 Cq185), (Value.slice Aq183 (x).2 Dq186), (Value.slice Hq184 (x).4 Ee187)])) ∧
 (SelS [(Ch.row (Row.mk Bool.false O143 0 2 ((x142).1).1 0 [(fun (i190 : Nat) => (SC.sl 3 (so149 i190) (((x142).1).2 i190) (sc150 i190))), (fun (i191 : Nat) => (SC.bool (((x142).1).4 i191)))])), (Ch.row (Row.mk Bool.false A144 0 1 (x142).2 0 [(fun (i192 : Nat) => (SC.int ((x142).3 i192)))])), (Ch.row (Row.mk Bool.false H145 0 1 (x142).4 0 [(fun (i193 : Nat) => (SC.int ((x142).5 i193)))])), (Ch.obj Bool.false (symRows Bool.false 0 (x142).1 so149 (fun (x194 : Nat) => 0))), (Ch.cells bp151 33 [(SC.sl 0 O143 ((x142).1).1 C146), (SC.sl 1 A144 (x142).2 D147), (SC.sl 2 H145 (x142).4 E148)]), (Ch.cells br152 33 [(SC.sl 7 Oq178 ((x142).1).1 Cq179), (SC.sl 8 Aq154 (x142).2 Dq156), (SC.sl 9 Hq155 (x142).4 Ee157)]), (Ch.cells bo153 33 [(SC.sl 7 Oq178 ((x142).1).1 Cq179), (SC.sl 8 Aq154 (x142).2 Dq156), (SC.sl 9 Hq155 (x142).4 Ee157)]), (Ch.row (Row.mk Bool.true Oq178 52 2 ((x142).1).1 Cq179 [(fun (i195 : Nat) => (SC.sl 10 (soq180 i195) (((x142).1).2 i195) (scq181 i195))), (fun (i196 : Nat) => (SC.bool (((x142).1).4 i196)))])), (Ch.row (Row.mk Bool.true Aq154 3 1 (x142).2 Dq156 [(fun (i197 : Nat) => (SC.int ((x142).3 i197)))])), (Ch.row (Row.mk Bool.true Hq155 3 1 (x142).4 Ee157 [(fun (i198 : Nat) => (SC.int ((x142).5 i198)))])), (Ch.obj Bool.true (symRows Bool.true 3 (CD.mk ((x142).1).1 ((x142).1).2 ((x142).1).3 ((x142).1).4) soq180 scq181))] [7, 8, 9, 10] [(Ch.row (Row.mk Bool.true Oq182 52 2 ((x).1).1 Cq185 [(fun (i199 : Nat) => (SC.sl 3 (soq188 i199) (((x).1).2 i199) (scq189 i199))), (fun (i200 : Nat) => (SC.bool (((x).1).4 i200)))])), (Ch.row (Row.mk Bool.true Aq183 3 1 (x).2 Dq186 [(fun (i201 : Nat) => (SC.int ((x).3 i201)))])), (Ch.row (Row.mk Bool.true Hq184 3 1 (x).4 Ee187 [(fun (i202 : Nat) => (SC.int ((x).5 i202)))])), (Ch.obj Bool.true (symRows Bool.true 3 (x).1 soq188 scq189))]))))))))))))))))))))))))))))))))))))))))))))))))))))))))))))))))))))))))))) ∧
 ((∀ b203 : Nat,
 (True ∧
 (((b2 = b2 ∧
 ((A = A ∧
 (x).2 = (x).2) ∧
 ((∀ i204 : Nat,
 Bool.true = Bool.true) ∧
 (apC 0 (x).2 8)))) ∧
 (∀ ao205 : (Option Addr),
 (∀ cap206 : Nat,
 (True ∧
 (((b203 = b203 ∧
 ((H = H ∧
 (x).4 = (x).4) ∧
 ((∀ i207 : Nat,
 Bool.true = Bool.true) ∧
 (apC 0 (x).4 8)))) ∧
 (∀ ao208 : (Option Addr),
 (∀ cap209 : Nat,
 (True ∧
 (∀ b210 : Nat,
 (True ∧
 (b210 = b210 ∧
 (True ∧
 (Exists (fun (x211 : AD) => (Exists (fun (O212 : (Option Addr)) => (Exists (fun (A213 : (Option Addr)) => (Exists (fun (H214 : (Option Addr)) => (Exists (fun (C215 : Nat) => (Exists (fun (D216 : Nat) => (Exists (fun (E217 : Nat) => (Exists (fun (so218 : (Nat →
 (Option Addr))) => (Exists (fun (sc219 : (Nat →
 Nat)) => (Exists (fun (bp220 : Nat) => (Exists (fun (br221 : Nat) => (Exists (fun (bo222 : Nat) => (Exists (fun (Aq223 : (Option Addr)) => (Exists (fun (Hq224 : (Option Addr)) => (Exists (fun (Dq225 : Nat) => (Exists (fun (Ee226 : Nat) => (([(Value.agg (List.toArray [(Value.slice O ((x).1).1 C), (Value.slice A (x).2 D), (Value.slice H (x).4 E)])), (Value.pointer (Option.some (Addr.mk b0 0 (none : Option (Nat))))), (Value.pointer (Option.some (Addr.mk b1 0 (none : Option (Nat))))), (Value.pointer (Option.some (Addr.mk b210 0 (none : Option (Nat))))), (Value.int IntKind.i64 (0 : Int)), (Value.slice (Option.some (Addr.mk b2 0 (none : Option (Nat)))) 0 0), (Value.pointer (Option.some (Addr.mk b0 1 (none : Option (Nat))))), (Value.slice A (x).2 D), (Value.slice ao205 (x).2 cap206), (Value.slice (Option.some (Addr.mk b203 0 (none : Option (Nat)))) 0 0), (Value.pointer (Option.some (Addr.mk b0 2 (none : Option (Nat))))), (Value.slice H (x).4 E), (Value.slice ao208 (x).4 cap209), (Value.agg (List.toArray [(Value.slice (none : Option (Addr)) 0 0), (Value.slice ao205 (x).2 cap206), (Value.slice ao208 (x).4 cap209)])), (Value.tuple (List.toArray [])), (Value.tuple (List.toArray [])), (Value.tuple (List.toArray [])), (Value.tuple (List.toArray [])), (Value.tuple (List.toArray [])), (Value.tuple (List.toArray [])), (Value.tuple (List.toArray [])), (Value.tuple (List.toArray [])), (Value.tuple (List.toArray [])), (Value.tuple (List.toArray [])), (Value.tuple (List.toArray [])), (Value.tuple (List.toArray [])), (Value.tuple (List.toArray [])), (Value.tuple (List.toArray [])), (Value.tuple (List.toArray [])), (Value.tuple (List.toArray [])), (Value.tuple (List.toArray [])), (Value.tuple (List.toArray [])), (Value.tuple (List.toArray []))] = [(Value.agg (List.toArray [(Value.slice O ((x).1).1 C), (Value.slice A (x).2 D), (Value.slice H (x).4 E)])), (Value.pointer (Option.some (Addr.mk bp220 0 (none : Option (Nat))))), (Value.pointer (Option.some (Addr.mk br221 0 (none : Option (Nat))))), (Value.pointer (Option.some (Addr.mk bo222 0 (none : Option (Nat))))), (Value.int IntKind.i64 (0 : Int)), (Value.slice (Option.some (Addr.mk b2 0 (none : Option (Nat)))) 0 0), (Value.pointer (Option.some (Addr.mk b0 1 (none : Option (Nat))))), (Value.slice A (x).2 D), (Value.slice ao205 (x).2 cap206), (Value.slice (Option.some (Addr.mk b203 0 (none : Option (Nat)))) 0 0), (Value.pointer (Option.some (Addr.mk b0 2 (none : Option (Nat))))), (Value.slice H (x).4 E), (Value.slice ao208 (x).4 cap209), (Value.agg (List.toArray [(Value.slice (none : Option (Addr)) 0 0), (Value.slice ao205 (x).2 cap206), (Value.slice ao208 (x).4 cap209)])), (Value.tuple (List.toArray [])), (Value.tuple (List.toArray [])), (Value.tuple (List.toArray [])), (Value.tuple (List.toArray [])), (Value.tuple (List.toArray [])), (Value.tuple (List.toArray [])), (Value.tuple (List.toArray [])), (Value.tuple (List.toArray [])), (Value.tuple (List.toArray [])), (Value.tuple (List.toArray [])), (Value.tuple (List.toArray [])), (Value.tuple (List.toArray [])), (Value.tuple (List.toArray [])), (Value.tuple (List.toArray [])), (Value.tuple (List.toArray [])), (Value.tuple (List.toArray [])), (Value.tuple (List.toArray [])), (Value.tuple (List.toArray [])), (Value.tuple (List.toArray []))] ∧
 ((SelS [(Ch.row (Row.mk Bool.false O 0 2 ((x).1).1 0 [(fun (i227 : Nat) => (SC.sl 3 (so i227) (((x).1).2 i227) (sc i227))), (fun (i228 : Nat) => (SC.bool (((x).1).4 i228)))])), (Ch.row (Row.mk Bool.false A 0 1 (x).2 0 [(fun (i229 : Nat) => (SC.int ((x).3 i229)))])), (Ch.row (Row.mk Bool.false H 0 1 (x).4 0 [(fun (i230 : Nat) => (SC.int ((x).5 i230)))])), (Ch.obj Bool.false (symRows Bool.false 0 (x).1 so (fun (x231 : Nat) => 0))), (Ch.cells b0 33 [(SC.sl 0 O ((x).1).1 C), (SC.sl 1 A (x).2 D), (SC.sl 2 H (x).4 E)]), (Ch.cells b1 33 [SC.nil, SC.nil, SC.nil]), Ch.dead, Ch.dead, (Ch.row (Row.mk Bool.true ao205 3 1 (x).2 cap206 [(fun (i232 : Nat) => (SC.int ((x).3 i232)))])), (Ch.row (Row.mk Bool.true ao208 3 1 (x).4 cap209 [(fun (i233 : Nat) => (SC.int ((x).5 i233)))])), (Ch.cells b210 33 [SC.nil, (SC.sl 8 ao205 (x).2 cap206), (SC.sl 9 ao208 (x).4 cap209)])] [0, 1, 2, 3, 4, 5, 10, 1000000, 8, 9, 1000003] [(Ch.row (Row.mk Bool.false O212 0 2 ((x211).1).1 0 [(fun (i234 : Nat) => (SC.sl 3 (so218 i234) (((x211).1).2 i234) (sc219 i234))), (fun (i235 : Nat) => (SC.bool (((x211).1).4 i235)))])), (Ch.row (Row.mk Bool.false A213 0 1 (x211).2 0 [(fun (i236 : Nat) => (SC.int ((x211).3 i236)))])), (Ch.row (Row.mk Bool.false H214 0 1 (x211).4 0 [(fun (i237 : Nat) => (SC.int ((x211).5 i237)))])), (Ch.obj Bool.false (symRows Bool.false 0 (x211).1 so218 (fun (x238 : Nat) => 0))), (Ch.cells bp220 33 [(SC.sl 0 O212 ((x211).1).1 C215), (SC.sl 1 A213 (x211).2 D216), (SC.sl 2 H214 (x211).4 E217)]), (Ch.cells br221 33 [SC.nil, SC.nil, SC.nil]), (Ch.cells bo222 33 [(SC.sl 7 (none : Option (Addr)) 0 0), (SC.sl 8 Aq223 (x211).2 Dq225), (SC.sl 9 Hq224 (x211).4 Ee226)]), (Ch.row (Row.mk Bool.true (none : Option (Addr)) 52 2 0 0 [(fun (i239 : Nat) => (SC.sl 10 (none : Option (Addr)) (((x211).1).2 i239) 0)), (fun (i240 : Nat) => (SC.bool (((x211).1).4 i240)))])), (Ch.row (Row.mk Bool.true Aq223 3 1 (x211).2 Dq225 [(fun (i241 : Nat) => (SC.int ((x211).3 i241)))])), (Ch.row (Row.mk Bool.true Hq224 3 1 (x211).4 Ee226 [(fun (i242 : Nat) => (SC.int ((x211).5 i242)))])), (Ch.obj Bool.true (symRows Bool.true 3 (CD.mk 0 ((x211).1).2 ((x211).1).3 ((x211).1).4) (fun (x243 : Nat) => (none : Option (Addr))) (fun (x244 : Nat) => 0)))]) ∧
 (capA x211))) ∧
 (∀ g245 : (Nat →
 Value),
 (∀ kx246 : Int,
 (∀ Oq247 : (Option Addr),
 (∀ Cq248 : Nat,
 (∀ soq249 : (Nat →
 (Option Addr)),
 (∀ scq250 : (Nat →
 Nat),
 (bo222 = bo222 ∧
 (br221 = br221 ∧
 (br221 = br221 ∧
 (Exists (fun (Oq251 : (Option Addr)) => (Exists (fun (Aq252 : (Option Addr)) => (Exists (fun (Hq253 : (Option Addr)) => (Exists (fun (Cq254 : Nat) => (Exists (fun (Dq255 : Nat) => (Exists (fun (Ee256 : Nat) => (Exists (fun (soq257 : (Nat →
 (Option Addr))) => (Exists (fun (scq258 : (Nat →
 Nat)) => ((Value.agg (List.toArray [(Value.slice Oq247 ((x211).1).1 Cq248), (Value.slice Aq223 (x211).2 Dq225), (Value.slice Hq224 (x211).4 Ee226)])) = (Value.agg (List.toArray [(Value.slice Oq251 ((x).1).1 Cq254), (Value.slice Aq252 (x).2 Dq255), (Value.slice Hq253 (x).4 Ee256)])) ∧
 (SelS [(Ch.row (Row.mk Bool.false O212 0 2 ((x211).1).1 0 [(fun (i259 : Nat) => (SC.sl 3 (so218 i259) (((x211).1).2 i259) (sc219 i259))), (fun (i260 : Nat) => (SC.bool (((x211).1).4 i260)))])), (Ch.row (Row.mk Bool.false A213 0 1 (x211).2 0 [(fun (i261 : Nat) => (SC.int ((x211).3 i261)))])), (Ch.row (Row.mk Bool.false H214 0 1 (x211).4 0 [(fun (i262 : Nat) => (SC.int ((x211).5 i262)))])), (Ch.obj Bool.false (symRows Bool.false 0 (x211).1 so218 (fun (x263 : Nat) => 0))), (Ch.cells bp220 33 [(SC.sl 0 O212 ((x211).1).1 C215), (SC.sl 1 A213 (x211).2 D216), (SC.sl 2 H214 (x211).4 E217)]), (Ch.cells br221 33 [(SC.sl 7 Oq247 ((x211).1).1 Cq248), (SC.sl 8 Aq223 (x211).2 Dq225), (SC.sl 9 Hq224 (x211).4 Ee226)]), (Ch.cells bo222 33 [(SC.sl 7 Oq247 ((x211).1).1 Cq248), (SC.sl 8 Aq223 (x211).2 Dq225), (SC.sl 9 Hq224 (x211).4 Ee226)]), (Ch.row (Row.mk Bool.true Oq247 52 2 ((x211).1).1 Cq248 [(fun (i264 : Nat) => (SC.sl 10 (soq249 i264) (((x211).1).2 i264) (scq250 i264))), (fun (i265 : Nat) => (SC.bool (((x211).1).4 i265)))])), (Ch.row (Row.mk Bool.true Aq223 3 1 (x211).2 Dq225 [(fun (i266 : Nat) => (SC.int ((x211).3 i266)))])), (Ch.row (Row.mk Bool.true Hq224 3 1 (x211).4 Ee226 [(fun (i267 : Nat) => (SC.int ((x211).5 i267)))])), (Ch.obj Bool.true (symRows Bool.true 3 (CD.mk ((x211).1).1 ((x211).1).2 ((x211).1).3 ((x211).1).4) soq249 scq250))] [7, 8, 9, 10] [(Ch.row (Row.mk Bool.true Oq251 52 2 ((x).1).1 Cq254 [(fun (i268 : Nat) => (SC.sl 3 (soq257 i268) (((x).1).2 i268) (scq258 i268))), (fun (i269 : Nat) => (SC.bool (((x).1).4 i269)))])), (Ch.row (Row.mk Bool.true Aq252 3 1 (x).2 Dq255 [(fun (i270 : Nat) => (SC.int ((x).3 i270)))])), (Ch.row (Row.mk Bool.true Hq253 3 1 (x).4 Ee256 [(fun (i271 : Nat) => (SC.int ((x).5 i271)))])), (Ch.obj Bool.true (symRows Bool.true 3 (x).1 soq257 scq258))])))))))))))))))))))))))))))))))))))))))))))))))))))))))))))))))))))) ∧
 (∀ b272 : Nat,
 (True ∧
 ((b203 = b203 ∧
 ((H = H ∧
 (x).4 = (x).4) ∧
 ((∀ i273 : Nat,
 Bool.true = Bool.true) ∧
 (apC 0 (x).4 8)))) ∧
 (∀ ao274 : (Option Addr),
 (∀ cap275 : Nat,
 (True ∧
 (b272 = b272 ∧
 (True ∧
 (Exists (fun (x276 : AD) => (Exists (fun (O277 : (Option Addr)) => (Exists (fun (A278 : (Option Addr)) => (Exists (fun (H279 : (Option Addr)) => (Exists (fun (C280 : Nat) => (Exists (fun (D281 : Nat) => (Exists (fun (E282 : Nat) => (Exists (fun (so283 : (Nat →
 (Option Addr))) => (Exists (fun (sc284 : (Nat →
 Nat)) => (Exists (fun (bp285 : Nat) => (Exists (fun (br286 : Nat) => (Exists (fun (bo287 : Nat) => (Exists (fun (Aq288 : (Option Addr)) => (Exists (fun (Hq289 : (Option Addr)) => (Exists (fun (Dq290 : Nat) => (Exists (fun (Ee291 : Nat) => (([(Value.agg (List.toArray [(Value.slice O ((x).1).1 C), (Value.slice A (x).2 D), (Value.slice H (x).4 E)])), (Value.pointer (Option.some (Addr.mk b0 0 (none : Option (Nat))))), (Value.pointer (Option.some (Addr.mk b1 0 (none : Option (Nat))))), (Value.pointer (Option.some (Addr.mk b272 0 (none : Option (Nat))))), (Value.int IntKind.i64 (0 : Int)), (Value.slice (Option.some (Addr.mk b2 0 (none : Option (Nat)))) 0 0), (Value.pointer (Option.some (Addr.mk b0 1 (none : Option (Nat))))), (Value.slice A (x).2 D), (Value.slice ao205 (x).2 cap206), (Value.slice (Option.some (Addr.mk b203 0 (none : Option (Nat)))) 0 0), (Value.pointer (Option.some (Addr.mk b0 2 (none : Option (Nat))))), (Value.slice H (x).4 E), (Value.slice ao274 (x).4 cap275), (Value.agg (List.toArray [(Value.slice (none : Option (Addr)) 0 0), (Value.slice ao205 (x).2 cap206), (Value.slice ao274 (x).4 cap275)])), (Value.tuple (List.toArray [])), (Value.tuple (List.toArray [])), (Value.tuple (List.toArray [])), (Value.tuple (List.toArray [])), (Value.tuple (List.toArray [])), (Value.tuple (List.toArray [])), (Value.tuple (List.toArray [])), (Value.tuple (List.toArray [])), (Value.tuple (List.toArray [])), (Value.tuple (List.toArray [])), (Value.tuple (List.toArray [])), (Value.tuple (List.toArray [])), (Value.tuple (List.toArray [])), (Value.tuple (List.toArray [])), (Value.tuple (List.toArray [])), (Value.tuple (List.toArray [])), (Value.tuple (List.toArray [])), (Value.tuple (List.toArray [])), (Value.tuple (List.toArray []))] = [(Value.agg (List.toArray [(Value.slice O ((x).1).1 C), (Value.slice A (x).2 D), (Value.slice H (x).4 E)])), (Value.pointer (Option.some (Addr.mk bp285 0 (none : Option (Nat))))), (Value.pointer (Option.some (Addr.mk br286 0 (none : Option (Nat))))), (Value.pointer (Option.some (Addr.mk bo287 0 (none : Option (Nat))))), (Value.int IntKind.i64 (0 : Int)), (Value.slice (Option.some (Addr.mk b2 0 (none : Option (Nat)))) 0 0), (Value.pointer (Option.some (Addr.mk b0 1 (none : Option (Nat))))), (Value.slice A (x).2 D), (Value.slice ao205 (x).2 cap206), (Value.slice (Option.some (Addr.mk b203 0 (none : Option (Nat)))) 0 0), (Value.pointer (Option.some (Addr.mk b0 2 (none : Option (Nat))))), (Value.slice H (x).4 E), (Value.slice ao274 (x).4 cap275), (Value.agg (List.toArray [(Value.slice (none : Option (Addr)) 0 0), (Value.slice ao205 (x).2 cap206), (Value.slice ao274 (x).4 cap275)])), (Value.tuple (List.toArray [])), (Value.tuple (List.toArray [])), (Value.tuple (List.toArray [])), (Value.tuple (List.toArray [])), (Value.tuple (List.toArray [])), (Value.tuple (List.toArray [])), (Value.tuple (List.toArray [])), (Value.tuple (List.toArray [])), (Value.tuple (List.toArray [])), (Value.tuple (List.toArray [])), (Value.tuple (List.toArray [])), (Value.tuple (List.toArray [])), (Value.tuple (List.toArray [])), (Value.tuple (List.toArray [])), (Value.tuple (List.toArray [])), (Value.tuple (List.toArray [])), (Value.tuple (List.toArray [])), (Value.tuple (List.toArray [])), (Value.tuple (List.toArray []))] ∧
 ((SelS [(Ch.row (Row.mk Bool.false O 0 2 ((x).1).1 0 [(fun (i292 : Nat) => (SC.sl 3 (so i292) (((x).1).2 i292) (sc i292))), (fun (i293 : Nat) => (SC.bool (((x).1).4 i293)))])), (Ch.row (Row.mk Bool.false A 0 1 (x).2 0 [(fun (i294 : Nat) => (SC.int ((x).3 i294)))])), (Ch.row (Row.mk Bool.false H 0 1 (x).4 0 [(fun (i295 : Nat) => (SC.int ((x).5 i295)))])), (Ch.obj Bool.false (symRows Bool.false 0 (x).1 so (fun (x296 : Nat) => 0))), (Ch.cells b0 33 [(SC.sl 0 O ((x).1).1 C), (SC.sl 1 A (x).2 D), (SC.sl 2 H (x).4 E)]), (Ch.cells b1 33 [SC.nil, SC.nil, SC.nil]), Ch.dead, Ch.dead, (Ch.row (Row.mk Bool.true ao205 3 1 (x).2 cap206 [(fun (i297 : Nat) => (SC.int ((x).3 i297)))])), (Ch.cells b272 33 [SC.nil, (SC.sl 8 ao205 (x).2 cap206), (SC.sl 10 ao274 (x).4 cap275)]), (Ch.row (Row.mk Bool.true ao274 3 1 (x).4 cap275 [(fun (i298 : Nat) => (SC.int ((x).5 i298)))]))] [0, 1, 2, 3, 4, 5, 9, 1000000, 8, 10, 1000003] [(Ch.row (Row.mk Bool.false O277 0 2 ((x276).1).1 0 [(fun (i299 : Nat) => (SC.sl 3 (so283 i299) (((x276).1).2 i299) (sc284 i299))), (fun (i300 : Nat) => (SC.bool (((x276).1).4 i300)))])), (Ch.row (Row.mk Bool.false A278 0 1 (x276).2 0 [(fun (i301 : Nat) => (SC.int ((x276).3 i301)))])), (Ch.row (Row.mk Bool.false H279 0 1 (x276).4 0 [(fun (i302 : Nat) => (SC.int ((x276).5 i302)))])), (Ch.obj Bool.false (symRows Bool.false 0 (x276).1 so283 (fun (x303 : Nat) => 0))), (Ch.cells bp285 33 [(SC.sl 0 O277 ((x276).1).1 C280), (SC.sl 1 A278 (x276).2 D281), (SC.sl 2 H279 (x276).4 E282)]), (Ch.cells br286 33 [SC.nil, SC.nil, SC.nil]), (Ch.cells bo287 33 [(SC.sl 7 (none : Option (Addr)) 0 0), (SC.sl 8 Aq288 (x276).2 Dq290), (SC.sl 9 Hq289 (x276).4 Ee291)]), (Ch.row (Row.mk Bool.true (none : Option (Addr)) 52 2 0 0 [(fun (i304 : Nat) => (SC.sl 10 (none : Option (Addr)) (((x276).1).2 i304) 0)), (fun (i305 : Nat) => (SC.bool (((x276).1).4 i305)))])), (Ch.row (Row.mk Bool.true Aq288 3 1 (x276).2 Dq290 [(fun (i306 : Nat) => (SC.int ((x276).3 i306)))])), (Ch.row (Row.mk Bool.true Hq289 3 1 (x276).4 Ee291 [(fun (i307 : Nat) => (SC.int ((x276).5 i307)))])), (Ch.obj Bool.true (symRows Bool.true 3 (CD.mk 0 ((x276).1).2 ((x276).1).3 ((x276).1).4) (fun (x308 : Nat) => (none : Option (Addr))) (fun (x309 : Nat) => 0)))]) ∧
 (capA x276))) ∧
 (∀ g310 : (Nat →
 Value),
 (∀ kx311 : Int,
 (∀ Oq312 : (Option Addr),
 (∀ Cq313 : Nat,
 (∀ soq314 : (Nat →
 (Option Addr)),
 (∀ scq315 : (Nat →
 Nat),
 (bo287 = bo287 ∧
 (br286 = br286 ∧
 (br286 = br286 ∧
 (Exists (fun (Oq316 : (Option Addr)) => (Exists (fun (Aq317 : (Option Addr)) => (Exists (fun (Hq318 : (Option Addr)) => (Exists (fun (Cq319 : Nat) => (Exists (fun (Dq320 : Nat) => (Exists (fun (Ee321 : Nat) => (Exists (fun (soq322 : (Nat →
 (Option Addr))) => (Exists (fun (scq323 : (Nat →
 Nat)) => ((Value.agg (List.toArray [(Value.slice Oq312 ((x276).1).1 Cq313), (Value.slice Aq288 (x276).2 Dq290), (Value.slice Hq289 (x276).4 Ee291)])) = (Value.agg (List.toArray [(Value.slice Oq316 ((x).1).1 Cq319), (Value.slice Aq317 (x).2 Dq320), (Value.slice Hq318 (x).4 Ee321)])) ∧
 (SelS [(Ch.row (Row.mk Bool.false O277 0 2 ((x276).1).1 0 [(fun (i324 : Nat) => (SC.sl 3 (so283 i324) (((x276).1).2 i324) (sc284 i324))), (fun (i325 : Nat) => (SC.bool (((x276).1).4 i325)))])), (Ch.row (Row.mk Bool.false A278 0 1 (x276).2 0 [(fun (i326 : Nat) => (SC.int ((x276).3 i326)))])), (Ch.row (Row.mk Bool.false H279 0 1 (x276).4 0 [(fun (i327 : Nat) => (SC.int ((x276).5 i327)))])), (Ch.obj Bool.false (symRows Bool.false 0 (x276).1 so283 (fun (x328 : Nat) => 0))), (Ch.cells bp285 33 [(SC.sl 0 O277 ((x276).1).1 C280), (SC.sl 1 A278 (x276).2 D281), (SC.sl 2 H279 (x276).4 E282)]), (Ch.cells br286 33 [(SC.sl 7 Oq312 ((x276).1).1 Cq313), (SC.sl 8 Aq288 (x276).2 Dq290), (SC.sl 9 Hq289 (x276).4 Ee291)]), (Ch.cells bo287 33 [(SC.sl 7 Oq312 ((x276).1).1 Cq313), (SC.sl 8 Aq288 (x276).2 Dq290), (SC.sl 9 Hq289 (x276).4 Ee291)]), (Ch.row (Row.mk Bool.true Oq312 52 2 ((x276).1).1 Cq313 [(fun (i329 : Nat) => (SC.sl 10 (soq314 i329) (((x276).1).2 i329) (scq315 i329))), (fun (i330 : Nat) => (SC.bool (((x276).1).4 i330)))])), (Ch.row (Row.mk Bool.true Aq288 3 1 (x276).2 Dq290 [(fun (i331 : Nat) => (SC.int ((x276).3 i331)))])), (Ch.row (Row.mk Bool.true Hq289 3 1 (x276).4 Ee291 [(fun (i332 : Nat) => (SC.int ((x276).5 i332)))])), (Ch.obj Bool.true (symRows Bool.true 3 (CD.mk ((x276).1).1 ((x276).1).2 ((x276).1).3 ((x276).1).4) soq314 scq315))] [7, 8, 9, 10] [(Ch.row (Row.mk Bool.true Oq316 52 2 ((x).1).1 Cq319 [(fun (i333 : Nat) => (SC.sl 3 (soq322 i333) (((x).1).2 i333) (scq323 i333))), (fun (i334 : Nat) => (SC.bool (((x).1).4 i334)))])), (Ch.row (Row.mk Bool.true Aq317 3 1 (x).2 Dq320 [(fun (i335 : Nat) => (SC.int ((x).3 i335)))])), (Ch.row (Row.mk Bool.true Hq318 3 1 (x).4 Ee321 [(fun (i336 : Nat) => (SC.int ((x).5 i336)))])), (Ch.obj Bool.true (symRows Bool.true 3 (x).1 soq322 scq323))]))))))))))))))))))))))))))))))))))))))))))))))))))))))))))))))))))))))))) ∧
 (∀ b337 : Nat,
 (True ∧
 ((b2 = b2 ∧
 ((A = A ∧
 (x).2 = (x).2) ∧
 ((∀ i338 : Nat,
 Bool.true = Bool.true) ∧
 (apC 0 (x).2 8)))) ∧
 (∀ ao339 : (Option Addr),
 (∀ cap340 : Nat,
 (True ∧
 ((b203 = b203 ∧
 ((H = H ∧
 (x).4 = (x).4) ∧
 ((∀ i341 : Nat,
 Bool.true = Bool.true) ∧
 (apC 0 (x).4 8)))) ∧
 (∀ ao342 : (Option Addr),
 (∀ cap343 : Nat,
 (True ∧
 (b337 = b337 ∧
 (True ∧
 (Exists (fun (x344 : AD) => (Exists (fun (O345 : (Option Addr)) => (Exists (fun (A346 : (Option Addr)) => (Exists (fun (H347 : (Option Addr)) => (Exists (fun (C348 : Nat) => (Exists (fun (D349 : Nat) => (Exists (fun (E350 : Nat) => (Exists (fun (so351 : (Nat →
 (Option Addr))) => (Exists (fun (sc352 : (Nat →
 Nat)) => (Exists (fun (bp353 : Nat) => (Exists (fun (br354 : Nat) => (Exists (fun (bo355 : Nat) => (Exists (fun (Aq356 : (Option Addr)) => (Exists (fun (Hq357 : (Option Addr)) => (Exists (fun (Dq358 : Nat) => (Exists (fun (Ee359 : Nat) => (([(Value.agg (List.toArray [(Value.slice O ((x).1).1 C), (Value.slice A (x).2 D), (Value.slice H (x).4 E)])), (Value.pointer (Option.some (Addr.mk b0 0 (none : Option (Nat))))), (Value.pointer (Option.some (Addr.mk b1 0 (none : Option (Nat))))), (Value.pointer (Option.some (Addr.mk b337 0 (none : Option (Nat))))), (Value.int IntKind.i64 (0 : Int)), (Value.slice (Option.some (Addr.mk b2 0 (none : Option (Nat)))) 0 0), (Value.pointer (Option.some (Addr.mk b0 1 (none : Option (Nat))))), (Value.slice A (x).2 D), (Value.slice ao339 (x).2 cap340), (Value.slice (Option.some (Addr.mk b203 0 (none : Option (Nat)))) 0 0), (Value.pointer (Option.some (Addr.mk b0 2 (none : Option (Nat))))), (Value.slice H (x).4 E), (Value.slice ao342 (x).4 cap343), (Value.agg (List.toArray [(Value.slice (none : Option (Addr)) 0 0), (Value.slice ao339 (x).2 cap340), (Value.slice ao342 (x).4 cap343)])), (Value.tuple (List.toArray [])), (Value.tuple (List.toArray [])), (Value.tuple (List.toArray [])), (Value.tuple (List.toArray [])), (Value.tuple (List.toArray [])), (Value.tuple (List.toArray [])), (Value.tuple (List.toArray [])), (Value.tuple (List.toArray [])), (Value.tuple (List.toArray [])), (Value.tuple (List.toArray [])), (Value.tuple (List.toArray [])), (Value.tuple (List.toArray [])), (Value.tuple (List.toArray [])), (Value.tuple (List.toArray [])), (Value.tuple (List.toArray [])), (Value.tuple (List.toArray [])), (Value.tuple (List.toArray [])), (Value.tuple (List.toArray [])), (Value.tuple (List.toArray []))] = [(Value.agg (List.toArray [(Value.slice O ((x).1).1 C), (Value.slice A (x).2 D), (Value.slice H (x).4 E)])), (Value.pointer (Option.some (Addr.mk bp353 0 (none : Option (Nat))))), (Value.pointer (Option.some (Addr.mk br354 0 (none : Option (Nat))))), (Value.pointer (Option.some (Addr.mk bo355 0 (none : Option (Nat))))), (Value.int IntKind.i64 (0 : Int)), (Value.slice (Option.some (Addr.mk b2 0 (none : Option (Nat)))) 0 0), (Value.pointer (Option.some (Addr.mk b0 1 (none : Option (Nat))))), (Value.slice A (x).2 D), (Value.slice ao339 (x).2 cap340), (Value.slice (Option.some (Addr.mk b203 0 (none : Option (Nat)))) 0 0), (Value.pointer (Option.some (Addr.mk b0 2 (none : Option (Nat))))), (Value.slice H (x).4 E), (Value.slice ao342 (x).4 cap343), (Value.agg (List.toArray [(Value.slice (none : Option (Addr)) 0 0), (Value.slice ao339 (x).2 cap340), (Value.slice ao342 (x).4 cap343)])), (Value.tuple (List.toArray [])), (Value.tuple (List.toArray [])), (Value.tuple (List.toArray [])), (Value.tuple (List.toArray [])), (Value.tuple (List.toArray [])), (Value.tuple (List.toArray [])), (Value.tuple (List.toArray [])), (Value.tuple (List.toArray [])), (Value.tuple (List.toArray [])), (Value.tuple (List.toArray [])), (Value.tuple (List.toArray [])), (Value.tuple (List.toArray [])), (Value.tuple (List.toArray [])), (Value.tuple (List.toArray [])), (Value.tuple (List.toArray [])), (Value.tuple (List.toArray [])), (Value.tuple (List.toArray [])), (Value.tuple (List.toArray [])), (Value.tuple (List.toArray []))] ∧
 ((SelS [(Ch.row (Row.mk Bool.false O 0 2 ((x).1).1 0 [(fun (i360 : Nat) => (SC.sl 3 (so i360) (((x).1).2 i360) (sc i360))), (fun (i361 : Nat) => (SC.bool (((x).1).4 i361)))])), (Ch.row (Row.mk Bool.false A 0 1 (x).2 0 [(fun (i362 : Nat) => (SC.int ((x).3 i362)))])), (Ch.row (Row.mk Bool.false H 0 1 (x).4 0 [(fun (i363 : Nat) => (SC.int ((x).5 i363)))])), (Ch.obj Bool.false (symRows Bool.false 0 (x).1 so (fun (x364 : Nat) => 0))), (Ch.cells b0 33 [(SC.sl 0 O ((x).1).1 C), (SC.sl 1 A (x).2 D), (SC.sl 2 H (x).4 E)]), (Ch.cells b1 33 [SC.nil, SC.nil, SC.nil]), Ch.dead, Ch.dead, (Ch.cells b337 33 [SC.nil, (SC.sl 9 ao339 (x).2 cap340), (SC.sl 10 ao342 (x).4 cap343)]), (Ch.row (Row.mk Bool.true ao339 3 1 (x).2 cap340 [(fun (i365 : Nat) => (SC.int ((x).3 i365)))])), (Ch.row (Row.mk Bool.true ao342 3 1 (x).4 cap343 [(fun (i366 : Nat) => (SC.int ((x).5 i366)))]))] [0, 1, 2, 3, 4, 5, 8, 1000000, 9, 10, 1000003] [(Ch.row (Row.mk Bool.false O345 0 2 ((x344).1).1 0 [(fun (i367 : Nat) => (SC.sl 3 (so351 i367) (((x344).1).2 i367) (sc352 i367))), (fun (i368 : Nat) => (SC.bool (((x344).1).4 i368)))])), (Ch.row (Row.mk Bool.false A346 0 1 (x344).2 0 [(fun (i369 : Nat) => (SC.int ((x344).3 i369)))])), (Ch.row (Row.mk Bool.false H347 0 1 (x344).4 0 [(fun (i370 : Nat) => (SC.int ((x344).5 i370)))])), (Ch.obj Bool.false (symRows Bool.false 0 (x344).1 so351 (fun (x371 : Nat) => 0))), (Ch.cells bp353 33 [(SC.sl 0 O345 ((x344).1).1 C348), (SC.sl 1 A346 (x344).2 D349), (SC.sl 2 H347 (x344).4 E350)]), (Ch.cells br354 33 [SC.nil, SC.nil, SC.nil]), (Ch.cells bo355 33 [(SC.sl 7 (none : Option (Addr)) 0 0), (SC.sl 8 Aq356 (x344).2 Dq358), (SC.sl 9 Hq357 (x344).4 Ee359)]), (Ch.row (Row.mk Bool.true (none : Option (Addr)) 52 2 0 0 [(fun (i372 : Nat) => (SC.sl 10 (none : Option (Addr)) (((x344).1).2 i372) 0)), (fun (i373 : Nat) => (SC.bool (((x344).1).4 i373)))])), (Ch.row (Row.mk Bool.true Aq356 3 1 (x344).2 Dq358 [(fun (i374 : Nat) => (SC.int ((x344).3 i374)))])), (Ch.row (Row.mk Bool.true Hq357 3 1 (x344).4 Ee359 [(fun (i375 : Nat) => (SC.int ((x344).5 i375)))])), (Ch.obj Bool.true (symRows Bool.true 3 (CD.mk 0 ((x344).1).2 ((x344).1).3 ((x344).1).4) (fun (x376 : Nat) => (none : Option (Addr))) (fun (x377 : Nat) => 0)))]) ∧
 (capA x344))) ∧
 (∀ g378 : (Nat →
 Value),
 (∀ kx379 : Int,
 (∀ Oq380 : (Option Addr),
 (∀ Cq381 : Nat,
 (∀ soq382 : (Nat →
 (Option Addr)),
 (∀ scq383 : (Nat →
 Nat),
 (bo355 = bo355 ∧
 (br354 = br354 ∧
 (br354 = br354 ∧
 (Exists (fun (Oq384 : (Option Addr)) => (Exists (fun (Aq385 : (Option Addr)) => (Exists (fun (Hq386 : (Option Addr)) => (Exists (fun (Cq387 : Nat) => (Exists (fun (Dq388 : Nat) => (Exists (fun (Ee389 : Nat) => (Exists (fun (soq390 : (Nat →
 (Option Addr))) => (Exists (fun (scq391 : (Nat →
 Nat)) => ((Value.agg (List.toArray [(Value.slice Oq380 ((x344).1).1 Cq381), (Value.slice Aq356 (x344).2 Dq358), (Value.slice Hq357 (x344).4 Ee359)])) = (Value.agg (List.toArray [(Value.slice Oq384 ((x).1).1 Cq387), (Value.slice Aq385 (x).2 Dq388), (Value.slice Hq386 (x).4 Ee389)])) ∧
 (SelS [(Ch.row (Row.mk Bool.false O345 0 2 ((x344).1).1 0 [(fun (i392 : Nat) => (SC.sl 3 (so351 i392) (((x344).1).2 i392) (sc352 i392))), (fun (i393 : Nat) => (SC.bool (((x344).1).4 i393)))])), (Ch.row (Row.mk Bool.false A346 0 1 (x344).2 0 [(fun (i394 : Nat) => (SC.int ((x344).3 i394)))])), (Ch.row (Row.mk Bool.false H347 0 1 (x344).4 0 [(fun (i395 : Nat) => (SC.int ((x344).5 i395)))])), (Ch.obj Bool.false (symRows Bool.false 0 (x344).1 so351 (fun (x396 : Nat) => 0))), (Ch.cells bp353 33 [(SC.sl 0 O345 ((x344).1).1 C348), (SC.sl 1 A346 (x344).2 D349), (SC.sl 2 H347 (x344).4 E350)]), (Ch.cells br354 33 [(SC.sl 7 Oq380 ((x344).1).1 Cq381), (SC.sl 8 Aq356 (x344).2 Dq358), (SC.sl 9 Hq357 (x344).4 Ee359)]), (Ch.cells bo355 33 [(SC.sl 7 Oq380 ((x344).1).1 Cq381), (SC.sl 8 Aq356 (x344).2 Dq358), (SC.sl 9 Hq357 (x344).4 Ee359)]), (Ch.row (Row.mk Bool.true Oq380 52 2 ((x344).1).1 Cq381 [(fun (i397 : Nat) => (SC.sl 10 (soq382 i397) (((x344).1).2 i397) (scq383 i397))), (fun (i398 : Nat) => (SC.bool (((x344).1).4 i398)))])), (Ch.row (Row.mk Bool.true Aq356 3 1 (x344).2 Dq358 [(fun (i399 : Nat) => (SC.int ((x344).3 i399)))])), (Ch.row (Row.mk Bool.true Hq357 3 1 (x344).4 Ee359 [(fun (i400 : Nat) => (SC.int ((x344).5 i400)))])), (Ch.obj Bool.true (symRows Bool.true 3 (CD.mk ((x344).1).1 ((x344).1).2 ((x344).1).3 ((x344).1).4) soq382 scq383))] [7, 8, 9, 10] [(Ch.row (Row.mk Bool.true Oq384 52 2 ((x).1).1 Cq387 [(fun (i401 : Nat) => (SC.sl 3 (soq390 i401) (((x).1).2 i401) (scq391 i401))), (fun (i402 : Nat) => (SC.bool (((x).1).4 i402)))])), (Ch.row (Row.mk Bool.true Aq385 3 1 (x).2 Dq388 [(fun (i403 : Nat) => (SC.int ((x).3 i403)))])), (Ch.row (Row.mk Bool.true Hq386 3 1 (x).4 Ee389 [(fun (i404 : Nat) => (SC.int ((x).5 i404)))])), (Ch.obj Bool.true (symRows Bool.true 3 (x).1 soq390 scq391))]))))))))))))))))))))))))))))))))))))))))))))))))))))))))))))))))))))))))))) ∧
 (∀ b405 : Nat,
 (True ∧
 (((b2 = b2 ∧
 ((A = A ∧
 (x).2 = (x).2) ∧
 ((∀ i406 : Nat,
 Bool.true = Bool.true) ∧
 (apC 0 (x).2 8)))) ∧
 (∀ ao407 : (Option Addr),
 (∀ cap408 : Nat,
 (True ∧
 (∀ b409 : Nat,
 (True ∧
 ((b409 = b409 ∧
 ((H = H ∧
 (x).4 = (x).4) ∧
 ((∀ i410 : Nat,
 Bool.true = Bool.true) ∧
 (apC 0 (x).4 8)))) ∧
 (∀ ao411 : (Option Addr),
 (∀ cap412 : Nat,
 (True ∧
 (b405 = b405 ∧
 (True ∧
 (Exists (fun (x413 : AD) => (Exists (fun (O414 : (Option Addr)) => (Exists (fun (A415 : (Option Addr)) => (Exists (fun (H416 : (Option Addr)) => (Exists (fun (C417 : Nat) => (Exists (fun (D418 : Nat) => (Exists (fun (E419 : Nat) => (Exists (fun (so420 : (Nat →
 (Option Addr))) => (Exists (fun (sc421 : (Nat →
 Nat)) => (Exists (fun (bp422 : Nat) => (Exists (fun (br423 : Nat) => (Exists (fun (bo424 : Nat) => (Exists (fun (Aq425 : (Option Addr)) => (Exists (fun (Hq426 : (Option Addr)) => (Exists (fun (Dq427 : Nat) => (Exists (fun (Ee428 : Nat) => (([(Value.agg (List.toArray [(Value.slice O ((x).1).1 C), (Value.slice A (x).2 D), (Value.slice H (x).4 E)])), (Value.pointer (Option.some (Addr.mk b0 0 (none : Option (Nat))))), (Value.pointer (Option.some (Addr.mk b1 0 (none : Option (Nat))))), (Value.pointer (Option.some (Addr.mk b405 0 (none : Option (Nat))))), (Value.int IntKind.i64 (0 : Int)), (Value.slice (Option.some (Addr.mk b2 0 (none : Option (Nat)))) 0 0), (Value.pointer (Option.some (Addr.mk b0 1 (none : Option (Nat))))), (Value.slice A (x).2 D), (Value.slice ao407 (x).2 cap408), (Value.slice (Option.some (Addr.mk b409 0 (none : Option (Nat)))) 0 0), (Value.pointer (Option.some (Addr.mk b0 2 (none : Option (Nat))))), (Value.slice H (x).4 E), (Value.slice ao411 (x).4 cap412), (Value.agg (List.toArray [(Value.slice (none : Option (Addr)) 0 0), (Value.slice ao407 (x).2 cap408), (Value.slice ao411 (x).4 cap412)])), (Value.tuple (List.toArray [])), (Value.tuple (List.toArray [])), (Value.tuple (List.toArray [])), (Value.tuple (List.toArray [])), (Value.tuple (List.toArray [])), (Value.tuple (List.toArray [])), (Value.tuple (List.toArray [])), (Value.tuple (List.toArray [])), (Value.tuple (List.toArray [])), (Value.tuple (List.toArray [])), (Value.tuple (List.toArray [])), (Value.tuple (List.toArray [])), (Value.tuple (List.toArray [])), (Value.tuple (List.toArray [])), (Value.tuple (List.toArray [])), (Value.tuple (List.toArray [])), (Value.tuple (List.toArray [])), (Value.tuple (List.toArray [])), (Value.tuple (List.toArray []))] = [(Value.agg (List.toArray [(Value.slice O ((x).1).1 C), (Value.slice A (x).2 D), (Value.slice H (x).4 E)])), (Value.pointer (Option.some (Addr.mk bp422 0 (none : Option (Nat))))), (Value.pointer (Option.some (Addr.mk br423 0 (none : Option (Nat))))), (Value.pointer (Option.some (Addr.mk bo424 0 (none : Option (Nat))))), (Value.int IntKind.i64 (0 : Int)), (Value.slice (Option.some (Addr.mk b2 0 (none : Option (Nat)))) 0 0), (Value.pointer (Option.some (Addr.mk b0 1 (none : Option (Nat))))), (Value.slice A (x).2 D), (Value.slice ao407 (x).2 cap408), (Value.slice (Option.some (Addr.mk b409 0 (none : Option (Nat)))) 0 0), (Value.pointer (Option.some (Addr.mk b0 2 (none : Option (Nat))))), (Value.slice H (x).4 E), (Value.slice ao411 (x).4 cap412), (Value.agg (List.toArray [(Value.slice (none : Option (Addr)) 0 0), (Value.slice ao407 (x).2 cap408), (Value.slice ao411 (x).4 cap412)])), (Value.tuple (List.toArray [])), (Value.tuple (List.toArray [])), (Value.tuple (List.toArray [])), (Value.tuple (List.toArray [])), (Value.tuple (List.toArray [])), (Value.tuple (List.toArray [])), (Value.tuple (List.toArray [])), (Value.tuple (List.toArray [])), (Value.tuple (List.toArray [])), (Value.tuple (List.toArray [])), (Value.tuple (List.toArray [])), (Value.tuple (List.toArray [])), (Value.tuple (List.toArray [])), (Value.tuple (List.toArray [])), (Value.tuple (List.toArray [])), (Value.tuple (List.toArray [])), (Value.tuple (List.toArray [])), (Value.tuple (List.toArray [])), (Value.tuple (List.toArray []))] ∧
 ((SelS [(Ch.row (Row.mk Bool.false O 0 2 ((x).1).1 0 [(fun (i429 : Nat) => (SC.sl 3 (so i429) (((x).1).2 i429) (sc i429))), (fun (i430 : Nat) => (SC.bool (((x).1).4 i430)))])), (Ch.row (Row.mk Bool.false A 0 1 (x).2 0 [(fun (i431 : Nat) => (SC.int ((x).3 i431)))])), (Ch.row (Row.mk Bool.false H 0 1 (x).4 0 [(fun (i432 : Nat) => (SC.int ((x).5 i432)))])), (Ch.obj Bool.false (symRows Bool.false 0 (x).1 so (fun (x433 : Nat) => 0))), (Ch.cells b0 33 [(SC.sl 0 O ((x).1).1 C), (SC.sl 1 A (x).2 D), (SC.sl 2 H (x).4 E)]), (Ch.cells b1 33 [SC.nil, SC.nil, SC.nil]), Ch.dead, (Ch.cells b405 33 [SC.nil, (SC.sl 8 ao407 (x).2 cap408), (SC.sl 10 ao411 (x).4 cap412)]), (Ch.row (Row.mk Bool.true ao407 3 1 (x).2 cap408 [(fun (i434 : Nat) => (SC.int ((x).3 i434)))])), Ch.dead, (Ch.row (Row.mk Bool.true ao411 3 1 (x).4 cap412 [(fun (i435 : Nat) => (SC.int ((x).5 i435)))]))] [0, 1, 2, 3, 4, 5, 7, 1000000, 8, 10, 1000003] [(Ch.row (Row.mk Bool.false O414 0 2 ((x413).1).1 0 [(fun (i436 : Nat) => (SC.sl 3 (so420 i436) (((x413).1).2 i436) (sc421 i436))), (fun (i437 : Nat) => (SC.bool (((x413).1).4 i437)))])), (Ch.row (Row.mk Bool.false A415 0 1 (x413).2 0 [(fun (i438 : Nat) => (SC.int ((x413).3 i438)))])), (Ch.row (Row.mk Bool.false H416 0 1 (x413).4 0 [(fun (i439 : Nat) => (SC.int ((x413).5 i439)))])), (Ch.obj Bool.false (symRows Bool.false 0 (x413).1 so420 (fun (x440 : Nat) => 0))), (Ch.cells bp422 33 [(SC.sl 0 O414 ((x413).1).1 C417), (SC.sl 1 A415 (x413).2 D418), (SC.sl 2 H416 (x413).4 E419)]), (Ch.cells br423 33 [SC.nil, SC.nil, SC.nil]), (Ch.cells bo424 33 [(SC.sl 7 (none : Option (Addr)) 0 0), (SC.sl 8 Aq425 (x413).2 Dq427), (SC.sl 9 Hq426 (x413).4 Ee428)]), (Ch.row (Row.mk Bool.true (none : Option (Addr)) 52 2 0 0 [(fun (i441 : Nat) => (SC.sl 10 (none : Option (Addr)) (((x413).1).2 i441) 0)), (fun (i442 : Nat) => (SC.bool (((x413).1).4 i442)))])), (Ch.row (Row.mk Bool.true Aq425 3 1 (x413).2 Dq427 [(fun (i443 : Nat) => (SC.int ((x413).3 i443)))])), (Ch.row (Row.mk Bool.true Hq426 3 1 (x413).4 Ee428 [(fun (i444 : Nat) => (SC.int ((x413).5 i444)))])), (Ch.obj Bool.true (symRows Bool.true 3 (CD.mk 0 ((x413).1).2 ((x413).1).3 ((x413).1).4) (fun (x445 : Nat) => (none : Option (Addr))) (fun (x446 : Nat) => 0)))]) ∧
 (capA x413))) ∧
 (∀ g447 : (Nat →
 Value),
 (∀ kx448 : Int,
 (∀ Oq449 : (Option Addr),
 (∀ Cq450 : Nat,
 (∀ soq451 : (Nat →
 (Option Addr)),
 (∀ scq452 : (Nat →
 Nat),
 (bo424 = bo424 ∧
 (br423 = br423 ∧
 (br423 = br423 ∧
 (Exists (fun (Oq453 : (Option Addr)) => (Exists (fun (Aq454 : (Option Addr)) => (Exists (fun (Hq455 : (Option Addr)) => (Exists (fun (Cq456 : Nat) => (Exists (fun (Dq457 : Nat) => (Exists (fun (Ee458 : Nat) => (Exists (fun (soq459 : (Nat →
 (Option Addr))) => (Exists (fun (scq460 : (Nat →
 Nat)) => ((Value.agg (List.toArray [(Value.slice Oq449 ((x413).1).1 Cq450), (Value.slice Aq425 (x413).2 Dq427), (Value.slice Hq426 (x413).4 Ee428)])) = (Value.agg (List.toArray [(Value.slice Oq453 ((x).1).1 Cq456), (Value.slice Aq454 (x).2 Dq457), (Value.slice Hq455 (x).4 Ee458)])) ∧
 (SelS [(Ch.row (Row.mk Bool.false O414 0 2 ((x413).1).1 0 [(fun (i461 : Nat) => (SC.sl 3 (so420 i461) (((x413).1).2 i461) (sc421 i461))), (fun (i462 : Nat) => (SC.bool (((x413).1).4 i462)))])), (Ch.row (Row.mk Bool.false A415 0 1 (x413).2 0 [(fun (i463 : Nat) => (SC.int ((x413).3 i463)))])), (Ch.row (Row.mk Bool.false H416 0 1 (x413).4 0 [(fun (i464 : Nat) => (SC.int ((x413).5 i464)))])), (Ch.obj Bool.false (symRows Bool.false 0 (x413).1 so420 (fun (x465 : Nat) => 0))), (Ch.cells bp422 33 [(SC.sl 0 O414 ((x413).1).1 C417), (SC.sl 1 A415 (x413).2 D418), (SC.sl 2 H416 (x413).4 E419)]), (Ch.cells br423 33 [(SC.sl 7 Oq449 ((x413).1).1 Cq450), (SC.sl 8 Aq425 (x413).2 Dq427), (SC.sl 9 Hq426 (x413).4 Ee428)]), (Ch.cells bo424 33 [(SC.sl 7 Oq449 ((x413).1).1 Cq450), (SC.sl 8 Aq425 (x413).2 Dq427), (SC.sl 9 Hq426 (x413).4 Ee428)]), (Ch.row (Row.mk Bool.true Oq449 52 2 ((x413).1).1 Cq450 [(fun (i466 : Nat) => (SC.sl 10 (soq451 i466) (((x413).1).2 i466) (scq452 i466))), (fun (i467 : Nat) => (SC.bool (((x413).1).4 i467)))])), (Ch.row (Row.mk Bool.true Aq425 3 1 (x413).2 Dq427 [(fun (i468 : Nat) => (SC.int ((x413).3 i468)))])), (Ch.row (Row.mk Bool.true Hq426 3 1 (x413).4 Ee428 [(fun (i469 : Nat) => (SC.int ((x413).5 i469)))])), (Ch.obj Bool.true (symRows Bool.true 3 (CD.mk ((x413).1).1 ((x413).1).2 ((x413).1).3 ((x413).1).4) soq451 scq452))] [7, 8, 9, 10] [(Ch.row (Row.mk Bool.true Oq453 52 2 ((x).1).1 Cq456 [(fun (i470 : Nat) => (SC.sl 3 (soq459 i470) (((x).1).2 i470) (scq460 i470))), (fun (i471 : Nat) => (SC.bool (((x).1).4 i471)))])), (Ch.row (Row.mk Bool.true Aq454 3 1 (x).2 Dq457 [(fun (i472 : Nat) => (SC.int ((x).3 i472)))])), (Ch.row (Row.mk Bool.true Hq455 3 1 (x).4 Ee458 [(fun (i473 : Nat) => (SC.int ((x).5 i473)))])), (Ch.obj Bool.true (symRows Bool.true 3 (x).1 soq459 scq460))])))))))))))))))))))))))))))))))))))))))))))))))))))))))))))))))))))))))) ∧
 (∀ b474 : Nat,
 (True ∧
 ((b2 = b2 ∧
 ((A = A ∧
 (x).2 = (x).2) ∧
 ((∀ i475 : Nat,
 Bool.true = Bool.true) ∧
 (apC 0 (x).2 8)))) ∧
 (∀ ao476 : (Option Addr),
 (∀ cap477 : Nat,
 (True ∧
 ((b474 = b474 ∧
 ((H = H ∧
 (x).4 = (x).4) ∧
 ((∀ i478 : Nat,
 Bool.true = Bool.true) ∧
 (apC 0 (x).4 8)))) ∧
 (∀ ao479 : (Option Addr),
 (∀ cap480 : Nat,
 (True ∧
 (b405 = b405 ∧
 (True ∧
 (Exists (fun (x481 : AD) => (Exists (fun (O482 : (Option Addr)) => (Exists (fun (A483 : (Option Addr)) => (Exists (fun (H484 : (Option Addr)) => (Exists (fun (C485 : Nat) => (Exists (fun (D486 : Nat) => (Exists (fun (E487 : Nat) => (Exists (fun (so488 : (Nat →
 (Option Addr))) => (Exists (fun (sc489 : (Nat →
 Nat)) => (Exists (fun (bp490 : Nat) => (Exists (fun (br491 : Nat) => (Exists (fun (bo492 : Nat) => (Exists (fun (Aq493 : (Option Addr)) => (Exists (fun (Hq494 : (Option Addr)) => (Exists (fun (Dq495 : Nat) => (Exists (fun (Ee496 : Nat) => (([(Value.agg (List.toArray [(Value.slice O ((x).1).1 C), (Value.slice A (x).2 D), (Value.slice H (x).4 E)])), (Value.pointer (Option.some (Addr.mk b0 0 (none : Option (Nat))))), (Value.pointer (Option.some (Addr.mk b1 0 (none : Option (Nat))))), (Value.pointer (Option.some (Addr.mk b405 0 (none : Option (Nat))))), (Value.int IntKind.i64 (0 : Int)), (Value.slice (Option.some (Addr.mk b2 0 (none : Option (Nat)))) 0 0), (Value.pointer (Option.some (Addr.mk b0 1 (none : Option (Nat))))), (Value.slice A (x).2 D), (Value.slice ao476 (x).2 cap477), (Value.slice (Option.some (Addr.mk b474 0 (none : Option (Nat)))) 0 0), (Value.pointer (Option.some (Addr.mk b0 2 (none : Option (Nat))))), (Value.slice H (x).4 E), (Value.slice ao479 (x).4 cap480), (Value.agg (List.toArray [(Value.slice (none : Option (Addr)) 0 0), (Value.slice ao476 (x).2 cap477), (Value.slice ao479 (x).4 cap480)])), (Value.tuple (List.toArray [])), (Value.tuple (List.toArray [])), (Value.tuple (List.toArray [])), (Value.tuple (List.toArray [])), (Value.tuple (List.toArray [])), (Value.tuple (List.toArray [])), (Value.tuple (List.toArray [])), (Value.tuple (List.toArray [])), (Value.tuple (List.toArray [])), (Value.tuple (List.toArray [])), (Value.tuple (List.toArray [])), (Value.tuple (List.toArray [])), (Value.tuple (List.toArray [])), (Value.tuple (List.toArray [])), (Value.tuple (List.toArray [])), (Value.tuple (List.toArray [])), (Value.tuple (List.toArray [])), (Value.tuple (List.toArray [])), (Value.tuple (List.toArray []))] = [(Value.agg (List.toArray [(Value.slice O ((x).1).1 C), (Value.slice A (x).2 D), (Value.slice H (x).4 E)])), (Value.pointer (Option.some (Addr.mk bp490 0 (none : Option (Nat))))), (Value.pointer (Option.some (Addr.mk br491 0 (none : Option (Nat))))), (Value.pointer (Option.some (Addr.mk bo492 0 (none : Option (Nat))))), (Value.int IntKind.i64 (0 : Int)), (Value.slice (Option.some (Addr.mk b2 0 (none : Option (Nat)))) 0 0), (Value.pointer (Option.some (Addr.mk b0 1 (none : Option (Nat))))), (Value.slice A (x).2 D), (Value.slice ao476 (x).2 cap477), (Value.slice (Option.some (Addr.mk b474 0 (none : Option (Nat)))) 0 0), (Value.pointer (Option.some (Addr.mk b0 2 (none : Option (Nat))))), (Value.slice H (x).4 E), (Value.slice ao479 (x).4 cap480), (Value.agg (List.toArray [(Value.slice (none : Option (Addr)) 0 0), (Value.slice ao476 (x).2 cap477), (Value.slice ao479 (x).4 cap480)])), (Value.tuple (List.toArray [])), (Value.tuple (List.toArray [])), (Value.tuple (List.toArray [])), (Value.tuple (List.toArray [])), (Value.tuple (List.toArray [])), (Value.tuple (List.toArray [])), (Value.tuple (List.toArray [])), (Value.tuple (List.toArray [])), (Value.tuple (List.toArray [])), (Value.tuple (List.toArray [])), (Value.tuple (List.toArray [])), (Value.tuple (List.toArray [])), (Value.tuple (List.toArray [])), (Value.tuple (List.toArray [])), (Value.tuple (List.toArray [])), (Value.tuple (List.toArray [])), (Value.tuple (List.toArray [])), (Value.tuple (List.toArray [])), (Value.tuple (List.toArray []))] ∧
 ((SelS [(Ch.row (Row.mk Bool.false O 0 2 ((x).1).1 0 [(fun (i497 : Nat) => (SC.sl 3 (so i497) (((x).1).2 i497) (sc i497))), (fun (i498 : Nat) => (SC.bool (((x).1).4 i498)))])), (Ch.row (Row.mk Bool.false A 0 1 (x).2 0 [(fun (i499 : Nat) => (SC.int ((x).3 i499)))])), (Ch.row (Row.mk Bool.false H 0 1 (x).4 0 [(fun (i500 : Nat) => (SC.int ((x).5 i500)))])), (Ch.obj Bool.false (symRows Bool.false 0 (x).1 so (fun (x501 : Nat) => 0))), (Ch.cells b0 33 [(SC.sl 0 O ((x).1).1 C), (SC.sl 1 A (x).2 D), (SC.sl 2 H (x).4 E)]), (Ch.cells b1 33 [SC.nil, SC.nil, SC.nil]), Ch.dead, (Ch.cells b405 33 [SC.nil, (SC.sl 9 ao476 (x).2 cap477), (SC.sl 10 ao479 (x).4 cap480)]), Ch.dead, (Ch.row (Row.mk Bool.true ao476 3 1 (x).2 cap477 [(fun (i502 : Nat) => (SC.int ((x).3 i502)))])), (Ch.row (Row.mk Bool.true ao479 3 1 (x).4 cap480 [(fun (i503 : Nat) => (SC.int ((x).5 i503)))]))] [0, 1, 2, 3, 4, 5, 7, 1000000, 9, 10, 1000003] [(Ch.row (Row.mk Bool.false O482 0 2 ((x481).1).1 0 [(fun (i504 : Nat) => (SC.sl 3 (so488 i504) (((x481).1).2 i504) (sc489 i504))), (fun (i505 : Nat) => (SC.bool (((x481).1).4 i505)))])), (Ch.row (Row.mk Bool.false A483 0 1 (x481).2 0 [(fun (i506 : Nat) => (SC.int ((x481).3 i506)))])), (Ch.row (Row.mk Bool.false H484 0 1 (x481).4 0 [(fun (i507 : Nat) => (SC.int ((x481).5 i507)))])), (Ch.obj Bool.false (symRows Bool.false 0 (x481).1 so488 (fun (x508 : Nat) => 0))), (Ch.cells bp490 33 [(SC.sl 0 O482 ((x481).1).1 C485), (SC.sl 1 A483 (x481).2 D486), (SC.sl 2 H484 (x481).4 E487)]), (Ch.cells br491 33 [SC.nil, SC.nil, SC.nil]), (Ch.cells bo492 33 [(SC.sl 7 (none : Option (Addr)) 0 0), (SC.sl 8 Aq493 (x481).2 Dq495), (SC.sl 9 Hq494 (x481).4 Ee496)]), (Ch.row (Row.mk Bool.true (none : Option (Addr)) 52 2 0 0 [(fun (i509 : Nat) => (SC.sl 10 (none : Option (Addr)) (((x481).1).2 i509) 0)), (fun (i510 : Nat) => (SC.bool (((x481).1).4 i510)))])), (Ch.row (Row.mk Bool.true Aq493 3 1 (x481).2 Dq495 [(fun (i511 : Nat) => (SC.int ((x481).3 i511)))])), (Ch.row (Row.mk Bool.true Hq494 3 1 (x481).4 Ee496 [(fun (i512 : Nat) => (SC.int ((x481).5 i512)))])), (Ch.obj Bool.true (symRows Bool.true 3 (CD.mk 0 ((x481).1).2 ((x481).1).3 ((x481).1).4) (fun (x513 : Nat) => (none : Option (Addr))) (fun (x514 : Nat) => 0)))]) ∧
 (capA x481))) ∧
 (∀ g515 : (Nat →
 Value),
 (∀ kx516 : Int,
 (∀ Oq517 : (Option Addr),
 (∀ Cq518 : Nat,
 (∀ soq519 : (Nat →
 (Option Addr)),
 (∀ scq520 : (Nat →
 Nat),
 (bo492 = bo492 ∧
 (br491 = br491 ∧
 (br491 = br491 ∧
 (Exists (fun (Oq521 : (Option Addr)) => (Exists (fun (Aq522 : (Option Addr)) => (Exists (fun (Hq523 : (Option Addr)) => (Exists (fun (Cq524 : Nat) => (Exists (fun (Dq525 : Nat) => (Exists (fun (Ee526 : Nat) => (Exists (fun (soq527 : (Nat →
 (Option Addr))) => (Exists (fun (scq528 : (Nat →
 Nat)) => ((Value.agg (List.toArray [(Value.slice Oq517 ((x481).1).1 Cq518), (Value.slice Aq493 (x481).2 Dq495), (Value.slice Hq494 (x481).4 Ee496)])) = (Value.agg (List.toArray [(Value.slice Oq521 ((x).1).1 Cq524), (Value.slice Aq522 (x).2 Dq525), (Value.slice Hq523 (x).4 Ee526)])) ∧
 (SelS [(Ch.row (Row.mk Bool.false O482 0 2 ((x481).1).1 0 [(fun (i529 : Nat) => (SC.sl 3 (so488 i529) (((x481).1).2 i529) (sc489 i529))), (fun (i530 : Nat) => (SC.bool (((x481).1).4 i530)))])), (Ch.row (Row.mk Bool.false A483 0 1 (x481).2 0 [(fun (i531 : Nat) => (SC.int ((x481).3 i531)))])), (Ch.row (Row.mk Bool.false H484 0 1 (x481).4 0 [(fun (i532 : Nat) => (SC.int ((x481).5 i532)))])), (Ch.obj Bool.false (symRows Bool.false 0 (x481).1 so488 (fun (x533 : Nat) => 0))), (Ch.cells bp490 33 [(SC.sl 0 O482 ((x481).1).1 C485), (SC.sl 1 A483 (x481).2 D486), (SC.sl 2 H484 (x481).4 E487)]), (Ch.cells br491 33 [(SC.sl 7 Oq517 ((x481).1).1 Cq518), (SC.sl 8 Aq493 (x481).2 Dq495), (SC.sl 9 Hq494 (x481).4 Ee496)]), (Ch.cells bo492 33 [(SC.sl 7 Oq517 ((x481).1).1 Cq518), (SC.sl 8 Aq493 (x481).2 Dq495), (SC.sl 9 Hq494 (x481).4 Ee496)]), (Ch.row (Row.mk Bool.true Oq517 52 2 ((x481).1).1 Cq518 [(fun (i534 : Nat) => (SC.sl 10 (soq519 i534) (((x481).1).2 i534) (scq520 i534))), (fun (i535 : Nat) => (SC.bool (((x481).1).4 i535)))])), (Ch.row (Row.mk Bool.true Aq493 3 1 (x481).2 Dq495 [(fun (i536 : Nat) => (SC.int ((x481).3 i536)))])), (Ch.row (Row.mk Bool.true Hq494 3 1 (x481).4 Ee496 [(fun (i537 : Nat) => (SC.int ((x481).5 i537)))])), (Ch.obj Bool.true (symRows Bool.true 3 (CD.mk ((x481).1).1 ((x481).1).2 ((x481).1).3 ((x481).1).4) soq519 scq520))] [7, 8, 9, 10] [(Ch.row (Row.mk Bool.true Oq521 52 2 ((x).1).1 Cq524 [(fun (i538 : Nat) => (SC.sl 3 (soq527 i538) (((x).1).2 i538) (scq528 i538))), (fun (i539 : Nat) => (SC.bool (((x).1).4 i539)))])), (Ch.row (Row.mk Bool.true Aq522 3 1 (x).2 Dq525 [(fun (i540 : Nat) => (SC.int ((x).3 i540)))])), (Ch.row (Row.mk Bool.true Hq523 3 1 (x).4 Ee526 [(fun (i541 : Nat) => (SC.int ((x).5 i541)))])), (Ch.obj Bool.true (symRows Bool.true 3 (x).1 soq527 scq528))]))))))))))))))))))))))))))))))))))))))))))))))))))))))))))))))))))))))))))))))) ∧
 ((∀ b542 : Nat,
 (True ∧
 ((∀ b543 : Nat,
 (True ∧
 (((b543 = b543 ∧
 ((A = A ∧
 (x).2 = (x).2) ∧
 ((∀ i544 : Nat,
 Bool.true = Bool.true) ∧
 (apC 0 (x).2 8)))) ∧
 (∀ ao545 : (Option Addr),
 (∀ cap546 : Nat,
 (True ∧
 (((b542 = b542 ∧
 ((H = H ∧
 (x).4 = (x).4) ∧
 ((∀ i547 : Nat,
 Bool.true = Bool.true) ∧
 (apC 0 (x).4 8)))) ∧
 (∀ ao548 : (Option Addr),
 (∀ cap549 : Nat,
 (True ∧
 (∀ b550 : Nat,
 (True ∧
 (b550 = b550 ∧
 (True ∧
 (Exists (fun (x551 : AD) => (Exists (fun (O552 : (Option Addr)) => (Exists (fun (A553 : (Option Addr)) => (Exists (fun (H554 : (Option Addr)) => (Exists (fun (C555 : Nat) => (Exists (fun (D556 : Nat) => (Exists (fun (E557 : Nat) => (Exists (fun (so558 : (Nat →
 (Option Addr))) => (Exists (fun (sc559 : (Nat →
 Nat)) => (Exists (fun (bp560 : Nat) => (Exists (fun (br561 : Nat) => (Exists (fun (bo562 : Nat) => (Exists (fun (Aq563 : (Option Addr)) => (Exists (fun (Hq564 : (Option Addr)) => (Exists (fun (Dq565 : Nat) => (Exists (fun (Ee566 : Nat) => (([(Value.agg (List.toArray [(Value.slice O ((x).1).1 C), (Value.slice A (x).2 D), (Value.slice H (x).4 E)])), (Value.pointer (Option.some (Addr.mk b0 0 (none : Option (Nat))))), (Value.pointer (Option.some (Addr.mk b1 0 (none : Option (Nat))))), (Value.pointer (Option.some (Addr.mk b550 0 (none : Option (Nat))))), (Value.int IntKind.i64 (0 : Int)), (Value.slice (Option.some (Addr.mk b543 0 (none : Option (Nat)))) 0 0), (Value.pointer (Option.some (Addr.mk b0 1 (none : Option (Nat))))), (Value.slice A (x).2 D), (Value.slice ao545 (x).2 cap546), (Value.slice (Option.some (Addr.mk b542 0 (none : Option (Nat)))) 0 0), (Value.pointer (Option.some (Addr.mk b0 2 (none : Option (Nat))))), (Value.slice H (x).4 E), (Value.slice ao548 (x).4 cap549), (Value.agg (List.toArray [(Value.slice (none : Option (Addr)) 0 0), (Value.slice ao545 (x).2 cap546), (Value.slice ao548 (x).4 cap549)])), (Value.tuple (List.toArray [])), (Value.tuple (List.toArray [])), (Value.tuple (List.toArray [])), (Value.tuple (List.toArray [])), (Value.tuple (List.toArray [])), (Value.tuple (List.toArray [])), (Value.tuple (List.toArray [])), (Value.tuple (List.toArray [])), (Value.tuple (List.toArray [])), (Value.tuple (List.toArray [])), (Value.tuple (List.toArray [])), (Value.tuple (List.toArray [])), (Value.tuple (List.toArray [])), (Value.tuple (List.toArray [])), (Value.tuple (List.toArray [])), (Value.tuple (List.toArray [])), (Value.tuple (List.toArray [])), (Value.tuple (List.toArray [])), (Value.tuple (List.toArray []))] = [(Value.agg (List.toArray [(Value.slice O ((x).1).1 C), (Value.slice A (x).2 D), (Value.slice H (x).4 E)])), (Value.pointer (Option.some (Addr.mk bp560 0 (none : Option (Nat))))), (Value.pointer (Option.some (Addr.mk br561 0 (none : Option (Nat))))), (Value.pointer (Option.some (Addr.mk bo562 0 (none : Option (Nat))))), (Value.int IntKind.i64 (0 : Int)), (Value.slice (Option.some (Addr.mk b543 0 (none : Option (Nat)))) 0 0), (Value.pointer (Option.some (Addr.mk b0 1 (none : Option (Nat))))), (Value.slice A (x).2 D), (Value.slice ao545 (x).2 cap546), (Value.slice (Option.some (Addr.mk b542 0 (none : Option (Nat)))) 0 0), (Value.pointer (Option.some (Addr.mk b0 2 (none : Option (Nat))))), (Value.slice H (x).4 E), (Value.slice ao548 (x).4 cap549), (Value.agg (List.toArray [(Value.slice (none : Option (Addr)) 0 0), (Value.slice ao545 (x).2 cap546), (Value.slice ao548 (x).4 cap549)])), (Value.tuple (List.toArray [])), (Value.tuple (List.toArray [])), (Value.tuple (List.toArray [])), (Value.tuple (List.toArray [])), (Value.tuple (List.toArray [])), (Value.tuple (List.toArray [])), (Value.tuple (List.toArray [])), (Value.tuple (List.toArray [])), (Value.tuple (List.toArray [])), (Value.tuple (List.toArray [])), (Value.tuple (List.toArray [])), (Value.tuple (List.toArray [])), (Value.tuple (List.toArray [])), (Value.tuple (List.toArray [])), (Value.tuple (List.toArray [])), (Value.tuple (List.toArray [])), (Value.tuple (List.toArray [])), (Value.tuple (List.toArray [])), (Value.tuple (List.toArray []))] ∧
 ((SelS [(Ch.row (Row.mk Bool.false O 0 2 ((x).1).1 0 [(fun (i567 : Nat) => (SC.sl 3 (so i567) (((x).1).2 i567) (sc i567))), (fun (i568 : Nat) => (SC.bool (((x).1).4 i568)))])), (Ch.row (Row.mk Bool.false A 0 1 (x).2 0 [(fun (i569 : Nat) => (SC.int ((x).3 i569)))])), (Ch.row (Row.mk Bool.false H 0 1 (x).4 0 [(fun (i570 : Nat) => (SC.int ((x).5 i570)))])), (Ch.obj Bool.false (symRows Bool.false 0 (x).1 so (fun (x571 : Nat) => 0))), (Ch.cells b0 33 [(SC.sl 0 O ((x).1).1 C), (SC.sl 1 A (x).2 D), (SC.sl 2 H (x).4 E)]), (Ch.cells b1 33 [SC.nil, SC.nil, SC.nil]), Ch.dead, Ch.dead, (Ch.row (Row.mk Bool.true ao545 3 1 (x).2 cap546 [(fun (i572 : Nat) => (SC.int ((x).3 i572)))])), (Ch.row (Row.mk Bool.true ao548 3 1 (x).4 cap549 [(fun (i573 : Nat) => (SC.int ((x).5 i573)))])), (Ch.cells b550 33 [SC.nil, (SC.sl 8 ao545 (x).2 cap546), (SC.sl 9 ao548 (x).4 cap549)])] [0, 1, 2, 3, 4, 5, 10, 1000000, 8, 9, 1000003] [(Ch.row (Row.mk Bool.false O552 0 2 ((x551).1).1 0 [(fun (i574 : Nat) => (SC.sl 3 (so558 i574) (((x551).1).2 i574) (sc559 i574))), (fun (i575 : Nat) => (SC.bool (((x551).1).4 i575)))])), (Ch.row (Row.mk Bool.false A553 0 1 (x551).2 0 [(fun (i576 : Nat) => (SC.int ((x551).3 i576)))])), (Ch.row (Row.mk Bool.false H554 0 1 (x551).4 0 [(fun (i577 : Nat) => (SC.int ((x551).5 i577)))])), (Ch.obj Bool.false (symRows Bool.false 0 (x551).1 so558 (fun (x578 : Nat) => 0))), (Ch.cells bp560 33 [(SC.sl 0 O552 ((x551).1).1 C555), (SC.sl 1 A553 (x551).2 D556), (SC.sl 2 H554 (x551).4 E557)]), (Ch.cells br561 33 [SC.nil, SC.nil, SC.nil]), (Ch.cells bo562 33 [(SC.sl 7 (none : Option (Addr)) 0 0), (SC.sl 8 Aq563 (x551).2 Dq565), (SC.sl 9 Hq564 (x551).4 Ee566)]), (Ch.row (Row.mk Bool.true (none : Option (Addr)) 52 2 0 0 [(fun (i579 : Nat) => (SC.sl 10 (none : Option (Addr)) (((x551).1).2 i579) 0)), (fun (i580 : Nat) => (SC.bool (((x551).1).4 i580)))])), (Ch.row (Row.mk Bool.true Aq563 3 1 (x551).2 Dq565 [(fun (i581 : Nat) => (SC.int ((x551).3 i581)))])), (Ch.row (Row.mk Bool.true Hq564 3 1 (x551).4 Ee566 [(fun (i582 : Nat) => (SC.int ((x551).5 i582)))])), (Ch.obj Bool.true (symRows Bool.true 3 (CD.mk 0 ((x551).1).2 ((x551).1).3 ((x551).1).4) (fun (x583 : Nat) => (none : Option (Addr))) (fun (x584 : Nat) => 0)))]) ∧
 (capA x551))) ∧
 (∀ g585 : (Nat →
 Value),
 (∀ kx586 : Int,
 (∀ Oq587 : (Option Addr),
 (∀ Cq588 : Nat,
 (∀ soq589 : (Nat →
 (Option Addr)),
 (∀ scq590 : (Nat →
 Nat),
 (bo562 = bo562 ∧
 (br561 = br561 ∧
 (br561 = br561 ∧
 (Exists (fun (Oq591 : (Option Addr)) => (Exists (fun (Aq592 : (Option Addr)) => (Exists (fun (Hq593 : (Option Addr)) => (Exists (fun (Cq594 : Nat) => (Exists (fun (Dq595 : Nat) => (Exists (fun (Ee596 : Nat) => (Exists (fun (soq597 : (Nat →
 (Option Addr))) => (Exists (fun (scq598 : (Nat →
 Nat)) => ((Value.agg (List.toArray [(Value.slice Oq587 ((x551).1).1 Cq588), (Value.slice Aq563 (x551).2 Dq565), (Value.slice Hq564 (x551).4 Ee566)])) = (Value.agg (List.toArray [(Value.slice Oq591 ((x).1).1 Cq594), (Value.slice Aq592 (x).2 Dq595), (Value.slice Hq593 (x).4 Ee596)])) ∧
 (SelS [(Ch.row (Row.mk Bool.false O552 0 2 ((x551).1).1 0 [(fun (i599 : Nat) => (SC.sl 3 (so558 i599) (((x551).1).2 i599) (sc559 i599))), (fun (i600 : Nat) => (SC.bool (((x551).1).4 i600)))])), (Ch.row (Row.mk Bool.false A553 0 1 (x551).2 0 [(fun (i601 : Nat) => (SC.int ((x551).3 i601)))])), (Ch.row (Row.mk Bool.false H554 0 1 (x551).4 0 [(fun (i602 : Nat) => (SC.int ((x551).5 i602)))])), (Ch.obj Bool.false (symRows Bool.false 0 (x551).1 so558 (fun (x603 : Nat) => 0))), (Ch.cells bp560 33 [(SC.sl 0 O552 ((x551).1).1 C555), (SC.sl 1 A553 (x551).2 D556), (SC.sl 2 H554 (x551).4 E557)]), (Ch.cells br561 33 [(SC.sl 7 Oq587 ((x551).1).1 Cq588), (SC.sl 8 Aq563 (x551).2 Dq565), (SC.sl 9 Hq564 (x551).4 Ee566)]), (Ch.cells bo562 33 [(SC.sl 7 Oq587 ((x551).1).1 Cq588), (SC.sl 8 Aq563 (x551).2 Dq565), (SC.sl 9 Hq564 (x551).4 Ee566)]), (Ch.row (Row.mk Bool.true Oq587 52 2 ((x551).1).1 Cq588 [(fun (i604 : Nat) => (SC.sl 10 (soq589 i604) (((x551).1).2 i604) (scq590 i604))), (fun (i605 : Nat) => (SC.bool (((x551).1).4 i605)))])), (Ch.row (Row.mk Bool.true Aq563 3 1 (x551).2 Dq565 [(fun (i606 : Nat) => (SC.int ((x551).3 i606)))])), (Ch.row (Row.mk Bool.true Hq564 3 1 (x551).4 Ee566 [(fun (i607 : Nat) => (SC.int ((x551).5 i607)))])), (Ch.obj Bool.true (symRows Bool.true 3 (CD.mk ((x551).1).1 ((x551).1).2 ((x551).1).3 ((x551).1).4) soq589 scq590))] [7, 8, 9, 10] [(Ch.row (Row.mk Bool.true Oq591 52 2 ((x).1).1 Cq594 [(fun (i608 : Nat) => (SC.sl 3 (soq597 i608) (((x).1).2 i608) (scq598 i608))), (fun (i609 : Nat) => (SC.bool (((x).1).4 i609)))])), (Ch.row (Row.mk Bool.true Aq592 3 1 (x).2 Dq595 [(fun (i610 : Nat) => (SC.int ((x).3 i610)))])), (Ch.row (Row.mk Bool.true Hq593 3 1 (x).4 Ee596 [(fun (i611 : Nat) => (SC.int ((x).5 i611)))])), (Ch.obj Bool.true (symRows Bool.true 3 (x).1 soq597 scq598))])))))))))))))))))))))))))))))))))))))))))))))))))))))))))))))))))))) ∧
 (∀ b612 : Nat,
 (True ∧
 ((b542 = b542 ∧
 ((H = H ∧
 (x).4 = (x).4) ∧
 ((∀ i613 : Nat,
 Bool.true = Bool.true) ∧
 (apC 0 (x).4 8)))) ∧
 (∀ ao614 : (Option Addr),
 (∀ cap615 : Nat,
 (True ∧
 (b612 = b612 ∧
 (True ∧
 (Exists (fun (x616 : AD) => (Exists (fun (O617 : (Option Addr)) => (Exists (fun (A618 : (Option Addr)) => (Exists (fun (H619 : (Option Addr)) => (Exists (fun (C620 : Nat) => (Exists (fun (D621 : Nat) => (Exists (fun (E622 : Nat) => (Exists (fun (so623 : (Nat →
 (Option Addr))) => (Exists (fun (sc624 : (Nat →
 Nat)) => (Exists (fun (bp625 : Nat) => (Exists (fun (br626 : Nat) => (Exists (fun (bo627 : Nat) => (Exists (fun (Aq628 : (Option Addr)) => (Exists (fun (Hq629 : (Option Addr)) => (Exists (fun (Dq630 : Nat) => (Exists (fun (Ee631 : Nat) => (([(Value.agg (List.toArray [(Value.slice O ((x).1).1 C), (Value.slice A (x).2 D), (Value.slice H (x).4 E)])), (Value.pointer (Option.some (Addr.mk b0 0 (none : Option (Nat))))), (Value.pointer (Option.some (Addr.mk b1 0 (none : Option (Nat))))), (Value.pointer (Option.some (Addr.mk b612 0 (none : Option (Nat))))), (Value.int IntKind.i64 (0 : Int)), (Value.slice (Option.some (Addr.mk b543 0 (none : Option (Nat)))) 0 0), (Value.pointer (Option.some (Addr.mk b0 1 (none : Option (Nat))))), (Value.slice A (x).2 D), (Value.slice ao545 (x).2 cap546), (Value.slice (Option.some (Addr.mk b542 0 (none : Option (Nat)))) 0 0), (Value.pointer (Option.some (Addr.mk b0 2 (none : Option (Nat))))), (Value.slice H (x).4 E), (Value.slice ao614 (x).4 cap615), (Value.agg (List.toArray [(Value.slice (none : Option (Addr)) 0 0), (Value.slice ao545 (x).2 cap546), (Value.slice ao614 (x).4 cap615)])), (Value.tuple (List.toArray [])), (Value.tuple (List.toArray [])), (Value.tuple (List.toArray [])), (Value.tuple (List.toArray [])), (Value.tuple (List.toArray [])), (Value.tuple (List.toArray [])), (Value.tuple (List.toArray [])), (Value.tuple (List.toArray [])), (Value.tuple (List.toArray [])), (Value.tuple (List.toArray [])), (Value.tuple (List.toArray [])), (Value.tuple (List.toArray [])), (Value.tuple (List.toArray [])), (Value.tuple (List.toArray [])), (Value.tuple (List.toArray [])), (Value.tuple (List.toArray [])), (Value.tuple (List.toArray [])), (Value.tuple (List.toArray [])), (Value.tuple (List.toArray []))] = [(Value.agg (List.toArray [(Value.slice O ((x).1).1 C), (Value.slice A (x).2 D), (Value.slice H (x).4 E)])), (Value.pointer (Option.some (Addr.mk bp625 0 (none : Option (Nat))))), (Value.pointer (Option.some (Addr.mk br626 0 (none : Option (Nat))))), (Value.pointer (Option.some (Addr.mk bo627 0 (none : Option (Nat))))), (Value.int IntKind.i64 (0 : Int)), (Value.slice (Option.some (Addr.mk b543 0 (none : Option (Nat)))) 0 0), (Value.pointer (Option.some (Addr.mk b0 1 (none : Option (Nat))))), (Value.slice A (x).2 D), (Value.slice ao545 (x).2 cap546), (Value.slice (Option.some (Addr.mk b542 0 (none : Option (Nat)))) 0 0), (Value.pointer (Option.some (Addr.mk b0 2 (none : Option (Nat))))), (Value.slice H (x).4 E), (Value.slice ao614 (x).4 cap615), (Value.agg (List.toArray [(Value.slice (none : Option (Addr)) 0 0), (Value.slice ao545 (x).2 cap546), (Value.slice ao614 (x).4 cap615)])), (Value.tuple (List.toArray [])), (Value.tuple (List.toArray [])), (Value.tuple (List.toArray [])), (Value.tuple (List.toArray [])), (Value.tuple (List.toArray [])), (Value.tuple (List.toArray [])), (Value.tuple (List.toArray [])), (Value.tuple (List.toArray [])), (Value.tuple (List.toArray [])), (Value.tuple (List.toArray [])), (Value.tuple (List.toArray [])), (Value.tuple (List.toArray [])), (Value.tuple (List.toArray [])), (Value.tuple (List.toArray [])), (Value.tuple (List.toArray [])), (Value.tuple (List.toArray [])), (Value.tuple (List.toArray [])), (Value.tuple (List.toArray [])), (Value.tuple (List.toArray []))] ∧
 ((SelS [(Ch.row (Row.mk Bool.false O 0 2 ((x).1).1 0 [(fun (i632 : Nat) => (SC.sl 3 (so i632) (((x).1).2 i632) (sc i632))), (fun (i633 : Nat) => (SC.bool (((x).1).4 i633)))])), (Ch.row (Row.mk Bool.false A 0 1 (x).2 0 [(fun (i634 : Nat) => (SC.int ((x).3 i634)))])), (Ch.row (Row.mk Bool.false H 0 1 (x).4 0 [(fun (i635 : Nat) => (SC.int ((x).5 i635)))])), (Ch.obj Bool.false (symRows Bool.false 0 (x).1 so (fun (x636 : Nat) => 0))), (Ch.cells b0 33 [(SC.sl 0 O ((x).1).1 C), (SC.sl 1 A (x).2 D), (SC.sl 2 H (x).4 E)]), (Ch.cells b1 33 [SC.nil, SC.nil, SC.nil]), Ch.dead, Ch.dead, (Ch.row (Row.mk Bool.true ao545 3 1 (x).2 cap546 [(fun (i637 : Nat) => (SC.int ((x).3 i637)))])), (Ch.cells b612 33 [SC.nil, (SC.sl 8 ao545 (x).2 cap546), (SC.sl 10 ao614 (x).4 cap615)]), (Ch.row (Row.mk Bool.true ao614 3 1 (x).4 cap615 [(fun (i638 : Nat) => (SC.int ((x).5 i638)))]))] [0, 1, 2, 3, 4, 5, 9, 1000000, 8, 10, 1000003] [(Ch.row (Row.mk Bool.false O617 0 2 ((x616).1).1 0 [(fun (i639 : Nat) => (SC.sl 3 (so623 i639) (((x616).1).2 i639) (sc624 i639))), (fun (i640 : Nat) => (SC.bool (((x616).1).4 i640)))])), (Ch.row (Row.mk Bool.false A618 0 1 (x616).2 0 [(fun (i641 : Nat) => (SC.int ((x616).3 i641)))])), (Ch.row (Row.mk Bool.false H619 0 1 (x616).4 0 [(fun (i642 : Nat) => (SC.int ((x616).5 i642)))])), (Ch.obj Bool.false (symRows Bool.false 0 (x616).1 so623 (fun (x643 : Nat) => 0))), (Ch.cells bp625 33 [(SC.sl 0 O617 ((x616).1).1 C620), (SC.sl 1 A618 (x616).2 D621), (SC.sl 2 H619 (x616).4 E622)]), (Ch.cells br626 33 [SC.nil, SC.nil, SC.nil]), (Ch.cells bo627 33 [(SC.sl 7 (none : Option (Addr)) 0 0), (SC.sl 8 Aq628 (x616).2 Dq630), (SC.sl 9 Hq629 (x616).4 Ee631)]), (Ch.row (Row.mk Bool.true (none : Option (Addr)) 52 2 0 0 [(fun (i644 : Nat) => (SC.sl 10 (none : Option (Addr)) (((x616).1).2 i644) 0)), (fun (i645 : Nat) => (SC.bool (((x616).1).4 i645)))])), (Ch.row (Row.mk Bool.true Aq628 3 1 (x616).2 Dq630 [(fun (i646 : Nat) => (SC.int ((x616).3 i646)))])), (Ch.row (Row.mk Bool.true Hq629 3 1 (x616).4 Ee631 [(fun (i647 : Nat) => (SC.int ((x616).5 i647)))])), (Ch.obj Bool.true (symRows Bool.true 3 (CD.mk 0 ((x616).1).2 ((x616).1).3 ((x616).1).4) (fun (x648 : Nat) => (none : Option (Addr))) (fun (x649 : Nat) => 0)))]) ∧
 (capA x616))) ∧
 (∀ g650 : (Nat →
 Value),
 (∀ kx651 : Int,
 (∀ Oq652 : (Option Addr),
 (∀ Cq653 : Nat,
 (∀ soq654 : (Nat →
 (Option Addr)),
 (∀ scq655 : (Nat →
 Nat),
 (bo627 = bo627 ∧
 (br626 = br626 ∧
 (br626 = br626 ∧
 (Exists (fun (Oq656 : (Option Addr)) => (Exists (fun (Aq657 : (Option Addr)) => (Exists (fun (Hq658 : (Option Addr)) => (Exists (fun (Cq659 : Nat) => (Exists (fun (Dq660 : Nat) => (Exists (fun (Ee661 : Nat) => (Exists (fun (soq662 : (Nat →
 (Option Addr))) => (Exists (fun (scq663 : (Nat →
 Nat)) => ((Value.agg (List.toArray [(Value.slice Oq652 ((x616).1).1 Cq653), (Value.slice Aq628 (x616).2 Dq630), (Value.slice Hq629 (x616).4 Ee631)])) = (Value.agg (List.toArray [(Value.slice Oq656 ((x).1).1 Cq659), (Value.slice Aq657 (x).2 Dq660), (Value.slice Hq658 (x).4 Ee661)])) ∧
 (SelS [(Ch.row (Row.mk Bool.false O617 0 2 ((x616).1).1 0 [(fun (i664 : Nat) => (SC.sl 3 (so623 i664) (((x616).1).2 i664) (sc624 i664))), (fun (i665 : Nat) => (SC.bool (((x616).1).4 i665)))])), (Ch.row (Row.mk Bool.false A618 0 1 (x616).2 0 [(fun (i666 : Nat) => (SC.int ((x616).3 i666)))])), (Ch.row (Row.mk Bool.false H619 0 1 (x616).4 0 [(fun (i667 : Nat) => (SC.int ((x616).5 i667)))])), (Ch.obj Bool.false (symRows Bool.false 0 (x616).1 so623 (fun (x668 : Nat) => 0))), (Ch.cells bp625 33 [(SC.sl 0 O617 ((x616).1).1 C620), (SC.sl 1 A618 (x616).2 D621), (SC.sl 2 H619 (x616).4 E622)]), (Ch.cells br626 33 [(SC.sl 7 Oq652 ((x616).1).1 Cq653), (SC.sl 8 Aq628 (x616).2 Dq630), (SC.sl 9 Hq629 (x616).4 Ee631)]), (Ch.cells bo627 33 [(SC.sl 7 Oq652 ((x616).1).1 Cq653), (SC.sl 8 Aq628 (x616).2 Dq630), (SC.sl 9 Hq629 (x616).4 Ee631)]), (Ch.row (Row.mk Bool.true Oq652 52 2 ((x616).1).1 Cq653 [(fun (i669 : Nat) => (SC.sl 10 (soq654 i669) (((x616).1).2 i669) (scq655 i669))), (fun (i670 : Nat) => (SC.bool (((x616).1).4 i670)))])), (Ch.row (Row.mk Bool.true Aq628 3 1 (x616).2 Dq630 [(fun (i671 : Nat) => (SC.int ((x616).3 i671)))])), (Ch.row (Row.mk Bool.true Hq629 3 1 (x616).4 Ee631 [(fun (i672 : Nat) => (SC.int ((x616).5 i672)))])), (Ch.obj Bool.true (symRows Bool.true 3 (CD.mk ((x616).1).1 ((x616).1).2 ((x616).1).3 ((x616).1).4) soq654 scq655))] [7, 8, 9, 10] [(Ch.row (Row.mk Bool.true Oq656 52 2 ((x).1).1 Cq659 [(fun (i673 : Nat) => (SC.sl 3 (soq662 i673) (((x).1).2 i673) (scq663 i673))), (fun (i674 : Nat) => (SC.bool (((x).1).4 i674)))])), (Ch.row (Row.mk Bool.true Aq657 3 1 (x).2 Dq660 [(fun (i675 : Nat) => (SC.int ((x).3 i675)))])), (Ch.row (Row.mk Bool.true Hq658 3 1 (x).4 Ee661 [(fun (i676 : Nat) => (SC.int ((x).5 i676)))])), (Ch.obj Bool.true (symRows Bool.true 3 (x).1 soq662 scq663))]))))))))))))))))))))))))))))))))))))))))))))))))))))))))))))))))))))))))) ∧
 (∀ b677 : Nat,
 (True ∧
 ((b543 = b543 ∧
 ((A = A ∧
 (x).2 = (x).2) ∧
 ((∀ i678 : Nat,
 Bool.true = Bool.true) ∧
 (apC 0 (x).2 8)))) ∧
 (∀ ao679 : (Option Addr),
 (∀ cap680 : Nat,
 (True ∧
 ((b542 = b542 ∧
 ((H = H ∧
 (x).4 = (x).4) ∧
 ((∀ i681 : Nat,
 Bool.true = Bool.true) ∧
 (apC 0 (x).4 8)))) ∧
 (∀ ao682 : (Option Addr),
 (∀ cap683 : Nat,
 (True ∧
 (b677 = b677 ∧
 (True ∧
 (Exists (fun (x684 : AD) => (Exists (fun (O685 : (Option Addr)) => (Exists (fun (A686 : (Option Addr)) => (Exists (fun (H687 : (Option Addr)) => (Exists (fun (C688 : Nat) => (Exists (fun (D689 : Nat) => (Exists (fun (E690 : Nat) => (Exists (fun (so691 : (Nat →
 (Option Addr))) => (Exists (fun (sc692 : (Nat →
 Nat)) => (Exists (fun (bp693 : Nat) => (Exists (fun (br694 : Nat) => (Exists (fun (bo695 : Nat) => (Exists (fun (Aq696 : (Option Addr)) => (Exists (fun (Hq697 : (Option Addr)) => (Exists (fun (Dq698 : Nat) => (Exists (fun (Ee699 : Nat) => (([(Value.agg (List.toArray [(Value.slice O ((x).1).1 C), (Value.slice A (x).2 D), (Value.slice H (x).4 E)])), (Value.pointer (Option.some (Addr.mk b0 0 (none : Option (Nat))))), (Value.pointer (Option.some (Addr.mk b1 0 (none : Option (Nat))))), (Value.pointer (Option.some (Addr.mk b677 0 (none : Option (Nat))))), (Value.int IntKind.i64 (0 : Int)), (Value.slice (Option.some (Addr.mk b543 0 (none : Option (Nat)))) 0 0), (Value.pointer (Option.some (Addr.mk b0 1 (none : Option (Nat))))), (Value.slice A (x).2 D), (Value.slice ao679 (x).2 cap680), (Value.slice (Option.some (Addr.mk b542 0 (none : Option (Nat)))) 0 0), (Value.pointer (Option.some (Addr.mk b0 2 (none : Option (Nat))))), (Value.slice H (x).4 E), (Value.slice ao682 (x).4 cap683), (Value.agg (List.toArray [(Value.slice (none : Option (Addr)) 0 0), (Value.slice ao679 (x).2 cap680), (Value.slice ao682 (x).4 cap683)])), (Value.tuple (List.toArray [])), (Value.tuple (List.toArray [])), (Value.tuple (List.toArray [])), (Value.tuple (List.toArray [])), (Value.tuple (List.toArray [])), (Value.tuple (List.toArray [])), (Value.tuple (List.toArray [])), (Value.tuple (List.toArray [])), (Value.tuple (List.toArray [])), (Value.tuple (List.toArray [])), (Value.tuple (List.toArray [])), (Value.tuple (List.toArray [])), (Value.tuple (List.toArray [])), (Value.tuple (List.toArray [])), (Value.tuple (List.toArray [])), (Value.tuple (List.toArray [])), (Value.tuple (List.toArray [])), (Value.tuple (List.toArray [])), (Value.tuple (List.toArray []))] = [(Value.agg (List.toArray [(Value.slice O ((x).1).1 C), (Value.slice A (x).2 D), (Value.slice H (x).4 E)])), (Value.pointer (Option.some (Addr.mk bp693 0 (none : Option (Nat))))), (Value.pointer (Option.some (Addr.mk br694 0 (none : Option (Nat))))), (Value.pointer (Option.some (Addr.mk bo695 0 (none : Option (Nat))))), (Value.int IntKind.i64 (0 : Int)), (Value.slice (Option.some (Addr.mk b543 0 (none : Option (Nat)))) 0 0), (Value.pointer (Option.some (Addr.mk b0 1 (none : Option (Nat))))), (Value.slice A (x).2 D), (Value.slice ao679 (x).2 cap680), (Value.slice (Option.some (Addr.mk b542 0 (none : Option (Nat)))) 0 0), (Value.pointer (Option.some (Addr.mk b0 2 (none : Option (Nat))))), (Value.slice H (x).4 E), (Value.slice ao682 (x).4 cap683), (Value.agg (List.toArray [(Value.slice (none : Option (Addr)) 0 0), (Value.slice ao679 (x).2 cap680), (Value.slice ao682 (x).4 cap683)])), (Value.tuple (List.toArray [])), (Value.tuple (List.toArray [])), (Value.tuple (List.toArray [])), (Value.tuple (List.toArray [])), (Value.tuple (List.toArray [])), (Value.tuple (List.toArray [])), (Value.tuple (List.toArray [])), (Value.tuple (List.toArray [])), (Value.tuple (List.toArray [])), (Value.tuple (List.toArray [])), (Value.tuple (List.toArray [])), (Value.tuple (List.toArray [])), (Value.tuple (List.toArray [])), (Value.tuple (List.toArray [])), (Value.tuple (List.toArray [])), (Value.tuple (List.toArray [])), (Value.tuple (List.toArray [])), (Value.tuple (List.toArray [])), (Value.tuple (List.toArray []))] ∧
 ((SelS [(Ch.row (Row.mk Bool.false O 0 2 ((x).1).1 0 [(fun (i700 : Nat) => (SC.sl 3 (so i700) (((x).1).2 i700) (sc i700))), (fun (i701 : Nat) => (SC.bool (((x).1).4 i701)))])), (Ch.row (Row.mk Bool.false A 0 1 (x).2 0 [(fun (i702 : Nat) => (SC.int ((x).3 i702)))])), (Ch.row (Row.mk Bool.false H 0 1 (x).4 0 [(fun (i703 : Nat) => (SC.int ((x).5 i703)))])), (Ch.obj Bool.false (symRows Bool.false 0 (x).1 so (fun (x704 : Nat) => 0))), (Ch.cells b0 33 [(SC.sl 0 O ((x).1).1 C), (SC.sl 1 A (x).2 D), (SC.sl 2 H (x).4 E)]), (Ch.cells b1 33 [SC.nil, SC.nil, SC.nil]), Ch.dead, Ch.dead, (Ch.cells b677 33 [SC.nil, (SC.sl 9 ao679 (x).2 cap680), (SC.sl 10 ao682 (x).4 cap683)]), (Ch.row (Row.mk Bool.true ao679 3 1 (x).2 cap680 [(fun (i705 : Nat) => (SC.int ((x).3 i705)))])), (Ch.row (Row.mk Bool.true ao682 3 1 (x).4 cap683 [(fun (i706 : Nat) => (SC.int ((x).5 i706)))]))] [0, 1, 2, 3, 4, 5, 8, 1000000, 9, 10, 1000003] [(Ch.row (Row.mk Bool.false O685 0 2 ((x684).1).1 0 [(fun (i707 : Nat) => (SC.sl 3 (so691 i707) (((x684).1).2 i707) (sc692 i707))), (fun (i708 : Nat) => (SC.bool (((x684).1).4 i708)))])), (Ch.row (Row.mk Bool.false A686 0 1 (x684).2 0 [(fun (i709 : Nat) => (SC.int ((x684).3 i709)))])), (Ch.row (Row.mk Bool.false H687 0 1 (x684).4 0 [(fun (i710 : Nat) => (SC.int ((x684).5 i710)))])), (Ch.obj Bool.false (symRows Bool.false 0 (x684).1 so691 (fun (x711 : Nat) => 0))), (Ch.cells bp693 33 [(SC.sl 0 O685 ((x684).1).1 C688), (SC.sl 1 A686 (x684).2 D689), (SC.sl 2 H687 (x684).4 E690)]), (Ch.cells br694 33 [SC.nil, SC.nil, SC.nil]), (Ch.cells bo695 33 [(SC.sl 7 (none : Option (Addr)) 0 0), (SC.sl 8 Aq696 (x684).2 Dq698), (SC.sl 9 Hq697 (x684).4 Ee699)]), (Ch.row (Row.mk Bool.true (none : Option (Addr)) 52 2 0 0 [(fun (i712 : Nat) => (SC.sl 10 (none : Option (Addr)) (((x684).1).2 i712) 0)), (fun (i713 : Nat) => (SC.bool (((x684).1).4 i713)))])), (Ch.row (Row.mk Bool.true Aq696 3 1 (x684).2 Dq698 [(fun (i714 : Nat) => (SC.int ((x684).3 i714)))])), (Ch.row (Row.mk Bool.true Hq697 3 1 (x684).4 Ee699 [(fun (i715 : Nat) => (SC.int ((x684).5 i715)))])), (Ch.obj Bool.true (symRows Bool.true 3 (CD.mk 0 ((x684).1).2 ((x684).1).3 ((x684).1).4) (fun (x716 : Nat) => (none : Option (Addr))) (fun (x717 : Nat) => 0)))]) ∧
 (capA x684))) ∧
 (∀ g718 : (Nat →
 Value),
 (∀ kx719 : Int,
 (∀ Oq720 : (Option Addr),
 (∀ Cq721 : Nat,
 (∀ soq722 : (Nat →
 (Option Addr)),
 (∀ scq723 : (Nat →
 Nat),
 (bo695 = bo695 ∧
 (br694 = br694 ∧
 (br694 = br694 ∧
 (Exists (fun (Oq724 : (Option Addr)) => (Exists (fun (Aq725 : (Option Addr)) => (Exists (fun (Hq726 : (Option Addr)) => (Exists (fun (Cq727 : Nat) => (Exists (fun (Dq728 : Nat) => (Exists (fun (Ee729 : Nat) => (Exists (fun (soq730 : (Nat →
 (Option Addr))) => (Exists (fun (scq731 : (Nat →
 Nat)) => ((Value.agg (List.toArray [(Value.slice Oq720 ((x684).1).1 Cq721), (Value.slice Aq696 (x684).2 Dq698), (Value.slice Hq697 (x684).4 Ee699)])) = (Value.agg (List.toArray [(Value.slice Oq724 ((x).1).1 Cq727), (Value.slice Aq725 (x).2 Dq728), (Value.slice Hq726 (x).4 Ee729)])) ∧
 (SelS [(Ch.row (Row.mk Bool.false O685 0 2 ((x684).1).1 0 [(fun (i732 : Nat) => (SC.sl 3 (so691 i732) (((x684).1).2 i732) (sc692 i732))), (fun (i733 : Nat) => (SC.bool (((x684).1).4 i733)))])), (Ch.row (Row.mk Bool.false A686 0 1 (x684).2 0 [(fun (i734 : Nat) => (SC.int ((x684).3 i734)))])), (Ch.row (Row.mk Bool.false H687 0 1 (x684).4 0 [(fun (i735 : Nat) => (SC.int ((x684).5 i735)))])), (Ch.obj Bool.false (symRows Bool.false 0 (x684).1 so691 (fun (x736 : Nat) => 0))), (Ch.cells bp693 33 [(SC.sl 0 O685 ((x684).1).1 C688), (SC.sl 1 A686 (x684).2 D689), (SC.sl 2 H687 (x684).4 E690)]), (Ch.cells br694 33 [(SC.sl 7 Oq720 ((x684).1).1 Cq721), (SC.sl 8 Aq696 (x684).2 Dq698), (SC.sl 9 Hq697 (x684).4 Ee699)]), (Ch.cells bo695 33 [(SC.sl 7 Oq720 ((x684).1).1 Cq721), (SC.sl 8 Aq696 (x684).2 Dq698), (SC.sl 9 Hq697 (x684).4 Ee699)]), (Ch.row (Row.mk Bool.true Oq720 52 2 ((x684).1).1 Cq721 [(fun (i737 : Nat) => (SC.sl 10 (soq722 i737) (((x684).1).2 i737) (scq723 i737))), (fun (i738 : Nat) => (SC.bool (((x684).1).4 i738)))])), (Ch.row (Row.mk Bool.true Aq696 3 1 (x684).2 Dq698 [(fun (i739 : Nat) => (SC.int ((x684).3 i739)))])), (Ch.row (Row.mk Bool.true Hq697 3 1 (x684).4 Ee699 [(fun (i740 : Nat) => (SC.int ((x684).5 i740)))])), (Ch.obj Bool.true (symRows Bool.true 3 (CD.mk ((x684).1).1 ((x684).1).2 ((x684).1).3 ((x684).1).4) soq722 scq723))] [7, 8, 9, 10] [(Ch.row (Row.mk Bool.true Oq724 52 2 ((x).1).1 Cq727 [(fun (i741 : Nat) => (SC.sl 3 (soq730 i741) (((x).1).2 i741) (scq731 i741))), (fun (i742 : Nat) => (SC.bool (((x).1).4 i742)))])), (Ch.row (Row.mk Bool.true Aq725 3 1 (x).2 Dq728 [(fun (i743 : Nat) => (SC.int ((x).3 i743)))])), (Ch.row (Row.mk Bool.true Hq726 3 1 (x).4 Ee729 [(fun (i744 : Nat) => (SC.int ((x).5 i744)))])), (Ch.obj Bool.true (symRows Bool.true 3 (x).1 soq730 scq731))]))))))))))))))))))))))))))))))))))))))))))))))))))))))))))))))))))))))))))) ∧
 (∀ b745 : Nat,
 (True ∧
 (∀ b746 : Nat,
 (True ∧
 ((b746 = b746 ∧
 ((A = A ∧
 (x).2 = (x).2) ∧
 ((∀ i747 : Nat,
 Bool.true = Bool.true) ∧
 (apC 0 (x).2 8)))) ∧
 (∀ ao748 : (Option Addr),
 (∀ cap749 : Nat,
 (True ∧
 ((b542 = b542 ∧
 ((H = H ∧
 (x).4 = (x).4) ∧
 ((∀ i750 : Nat,
 Bool.true = Bool.true) ∧
 (apC 0 (x).4 8)))) ∧
 (∀ ao751 : (Option Addr),
 (∀ cap752 : Nat,
 (True ∧
 (b745 = b745 ∧
 (True ∧
 (Exists (fun (x753 : AD) => (Exists (fun (O754 : (Option Addr)) => (Exists (fun (A755 : (Option Addr)) => (Exists (fun (H756 : (Option Addr)) => (Exists (fun (C757 : Nat) => (Exists (fun (D758 : Nat) => (Exists (fun (E759 : Nat) => (Exists (fun (so760 : (Nat →
 (Option Addr))) => (Exists (fun (sc761 : (Nat →
 Nat)) => (Exists (fun (bp762 : Nat) => (Exists (fun (br763 : Nat) => (Exists (fun (bo764 : Nat) => (Exists (fun (Aq765 : (Option Addr)) => (Exists (fun (Hq766 : (Option Addr)) => (Exists (fun (Dq767 : Nat) => (Exists (fun (Ee768 : Nat) => (([(Value.agg (List.toArray [(Value.slice O ((x).1).1 C), (Value.slice A (x).2 D), (Value.slice H (x).4 E)])), (Value.pointer (Option.some (Addr.mk b0 0 (none : Option (Nat))))), (Value.pointer (Option.some (Addr.mk b1 0 (none : Option (Nat))))), (Value.pointer (Option.some (Addr.mk b745 0 (none : Option (Nat))))), (Value.int IntKind.i64 (0 : Int)), (Value.slice (Option.some (Addr.mk b746 0 (none : Option (Nat)))) 0 0), (Value.pointer (Option.some (Addr.mk b0 1 (none : Option (Nat))))), (Value.slice A (x).2 D), (Value.slice ao748 (x).2 cap749), (Value.slice (Option.some (Addr.mk b542 0 (none : Option (Nat)))) 0 0), (Value.pointer (Option.some (Addr.mk b0 2 (none : Option (Nat))))), (Value.slice H (x).4 E), (Value.slice ao751 (x).4 cap752), (Value.agg (List.toArray [(Value.slice (none : Option (Addr)) 0 0), (Value.slice ao748 (x).2 cap749), (Value.slice ao751 (x).4 cap752)])), (Value.tuple (List.toArray [])), (Value.tuple (List.toArray [])), (Value.tuple (List.toArray [])), (Value.tuple (List.toArray [])), (Value.tuple (List.toArray [])), (Value.tuple (List.toArray [])), (Value.tuple (List.toArray [])), (Value.tuple (List.toArray [])), (Value.tuple (List.toArray [])), (Value.tuple (List.toArray [])), (Value.tuple (List.toArray [])), (Value.tuple (List.toArray [])), (Value.tuple (List.toArray [])), (Value.tuple (List.toArray [])), (Value.tuple (List.toArray [])), (Value.tuple (List.toArray [])), (Value.tuple (List.toArray [])), (Value.tuple (List.toArray [])), (Value.tuple (List.toArray []))] = [(Value.agg (List.toArray [(Value.slice O ((x).1).1 C), (Value.slice A (x).2 D), (Value.slice H (x).4 E)])), (Value.pointer (Option.some (Addr.mk bp762 0 (none : Option (Nat))))), (Value.pointer (Option.some (Addr.mk br763 0 (none : Option (Nat))))), (Value.pointer (Option.some (Addr.mk bo764 0 (none : Option (Nat))))), (Value.int IntKind.i64 (0 : Int)), (Value.slice (Option.some (Addr.mk b746 0 (none : Option (Nat)))) 0 0), (Value.pointer (Option.some (Addr.mk b0 1 (none : Option (Nat))))), (Value.slice A (x).2 D), (Value.slice ao748 (x).2 cap749), (Value.slice (Option.some (Addr.mk b542 0 (none : Option (Nat)))) 0 0), (Value.pointer (Option.some (Addr.mk b0 2 (none : Option (Nat))))), (Value.slice H (x).4 E), (Value.slice ao751 (x).4 cap752), (Value.agg (List.toArray [(Value.slice (none : Option (Addr)) 0 0), (Value.slice ao748 (x).2 cap749), (Value.slice ao751 (x).4 cap752)])), (Value.tuple (List.toArray [])), (Value.tuple (List.toArray [])), (Value.tuple (List.toArray [])), (Value.tuple (List.toArray [])), (Value.tuple (List.toArray [])), (Value.tuple (List.toArray [])), (Value.tuple (List.toArray [])), (Value.tuple (List.toArray [])), (Value.tuple (List.toArray [])), (Value.tuple (List.toArray [])), (Value.tuple (List.toArray [])), (Value.tuple (List.toArray [])), (Value.tuple (List.toArray [])), (Value.tuple (List.toArray [])), (Value.tuple (List.toArray [])), (Value.tuple (List.toArray [])), (Value.tuple (List.toArray [])), (Value.tuple (List.toArray [])), (Value.tuple (List.toArray []))] ∧
 ((SelS [(Ch.row (Row.mk Bool.false O 0 2 ((x).1).1 0 [(fun (i769 : Nat) => (SC.sl 3 (so i769) (((x).1).2 i769) (sc i769))), (fun (i770 : Nat) => (SC.bool (((x).1).4 i770)))])), (Ch.row (Row.mk Bool.false A 0 1 (x).2 0 [(fun (i771 : Nat) => (SC.int ((x).3 i771)))])), (Ch.row (Row.mk Bool.false H 0 1 (x).4 0 [(fun (i772 : Nat) => (SC.int ((x).5 i772)))])), (Ch.obj Bool.false (symRows Bool.false 0 (x).1 so (fun (x773 : Nat) => 0))), (Ch.cells b0 33 [(SC.sl 0 O ((x).1).1 C), (SC.sl 1 A (x).2 D), (SC.sl 2 H (x).4 E)]), (Ch.cells b1 33 [SC.nil, SC.nil, SC.nil]), Ch.dead, (Ch.cells b745 33 [SC.nil, (SC.sl 9 ao748 (x).2 cap749), (SC.sl 10 ao751 (x).4 cap752)]), Ch.dead, (Ch.row (Row.mk Bool.true ao748 3 1 (x).2 cap749 [(fun (i774 : Nat) => (SC.int ((x).3 i774)))])), (Ch.row (Row.mk Bool.true ao751 3 1 (x).4 cap752 [(fun (i775 : Nat) => (SC.int ((x).5 i775)))]))] [0, 1, 2, 3, 4, 5, 7, 1000000, 9, 10, 1000003] [(Ch.row (Row.mk Bool.false O754 0 2 ((x753).1).1 0 [(fun (i776 : Nat) => (SC.sl 3 (so760 i776) (((x753).1).2 i776) (sc761 i776))), (fun (i777 : Nat) => (SC.bool (((x753).1).4 i777)))])), (Ch.row (Row.mk Bool.false A755 0 1 (x753).2 0 [(fun (i778 : Nat) => (SC.int ((x753).3 i778)))])), (Ch.row (Row.mk Bool.false H756 0 1 (x753).4 0 [(fun (i779 : Nat) => (SC.int ((x753).5 i779)))])), (Ch.obj Bool.false (symRows Bool.false 0 (x753).1 so760 (fun (x780 : Nat) => 0))), (Ch.cells bp762 33 [(SC.sl 0 O754 ((x753).1).1 C757), (SC.sl 1 A755 (x753).2 D758), (SC.sl 2 H756 (x753).4 E759)]), (Ch.cells br763 33 [SC.nil, SC.nil, SC.nil]), (Ch.cells bo764 33 [(SC.sl 7 (none : Option (Addr)) 0 0), (SC.sl 8 Aq765 (x753).2 Dq767), (SC.sl 9 Hq766 (x753).4 Ee768)]), (Ch.row (Row.mk Bool.true (none : Option (Addr)) 52 2 0 0 [(fun (i781 : Nat) => (SC.sl 10 (none : Option (Addr)) (((x753).1).2 i781) 0)), (fun (i782 : Nat) => (SC.bool (((x753).1).4 i782)))])), (Ch.row (Row.mk Bool.true Aq765 3 1 (x753).2 Dq767 [(fun (i783 : Nat) => (SC.int ((x753).3 i783)))])), (Ch.row (Row.mk Bool.true Hq766 3 1 (x753).4 Ee768 [(fun (i784 : Nat) => (SC.int ((x753).5 i784)))])), (Ch.obj Bool.true (symRows Bool.true 3 (CD.mk 0 ((x753).1).2 ((x753).1).3 ((x753).1).4) (fun (x785 : Nat) => (none : Option (Addr))) (fun (x786 : Nat) => 0)))]) ∧
 (capA x753))) ∧
 (∀ g787 : (Nat →
 Value),
 (∀ kx788 : Int,
 (∀ Oq789 : (Option Addr),
 (∀ Cq790 : Nat,
 (∀ soq791 : (Nat →
 (Option Addr)),
 (∀ scq792 : (Nat →
 Nat),
 (bo764 = bo764 ∧
 (br763 = br763 ∧
 (br763 = br763 ∧
 (Exists (fun (Oq793 : (Option Addr)) => (Exists (fun (Aq794 : (Option Addr)) => (Exists (fun (Hq795 : (Option Addr)) => (Exists (fun (Cq796 : Nat) => (Exists (fun (Dq797 : Nat) => (Exists (fun (Ee798 : Nat) => (Exists (fun (soq799 : (Nat →
 (Option Addr))) => (Exists (fun (scq800 : (Nat →
 Nat)) => ((Value.agg (List.toArray [(Value.slice Oq789 ((x753).1).1 Cq790), (Value.slice Aq765 (x753).2 Dq767), (Value.slice Hq766 (x753).4 Ee768)])) = (Value.agg (List.toArray [(Value.slice Oq793 ((x).1).1 Cq796), (Value.slice Aq794 (x).2 Dq797), (Value.slice Hq795 (x).4 Ee798)])) ∧
 (SelS [(Ch.row (Row.mk Bool.false O754 0 2 ((x753).1).1 0 [(fun (i801 : Nat) => (SC.sl 3 (so760 i801) (((x753).1).2 i801) (sc761 i801))), (fun (i802 : Nat) => (SC.bool (((x753).1).4 i802)))])), (Ch.row (Row.mk Bool.false A755 0 1 (x753).2 0 [(fun (i803 : Nat) => (SC.int ((x753).3 i803)))])), (Ch.row (Row.mk Bool.false H756 0 1 (x753).4 0 [(fun (i804 : Nat) => (SC.int ((x753).5 i804)))])), (Ch.obj Bool.false (symRows Bool.false 0 (x753).1 so760 (fun (x805 : Nat) => 0))), (Ch.cells bp762 33 [(SC.sl 0 O754 ((x753).1).1 C757), (SC.sl 1 A755 (x753).2 D758), (SC.sl 2 H756 (x753).4 E759)]), (Ch.cells br763 33 [(SC.sl 7 Oq789 ((x753).1).1 Cq790), (SC.sl 8 Aq765 (x753).2 Dq767), (SC.sl 9 Hq766 (x753).4 Ee768)]), (Ch.cells bo764 33 [(SC.sl 7 Oq789 ((x753).1).1 Cq790), (SC.sl 8 Aq765 (x753).2 Dq767), (SC.sl 9 Hq766 (x753).4 Ee768)]), (Ch.row (Row.mk Bool.true Oq789 52 2 ((x753).1).1 Cq790 [(fun (i806 : Nat) => (SC.sl 10 (soq791 i806) (((x753).1).2 i806) (scq792 i806))), (fun (i807 : Nat) => (SC.bool (((x753).1).4 i807)))])), (Ch.row (Row.mk Bool.true Aq765 3 1 (x753).2 Dq767 [(fun (i808 : Nat) => (SC.int ((x753).3 i808)))])), (Ch.row (Row.mk Bool.true Hq766 3 1 (x753).4 Ee768 [(fun (i809 : Nat) => (SC.int ((x753).5 i809)))])), (Ch.obj Bool.true (symRows Bool.true 3 (CD.mk ((x753).1).1 ((x753).1).2 ((x753).1).3 ((x753).1).4) soq791 scq792))] [7, 8, 9, 10] [(Ch.row (Row.mk Bool.true Oq793 52 2 ((x).1).1 Cq796 [(fun (i810 : Nat) => (SC.sl 3 (soq799 i810) (((x).1).2 i810) (scq800 i810))), (fun (i811 : Nat) => (SC.bool (((x).1).4 i811)))])), (Ch.row (Row.mk Bool.true Aq794 3 1 (x).2 Dq797 [(fun (i812 : Nat) => (SC.int ((x).3 i812)))])), (Ch.row (Row.mk Bool.true Hq795 3 1 (x).4 Ee798 [(fun (i813 : Nat) => (SC.int ((x).5 i813)))])), (Ch.obj Bool.true (symRows Bool.true 3 (x).1 soq799 scq800))]))))))))))))))))))))))))))))))))))))))))))))))))))))))))))))))))))))))))))))) ∧
 (∀ b814 : Nat,
 (True ∧
 ((∀ b815 : Nat,
 (True ∧
 (((b815 = b815 ∧
 ((A = A ∧
 (x).2 = (x).2) ∧
 ((∀ i816 : Nat,
 Bool.true = Bool.true) ∧
 (apC 0 (x).2 8)))) ∧
 (∀ ao817 : (Option Addr),
 (∀ cap818 : Nat,
 (True ∧
 (∀ b819 : Nat,
 (True ∧
 ((b819 = b819 ∧
 ((H = H ∧
 (x).4 = (x).4) ∧
 ((∀ i820 : Nat,
 Bool.true = Bool.true) ∧
 (apC 0 (x).4 8)))) ∧
 (∀ ao821 : (Option Addr),
 (∀ cap822 : Nat,
 (True ∧
 (b814 = b814 ∧
 (True ∧
 (Exists (fun (x823 : AD) => (Exists (fun (O824 : (Option Addr)) => (Exists (fun (A825 : (Option Addr)) => (Exists (fun (H826 : (Option Addr)) => (Exists (fun (C827 : Nat) => (Exists (fun (D828 : Nat) => (Exists (fun (E829 : Nat) => (Exists (fun (so830 : (Nat →
 (Option Addr))) => (Exists (fun (sc831 : (Nat →
 Nat)) => (Exists (fun (bp832 : Nat) => (Exists (fun (br833 : Nat) => (Exists (fun (bo834 : Nat) => (Exists (fun (Aq835 : (Option Addr)) => (Exists (fun (Hq836 : (Option Addr)) => (Exists (fun (Dq837 : Nat) => (Exists (fun (Ee838 : Nat) => (([(Value.agg (List.toArray [(Value.slice O ((x).1).1 C), (Value.slice A (x).2 D), (Value.slice H (x).4 E)])), (Value.pointer (Option.some (Addr.mk b0 0 (none : Option (Nat))))), (Value.pointer (Option.some (Addr.mk b1 0 (none : Option (Nat))))), (Value.pointer (Option.some (Addr.mk b814 0 (none : Option (Nat))))), (Value.int IntKind.i64 (0 : Int)), (Value.slice (Option.some (Addr.mk b815 0 (none : Option (Nat)))) 0 0), (Value.pointer (Option.some (Addr.mk b0 1 (none : Option (Nat))))), (Value.slice A (x).2 D), (Value.slice ao817 (x).2 cap818), (Value.slice (Option.some (Addr.mk b819 0 (none : Option (Nat)))) 0 0), (Value.pointer (Option.some (Addr.mk b0 2 (none : Option (Nat))))), (Value.slice H (x).4 E), (Value.slice ao821 (x).4 cap822), (Value.agg (List.toArray [(Value.slice (none : Option (Addr)) 0 0), (Value.slice ao817 (x).2 cap818), (Value.slice ao821 (x).4 cap822)])), (Value.tuple (List.toArray [])), (Value.tuple (List.toArray [])), (Value.tuple (List.toArray [])), (Value.tuple (List.toArray [])), (Value.tuple (List.toArray [])), (Value.tuple (List.toArray [])), (Value.tuple (List.toArray [])), (Value.tuple (List.toArray [])), (Value.tuple (List.toArray [])), (Value.tuple (List.toArray [])), (Value.tuple (List.toArray [])), (Value.tuple (List.toArray [])), (Value.tuple (List.toArray [])), (Value.tuple (List.toArray [])), (Value.tuple (List.toArray [])), (Value.tuple (List.toArray [])), (Value.tuple (List.toArray [])), (Value.tuple (List.toArray [])), (Value.tuple (List.toArray []))] = [(Value.agg (List.toArray [(Value.slice O ((x).1).1 C), (Value.slice A (x).2 D), (Value.slice H (x).4 E)])), (Value.pointer (Option.some (Addr.mk bp832 0 (none : Option (Nat))))), (Value.pointer (Option.some (Addr.mk br833 0 (none : Option (Nat))))), (Value.pointer (Option.some (Addr.mk bo834 0 (none : Option (Nat))))), (Value.int IntKind.i64 (0 : Int)), (Value.slice (Option.some (Addr.mk b815 0 (none : Option (Nat)))) 0 0), (Value.pointer (Option.some (Addr.mk b0 1 (none : Option (Nat))))), (Value.slice A (x).2 D), (Value.slice ao817 (x).2 cap818), (Value.slice (Option.some (Addr.mk b819 0 (none : Option (Nat)))) 0 0), (Value.pointer (Option.some (Addr.mk b0 2 (none : Option (Nat))))), (Value.slice H (x).4 E), (Value.slice ao821 (x).4 cap822), (Value.agg (List.toArray [(Value.slice (none : Option (Addr)) 0 0), (Value.slice ao817 (x).2 cap818), (Value.slice ao821 (x).4 cap822)])), (Value.tuple (List.toArray [])), (Value.tuple (List.toArray [])), (Value.tuple (List.toArray [])), (Value.tuple (List.toArray [])), (Value.tuple (List.toArray [])), (Value.tuple (List.toArray [])), (Value.tuple (List.toArray [])), (Value.tuple (List.toArray [])), (Value.tuple (List.toArray [])), (Value.tuple (List.toArray [])), (Value.tuple (List.toArray [])), (Value.tuple (List.toArray [])), (Value.tuple (List.toArray [])), (Value.tuple (List.toArray [])), (Value.tuple (List.toArray [])), (Value.tuple (List.toArray [])), (Value.tuple (List.toArray [])), (Value.tuple (List.toArray [])), (Value.tuple (List.toArray []))] ∧
 ((SelS [(Ch.row (Row.mk Bool.false O 0 2 ((x).1).1 0 [(fun (i839 : Nat) => (SC.sl 3 (so i839) (((x).1).2 i839) (sc i839))), (fun (i840 : Nat) => (SC.bool (((x).1).4 i840)))])), (Ch.row (Row.mk Bool.false A 0 1 (x).2 0 [(fun (i841 : Nat) => (SC.int ((x).3 i841)))])), (Ch.row (Row.mk Bool.false H 0 1 (x).4 0 [(fun (i842 : Nat) => (SC.int ((x).5 i842)))])), (Ch.obj Bool.false (symRows Bool.false 0 (x).1 so (fun (x843 : Nat) => 0))), (Ch.cells b0 33 [(SC.sl 0 O ((x).1).1 C), (SC.sl 1 A (x).2 D), (SC.sl 2 H (x).4 E)]), (Ch.cells b1 33 [SC.nil, SC.nil, SC.nil]), (Ch.cells b814 33 [SC.nil, (SC.sl 8 ao817 (x).2 cap818), (SC.sl 10 ao821 (x).4 cap822)]), Ch.dead, (Ch.row (Row.mk Bool.true ao817 3 1 (x).2 cap818 [(fun (i844 : Nat) => (SC.int ((x).3 i844)))])), Ch.dead, (Ch.row (Row.mk Bool.true ao821 3 1 (x).4 cap822 [(fun (i845 : Nat) => (SC.int ((x).5 i845)))]))] [0, 1, 2, 3, 4, 5, 6, 1000000, 8, 10, 1000003] [(Ch.row (Row.mk Bool.false O824 0 2 ((x823).1).1 0 [(fun (i846 : Nat) => (SC.sl 3 (so830 i846) (((x823).1).2 i846) (sc831 i846))), (fun (i847 : Nat) => (SC.bool (((x823).1).4 i847)))])), (Ch.row (Row.mk Bool.false A825 0 1 (x823).2 0 [(fun (i848 : Nat) => (SC.int ((x823).3 i848)))])), (Ch.row (Row.mk Bool.false H826 0 1 (x823).4 0 [(fun (i849 : Nat) => (SC.int ((x823).5 i849)))])), (Ch.obj Bool.false (symRows Bool.false 0 (x823).1 so830 (fun (x850 : Nat) => 0))), (Ch.cells bp832 33 [(SC.sl 0 O824 ((x823).1).1 C827), (SC.sl 1 A825 (x823).2 D828), (SC.sl 2 H826 (x823).4 E829)]), (Ch.cells br833 33 [SC.nil, SC.nil, SC.nil]), (Ch.cells bo834 33 [(SC.sl 7 (none : Option (Addr)) 0 0), (SC.sl 8 Aq835 (x823).2 Dq837), (SC.sl 9 Hq836 (x823).4 Ee838)]), (Ch.row (Row.mk Bool.true (none : Option (Addr)) 52 2 0 0 [(fun (i851 : Nat) => (SC.sl 10 (none : Option (Addr)) (((x823).1).2 i851) 0)), (fun (i852 : Nat) => (SC.bool (((x823).1).4 i852)))])), (Ch.row (Row.mk Bool.true Aq835 3 1 (x823).2 Dq837 [(fun (i853 : Nat) => (SC.int ((x823).3 i853)))])), (Ch.row (Row.mk Bool.true Hq836 3 1 (x823).4 Ee838 [(fun (i854 : Nat) => (SC.int ((x823).5 i854)))])), (Ch.obj Bool.true (symRows Bool.true 3 (CD.mk 0 ((x823).1).2 ((x823).1).3 ((x823).1).4) (fun (x855 : Nat) => (none : Option (Addr))) (fun (x856 : Nat) => 0)))]) ∧
 (capA x823))) ∧
 (∀ g857 : (Nat →
 Value),
 (∀ kx858 : Int,
 (∀ Oq859 : (Option Addr),
 (∀ Cq860 : Nat,
 (∀ soq861 : (Nat →
 (Option Addr)),
 (∀ scq862 : (Nat →
 Nat),
 (bo834 = bo834 ∧
 (br833 = br833 ∧
 (br833 = br833 ∧
 (Exists (fun (Oq863 : (Option Addr)) => (Exists (fun (Aq864 : (Option Addr)) => (Exists (fun (Hq865 : (Option Addr)) => (Exists (fun (Cq866 : Nat) => (Exists (fun (Dq867 : Nat) => (Exists (fun (Ee868 : Nat) => (Exists (fun (soq869 : (Nat →
 (Option Addr))) => (Exists (fun (scq870 : (Nat →
 Nat)) => ((Value.agg (List.toArray [(Value.slice Oq859 ((x823).1).1 Cq860), (Value.slice Aq835 (x823).2 Dq837), (Value.slice Hq836 (x823).4 Ee838)])) = (Value.agg (List.toArray [(Value.slice Oq863 ((x).1).1 Cq866), (Value.slice Aq864 (x).2 Dq867), (Value.slice Hq865 (x).4 Ee868)])) ∧
 (SelS [(Ch.row (Row.mk Bool.false O824 0 2 ((x823).1).1 0 [(fun (i871 : Nat) => (SC.sl 3 (so830 i871) (((x823).1).2 i871) (sc831 i871))), (fun (i872 : Nat) => (SC.bool (((x823).1).4 i872)))])), (Ch.row (Row.mk Bool.false A825 0 1 (x823).2 0 [(fun (i873 : Nat) => (SC.int ((x823).3 i873)))])), (Ch.row (Row.mk Bool.false H826 0 1 (x823).4 0 [(fun (i874 : Nat) => (SC.int ((x823).5 i874)))])), (Ch.obj Bool.false (symRows Bool.false 0 (x823).1 so830 (fun (x875 : Nat) => 0))), (Ch.cells bp832 33 [(SC.sl 0 O824 ((x823).1).1 C827), (SC.sl 1 A825 (x823).2 D828), (SC.sl 2 H826 (x823).4 E829)]), (Ch.cells br833 33 [(SC.sl 7 Oq859 ((x823).1).1 Cq860), (SC.sl 8 Aq835 (x823).2 Dq837), (SC.sl 9 Hq836 (x823).4 Ee838)]), (Ch.cells bo834 33 [(SC.sl 7 Oq859 ((x823).1).1 Cq860), (SC.sl 8 Aq835 (x823).2 Dq837), (SC.sl 9 Hq836 (x823).4 Ee838)]), (Ch.row (Row.mk Bool.true Oq859 52 2 ((x823).1).1 Cq860 [(fun (i876 : Nat) => (SC.sl 10 (soq861 i876) (((x823).1).2 i876) (scq862 i876))), (fun (i877 : Nat) => (SC.bool (((x823).1).4 i877)))])), (Ch.row (Row.mk Bool.true Aq835 3 1 (x823).2 Dq837 [(fun (i878 : Nat) => (SC.int ((x823).3 i878)))])), (Ch.row (Row.mk Bool.true Hq836 3 1 (x823).4 Ee838 [(fun (i879 : Nat) => (SC.int ((x823).5 i879)))])), (Ch.obj Bool.true (symRows Bool.true 3 (CD.mk ((x823).1).1 ((x823).1).2 ((x823).1).3 ((x823).1).4) soq861 scq862))] [7, 8, 9, 10] [(Ch.row (Row.mk Bool.true Oq863 52 2 ((x).1).1 Cq866 [(fun (i880 : Nat) => (SC.sl 3 (soq869 i880) (((x).1).2 i880) (scq870 i880))), (fun (i881 : Nat) => (SC.bool (((x).1).4 i881)))])), (Ch.row (Row.mk Bool.true Aq864 3 1 (x).2 Dq867 [(fun (i882 : Nat) => (SC.int ((x).3 i882)))])), (Ch.row (Row.mk Bool.true Hq865 3 1 (x).4 Ee868 [(fun (i883 : Nat) => (SC.int ((x).5 i883)))])), (Ch.obj Bool.true (symRows Bool.true 3 (x).1 soq869 scq870))])))))))))))))))))))))))))))))))))))))))))))))))))))))))))))))))))))))))) ∧
 (∀ b884 : Nat,
 (True ∧
 ((b815 = b815 ∧
 ((A = A ∧
 (x).2 = (x).2) ∧
 ((∀ i885 : Nat,
 Bool.true = Bool.true) ∧
 (apC 0 (x).2 8)))) ∧
 (∀ ao886 : (Option Addr),
 (∀ cap887 : Nat,
 (True ∧
 ((b884 = b884 ∧
 ((H = H ∧
 (x).4 = (x).4) ∧
 ((∀ i888 : Nat,
 Bool.true = Bool.true) ∧
 (apC 0 (x).4 8)))) ∧
 (∀ ao889 : (Option Addr),
 (∀ cap890 : Nat,
 (True ∧
 (b814 = b814 ∧
 (True ∧
 (Exists (fun (x891 : AD) => (Exists (fun (O892 : (Option Addr)) => (Exists (fun (A893 : (Option Addr)) => (Exists (fun (H894 : (Option Addr)) => (Exists (fun (C895 : Nat) => (Exists (fun (D896 : Nat) => (Exists (fun (E897 : Nat) => (Exists (fun (so898 : (Nat →
 (Option Addr))) => (Exists (fun (sc899 : (Nat →
 Nat)) => (Exists (fun (bp900 : Nat) => (Exists (fun (br901 : Nat) => (Exists (fun (bo902 : Nat) => (Exists (fun (Aq903 : (Option Addr)) => (Exists (fun (Hq904 : (Option Addr)) => (Exists (fun (Dq905 : Nat) => (Exists (fun (Ee906 : Nat) => (([(Value.agg (List.toArray [(Value.slice O ((x).1).1 C), (Value.slice A (x).2 D), (Value.slice H (x).4 E)])), (Value.pointer (Option.some (Addr.mk b0 0 (none : Option (Nat))))), (Value.pointer (Option.some (Addr.mk b1 0 (none : Option (Nat))))), (Value.pointer (Option.some (Addr.mk b814 0 (none : Option (Nat))))), (Value.int IntKind.i64 (0 : Int)), (Value.slice (Option.some (Addr.mk b815 0 (none : Option (Nat)))) 0 0), (Value.pointer (Option.some (Addr.mk b0 1 (none : Option (Nat))))), (Value.slice A (x).2 D), (Value.slice ao886 (x).2 cap887), (Value.slice (Option.some (Addr.mk b884 0 (none : Option (Nat)))) 0 0), (Value.pointer (Option.some (Addr.mk b0 2 (none : Option (Nat))))), (Value.slice H (x).4 E), (Value.slice ao889 (x).4 cap890), (Value.agg (List.toArray [(Value.slice (none : Option (Addr)) 0 0), (Value.slice ao886 (x).2 cap887), (Value.slice ao889 (x).4 cap890)])), (Value.tuple (List.toArray [])), (Value.tuple (List.toArray [])), (Value.tuple (List.toArray [])), (Value.tuple (List.toArray [])), (Value.tuple (List.toArray [])), (Value.tuple (List.toArray [])), (Value.tuple (List.toArray [])), (Value.tuple (List.toArray [])), (Value.tuple (List.toArray [])), (Value.tuple (List.toArray [])), (Value.tuple (List.toArray [])), (Value.tuple (List.toArray [])), (Value.tuple (List.toArray [])), (Value.tuple (List.toArray [])), (Value.tuple (List.toArray [])), (Value.tuple (List.toArray [])), (Value.tuple (List.toArray [])), (Value.tuple (List.toArray [])), (Value.tuple (List.toArray []))] = [(Value.agg (List.toArray [(Value.slice O ((x).1).1 C), (Value.slice A (x).2 D), (Value.slice H (x).4 E)])), (Value.pointer (Option.some (Addr.mk bp900 0 (none : Option (Nat))))), (Value.pointer (Option.some (Addr.mk br901 0 (none : Option (Nat))))), (Value.pointer (Option.some (Addr.mk bo902 0 (none : Option (Nat))))), (Value.int IntKind.i64 (0 : Int)), (Value.slice (Option.some (Addr.mk b815 0 (none : Option (Nat)))) 0 0), (Value.pointer (Option.some (Addr.mk b0 1 (none : Option (Nat))))), (Value.slice A (x).2 D), (Value.slice ao886 (x).2 cap887), (Value.slice (Option.some (Addr.mk b884 0 (none : Option (Nat)))) 0 0), (Value.pointer (Option.some (Addr.mk b0 2 (none : Option (Nat))))), (Value.slice H (x).4 E), (Value.slice ao889 (x).4 cap890), (Value.agg (List.toArray [(Value.slice (none : Option (Addr)) 0 0), (Value.slice ao886 (x).2 cap887), (Value.slice ao889 (x).4 cap890)])), (Value.tuple (List.toArray [])), (Value.tuple (List.toArray [])), (Value.tuple (List.toArray [])), (Value.tuple (List.toArray [])), (Value.tuple (List.toArray [])), (Value.tuple (List.toArray [])), (Value.tuple (List.toArray [])), (Value.tuple (List.toArray [])), (Value.tuple (List.toArray [])), (Value.tuple (List.toArray [])), (Value.tuple (List.toArray [])), (Value.tuple (List.toArray [])), (Value.tuple (List.toArray [])), (Value.tuple (List.toArray [])), (Value.tuple (List.toArray [])), (Value.tuple (List.toArray [])), (Value.tuple (List.toArray [])), (Value.tuple (List.toArray [])), (Value.tuple (List.toArray []))] ∧
 ((SelS [(Ch.row (Row.mk Bool.false O 0 2 ((x).1).1 0 [(fun (i907 : Nat) => (SC.sl 3 (so i907) (((x).1).2 i907) (sc i907))), (fun (i908 : Nat) => (SC.bool (((x).1).4 i908)))])), (Ch.row (Row.mk Bool.false A 0 1 (x).2 0 [(fun (i909 : Nat) => (SC.int ((x).3 i909)))])), (Ch.row (Row.mk Bool.false H 0 1 (x).4 0 [(fun (i910 : Nat) => (SC.int ((x).5 i910)))])), (Ch.obj Bool.false (symRows Bool.false 0 (x).1 so (fun (x911 : Nat) => 0))), (Ch.cells b0 33 [(SC.sl 0 O ((x).1).1 C), (SC.sl 1 A (x).2 D), (SC.sl 2 H (x).4 E)]), (Ch.cells b1 33 [SC.nil, SC.nil, SC.nil]), (Ch.cells b814 33 [SC.nil, (SC.sl 9 ao886 (x).2 cap887), (SC.sl 10 ao889 (x).4 cap890)]), Ch.dead, Ch.dead, (Ch.row (Row.mk Bool.true ao886 3 1 (x).2 cap887 [(fun (i912 : Nat) => (SC.int ((x).3 i912)))])), (Ch.row (Row.mk Bool.true ao889 3 1 (x).4 cap890 [(fun (i913 : Nat) => (SC.int ((x).5 i913)))]))] [0, 1, 2, 3, 4, 5, 6, 1000000, 9, 10, 1000003] [(Ch.row (Row.mk Bool.false O892 0 2 ((x891).1).1 0 [(fun (i914 : Nat) => (SC.sl 3 (so898 i914) (((x891).1).2 i914) (sc899 i914))), (fun (i915 : Nat) => (SC.bool (((x891).1).4 i915)))])), (Ch.row (Row.mk Bool.false A893 0 1 (x891).2 0 [(fun (i916 : Nat) => (SC.int ((x891).3 i916)))])), (Ch.row (Row.mk Bool.false H894 0 1 (x891).4 0 [(fun (i917 : Nat) => (SC.int ((x891).5 i917)))])), (Ch.obj Bool.false (symRows Bool.false 0 (x891).1 so898 (fun (x918 : Nat) => 0))), (Ch.cells bp900 33 [(SC.sl 0 O892 ((x891).1).1 C895), (SC.sl 1 A893 (x891).2 D896), (SC.sl 2 H894 (x891).4 E897)]), (Ch.cells br901 33 [SC.nil, SC.nil, SC.nil]), (Ch.cells bo902 33 [(SC.sl 7 (none : Option (Addr)) 0 0), (SC.sl 8 Aq903 (x891).2 Dq905), (SC.sl 9 Hq904 (x891).4 Ee906)]), (Ch.row (Row.mk Bool.true (none : Option (Addr)) 52 2 0 0 [(fun (i919 : Nat) => (SC.sl 10 (none : Option (Addr)) (((x891).1).2 i919) 0)), (fun (i920 : Nat) => (SC.bool (((x891).1).4 i920)))])), (Ch.row (Row.mk Bool.true Aq903 3 1 (x891).2 Dq905 [(fun (i921 : Nat) => (SC.int ((x891).3 i921)))])), (Ch.row (Row.mk Bool.true Hq904 3 1 (x891).4 Ee906 [(fun (i922 : Nat) => (SC.int ((x891).5 i922)))])), (Ch.obj Bool.true (symRows Bool.true 3 (CD.mk 0 ((x891).1).2 ((x891).1).3 ((x891).1).4) (fun (x923 : Nat) => (none : Option (Addr))) (fun (x924 : Nat) => 0)))]) ∧
 (capA x891))) ∧
 (∀ g925 : (Nat →
 Value),
 (∀ kx926 : Int,
 (∀ Oq927 : (Option Addr),
 (∀ Cq928 : Nat,
 (∀ soq929 : (Nat →
 (Option Addr)),
 (∀ scq930 : (Nat →
 Nat),
 (bo902 = bo902 ∧
 (br901 = br901 ∧
 (br901 = br901 ∧
 (Exists (fun (Oq931 : (Option Addr)) => (Exists (fun (Aq932 : (Option Addr)) => (Exists (fun (Hq933 : (Option Addr)) => (Exists (fun (Cq934 : Nat) => (Exists (fun (Dq935 : Nat) => (Exists (fun (Ee936 : Nat) => (Exists (fun (soq937 : (Nat →
 (Option Addr))) => (Exists (fun (scq938 : (Nat →
 Nat)) => ((Value.agg (List.toArray [(Value.slice Oq927 ((x891).1).1 Cq928), (Value.slice Aq903 (x891).2 Dq905), (Value.slice Hq904 (x891).4 Ee906)])) = (Value.agg (List.toArray [(Value.slice Oq931 ((x).1).1 Cq934), (Value.slice Aq932 (x).2 Dq935), (Value.slice Hq933 (x).4 Ee936)])) ∧
 (SelS [(Ch.row (Row.mk Bool.false O892 0 2 ((x891).1).1 0 [(fun (i939 : Nat) => (SC.sl 3 (so898 i939) (((x891).1).2 i939) (sc899 i939))), (fun (i940 : Nat) => (SC.bool (((x891).1).4 i940)))])), (Ch.row (Row.mk Bool.false A893 0 1 (x891).2 0 [(fun (i941 : Nat) => (SC.int ((x891).3 i941)))])), (Ch.row (Row.mk Bool.false H894 0 1 (x891).4 0 [(fun (i942 : Nat) => (SC.int ((x891).5 i942)))])), (Ch.obj Bool.false (symRows Bool.false 0 (x891).1 so898 (fun (x943 : Nat) => 0))), (Ch.cells bp900 33 [(SC.sl 0 O892 ((x891).1).1 C895), (SC.sl 1 A893 (x891).2 D896), (SC.sl 2 H894 (x891).4 E897)]), (Ch.cells br901 33 [(SC.sl 7 Oq927 ((x891).1).1 Cq928), (SC.sl 8 Aq903 (x891).2 Dq905), (SC.sl 9 Hq904 (x891).4 Ee906)]), (Ch.cells bo902 33 [(SC.sl 7 Oq927 ((x891).1).1 Cq928), (SC.sl 8 Aq903 (x891).2 Dq905), (SC.sl 9 Hq904 (x891).4 Ee906)]), (Ch.row (Row.mk Bool.true Oq927 52 2 ((x891).1).1 Cq928 [(fun (i944 : Nat) => (SC.sl 10 (soq929 i944) (((x891).1).2 i944) (scq930 i944))), (fun (i945 : Nat) => (SC.bool (((x891).1).4 i945)))])), (Ch.row (Row.mk Bool.true Aq903 3 1 (x891).2 Dq905 [(fun (i946 : Nat) => (SC.int ((x891).3 i946)))])), (Ch.row (Row.mk Bool.true Hq904 3 1 (x891).4 Ee906 [(fun (i947 : Nat) => (SC.int ((x891).5 i947)))])), (Ch.obj Bool.true (symRows Bool.true 3 (CD.mk ((x891).1).1 ((x891).1).2 ((x891).1).3 ((x891).1).4) soq929 scq930))] [7, 8, 9, 10] [(Ch.row (Row.mk Bool.true Oq931 52 2 ((x).1).1 Cq934 [(fun (i948 : Nat) => (SC.sl 3 (soq937 i948) (((x).1).2 i948) (scq938 i948))), (fun (i949 : Nat) => (SC.bool (((x).1).4 i949)))])), (Ch.row (Row.mk Bool.true Aq932 3 1 (x).2 Dq935 [(fun (i950 : Nat) => (SC.int ((x).3 i950)))])), (Ch.row (Row.mk Bool.true Hq933 3 1 (x).4 Ee936 [(fun (i951 : Nat) => (SC.int ((x).5 i951)))])), (Ch.obj Bool.true (symRows Bool.true 3 (x).1 soq937 scq938))]))))))))))))))))))))))))))))))))))))))))))))))))))))))))))))))))))))))))))) ∧
 (∀ b952 : Nat,
 (True ∧
 (∀ b953 : Nat,
 (True ∧
 ((b953 = b953 ∧
 ((A = A ∧
 (x).2 = (x).2) ∧
 ((∀ i954 : Nat,
 Bool.true = Bool.true) ∧
 (apC 0 (x).2 8)))) ∧
 (∀ ao955 : (Option Addr),
 (∀ cap956 : Nat,
 (True ∧
 ((b952 = b952 ∧
 ((H = H ∧
 (x).4 = (x).4) ∧
 ((∀ i957 : Nat,
 Bool.true = Bool.true) ∧
 (apC 0 (x).4 8)))) ∧
 (∀ ao958 : (Option Addr),
 (∀ cap959 : Nat,
 (True ∧
 (b814 = b814 ∧
 (True ∧
 (Exists (fun (x960 : AD) => (Exists (fun (O961 : (Option Addr)) => (Exists (fun (A962 : (Option Addr)) => (Exists (fun (H963 : (Option Addr)) => (Exists (fun (C964 : Nat) => (Exists (fun (D965 : Nat) => (Exists (fun (E966 : Nat) => (Exists (fun (so967 : (Nat →
 (Option Addr))) => (Exists (fun (sc968 : (Nat →
 Nat)) => (Exists (fun (bp969 : Nat) => (Exists (fun (br970 : Nat) => (Exists (fun (bo971 : Nat) => (Exists (fun (Aq972 : (Option Addr)) => (Exists (fun (Hq973 : (Option Addr)) => (Exists (fun (Dq974 : Nat) => (Exists (fun (Ee975 : Nat) => (([(Value.agg (List.toArray [(Value.slice O ((x).1).1 C), (Value.slice A (x).2 D), (Value.slice H (x).4 E)])), (Value.pointer (Option.some (Addr.mk b0 0 (none : Option (Nat))))), (Value.pointer (Option.some (Addr.mk b1 0 (none : Option (Nat))))), (Value.pointer (Option.some (Addr.mk b814 0 (none : Option (Nat))))), (Value.int IntKind.i64 (0 : Int)), (Value.slice (Option.some (Addr.mk b953 0 (none : Option (Nat)))) 0 0), (Value.pointer (Option.some (Addr.mk b0 1 (none : Option (Nat))))), (Value.slice A (x).2 D), (Value.slice ao955 (x).2 cap956), (Value.slice (Option.some (Addr.mk b952 0 (none : Option (Nat)))) 0 0), (Value.pointer (Option.some (Addr.mk b0 2 (none : Option (Nat))))), (Value.slice H (x).4 E), (Value.slice ao958 (x).4 cap959), (Value.agg (List.toArray [(Value.slice (none : Option (Addr)) 0 0), (Value.slice ao955 (x).2 cap956), (Value.slice ao958 (x).4 cap959)])), (Value.tuple (List.toArray [])), (Value.tuple (List.toArray [])), (Value.tuple (List.toArray [])), (Value.tuple (List.toArray [])), (Value.tuple (List.toArray [])), (Value.tuple (List.toArray [])), (Value.tuple (List.toArray [])), (Value.tuple (List.toArray [])), (Value.tuple (List.toArray [])), (Value.tuple (List.toArray [])), (Value.tuple (List.toArray [])), (Value.tuple (List.toArray [])), (Value.tuple (List.toArray [])), (Value.tuple (List.toArray [])), (Value.tuple (List.toArray [])), (Value.tuple (List.toArray [])), (Value.tuple (List.toArray [])), (Value.tuple (List.toArray [])), (Value.tuple (List.toArray []))] = [(Value.agg (List.toArray [(Value.slice O ((x).1).1 C), (Value.slice A (x).2 D), (Value.slice H (x).4 E)])), (Value.pointer (Option.some (Addr.mk bp969 0 (none : Option (Nat))))), (Value.pointer (Option.some (Addr.mk br970 0 (none : Option (Nat))))), (Value.pointer (Option.some (Addr.mk bo971 0 (none : Option (Nat))))), (Value.int IntKind.i64 (0 : Int)), (Value.slice (Option.some (Addr.mk b953 0 (none : Option (Nat)))) 0 0), (Value.pointer (Option.some (Addr.mk b0 1 (none : Option (Nat))))), (Value.slice A (x).2 D), (Value.slice ao955 (x).2 cap956), (Value.slice (Option.some (Addr.mk b952 0 (none : Option (Nat)))) 0 0), (Value.pointer (Option.some (Addr.mk b0 2 (none : Option (Nat))))), (Value.slice H (x).4 E), (Value.slice ao958 (x).4 cap959), (Value.agg (List.toArray [(Value.slice (none : Option (Addr)) 0 0), (Value.slice ao955 (x).2 cap956), (Value.slice ao958 (x).4 cap959)])), (Value.tuple (List.toArray [])), (Value.tuple (List.toArray [])), (Value.tuple (List.toArray [])), (Value.tuple (List.toArray [])), (Value.tuple (List.toArray [])), (Value.tuple (List.toArray [])), (Value.tuple (List.toArray [])), (Value.tuple (List.toArray [])), (Value.tuple (List.toArray [])), (Value.tuple (List.toArray [])), (Value.tuple (List.toArray [])), (Value.tuple (List.toArray [])), (Value.tuple (List.toArray [])), (Value.tuple (List.toArray [])), (Value.tuple (List.toArray [])), (Value.tuple (List.toArray [])), (Value.tuple (List.toArray [])), (Value.tuple (List.toArray [])), (Value.tuple (List.toArray []))] ∧
 ((SelS [(Ch.row (Row.mk Bool.false O 0 2 ((x).1).1 0 [(fun (i976 : Nat) => (SC.sl 3 (so i976) (((x).1).2 i976) (sc i976))), (fun (i977 : Nat) => (SC.bool (((x).1).4 i977)))])), (Ch.row (Row.mk Bool.false A 0 1 (x).2 0 [(fun (i978 : Nat) => (SC.int ((x).3 i978)))])), (Ch.row (Row.mk Bool.false H 0 1 (x).4 0 [(fun (i979 : Nat) => (SC.int ((x).5 i979)))])), (Ch.obj Bool.false (symRows Bool.false 0 (x).1 so (fun (x980 : Nat) => 0))), (Ch.cells b0 33 [(SC.sl 0 O ((x).1).1 C), (SC.sl 1 A (x).2 D), (SC.sl 2 H (x).4 E)]), (Ch.cells b1 33 [SC.nil, SC.nil, SC.nil]), (Ch.cells b814 33 [SC.nil, (SC.sl 9 ao955 (x).2 cap956), (SC.sl 10 ao958 (x).4 cap959)]), Ch.dead, Ch.dead, (Ch.row (Row.mk Bool.true ao955 3 1 (x).2 cap956 [(fun (i981 : Nat) => (SC.int ((x).3 i981)))])), (Ch.row (Row.mk Bool.true ao958 3 1 (x).4 cap959 [(fun (i982 : Nat) => (SC.int ((x).5 i982)))]))] [0, 1, 2, 3, 4, 5, 6, 1000000, 9, 10, 1000003] [(Ch.row (Row.mk Bool.false O961 0 2 ((x960).1).1 0 [(fun (i983 : Nat) => (SC.sl 3 (so967 i983) (((x960).1).2 i983) (sc968 i983))), (fun (i984 : Nat) => (SC.bool (((x960).1).4 i984)))])), (Ch.row (Row.mk Bool.false A962 0 1 (x960).2 0 [(fun (i985 : Nat) => (SC.int ((x960).3 i985)))])), (Ch.row (Row.mk Bool.false H963 0 1 (x960).4 0 [(fun (i986 : Nat) => (SC.int ((x960).5 i986)))])), (Ch.obj Bool.false (symRows Bool.false 0 (x960).1 so967 (fun (x987 : Nat) => 0))), (Ch.cells bp969 33 [(SC.sl 0 O961 ((x960).1).1 C964), (SC.sl 1 A962 (x960).2 D965), (SC.sl 2 H963 (x960).4 E966)]), (Ch.cells br970 33 [SC.nil, SC.nil, SC.nil]), (Ch.cells bo971 33 [(SC.sl 7 (none : Option (Addr)) 0 0), (SC.sl 8 Aq972 (x960).2 Dq974), (SC.sl 9 Hq973 (x960).4 Ee975)]), (Ch.row (Row.mk Bool.true (none : Option (Addr)) 52 2 0 0 [(fun (i988 : Nat) => (SC.sl 10 (none : Option (Addr)) (((x960).1).2 i988) 0)), (fun (i989 : Nat) => (SC.bool (((x960).1).4 i989)))])), (Ch.row (Row.mk Bool.true Aq972 3 1 (x960).2 Dq974 [(fun (i990 : Nat) => (SC.int ((x960).3 i990)))])), (Ch.row (Row.mk Bool.true Hq973 3 1 (x960).4 Ee975 [(fun (i991 : Nat) => (SC.int ((x960).5 i991)))])), (Ch.obj Bool.true (symRows Bool.true 3 (CD.mk 0 ((x960).1).2 ((x960).1).3 ((x960).1).4) (fun (x992 : Nat) => (none : Option (Addr))) (fun (x993 : Nat) => 0)))]) ∧
 (capA x960))) ∧
 (∀ g994 : (Nat →
 Value),
 (∀ kx995 : Int,
 (∀ Oq996 : (Option Addr),
 (∀ Cq997 : Nat,
 (∀ soq998 : (Nat →
 (Option Addr)),
 (∀ scq999 : (Nat →
 Nat),
 (bo971 = bo971 ∧
 (br970 = br970 ∧
 (br970 = br970 ∧
 (Exists (fun (Oq1000 : (Option Addr)) => (Exists (fun (Aq1001 : (Option Addr)) => (Exists (fun (Hq1002 : (Option Addr)) => (Exists (fun (Cq1003 : Nat) => (Exists (fun (Dq1004 : Nat) => (Exists (fun (Ee1005 : Nat) => (Exists (fun (soq1006 : (Nat →
 (Option Addr))) => (Exists (fun (scq1007 : (Nat →
 Nat)) => ((Value.agg (List.toArray [(Value.slice Oq996 ((x960).1).1 Cq997), (Value.slice Aq972 (x960).2 Dq974), (Value.slice Hq973 (x960).4 Ee975)])) = (Value.agg (List.toArray [(Value.slice Oq1000 ((x).1).1 Cq1003), (Value.slice Aq1001 (x).2 Dq1004), (Value.slice Hq1002 (x).4 Ee1005)])) ∧
 (SelS [(Ch.row (Row.mk Bool.false O961 0 2 ((x960).1).1 0 [(fun (i1008 : Nat) => (SC.sl 3 (so967 i1008) (((x960).1).2 i1008) (sc968 i1008))), (fun (i1009 : Nat) => (SC.bool (((x960).1).4 i1009)))])), (Ch.row (Row.mk Bool.false A962 0 1 (x960).2 0 [(fun (i1010 : Nat) => (SC.int ((x960).3 i1010)))])), (Ch.row (Row.mk Bool.false H963 0 1 (x960).4 0 [(fun (i1011 : Nat) => (SC.int ((x960).5 i1011)))])), (Ch.obj Bool.false (symRows Bool.false 0 (x960).1 so967 (fun (x1012 : Nat) => 0))), (Ch.cells bp969 33 [(SC.sl 0 O961 ((x960).1).1 C964), (SC.sl 1 A962 (x960).2 D965), (SC.sl 2 H963 (x960).4 E966)]), (Ch.cells br970 33 [(SC.sl 7 Oq996 ((x960).1).1 Cq997), (SC.sl 8 Aq972 (x960).2 Dq974), (SC.sl 9 Hq973 (x960).4 Ee975)]), (Ch.cells bo971 33 [(SC.sl 7 Oq996 ((x960).1).1 Cq997), (SC.sl 8 Aq972 (x960).2 Dq974), (SC.sl 9 Hq973 (x960).4 Ee975)]), (Ch.row (Row.mk Bool.true Oq996 52 2 ((x960).1).1 Cq997 [(fun (i1013 : Nat) => (SC.sl 10 (soq998 i1013) (((x960).1).2 i1013) (scq999 i1013))), (fun (i1014 : Nat) => (SC.bool (((x960).1).4 i1014)))])), (Ch.row (Row.mk Bool.true Aq972 3 1 (x960).2 Dq974 [(fun (i1015 : Nat) => (SC.int ((x960).3 i1015)))])), (Ch.row (Row.mk Bool.true Hq973 3 1 (x960).4 Ee975 [(fun (i1016 : Nat) => (SC.int ((x960).5 i1016)))])), (Ch.obj Bool.true (symRows Bool.true 3 (CD.mk ((x960).1).1 ((x960).1).2 ((x960).1).3 ((x960).1).4) soq998 scq999))] [7, 8, 9, 10] [(Ch.row (Row.mk Bool.true Oq1000 52 2 ((x).1).1 Cq1003 [(fun (i1017 : Nat) => (SC.sl 3 (soq1006 i1017) (((x).1).2 i1017) (scq1007 i1017))), (fun (i1018 : Nat) => (SC.bool (((x).1).4 i1018)))])), (Ch.row (Row.mk Bool.true Aq1001 3 1 (x).2 Dq1004 [(fun (i1019 : Nat) => (SC.int ((x).3 i1019)))])), (Ch.row (Row.mk Bool.true Hq1002 3 1 (x).4 Ee1005 [(fun (i1020 : Nat) => (SC.int ((x).5 i1020)))])), (Ch.obj Bool.true (symRows Bool.true 3 (x).1 soq1006 scq1007))])))))))))))))))))))))))))))))))))))))))))))))))))))))))))))))))))))))))))))))))))))) := by kernel_rfl
theorem cpaS_any (x : AD) (O A H : Option Addr) (C D E : Nat) (so : Nat → Option Addr) (sc : Nat → Nat) (w : World) (hA : SeenA w x O A H so sc) (hcap : capA x) : Calls Try.prog 45 #[arrV x O A H C D E] w fun e w' => ∃ (Oq Aq Hq : Option Addr) (Cq Dq Ee : Nat) (soq : Nat → Option Addr) (scq : Nat → Nat), e = .returned (arrV x Oq Aq Hq Cq Dq Ee) ∧ HS ⟨w, fun _ => False⟩ (arrO 0 x Oq Aq Hq Cq Dq Ee soq scq) w' := by
  refine fn_ok mixed (E := { L := [(3, scpS)] }) trivial Try.func45 (one_loop (by kernel_rfl) (by kernel_rfl) (cpS_ok _)) (@Eq.mpr _ _ (cpaS_T x O A H C D E so sc) ?_) (HS.seenAll (fun _ => False) _ (hA.all 0 seenC_nil)) (fun v ch' w' ⟨Oq, Aq, Hq, Cq, Dq, Ee, soq, scq, hv, hc⟩ hs => ⟨Oq, Aq, Hq, Cq, Dq, Ee, soq, scq, by rw [hv], hc.hs hs⟩)
  clear hA
  have hcap2 := hcap
  obtain ⟨c1, c2, c3, c4⟩ := hcap2
  repeat' (first
    | with_reducible exact rfl
    | exact True.intro
    | with_reducible assumption
    | (refine ⟨x, O, A, H, C, D, E, so, sc, _, _, _, _, _, _, _, ⟨rfl, ?_, hcap⟩, ?_⟩)
    | exact (by refine ⟨?_, rfl⟩; repeat' (first | exact True.intro | exact symRows_push | exact rfl | refine And.intro ?_ ?_ | (intro i hi; show _ = _; with_reducible rfl) | (intro i hi; show _ = _; rfl) | exact symRows_nil | (intro i hi; show _ = _; simp only [SC.den]; split <;> rfl)))
    | refine And.intro ?_ ?_
    | apply Exists.intro
    | (intro h; replace h := of_decide_eq_true h; first | (exfalso; omega) | skip)
    | (intro h; replace h := of_decide_eq_false h; first | (exfalso; omega) | skip)
    | (intro i hi; with_reducible exact rfl)
    | intro _
    | omega
    | exact rfl)
def sCpA : Sm := fun args ch kk =>
  match args with
  | [.a c] => rdA ch c fun x => capA x ∧ ∀ (Oq Aq Hq : Option Addr) (Cq Dq Ee : Nat) (soq : Nat → Option Addr) (scq : Nat → Nat), kk (.a (arrS ch.length x Oq Aq Hq Cq Dq Ee)) (ch ++ arrO ch.length x Oq Aq Hq Cq Dq Ee soq scq) []
  | _ => False
theorem arrO_at {b : Nat} {x : AD} {O A H : Option Addr} {C D E : Nat} {so : Nat → Option Addr} {sc : Nat → Nat} {X : Cx} {w : World} (h : HS X (arrO 0 x O A H C D E so sc) w) : HS X (arrO b x O A H C D E so sc) w :=
  h.reS ⟨⟨rfl, rfl, rfl, rfl, rfl, rfl, fun i hi => rfl, fun i hi => rfl, trivial⟩, ⟨rfl, rfl, rfl, rfl, rfl, rfl, fun i hi => rfl, trivial⟩, ⟨rfl, rfl, rfl, rfl, rfl, rfl, fun i hi => rfl, trivial⟩, ⟨rfl, rfl⟩, trivial⟩
theorem sCpA_I : SmOK Try.prog 53 sCpA := by
  refine smN Try.call53 fun args ch kk w X h0 hs => ?_
  unfold sCpA at h0
  split at h0
  · obtain ⟨x, O, A, H, C, D, E, so, sc, e, hA, hc, h0⟩ := rdA_ok h0 hs
    refine Calls.mono (?_ : Calls Try.prog 53 _ w (fun e w' => ∃ (Oq Aq Hq : Option Addr) (Cq Dq Ee : Nat) (soq : Nat → Option Addr) (scq : Nat → Nat), e = .returned (arrV x Oq Aq Hq Cq Dq Ee) ∧ HS ⟨w, fun _ => False⟩ (arrO 0 x Oq Aq Hq Cq Dq Ee soq scq) w')) (fun e w' ⟨Oq, Aq, Hq, Cq, Dq, Ee, soq, scq, he, hs'⟩ => ⟨_, _, ?_, arrO_at hs', rfl, h0 Oq Aq Hq Cq Dq Ee soq scq⟩)
    · simp only [List.map_cons, List.map_nil, den_a, e]
      exact cpaI_any x O A H C D E so sc w hA hc
    · rw [he]
      rfl
  · exact h0.elim
theorem sCpA_S : SmOK Try.prog 45 sCpA := by
  refine smN Try.call45 fun args ch kk w X h0 hs => ?_
  unfold sCpA at h0
  split at h0
  · obtain ⟨x, O, A, H, C, D, E, so, sc, e, hA, hc, h0⟩ := rdA_ok h0 hs
    refine Calls.mono (?_ : Calls Try.prog 45 _ w (fun e w' => ∃ (Oq Aq Hq : Option Addr) (Cq Dq Ee : Nat) (soq : Nat → Option Addr) (scq : Nat → Nat), e = .returned (arrV x Oq Aq Hq Cq Dq Ee) ∧ HS ⟨w, fun _ => False⟩ (arrO 0 x Oq Aq Hq Cq Dq Ee soq scq) w')) (fun e w' ⟨Oq, Aq, Hq, Cq, Dq, Ee, soq, scq, he, hs'⟩ => ⟨_, _, ?_, arrO_at hs', rfl, h0 Oq Aq Hq Cq Dq Ee soq scq⟩)
    · simp only [List.map_cons, List.map_nil, den_a, e]
      exact cpaS_any x O A H C D E so sc w hA hc
    · rw [he]
      rfl
  · exact h0.elim
end Go.Proofs.Ytddeinpnadfgmaa
