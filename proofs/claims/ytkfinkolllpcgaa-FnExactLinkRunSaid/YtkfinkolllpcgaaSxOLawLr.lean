/-
  LinkRun.
-/
import Derived.Test.YtkfinkolllpcgaaSxORcv
import Derived.Test.YtkfinkolllpcgaaSxOpen
import Derived.Test.YtkfinkolllpcgaaSxRun3
namespace Go.Proofs.Ytkfinkolllpcgaa
set_option linter.unusedVariables false
set_option linter.unusedSimpArgs false
open Go.RowKit
set_option maxRecDepth 100000
set_option maxHeartbeats 8000000

def runD (n : Nat) (g0 g1 g2 g3 : Nat → Int) (m : Nat) (q : Nat → Int) : ReceiverD := ⟨(runS n g0 g1 g2 g3 m q).cnt, (runS n g0 g1 g2 g3 m q).rn, (runS n g0 g1 g2 g3 m q).c0, (runS n g0 g1 g2 g3 m q).c1, (runS n g0 g1 g2 g3 m q).c2, (runS n g0 g1 g2 g3 m q).c3⟩
theorem capRun {n : Nat} {g0 g1 g2 g3 : Nat → Int} {m : Nat} {q : Nat → Int} : capReceiver (runD n g0 g1 g2 g3 m q) := by
  have := (runS_in n g0 g1 g2 g3 m q).2
  simp only [capReceiver, runD]
  omega
def sRunO : Sm := fun args ch k =>
  match args with
  | [.a (.c x), .a (.c y)] => rd4 ch x fun n g0 g1 g2 g3 => rd1 ch y fun m q => (lenC n ∧ lenC m) ∧ ∀ (v' : Value) (rs' : List Row), isReceiver v' (runD n g0 g1 g2 g3 m q) rs' → k (.tup [.c (.obj ch.length v'), .c (.int (runW n g0 g1 g2 g3 m q)), .c (.bool (runB n g0 g1 g2 g3 m q))]) (ch ++ [.obj true rs']) []
  | _ => False
theorem sRunO_ok_impl_LinkRun : SmOK Try.prog 33 sRunO := by
  refine smN Try.call33 fun args ch k w X h0 hs => ?_
  unfold sRunO at h0
  split at h0
  · obtain ⟨ao, n, c, g0, g1, g2, g3, em, hr, h0⟩ := rd4_ok h0 hs
    obtain ⟨bo, m, c2, q, em2, hr2, ⟨hn, hm⟩, h0⟩ := rd1_ok h0 hs
    simp only [List.map_cons, List.map_nil, den_a, den_c, em, em2]
    refine Calls.mono (runI_any ao n c g0 g1 g2 g3 bo m c2 q w hr hr2 hn hm) fun e w' ⟨ro, rc, he, hs'⟩ => ⟨_, [.obj true _], ?_, hs'.pack (rs := [_]) (by simp), rfl, h0 _ _ ⟨ro, rc, _, _, _, rfl, rfl⟩⟩
    rw [he]
    rfl
  · exact h0.elim
theorem sRunO_ok_spec_LinkRun : SmOK Try.prog 40 sRunO := by
  refine smN Try.call40 fun args ch k w X h0 hs => ?_
  unfold sRunO at h0
  split at h0
  · obtain ⟨ao, n, c, g0, g1, g2, g3, em, hr, h0⟩ := rd4_ok h0 hs
    obtain ⟨bo, m, c2, q, em2, hr2, ⟨hn, hm⟩, h0⟩ := rd1_ok h0 hs
    simp only [List.map_cons, List.map_nil, den_a, den_c, em, em2]
    refine Calls.mono (runS_any ao n c g0 g1 g2 g3 bo m c2 q w hr hr2 hn hm) fun e w' ⟨ro, rc, he, hs'⟩ => ⟨_, [.obj true _], ?_, hs'.pack (rs := [_]) (by simp), rfl, h0 _ _ ⟨ro, rc, _, _, _, rfl, rfl⟩⟩
    rw [he]
    rfl
  · exact h0.elim
theorem law_FnExactLinkRun_T (aListO : Option Addr) (aListN aListC : Nat) (aListg0 aListg1 aListg2 aListg3 : Nat → Int) (aNoiseO : Option Addr) (aNoiseN aNoiseC : Nat) (aNoiseg0 : Nat → Int) : (exFn Try.prog {tb := [(28, sToCommandS), (29, sEqCommandS), (30, sMarkCommandS), (63, sHeldCommandS), (26, sSzCommandS), (41, sToIntS), (42, sEqIntS), (43, sMarkIntS), (51, sHeldIntS), (36, sToReceiverO), (37, sEqReceiverO), (38, sMarkReceiverO), (39, sHeldReceiverO), (34, sSzReceiverO), (33, sRunO), (40, sRunO)]} 400 Try.f9 ([.a (.c (.sl 0 aListO aListN aListC)), .a (.c (.sl 1 aNoiseO aNoiseN aNoiseC))]) ([.row ⟨false, aListO, 0, 4, aListN, 0, [fun i => .int (aListg0 i), fun i => .int (aListg1 i), fun i => .int (aListg2 i), fun i => .int (aListg3 i)]⟩, .row ⟨false, aNoiseO, 0, 1, aNoiseN, 0, [fun i => .int (aNoiseg0 i)]⟩]) (fun v _ => v.den = .bool true)) = (
  (((decide (((aNoiseN : Nat) : Int) > (1048576 : Int))) = Bool.true →
  (Value.bool Bool.true) = (Value.bool Bool.true)) ∧
  ((decide (((aNoiseN : Nat) : Int) > (1048576 : Int))) = Bool.false →
  ((szC aListN (1048576 : Int)) ∧
   ((((1048576 : Int) < ((aListN : Nat) : Int)) →
   (Value.bool Bool.true) = (Value.bool Bool.true)) ∧
   ((((aListN : Nat) : Int) ≤ (1048576 : Int)) →
   (((decide (((1048576 : Int) - ((aListN : Nat) : Int)) < (0 : Int))) = Bool.true →
    (Value.bool Bool.true) = (Value.bool Bool.true)) ∧
    ((decide (((1048576 : Int) - ((aListN : Nat) : Int)) < (0 : Int))) = Bool.false →
    (Exists (fun (g00 : (Nat →
     Int)) => (Exists (fun (g11 : (Nat →
     Int)) => (Exists (fun (g22 : (Nat →
     Int)) => (Exists (fun (g33 : (Nat →
     Int)) => ((aListO = aListO ∧
     (aListN = aListN ∧
     ([(fun (i4 : Nat) => (SC.int (aListg0 i4))), (fun (i5 : Nat) => (SC.int (aListg1 i5))), (fun (i6 : Nat) => (SC.int (aListg2 i6))), (fun (i7 : Nat) => (SC.int (aListg3 i7)))] = [(fun (i8 : Nat) => (SC.int (g00 i8))), (fun (i9 : Nat) => (SC.int (g11 i9))), (fun (i10 : Nat) => (SC.int (g22 i10))), (fun (i11 : Nat) => (SC.int (g33 i11)))] ∧
     (capC aListN)))) ∧
     (∀ b12 : Nat,
     (Exists (fun (g013 : (Nat →
     Int)) => ((aNoiseO = aNoiseO ∧
     (aNoiseN = aNoiseN ∧
     ([(fun (i14 : Nat) => (SC.int (aNoiseg0 i14)))] = [(fun (i15 : Nat) => (SC.int (g013 i15)))] ∧
     (capC aNoiseN)))) ∧
     (∀ b16 : Nat,
     (Exists (fun (g017 : (Nat →
     Int)) => (Exists (fun (g118 : (Nat →
     Int)) => (Exists (fun (g219 : (Nat →
     Int)) => (Exists (fun (g320 : (Nat →
     Int)) => (((Option.some (Addr.mk b12 0 Option.none)) = (Option.some (Addr.mk b12 0 Option.none)) ∧
     (aListN = aListN ∧
     [(fun (i21 : Nat) => (SC.int (g00 i21))), (fun (i22 : Nat) => (SC.int (g11 i22))), (fun (i23 : Nat) => (SC.int (g22 i23))), (fun (i24 : Nat) => (SC.int (g33 i24)))] = [(fun (i25 : Nat) => (SC.int (g017 i25))), (fun (i26 : Nat) => (SC.int (g118 i26))), (fun (i27 : Nat) => (SC.int (g219 i27))), (fun (i28 : Nat) => (SC.int (g320 i28)))])) ∧
     (Exists (fun (g029 : (Nat →
     Int)) => (((Option.some (Addr.mk b16 0 Option.none)) = (Option.some (Addr.mk b16 0 Option.none)) ∧
     (aNoiseN = aNoiseN ∧
     [(fun (i30 : Nat) => (SC.int (g013 i30)))] = [(fun (i31 : Nat) => (SC.int (g029 i31)))])) ∧
     (((lenC aListN) ∧
     (lenC aNoiseN)) ∧
     (∀ v'32 : Value,
     (∀ rs'33 : (List Row),
     ((isReceiver v'32 (runD aListN g017 g118 g219 g320 aNoiseN g029) rs'33) →
     (∀ b34 : Nat,
      ((b34 = b34 ∧
      (wholeC Bool.true v'32 2)) ∧
      (Exists (fun (g035 : (Nat →
      Int)) => (Exists (fun (g136 : (Nat →
      Int)) => (Exists (fun (g237 : (Nat →
      Int)) => (Exists (fun (g338 : (Nat →
      Int)) => ((aListO = aListO ∧
      (aListN = aListN ∧
      ([(fun (i39 : Nat) => (SC.int (aListg0 i39))), (fun (i40 : Nat) => (SC.int (aListg1 i40))), (fun (i41 : Nat) => (SC.int (aListg2 i41))), (fun (i42 : Nat) => (SC.int (aListg3 i42)))] = [(fun (i43 : Nat) => (SC.int (g035 i43))), (fun (i44 : Nat) => (SC.int (g136 i44))), (fun (i45 : Nat) => (SC.int (g237 i45))), (fun (i46 : Nat) => (SC.int (g338 i46)))] ∧
      (capC aListN)))) ∧
      (∀ b47 : Nat,
      (Exists (fun (g048 : (Nat →
      Int)) => ((aNoiseO = aNoiseO ∧
      (aNoiseN = aNoiseN ∧
      ([(fun (i49 : Nat) => (SC.int (aNoiseg0 i49)))] = [(fun (i50 : Nat) => (SC.int (g048 i50)))] ∧
      (capC aNoiseN)))) ∧
      (∀ b51 : Nat,
      (Exists (fun (g052 : (Nat →
      Int)) => (Exists (fun (g153 : (Nat →
      Int)) => (Exists (fun (g254 : (Nat →
      Int)) => (Exists (fun (g355 : (Nat →
      Int)) => (((Option.some (Addr.mk b47 0 Option.none)) = (Option.some (Addr.mk b47 0 Option.none)) ∧
      (aListN = aListN ∧
      [(fun (i56 : Nat) => (SC.int (g035 i56))), (fun (i57 : Nat) => (SC.int (g136 i57))), (fun (i58 : Nat) => (SC.int (g237 i58))), (fun (i59 : Nat) => (SC.int (g338 i59)))] = [(fun (i60 : Nat) => (SC.int (g052 i60))), (fun (i61 : Nat) => (SC.int (g153 i61))), (fun (i62 : Nat) => (SC.int (g254 i62))), (fun (i63 : Nat) => (SC.int (g355 i63)))])) ∧
      (Exists (fun (g064 : (Nat →
      Int)) => (((Option.some (Addr.mk b51 0 Option.none)) = (Option.some (Addr.mk b51 0 Option.none)) ∧
      (aNoiseN = aNoiseN ∧
      [(fun (i65 : Nat) => (SC.int (g048 i65)))] = [(fun (i66 : Nat) => (SC.int (g064 i66)))])) ∧
      (((lenC aListN) ∧
      (lenC aNoiseN)) ∧
      (∀ v'67 : Value,
      (∀ rs'68 : (List Row),
      ((isReceiver v'67 (runD aListN g052 g153 g254 g355 aNoiseN g064) rs'68) →
      (∀ b69 : Nat,
       ((b69 = b69 ∧
       (wholeC Bool.true v'67 2)) ∧
       (b69 = b69 ∧
       (b34 = b34 ∧
       (Exists (fun (x70 : ReceiverD) => (((isReceiver v'67 x70 rs'68) ∧
       ((isReceiver v'32 x70 rs'33) ∧
       (capReceiver x70))) ∧
       ((((runW aListN g052 g153 g254 g355 aNoiseN g064) != (runW aListN g017 g118 g219 g320 aNoiseN g029)) = Bool.false →
       ((((runB aListN g052 g153 g254 g355 aNoiseN g064) != (runB aListN g017 g118 g219 g320 aNoiseN g029)) = Bool.true →
        (Value.bool Bool.false) = (Value.bool Bool.true)) ∧
        (((runB aListN g052 g153 g254 g355 aNoiseN g064) != (runB aListN g017 g118 g219 g320 aNoiseN g029)) = Bool.false →
        (Exists (fun (g071 : (Nat →
         Int)) => (Exists (fun (g172 : (Nat →
         Int)) => (Exists (fun (g273 : (Nat →
         Int)) => (Exists (fun (g374 : (Nat →
         Int)) => ((aListO = aListO ∧
         (aListN = aListN ∧
         ([(fun (i75 : Nat) => (SC.int (aListg0 i75))), (fun (i76 : Nat) => (SC.int (aListg1 i76))), (fun (i77 : Nat) => (SC.int (aListg2 i77))), (fun (i78 : Nat) => (SC.int (aListg3 i78)))] = [(fun (i79 : Nat) => (SC.int (g071 i79))), (fun (i80 : Nat) => (SC.int (g172 i80))), (fun (i81 : Nat) => (SC.int (g273 i81))), (fun (i82 : Nat) => (SC.int (g374 i82)))] ∧
         (capC aListN)))) ∧
         (∀ b83 : Nat,
         (Exists (fun (g084 : (Nat →
         Int)) => (Exists (fun (g185 : (Nat →
         Int)) => (Exists (fun (g286 : (Nat →
         Int)) => (Exists (fun (g387 : (Nat →
         Int)) => (Exists (fun (q088 : (Nat →
         Int)) => (Exists (fun (q189 : (Nat →
         Int)) => (Exists (fun (q290 : (Nat →
         Int)) => (Exists (fun (q391 : (Nat →
         Int)) => (((Option.some (Addr.mk b47 0 Option.none)) = (Option.some (Addr.mk b47 0 Option.none)) ∧
         (aListN = aListN ∧
         ([(fun (i92 : Nat) => (SC.int (g035 i92))), (fun (i93 : Nat) => (SC.int (g136 i93))), (fun (i94 : Nat) => (SC.int (g237 i94))), (fun (i95 : Nat) => (SC.int (g338 i95)))] = [(fun (i96 : Nat) => (SC.int (g084 i96))), (fun (i97 : Nat) => (SC.int (g185 i97))), (fun (i98 : Nat) => (SC.int (g286 i98))), (fun (i99 : Nat) => (SC.int (g387 i99)))] ∧
         ((Option.some (Addr.mk b83 0 Option.none)) = (Option.some (Addr.mk b83 0 Option.none)) ∧
         (aListN = aListN ∧
         ([(fun (i100 : Nat) => (SC.int (g071 i100))), (fun (i101 : Nat) => (SC.int (g172 i101))), (fun (i102 : Nat) => (SC.int (g273 i102))), (fun (i103 : Nat) => (SC.int (g374 i103)))] = [(fun (i104 : Nat) => (SC.int (q088 i104))), (fun (i105 : Nat) => (SC.int (q189 i105))), (fun (i106 : Nat) => (SC.int (q290 i106))), (fun (i107 : Nat) => (SC.int (q391 i107)))] ∧
         (aListN = aListN ∧
         (capC aListN)))))))) ∧
         ((∀ i108 : Nat,
         (i108 < aListN →
         ((g084 i108) = (q088 i108) ∧
          ((g185 i108) = (q189 i108) ∧
          ((g286 i108) = (q290 i108) ∧
          (g387 i108) = (q391 i108)))))) ∧
         (Exists (fun (g0109 : (Nat →
         Int)) => ((aNoiseO = aNoiseO ∧
         (aNoiseN = aNoiseN ∧
         ([(fun (i110 : Nat) => (SC.int (aNoiseg0 i110)))] = [(fun (i111 : Nat) => (SC.int (g0109 i111)))] ∧
         (capC aNoiseN)))) ∧
         (∀ b112 : Nat,
         (Exists (fun (g0113 : (Nat →
         Int)) => (Exists (fun (q0114 : (Nat →
         Int)) => (((Option.some (Addr.mk b51 0 Option.none)) = (Option.some (Addr.mk b51 0 Option.none)) ∧
         (aNoiseN = aNoiseN ∧
         ([(fun (i115 : Nat) => (SC.int (g048 i115)))] = [(fun (i116 : Nat) => (SC.int (g0113 i116)))] ∧
         ((Option.some (Addr.mk b112 0 Option.none)) = (Option.some (Addr.mk b112 0 Option.none)) ∧
         (aNoiseN = aNoiseN ∧
         ([(fun (i117 : Nat) => (SC.int (g0109 i117)))] = [(fun (i118 : Nat) => (SC.int (q0114 i118)))] ∧
         (aNoiseN = aNoiseN ∧
         (capC aNoiseN)))))))) ∧
         ((∀ i119 : Nat,
         (i119 < aNoiseN →
         (g0113 i119) = (q0114 i119))) ∧
         (Exists (fun (g0120 : (Nat →
         Int)) => (Exists (fun (g1121 : (Nat →
         Int)) => (Exists (fun (g2122 : (Nat →
         Int)) => (Exists (fun (g3123 : (Nat →
         Int)) => (((Option.some (Addr.mk b47 0 Option.none)) = (Option.some (Addr.mk b47 0 Option.none)) ∧
         (aListN = aListN ∧
         ([(fun (i124 : Nat) => (SC.int (g035 i124))), (fun (i125 : Nat) => (SC.int (g136 i125))), (fun (i126 : Nat) => (SC.int (g237 i126))), (fun (i127 : Nat) => (SC.int (g338 i127)))] = [(fun (i128 : Nat) => (SC.int (g0120 i128))), (fun (i129 : Nat) => (SC.int (g1121 i129))), (fun (i130 : Nat) => (SC.int (g2122 i130))), (fun (i131 : Nat) => (SC.int (g3123 i131)))] ∧
         (markC aListN (1 : Int))))) ∧
         (Exists (fun (g0132 : (Nat →
         Int)) => (((Option.some (Addr.mk b51 0 Option.none)) = (Option.some (Addr.mk b51 0 Option.none)) ∧
         (aNoiseN = aNoiseN ∧
         ([(fun (i133 : Nat) => (SC.int (g048 i133)))] = [(fun (i134 : Nat) => (SC.int (g0132 i134)))] ∧
         (markC aNoiseN (mk (1 : Int) 4 0 aListN))))) ∧
         (((decide ((mk (mk (1 : Int) 4 0 aListN) 1 0 aNoiseN) < (0 : Int))) = Bool.false →
         (b69 = b69 ∧
          (b34 = b34 ∧
          (Exists (fun (x135 : ReceiverD) => (((isReceiver v'67 x135 rs'68) ∧
          ((isReceiver v'32 x135 rs'33) ∧
          (capReceiver x135))) ∧
          ((((runW aListN g052 g153 g254 g355 aNoiseN g064) != (runW aListN g017 g118 g219 g320 aNoiseN g029)) = Bool.false →
          ((((runB aListN g052 g153 g254 g355 aNoiseN g064) != (runB aListN g017 g118 g219 g320 aNoiseN g029)) = Bool.true →
           (Value.bool Bool.false) = (Value.bool Bool.true)) ∧
           (((runB aListN g052 g153 g254 g355 aNoiseN g064) != (runB aListN g017 g118 g219 g320 aNoiseN g029)) = Bool.false →
           (b69 = b69 ∧
            (Exists (fun (x136 : ReceiverD) => (((isReceiver v'67 x136 rs'68) ∧
            ((capReceiver x136) ∧
            (mrkC (1 : Int)))) ∧
            ((endC (1 : Int) (endReceiver (1 : Int) x136) (16777216 : Int)) →
            (∀ rs'137 : (List Row),
             ((isReceiver v'67 (markReceiverD (1 : Int) x136) rs'137) →
             (b69 = b69 ∧
              (Exists (fun (x138 : ReceiverD) => (((isReceiver v'67 (markReceiverD (1 : Int) x138) rs'137) ∧
              ((capReceiver x138) ∧
              (mrkC (1 : Int)))) ∧
              (((decide ((endReceiver (1 : Int) x138) < (0 : Int))) = Bool.true →
              (Value.bool Bool.false) = (Value.bool Bool.true)) ∧
              ((decide ((endReceiver (1 : Int) x138) < (0 : Int))) = Bool.false →
              ((((endReceiver (1 : Int) x138) != (endReceiver (1 : Int) x136)) = Bool.true →
               (Value.bool Bool.false) = (Value.bool Bool.true)) ∧
               (((endReceiver (1 : Int) x138) != (endReceiver (1 : Int) x136)) = Bool.false →
               (Exists (fun (g0139 : (Nat →
                Int)) => (Exists (fun (g1140 : (Nat →
                Int)) => (Exists (fun (g2141 : (Nat →
                Int)) => (Exists (fun (g3142 : (Nat →
                Int)) => ((aListO = aListO ∧
                (aListN = aListN ∧
                ([(fun (i143 : Nat) => (SC.int (aListg0 i143))), (fun (i144 : Nat) => (SC.int (aListg1 i144))), (fun (i145 : Nat) => (SC.int (aListg2 i145))), (fun (i146 : Nat) => (SC.int (aListg3 i146)))] = [(fun (i147 : Nat) => (SC.int (g0139 i147))), (fun (i148 : Nat) => (SC.int (g1140 i148))), (fun (i149 : Nat) => (SC.int (g2141 i149))), (fun (i150 : Nat) => (SC.int (g3142 i150)))] ∧
                (capC aListN)))) ∧
                (∀ b151 : Nat,
                (Exists (fun (g0152 : (Nat →
                Int)) => ((aNoiseO = aNoiseO ∧
                (aNoiseN = aNoiseN ∧
                ([(fun (i153 : Nat) => (SC.int (aNoiseg0 i153)))] = [(fun (i154 : Nat) => (SC.int (g0152 i154)))] ∧
                (capC aNoiseN)))) ∧
                (∀ b155 : Nat,
                (Exists (fun (g0156 : (Nat →
                Int)) => (Exists (fun (g1157 : (Nat →
                Int)) => (Exists (fun (g2158 : (Nat →
                Int)) => (Exists (fun (g3159 : (Nat →
                Int)) => (((Option.some (Addr.mk b151 0 Option.none)) = (Option.some (Addr.mk b151 0 Option.none)) ∧
                (aListN = aListN ∧
                [(fun (i160 : Nat) => (SC.int (g0139 i160))), (fun (i161 : Nat) => (SC.int (g1140 i161))), (fun (i162 : Nat) => (SC.int (g2141 i162))), (fun (i163 : Nat) => (SC.int (g3142 i163)))] = [(fun (i164 : Nat) => (SC.int (g0156 i164))), (fun (i165 : Nat) => (SC.int (g1157 i165))), (fun (i166 : Nat) => (SC.int (g2158 i166))), (fun (i167 : Nat) => (SC.int (g3159 i167)))])) ∧
                (Exists (fun (g0168 : (Nat →
                Int)) => (((Option.some (Addr.mk b155 0 Option.none)) = (Option.some (Addr.mk b155 0 Option.none)) ∧
                (aNoiseN = aNoiseN ∧
                [(fun (i169 : Nat) => (SC.int (g0152 i169)))] = [(fun (i170 : Nat) => (SC.int (g0168 i170)))])) ∧
                (((lenC aListN) ∧
                (lenC aNoiseN)) ∧
                (∀ v'171 : Value,
                (∀ rs'172 : (List Row),
                ((isReceiver v'171 (runD aListN g0156 g1157 g2158 g3159 aNoiseN g0168) rs'172) →
                (∀ b173 : Nat,
                 ((b173 = b173 ∧
                 (wholeC Bool.true v'171 2)) ∧
                 (b173 = b173 ∧
                 (b34 = b34 ∧
                 (Exists (fun (x174 : ReceiverD) => (((isReceiver v'171 x174 rs'172) ∧
                 ((isReceiver v'32 x174 rs'33) ∧
                 (capReceiver x174))) ∧
                 ((((runW aListN g0156 g1157 g2158 g3159 aNoiseN g0168) != (runW aListN g017 g118 g219 g320 aNoiseN g029)) = Bool.false →
                 ((((runB aListN g0156 g1157 g2158 g3159 aNoiseN g0168) != (runB aListN g017 g118 g219 g320 aNoiseN g029)) = Bool.true →
                  (Value.bool Bool.false) = (Value.bool Bool.true)) ∧
                  (((runB aListN g0156 g1157 g2158 g3159 aNoiseN g0168) != (runB aListN g017 g118 g219 g320 aNoiseN g029)) = Bool.false →
                  (b69 = b69 ∧
                   (Exists (fun (x175 : ReceiverD) => (((isReceiver v'67 (markReceiverD (1 : Int) x175) rs'137) ∧
                   ((capReceiver x175) ∧
                   (mrkC (1 : Int)))) ∧
                   (((decide ((endReceiver (1 : Int) x175) < (0 : Int))) = Bool.true →
                   (Value.bool Bool.false) = (Value.bool Bool.true)) ∧
                   ((decide ((endReceiver (1 : Int) x175) < (0 : Int))) = Bool.false →
                   ((((endReceiver (1 : Int) x175) != (endReceiver (1 : Int) x136)) = Bool.true →
                    (Value.bool Bool.false) = (Value.bool Bool.true)) ∧
                    (((endReceiver (1 : Int) x175) != (endReceiver (1 : Int) x136)) = Bool.false →
                    (Value.bool Bool.true) = (Value.bool Bool.true)))))))))))) ∧
                 (((runW aListN g0156 g1157 g2158 g3159 aNoiseN g0168) != (runW aListN g017 g118 g219 g320 aNoiseN g029)) = Bool.true →
                 (Value.bool Bool.false) = (Value.bool Bool.true)))))))))))))))))))))))))))))))))))))))))))))))))))))))))) ∧
          (((runW aListN g052 g153 g254 g355 aNoiseN g064) != (runW aListN g017 g118 g219 g320 aNoiseN g029)) = Bool.true →
          (Value.bool Bool.false) = (Value.bool Bool.true))))))))) ∧
         ((decide ((mk (mk (1 : Int) 4 0 aListN) 1 0 aNoiseN) < (0 : Int))) = Bool.true →
         (Value.bool Bool.false) = (Value.bool Bool.true)))))))))))))))))))))))))))))))))))))))))))))))))))))))) ∧
       (((runW aListN g052 g153 g254 g355 aNoiseN g064) != (runW aListN g017 g118 g219 g320 aNoiseN g029)) = Bool.true →
       (Value.bool Bool.false) = (Value.bool Bool.true)))))))))))))))))))))))))))))))))))))))))))))))))))))))))))))))))))))))))))))))) := by kernel_rfl
theorem law_FnExactLinkRun_any (aListO : Option Addr) (aListN aListC : Nat) (aListg0 aListg1 aListg2 aListg3 : Nat → Int) (aNoiseO : Option Addr) (aNoiseN aNoiseC : Nat) (aNoiseg0 : Nat → Int) (W : World) (hw0 : Row.sat W ⟨false, aListO, 0, 4, aListN, 0, [fun i => .int (aListg0 i), fun i => .int (aListg1 i), fun i => .int (aListg2 i), fun i => .int (aListg3 i)]⟩) (hn0 : aListN ≤ 9223372036854775807) (hw1 : Row.sat W ⟨false, aNoiseO, 0, 1, aNoiseN, 0, [fun i => .int (aNoiseg0 i)]⟩) (hn1 : aNoiseN ≤ 9223372036854775807) : Calls Try.prog 9 #[.slice aListO aListN aListC, .slice aNoiseO aNoiseN aNoiseC] W fun e W' => e = .returned (.bool true) ∧ Below W.heap.size W W' := by
  refine fnB (tb := [(28, sToCommandS), (29, sEqCommandS), (30, sMarkCommandS), (63, sHeldCommandS), (26, sSzCommandS), (41, sToIntS), (42, sEqIntS), (43, sMarkIntS), (51, sHeldIntS), (36, sToReceiverO), (37, sEqReceiverO), (38, sMarkReceiverO), (39, sHeldReceiverO), (34, sSzReceiverO), (33, sRunO), (40, sRunO)]) ⟨sToCommandS_ok, sEqCommandS_ok, sMarkCommandS_ok, sHeldCommandS_ok, sSzCommandS_ok, sToIntS_ok, sEqIntS_ok, sMarkIntS_ok, sHeldIntS_ok, sToReceiverO_ok_laws_toReceiver, sEqReceiverO_ok, sMarkReceiverO_ok, sHeldReceiverO_ok, sSzReceiverO_ok, sRunO_ok_impl_LinkRun, sRunO_ok_spec_LinkRun, trivial⟩ Try.func9 (@Eq.mpr _ _ (law_FnExactLinkRun_T aListO aListN aListC aListg0 aListg1 aListg2 aListg3 aNoiseO aNoiseN aNoiseC aNoiseg0) ?_) (HS.seenAll (fun _ => False) [.row ⟨false, aListO, 0, 4, aListN, 0, [fun i => .int (aListg0 i), fun i => .int (aListg1 i), fun i => .int (aListg2 i), fun i => .int (aListg3 i)]⟩, .row ⟨false, aNoiseO, 0, 1, aNoiseN, 0, [fun i => .int (aNoiseg0 i)]⟩] (seenC_row rfl hw0 (seenC_row rfl hw1 seenC_nil))) (fun v ch' w' hk hs => ⟨by rw [hk], hs.below⟩)
  clear hw0 hw1
  by_cases hle : aNoiseN ≤ 1048576
  all_goals by_cases hle2 : aListN ≤ 1048576
  all_goals
    repeat' (first
      | exact rfl
      | exact True.intro
      | assumption
      | exact capRun
      | exact wholeReceiver (by assumption)
      | refine And.intro ?_ ?_
      | apply Exists.intro
      | omega
      | (intro h; exfalso; revert h; simp; done)
      | (intro h; exfalso; simp at h; omega)
      | (intro h; exfalso; replace h := of_decide_eq_true h; simp only [mk] at h; omega)
      | intro _
      | (simp only [mk]; omega))
theorem walk_FnExactLinkRun (aListO : Option Addr) (aListN aListC : Nat) (aNoiseO : Option Addr) (aNoiseN aNoiseC : Nat) (W : World) (hsaList : Has W (.slice (.cons .int (.cons .int (.cons .int (.cons .int .nil))))) (Value.slice aListO aListN aListC).cells.toList) (hsaNoise : Has W (.slice .int) (Value.slice aNoiseO aNoiseN aNoiseC).cells.toList) : Calls Try.prog 9 #[.slice aListO aListN aListC, .slice aNoiseO aNoiseN aNoiseC] W fun e W' => e = .returned (.bool true) ∧ Below W.heap.size W W' := by
  obtain ⟨hnaList, aListG, bGaList, hraList⟩ := row_of_has (s := 4) (.inr rfl) (by omega) rfl hsaList
  obtain ⟨hnaNoise, aNoiseG, bGaNoise, hraNoise⟩ := row_of_has (s := 1) (.inl ⟨rfl, rfl⟩) (by omega) rfl hsaNoise
  exact law_FnExactLinkRun_any aListO aListN aListC (aListG 0) (aListG 1) (aListG 2) (aListG 3) aNoiseO aNoiseN aNoiseC (aNoiseG 0) W hraList hnaList hraNoise hnaNoise
end Go.Proofs.Ytkfinkolllpcgaa
