/-
  SenderNew.
-/
import Derived.Test.YtkfinkolllpcgaaSxOLnk
import Derived.Test.YtkfinkolllpcgaaSxOpen
import Derived.Test.YtkfinkolllpcgaaSxSnd2
namespace Go.Proofs.Ytkfinkolllpcgaa
set_option linter.unusedVariables false
set_option linter.unusedSimpArgs false
open Go.RowKit
set_option maxRecDepth 100000
set_option maxHeartbeats 8000000

def sndD0 (n : Nat) (g0 g1 g2 g3 : Nat → Int) : SenderD := ⟨sndN n g0 g1 g2 g3, fr g0 g1 g2 g3, 0⟩
theorem capSnd0 {n : Nat} {g0 g1 g2 g3 : Nat → Int} : capSender (sndD0 n g0 g1 g2 g3) := by
  simp only [capSender, sndD0, sndN]
  split
  · rename_i h
    simp [sndOkB] at h
    omega
  · omega
def sSndO : Sm := fun args ch k =>
  match args with
  | [.a (.c x)] => rd4 ch x fun n g0 g1 g2 g3 => lenC n ∧ ∀ (v' : Value) (rs' : List Row), isSender v' (sndD0 n g0 g1 g2 g3) rs' → k (.tup [.c (.obj ch.length v'), .c (.bool (sndOkB n g0 g1 g2 g3))]) (ch ++ [.obj true rs']) []
  | _ => False
theorem sSndO_ok_impl_SenderNew : SmOK Try.prog 23 sSndO := by
  refine smN Try.call23 fun args ch k w X h0 hs => ?_
  unfold sSndO at h0
  split at h0
  · obtain ⟨ao, n, c, g0, g1, g2, g3, em, hr, hn, h0⟩ := rd4_ok h0 hs
    simp only [List.map_cons, List.map_nil, den_a, den_c, em]
    refine Calls.mono (senderNewI_any ao n c g0 g1 g2 g3 w hr hn) fun e w' ⟨ro, rc, he, hs'⟩ => ⟨_, [.obj true _], ?_, hs'.pack (rs := [_]) (by simp), rfl, h0 _ _ ⟨ro, rc, _, _, _, rfl, rfl⟩⟩
    rw [he]
    rfl
  · exact h0.elim
theorem sSndO_ok_spec_SenderNew : SmOK Try.prog 27 sSndO := by
  refine smN Try.call27 fun args ch k w X h0 hs => ?_
  unfold sSndO at h0
  split at h0
  · obtain ⟨ao, n, c, g0, g1, g2, g3, em, hr, hn, h0⟩ := rd4_ok h0 hs
    simp only [List.map_cons, List.map_nil, den_a, den_c, em]
    refine Calls.mono (senderNewS_any ao n c g0 g1 g2 g3 w hr hn) fun e w' ⟨ro, rc, he, hs'⟩ => ⟨_, [.obj true _], ?_, hs'.pack (rs := [_]) (by simp), rfl, h0 _ _ ⟨ro, rc, _, _, _, rfl, rfl⟩⟩
    rw [he]
    rfl
  · exact h0.elim
theorem law_FnExactSenderNew_T (aListO : Option Addr) (aListN aListC : Nat) (aListg0 aListg1 aListg2 aListg3 : Nat → Int) : (exFn Try.prog {tb := [(28, sToCommandS), (29, sEqCommandS), (30, sMarkCommandS), (63, sHeldCommandS), (26, sSzCommandS), (13, sToSenderO), (15, sEqSenderO), (16, sMarkSenderO), (17, sHeldSenderO), (11, sSzSenderO), (23, sSndO), (27, sSndO)]} 400 Try.f6 ([.a (.c (.sl 0 aListO aListN aListC))]) ([.row ⟨false, aListO, 0, 4, aListN, 0, [fun i => .int (aListg0 i), fun i => .int (aListg1 i), fun i => .int (aListg2 i), fun i => .int (aListg3 i)]⟩]) (fun v _ => v.den = .bool true)) = (
  ((szC aListN (1048576 : Int)) ∧
  ((((1048576 : Int) < ((aListN : Nat) : Int)) →
  (Value.bool Bool.true) = (Value.bool Bool.true)) ∧
  ((((aListN : Nat) : Int) ≤ (1048576 : Int)) →
  (((decide (((1048576 : Int) - ((aListN : Nat) : Int)) < (0 : Int))) = Bool.true →
   (Value.bool Bool.true) = (Value.bool Bool.true)) ∧
   ((decide (((1048576 : Int) - ((aListN : Nat) : Int)) < (0 : Int))) = Bool.false →
   (Exists (fun (g00 : (Nat →
    Int)) => (Exists (fun (g11 : (Nat →
    Int)) => (Exists (fun (g22 : (Nat →
    Int)) => (Exists (fun (g33 : (Nat →
    Int)) => ((aListO = aListO ∧
    (aListN = aListN ∧
    ([(fun (i4 : Nat) => (SC.int (aListg0 i4))), (fun (i5 : Nat) => (SC.int (aListg1 i5))), (fun (i6 : Nat) => (SC.int (aListg2 i6))), (fun (i7 : Nat) => (SC.int (aListg3 i7)))] = [(fun (i8 : Nat) => (SC.int (g00 i8))), (fun (i9 : Nat) => (SC.int (g11 i9))), (fun (i10 : Nat) => (SC.int (g22 i10))), (fun (i11 : Nat) => (SC.int (g33 i11)))] ∧
    (capC aListN)))) ∧
    (∀ b12 : Nat,
    (Exists (fun (g013 : (Nat →
    Int)) => (Exists (fun (g114 : (Nat →
    Int)) => (Exists (fun (g215 : (Nat →
    Int)) => (Exists (fun (g316 : (Nat →
    Int)) => (((Option.some (Addr.mk b12 0 Option.none)) = (Option.some (Addr.mk b12 0 Option.none)) ∧
    (aListN = aListN ∧
    [(fun (i17 : Nat) => (SC.int (g00 i17))), (fun (i18 : Nat) => (SC.int (g11 i18))), (fun (i19 : Nat) => (SC.int (g22 i19))), (fun (i20 : Nat) => (SC.int (g33 i20)))] = [(fun (i21 : Nat) => (SC.int (g013 i21))), (fun (i22 : Nat) => (SC.int (g114 i22))), (fun (i23 : Nat) => (SC.int (g215 i23))), (fun (i24 : Nat) => (SC.int (g316 i24)))])) ∧
    ((lenC aListN) ∧
    (∀ v'25 : Value,
    (∀ rs'26 : (List Row),
    ((isSender v'25 (sndD0 aListN g013 g114 g215 g316) rs'26) →
    (∀ b27 : Nat,
     ((b27 = b27 ∧
     (wholeC Bool.true v'25 2)) ∧
     (Exists (fun (g028 : (Nat →
     Int)) => (Exists (fun (g129 : (Nat →
     Int)) => (Exists (fun (g230 : (Nat →
     Int)) => (Exists (fun (g331 : (Nat →
     Int)) => ((aListO = aListO ∧
     (aListN = aListN ∧
     ([(fun (i32 : Nat) => (SC.int (aListg0 i32))), (fun (i33 : Nat) => (SC.int (aListg1 i33))), (fun (i34 : Nat) => (SC.int (aListg2 i34))), (fun (i35 : Nat) => (SC.int (aListg3 i35)))] = [(fun (i36 : Nat) => (SC.int (g028 i36))), (fun (i37 : Nat) => (SC.int (g129 i37))), (fun (i38 : Nat) => (SC.int (g230 i38))), (fun (i39 : Nat) => (SC.int (g331 i39)))] ∧
     (capC aListN)))) ∧
     (∀ b40 : Nat,
     (Exists (fun (g041 : (Nat →
     Int)) => (Exists (fun (g142 : (Nat →
     Int)) => (Exists (fun (g243 : (Nat →
     Int)) => (Exists (fun (g344 : (Nat →
     Int)) => (((Option.some (Addr.mk b40 0 Option.none)) = (Option.some (Addr.mk b40 0 Option.none)) ∧
     (aListN = aListN ∧
     [(fun (i45 : Nat) => (SC.int (g028 i45))), (fun (i46 : Nat) => (SC.int (g129 i46))), (fun (i47 : Nat) => (SC.int (g230 i47))), (fun (i48 : Nat) => (SC.int (g331 i48)))] = [(fun (i49 : Nat) => (SC.int (g041 i49))), (fun (i50 : Nat) => (SC.int (g142 i50))), (fun (i51 : Nat) => (SC.int (g243 i51))), (fun (i52 : Nat) => (SC.int (g344 i52)))])) ∧
     ((lenC aListN) ∧
     (∀ v'53 : Value,
     (∀ rs'54 : (List Row),
     ((isSender v'53 (sndD0 aListN g041 g142 g243 g344) rs'54) →
     (∀ b55 : Nat,
      ((b55 = b55 ∧
      (wholeC Bool.true v'53 2)) ∧
      (b55 = b55 ∧
      (b27 = b27 ∧
      (Exists (fun (x56 : SenderD) => (((isSender v'53 x56 rs'54) ∧
      ((isSender v'25 x56 rs'26) ∧
      (capSender x56))) ∧
      ((((sndOkB aListN g041 g142 g243 g344) != (sndOkB aListN g013 g114 g215 g316)) = Bool.true →
      (Value.bool Bool.false) = (Value.bool Bool.true)) ∧
      (((sndOkB aListN g041 g142 g243 g344) != (sndOkB aListN g013 g114 g215 g316)) = Bool.false →
      (Exists (fun (g057 : (Nat →
       Int)) => (Exists (fun (g158 : (Nat →
       Int)) => (Exists (fun (g259 : (Nat →
       Int)) => (Exists (fun (g360 : (Nat →
       Int)) => ((aListO = aListO ∧
       (aListN = aListN ∧
       ([(fun (i61 : Nat) => (SC.int (aListg0 i61))), (fun (i62 : Nat) => (SC.int (aListg1 i62))), (fun (i63 : Nat) => (SC.int (aListg2 i63))), (fun (i64 : Nat) => (SC.int (aListg3 i64)))] = [(fun (i65 : Nat) => (SC.int (g057 i65))), (fun (i66 : Nat) => (SC.int (g158 i66))), (fun (i67 : Nat) => (SC.int (g259 i67))), (fun (i68 : Nat) => (SC.int (g360 i68)))] ∧
       (capC aListN)))) ∧
       (∀ b69 : Nat,
       (Exists (fun (g070 : (Nat →
       Int)) => (Exists (fun (g171 : (Nat →
       Int)) => (Exists (fun (g272 : (Nat →
       Int)) => (Exists (fun (g373 : (Nat →
       Int)) => (Exists (fun (q074 : (Nat →
       Int)) => (Exists (fun (q175 : (Nat →
       Int)) => (Exists (fun (q276 : (Nat →
       Int)) => (Exists (fun (q377 : (Nat →
       Int)) => (((Option.some (Addr.mk b40 0 Option.none)) = (Option.some (Addr.mk b40 0 Option.none)) ∧
       (aListN = aListN ∧
       ([(fun (i78 : Nat) => (SC.int (g028 i78))), (fun (i79 : Nat) => (SC.int (g129 i79))), (fun (i80 : Nat) => (SC.int (g230 i80))), (fun (i81 : Nat) => (SC.int (g331 i81)))] = [(fun (i82 : Nat) => (SC.int (g070 i82))), (fun (i83 : Nat) => (SC.int (g171 i83))), (fun (i84 : Nat) => (SC.int (g272 i84))), (fun (i85 : Nat) => (SC.int (g373 i85)))] ∧
       ((Option.some (Addr.mk b69 0 Option.none)) = (Option.some (Addr.mk b69 0 Option.none)) ∧
       (aListN = aListN ∧
       ([(fun (i86 : Nat) => (SC.int (g057 i86))), (fun (i87 : Nat) => (SC.int (g158 i87))), (fun (i88 : Nat) => (SC.int (g259 i88))), (fun (i89 : Nat) => (SC.int (g360 i89)))] = [(fun (i90 : Nat) => (SC.int (q074 i90))), (fun (i91 : Nat) => (SC.int (q175 i91))), (fun (i92 : Nat) => (SC.int (q276 i92))), (fun (i93 : Nat) => (SC.int (q377 i93)))] ∧
       (aListN = aListN ∧
       (capC aListN)))))))) ∧
       ((∀ i94 : Nat,
       (i94 < aListN →
       ((g070 i94) = (q074 i94) ∧
        ((g171 i94) = (q175 i94) ∧
        ((g272 i94) = (q276 i94) ∧
        (g373 i94) = (q377 i94)))))) ∧
       (Exists (fun (g095 : (Nat →
       Int)) => (Exists (fun (g196 : (Nat →
       Int)) => (Exists (fun (g297 : (Nat →
       Int)) => (Exists (fun (g398 : (Nat →
       Int)) => (((Option.some (Addr.mk b40 0 Option.none)) = (Option.some (Addr.mk b40 0 Option.none)) ∧
       (aListN = aListN ∧
       ([(fun (i99 : Nat) => (SC.int (g028 i99))), (fun (i100 : Nat) => (SC.int (g129 i100))), (fun (i101 : Nat) => (SC.int (g230 i101))), (fun (i102 : Nat) => (SC.int (g331 i102)))] = [(fun (i103 : Nat) => (SC.int (g095 i103))), (fun (i104 : Nat) => (SC.int (g196 i104))), (fun (i105 : Nat) => (SC.int (g297 i105))), (fun (i106 : Nat) => (SC.int (g398 i106)))] ∧
       (markC aListN (1 : Int))))) ∧
       (((decide ((mk (1 : Int) 4 0 aListN) < (0 : Int))) = Bool.false →
       (b55 = b55 ∧
        (b27 = b27 ∧
        (Exists (fun (x107 : SenderD) => (((isSender v'53 x107 rs'54) ∧
        ((isSender v'25 x107 rs'26) ∧
        (capSender x107))) ∧
        ((((sndOkB aListN g041 g142 g243 g344) != (sndOkB aListN g013 g114 g215 g316)) = Bool.true →
        (Value.bool Bool.false) = (Value.bool Bool.true)) ∧
        (((sndOkB aListN g041 g142 g243 g344) != (sndOkB aListN g013 g114 g215 g316)) = Bool.false →
        (b55 = b55 ∧
         (Exists (fun (x108 : SenderD) => (((isSender v'53 x108 rs'54) ∧
         ((capSender x108) ∧
         (mrkC (1 : Int)))) ∧
         ((endC (1 : Int) (endSender (1 : Int) x108) (16777216 : Int)) →
         (∀ rs'109 : (List Row),
          ((isSender v'53 (markSenderD (1 : Int) x108) rs'109) →
          (b55 = b55 ∧
           (Exists (fun (x110 : SenderD) => (((isSender v'53 (markSenderD (1 : Int) x110) rs'109) ∧
           ((capSender x110) ∧
           (mrkC (1 : Int)))) ∧
           (((decide ((endSender (1 : Int) x110) < (0 : Int))) = Bool.true →
           (Value.bool Bool.false) = (Value.bool Bool.true)) ∧
           ((decide ((endSender (1 : Int) x110) < (0 : Int))) = Bool.false →
           ((((endSender (1 : Int) x110) != (endSender (1 : Int) x108)) = Bool.true →
            (Value.bool Bool.false) = (Value.bool Bool.true)) ∧
            (((endSender (1 : Int) x110) != (endSender (1 : Int) x108)) = Bool.false →
            (Exists (fun (g0111 : (Nat →
             Int)) => (Exists (fun (g1112 : (Nat →
             Int)) => (Exists (fun (g2113 : (Nat →
             Int)) => (Exists (fun (g3114 : (Nat →
             Int)) => ((aListO = aListO ∧
             (aListN = aListN ∧
             ([(fun (i115 : Nat) => (SC.int (aListg0 i115))), (fun (i116 : Nat) => (SC.int (aListg1 i116))), (fun (i117 : Nat) => (SC.int (aListg2 i117))), (fun (i118 : Nat) => (SC.int (aListg3 i118)))] = [(fun (i119 : Nat) => (SC.int (g0111 i119))), (fun (i120 : Nat) => (SC.int (g1112 i120))), (fun (i121 : Nat) => (SC.int (g2113 i121))), (fun (i122 : Nat) => (SC.int (g3114 i122)))] ∧
             (capC aListN)))) ∧
             (∀ b123 : Nat,
             (Exists (fun (g0124 : (Nat →
             Int)) => (Exists (fun (g1125 : (Nat →
             Int)) => (Exists (fun (g2126 : (Nat →
             Int)) => (Exists (fun (g3127 : (Nat →
             Int)) => (((Option.some (Addr.mk b123 0 Option.none)) = (Option.some (Addr.mk b123 0 Option.none)) ∧
             (aListN = aListN ∧
             [(fun (i128 : Nat) => (SC.int (g0111 i128))), (fun (i129 : Nat) => (SC.int (g1112 i129))), (fun (i130 : Nat) => (SC.int (g2113 i130))), (fun (i131 : Nat) => (SC.int (g3114 i131)))] = [(fun (i132 : Nat) => (SC.int (g0124 i132))), (fun (i133 : Nat) => (SC.int (g1125 i133))), (fun (i134 : Nat) => (SC.int (g2126 i134))), (fun (i135 : Nat) => (SC.int (g3127 i135)))])) ∧
             ((lenC aListN) ∧
             (∀ v'136 : Value,
             (∀ rs'137 : (List Row),
             ((isSender v'136 (sndD0 aListN g0124 g1125 g2126 g3127) rs'137) →
             (∀ b138 : Nat,
              ((b138 = b138 ∧
              (wholeC Bool.true v'136 2)) ∧
              (b138 = b138 ∧
              (b27 = b27 ∧
              (Exists (fun (x139 : SenderD) => (((isSender v'136 x139 rs'137) ∧
              ((isSender v'25 x139 rs'26) ∧
              (capSender x139))) ∧
              ((((sndOkB aListN g0124 g1125 g2126 g3127) != (sndOkB aListN g013 g114 g215 g316)) = Bool.true →
              (Value.bool Bool.false) = (Value.bool Bool.true)) ∧
              (((sndOkB aListN g0124 g1125 g2126 g3127) != (sndOkB aListN g013 g114 g215 g316)) = Bool.false →
              (b55 = b55 ∧
               (Exists (fun (x140 : SenderD) => (((isSender v'53 (markSenderD (1 : Int) x140) rs'109) ∧
               ((capSender x140) ∧
               (mrkC (1 : Int)))) ∧
               (((decide ((endSender (1 : Int) x140) < (0 : Int))) = Bool.true →
               (Value.bool Bool.false) = (Value.bool Bool.true)) ∧
               ((decide ((endSender (1 : Int) x140) < (0 : Int))) = Bool.false →
               ((((endSender (1 : Int) x140) != (endSender (1 : Int) x108)) = Bool.true →
                (Value.bool Bool.false) = (Value.bool Bool.true)) ∧
                (((endSender (1 : Int) x140) != (endSender (1 : Int) x108)) = Bool.false →
                (Value.bool Bool.true) = (Value.bool Bool.true)))))))))))))))))))))))))))))))))))))))))))))))))))))))))))))))) ∧
       ((decide ((mk (1 : Int) 4 0 aListN) < (0 : Int))) = Bool.true →
       (Value.bool Bool.false) = (Value.bool Bool.true))))))))))))))))))))))))))))))))))))))))))))))))))))))))))))))))))))))))))))))))))))))))))))))))))))))) := by kernel_rfl
theorem law_FnExactSenderNew_any (aListO : Option Addr) (aListN aListC : Nat) (aListg0 aListg1 aListg2 aListg3 : Nat → Int) (W : World) (hw0 : Row.sat W ⟨false, aListO, 0, 4, aListN, 0, [fun i => .int (aListg0 i), fun i => .int (aListg1 i), fun i => .int (aListg2 i), fun i => .int (aListg3 i)]⟩) (hn0 : aListN ≤ 9223372036854775807) : Calls Try.prog 6 #[.slice aListO aListN aListC] W fun e W' => e = .returned (.bool true) ∧ Below W.heap.size W W' := by
  refine fnB (tb := [(28, sToCommandS), (29, sEqCommandS), (30, sMarkCommandS), (63, sHeldCommandS), (26, sSzCommandS), (13, sToSenderO), (15, sEqSenderO), (16, sMarkSenderO), (17, sHeldSenderO), (11, sSzSenderO), (23, sSndO), (27, sSndO)]) ⟨sToCommandS_ok, sEqCommandS_ok, sMarkCommandS_ok, sHeldCommandS_ok, sSzCommandS_ok, sToSenderO_ok_laws_toSender, sEqSenderO_ok, sMarkSenderO_ok, sHeldSenderO_ok, sSzSenderO_ok, sSndO_ok_impl_SenderNew, sSndO_ok_spec_SenderNew, trivial⟩ Try.func6 (@Eq.mpr _ _ (law_FnExactSenderNew_T aListO aListN aListC aListg0 aListg1 aListg2 aListg3) ?_) (HS.seenAll (fun _ => False) [.row ⟨false, aListO, 0, 4, aListN, 0, [fun i => .int (aListg0 i), fun i => .int (aListg1 i), fun i => .int (aListg2 i), fun i => .int (aListg3 i)]⟩] (seenC_row rfl hw0 seenC_nil)) (fun v ch' w' hk hs => ⟨by rw [hk], hs.below⟩)
  clear hw0
  repeat' (first
    | exact rfl
    | exact True.intro
    | assumption
    | exact capSnd0
    | exact wholeSender (by assumption)
    | refine And.intro ?_ ?_
    | apply Exists.intro
    | omega
    | (intro h; exfalso; revert h; simp; done)
    | (intro h; exfalso; simp at h; omega)
    | (intro h; exfalso; replace h := of_decide_eq_true h; simp only [mk] at h; omega)
    | intro _)
theorem walk_FnExactSenderNew (aListO : Option Addr) (aListN aListC : Nat) (W : World) (hsaList : Has W (.slice (.cons .int (.cons .int (.cons .int (.cons .int .nil))))) (Value.slice aListO aListN aListC).cells.toList) : Calls Try.prog 6 #[.slice aListO aListN aListC] W fun e W' => e = .returned (.bool true) ∧ Below W.heap.size W W' := by
  obtain ⟨hnaList, aListG, bGaList, hraList⟩ := row_of_has (s := 4) (.inr rfl) (by omega) rfl hsaList
  exact law_FnExactSenderNew_any aListO aListN aListC (aListG 0) (aListG 1) (aListG 2) (aListG 3) W hraList hnaList
end Go.Proofs.Ytkfinkolllpcgaa
