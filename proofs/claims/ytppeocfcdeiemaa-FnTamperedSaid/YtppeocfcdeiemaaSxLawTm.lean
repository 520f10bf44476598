/-
  FnTampered.
-/
import Derived.Test.YtppeocfcdeiemaaSxDrS3
import Derived.Test.YtppeocfcdeiemaaSxCode
namespace Go.Proofs.Ytppeocfcdeiemaa
set_option linter.unusedVariables false
set_option linter.unusedSimpArgs false
open Go.RowKit
set_option maxRecDepth 100000
set_option maxHeartbeats 8000000

def sBig : Sm := inlM Try.prog {tb := []} 300 Try.f9
theorem sBig_ok : SmOK Try.prog 9 sBig := inlM_ok mixed (E := {tb := []}) trivial Try.func9 Try.call9 (fun _ _ _ => loopsOK_nil _ _ _)
theorem law_FnTampered_T (co : Option Addr) (cn cc : Nat) (cu : Nat → Int) : (exFn Try.prog {tb := [(9, sBig), (10, sPlaces), (19, sDrawS), (20, sSTam), (21, sRead)]} 400 Try.f6 ([.a (.c (.sl 0 co cn cc))]) ([.row ⟨false, co, 0, 1, cn, 0, [fun i => .u8 (cu i)]⟩]) (fun v _ => v.den = .bool true)) = (
  (((decide (((cn : Nat) : Int) > (1048576 : Int))) = Bool.true →
  (Value.bool Bool.true) = (Value.bool Bool.true)) ∧
  ((decide (((cn : Nat) : Int) > (1048576 : Int))) = Bool.false →
  (Exists (fun (u0 : (Nat →
   Int)) => (((co = co ∧
   (cn = cn ∧
   [(fun (i1 : Nat) => (SC.u8 (cu i1)))] = [(fun (i2 : Nat) => (SC.u8 (u0 i2)))])) ∧
   (codeC cn u0)) ∧
   (∀ key3 : Int,
   (∀ s4 : SecX,
   (∀ ro05 : (Option Addr),
   (∀ rc06 : Nat,
   (∀ ro17 : (Option Addr),
   (∀ rc18 : Nat,
   (∀ ro29 : (Option Addr),
   (∀ rc210 : Nat,
   (∀ ro311 : (Option Addr),
   (∀ rc312 : Nat,
   (((GoodS key3 s4) ∧
   (leZ ((s4).1).1 (7 : Int))) →
   (∀ b13 : Nat,
    (b13 = b13 ∧
    (Exists (fun (u14 : (Nat →
    Int)) => (((co = co ∧
    (cn = cn ∧
    [(fun (i15 : Nat) => (SC.u8 (cu i15)))] = [(fun (i16 : Nat) => (SC.u8 (u14 i16)))])) ∧
    (codeC cn u14)) ∧
    (∀ p17 : (Nat →
    Int),
    (∀ ro018 : (Option Addr),
    (∀ rc019 : Nat,
    ((plC p17) →
    (ro018 = ro018 ∧
     (12 = 12 ∧
     ((0 ≤ (0 : Int) ∧ (0 : Int) < ((12 : Nat) : Int)) ∧
     (ro018 = ro018 ∧
     (0 < 12 ∧
     ((divC (p17 0) (8 : Int)) ∧
     (b13 = b13 ∧
     (ro018 = ro018 ∧
     (12 = 12 ∧
     ((0 ≤ (1 : Int) ∧ (1 : Int) < ((12 : Nat) : Int)) ∧
     (ro018 = ro018 ∧
     (1 < 12 ∧
     ((rng ((1 : Int) + (p17 1))) ∧
     ((Exists (fun (sTreeMidg020 : (Nat →
     Int)) => (Exists (fun (sTreeMidg121 : (Nat →
     Int)) => (Exists (fun (sTreeLeafg022 : (Nat →
     Int)) => (Exists (fun (sTreeLeafg123 : (Nat →
     Int)) => (Exists (fun (sDatag024 : (Nat →
     Int)) => (Exists (fun (sTagsg025 : (Nat →
     Int)) => ((ro05 = ro05 ∧
     (2 = 2 ∧
     ([(fun (i26 : Nat) => (SC.int (((s4).1).2 i26))), (fun (i27 : Nat) => (SC.int (((s4).1).3 i27)))] = [(fun (i28 : Nat) => (SC.int (sTreeMidg020 i28))), (fun (i29 : Nat) => (SC.int (sTreeMidg121 i29)))] ∧
     (ro17 = ro17 ∧
     (8 = 8 ∧
     ([(fun (i30 : Nat) => (SC.int (((s4).1).4 i30))), (fun (i31 : Nat) => (SC.int (((s4).1).5 i31)))] = [(fun (i32 : Nat) => (SC.int (sTreeLeafg022 i32))), (fun (i33 : Nat) => (SC.int (sTreeLeafg123 i33)))] ∧
     (ro29 = ro29 ∧
     (8 = 8 ∧
     ([(fun (i34 : Nat) => (SC.int ((s4).3 i34)))] = [(fun (i35 : Nat) => (SC.int (sDatag024 i35)))] ∧
     (ro311 = ro311 ∧
     (8 = 8 ∧
     ([(fun (i36 : Nat) => (SC.int ((s4).4 i36)))] = [(fun (i37 : Nat) => (SC.int (sTagsg025 i37)))] ∧
     ((capC 2) ∧
     ((capC 8) ∧
     ((capC 8) ∧
     (capC 8)))))))))))))))) ∧
     (∀ ro038 : (Option Addr),
     (∀ rc039 : Nat,
     (∀ ro140 : (Option Addr),
     (∀ rc141 : Nat,
     (∀ ro242 : (Option Addr),
     (∀ rc243 : Nat,
     (∀ ro344 : (Option Addr),
     (∀ rc345 : Nat,
     (True ∧
     (∀ b46 : Nat,
     (True ∧
     (b46 = b46 ∧
     (True ∧
     (b46 = b46 ∧
     (Exists (fun (sTreeMidg047 : (Nat →
     Int)) => (Exists (fun (sTreeMidg148 : (Nat →
     Int)) => (Exists (fun (sTreeLeafg049 : (Nat →
     Int)) => (Exists (fun (sTreeLeafg150 : (Nat →
     Int)) => (Exists (fun (sDatag051 : (Nat →
     Int)) => (Exists (fun (sTagsg052 : (Nat →
     Int)) => ((ro038 = ro038 ∧
     (2 = 2 ∧
     ([(fun (i53 : Nat) => (SC.int (sTreeMidg020 i53))), (fun (i54 : Nat) => (SC.int (sTreeMidg121 i54)))] = [(fun (i55 : Nat) => (SC.int (sTreeMidg047 i55))), (fun (i56 : Nat) => (SC.int (sTreeMidg148 i56)))] ∧
     (ro140 = ro140 ∧
     (8 = 8 ∧
     ([(fun (i57 : Nat) => (SC.int (sTreeLeafg022 i57))), (fun (i58 : Nat) => (SC.int (sTreeLeafg123 i58)))] = [(fun (i59 : Nat) => (SC.int (sTreeLeafg049 i59))), (fun (i60 : Nat) => (SC.int (sTreeLeafg150 i60)))] ∧
     (ro242 = ro242 ∧
     (8 = 8 ∧
     ([(fun (i61 : Nat) => (SC.int (tDa 8 sDatag024 ((p17 0) % (8 : Int)) ((1 : Int) + (p17 1)) i61)))] = [(fun (i62 : Nat) => (SC.int (sDatag051 i62)))] ∧
     (ro344 = ro344 ∧
     (8 = 8 ∧
     [(fun (i63 : Nat) => (SC.int (sTagsg025 i63)))] = [(fun (i64 : Nat) => (SC.int (sTagsg052 i64)))]))))))))))) ∧
     (b46 = b46 ∧
     ((rng (((p17 0) % (8 : Int)) + (1 : Int))) ∧
     ((divC (((p17 0) % (8 : Int)) + (1 : Int)) (8 : Int)) ∧
     (Exists (fun (sTreeMidg065 : (Nat →
     Int)) => (Exists (fun (sTreeMidg166 : (Nat →
     Int)) => (Exists (fun (sTreeLeafg067 : (Nat →
     Int)) => (Exists (fun (sTreeLeafg168 : (Nat →
     Int)) => (Exists (fun (sDatag069 : (Nat →
     Int)) => (Exists (fun (sTagsg070 : (Nat →
     Int)) => ((ro038 = ro038 ∧
     (2 = 2 ∧
     ([(fun (i71 : Nat) => (SC.int (sTreeMidg020 i71))), (fun (i72 : Nat) => (SC.int (sTreeMidg121 i72)))] = [(fun (i73 : Nat) => (SC.int (sTreeMidg065 i73))), (fun (i74 : Nat) => (SC.int (sTreeMidg166 i74)))] ∧
     (ro140 = ro140 ∧
     (8 = 8 ∧
     ([(fun (i75 : Nat) => (SC.int (sTreeLeafg022 i75))), (fun (i76 : Nat) => (SC.int (sTreeLeafg123 i76)))] = [(fun (i77 : Nat) => (SC.int (sTreeLeafg067 i77))), (fun (i78 : Nat) => (SC.int (sTreeLeafg168 i78)))] ∧
     (ro242 = ro242 ∧
     (8 = 8 ∧
     ([(fun (i79 : Nat) => (SC.int (tDa 8 sDatag024 ((p17 0) % (8 : Int)) ((1 : Int) + (p17 1)) i79)))] = [(fun (i80 : Nat) => (SC.int (sDatag069 i80)))] ∧
     (ro344 = ro344 ∧
     (8 = 8 ∧
     [(fun (i81 : Nat) => (SC.int (sTagsg025 i81)))] = [(fun (i82 : Nat) => (SC.int (sTagsg070 i82)))]))))))))))) ∧
     (b46 = b46 ∧
     (ro018 = ro018 ∧
     (12 = 12 ∧
     ((0 ≤ (1 : Int) ∧ (1 : Int) < ((12 : Nat) : Int)) ∧
     (ro018 = ro018 ∧
     (1 < 12 ∧
     ((rng ((1 : Int) + (p17 1))) ∧
     (Exists (fun (sTreeMidg083 : (Nat →
     Int)) => (Exists (fun (sTreeMidg184 : (Nat →
     Int)) => (Exists (fun (sTreeLeafg085 : (Nat →
     Int)) => (Exists (fun (sTreeLeafg186 : (Nat →
     Int)) => (Exists (fun (sDatag087 : (Nat →
     Int)) => (Exists (fun (sTagsg088 : (Nat →
     Int)) => ((ro038 = ro038 ∧
     (2 = 2 ∧
     ([(fun (i89 : Nat) => (SC.int (sTreeMidg020 i89))), (fun (i90 : Nat) => (SC.int (sTreeMidg121 i90)))] = [(fun (i91 : Nat) => (SC.int (sTreeMidg083 i91))), (fun (i92 : Nat) => (SC.int (sTreeMidg184 i92)))] ∧
     (ro140 = ro140 ∧
     (8 = 8 ∧
     ([(fun (i93 : Nat) => (SC.int (sTreeLeafg022 i93))), (fun (i94 : Nat) => (SC.int (sTreeLeafg123 i94)))] = [(fun (i95 : Nat) => (SC.int (sTreeLeafg085 i95))), (fun (i96 : Nat) => (SC.int (sTreeLeafg186 i96)))] ∧
     (ro242 = ro242 ∧
     (8 = 8 ∧
     ([(fun (i97 : Nat) => (SC.int (tDa 8 sDatag024 ((p17 0) % (8 : Int)) ((1 : Int) + (p17 1)) i97)))] = [(fun (i98 : Nat) => (SC.int (sDatag087 i98)))] ∧
     (ro344 = ro344 ∧
     (8 = 8 ∧
     ([(fun (i99 : Nat) => (SC.int (sTagsg025 i99)))] = [(fun (i100 : Nat) => (SC.int (sTagsg088 i100)))] ∧
     ((capC 2) ∧
     ((capC 8) ∧
     ((capC 8) ∧
     (capC 8)))))))))))))))) ∧
     (∀ ro0101 : (Option Addr),
     (∀ rc0102 : Nat,
     (∀ ro1103 : (Option Addr),
     (∀ rc1104 : Nat,
     (∀ ro2105 : (Option Addr),
     (∀ rc2106 : Nat,
     (∀ ro3107 : (Option Addr),
     (∀ rc3108 : Nat,
     (True ∧
     (Exists (fun (sTreeMidg0109 : (Nat →
     Int)) => (Exists (fun (sTreeMidg1110 : (Nat →
     Int)) => (Exists (fun (sTreeLeafg0111 : (Nat →
     Int)) => (Exists (fun (sTreeLeafg1112 : (Nat →
     Int)) => (Exists (fun (sDatag0113 : (Nat →
     Int)) => (Exists (fun (sTagsg0114 : (Nat →
     Int)) => ((ro0101 = ro0101 ∧
     (2 = 2 ∧
     ([(fun (i115 : Nat) => (SC.int (sTreeMidg083 i115))), (fun (i116 : Nat) => (SC.int (sTreeMidg184 i116)))] = [(fun (i117 : Nat) => (SC.int (sTreeMidg0109 i117))), (fun (i118 : Nat) => (SC.int (sTreeMidg1110 i118)))] ∧
     (ro1103 = ro1103 ∧
     (8 = 8 ∧
     ([(fun (i119 : Nat) => (SC.int (sTreeLeafg085 i119))), (fun (i120 : Nat) => (SC.int (sTreeLeafg186 i120)))] = [(fun (i121 : Nat) => (SC.int (sTreeLeafg0111 i121))), (fun (i122 : Nat) => (SC.int (sTreeLeafg1112 i122)))] ∧
     (ro2105 = ro2105 ∧
     (8 = 8 ∧
     ([(fun (i123 : Nat) => (SC.int (tDa 8 sDatag087 ((p17 0) % (8 : Int)) ((1 : Int) + (p17 1)) i123)))] = [(fun (i124 : Nat) => (SC.int (sDatag0113 i124)))] ∧
     (ro3107 = ro3107 ∧
     (8 = 8 ∧
     [(fun (i125 : Nat) => (SC.int (sTagsg088 i125)))] = [(fun (i126 : Nat) => (SC.int (sTagsg0114 i126)))]))))))))))) ∧
     (True ∧
     (((!(rdOk key3 ((s4).1).1 2 8 sTreeMidg047 sTreeMidg148 sTreeLeafg049 sTreeLeafg150 8 8 sDatag051 sTagsg052 ((p17 0) % (8 : Int)))) = Bool.true →
     (((rdOk key3 ((s4).1).1 2 8 sTreeMidg065 sTreeMidg166 sTreeLeafg067 sTreeLeafg168 8 8 sDatag069 sTagsg070 ((((p17 0) % (8 : Int)) + (1 : Int)) % (8 : Int))) = Bool.true →
      (Value.bool (rdOk key3 ((s4).1).1 2 8 sTreeMidg0109 sTreeMidg1110 sTreeLeafg0111 sTreeLeafg1112 8 8 sDatag0113 sTagsg0114 ((p17 0) % (8 : Int)))) = (Value.bool Bool.true)) ∧
      ((rdOk key3 ((s4).1).1 2 8 sTreeMidg065 sTreeMidg166 sTreeLeafg067 sTreeLeafg168 8 8 sDatag069 sTagsg070 ((((p17 0) % (8 : Int)) + (1 : Int)) % (8 : Int))) = Bool.false →
      (Value.bool Bool.false) = (Value.bool Bool.true)))) ∧
     ((!(rdOk key3 ((s4).1).1 2 8 sTreeMidg047 sTreeMidg148 sTreeLeafg049 sTreeLeafg150 8 8 sDatag051 sTagsg052 ((p17 0) % (8 : Int)))) = Bool.false →
     (Value.bool Bool.false) = (Value.bool Bool.true)))))))))))))))))))))))))))))))))))))))))))))))))))))))))))))))))))))))))))))))))))))))))))))))))))))) ∧
     (∀ b127 : Nat,
     (True ∧
     (Exists (fun (sTreeMidg0128 : (Nat →
     Int)) => (Exists (fun (sTreeMidg1129 : (Nat →
     Int)) => (Exists (fun (sTreeLeafg0130 : (Nat →
     Int)) => (Exists (fun (sTreeLeafg1131 : (Nat →
     Int)) => (Exists (fun (sDatag0132 : (Nat →
     Int)) => (Exists (fun (sTagsg0133 : (Nat →
     Int)) => ((ro05 = ro05 ∧
     (2 = 2 ∧
     ([(fun (i134 : Nat) => (SC.int (((s4).1).2 i134))), (fun (i135 : Nat) => (SC.int (((s4).1).3 i135)))] = [(fun (i136 : Nat) => (SC.int (sTreeMidg0128 i136))), (fun (i137 : Nat) => (SC.int (sTreeMidg1129 i137)))] ∧
     (ro17 = ro17 ∧
     (8 = 8 ∧
     ([(fun (i138 : Nat) => (SC.int (((s4).1).4 i138))), (fun (i139 : Nat) => (SC.int (((s4).1).5 i139)))] = [(fun (i140 : Nat) => (SC.int (sTreeLeafg0130 i140))), (fun (i141 : Nat) => (SC.int (sTreeLeafg1131 i141)))] ∧
     (ro29 = ro29 ∧
     (8 = 8 ∧
     ([(fun (i142 : Nat) => (SC.int ((s4).3 i142)))] = [(fun (i143 : Nat) => (SC.int (sDatag0132 i143)))] ∧
     (ro311 = ro311 ∧
     (8 = 8 ∧
     ([(fun (i144 : Nat) => (SC.int ((s4).4 i144)))] = [(fun (i145 : Nat) => (SC.int (sTagsg0133 i145)))] ∧
     ((capC 2) ∧
     ((capC 8) ∧
     ((capC 8) ∧
     (capC 8)))))))))))))))) ∧
     (∀ ro0146 : (Option Addr),
     (∀ rc0147 : Nat,
     (∀ ro1148 : (Option Addr),
     (∀ rc1149 : Nat,
     (∀ ro2150 : (Option Addr),
     (∀ rc2151 : Nat,
     (∀ ro3152 : (Option Addr),
     (∀ rc3153 : Nat,
     (True ∧
     (b127 = b127 ∧
     (True ∧
     (b127 = b127 ∧
     (Exists (fun (sTreeMidg0154 : (Nat →
     Int)) => (Exists (fun (sTreeMidg1155 : (Nat →
     Int)) => (Exists (fun (sTreeLeafg0156 : (Nat →
     Int)) => (Exists (fun (sTreeLeafg1157 : (Nat →
     Int)) => (Exists (fun (sDatag0158 : (Nat →
     Int)) => (Exists (fun (sTagsg0159 : (Nat →
     Int)) => ((ro0146 = ro0146 ∧
     (2 = 2 ∧
     ([(fun (i160 : Nat) => (SC.int (sTreeMidg0128 i160))), (fun (i161 : Nat) => (SC.int (sTreeMidg1129 i161)))] = [(fun (i162 : Nat) => (SC.int (sTreeMidg0154 i162))), (fun (i163 : Nat) => (SC.int (sTreeMidg1155 i163)))] ∧
     (ro1148 = ro1148 ∧
     (8 = 8 ∧
     ([(fun (i164 : Nat) => (SC.int (sTreeLeafg0130 i164))), (fun (i165 : Nat) => (SC.int (sTreeLeafg1131 i165)))] = [(fun (i166 : Nat) => (SC.int (sTreeLeafg0156 i166))), (fun (i167 : Nat) => (SC.int (sTreeLeafg1157 i167)))] ∧
     (ro2150 = ro2150 ∧
     (8 = 8 ∧
     ([(fun (i168 : Nat) => (SC.int (tDa 8 sDatag0132 ((p17 0) % (8 : Int)) ((1 : Int) + (p17 1)) i168)))] = [(fun (i169 : Nat) => (SC.int (sDatag0158 i169)))] ∧
     (ro3152 = ro3152 ∧
     (8 = 8 ∧
     [(fun (i170 : Nat) => (SC.int (sTagsg0133 i170)))] = [(fun (i171 : Nat) => (SC.int (sTagsg0159 i171)))]))))))))))) ∧
     (b127 = b127 ∧
     ((rng (((p17 0) % (8 : Int)) + (1 : Int))) ∧
     ((divC (((p17 0) % (8 : Int)) + (1 : Int)) (8 : Int)) ∧
     (Exists (fun (sTreeMidg0172 : (Nat →
     Int)) => (Exists (fun (sTreeMidg1173 : (Nat →
     Int)) => (Exists (fun (sTreeLeafg0174 : (Nat →
     Int)) => (Exists (fun (sTreeLeafg1175 : (Nat →
     Int)) => (Exists (fun (sDatag0176 : (Nat →
     Int)) => (Exists (fun (sTagsg0177 : (Nat →
     Int)) => ((ro0146 = ro0146 ∧
     (2 = 2 ∧
     ([(fun (i178 : Nat) => (SC.int (sTreeMidg0128 i178))), (fun (i179 : Nat) => (SC.int (sTreeMidg1129 i179)))] = [(fun (i180 : Nat) => (SC.int (sTreeMidg0172 i180))), (fun (i181 : Nat) => (SC.int (sTreeMidg1173 i181)))] ∧
     (ro1148 = ro1148 ∧
     (8 = 8 ∧
     ([(fun (i182 : Nat) => (SC.int (sTreeLeafg0130 i182))), (fun (i183 : Nat) => (SC.int (sTreeLeafg1131 i183)))] = [(fun (i184 : Nat) => (SC.int (sTreeLeafg0174 i184))), (fun (i185 : Nat) => (SC.int (sTreeLeafg1175 i185)))] ∧
     (ro2150 = ro2150 ∧
     (8 = 8 ∧
     ([(fun (i186 : Nat) => (SC.int (tDa 8 sDatag0132 ((p17 0) % (8 : Int)) ((1 : Int) + (p17 1)) i186)))] = [(fun (i187 : Nat) => (SC.int (sDatag0176 i187)))] ∧
     (ro3152 = ro3152 ∧
     (8 = 8 ∧
     [(fun (i188 : Nat) => (SC.int (sTagsg0133 i188)))] = [(fun (i189 : Nat) => (SC.int (sTagsg0177 i189)))]))))))))))) ∧
     (b127 = b127 ∧
     (ro018 = ro018 ∧
     (12 = 12 ∧
     ((0 ≤ (1 : Int) ∧ (1 : Int) < ((12 : Nat) : Int)) ∧
     (ro018 = ro018 ∧
     (1 < 12 ∧
     ((rng ((1 : Int) + (p17 1))) ∧
     (Exists (fun (sTreeMidg0190 : (Nat →
     Int)) => (Exists (fun (sTreeMidg1191 : (Nat →
     Int)) => (Exists (fun (sTreeLeafg0192 : (Nat →
     Int)) => (Exists (fun (sTreeLeafg1193 : (Nat →
     Int)) => (Exists (fun (sDatag0194 : (Nat →
     Int)) => (Exists (fun (sTagsg0195 : (Nat →
     Int)) => ((ro0146 = ro0146 ∧
     (2 = 2 ∧
     ([(fun (i196 : Nat) => (SC.int (sTreeMidg0128 i196))), (fun (i197 : Nat) => (SC.int (sTreeMidg1129 i197)))] = [(fun (i198 : Nat) => (SC.int (sTreeMidg0190 i198))), (fun (i199 : Nat) => (SC.int (sTreeMidg1191 i199)))] ∧
     (ro1148 = ro1148 ∧
     (8 = 8 ∧
     ([(fun (i200 : Nat) => (SC.int (sTreeLeafg0130 i200))), (fun (i201 : Nat) => (SC.int (sTreeLeafg1131 i201)))] = [(fun (i202 : Nat) => (SC.int (sTreeLeafg0192 i202))), (fun (i203 : Nat) => (SC.int (sTreeLeafg1193 i203)))] ∧
     (ro2150 = ro2150 ∧
     (8 = 8 ∧
     ([(fun (i204 : Nat) => (SC.int (tDa 8 sDatag0132 ((p17 0) % (8 : Int)) ((1 : Int) + (p17 1)) i204)))] = [(fun (i205 : Nat) => (SC.int (sDatag0194 i205)))] ∧
     (ro3152 = ro3152 ∧
     (8 = 8 ∧
     ([(fun (i206 : Nat) => (SC.int (sTagsg0133 i206)))] = [(fun (i207 : Nat) => (SC.int (sTagsg0195 i207)))] ∧
     ((capC 2) ∧
     ((capC 8) ∧
     ((capC 8) ∧
     (capC 8)))))))))))))))) ∧
     (∀ ro0208 : (Option Addr),
     (∀ rc0209 : Nat,
     (∀ ro1210 : (Option Addr),
     (∀ rc1211 : Nat,
     (∀ ro2212 : (Option Addr),
     (∀ rc2213 : Nat,
     (∀ ro3214 : (Option Addr),
     (∀ rc3215 : Nat,
     (True ∧
     (Exists (fun (sTreeMidg0216 : (Nat →
     Int)) => (Exists (fun (sTreeMidg1217 : (Nat →
     Int)) => (Exists (fun (sTreeLeafg0218 : (Nat →
     Int)) => (Exists (fun (sTreeLeafg1219 : (Nat →
     Int)) => (Exists (fun (sDatag0220 : (Nat →
     Int)) => (Exists (fun (sTagsg0221 : (Nat →
     Int)) => ((ro0208 = ro0208 ∧
     (2 = 2 ∧
     ([(fun (i222 : Nat) => (SC.int (sTreeMidg0190 i222))), (fun (i223 : Nat) => (SC.int (sTreeMidg1191 i223)))] = [(fun (i224 : Nat) => (SC.int (sTreeMidg0216 i224))), (fun (i225 : Nat) => (SC.int (sTreeMidg1217 i225)))] ∧
     (ro1210 = ro1210 ∧
     (8 = 8 ∧
     ([(fun (i226 : Nat) => (SC.int (sTreeLeafg0192 i226))), (fun (i227 : Nat) => (SC.int (sTreeLeafg1193 i227)))] = [(fun (i228 : Nat) => (SC.int (sTreeLeafg0218 i228))), (fun (i229 : Nat) => (SC.int (sTreeLeafg1219 i229)))] ∧
     (ro2212 = ro2212 ∧
     (8 = 8 ∧
     ([(fun (i230 : Nat) => (SC.int (tDa 8 sDatag0194 ((p17 0) % (8 : Int)) ((1 : Int) + (p17 1)) i230)))] = [(fun (i231 : Nat) => (SC.int (sDatag0220 i231)))] ∧
     (ro3214 = ro3214 ∧
     (8 = 8 ∧
     [(fun (i232 : Nat) => (SC.int (sTagsg0195 i232)))] = [(fun (i233 : Nat) => (SC.int (sTagsg0221 i233)))]))))))))))) ∧
     (True ∧
     (((!(rdOk key3 ((s4).1).1 2 8 sTreeMidg0154 sTreeMidg1155 sTreeLeafg0156 sTreeLeafg1157 8 8 sDatag0158 sTagsg0159 ((p17 0) % (8 : Int)))) = Bool.true →
     (((rdOk key3 ((s4).1).1 2 8 sTreeMidg0172 sTreeMidg1173 sTreeLeafg0174 sTreeLeafg1175 8 8 sDatag0176 sTagsg0177 ((((p17 0) % (8 : Int)) + (1 : Int)) % (8 : Int))) = Bool.true →
      (Value.bool (rdOk key3 ((s4).1).1 2 8 sTreeMidg0216 sTreeMidg1217 sTreeLeafg0218 sTreeLeafg1219 8 8 sDatag0220 sTagsg0221 ((p17 0) % (8 : Int)))) = (Value.bool Bool.true)) ∧
      ((rdOk key3 ((s4).1).1 2 8 sTreeMidg0172 sTreeMidg1173 sTreeLeafg0174 sTreeLeafg1175 8 8 sDatag0176 sTagsg0177 ((((p17 0) % (8 : Int)) + (1 : Int)) % (8 : Int))) = Bool.false →
      (Value.bool Bool.false) = (Value.bool Bool.true)))) ∧
     ((!(rdOk key3 ((s4).1).1 2 8 sTreeMidg0154 sTreeMidg1155 sTreeLeafg0156 sTreeLeafg1157 8 8 sDatag0158 sTagsg0159 ((p17 0) % (8 : Int)))) = Bool.false →
     (Value.bool Bool.false) = (Value.bool Bool.true)))))))))))))))))))))))))))))))))))))))))))))))))))))))))))))))))))))))))))))))))))))))))))))))))))))))))))))))))))))))))))))))))))))))))))))) := by kernel_rfl
theorem law_FnTampered_any (co : Option Addr) (cn cc : Nat) (cu : Nat → Int) (W : World) (hr : Row.sat W ⟨false, co, 0, 1, cn, 0, [fun i => .u8 (cu i)]⟩) (hu : ∀ i, 0 ≤ cu i ∧ cu i ≤ 255) : Calls Try.prog 6 #[.slice co cn cc] W fun e W' => e = .returned (.bool true) ∧ Below W.heap.size W W' := by
  refine fn_ok mixed (E := {tb := [(9, sBig), (10, sPlaces), (19, sDrawS), (20, sSTam), (21, sRead)]}) ⟨sBig_ok, sPlaces_ok, sDrawS_ok, sSTam_ok_stamI, sRead_ok_readI, trivial⟩ Try.func6 (fun _ _ => loopsOK_nil _ _ _) (@Eq.mpr _ _ (law_FnTampered_T co cn cc cu) ?_) (HS.rows (fun _ => False) [⟨false, co, 0, 1, cn, 0, [fun i => .u8 (cu i)]⟩] (by simpa using hr)) (fun v ch' w' hk hs => ⟨by rw [hk], hs.below⟩)
  clear hr
  by_cases hle : cn ≤ 1048576
  · have hcode : codeC cn cu := ⟨hle, hu⟩
    refine ⟨fun h => by exfalso; replace h := of_decide_eq_true h; omega, fun h => ?_⟩
    clear h
    refine ⟨cu, ⟨⟨rfl, rfl, rfl⟩, hcode⟩, ?_⟩
    intro key s ro0 rc0 ro1 rc1 ro2 rc2 ro3 rc3 ⟨hS, hb7⟩
    have hb7' : s.t.root ≤ 7 := hb7
    have hb : leZ s.t.root 1000 := by show _ ≤ _; omega
    have hb' : s.t.root ≤ 1000 := hb
    intro bb
    refine ⟨rfl, cu, ⟨⟨rfl, rfl, rfl⟩, hcode⟩, ?_⟩
    intro p po pc hp
    have hk := mod8 (x := p 0)
    have hj := mod8 (x := p 1)
    have hm : 1 ≤ 1 + p 1 ∧ 1 + p 1 ≤ 4294967295 := by have h1 := hp 1; have e : isub 10000 1 = 9999 := rfl; have h2 := h1.1; have h3 := h1.2; exact ⟨by omega, by omega⟩
    obtain ⟨g1, g2, g3⟩ := hS.tamper hb' hk hm
    have g4 := g2 ((p 0 % 8 + 1) % 8) mod8 (by have h1 := hk.1; have h2 := hk.2; omega)
    repeat' (first
      | with_reducible exact rfl
      | exact True.intro
      | with_reducible assumption
      | with_reducible exact plc_min hp _
      | with_reducible exact plc_max hp _
      | with_reducible exact mod8
      | refine And.intro ?_ ?_
      | apply Exists.intro
      | (intro h; exfalso; rw [g1] at h; simp at h; done)
      | (intro h; exfalso; rw [g3] at h; simp at h; done)
      | (intro h; exfalso; rw [g4] at h; simp at h; done)
      | exact congrArg Value.bool g3
      | (intro (h : _ ∧ _); obtain ⟨_, _⟩ := h)
      | intro _
      | omega)
    all_goals trace_state
  · refine ⟨fun _ => rfl, fun h => ?_⟩
    replace h := of_decide_eq_false h
    exfalso
    omega
theorem walk_FnTampered (ao : Option Addr) (len cap : Nat) (w : World) (h : Has w (.slice .u8) [.slice ao len cap]) : Calls Try.prog 6 #[.slice ao len cap] w fun e w' => e = .returned (.bool true) ∧ Below w.heap.size w w' := by
  obtain ⟨u, hu, hr⟩ := row_u8_of_has h
  exact law_FnTampered_any ao len cap u w hr hu
end Go.Proofs.Ytppeocfcdeiemaa
