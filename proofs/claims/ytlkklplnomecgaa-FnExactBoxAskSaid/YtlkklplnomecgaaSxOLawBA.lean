/-
  BoxAsk.
-/
import Derived.Test.YtlkklplnomecgaaSxOBox
import Derived.Test.YtlkklplnomecgaaSxOpen
namespace Go.Proofs.Ytlkklplnomecgaa
set_option linter.unusedVariables false
set_option linter.unusedSimpArgs false
open Go.RowKit
set_option maxRecDepth 100000
set_option maxHeartbeats 8000000

theorem law_FnExactBoxAsk_T (v0 : Value) (rs0 : List Row) (v1 : Value) (rs1 : List Row) : (exFn Try.prog {tb := [(41, sToPolicyO), (36, sEqPolicyO), (37, sMarkPolicyO), (38, sHeldPolicyO), (39, sSzPolicyO), (48, sToPolicyBoxO), (50, sEqPolicyBoxO), (51, sMarkPolicyBoxO), (52, sHeldPolicyBoxO), (46, sSzPolicyBoxO), (56, sBAskO), (55, sBAskO)]} 400 Try.f14 ([.a (.c (.obj 0 v0)), .a (.c (.obj 1 v1))]) ([.obj false rs0, .obj false rs1]) (fun v _ => v.den = .bool true)) = (
  ((wholeC Bool.true v0 17) ∧
  (∀ b0 : Nat,
  ((wholeC Bool.true v1 8) ∧
  (∀ b1 : Nat,
  (b0 = b0 ∧
  (Exists (fun (x2 : PolicyBoxD) => (((isPolicyBox v0 x2 rs0) ∧
  ((lensPolicyBox x2) ∧
  (szK (1048576 : Int)))) ∧
  ((Value.bool Bool.true) = (Value.bool Bool.true) ∧
  (∀ z3 : Int,
  ((szO z3 (1048576 : Int)) →
  ((capPolicyBox x2) →
   (((decide (z3 < (0 : Int))) = Bool.true →
    (Value.bool Bool.true) = (Value.bool Bool.true)) ∧
    ((decide (z3 < (0 : Int))) = Bool.false →
    (b1 = b1 ∧
     (Exists (fun (x4 : PolicyD) => (((isPolicy v1 x4 rs1) ∧
     ((lensPolicy x4) ∧
     (szK z3))) ∧
     ((Value.bool Bool.true) = (Value.bool Bool.true) ∧
     (∀ z5 : Int,
     ((szO z5 z3) →
     ((capPolicy x4) →
      (((decide (z5 < (0 : Int))) = Bool.true →
       (Value.bool Bool.true) = (Value.bool Bool.true)) ∧
       ((decide (z5 < (0 : Int))) = Bool.false →
       (b0 = b0 ∧
        (b1 = b1 ∧
        ((Exists (fun (x6 : PolicyBoxD) => (((isPolicyBox v0 x6 rs0) ∧
        (capPolicyBox x6)) ∧
        (∀ v'7 : Value,
        (∀ rs'8 : (List Row),
        ((isPolicyBox v'7 x6 rs'8) →
        (True ∧
         ((Exists (fun (x9 : PolicyD) => (((isPolicy v1 x9 rs1) ∧
         (capPolicy x9)) ∧
         (∀ v'10 : Value,
         (∀ rs'11 : (List Row),
         ((isPolicy v'10 x9 rs'11) →
         (True ∧
          ((Exists (fun (b12 : PolicyBoxD) => (Exists (fun (p13 : PolicyD) => (((isPolicyBox v'7 b12 rs'8) ∧
          ((isPolicy v'10 p13 rs'11) ∧
          ((capPolicyBox b12) ∧
          (capPolicy p13)))) ∧
          (∀ v'14 : Value,
          (∀ rs'15 : (List Row),
          ((isPolicyBox v'14 (baskD b12 p13) rs'15) →
          (True ∧
           (∀ b16 : Nat,
           (True ∧
           ((b16 = b16 ∧
           (wholeC Bool.true v'14 17)) ∧
           (True ∧
           (b0 = b0 ∧
           (Exists (fun (x17 : PolicyBoxD) => (((isPolicyBox v0 x17 rs0) ∧
           (capPolicyBox x17)) ∧
           (∀ v'18 : Value,
           (∀ rs'19 : (List Row),
           ((isPolicyBox v'18 x17 rs'19) →
           (∀ b20 : Nat,
            ((b20 = b20 ∧
            (wholeC Bool.true v'18 17)) ∧
            (b1 = b1 ∧
            (Exists (fun (x21 : PolicyD) => (((isPolicy v1 x21 rs1) ∧
            (capPolicy x21)) ∧
            (∀ v'22 : Value,
            (∀ rs'23 : (List Row),
            ((isPolicy v'22 x21 rs'23) →
            (∀ b24 : Nat,
             ((b24 = b24 ∧
             (wholeC Bool.true v'22 8)) ∧
             (b20 = b20 ∧
             (b24 = b24 ∧
             (Exists (fun (b25 : PolicyBoxD) => (Exists (fun (p26 : PolicyD) => (((isPolicyBox v'18 b25 rs'19) ∧
             ((isPolicy v'22 p26 rs'23) ∧
             ((capPolicyBox b25) ∧
             (capPolicy p26)))) ∧
             (∀ v'27 : Value,
             (∀ rs'28 : (List Row),
             ((isPolicyBox v'27 (baskD b25 p26) rs'28) →
             (∀ b29 : Nat,
              ((b29 = b29 ∧
              (wholeC Bool.true v'27 17)) ∧
              (b29 = b29 ∧
              (b16 = b16 ∧
              (Exists (fun (x30 : PolicyBoxD) => (((isPolicyBox v'27 x30 rs'28) ∧
              ((isPolicyBox v'14 x30 rs'15) ∧
              (capPolicyBox x30))) ∧
              ((((polD p26) != (polD p13)) = Bool.true →
              (Value.bool Bool.false) = (Value.bool Bool.true)) ∧
              (((polD p26) != (polD p13)) = Bool.false →
              (b20 = b20 ∧
               (b0 = b0 ∧
               (Exists (fun (x31 : PolicyBoxD) => (((isPolicyBox v0 x31 rs0) ∧
               (capPolicyBox x31)) ∧
               (∀ v'32 : Value,
               (∀ rs'33 : (List Row),
               ((isPolicyBox v'32 x31 rs'33) →
               (True ∧
                (Exists (fun (x34 : PolicyBoxD) => (((isPolicyBox v'18 x34 rs'19) ∧
                ((isPolicyBox v'32 x34 rs'33) ∧
                (capPolicyBox x34))) ∧
                (True ∧
                (b24 = b24 ∧
                (b1 = b1 ∧
                (Exists (fun (x35 : PolicyD) => (((isPolicy v1 x35 rs1) ∧
                (capPolicy x35)) ∧
                (∀ v'36 : Value,
                (∀ rs'37 : (List Row),
                ((isPolicy v'36 x35 rs'37) →
                (True ∧
                 (Exists (fun (x38 : PolicyD) => (((isPolicy v'22 x38 rs'23) ∧
                 ((isPolicy v'36 x38 rs'37) ∧
                 (capPolicy x38))) ∧
                 (True ∧
                 (b20 = b20 ∧
                 (Exists (fun (x39 : PolicyBoxD) => (((isPolicyBox v'18 x39 rs'19) ∧
                 ((capPolicyBox x39) ∧
                 (mrkC (1 : Int)))) ∧
                 ((endC (1 : Int) (endPolicyBox (1 : Int) x39) (33554432 : Int)) →
                 (∀ rs'40 : (List Row),
                  ((isPolicyBox v'18 (markPolicyBoxD (1 : Int) x39) rs'40) →
                  (b24 = b24 ∧
                   (Exists (fun (x41 : PolicyD) => (((isPolicy v'22 x41 rs'23) ∧
                   ((capPolicy x41) ∧
                   (mrkC (endPolicyBox (1 : Int) x39)))) ∧
                   ((endC (endPolicyBox (1 : Int) x39) (endPolicy (endPolicyBox (1 : Int) x39) x41) (16777216 : Int)) →
                   (∀ rs'42 : (List Row),
                    ((isPolicy v'22 (markPolicyD (endPolicyBox (1 : Int) x39) x41) rs'42) →
                    (((decide ((endPolicy (endPolicyBox (1 : Int) x39) x41) < (0 : Int))) = Bool.false →
                     (b29 = b29 ∧
                      (b16 = b16 ∧
                      (Exists (fun (x43 : PolicyBoxD) => (((isPolicyBox v'27 x43 rs'28) ∧
                      ((isPolicyBox v'14 x43 rs'15) ∧
                      (capPolicyBox x43))) ∧
                      ((((polD p26) != (polD p13)) = Bool.true →
                      (Value.bool Bool.false) = (Value.bool Bool.true)) ∧
                      (((polD p26) != (polD p13)) = Bool.false →
                      (b29 = b29 ∧
                       (Exists (fun (x44 : PolicyBoxD) => (((isPolicyBox v'27 x44 rs'28) ∧
                       ((capPolicyBox x44) ∧
                       (mrkC (1 : Int)))) ∧
                       ((endC (1 : Int) (endPolicyBox (1 : Int) x44) (33554432 : Int)) →
                       (∀ rs'45 : (List Row),
                        ((isPolicyBox v'27 (markPolicyBoxD (1 : Int) x44) rs'45) →
                        (b29 = b29 ∧
                         (Exists (fun (x46 : PolicyBoxD) => (((isPolicyBox v'27 (markPolicyBoxD (1 : Int) x46) rs'45) ∧
                         ((capPolicyBox x46) ∧
                         (mrkC (1 : Int)))) ∧
                         (((decide ((endPolicyBox (1 : Int) x46) < (0 : Int))) = Bool.true →
                         (Value.bool Bool.false) = (Value.bool Bool.true)) ∧
                         ((decide ((endPolicyBox (1 : Int) x46) < (0 : Int))) = Bool.false →
                         ((((endPolicyBox (1 : Int) x46) != (endPolicyBox (1 : Int) x44)) = Bool.true →
                          (Value.bool Bool.false) = (Value.bool Bool.true)) ∧
                          (((endPolicyBox (1 : Int) x46) != (endPolicyBox (1 : Int) x44)) = Bool.false →
                          (b0 = b0 ∧
                           (b1 = b1 ∧
                           ((Exists (fun (x47 : PolicyBoxD) => (((isPolicyBox v0 x47 rs0) ∧
                           (capPolicyBox x47)) ∧
                           (∀ v'48 : Value,
                           (∀ rs'49 : (List Row),
                           ((isPolicyBox v'48 x47 rs'49) →
                           (True ∧
                            ((Exists (fun (x50 : PolicyD) => (((isPolicy v1 x50 rs1) ∧
                            (capPolicy x50)) ∧
                            (∀ v'51 : Value,
                            (∀ rs'52 : (List Row),
                            ((isPolicy v'51 x50 rs'52) →
                            (True ∧
                             ((Exists (fun (b53 : PolicyBoxD) => (Exists (fun (p54 : PolicyD) => (((isPolicyBox v'48 b53 rs'49) ∧
                             ((isPolicy v'51 p54 rs'52) ∧
                             ((capPolicyBox b53) ∧
                             (capPolicy p54)))) ∧
                             (∀ v'55 : Value,
                             (∀ rs'56 : (List Row),
                             ((isPolicyBox v'55 (baskD b53 p54) rs'56) →
                             (True ∧
                              (∀ b57 : Nat,
                              (True ∧
                              ((b57 = b57 ∧
                              (wholeC Bool.true v'55 17)) ∧
                              (True ∧
                              (b57 = b57 ∧
                              (b16 = b16 ∧
                              (Exists (fun (x58 : PolicyBoxD) => (((isPolicyBox v'55 x58 rs'56) ∧
                              ((isPolicyBox v'14 x58 rs'15) ∧
                              (capPolicyBox x58))) ∧
                              ((((polD p54) != (polD p13)) = Bool.true →
                              (Value.bool Bool.false) = (Value.bool Bool.true)) ∧
                              (((polD p54) != (polD p13)) = Bool.false →
                              (b29 = b29 ∧
                               (Exists (fun (x59 : PolicyBoxD) => (((isPolicyBox v'27 (markPolicyBoxD (1 : Int) x59) rs'45) ∧
                               ((capPolicyBox x59) ∧
                               (mrkC (1 : Int)))) ∧
                               (((decide ((endPolicyBox (1 : Int) x59) < (0 : Int))) = Bool.true →
                               (Value.bool Bool.false) = (Value.bool Bool.true)) ∧
                               ((decide ((endPolicyBox (1 : Int) x59) < (0 : Int))) = Bool.false →
                               ((((endPolicyBox (1 : Int) x59) != (endPolicyBox (1 : Int) x44)) = Bool.true →
                                (Value.bool Bool.false) = (Value.bool Bool.true)) ∧
                                (((endPolicyBox (1 : Int) x59) != (endPolicyBox (1 : Int) x44)) = Bool.false →
                                (Value.bool Bool.true) = (Value.bool Bool.true))))))))))))))))))))))))))))) ∧
                             (∀ b60 : Nat,
                             (True ∧
                             (Exists (fun (b61 : PolicyBoxD) => (Exists (fun (p62 : PolicyD) => (((isPolicyBox v'48 b61 rs'49) ∧
                             ((isPolicy v'51 p62 rs'52) ∧
                             ((capPolicyBox b61) ∧
                             (capPolicy p62)))) ∧
                             (∀ v'63 : Value,
                             (∀ rs'64 : (List Row),
                             ((isPolicyBox v'63 (baskD b61 p62) rs'64) →
                             (True ∧
                              ((b60 = b60 ∧
                              (wholeC Bool.true v'63 17)) ∧
                              (True ∧
                              (b60 = b60 ∧
                              (b16 = b16 ∧
                              (Exists (fun (x65 : PolicyBoxD) => (((isPolicyBox v'63 x65 rs'64) ∧
                              ((isPolicyBox v'14 x65 rs'15) ∧
                              (capPolicyBox x65))) ∧
                              ((((polD p62) != (polD p13)) = Bool.true →
                              (Value.bool Bool.false) = (Value.bool Bool.true)) ∧
                              (((polD p62) != (polD p13)) = Bool.false →
                              (b29 = b29 ∧
                               (Exists (fun (x66 : PolicyBoxD) => (((isPolicyBox v'27 (markPolicyBoxD (1 : Int) x66) rs'45) ∧
                               ((capPolicyBox x66) ∧
                               (mrkC (1 : Int)))) ∧
                               (((decide ((endPolicyBox (1 : Int) x66) < (0 : Int))) = Bool.true →
                               (Value.bool Bool.false) = (Value.bool Bool.true)) ∧
                               ((decide ((endPolicyBox (1 : Int) x66) < (0 : Int))) = Bool.false →
                               ((((endPolicyBox (1 : Int) x66) != (endPolicyBox (1 : Int) x44)) = Bool.true →
                                (Value.bool Bool.false) = (Value.bool Bool.true)) ∧
                                (((endPolicyBox (1 : Int) x66) != (endPolicyBox (1 : Int) x44)) = Bool.false →
                                (Value.bool Bool.true) = (Value.bool Bool.true))))))))))))))))))))))))))))))))))))) ∧
                            (∀ b67 : Nat,
                            (True ∧
                            (Exists (fun (x68 : PolicyD) => (((isPolicy v1 x68 rs1) ∧
                            (capPolicy x68)) ∧
                            (∀ v'69 : Value,
                            (∀ rs'70 : (List Row),
                            ((isPolicy v'69 x68 rs'70) →
                            (True ∧
                             (Exists (fun (b71 : PolicyBoxD) => (Exists (fun (p72 : PolicyD) => (((isPolicyBox v'48 b71 rs'49) ∧
                             ((isPolicy v'69 p72 rs'70) ∧
                             ((capPolicyBox b71) ∧
                             (capPolicy p72)))) ∧
                             (∀ v'73 : Value,
                             (∀ rs'74 : (List Row),
                             ((isPolicyBox v'73 (baskD b71 p72) rs'74) →
                             (True ∧
                              ((b67 = b67 ∧
                              (wholeC Bool.true v'73 17)) ∧
                              (True ∧
                              (b67 = b67 ∧
                              (b16 = b16 ∧
                              (Exists (fun (x75 : PolicyBoxD) => (((isPolicyBox v'73 x75 rs'74) ∧
                              ((isPolicyBox v'14 x75 rs'15) ∧
                              (capPolicyBox x75))) ∧
                              ((((polD p72) != (polD p13)) = Bool.true →
                              (Value.bool Bool.false) = (Value.bool Bool.true)) ∧
                              (((polD p72) != (polD p13)) = Bool.false →
                              (b29 = b29 ∧
                               (Exists (fun (x76 : PolicyBoxD) => (((isPolicyBox v'27 (markPolicyBoxD (1 : Int) x76) rs'45) ∧
                               ((capPolicyBox x76) ∧
                               (mrkC (1 : Int)))) ∧
                               (((decide ((endPolicyBox (1 : Int) x76) < (0 : Int))) = Bool.true →
                               (Value.bool Bool.false) = (Value.bool Bool.true)) ∧
                               ((decide ((endPolicyBox (1 : Int) x76) < (0 : Int))) = Bool.false →
                               ((((endPolicyBox (1 : Int) x76) != (endPolicyBox (1 : Int) x44)) = Bool.true →
                                (Value.bool Bool.false) = (Value.bool Bool.true)) ∧
                                (((endPolicyBox (1 : Int) x76) != (endPolicyBox (1 : Int) x44)) = Bool.false →
                                (Value.bool Bool.true) = (Value.bool Bool.true)))))))))))))))))))))))))))))))))))))))))))) ∧
                           (∀ b77 : Nat,
                           (True ∧
                           (Exists (fun (x78 : PolicyBoxD) => (((isPolicyBox v0 x78 rs0) ∧
                           (capPolicyBox x78)) ∧
                           (∀ v'79 : Value,
                           (∀ rs'80 : (List Row),
                           ((isPolicyBox v'79 x78 rs'80) →
                           (True ∧
                            (Exists (fun (x81 : PolicyD) => (((isPolicy v1 x81 rs1) ∧
                            (capPolicy x81)) ∧
                            (∀ v'82 : Value,
                            (∀ rs'83 : (List Row),
                            ((isPolicy v'82 x81 rs'83) →
                            (True ∧
                             (Exists (fun (b84 : PolicyBoxD) => (Exists (fun (p85 : PolicyD) => (((isPolicyBox v'79 b84 rs'80) ∧
                             ((isPolicy v'82 p85 rs'83) ∧
                             ((capPolicyBox b84) ∧
                             (capPolicy p85)))) ∧
                             (∀ v'86 : Value,
                             (∀ rs'87 : (List Row),
                             ((isPolicyBox v'86 (baskD b84 p85) rs'87) →
                             (True ∧
                              ((b77 = b77 ∧
                              (wholeC Bool.true v'86 17)) ∧
                              (True ∧
                              (b77 = b77 ∧
                              (b16 = b16 ∧
                              (Exists (fun (x88 : PolicyBoxD) => (((isPolicyBox v'86 x88 rs'87) ∧
                              ((isPolicyBox v'14 x88 rs'15) ∧
                              (capPolicyBox x88))) ∧
                              ((((polD p85) != (polD p13)) = Bool.true →
                              (Value.bool Bool.false) = (Value.bool Bool.true)) ∧
                              (((polD p85) != (polD p13)) = Bool.false →
                              (b29 = b29 ∧
                               (Exists (fun (x89 : PolicyBoxD) => (((isPolicyBox v'27 (markPolicyBoxD (1 : Int) x89) rs'45) ∧
                               ((capPolicyBox x89) ∧
                               (mrkC (1 : Int)))) ∧
                               (((decide ((endPolicyBox (1 : Int) x89) < (0 : Int))) = Bool.true →
                               (Value.bool Bool.false) = (Value.bool Bool.true)) ∧
                               ((decide ((endPolicyBox (1 : Int) x89) < (0 : Int))) = Bool.false →
                               ((((endPolicyBox (1 : Int) x89) != (endPolicyBox (1 : Int) x44)) = Bool.true →
                                (Value.bool Bool.false) = (Value.bool Bool.true)) ∧
                                (((endPolicyBox (1 : Int) x89) != (endPolicyBox (1 : Int) x44)) = Bool.false →
                                (Value.bool Bool.true) = (Value.bool Bool.true))))))))))))))))))))))))))))))))))))))))))))))))))))))))))))))))))))) ∧
                     ((decide ((endPolicy (endPolicyBox (1 : Int) x39) x41) < (0 : Int))) = Bool.true →
                     (Value.bool Bool.false) = (Value.bool Bool.true))))))))))))))))))))))))))))))))))))))))))))))))))))))))))))))))))))))))))))))))))))))))))))) ∧
          (∀ b90 : Nat,
          (True ∧
          (Exists (fun (b91 : PolicyBoxD) => (Exists (fun (p92 : PolicyD) => (((isPolicyBox v'7 b91 rs'8) ∧
          ((isPolicy v'10 p92 rs'11) ∧
          ((capPolicyBox b91) ∧
          (capPolicy p92)))) ∧
          (∀ v'93 : Value,
          (∀ rs'94 : (List Row),
          ((isPolicyBox v'93 (baskD b91 p92) rs'94) →
          (True ∧
           ((b90 = b90 ∧
           (wholeC Bool.true v'93 17)) ∧
           (True ∧
           (b0 = b0 ∧
           (Exists (fun (x95 : PolicyBoxD) => (((isPolicyBox v0 x95 rs0) ∧
           (capPolicyBox x95)) ∧
           (∀ v'96 : Value,
           (∀ rs'97 : (List Row),
           ((isPolicyBox v'96 x95 rs'97) →
           (∀ b98 : Nat,
            ((b98 = b98 ∧
            (wholeC Bool.true v'96 17)) ∧
            (b1 = b1 ∧
            (Exists (fun (x99 : PolicyD) => (((isPolicy v1 x99 rs1) ∧
            (capPolicy x99)) ∧
            (∀ v'100 : Value,
            (∀ rs'101 : (List Row),
            ((isPolicy v'100 x99 rs'101) →
            (∀ b102 : Nat,
             ((b102 = b102 ∧
             (wholeC Bool.true v'100 8)) ∧
             (b98 = b98 ∧
             (b102 = b102 ∧
             (Exists (fun (b103 : PolicyBoxD) => (Exists (fun (p104 : PolicyD) => (((isPolicyBox v'96 b103 rs'97) ∧
             ((isPolicy v'100 p104 rs'101) ∧
             ((capPolicyBox b103) ∧
             (capPolicy p104)))) ∧
             (∀ v'105 : Value,
             (∀ rs'106 : (List Row),
             ((isPolicyBox v'105 (baskD b103 p104) rs'106) →
             (∀ b107 : Nat,
              ((b107 = b107 ∧
              (wholeC Bool.true v'105 17)) ∧
              (b107 = b107 ∧
              (b90 = b90 ∧
              (Exists (fun (x108 : PolicyBoxD) => (((isPolicyBox v'105 x108 rs'106) ∧
              ((isPolicyBox v'93 x108 rs'94) ∧
              (capPolicyBox x108))) ∧
              ((((polD p104) != (polD p92)) = Bool.true →
              (Value.bool Bool.false) = (Value.bool Bool.true)) ∧
              (((polD p104) != (polD p92)) = Bool.false →
              (b98 = b98 ∧
               (b0 = b0 ∧
               (Exists (fun (x109 : PolicyBoxD) => (((isPolicyBox v0 x109 rs0) ∧
               (capPolicyBox x109)) ∧
               (∀ v'110 : Value,
               (∀ rs'111 : (List Row),
               ((isPolicyBox v'110 x109 rs'111) →
               (True ∧
                (Exists (fun (x112 : PolicyBoxD) => (((isPolicyBox v'96 x112 rs'97) ∧
                ((isPolicyBox v'110 x112 rs'111) ∧
                (capPolicyBox x112))) ∧
                (True ∧
                (b102 = b102 ∧
                (b1 = b1 ∧
                (Exists (fun (x113 : PolicyD) => (((isPolicy v1 x113 rs1) ∧
                (capPolicy x113)) ∧
                (∀ v'114 : Value,
                (∀ rs'115 : (List Row),
                ((isPolicy v'114 x113 rs'115) →
                (True ∧
                 (Exists (fun (x116 : PolicyD) => (((isPolicy v'100 x116 rs'101) ∧
                 ((isPolicy v'114 x116 rs'115) ∧
                 (capPolicy x116))) ∧
                 (True ∧
                 (b98 = b98 ∧
                 (Exists (fun (x117 : PolicyBoxD) => (((isPolicyBox v'96 x117 rs'97) ∧
                 ((capPolicyBox x117) ∧
                 (mrkC (1 : Int)))) ∧
                 ((endC (1 : Int) (endPolicyBox (1 : Int) x117) (33554432 : Int)) →
                 (∀ rs'118 : (List Row),
                  ((isPolicyBox v'96 (markPolicyBoxD (1 : Int) x117) rs'118) →
                  (b102 = b102 ∧
                   (Exists (fun (x119 : PolicyD) => (((isPolicy v'100 x119 rs'101) ∧
                   ((capPolicy x119) ∧
                   (mrkC (endPolicyBox (1 : Int) x117)))) ∧
                   ((endC (endPolicyBox (1 : Int) x117) (endPolicy (endPolicyBox (1 : Int) x117) x119) (16777216 : Int)) →
                   (∀ rs'120 : (List Row),
                    ((isPolicy v'100 (markPolicyD (endPolicyBox (1 : Int) x117) x119) rs'120) →
                    (((decide ((endPolicy (endPolicyBox (1 : Int) x117) x119) < (0 : Int))) = Bool.false →
                     (b107 = b107 ∧
                      (b90 = b90 ∧
                      (Exists (fun (x121 : PolicyBoxD) => (((isPolicyBox v'105 x121 rs'106) ∧
                      ((isPolicyBox v'93 x121 rs'94) ∧
                      (capPolicyBox x121))) ∧
                      ((((polD p104) != (polD p92)) = Bool.true →
                      (Value.bool Bool.false) = (Value.bool Bool.true)) ∧
                      (((polD p104) != (polD p92)) = Bool.false →
                      (b107 = b107 ∧
                       (Exists (fun (x122 : PolicyBoxD) => (((isPolicyBox v'105 x122 rs'106) ∧
                       ((capPolicyBox x122) ∧
                       (mrkC (1 : Int)))) ∧
                       ((endC (1 : Int) (endPolicyBox (1 : Int) x122) (33554432 : Int)) →
                       (∀ rs'123 : (List Row),
                        ((isPolicyBox v'105 (markPolicyBoxD (1 : Int) x122) rs'123) →
                        (b107 = b107 ∧
                         (Exists (fun (x124 : PolicyBoxD) => (((isPolicyBox v'105 (markPolicyBoxD (1 : Int) x124) rs'123) ∧
                         ((capPolicyBox x124) ∧
                         (mrkC (1 : Int)))) ∧
                         (((decide ((endPolicyBox (1 : Int) x124) < (0 : Int))) = Bool.true →
                         (Value.bool Bool.false) = (Value.bool Bool.true)) ∧
                         ((decide ((endPolicyBox (1 : Int) x124) < (0 : Int))) = Bool.false →
                         ((((endPolicyBox (1 : Int) x124) != (endPolicyBox (1 : Int) x122)) = Bool.true →
                          (Value.bool Bool.false) = (Value.bool Bool.true)) ∧
                          (((endPolicyBox (1 : Int) x124) != (endPolicyBox (1 : Int) x122)) = Bool.false →
                          (b0 = b0 ∧
                           (b1 = b1 ∧
                           ((Exists (fun (x125 : PolicyBoxD) => (((isPolicyBox v0 x125 rs0) ∧
                           (capPolicyBox x125)) ∧
                           (∀ v'126 : Value,
                           (∀ rs'127 : (List Row),
                           ((isPolicyBox v'126 x125 rs'127) →
                           (True ∧
                            ((Exists (fun (x128 : PolicyD) => (((isPolicy v1 x128 rs1) ∧
                            (capPolicy x128)) ∧
                            (∀ v'129 : Value,
                            (∀ rs'130 : (List Row),
                            ((isPolicy v'129 x128 rs'130) →
                            (True ∧
                             ((Exists (fun (b131 : PolicyBoxD) => (Exists (fun (p132 : PolicyD) => (((isPolicyBox v'126 b131 rs'127) ∧
                             ((isPolicy v'129 p132 rs'130) ∧
                             ((capPolicyBox b131) ∧
                             (capPolicy p132)))) ∧
                             (∀ v'133 : Value,
                             (∀ rs'134 : (List Row),
                             ((isPolicyBox v'133 (baskD b131 p132) rs'134) →
                             (True ∧
                              (∀ b135 : Nat,
                              (True ∧
                              ((b135 = b135 ∧
                              (wholeC Bool.true v'133 17)) ∧
                              (True ∧
                              (b135 = b135 ∧
                              (b90 = b90 ∧
                              (Exists (fun (x136 : PolicyBoxD) => (((isPolicyBox v'133 x136 rs'134) ∧
                              ((isPolicyBox v'93 x136 rs'94) ∧
                              (capPolicyBox x136))) ∧
                              ((((polD p132) != (polD p92)) = Bool.true →
                              (Value.bool Bool.false) = (Value.bool Bool.true)) ∧
                              (((polD p132) != (polD p92)) = Bool.false →
                              (b107 = b107 ∧
                               (Exists (fun (x137 : PolicyBoxD) => (((isPolicyBox v'105 (markPolicyBoxD (1 : Int) x137) rs'123) ∧
                               ((capPolicyBox x137) ∧
                               (mrkC (1 : Int)))) ∧
                               (((decide ((endPolicyBox (1 : Int) x137) < (0 : Int))) = Bool.true →
                               (Value.bool Bool.false) = (Value.bool Bool.true)) ∧
                               ((decide ((endPolicyBox (1 : Int) x137) < (0 : Int))) = Bool.false →
                               ((((endPolicyBox (1 : Int) x137) != (endPolicyBox (1 : Int) x122)) = Bool.true →
                                (Value.bool Bool.false) = (Value.bool Bool.true)) ∧
                                (((endPolicyBox (1 : Int) x137) != (endPolicyBox (1 : Int) x122)) = Bool.false →
                                (Value.bool Bool.true) = (Value.bool Bool.true))))))))))))))))))))))))))))) ∧
                             (∀ b138 : Nat,
                             (True ∧
                             (Exists (fun (b139 : PolicyBoxD) => (Exists (fun (p140 : PolicyD) => (((isPolicyBox v'126 b139 rs'127) ∧
                             ((isPolicy v'129 p140 rs'130) ∧
                             ((capPolicyBox b139) ∧
                             (capPolicy p140)))) ∧
                             (∀ v'141 : Value,
                             (∀ rs'142 : (List Row),
                             ((isPolicyBox v'141 (baskD b139 p140) rs'142) →
                             (True ∧
                              ((b138 = b138 ∧
                              (wholeC Bool.true v'141 17)) ∧
                              (True ∧
                              (b138 = b138 ∧
                              (b90 = b90 ∧
                              (Exists (fun (x143 : PolicyBoxD) => (((isPolicyBox v'141 x143 rs'142) ∧
                              ((isPolicyBox v'93 x143 rs'94) ∧
                              (capPolicyBox x143))) ∧
                              ((((polD p140) != (polD p92)) = Bool.true →
                              (Value.bool Bool.false) = (Value.bool Bool.true)) ∧
                              (((polD p140) != (polD p92)) = Bool.false →
                              (b107 = b107 ∧
                               (Exists (fun (x144 : PolicyBoxD) => (((isPolicyBox v'105 (markPolicyBoxD (1 : Int) x144) rs'123) ∧
                               ((capPolicyBox x144) ∧
                               (mrkC (1 : Int)))) ∧
                               (((decide ((endPolicyBox (1 : Int) x144) < (0 : Int))) = Bool.true →
                               (Value.bool Bool.false) = (Value.bool Bool.true)) ∧
                               ((decide ((endPolicyBox (1 : Int) x144) < (0 : Int))) = Bool.false →
                               ((((endPolicyBox (1 : Int) x144) != (endPolicyBox (1 : Int) x122)) = Bool.true →
                                (Value.bool Bool.false) = (Value.bool Bool.true)) ∧
                                (((endPolicyBox (1 : Int) x144) != (endPolicyBox (1 : Int) x122)) = Bool.false →
                                (Value.bool Bool.true) = (Value.bool Bool.true))))))))))))))))))))))))))))))))))))) ∧
                            (∀ b145 : Nat,
                            (True ∧
                            (Exists (fun (x146 : PolicyD) => (((isPolicy v1 x146 rs1) ∧
                            (capPolicy x146)) ∧
                            (∀ v'147 : Value,
                            (∀ rs'148 : (List Row),
                            ((isPolicy v'147 x146 rs'148) →
                            (True ∧
                             (Exists (fun (b149 : PolicyBoxD) => (Exists (fun (p150 : PolicyD) => (((isPolicyBox v'126 b149 rs'127) ∧
                             ((isPolicy v'147 p150 rs'148) ∧
                             ((capPolicyBox b149) ∧
                             (capPolicy p150)))) ∧
                             (∀ v'151 : Value,
                             (∀ rs'152 : (List Row),
                             ((isPolicyBox v'151 (baskD b149 p150) rs'152) →
                             (True ∧
                              ((b145 = b145 ∧
                              (wholeC Bool.true v'151 17)) ∧
                              (True ∧
                              (b145 = b145 ∧
                              (b90 = b90 ∧
                              (Exists (fun (x153 : PolicyBoxD) => (((isPolicyBox v'151 x153 rs'152) ∧
                              ((isPolicyBox v'93 x153 rs'94) ∧
                              (capPolicyBox x153))) ∧
                              ((((polD p150) != (polD p92)) = Bool.true →
                              (Value.bool Bool.false) = (Value.bool Bool.true)) ∧
                              (((polD p150) != (polD p92)) = Bool.false →
                              (b107 = b107 ∧
                               (Exists (fun (x154 : PolicyBoxD) => (((isPolicyBox v'105 (markPolicyBoxD (1 : Int) x154) rs'123) ∧
                               ((capPolicyBox x154) ∧
                               (mrkC (1 : Int)))) ∧
                               (((decide ((endPolicyBox (1 : Int) x154) < (0 : Int))) = Bool.true →
                               (Value.bool Bool.false) = (Value.bool Bool.true)) ∧
                               ((decide ((endPolicyBox (1 : Int) x154) < (0 : Int))) = Bool.false →
                               ((((endPolicyBox (1 : Int) x154) != (endPolicyBox (1 : Int) x122)) = Bool.true →
                                (Value.bool Bool.false) = (Value.bool Bool.true)) ∧
                                (((endPolicyBox (1 : Int) x154) != (endPolicyBox (1 : Int) x122)) = Bool.false →
                                (Value.bool Bool.true) = (Value.bool Bool.true)))))))))))))))))))))))))))))))))))))))))))) ∧
                           (∀ b155 : Nat,
                           (True ∧
                           (Exists (fun (x156 : PolicyBoxD) => (((isPolicyBox v0 x156 rs0) ∧
                           (capPolicyBox x156)) ∧
                           (∀ v'157 : Value,
                           (∀ rs'158 : (List Row),
                           ((isPolicyBox v'157 x156 rs'158) →
                           (True ∧
                            (Exists (fun (x159 : PolicyD) => (((isPolicy v1 x159 rs1) ∧
                            (capPolicy x159)) ∧
                            (∀ v'160 : Value,
                            (∀ rs'161 : (List Row),
                            ((isPolicy v'160 x159 rs'161) →
                            (True ∧
                             (Exists (fun (b162 : PolicyBoxD) => (Exists (fun (p163 : PolicyD) => (((isPolicyBox v'157 b162 rs'158) ∧
                             ((isPolicy v'160 p163 rs'161) ∧
                             ((capPolicyBox b162) ∧
                             (capPolicy p163)))) ∧
                             (∀ v'164 : Value,
                             (∀ rs'165 : (List Row),
                             ((isPolicyBox v'164 (baskD b162 p163) rs'165) →
                             (True ∧
                              ((b155 = b155 ∧
                              (wholeC Bool.true v'164 17)) ∧
                              (True ∧
                              (b155 = b155 ∧
                              (b90 = b90 ∧
                              (Exists (fun (x166 : PolicyBoxD) => (((isPolicyBox v'164 x166 rs'165) ∧
                              ((isPolicyBox v'93 x166 rs'94) ∧
                              (capPolicyBox x166))) ∧
                              ((((polD p163) != (polD p92)) = Bool.true →
                              (Value.bool Bool.false) = (Value.bool Bool.true)) ∧
                              (((polD p163) != (polD p92)) = Bool.false →
                              (b107 = b107 ∧
                               (Exists (fun (x167 : PolicyBoxD) => (((isPolicyBox v'105 (markPolicyBoxD (1 : Int) x167) rs'123) ∧
                               ((capPolicyBox x167) ∧
                               (mrkC (1 : Int)))) ∧
                               (((decide ((endPolicyBox (1 : Int) x167) < (0 : Int))) = Bool.true →
                               (Value.bool Bool.false) = (Value.bool Bool.true)) ∧
                               ((decide ((endPolicyBox (1 : Int) x167) < (0 : Int))) = Bool.false →
                               ((((endPolicyBox (1 : Int) x167) != (endPolicyBox (1 : Int) x122)) = Bool.true →
                                (Value.bool Bool.false) = (Value.bool Bool.true)) ∧
                                (((endPolicyBox (1 : Int) x167) != (endPolicyBox (1 : Int) x122)) = Bool.false →
                                (Value.bool Bool.true) = (Value.bool Bool.true))))))))))))))))))))))))))))))))))))))))))))))))))))))))))))))))))))) ∧
                     ((decide ((endPolicy (endPolicyBox (1 : Int) x117) x119) < (0 : Int))) = Bool.true →
                     (Value.bool Bool.false) = (Value.bool Bool.true))))))))))))))))))))))))))))))))))))))))))))))))))))))))))))))))))))))))))))))))))))))))))))))))))))) ∧
         (∀ b168 : Nat,
         (True ∧
         (Exists (fun (x169 : PolicyD) => (((isPolicy v1 x169 rs1) ∧
         (capPolicy x169)) ∧
         (∀ v'170 : Value,
         (∀ rs'171 : (List Row),
         ((isPolicy v'170 x169 rs'171) →
         (True ∧
          (Exists (fun (b172 : PolicyBoxD) => (Exists (fun (p173 : PolicyD) => (((isPolicyBox v'7 b172 rs'8) ∧
          ((isPolicy v'170 p173 rs'171) ∧
          ((capPolicyBox b172) ∧
          (capPolicy p173)))) ∧
          (∀ v'174 : Value,
          (∀ rs'175 : (List Row),
          ((isPolicyBox v'174 (baskD b172 p173) rs'175) →
          (True ∧
           ((b168 = b168 ∧
           (wholeC Bool.true v'174 17)) ∧
           (True ∧
           (b0 = b0 ∧
           (Exists (fun (x176 : PolicyBoxD) => (((isPolicyBox v0 x176 rs0) ∧
           (capPolicyBox x176)) ∧
           (∀ v'177 : Value,
           (∀ rs'178 : (List Row),
           ((isPolicyBox v'177 x176 rs'178) →
           (∀ b179 : Nat,
            ((b179 = b179 ∧
            (wholeC Bool.true v'177 17)) ∧
            (b1 = b1 ∧
            (Exists (fun (x180 : PolicyD) => (((isPolicy v1 x180 rs1) ∧
            (capPolicy x180)) ∧
            (∀ v'181 : Value,
            (∀ rs'182 : (List Row),
            ((isPolicy v'181 x180 rs'182) →
            (∀ b183 : Nat,
             ((b183 = b183 ∧
             (wholeC Bool.true v'181 8)) ∧
             (b179 = b179 ∧
             (b183 = b183 ∧
             (Exists (fun (b184 : PolicyBoxD) => (Exists (fun (p185 : PolicyD) => (((isPolicyBox v'177 b184 rs'178) ∧
             ((isPolicy v'181 p185 rs'182) ∧
             ((capPolicyBox b184) ∧
             (capPolicy p185)))) ∧
             (∀ v'186 : Value,
             (∀ rs'187 : (List Row),
             ((isPolicyBox v'186 (baskD b184 p185) rs'187) →
             (∀ b188 : Nat,
              ((b188 = b188 ∧
              (wholeC Bool.true v'186 17)) ∧
              (b188 = b188 ∧
              (b168 = b168 ∧
              (Exists (fun (x189 : PolicyBoxD) => (((isPolicyBox v'186 x189 rs'187) ∧
              ((isPolicyBox v'174 x189 rs'175) ∧
              (capPolicyBox x189))) ∧
              ((((polD p185) != (polD p173)) = Bool.true →
              (Value.bool Bool.false) = (Value.bool Bool.true)) ∧
              (((polD p185) != (polD p173)) = Bool.false →
              (b179 = b179 ∧
               (b0 = b0 ∧
               (Exists (fun (x190 : PolicyBoxD) => (((isPolicyBox v0 x190 rs0) ∧
               (capPolicyBox x190)) ∧
               (∀ v'191 : Value,
               (∀ rs'192 : (List Row),
               ((isPolicyBox v'191 x190 rs'192) →
               (True ∧
                (Exists (fun (x193 : PolicyBoxD) => (((isPolicyBox v'177 x193 rs'178) ∧
                ((isPolicyBox v'191 x193 rs'192) ∧
                (capPolicyBox x193))) ∧
                (True ∧
                (b183 = b183 ∧
                (b1 = b1 ∧
                (Exists (fun (x194 : PolicyD) => (((isPolicy v1 x194 rs1) ∧
                (capPolicy x194)) ∧
                (∀ v'195 : Value,
                (∀ rs'196 : (List Row),
                ((isPolicy v'195 x194 rs'196) →
                (True ∧
                 (Exists (fun (x197 : PolicyD) => (((isPolicy v'181 x197 rs'182) ∧
                 ((isPolicy v'195 x197 rs'196) ∧
                 (capPolicy x197))) ∧
                 (True ∧
                 (b179 = b179 ∧
                 (Exists (fun (x198 : PolicyBoxD) => (((isPolicyBox v'177 x198 rs'178) ∧
                 ((capPolicyBox x198) ∧
                 (mrkC (1 : Int)))) ∧
                 ((endC (1 : Int) (endPolicyBox (1 : Int) x198) (33554432 : Int)) →
                 (∀ rs'199 : (List Row),
                  ((isPolicyBox v'177 (markPolicyBoxD (1 : Int) x198) rs'199) →
                  (b183 = b183 ∧
                   (Exists (fun (x200 : PolicyD) => (((isPolicy v'181 x200 rs'182) ∧
                   ((capPolicy x200) ∧
                   (mrkC (endPolicyBox (1 : Int) x198)))) ∧
                   ((endC (endPolicyBox (1 : Int) x198) (endPolicy (endPolicyBox (1 : Int) x198) x200) (16777216 : Int)) →
                   (∀ rs'201 : (List Row),
                    ((isPolicy v'181 (markPolicyD (endPolicyBox (1 : Int) x198) x200) rs'201) →
                    (((decide ((endPolicy (endPolicyBox (1 : Int) x198) x200) < (0 : Int))) = Bool.false →
                     (b188 = b188 ∧
                      (b168 = b168 ∧
                      (Exists (fun (x202 : PolicyBoxD) => (((isPolicyBox v'186 x202 rs'187) ∧
                      ((isPolicyBox v'174 x202 rs'175) ∧
                      (capPolicyBox x202))) ∧
                      ((((polD p185) != (polD p173)) = Bool.true →
                      (Value.bool Bool.false) = (Value.bool Bool.true)) ∧
                      (((polD p185) != (polD p173)) = Bool.false →
                      (b188 = b188 ∧
                       (Exists (fun (x203 : PolicyBoxD) => (((isPolicyBox v'186 x203 rs'187) ∧
                       ((capPolicyBox x203) ∧
                       (mrkC (1 : Int)))) ∧
                       ((endC (1 : Int) (endPolicyBox (1 : Int) x203) (33554432 : Int)) →
                       (∀ rs'204 : (List Row),
                        ((isPolicyBox v'186 (markPolicyBoxD (1 : Int) x203) rs'204) →
                        (b188 = b188 ∧
                         (Exists (fun (x205 : PolicyBoxD) => (((isPolicyBox v'186 (markPolicyBoxD (1 : Int) x205) rs'204) ∧
                         ((capPolicyBox x205) ∧
                         (mrkC (1 : Int)))) ∧
                         (((decide ((endPolicyBox (1 : Int) x205) < (0 : Int))) = Bool.true →
                         (Value.bool Bool.false) = (Value.bool Bool.true)) ∧
                         ((decide ((endPolicyBox (1 : Int) x205) < (0 : Int))) = Bool.false →
                         ((((endPolicyBox (1 : Int) x205) != (endPolicyBox (1 : Int) x203)) = Bool.true →
                          (Value.bool Bool.false) = (Value.bool Bool.true)) ∧
                          (((endPolicyBox (1 : Int) x205) != (endPolicyBox (1 : Int) x203)) = Bool.false →
                          (b0 = b0 ∧
                           (b1 = b1 ∧
                           ((Exists (fun (x206 : PolicyBoxD) => (((isPolicyBox v0 x206 rs0) ∧
                           (capPolicyBox x206)) ∧
                           (∀ v'207 : Value,
                           (∀ rs'208 : (List Row),
                           ((isPolicyBox v'207 x206 rs'208) →
                           (True ∧
                            ((Exists (fun (x209 : PolicyD) => (((isPolicy v1 x209 rs1) ∧
                            (capPolicy x209)) ∧
                            (∀ v'210 : Value,
                            (∀ rs'211 : (List Row),
                            ((isPolicy v'210 x209 rs'211) →
                            (True ∧
                             ((Exists (fun (b212 : PolicyBoxD) => (Exists (fun (p213 : PolicyD) => (((isPolicyBox v'207 b212 rs'208) ∧
                             ((isPolicy v'210 p213 rs'211) ∧
                             ((capPolicyBox b212) ∧
                             (capPolicy p213)))) ∧
                             (∀ v'214 : Value,
                             (∀ rs'215 : (List Row),
                             ((isPolicyBox v'214 (baskD b212 p213) rs'215) →
                             (True ∧
                              (∀ b216 : Nat,
                              (True ∧
                              ((b216 = b216 ∧
                              (wholeC Bool.true v'214 17)) ∧
                              (True ∧
                              (b216 = b216 ∧
                              (b168 = b168 ∧
                              (Exists (fun (x217 : PolicyBoxD) => (((isPolicyBox v'214 x217 rs'215) ∧
                              ((isPolicyBox v'174 x217 rs'175) ∧
                              (capPolicyBox x217))) ∧
                              ((((polD p213) != (polD p173)) = Bool.true →
                              (Value.bool Bool.false) = (Value.bool Bool.true)) ∧
                              (((polD p213) != (polD p173)) = Bool.false →
                              (b188 = b188 ∧
                               (Exists (fun (x218 : PolicyBoxD) => (((isPolicyBox v'186 (markPolicyBoxD (1 : Int) x218) rs'204) ∧
                               ((capPolicyBox x218) ∧
                               (mrkC (1 : Int)))) ∧
                               (((decide ((endPolicyBox (1 : Int) x218) < (0 : Int))) = Bool.true →
                               (Value.bool Bool.false) = (Value.bool Bool.true)) ∧
                               ((decide ((endPolicyBox (1 : Int) x218) < (0 : Int))) = Bool.false →
                               ((((endPolicyBox (1 : Int) x218) != (endPolicyBox (1 : Int) x203)) = Bool.true →
                                (Value.bool Bool.false) = (Value.bool Bool.true)) ∧
                                (((endPolicyBox (1 : Int) x218) != (endPolicyBox (1 : Int) x203)) = Bool.false →
                                (Value.bool Bool.true) = (Value.bool Bool.true))))))))))))))))))))))))))))) ∧
                             (∀ b219 : Nat,
                             (True ∧
                             (Exists (fun (b220 : PolicyBoxD) => (Exists (fun (p221 : PolicyD) => (((isPolicyBox v'207 b220 rs'208) ∧
                             ((isPolicy v'210 p221 rs'211) ∧
                             ((capPolicyBox b220) ∧
                             (capPolicy p221)))) ∧
                             (∀ v'222 : Value,
                             (∀ rs'223 : (List Row),
                             ((isPolicyBox v'222 (baskD b220 p221) rs'223) →
                             (True ∧
                              ((b219 = b219 ∧
                              (wholeC Bool.true v'222 17)) ∧
                              (True ∧
                              (b219 = b219 ∧
                              (b168 = b168 ∧
                              (Exists (fun (x224 : PolicyBoxD) => (((isPolicyBox v'222 x224 rs'223) ∧
                              ((isPolicyBox v'174 x224 rs'175) ∧
                              (capPolicyBox x224))) ∧
                              ((((polD p221) != (polD p173)) = Bool.true →
                              (Value.bool Bool.false) = (Value.bool Bool.true)) ∧
                              (((polD p221) != (polD p173)) = Bool.false →
                              (b188 = b188 ∧
                               (Exists (fun (x225 : PolicyBoxD) => (((isPolicyBox v'186 (markPolicyBoxD (1 : Int) x225) rs'204) ∧
                               ((capPolicyBox x225) ∧
                               (mrkC (1 : Int)))) ∧
                               (((decide ((endPolicyBox (1 : Int) x225) < (0 : Int))) = Bool.true →
                               (Value.bool Bool.false) = (Value.bool Bool.true)) ∧
                               ((decide ((endPolicyBox (1 : Int) x225) < (0 : Int))) = Bool.false →
                               ((((endPolicyBox (1 : Int) x225) != (endPolicyBox (1 : Int) x203)) = Bool.true →
                                (Value.bool Bool.false) = (Value.bool Bool.true)) ∧
                                (((endPolicyBox (1 : Int) x225) != (endPolicyBox (1 : Int) x203)) = Bool.false →
                                (Value.bool Bool.true) = (Value.bool Bool.true))))))))))))))))))))))))))))))))))))) ∧
                            (∀ b226 : Nat,
                            (True ∧
                            (Exists (fun (x227 : PolicyD) => (((isPolicy v1 x227 rs1) ∧
                            (capPolicy x227)) ∧
                            (∀ v'228 : Value,
                            (∀ rs'229 : (List Row),
                            ((isPolicy v'228 x227 rs'229) →
                            (True ∧
                             (Exists (fun (b230 : PolicyBoxD) => (Exists (fun (p231 : PolicyD) => (((isPolicyBox v'207 b230 rs'208) ∧
                             ((isPolicy v'228 p231 rs'229) ∧
                             ((capPolicyBox b230) ∧
                             (capPolicy p231)))) ∧
                             (∀ v'232 : Value,
                             (∀ rs'233 : (List Row),
                             ((isPolicyBox v'232 (baskD b230 p231) rs'233) →
                             (True ∧
                              ((b226 = b226 ∧
                              (wholeC Bool.true v'232 17)) ∧
                              (True ∧
                              (b226 = b226 ∧
                              (b168 = b168 ∧
                              (Exists (fun (x234 : PolicyBoxD) => (((isPolicyBox v'232 x234 rs'233) ∧
                              ((isPolicyBox v'174 x234 rs'175) ∧
                              (capPolicyBox x234))) ∧
                              ((((polD p231) != (polD p173)) = Bool.true →
                              (Value.bool Bool.false) = (Value.bool Bool.true)) ∧
                              (((polD p231) != (polD p173)) = Bool.false →
                              (b188 = b188 ∧
                               (Exists (fun (x235 : PolicyBoxD) => (((isPolicyBox v'186 (markPolicyBoxD (1 : Int) x235) rs'204) ∧
                               ((capPolicyBox x235) ∧
                               (mrkC (1 : Int)))) ∧
                               (((decide ((endPolicyBox (1 : Int) x235) < (0 : Int))) = Bool.true →
                               (Value.bool Bool.false) = (Value.bool Bool.true)) ∧
                               ((decide ((endPolicyBox (1 : Int) x235) < (0 : Int))) = Bool.false →
                               ((((endPolicyBox (1 : Int) x235) != (endPolicyBox (1 : Int) x203)) = Bool.true →
                                (Value.bool Bool.false) = (Value.bool Bool.true)) ∧
                                (((endPolicyBox (1 : Int) x235) != (endPolicyBox (1 : Int) x203)) = Bool.false →
                                (Value.bool Bool.true) = (Value.bool Bool.true)))))))))))))))))))))))))))))))))))))))))))) ∧
                           (∀ b236 : Nat,
                           (True ∧
                           (Exists (fun (x237 : PolicyBoxD) => (((isPolicyBox v0 x237 rs0) ∧
                           (capPolicyBox x237)) ∧
                           (∀ v'238 : Value,
                           (∀ rs'239 : (List Row),
                           ((isPolicyBox v'238 x237 rs'239) →
                           (True ∧
                            (Exists (fun (x240 : PolicyD) => (((isPolicy v1 x240 rs1) ∧
                            (capPolicy x240)) ∧
                            (∀ v'241 : Value,
                            (∀ rs'242 : (List Row),
                            ((isPolicy v'241 x240 rs'242) →
                            (True ∧
                             (Exists (fun (b243 : PolicyBoxD) => (Exists (fun (p244 : PolicyD) => (((isPolicyBox v'238 b243 rs'239) ∧
                             ((isPolicy v'241 p244 rs'242) ∧
                             ((capPolicyBox b243) ∧
                             (capPolicy p244)))) ∧
                             (∀ v'245 : Value,
                             (∀ rs'246 : (List Row),
                             ((isPolicyBox v'245 (baskD b243 p244) rs'246) →
                             (True ∧
                              ((b236 = b236 ∧
                              (wholeC Bool.true v'245 17)) ∧
                              (True ∧
                              (b236 = b236 ∧
                              (b168 = b168 ∧
                              (Exists (fun (x247 : PolicyBoxD) => (((isPolicyBox v'245 x247 rs'246) ∧
                              ((isPolicyBox v'174 x247 rs'175) ∧
                              (capPolicyBox x247))) ∧
                              ((((polD p244) != (polD p173)) = Bool.true →
                              (Value.bool Bool.false) = (Value.bool Bool.true)) ∧
                              (((polD p244) != (polD p173)) = Bool.false →
                              (b188 = b188 ∧
                               (Exists (fun (x248 : PolicyBoxD) => (((isPolicyBox v'186 (markPolicyBoxD (1 : Int) x248) rs'204) ∧
                               ((capPolicyBox x248) ∧
                               (mrkC (1 : Int)))) ∧
                               (((decide ((endPolicyBox (1 : Int) x248) < (0 : Int))) = Bool.true →
                               (Value.bool Bool.false) = (Value.bool Bool.true)) ∧
                               ((decide ((endPolicyBox (1 : Int) x248) < (0 : Int))) = Bool.false →
                               ((((endPolicyBox (1 : Int) x248) != (endPolicyBox (1 : Int) x203)) = Bool.true →
                                (Value.bool Bool.false) = (Value.bool Bool.true)) ∧
                                (((endPolicyBox (1 : Int) x248) != (endPolicyBox (1 : Int) x203)) = Bool.false →
                                (Value.bool Bool.true) = (Value.bool Bool.true))))))))))))))))))))))))))))))))))))))))))))))))))))))))))))))))))))) ∧
                     ((decide ((endPolicy (endPolicyBox (1 : Int) x198) x200) < (0 : Int))) = Bool.true →
                     (Value.bool Bool.false) = (Value.bool Bool.true)))))))))))))))))))))))))))))))))))))))))))))))))))))))))))))))))))))))))))))))))))))))))))))))))))))))))))) ∧
        (∀ b249 : Nat,
        (True ∧
        (Exists (fun (x250 : PolicyBoxD) => (((isPolicyBox v0 x250 rs0) ∧
        (capPolicyBox x250)) ∧
        (∀ v'251 : Value,
        (∀ rs'252 : (List Row),
        ((isPolicyBox v'251 x250 rs'252) →
        (True ∧
         (Exists (fun (x253 : PolicyD) => (((isPolicy v1 x253 rs1) ∧
         (capPolicy x253)) ∧
         (∀ v'254 : Value,
         (∀ rs'255 : (List Row),
         ((isPolicy v'254 x253 rs'255) →
         (True ∧
          (Exists (fun (b256 : PolicyBoxD) => (Exists (fun (p257 : PolicyD) => (((isPolicyBox v'251 b256 rs'252) ∧
          ((isPolicy v'254 p257 rs'255) ∧
          ((capPolicyBox b256) ∧
          (capPolicy p257)))) ∧
          (∀ v'258 : Value,
          (∀ rs'259 : (List Row),
          ((isPolicyBox v'258 (baskD b256 p257) rs'259) →
          (True ∧
           ((b249 = b249 ∧
           (wholeC Bool.true v'258 17)) ∧
           (True ∧
           (b0 = b0 ∧
           (Exists (fun (x260 : PolicyBoxD) => (((isPolicyBox v0 x260 rs0) ∧
           (capPolicyBox x260)) ∧
           (∀ v'261 : Value,
           (∀ rs'262 : (List Row),
           ((isPolicyBox v'261 x260 rs'262) →
           (∀ b263 : Nat,
            ((b263 = b263 ∧
            (wholeC Bool.true v'261 17)) ∧
            (b1 = b1 ∧
            (Exists (fun (x264 : PolicyD) => (((isPolicy v1 x264 rs1) ∧
            (capPolicy x264)) ∧
            (∀ v'265 : Value,
            (∀ rs'266 : (List Row),
            ((isPolicy v'265 x264 rs'266) →
            (∀ b267 : Nat,
             ((b267 = b267 ∧
             (wholeC Bool.true v'265 8)) ∧
             (b263 = b263 ∧
             (b267 = b267 ∧
             (Exists (fun (b268 : PolicyBoxD) => (Exists (fun (p269 : PolicyD) => (((isPolicyBox v'261 b268 rs'262) ∧
             ((isPolicy v'265 p269 rs'266) ∧
             ((capPolicyBox b268) ∧
             (capPolicy p269)))) ∧
             (∀ v'270 : Value,
             (∀ rs'271 : (List Row),
             ((isPolicyBox v'270 (baskD b268 p269) rs'271) →
             (∀ b272 : Nat,
              ((b272 = b272 ∧
              (wholeC Bool.true v'270 17)) ∧
              (b272 = b272 ∧
              (b249 = b249 ∧
              (Exists (fun (x273 : PolicyBoxD) => (((isPolicyBox v'270 x273 rs'271) ∧
              ((isPolicyBox v'258 x273 rs'259) ∧
              (capPolicyBox x273))) ∧
              ((((polD p269) != (polD p257)) = Bool.true →
              (Value.bool Bool.false) = (Value.bool Bool.true)) ∧
              (((polD p269) != (polD p257)) = Bool.false →
              (b263 = b263 ∧
               (b0 = b0 ∧
               (Exists (fun (x274 : PolicyBoxD) => (((isPolicyBox v0 x274 rs0) ∧
               (capPolicyBox x274)) ∧
               (∀ v'275 : Value,
               (∀ rs'276 : (List Row),
               ((isPolicyBox v'275 x274 rs'276) →
               (True ∧
                (Exists (fun (x277 : PolicyBoxD) => (((isPolicyBox v'261 x277 rs'262) ∧
                ((isPolicyBox v'275 x277 rs'276) ∧
                (capPolicyBox x277))) ∧
                (True ∧
                (b267 = b267 ∧
                (b1 = b1 ∧
                (Exists (fun (x278 : PolicyD) => (((isPolicy v1 x278 rs1) ∧
                (capPolicy x278)) ∧
                (∀ v'279 : Value,
                (∀ rs'280 : (List Row),
                ((isPolicy v'279 x278 rs'280) →
                (True ∧
                 (Exists (fun (x281 : PolicyD) => (((isPolicy v'265 x281 rs'266) ∧
                 ((isPolicy v'279 x281 rs'280) ∧
                 (capPolicy x281))) ∧
                 (True ∧
                 (b263 = b263 ∧
                 (Exists (fun (x282 : PolicyBoxD) => (((isPolicyBox v'261 x282 rs'262) ∧
                 ((capPolicyBox x282) ∧
                 (mrkC (1 : Int)))) ∧
                 ((endC (1 : Int) (endPolicyBox (1 : Int) x282) (33554432 : Int)) →
                 (∀ rs'283 : (List Row),
                  ((isPolicyBox v'261 (markPolicyBoxD (1 : Int) x282) rs'283) →
                  (b267 = b267 ∧
                   (Exists (fun (x284 : PolicyD) => (((isPolicy v'265 x284 rs'266) ∧
                   ((capPolicy x284) ∧
                   (mrkC (endPolicyBox (1 : Int) x282)))) ∧
                   ((endC (endPolicyBox (1 : Int) x282) (endPolicy (endPolicyBox (1 : Int) x282) x284) (16777216 : Int)) →
                   (∀ rs'285 : (List Row),
                    ((isPolicy v'265 (markPolicyD (endPolicyBox (1 : Int) x282) x284) rs'285) →
                    (((decide ((endPolicy (endPolicyBox (1 : Int) x282) x284) < (0 : Int))) = Bool.false →
                     (b272 = b272 ∧
                      (b249 = b249 ∧
                      (Exists (fun (x286 : PolicyBoxD) => (((isPolicyBox v'270 x286 rs'271) ∧
                      ((isPolicyBox v'258 x286 rs'259) ∧
                      (capPolicyBox x286))) ∧
                      ((((polD p269) != (polD p257)) = Bool.true →
                      (Value.bool Bool.false) = (Value.bool Bool.true)) ∧
                      (((polD p269) != (polD p257)) = Bool.false →
                      (b272 = b272 ∧
                       (Exists (fun (x287 : PolicyBoxD) => (((isPolicyBox v'270 x287 rs'271) ∧
                       ((capPolicyBox x287) ∧
                       (mrkC (1 : Int)))) ∧
                       ((endC (1 : Int) (endPolicyBox (1 : Int) x287) (33554432 : Int)) →
                       (∀ rs'288 : (List Row),
                        ((isPolicyBox v'270 (markPolicyBoxD (1 : Int) x287) rs'288) →
                        (b272 = b272 ∧
                         (Exists (fun (x289 : PolicyBoxD) => (((isPolicyBox v'270 (markPolicyBoxD (1 : Int) x289) rs'288) ∧
                         ((capPolicyBox x289) ∧
                         (mrkC (1 : Int)))) ∧
                         (((decide ((endPolicyBox (1 : Int) x289) < (0 : Int))) = Bool.true →
                         (Value.bool Bool.false) = (Value.bool Bool.true)) ∧
                         ((decide ((endPolicyBox (1 : Int) x289) < (0 : Int))) = Bool.false →
                         ((((endPolicyBox (1 : Int) x289) != (endPolicyBox (1 : Int) x287)) = Bool.true →
                          (Value.bool Bool.false) = (Value.bool Bool.true)) ∧
                          (((endPolicyBox (1 : Int) x289) != (endPolicyBox (1 : Int) x287)) = Bool.false →
                          (b0 = b0 ∧
                           (b1 = b1 ∧
                           ((Exists (fun (x290 : PolicyBoxD) => (((isPolicyBox v0 x290 rs0) ∧
                           (capPolicyBox x290)) ∧
                           (∀ v'291 : Value,
                           (∀ rs'292 : (List Row),
                           ((isPolicyBox v'291 x290 rs'292) →
                           (True ∧
                            ((Exists (fun (x293 : PolicyD) => (((isPolicy v1 x293 rs1) ∧
                            (capPolicy x293)) ∧
                            (∀ v'294 : Value,
                            (∀ rs'295 : (List Row),
                            ((isPolicy v'294 x293 rs'295) →
                            (True ∧
                             ((Exists (fun (b296 : PolicyBoxD) => (Exists (fun (p297 : PolicyD) => (((isPolicyBox v'291 b296 rs'292) ∧
                             ((isPolicy v'294 p297 rs'295) ∧
                             ((capPolicyBox b296) ∧
                             (capPolicy p297)))) ∧
                             (∀ v'298 : Value,
                             (∀ rs'299 : (List Row),
                             ((isPolicyBox v'298 (baskD b296 p297) rs'299) →
                             (True ∧
                              (∀ b300 : Nat,
                              (True ∧
                              ((b300 = b300 ∧
                              (wholeC Bool.true v'298 17)) ∧
                              (True ∧
                              (b300 = b300 ∧
                              (b249 = b249 ∧
                              (Exists (fun (x301 : PolicyBoxD) => (((isPolicyBox v'298 x301 rs'299) ∧
                              ((isPolicyBox v'258 x301 rs'259) ∧
                              (capPolicyBox x301))) ∧
                              ((((polD p297) != (polD p257)) = Bool.true →
                              (Value.bool Bool.false) = (Value.bool Bool.true)) ∧
                              (((polD p297) != (polD p257)) = Bool.false →
                              (b272 = b272 ∧
                               (Exists (fun (x302 : PolicyBoxD) => (((isPolicyBox v'270 (markPolicyBoxD (1 : Int) x302) rs'288) ∧
                               ((capPolicyBox x302) ∧
                               (mrkC (1 : Int)))) ∧
                               (((decide ((endPolicyBox (1 : Int) x302) < (0 : Int))) = Bool.true →
                               (Value.bool Bool.false) = (Value.bool Bool.true)) ∧
                               ((decide ((endPolicyBox (1 : Int) x302) < (0 : Int))) = Bool.false →
                               ((((endPolicyBox (1 : Int) x302) != (endPolicyBox (1 : Int) x287)) = Bool.true →
                                (Value.bool Bool.false) = (Value.bool Bool.true)) ∧
                                (((endPolicyBox (1 : Int) x302) != (endPolicyBox (1 : Int) x287)) = Bool.false →
                                (Value.bool Bool.true) = (Value.bool Bool.true))))))))))))))))))))))))))))) ∧
                             (∀ b303 : Nat,
                             (True ∧
                             (Exists (fun (b304 : PolicyBoxD) => (Exists (fun (p305 : PolicyD) => (((isPolicyBox v'291 b304 rs'292) ∧
                             ((isPolicy v'294 p305 rs'295) ∧
                             ((capPolicyBox b304) ∧
                             (capPolicy p305)))) ∧
                             (∀ v'306 : Value,
                             (∀ rs'307 : (List Row),
                             ((isPolicyBox v'306 (baskD b304 p305) rs'307) →
                             (True ∧
                              ((b303 = b303 ∧
                              (wholeC Bool.true v'306 17)) ∧
                              (True ∧
                              (b303 = b303 ∧
                              (b249 = b249 ∧
                              (Exists (fun (x308 : PolicyBoxD) => (((isPolicyBox v'306 x308 rs'307) ∧
                              ((isPolicyBox v'258 x308 rs'259) ∧
                              (capPolicyBox x308))) ∧
                              ((((polD p305) != (polD p257)) = Bool.true →
                              (Value.bool Bool.false) = (Value.bool Bool.true)) ∧
                              (((polD p305) != (polD p257)) = Bool.false →
                              (b272 = b272 ∧
                               (Exists (fun (x309 : PolicyBoxD) => (((isPolicyBox v'270 (markPolicyBoxD (1 : Int) x309) rs'288) ∧
                               ((capPolicyBox x309) ∧
                               (mrkC (1 : Int)))) ∧
                               (((decide ((endPolicyBox (1 : Int) x309) < (0 : Int))) = Bool.true →
                               (Value.bool Bool.false) = (Value.bool Bool.true)) ∧
                               ((decide ((endPolicyBox (1 : Int) x309) < (0 : Int))) = Bool.false →
                               ((((endPolicyBox (1 : Int) x309) != (endPolicyBox (1 : Int) x287)) = Bool.true →
                                (Value.bool Bool.false) = (Value.bool Bool.true)) ∧
                                (((endPolicyBox (1 : Int) x309) != (endPolicyBox (1 : Int) x287)) = Bool.false →
                                (Value.bool Bool.true) = (Value.bool Bool.true))))))))))))))))))))))))))))))))))))) ∧
                            (∀ b310 : Nat,
                            (True ∧
                            (Exists (fun (x311 : PolicyD) => (((isPolicy v1 x311 rs1) ∧
                            (capPolicy x311)) ∧
                            (∀ v'312 : Value,
                            (∀ rs'313 : (List Row),
                            ((isPolicy v'312 x311 rs'313) →
                            (True ∧
                             (Exists (fun (b314 : PolicyBoxD) => (Exists (fun (p315 : PolicyD) => (((isPolicyBox v'291 b314 rs'292) ∧
                             ((isPolicy v'312 p315 rs'313) ∧
                             ((capPolicyBox b314) ∧
                             (capPolicy p315)))) ∧
                             (∀ v'316 : Value,
                             (∀ rs'317 : (List Row),
                             ((isPolicyBox v'316 (baskD b314 p315) rs'317) →
                             (True ∧
                              ((b310 = b310 ∧
                              (wholeC Bool.true v'316 17)) ∧
                              (True ∧
                              (b310 = b310 ∧
                              (b249 = b249 ∧
                              (Exists (fun (x318 : PolicyBoxD) => (((isPolicyBox v'316 x318 rs'317) ∧
                              ((isPolicyBox v'258 x318 rs'259) ∧
                              (capPolicyBox x318))) ∧
                              ((((polD p315) != (polD p257)) = Bool.true →
                              (Value.bool Bool.false) = (Value.bool Bool.true)) ∧
                              (((polD p315) != (polD p257)) = Bool.false →
                              (b272 = b272 ∧
                               (Exists (fun (x319 : PolicyBoxD) => (((isPolicyBox v'270 (markPolicyBoxD (1 : Int) x319) rs'288) ∧
                               ((capPolicyBox x319) ∧
                               (mrkC (1 : Int)))) ∧
                               (((decide ((endPolicyBox (1 : Int) x319) < (0 : Int))) = Bool.true →
                               (Value.bool Bool.false) = (Value.bool Bool.true)) ∧
                               ((decide ((endPolicyBox (1 : Int) x319) < (0 : Int))) = Bool.false →
                               ((((endPolicyBox (1 : Int) x319) != (endPolicyBox (1 : Int) x287)) = Bool.true →
                                (Value.bool Bool.false) = (Value.bool Bool.true)) ∧
                                (((endPolicyBox (1 : Int) x319) != (endPolicyBox (1 : Int) x287)) = Bool.false →
                                (Value.bool Bool.true) = (Value.bool Bool.true)))))))))))))))))))))))))))))))))))))))))))) ∧
                           (∀ b320 : Nat,
                           (True ∧
                           (Exists (fun (x321 : PolicyBoxD) => (((isPolicyBox v0 x321 rs0) ∧
                           (capPolicyBox x321)) ∧
                           (∀ v'322 : Value,
                           (∀ rs'323 : (List Row),
                           ((isPolicyBox v'322 x321 rs'323) →
                           (True ∧
                            (Exists (fun (x324 : PolicyD) => (((isPolicy v1 x324 rs1) ∧
                            (capPolicy x324)) ∧
                            (∀ v'325 : Value,
                            (∀ rs'326 : (List Row),
                            ((isPolicy v'325 x324 rs'326) →
                            (True ∧
                             (Exists (fun (b327 : PolicyBoxD) => (Exists (fun (p328 : PolicyD) => (((isPolicyBox v'322 b327 rs'323) ∧
                             ((isPolicy v'325 p328 rs'326) ∧
                             ((capPolicyBox b327) ∧
                             (capPolicy p328)))) ∧
                             (∀ v'329 : Value,
                             (∀ rs'330 : (List Row),
                             ((isPolicyBox v'329 (baskD b327 p328) rs'330) →
                             (True ∧
                              ((b320 = b320 ∧
                              (wholeC Bool.true v'329 17)) ∧
                              (True ∧
                              (b320 = b320 ∧
                              (b249 = b249 ∧
                              (Exists (fun (x331 : PolicyBoxD) => (((isPolicyBox v'329 x331 rs'330) ∧
                              ((isPolicyBox v'258 x331 rs'259) ∧
                              (capPolicyBox x331))) ∧
                              ((((polD p328) != (polD p257)) = Bool.true →
                              (Value.bool Bool.false) = (Value.bool Bool.true)) ∧
                              (((polD p328) != (polD p257)) = Bool.false →
                              (b272 = b272 ∧
                               (Exists (fun (x332 : PolicyBoxD) => (((isPolicyBox v'270 (markPolicyBoxD (1 : Int) x332) rs'288) ∧
                               ((capPolicyBox x332) ∧
                               (mrkC (1 : Int)))) ∧
                               (((decide ((endPolicyBox (1 : Int) x332) < (0 : Int))) = Bool.true →
                               (Value.bool Bool.false) = (Value.bool Bool.true)) ∧
                               ((decide ((endPolicyBox (1 : Int) x332) < (0 : Int))) = Bool.false →
                               ((((endPolicyBox (1 : Int) x332) != (endPolicyBox (1 : Int) x287)) = Bool.true →
                                (Value.bool Bool.false) = (Value.bool Bool.true)) ∧
                                (((endPolicyBox (1 : Int) x332) != (endPolicyBox (1 : Int) x287)) = Bool.false →
                                (Value.bool Bool.true) = (Value.bool Bool.true))))))))))))))))))))))))))))))))))))))))))))))))))))))))))))))))))))) ∧
                     ((decide ((endPolicy (endPolicyBox (1 : Int) x282) x284) < (0 : Int))) = Bool.true →
                     (Value.bool Bool.false) = (Value.bool Bool.true))))))))))))))))))))))))))))))))))))))))))))))))))))))))))))))))))))))))))))))))))))))))))))))))))))))))))))))))))))))))))))))))))))))) := by kernel_rfl
theorem law_FnExactBoxAsk_any (v0 : Value) (rs0 : List Row) (v1 : Value) (rs1 : List Row) (W : World) (x0 : PolicyBoxD) (hx0 : isPolicyBox v0 x0 rs0) (hw0 : ∀ r ∈ rs0, r.own = false ∧ r.sat W) (hn0 : x0.ActiveWeightsN ≤ 9223372036854775807 ∧ x0.NextWeightsN ≤ 9223372036854775807) (hb0 : (-9223372036854775808 ≤ x0.ActivePage ∧ x0.ActivePage ≤ 9223372036854775807) ∧ (-9223372036854775808 ≤ x0.ActiveCap ∧ x0.ActiveCap ≤ 9223372036854775807) ∧ (-9223372036854775808 ≤ x0.ActiveLimit ∧ x0.ActiveLimit ≤ 9223372036854775807) ∧ (-9223372036854775808 ≤ x0.ActiveLow ∧ x0.ActiveLow ≤ 9223372036854775807) ∧ (-9223372036854775808 ≤ x0.ActiveHigh ∧ x0.ActiveHigh ≤ 9223372036854775807) ∧ (-9223372036854775808 ≤ x0.ActiveRuleDown ∧ x0.ActiveRuleDown ≤ 9223372036854775807) ∧ (-9223372036854775808 ≤ x0.ActiveRuleSleep ∧ x0.ActiveRuleSleep ≤ 9223372036854775807) ∧ (-9223372036854775808 ≤ x0.NextPage ∧ x0.NextPage ≤ 9223372036854775807) ∧ (-9223372036854775808 ≤ x0.NextCap ∧ x0.NextCap ≤ 9223372036854775807) ∧ (-9223372036854775808 ≤ x0.NextLimit ∧ x0.NextLimit ≤ 9223372036854775807) ∧ (-9223372036854775808 ≤ x0.NextLow ∧ x0.NextLow ≤ 9223372036854775807) ∧ (-9223372036854775808 ≤ x0.NextHigh ∧ x0.NextHigh ≤ 9223372036854775807) ∧ (-9223372036854775808 ≤ x0.NextRuleDown ∧ x0.NextRuleDown ≤ 9223372036854775807) ∧ (-9223372036854775808 ≤ x0.NextRuleSleep ∧ x0.NextRuleSleep ≤ 9223372036854775807)) (x1 : PolicyD) (hx1 : isPolicy v1 x1 rs1) (hw1 : ∀ r ∈ rs1, r.own = false ∧ r.sat W) (hn1 : x1.WeightsN ≤ 9223372036854775807) (hb1 : (-9223372036854775808 ≤ x1.Page ∧ x1.Page ≤ 9223372036854775807) ∧ (-9223372036854775808 ≤ x1.Cap ∧ x1.Cap ≤ 9223372036854775807) ∧ (-9223372036854775808 ≤ x1.Limit ∧ x1.Limit ≤ 9223372036854775807) ∧ (-9223372036854775808 ≤ x1.Low ∧ x1.Low ≤ 9223372036854775807) ∧ (-9223372036854775808 ≤ x1.High ∧ x1.High ≤ 9223372036854775807) ∧ (-9223372036854775808 ≤ x1.RuleDown ∧ x1.RuleDown ≤ 9223372036854775807) ∧ (-9223372036854775808 ≤ x1.RuleSleep ∧ x1.RuleSleep ≤ 9223372036854775807)) : Calls Try.prog 14 #[v0, v1] W fun e W' => e = .returned (.bool true) ∧ Below W.heap.size W W' := by
  refine fnB (tb := [(41, sToPolicyO), (36, sEqPolicyO), (37, sMarkPolicyO), (38, sHeldPolicyO), (39, sSzPolicyO), (48, sToPolicyBoxO), (50, sEqPolicyBoxO), (51, sMarkPolicyBoxO), (52, sHeldPolicyBoxO), (46, sSzPolicyBoxO), (56, sBAskO), (55, sBAskO)]) ⟨sToPolicyO_ok_laws_toPolicy, sEqPolicyO_ok, sMarkPolicyO_ok, sHeldPolicyO_ok, sSzPolicyO_ok, sToPolicyBoxO_ok_laws_toPolicyBox, sEqPolicyBoxO_ok, sMarkPolicyBoxO_ok, sHeldPolicyBoxO_ok, sSzPolicyBoxO_ok, sBAskO_ok_impl_BoxAsk, sBAskO_ok_spec_BoxAsk, trivial⟩ Try.func14 ((law_FnExactBoxAsk_T v0 rs0 v1 rs1).mpr ?_) (HS.objs (fun _ => False) [rs0, rs1] (seen_cons hw0 (seen_cons hw1 seen_nil))) (fun v ch' w' hk hs => ⟨by rw [hk], hs.below⟩)
  clear hw0 hw1
  repeat' (first
    | exact rfl
    | exact True.intro
    | assumption
    | exact capBAsk (by assumption) (by assumption)
    | exact wholePolicy (by assumption)
    | exact wholePolicyBox (by assumption)
    | refine And.intro ?_ ?_
    | apply Exists.intro
    | omega
    | (intro h; exfalso; revert h; simp; done)
    | (intro h; exfalso; simp at h; omega)
    | intro _)
theorem walk_FnExactBoxAsk (cs0 : Array Value) (cs1 : Array Value) (W : World) (h0 : Has W (.cons (.cons .int (.cons .int (.cons .int (.cons .int (.cons .int (.cons (.slice .int) (.cons (.cons .int (.cons .int .nil)) .nil))))))) (.cons (.cons .int (.cons .int (.cons .int (.cons .int (.cons .int (.cons (.slice .int) (.cons (.cons .int (.cons .int .nil)) .nil))))))) (.cons .bool .nil))) cs0.toList) (h1 : Has W (.cons .int (.cons .int (.cons .int (.cons .int (.cons .int (.cons (.slice .int) (.cons (.cons .int (.cons .int .nil)) .nil))))))) cs1.toList) : Calls Try.prog 14 #[.agg cs0, .agg cs1] W fun e W' => e = .returned (.bool true) ∧ Below W.heap.size W W' := by
  obtain ⟨l0, hl0⟩ : ∃ l, cs0.toList = l := ⟨_, rfl⟩
  rw [hl0] at h0
  obtain ⟨_, _, rfl, h0Active, h0_f0⟩ := has_struct h0
  obtain ⟨aBActivePage, _, rfl, baBActivePage, h0Active_f0⟩ := has_int h0Active
  obtain ⟨aBActiveCap, _, rfl, baBActiveCap, h0Active_f1⟩ := has_int h0Active_f0
  obtain ⟨aBActiveLimit, _, rfl, baBActiveLimit, h0Active_f2⟩ := has_int h0Active_f1
  obtain ⟨aBActiveLow, _, rfl, baBActiveLow, h0Active_f3⟩ := has_int h0Active_f2
  obtain ⟨aBActiveHigh, _, rfl, baBActiveHigh, h0Active_f4⟩ := has_int h0Active_f3
  obtain ⟨aBActiveWeightsO, aBActiveWeightsN, aBActiveWeightsC, _, rfl, hsaBActiveWeights, h0Active_f5⟩ := has_slice h0Active_f4
  obtain ⟨hnaBActiveWeights, aBActiveWeightsG, bGaBActiveWeights, hraBActiveWeights⟩ := row_of_has (s := 1) (.inl ⟨rfl, rfl⟩) (by omega) rfl hsaBActiveWeights
  obtain ⟨_, _, rfl, h0ActiveRule, h0Active_f6⟩ := has_struct h0Active_f5
  obtain ⟨aBActiveRuleDown, _, rfl, baBActiveRuleDown, h0ActiveRule_f0⟩ := has_int h0ActiveRule
  obtain ⟨aBActiveRuleSleep, _, rfl, baBActiveRuleSleep, h0ActiveRule_f1⟩ := has_int h0ActiveRule_f0
  obtain rfl := has_nil h0ActiveRule_f1
  obtain rfl := has_nil h0Active_f6
  obtain ⟨_, _, rfl, h0Next, h0_f1⟩ := has_struct h0_f0
  obtain ⟨aBNextPage, _, rfl, baBNextPage, h0Next_f0⟩ := has_int h0Next
  obtain ⟨aBNextCap, _, rfl, baBNextCap, h0Next_f1⟩ := has_int h0Next_f0
  obtain ⟨aBNextLimit, _, rfl, baBNextLimit, h0Next_f2⟩ := has_int h0Next_f1
  obtain ⟨aBNextLow, _, rfl, baBNextLow, h0Next_f3⟩ := has_int h0Next_f2
  obtain ⟨aBNextHigh, _, rfl, baBNextHigh, h0Next_f4⟩ := has_int h0Next_f3
  obtain ⟨aBNextWeightsO, aBNextWeightsN, aBNextWeightsC, _, rfl, hsaBNextWeights, h0Next_f5⟩ := has_slice h0Next_f4
  obtain ⟨hnaBNextWeights, aBNextWeightsG, bGaBNextWeights, hraBNextWeights⟩ := row_of_has (s := 1) (.inl ⟨rfl, rfl⟩) (by omega) rfl hsaBNextWeights
  obtain ⟨_, _, rfl, h0NextRule, h0Next_f6⟩ := has_struct h0Next_f5
  obtain ⟨aBNextRuleDown, _, rfl, baBNextRuleDown, h0NextRule_f0⟩ := has_int h0NextRule
  obtain ⟨aBNextRuleSleep, _, rfl, baBNextRuleSleep, h0NextRule_f1⟩ := has_int h0NextRule_f0
  obtain rfl := has_nil h0NextRule_f1
  obtain rfl := has_nil h0Next_f6
  obtain ⟨aBWaits, _, rfl, h0_f2⟩ := has_bool h0_f1
  obtain rfl := has_nil h0_f2
  rw [arr_of hl0]
  obtain ⟨l1, hl1⟩ : ∃ l, cs1.toList = l := ⟨_, rfl⟩
  rw [hl1] at h1
  obtain ⟨aPPage, _, rfl, baPPage, h1_f0⟩ := has_int h1
  obtain ⟨aPCap, _, rfl, baPCap, h1_f1⟩ := has_int h1_f0
  obtain ⟨aPLimit, _, rfl, baPLimit, h1_f2⟩ := has_int h1_f1
  obtain ⟨aPLow, _, rfl, baPLow, h1_f3⟩ := has_int h1_f2
  obtain ⟨aPHigh, _, rfl, baPHigh, h1_f4⟩ := has_int h1_f3
  obtain ⟨aPWeightsO, aPWeightsN, aPWeightsC, _, rfl, hsaPWeights, h1_f5⟩ := has_slice h1_f4
  obtain ⟨hnaPWeights, aPWeightsG, bGaPWeights, hraPWeights⟩ := row_of_has (s := 1) (.inl ⟨rfl, rfl⟩) (by omega) rfl hsaPWeights
  obtain ⟨_, _, rfl, h1Rule, h1_f6⟩ := has_struct h1_f5
  obtain ⟨aPRuleDown, _, rfl, baPRuleDown, h1Rule_f0⟩ := has_int h1Rule
  obtain ⟨aPRuleSleep, _, rfl, baPRuleSleep, h1Rule_f1⟩ := has_int h1Rule_f0
  obtain rfl := has_nil h1Rule_f1
  obtain rfl := has_nil h1_f6
  rw [arr_of hl1]
  exact law_FnExactBoxAsk_any (.agg #[.int .i64 aBActivePage, .int .i64 aBActiveCap, .int .i64 aBActiveLimit, .int .i64 aBActiveLow, .int .i64 aBActiveHigh, .slice aBActiveWeightsO aBActiveWeightsN aBActiveWeightsC, .int .i64 aBActiveRuleDown, .int .i64 aBActiveRuleSleep, .int .i64 aBNextPage, .int .i64 aBNextCap, .int .i64 aBNextLimit, .int .i64 aBNextLow, .int .i64 aBNextHigh, .slice aBNextWeightsO aBNextWeightsN aBNextWeightsC, .int .i64 aBNextRuleDown, .int .i64 aBNextRuleSleep, .bool aBWaits]) [⟨false, aBActiveWeightsO, 0, 1, aBActiveWeightsN, 0, [fun i => .int (aBActiveWeightsG 0 i)]⟩, ⟨false, aBNextWeightsO, 0, 1, aBNextWeightsN, 0, [fun i => .int (aBNextWeightsG 0 i)]⟩] (.agg #[.int .i64 aPPage, .int .i64 aPCap, .int .i64 aPLimit, .int .i64 aPLow, .int .i64 aPHigh, .slice aPWeightsO aPWeightsN aPWeightsC, .int .i64 aPRuleDown, .int .i64 aPRuleSleep]) [⟨false, aPWeightsO, 0, 1, aPWeightsN, 0, [fun i => .int (aPWeightsG 0 i)]⟩] W ⟨aBActivePage, aBActiveCap, aBActiveLimit, aBActiveLow, aBActiveHigh, aBActiveWeightsN, (aBActiveWeightsG 0), aBActiveRuleDown, aBActiveRuleSleep, aBNextPage, aBNextCap, aBNextLimit, aBNextLow, aBNextHigh, aBNextWeightsN, (aBNextWeightsG 0), aBNextRuleDown, aBNextRuleSleep, aBWaits⟩ ⟨_, _, _, _, _, _, _, _, _, _, rfl, rfl⟩ (rows_seen [⟨false, aBActiveWeightsO, 0, 1, aBActiveWeightsN, 0, [fun i => .int (aBActiveWeightsG 0 i)]⟩, ⟨false, aBNextWeightsO, 0, 1, aBNextWeightsN, 0, [fun i => .int (aBNextWeightsG 0 i)]⟩] (by simp; exact ⟨hraBActiveWeights, hraBNextWeights⟩)) ⟨hnaBActiveWeights, hnaBNextWeights⟩ ⟨baBActivePage, baBActiveCap, baBActiveLimit, baBActiveLow, baBActiveHigh, baBActiveRuleDown, baBActiveRuleSleep, baBNextPage, baBNextCap, baBNextLimit, baBNextLow, baBNextHigh, baBNextRuleDown, baBNextRuleSleep⟩ ⟨aPPage, aPCap, aPLimit, aPLow, aPHigh, aPWeightsN, (aPWeightsG 0), aPRuleDown, aPRuleSleep⟩ ⟨_, _, _, _, _, rfl, rfl⟩ (rows_seen [⟨false, aPWeightsO, 0, 1, aPWeightsN, 0, [fun i => .int (aPWeightsG 0 i)]⟩] (by simp; exact hraPWeights)) hnaPWeights ⟨baPPage, baPCap, baPLimit, baPLow, baPHigh, baPRuleDown, baPRuleSleep⟩
end Go.Proofs.Ytlkklplnomecgaa
