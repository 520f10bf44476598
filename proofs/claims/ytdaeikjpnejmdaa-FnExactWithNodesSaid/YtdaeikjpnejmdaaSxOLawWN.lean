/-
  Trees with other nodes.
-/
import Derived.Test.YtdaeikjpnejmdaaSxOTree
import Derived.Test.YtdaeikjpnejmdaaSxOpen
namespace Go.Proofs.Ytdaeikjpnejmdaa
open Go.RowKit
set_option maxRecDepth 100000

def withD (t old : TreeD) : TreeD := ⟨t.Root, old.MidN, old.Midg0, old.Midg1, old.LeafN, old.Leafg0, old.Leafg1⟩
theorem capWith {t old : TreeD} (h : capTree old) : capTree (withD t old) := h
def sWithO : Sm := fun args ch k =>
  match args with
  | [.a (.c (.obj i0 v0)), .a (.c (.obj i1 v1))] =>
    match ch[i0]?, ch[i1]? with
    | some (.obj _ r0), some (.obj _ r1) => ∃ (t : TreeD) (old : TreeD), (isTree v0 t r0 ∧ isTree v1 old r1 ∧ capTree old) ∧ ∀ (v' : Value) (rs' : List Row), isTree v' (withD t old) rs' → k (.a (.c (.obj ch.length v'))) (ch ++ [.obj true rs']) []
    | _, _ => False
  | _ => False
theorem sWithO_ok_impl_WithNodes : SmOK Try.prog 44 sWithO := by
  refine smN Try.call44 fun args ch k w X h0 hs => ?_
  unfold sWithO at h0
  split at h0
  · rename_i i0 v0 i1 v1
    split at h0
    · rename_i o0 r0 o1 r1 hi0 hi1
      obtain ⟨t, old, ⟨⟨_, _, _, _, _, _, _, _, _, _, rfl, rfl⟩, ⟨_, _, _, _, _, _, _, _, _, _, rfl, rfl⟩, hpre⟩, h0⟩ := h0
      have hw0 := hs.seeObj hi0
      have hw1 := hs.seeObj hi1
      simp only [List.map_cons, List.map_nil, den_a, den_c, SA.den, SC.den]
      refine Calls.mono (withI_any t.Root _ t.MidN _ t.Midg0 t.Midg1 _ t.LeafN _ t.Leafg0 t.Leafg1 old.Root _ old.MidN _ old.Midg0 old.Midg1 _ old.LeafN _ old.Leafg0 old.Leafg1 w (Row.seenAs (hw0 _ (mem0)).2 rfl rfl) (Row.seenAs (hw0 _ ((memS mem0))).2 rfl rfl) (Row.seenAs (hw1 _ (mem0)).2 rfl rfl) (Row.seenAs (hw1 _ ((memS mem0))).2 rfl rfl) hpre) fun e w' ⟨ro0, rc0, ro1, rc1, he, hs'⟩ => ⟨_, [.obj true _], ?_, hs'.pack (rs := [_, _]) (by simp), rfl, h0 _ _ ⟨ro0, ro1, rc0, _, _, rc1, _, _, _, _, rfl, rfl⟩⟩
      rw [he]
      rfl
    · exact h0.elim
  · exact h0.elim
theorem sWithO_ok_spec_WithNodes : SmOK Try.prog 42 sWithO := by
  refine smN Try.call42 fun args ch k w X h0 hs => ?_
  unfold sWithO at h0
  split at h0
  · rename_i i0 v0 i1 v1
    split at h0
    · rename_i o0 r0 o1 r1 hi0 hi1
      obtain ⟨t, old, ⟨⟨_, _, _, _, _, _, _, _, _, _, rfl, rfl⟩, ⟨_, _, _, _, _, _, _, _, _, _, rfl, rfl⟩, hpre⟩, h0⟩ := h0
      have hw0 := hs.seeObj hi0
      have hw1 := hs.seeObj hi1
      simp only [List.map_cons, List.map_nil, den_a, den_c, SA.den, SC.den]
      refine Calls.mono (withS_any t.Root _ t.MidN _ t.Midg0 t.Midg1 _ t.LeafN _ t.Leafg0 t.Leafg1 old.Root _ old.MidN _ old.Midg0 old.Midg1 _ old.LeafN _ old.Leafg0 old.Leafg1 w (Row.seenAs (hw0 _ (mem0)).2 rfl rfl) (Row.seenAs (hw0 _ ((memS mem0))).2 rfl rfl) (Row.seenAs (hw1 _ (mem0)).2 rfl rfl) (Row.seenAs (hw1 _ ((memS mem0))).2 rfl rfl) hpre) fun e w' ⟨ro0, rc0, ro1, rc1, he, hs'⟩ => ⟨_, [.obj true _], ?_, hs'.pack (rs := [_, _]) (by simp), rfl, h0 _ _ ⟨ro0, ro1, rc0, _, _, rc1, _, _, _, _, rfl, rfl⟩⟩
      rw [he]
      rfl
    · exact h0.elim
  · exact h0.elim
theorem law_FnExactWithNodes_T (v0 : Value) (rs0 : List Row) (v1 : Value) (rs1 : List Row) : (exFn Try.prog {tb := [(43, sToTreeO), (45, sEqTreeO), (46, sMarkTreeO), (47, sHeldTreeO), (41, sSzTreeO), (44, sWithO), (42, sWithO)]} 400 Try.f9 ([.a (.c (.obj 0 v0)), .a (.c (.obj 1 v1))]) ([.obj false rs0, .obj false rs1]) (fun v _ => v.den = .bool true)) = (
  ((wholeC Bool.true v0 3) ∧
  (∀ b0 : Nat,
  ((wholeC Bool.true v1 3) ∧
  (∀ b1 : Nat,
  (b0 = b0 ∧
  (Exists (fun (x2 : TreeD) => (((isTree v0 x2 rs0) ∧
  ((lensTree x2) ∧
  (szK (1048576 : Int)))) ∧
  ((Value.bool Bool.true) = (Value.bool Bool.true) ∧
  (∀ z3 : Int,
  ((szO z3 (1048576 : Int)) →
  ((capTree x2) →
   (((decide (z3 < (0 : Int))) = Bool.true →
    (Value.bool Bool.true) = (Value.bool Bool.true)) ∧
    ((decide (z3 < (0 : Int))) = Bool.false →
    (b1 = b1 ∧
     (Exists (fun (x4 : TreeD) => (((isTree v1 x4 rs1) ∧
     ((lensTree x4) ∧
     (szK z3))) ∧
     ((Value.bool Bool.true) = (Value.bool Bool.true) ∧
     (∀ z5 : Int,
     ((szO z5 z3) →
     ((capTree x4) →
      (((decide (z5 < (0 : Int))) = Bool.true →
       (Value.bool Bool.true) = (Value.bool Bool.true)) ∧
       ((decide (z5 < (0 : Int))) = Bool.false →
       (b0 = b0 ∧
        (b1 = b1 ∧
        ((Exists (fun (x6 : TreeD) => (((isTree v0 x6 rs0) ∧
        (capTree x6)) ∧
        (∀ v'7 : Value,
        (∀ rs'8 : (List Row),
        ((isTree v'7 x6 rs'8) →
        (True ∧
         ((Exists (fun (x9 : TreeD) => (((isTree v1 x9 rs1) ∧
         (capTree x9)) ∧
         (∀ v'10 : Value,
         (∀ rs'11 : (List Row),
         ((isTree v'10 x9 rs'11) →
         (True ∧
          ((Exists (fun (t12 : TreeD) => (Exists (fun (old13 : TreeD) => (((isTree v'7 t12 rs'8) ∧
          ((isTree v'10 old13 rs'11) ∧
          (capTree old13))) ∧
          (∀ v'14 : Value,
          (∀ rs'15 : (List Row),
          ((isTree v'14 (withD t12 old13) rs'15) →
          (True ∧
           (∀ b16 : Nat,
           (True ∧
           ((b16 = b16 ∧
           (wholeC Bool.true v'14 3)) ∧
           (True ∧
           (b0 = b0 ∧
           (Exists (fun (x17 : TreeD) => (((isTree v0 x17 rs0) ∧
           (capTree x17)) ∧
           (∀ v'18 : Value,
           (∀ rs'19 : (List Row),
           ((isTree v'18 x17 rs'19) →
           (∀ b20 : Nat,
            ((b20 = b20 ∧
            (wholeC Bool.true v'18 3)) ∧
            (b1 = b1 ∧
            (Exists (fun (x21 : TreeD) => (((isTree v1 x21 rs1) ∧
            (capTree x21)) ∧
            (∀ v'22 : Value,
            (∀ rs'23 : (List Row),
            ((isTree v'22 x21 rs'23) →
            (∀ b24 : Nat,
             ((b24 = b24 ∧
             (wholeC Bool.true v'22 3)) ∧
             (b20 = b20 ∧
             (b24 = b24 ∧
             (Exists (fun (t25 : TreeD) => (Exists (fun (old26 : TreeD) => (((isTree v'18 t25 rs'19) ∧
             ((isTree v'22 old26 rs'23) ∧
             (capTree old26))) ∧
             (∀ v'27 : Value,
             (∀ rs'28 : (List Row),
             ((isTree v'27 (withD t25 old26) rs'28) →
             (∀ b29 : Nat,
              ((b29 = b29 ∧
              (wholeC Bool.true v'27 3)) ∧
              (b29 = b29 ∧
              (b16 = b16 ∧
              (Exists (fun (x30 : TreeD) => (((isTree v'27 x30 rs'28) ∧
              ((isTree v'14 x30 rs'15) ∧
              (capTree x30))) ∧
              (b20 = b20 ∧
              (b0 = b0 ∧
              (Exists (fun (x31 : TreeD) => (((isTree v0 x31 rs0) ∧
              (capTree x31)) ∧
              (∀ v'32 : Value,
              (∀ rs'33 : (List Row),
              ((isTree v'32 x31 rs'33) →
              (True ∧
               (Exists (fun (x34 : TreeD) => (((isTree v'18 x34 rs'19) ∧
               ((isTree v'32 x34 rs'33) ∧
               (capTree x34))) ∧
               (True ∧
               (b24 = b24 ∧
               (b1 = b1 ∧
               (Exists (fun (x35 : TreeD) => (((isTree v1 x35 rs1) ∧
               (capTree x35)) ∧
               (∀ v'36 : Value,
               (∀ rs'37 : (List Row),
               ((isTree v'36 x35 rs'37) →
               (True ∧
                (Exists (fun (x38 : TreeD) => (((isTree v'22 x38 rs'23) ∧
                ((isTree v'36 x38 rs'37) ∧
                (capTree x38))) ∧
                (True ∧
                (b20 = b20 ∧
                (Exists (fun (x39 : TreeD) => (((isTree v'18 x39 rs'19) ∧
                ((capTree x39) ∧
                (mrkC (1 : Int)))) ∧
                ((endC (1 : Int) (endTree (1 : Int) x39) (33554432 : Int)) →
                (∀ rs'40 : (List Row),
                 ((isTree v'18 (markTreeD (1 : Int) x39) rs'40) →
                 (b24 = b24 ∧
                  (Exists (fun (x41 : TreeD) => (((isTree v'22 x41 rs'23) ∧
                  ((capTree x41) ∧
                  (mrkC (endTree (1 : Int) x39)))) ∧
                  ((endC (endTree (1 : Int) x39) (endTree (endTree (1 : Int) x39) x41) (33554432 : Int)) →
                  (∀ rs'42 : (List Row),
                   ((isTree v'22 (markTreeD (endTree (1 : Int) x39) x41) rs'42) →
                   (((decide ((endTree (endTree (1 : Int) x39) x41) < (0 : Int))) = Bool.false →
                    (b29 = b29 ∧
                     (b16 = b16 ∧
                     (Exists (fun (x43 : TreeD) => (((isTree v'27 x43 rs'28) ∧
                     ((isTree v'14 x43 rs'15) ∧
                     (capTree x43))) ∧
                     (b29 = b29 ∧
                     (Exists (fun (x44 : TreeD) => (((isTree v'27 x44 rs'28) ∧
                     ((capTree x44) ∧
                     (mrkC (1 : Int)))) ∧
                     ((endC (1 : Int) (endTree (1 : Int) x44) (33554432 : Int)) →
                     (∀ rs'45 : (List Row),
                      ((isTree v'27 (markTreeD (1 : Int) x44) rs'45) →
                      (b29 = b29 ∧
                       (Exists (fun (x46 : TreeD) => (((isTree v'27 (markTreeD (1 : Int) x46) rs'45) ∧
                       ((capTree x46) ∧
                       (mrkC (1 : Int)))) ∧
                       (((decide ((endTree (1 : Int) x46) < (0 : Int))) = Bool.true →
                       (Value.bool Bool.false) = (Value.bool Bool.true)) ∧
                       ((decide ((endTree (1 : Int) x46) < (0 : Int))) = Bool.false →
                       ((((endTree (1 : Int) x46) != (endTree (1 : Int) x44)) = Bool.true →
                        (Value.bool Bool.false) = (Value.bool Bool.true)) ∧
                        (((endTree (1 : Int) x46) != (endTree (1 : Int) x44)) = Bool.false →
                        (b0 = b0 ∧
                         (b1 = b1 ∧
                         ((Exists (fun (x47 : TreeD) => (((isTree v0 x47 rs0) ∧
                         (capTree x47)) ∧
                         (∀ v'48 : Value,
                         (∀ rs'49 : (List Row),
                         ((isTree v'48 x47 rs'49) →
                         (True ∧
                          ((Exists (fun (x50 : TreeD) => (((isTree v1 x50 rs1) ∧
                          (capTree x50)) ∧
                          (∀ v'51 : Value,
                          (∀ rs'52 : (List Row),
                          ((isTree v'51 x50 rs'52) →
                          (True ∧
                           ((Exists (fun (t53 : TreeD) => (Exists (fun (old54 : TreeD) => (((isTree v'48 t53 rs'49) ∧
                           ((isTree v'51 old54 rs'52) ∧
                           (capTree old54))) ∧
                           (∀ v'55 : Value,
                           (∀ rs'56 : (List Row),
                           ((isTree v'55 (withD t53 old54) rs'56) →
                           (True ∧
                            (∀ b57 : Nat,
                            (True ∧
                            ((b57 = b57 ∧
                            (wholeC Bool.true v'55 3)) ∧
                            (True ∧
                            (b57 = b57 ∧
                            (b16 = b16 ∧
                            (Exists (fun (x58 : TreeD) => (((isTree v'55 x58 rs'56) ∧
                            ((isTree v'14 x58 rs'15) ∧
                            (capTree x58))) ∧
                            (b29 = b29 ∧
                            (Exists (fun (x59 : TreeD) => (((isTree v'27 (markTreeD (1 : Int) x59) rs'45) ∧
                            ((capTree x59) ∧
                            (mrkC (1 : Int)))) ∧
                            (((decide ((endTree (1 : Int) x59) < (0 : Int))) = Bool.true →
                            (Value.bool Bool.false) = (Value.bool Bool.true)) ∧
                            ((decide ((endTree (1 : Int) x59) < (0 : Int))) = Bool.false →
                            ((((endTree (1 : Int) x59) != (endTree (1 : Int) x44)) = Bool.true →
                             (Value.bool Bool.false) = (Value.bool Bool.true)) ∧
                             (((endTree (1 : Int) x59) != (endTree (1 : Int) x44)) = Bool.false →
                             (Value.bool Bool.true) = (Value.bool Bool.true))))))))))))))))))))))))))) ∧
                           (∀ b60 : Nat,
                           (True ∧
                           (Exists (fun (t61 : TreeD) => (Exists (fun (old62 : TreeD) => (((isTree v'48 t61 rs'49) ∧
                           ((isTree v'51 old62 rs'52) ∧
                           (capTree old62))) ∧
                           (∀ v'63 : Value,
                           (∀ rs'64 : (List Row),
                           ((isTree v'63 (withD t61 old62) rs'64) →
                           (True ∧
                            ((b60 = b60 ∧
                            (wholeC Bool.true v'63 3)) ∧
                            (True ∧
                            (b60 = b60 ∧
                            (b16 = b16 ∧
                            (Exists (fun (x65 : TreeD) => (((isTree v'63 x65 rs'64) ∧
                            ((isTree v'14 x65 rs'15) ∧
                            (capTree x65))) ∧
                            (b29 = b29 ∧
                            (Exists (fun (x66 : TreeD) => (((isTree v'27 (markTreeD (1 : Int) x66) rs'45) ∧
                            ((capTree x66) ∧
                            (mrkC (1 : Int)))) ∧
                            (((decide ((endTree (1 : Int) x66) < (0 : Int))) = Bool.true →
                            (Value.bool Bool.false) = (Value.bool Bool.true)) ∧
                            ((decide ((endTree (1 : Int) x66) < (0 : Int))) = Bool.false →
                            ((((endTree (1 : Int) x66) != (endTree (1 : Int) x44)) = Bool.true →
                             (Value.bool Bool.false) = (Value.bool Bool.true)) ∧
                             (((endTree (1 : Int) x66) != (endTree (1 : Int) x44)) = Bool.false →
                             (Value.bool Bool.true) = (Value.bool Bool.true))))))))))))))))))))))))))))))))))) ∧
                          (∀ b67 : Nat,
                          (True ∧
                          (Exists (fun (x68 : TreeD) => (((isTree v1 x68 rs1) ∧
                          (capTree x68)) ∧
                          (∀ v'69 : Value,
                          (∀ rs'70 : (List Row),
                          ((isTree v'69 x68 rs'70) →
                          (True ∧
                           (Exists (fun (t71 : TreeD) => (Exists (fun (old72 : TreeD) => (((isTree v'48 t71 rs'49) ∧
                           ((isTree v'69 old72 rs'70) ∧
                           (capTree old72))) ∧
                           (∀ v'73 : Value,
                           (∀ rs'74 : (List Row),
                           ((isTree v'73 (withD t71 old72) rs'74) →
                           (True ∧
                            ((b67 = b67 ∧
                            (wholeC Bool.true v'73 3)) ∧
                            (True ∧
                            (b67 = b67 ∧
                            (b16 = b16 ∧
                            (Exists (fun (x75 : TreeD) => (((isTree v'73 x75 rs'74) ∧
                            ((isTree v'14 x75 rs'15) ∧
                            (capTree x75))) ∧
                            (b29 = b29 ∧
                            (Exists (fun (x76 : TreeD) => (((isTree v'27 (markTreeD (1 : Int) x76) rs'45) ∧
                            ((capTree x76) ∧
                            (mrkC (1 : Int)))) ∧
                            (((decide ((endTree (1 : Int) x76) < (0 : Int))) = Bool.true →
                            (Value.bool Bool.false) = (Value.bool Bool.true)) ∧
                            ((decide ((endTree (1 : Int) x76) < (0 : Int))) = Bool.false →
                            ((((endTree (1 : Int) x76) != (endTree (1 : Int) x44)) = Bool.true →
                             (Value.bool Bool.false) = (Value.bool Bool.true)) ∧
                             (((endTree (1 : Int) x76) != (endTree (1 : Int) x44)) = Bool.false →
                             (Value.bool Bool.true) = (Value.bool Bool.true)))))))))))))))))))))))))))))))))))))))))) ∧
                         (∀ b77 : Nat,
                         (True ∧
                         (Exists (fun (x78 : TreeD) => (((isTree v0 x78 rs0) ∧
                         (capTree x78)) ∧
                         (∀ v'79 : Value,
                         (∀ rs'80 : (List Row),
                         ((isTree v'79 x78 rs'80) →
                         (True ∧
                          (Exists (fun (x81 : TreeD) => (((isTree v1 x81 rs1) ∧
                          (capTree x81)) ∧
                          (∀ v'82 : Value,
                          (∀ rs'83 : (List Row),
                          ((isTree v'82 x81 rs'83) →
                          (True ∧
                           (Exists (fun (t84 : TreeD) => (Exists (fun (old85 : TreeD) => (((isTree v'79 t84 rs'80) ∧
                           ((isTree v'82 old85 rs'83) ∧
                           (capTree old85))) ∧
                           (∀ v'86 : Value,
                           (∀ rs'87 : (List Row),
                           ((isTree v'86 (withD t84 old85) rs'87) →
                           (True ∧
                            ((b77 = b77 ∧
                            (wholeC Bool.true v'86 3)) ∧
                            (True ∧
                            (b77 = b77 ∧
                            (b16 = b16 ∧
                            (Exists (fun (x88 : TreeD) => (((isTree v'86 x88 rs'87) ∧
                            ((isTree v'14 x88 rs'15) ∧
                            (capTree x88))) ∧
                            (b29 = b29 ∧
                            (Exists (fun (x89 : TreeD) => (((isTree v'27 (markTreeD (1 : Int) x89) rs'45) ∧
                            ((capTree x89) ∧
                            (mrkC (1 : Int)))) ∧
                            (((decide ((endTree (1 : Int) x89) < (0 : Int))) = Bool.true →
                            (Value.bool Bool.false) = (Value.bool Bool.true)) ∧
                            ((decide ((endTree (1 : Int) x89) < (0 : Int))) = Bool.false →
                            ((((endTree (1 : Int) x89) != (endTree (1 : Int) x44)) = Bool.true →
                             (Value.bool Bool.false) = (Value.bool Bool.true)) ∧
                             (((endTree (1 : Int) x89) != (endTree (1 : Int) x44)) = Bool.false →
                             (Value.bool Bool.true) = (Value.bool Bool.true))))))))))))))))))))))))))))))))))))))))))))))))))))))))))))))))) ∧
                    ((decide ((endTree (endTree (1 : Int) x39) x41) < (0 : Int))) = Bool.true →
                    (Value.bool Bool.false) = (Value.bool Bool.true))))))))))))))))))))))))))))))))))))))))))))))))))))))))))))))))))))))))))))))))))))))))))) ∧
          (∀ b90 : Nat,
          (True ∧
          (Exists (fun (t91 : TreeD) => (Exists (fun (old92 : TreeD) => (((isTree v'7 t91 rs'8) ∧
          ((isTree v'10 old92 rs'11) ∧
          (capTree old92))) ∧
          (∀ v'93 : Value,
          (∀ rs'94 : (List Row),
          ((isTree v'93 (withD t91 old92) rs'94) →
          (True ∧
           ((b90 = b90 ∧
           (wholeC Bool.true v'93 3)) ∧
           (True ∧
           (b0 = b0 ∧
           (Exists (fun (x95 : TreeD) => (((isTree v0 x95 rs0) ∧
           (capTree x95)) ∧
           (∀ v'96 : Value,
           (∀ rs'97 : (List Row),
           ((isTree v'96 x95 rs'97) →
           (∀ b98 : Nat,
            ((b98 = b98 ∧
            (wholeC Bool.true v'96 3)) ∧
            (b1 = b1 ∧
            (Exists (fun (x99 : TreeD) => (((isTree v1 x99 rs1) ∧
            (capTree x99)) ∧
            (∀ v'100 : Value,
            (∀ rs'101 : (List Row),
            ((isTree v'100 x99 rs'101) →
            (∀ b102 : Nat,
             ((b102 = b102 ∧
             (wholeC Bool.true v'100 3)) ∧
             (b98 = b98 ∧
             (b102 = b102 ∧
             (Exists (fun (t103 : TreeD) => (Exists (fun (old104 : TreeD) => (((isTree v'96 t103 rs'97) ∧
             ((isTree v'100 old104 rs'101) ∧
             (capTree old104))) ∧
             (∀ v'105 : Value,
             (∀ rs'106 : (List Row),
             ((isTree v'105 (withD t103 old104) rs'106) →
             (∀ b107 : Nat,
              ((b107 = b107 ∧
              (wholeC Bool.true v'105 3)) ∧
              (b107 = b107 ∧
              (b90 = b90 ∧
              (Exists (fun (x108 : TreeD) => (((isTree v'105 x108 rs'106) ∧
              ((isTree v'93 x108 rs'94) ∧
              (capTree x108))) ∧
              (b98 = b98 ∧
              (b0 = b0 ∧
              (Exists (fun (x109 : TreeD) => (((isTree v0 x109 rs0) ∧
              (capTree x109)) ∧
              (∀ v'110 : Value,
              (∀ rs'111 : (List Row),
              ((isTree v'110 x109 rs'111) →
              (True ∧
               (Exists (fun (x112 : TreeD) => (((isTree v'96 x112 rs'97) ∧
               ((isTree v'110 x112 rs'111) ∧
               (capTree x112))) ∧
               (True ∧
               (b102 = b102 ∧
               (b1 = b1 ∧
               (Exists (fun (x113 : TreeD) => (((isTree v1 x113 rs1) ∧
               (capTree x113)) ∧
               (∀ v'114 : Value,
               (∀ rs'115 : (List Row),
               ((isTree v'114 x113 rs'115) →
               (True ∧
                (Exists (fun (x116 : TreeD) => (((isTree v'100 x116 rs'101) ∧
                ((isTree v'114 x116 rs'115) ∧
                (capTree x116))) ∧
                (True ∧
                (b98 = b98 ∧
                (Exists (fun (x117 : TreeD) => (((isTree v'96 x117 rs'97) ∧
                ((capTree x117) ∧
                (mrkC (1 : Int)))) ∧
                ((endC (1 : Int) (endTree (1 : Int) x117) (33554432 : Int)) →
                (∀ rs'118 : (List Row),
                 ((isTree v'96 (markTreeD (1 : Int) x117) rs'118) →
                 (b102 = b102 ∧
                  (Exists (fun (x119 : TreeD) => (((isTree v'100 x119 rs'101) ∧
                  ((capTree x119) ∧
                  (mrkC (endTree (1 : Int) x117)))) ∧
                  ((endC (endTree (1 : Int) x117) (endTree (endTree (1 : Int) x117) x119) (33554432 : Int)) →
                  (∀ rs'120 : (List Row),
                   ((isTree v'100 (markTreeD (endTree (1 : Int) x117) x119) rs'120) →
                   (((decide ((endTree (endTree (1 : Int) x117) x119) < (0 : Int))) = Bool.false →
                    (b107 = b107 ∧
                     (b90 = b90 ∧
                     (Exists (fun (x121 : TreeD) => (((isTree v'105 x121 rs'106) ∧
                     ((isTree v'93 x121 rs'94) ∧
                     (capTree x121))) ∧
                     (b107 = b107 ∧
                     (Exists (fun (x122 : TreeD) => (((isTree v'105 x122 rs'106) ∧
                     ((capTree x122) ∧
                     (mrkC (1 : Int)))) ∧
                     ((endC (1 : Int) (endTree (1 : Int) x122) (33554432 : Int)) →
                     (∀ rs'123 : (List Row),
                      ((isTree v'105 (markTreeD (1 : Int) x122) rs'123) →
                      (b107 = b107 ∧
                       (Exists (fun (x124 : TreeD) => (((isTree v'105 (markTreeD (1 : Int) x124) rs'123) ∧
                       ((capTree x124) ∧
                       (mrkC (1 : Int)))) ∧
                       (((decide ((endTree (1 : Int) x124) < (0 : Int))) = Bool.true →
                       (Value.bool Bool.false) = (Value.bool Bool.true)) ∧
                       ((decide ((endTree (1 : Int) x124) < (0 : Int))) = Bool.false →
                       ((((endTree (1 : Int) x124) != (endTree (1 : Int) x122)) = Bool.true →
                        (Value.bool Bool.false) = (Value.bool Bool.true)) ∧
                        (((endTree (1 : Int) x124) != (endTree (1 : Int) x122)) = Bool.false →
                        (b0 = b0 ∧
                         (b1 = b1 ∧
                         ((Exists (fun (x125 : TreeD) => (((isTree v0 x125 rs0) ∧
                         (capTree x125)) ∧
                         (∀ v'126 : Value,
                         (∀ rs'127 : (List Row),
                         ((isTree v'126 x125 rs'127) →
                         (True ∧
                          ((Exists (fun (x128 : TreeD) => (((isTree v1 x128 rs1) ∧
                          (capTree x128)) ∧
                          (∀ v'129 : Value,
                          (∀ rs'130 : (List Row),
                          ((isTree v'129 x128 rs'130) →
                          (True ∧
                           ((Exists (fun (t131 : TreeD) => (Exists (fun (old132 : TreeD) => (((isTree v'126 t131 rs'127) ∧
                           ((isTree v'129 old132 rs'130) ∧
                           (capTree old132))) ∧
                           (∀ v'133 : Value,
                           (∀ rs'134 : (List Row),
                           ((isTree v'133 (withD t131 old132) rs'134) →
                           (True ∧
                            (∀ b135 : Nat,
                            (True ∧
                            ((b135 = b135 ∧
                            (wholeC Bool.true v'133 3)) ∧
                            (True ∧
                            (b135 = b135 ∧
                            (b90 = b90 ∧
                            (Exists (fun (x136 : TreeD) => (((isTree v'133 x136 rs'134) ∧
                            ((isTree v'93 x136 rs'94) ∧
                            (capTree x136))) ∧
                            (b107 = b107 ∧
                            (Exists (fun (x137 : TreeD) => (((isTree v'105 (markTreeD (1 : Int) x137) rs'123) ∧
                            ((capTree x137) ∧
                            (mrkC (1 : Int)))) ∧
                            (((decide ((endTree (1 : Int) x137) < (0 : Int))) = Bool.true →
                            (Value.bool Bool.false) = (Value.bool Bool.true)) ∧
                            ((decide ((endTree (1 : Int) x137) < (0 : Int))) = Bool.false →
                            ((((endTree (1 : Int) x137) != (endTree (1 : Int) x122)) = Bool.true →
                             (Value.bool Bool.false) = (Value.bool Bool.true)) ∧
                             (((endTree (1 : Int) x137) != (endTree (1 : Int) x122)) = Bool.false →
                             (Value.bool Bool.true) = (Value.bool Bool.true))))))))))))))))))))))))))) ∧
                           (∀ b138 : Nat,
                           (True ∧
                           (Exists (fun (t139 : TreeD) => (Exists (fun (old140 : TreeD) => (((isTree v'126 t139 rs'127) ∧
                           ((isTree v'129 old140 rs'130) ∧
                           (capTree old140))) ∧
                           (∀ v'141 : Value,
                           (∀ rs'142 : (List Row),
                           ((isTree v'141 (withD t139 old140) rs'142) →
                           (True ∧
                            ((b138 = b138 ∧
                            (wholeC Bool.true v'141 3)) ∧
                            (True ∧
                            (b138 = b138 ∧
                            (b90 = b90 ∧
                            (Exists (fun (x143 : TreeD) => (((isTree v'141 x143 rs'142) ∧
                            ((isTree v'93 x143 rs'94) ∧
                            (capTree x143))) ∧
                            (b107 = b107 ∧
                            (Exists (fun (x144 : TreeD) => (((isTree v'105 (markTreeD (1 : Int) x144) rs'123) ∧
                            ((capTree x144) ∧
                            (mrkC (1 : Int)))) ∧
                            (((decide ((endTree (1 : Int) x144) < (0 : Int))) = Bool.true →
                            (Value.bool Bool.false) = (Value.bool Bool.true)) ∧
                            ((decide ((endTree (1 : Int) x144) < (0 : Int))) = Bool.false →
                            ((((endTree (1 : Int) x144) != (endTree (1 : Int) x122)) = Bool.true →
                             (Value.bool Bool.false) = (Value.bool Bool.true)) ∧
                             (((endTree (1 : Int) x144) != (endTree (1 : Int) x122)) = Bool.false →
                             (Value.bool Bool.true) = (Value.bool Bool.true))))))))))))))))))))))))))))))))))) ∧
                          (∀ b145 : Nat,
                          (True ∧
                          (Exists (fun (x146 : TreeD) => (((isTree v1 x146 rs1) ∧
                          (capTree x146)) ∧
                          (∀ v'147 : Value,
                          (∀ rs'148 : (List Row),
                          ((isTree v'147 x146 rs'148) →
                          (True ∧
                           (Exists (fun (t149 : TreeD) => (Exists (fun (old150 : TreeD) => (((isTree v'126 t149 rs'127) ∧
                           ((isTree v'147 old150 rs'148) ∧
                           (capTree old150))) ∧
                           (∀ v'151 : Value,
                           (∀ rs'152 : (List Row),
                           ((isTree v'151 (withD t149 old150) rs'152) →
                           (True ∧
                            ((b145 = b145 ∧
                            (wholeC Bool.true v'151 3)) ∧
                            (True ∧
                            (b145 = b145 ∧
                            (b90 = b90 ∧
                            (Exists (fun (x153 : TreeD) => (((isTree v'151 x153 rs'152) ∧
                            ((isTree v'93 x153 rs'94) ∧
                            (capTree x153))) ∧
                            (b107 = b107 ∧
                            (Exists (fun (x154 : TreeD) => (((isTree v'105 (markTreeD (1 : Int) x154) rs'123) ∧
                            ((capTree x154) ∧
                            (mrkC (1 : Int)))) ∧
                            (((decide ((endTree (1 : Int) x154) < (0 : Int))) = Bool.true →
                            (Value.bool Bool.false) = (Value.bool Bool.true)) ∧
                            ((decide ((endTree (1 : Int) x154) < (0 : Int))) = Bool.false →
                            ((((endTree (1 : Int) x154) != (endTree (1 : Int) x122)) = Bool.true →
                             (Value.bool Bool.false) = (Value.bool Bool.true)) ∧
                             (((endTree (1 : Int) x154) != (endTree (1 : Int) x122)) = Bool.false →
                             (Value.bool Bool.true) = (Value.bool Bool.true)))))))))))))))))))))))))))))))))))))))))) ∧
                         (∀ b155 : Nat,
                         (True ∧
                         (Exists (fun (x156 : TreeD) => (((isTree v0 x156 rs0) ∧
                         (capTree x156)) ∧
                         (∀ v'157 : Value,
                         (∀ rs'158 : (List Row),
                         ((isTree v'157 x156 rs'158) →
                         (True ∧
                          (Exists (fun (x159 : TreeD) => (((isTree v1 x159 rs1) ∧
                          (capTree x159)) ∧
                          (∀ v'160 : Value,
                          (∀ rs'161 : (List Row),
                          ((isTree v'160 x159 rs'161) →
                          (True ∧
                           (Exists (fun (t162 : TreeD) => (Exists (fun (old163 : TreeD) => (((isTree v'157 t162 rs'158) ∧
                           ((isTree v'160 old163 rs'161) ∧
                           (capTree old163))) ∧
                           (∀ v'164 : Value,
                           (∀ rs'165 : (List Row),
                           ((isTree v'164 (withD t162 old163) rs'165) →
                           (True ∧
                            ((b155 = b155 ∧
                            (wholeC Bool.true v'164 3)) ∧
                            (True ∧
                            (b155 = b155 ∧
                            (b90 = b90 ∧
                            (Exists (fun (x166 : TreeD) => (((isTree v'164 x166 rs'165) ∧
                            ((isTree v'93 x166 rs'94) ∧
                            (capTree x166))) ∧
                            (b107 = b107 ∧
                            (Exists (fun (x167 : TreeD) => (((isTree v'105 (markTreeD (1 : Int) x167) rs'123) ∧
                            ((capTree x167) ∧
                            (mrkC (1 : Int)))) ∧
                            (((decide ((endTree (1 : Int) x167) < (0 : Int))) = Bool.true →
                            (Value.bool Bool.false) = (Value.bool Bool.true)) ∧
                            ((decide ((endTree (1 : Int) x167) < (0 : Int))) = Bool.false →
                            ((((endTree (1 : Int) x167) != (endTree (1 : Int) x122)) = Bool.true →
                             (Value.bool Bool.false) = (Value.bool Bool.true)) ∧
                             (((endTree (1 : Int) x167) != (endTree (1 : Int) x122)) = Bool.false →
                             (Value.bool Bool.true) = (Value.bool Bool.true))))))))))))))))))))))))))))))))))))))))))))))))))))))))))))))))) ∧
                    ((decide ((endTree (endTree (1 : Int) x117) x119) < (0 : Int))) = Bool.true →
                    (Value.bool Bool.false) = (Value.bool Bool.true))))))))))))))))))))))))))))))))))))))))))))))))))))))))))))))))))))))))))))))))))))))))))))))))))) ∧
         (∀ b168 : Nat,
         (True ∧
         (Exists (fun (x169 : TreeD) => (((isTree v1 x169 rs1) ∧
         (capTree x169)) ∧
         (∀ v'170 : Value,
         (∀ rs'171 : (List Row),
         ((isTree v'170 x169 rs'171) →
         (True ∧
          (Exists (fun (t172 : TreeD) => (Exists (fun (old173 : TreeD) => (((isTree v'7 t172 rs'8) ∧
          ((isTree v'170 old173 rs'171) ∧
          (capTree old173))) ∧
          (∀ v'174 : Value,
          (∀ rs'175 : (List Row),
          ((isTree v'174 (withD t172 old173) rs'175) →
          (True ∧
           ((b168 = b168 ∧
           (wholeC Bool.true v'174 3)) ∧
           (True ∧
           (b0 = b0 ∧
           (Exists (fun (x176 : TreeD) => (((isTree v0 x176 rs0) ∧
           (capTree x176)) ∧
           (∀ v'177 : Value,
           (∀ rs'178 : (List Row),
           ((isTree v'177 x176 rs'178) →
           (∀ b179 : Nat,
            ((b179 = b179 ∧
            (wholeC Bool.true v'177 3)) ∧
            (b1 = b1 ∧
            (Exists (fun (x180 : TreeD) => (((isTree v1 x180 rs1) ∧
            (capTree x180)) ∧
            (∀ v'181 : Value,
            (∀ rs'182 : (List Row),
            ((isTree v'181 x180 rs'182) →
            (∀ b183 : Nat,
             ((b183 = b183 ∧
             (wholeC Bool.true v'181 3)) ∧
             (b179 = b179 ∧
             (b183 = b183 ∧
             (Exists (fun (t184 : TreeD) => (Exists (fun (old185 : TreeD) => (((isTree v'177 t184 rs'178) ∧
             ((isTree v'181 old185 rs'182) ∧
             (capTree old185))) ∧
             (∀ v'186 : Value,
             (∀ rs'187 : (List Row),
             ((isTree v'186 (withD t184 old185) rs'187) →
             (∀ b188 : Nat,
              ((b188 = b188 ∧
              (wholeC Bool.true v'186 3)) ∧
              (b188 = b188 ∧
              (b168 = b168 ∧
              (Exists (fun (x189 : TreeD) => (((isTree v'186 x189 rs'187) ∧
              ((isTree v'174 x189 rs'175) ∧
              (capTree x189))) ∧
              (b179 = b179 ∧
              (b0 = b0 ∧
              (Exists (fun (x190 : TreeD) => (((isTree v0 x190 rs0) ∧
              (capTree x190)) ∧
              (∀ v'191 : Value,
              (∀ rs'192 : (List Row),
              ((isTree v'191 x190 rs'192) →
              (True ∧
               (Exists (fun (x193 : TreeD) => (((isTree v'177 x193 rs'178) ∧
               ((isTree v'191 x193 rs'192) ∧
               (capTree x193))) ∧
               (True ∧
               (b183 = b183 ∧
               (b1 = b1 ∧
               (Exists (fun (x194 : TreeD) => (((isTree v1 x194 rs1) ∧
               (capTree x194)) ∧
               (∀ v'195 : Value,
               (∀ rs'196 : (List Row),
               ((isTree v'195 x194 rs'196) →
               (True ∧
                (Exists (fun (x197 : TreeD) => (((isTree v'181 x197 rs'182) ∧
                ((isTree v'195 x197 rs'196) ∧
                (capTree x197))) ∧
                (True ∧
                (b179 = b179 ∧
                (Exists (fun (x198 : TreeD) => (((isTree v'177 x198 rs'178) ∧
                ((capTree x198) ∧
                (mrkC (1 : Int)))) ∧
                ((endC (1 : Int) (endTree (1 : Int) x198) (33554432 : Int)) →
                (∀ rs'199 : (List Row),
                 ((isTree v'177 (markTreeD (1 : Int) x198) rs'199) →
                 (b183 = b183 ∧
                  (Exists (fun (x200 : TreeD) => (((isTree v'181 x200 rs'182) ∧
                  ((capTree x200) ∧
                  (mrkC (endTree (1 : Int) x198)))) ∧
                  ((endC (endTree (1 : Int) x198) (endTree (endTree (1 : Int) x198) x200) (33554432 : Int)) →
                  (∀ rs'201 : (List Row),
                   ((isTree v'181 (markTreeD (endTree (1 : Int) x198) x200) rs'201) →
                   (((decide ((endTree (endTree (1 : Int) x198) x200) < (0 : Int))) = Bool.false →
                    (b188 = b188 ∧
                     (b168 = b168 ∧
                     (Exists (fun (x202 : TreeD) => (((isTree v'186 x202 rs'187) ∧
                     ((isTree v'174 x202 rs'175) ∧
                     (capTree x202))) ∧
                     (b188 = b188 ∧
                     (Exists (fun (x203 : TreeD) => (((isTree v'186 x203 rs'187) ∧
                     ((capTree x203) ∧
                     (mrkC (1 : Int)))) ∧
                     ((endC (1 : Int) (endTree (1 : Int) x203) (33554432 : Int)) →
                     (∀ rs'204 : (List Row),
                      ((isTree v'186 (markTreeD (1 : Int) x203) rs'204) →
                      (b188 = b188 ∧
                       (Exists (fun (x205 : TreeD) => (((isTree v'186 (markTreeD (1 : Int) x205) rs'204) ∧
                       ((capTree x205) ∧
                       (mrkC (1 : Int)))) ∧
                       (((decide ((endTree (1 : Int) x205) < (0 : Int))) = Bool.true →
                       (Value.bool Bool.false) = (Value.bool Bool.true)) ∧
                       ((decide ((endTree (1 : Int) x205) < (0 : Int))) = Bool.false →
                       ((((endTree (1 : Int) x205) != (endTree (1 : Int) x203)) = Bool.true →
                        (Value.bool Bool.false) = (Value.bool Bool.true)) ∧
                        (((endTree (1 : Int) x205) != (endTree (1 : Int) x203)) = Bool.false →
                        (b0 = b0 ∧
                         (b1 = b1 ∧
                         ((Exists (fun (x206 : TreeD) => (((isTree v0 x206 rs0) ∧
                         (capTree x206)) ∧
                         (∀ v'207 : Value,
                         (∀ rs'208 : (List Row),
                         ((isTree v'207 x206 rs'208) →
                         (True ∧
                          ((Exists (fun (x209 : TreeD) => (((isTree v1 x209 rs1) ∧
                          (capTree x209)) ∧
                          (∀ v'210 : Value,
                          (∀ rs'211 : (List Row),
                          ((isTree v'210 x209 rs'211) →
                          (True ∧
                           ((Exists (fun (t212 : TreeD) => (Exists (fun (old213 : TreeD) => (((isTree v'207 t212 rs'208) ∧
                           ((isTree v'210 old213 rs'211) ∧
                           (capTree old213))) ∧
                           (∀ v'214 : Value,
                           (∀ rs'215 : (List Row),
                           ((isTree v'214 (withD t212 old213) rs'215) →
                           (True ∧
                            (∀ b216 : Nat,
                            (True ∧
                            ((b216 = b216 ∧
                            (wholeC Bool.true v'214 3)) ∧
                            (True ∧
                            (b216 = b216 ∧
                            (b168 = b168 ∧
                            (Exists (fun (x217 : TreeD) => (((isTree v'214 x217 rs'215) ∧
                            ((isTree v'174 x217 rs'175) ∧
                            (capTree x217))) ∧
                            (b188 = b188 ∧
                            (Exists (fun (x218 : TreeD) => (((isTree v'186 (markTreeD (1 : Int) x218) rs'204) ∧
                            ((capTree x218) ∧
                            (mrkC (1 : Int)))) ∧
                            (((decide ((endTree (1 : Int) x218) < (0 : Int))) = Bool.true →
                            (Value.bool Bool.false) = (Value.bool Bool.true)) ∧
                            ((decide ((endTree (1 : Int) x218) < (0 : Int))) = Bool.false →
                            ((((endTree (1 : Int) x218) != (endTree (1 : Int) x203)) = Bool.true →
                             (Value.bool Bool.false) = (Value.bool Bool.true)) ∧
                             (((endTree (1 : Int) x218) != (endTree (1 : Int) x203)) = Bool.false →
                             (Value.bool Bool.true) = (Value.bool Bool.true))))))))))))))))))))))))))) ∧
                           (∀ b219 : Nat,
                           (True ∧
                           (Exists (fun (t220 : TreeD) => (Exists (fun (old221 : TreeD) => (((isTree v'207 t220 rs'208) ∧
                           ((isTree v'210 old221 rs'211) ∧
                           (capTree old221))) ∧
                           (∀ v'222 : Value,
                           (∀ rs'223 : (List Row),
                           ((isTree v'222 (withD t220 old221) rs'223) →
                           (True ∧
                            ((b219 = b219 ∧
                            (wholeC Bool.true v'222 3)) ∧
                            (True ∧
                            (b219 = b219 ∧
                            (b168 = b168 ∧
                            (Exists (fun (x224 : TreeD) => (((isTree v'222 x224 rs'223) ∧
                            ((isTree v'174 x224 rs'175) ∧
                            (capTree x224))) ∧
                            (b188 = b188 ∧
                            (Exists (fun (x225 : TreeD) => (((isTree v'186 (markTreeD (1 : Int) x225) rs'204) ∧
                            ((capTree x225) ∧
                            (mrkC (1 : Int)))) ∧
                            (((decide ((endTree (1 : Int) x225) < (0 : Int))) = Bool.true →
                            (Value.bool Bool.false) = (Value.bool Bool.true)) ∧
                            ((decide ((endTree (1 : Int) x225) < (0 : Int))) = Bool.false →
                            ((((endTree (1 : Int) x225) != (endTree (1 : Int) x203)) = Bool.true →
                             (Value.bool Bool.false) = (Value.bool Bool.true)) ∧
                             (((endTree (1 : Int) x225) != (endTree (1 : Int) x203)) = Bool.false →
                             (Value.bool Bool.true) = (Value.bool Bool.true))))))))))))))))))))))))))))))))))) ∧
                          (∀ b226 : Nat,
                          (True ∧
                          (Exists (fun (x227 : TreeD) => (((isTree v1 x227 rs1) ∧
                          (capTree x227)) ∧
                          (∀ v'228 : Value,
                          (∀ rs'229 : (List Row),
                          ((isTree v'228 x227 rs'229) →
                          (True ∧
                           (Exists (fun (t230 : TreeD) => (Exists (fun (old231 : TreeD) => (((isTree v'207 t230 rs'208) ∧
                           ((isTree v'228 old231 rs'229) ∧
                           (capTree old231))) ∧
                           (∀ v'232 : Value,
                           (∀ rs'233 : (List Row),
                           ((isTree v'232 (withD t230 old231) rs'233) →
                           (True ∧
                            ((b226 = b226 ∧
                            (wholeC Bool.true v'232 3)) ∧
                            (True ∧
                            (b226 = b226 ∧
                            (b168 = b168 ∧
                            (Exists (fun (x234 : TreeD) => (((isTree v'232 x234 rs'233) ∧
                            ((isTree v'174 x234 rs'175) ∧
                            (capTree x234))) ∧
                            (b188 = b188 ∧
                            (Exists (fun (x235 : TreeD) => (((isTree v'186 (markTreeD (1 : Int) x235) rs'204) ∧
                            ((capTree x235) ∧
                            (mrkC (1 : Int)))) ∧
                            (((decide ((endTree (1 : Int) x235) < (0 : Int))) = Bool.true →
                            (Value.bool Bool.false) = (Value.bool Bool.true)) ∧
                            ((decide ((endTree (1 : Int) x235) < (0 : Int))) = Bool.false →
                            ((((endTree (1 : Int) x235) != (endTree (1 : Int) x203)) = Bool.true →
                             (Value.bool Bool.false) = (Value.bool Bool.true)) ∧
                             (((endTree (1 : Int) x235) != (endTree (1 : Int) x203)) = Bool.false →
                             (Value.bool Bool.true) = (Value.bool Bool.true)))))))))))))))))))))))))))))))))))))))))) ∧
                         (∀ b236 : Nat,
                         (True ∧
                         (Exists (fun (x237 : TreeD) => (((isTree v0 x237 rs0) ∧
                         (capTree x237)) ∧
                         (∀ v'238 : Value,
                         (∀ rs'239 : (List Row),
                         ((isTree v'238 x237 rs'239) →
                         (True ∧
                          (Exists (fun (x240 : TreeD) => (((isTree v1 x240 rs1) ∧
                          (capTree x240)) ∧
                          (∀ v'241 : Value,
                          (∀ rs'242 : (List Row),
                          ((isTree v'241 x240 rs'242) →
                          (True ∧
                           (Exists (fun (t243 : TreeD) => (Exists (fun (old244 : TreeD) => (((isTree v'238 t243 rs'239) ∧
                           ((isTree v'241 old244 rs'242) ∧
                           (capTree old244))) ∧
                           (∀ v'245 : Value,
                           (∀ rs'246 : (List Row),
                           ((isTree v'245 (withD t243 old244) rs'246) →
                           (True ∧
                            ((b236 = b236 ∧
                            (wholeC Bool.true v'245 3)) ∧
                            (True ∧
                            (b236 = b236 ∧
                            (b168 = b168 ∧
                            (Exists (fun (x247 : TreeD) => (((isTree v'245 x247 rs'246) ∧
                            ((isTree v'174 x247 rs'175) ∧
                            (capTree x247))) ∧
                            (b188 = b188 ∧
                            (Exists (fun (x248 : TreeD) => (((isTree v'186 (markTreeD (1 : Int) x248) rs'204) ∧
                            ((capTree x248) ∧
                            (mrkC (1 : Int)))) ∧
                            (((decide ((endTree (1 : Int) x248) < (0 : Int))) = Bool.true →
                            (Value.bool Bool.false) = (Value.bool Bool.true)) ∧
                            ((decide ((endTree (1 : Int) x248) < (0 : Int))) = Bool.false →
                            ((((endTree (1 : Int) x248) != (endTree (1 : Int) x203)) = Bool.true →
                             (Value.bool Bool.false) = (Value.bool Bool.true)) ∧
                             (((endTree (1 : Int) x248) != (endTree (1 : Int) x203)) = Bool.false →
                             (Value.bool Bool.true) = (Value.bool Bool.true))))))))))))))))))))))))))))))))))))))))))))))))))))))))))))))))) ∧
                    ((decide ((endTree (endTree (1 : Int) x198) x200) < (0 : Int))) = Bool.true →
                    (Value.bool Bool.false) = (Value.bool Bool.true)))))))))))))))))))))))))))))))))))))))))))))))))))))))))))))))))))))))))))))))))))))))))))))))))))))))))) ∧
        (∀ b249 : Nat,
        (True ∧
        (Exists (fun (x250 : TreeD) => (((isTree v0 x250 rs0) ∧
        (capTree x250)) ∧
        (∀ v'251 : Value,
        (∀ rs'252 : (List Row),
        ((isTree v'251 x250 rs'252) →
        (True ∧
         (Exists (fun (x253 : TreeD) => (((isTree v1 x253 rs1) ∧
         (capTree x253)) ∧
         (∀ v'254 : Value,
         (∀ rs'255 : (List Row),
         ((isTree v'254 x253 rs'255) →
         (True ∧
          (Exists (fun (t256 : TreeD) => (Exists (fun (old257 : TreeD) => (((isTree v'251 t256 rs'252) ∧
          ((isTree v'254 old257 rs'255) ∧
          (capTree old257))) ∧
          (∀ v'258 : Value,
          (∀ rs'259 : (List Row),
          ((isTree v'258 (withD t256 old257) rs'259) →
          (True ∧
           ((b249 = b249 ∧
           (wholeC Bool.true v'258 3)) ∧
           (True ∧
           (b0 = b0 ∧
           (Exists (fun (x260 : TreeD) => (((isTree v0 x260 rs0) ∧
           (capTree x260)) ∧
           (∀ v'261 : Value,
           (∀ rs'262 : (List Row),
           ((isTree v'261 x260 rs'262) →
           (∀ b263 : Nat,
            ((b263 = b263 ∧
            (wholeC Bool.true v'261 3)) ∧
            (b1 = b1 ∧
            (Exists (fun (x264 : TreeD) => (((isTree v1 x264 rs1) ∧
            (capTree x264)) ∧
            (∀ v'265 : Value,
            (∀ rs'266 : (List Row),
            ((isTree v'265 x264 rs'266) →
            (∀ b267 : Nat,
             ((b267 = b267 ∧
             (wholeC Bool.true v'265 3)) ∧
             (b263 = b263 ∧
             (b267 = b267 ∧
             (Exists (fun (t268 : TreeD) => (Exists (fun (old269 : TreeD) => (((isTree v'261 t268 rs'262) ∧
             ((isTree v'265 old269 rs'266) ∧
             (capTree old269))) ∧
             (∀ v'270 : Value,
             (∀ rs'271 : (List Row),
             ((isTree v'270 (withD t268 old269) rs'271) →
             (∀ b272 : Nat,
              ((b272 = b272 ∧
              (wholeC Bool.true v'270 3)) ∧
              (b272 = b272 ∧
              (b249 = b249 ∧
              (Exists (fun (x273 : TreeD) => (((isTree v'270 x273 rs'271) ∧
              ((isTree v'258 x273 rs'259) ∧
              (capTree x273))) ∧
              (b263 = b263 ∧
              (b0 = b0 ∧
              (Exists (fun (x274 : TreeD) => (((isTree v0 x274 rs0) ∧
              (capTree x274)) ∧
              (∀ v'275 : Value,
              (∀ rs'276 : (List Row),
              ((isTree v'275 x274 rs'276) →
              (True ∧
               (Exists (fun (x277 : TreeD) => (((isTree v'261 x277 rs'262) ∧
               ((isTree v'275 x277 rs'276) ∧
               (capTree x277))) ∧
               (True ∧
               (b267 = b267 ∧
               (b1 = b1 ∧
               (Exists (fun (x278 : TreeD) => (((isTree v1 x278 rs1) ∧
               (capTree x278)) ∧
               (∀ v'279 : Value,
               (∀ rs'280 : (List Row),
               ((isTree v'279 x278 rs'280) →
               (True ∧
                (Exists (fun (x281 : TreeD) => (((isTree v'265 x281 rs'266) ∧
                ((isTree v'279 x281 rs'280) ∧
                (capTree x281))) ∧
                (True ∧
                (b263 = b263 ∧
                (Exists (fun (x282 : TreeD) => (((isTree v'261 x282 rs'262) ∧
                ((capTree x282) ∧
                (mrkC (1 : Int)))) ∧
                ((endC (1 : Int) (endTree (1 : Int) x282) (33554432 : Int)) →
                (∀ rs'283 : (List Row),
                 ((isTree v'261 (markTreeD (1 : Int) x282) rs'283) →
                 (b267 = b267 ∧
                  (Exists (fun (x284 : TreeD) => (((isTree v'265 x284 rs'266) ∧
                  ((capTree x284) ∧
                  (mrkC (endTree (1 : Int) x282)))) ∧
                  ((endC (endTree (1 : Int) x282) (endTree (endTree (1 : Int) x282) x284) (33554432 : Int)) →
                  (∀ rs'285 : (List Row),
                   ((isTree v'265 (markTreeD (endTree (1 : Int) x282) x284) rs'285) →
                   (((decide ((endTree (endTree (1 : Int) x282) x284) < (0 : Int))) = Bool.false →
                    (b272 = b272 ∧
                     (b249 = b249 ∧
                     (Exists (fun (x286 : TreeD) => (((isTree v'270 x286 rs'271) ∧
                     ((isTree v'258 x286 rs'259) ∧
                     (capTree x286))) ∧
                     (b272 = b272 ∧
                     (Exists (fun (x287 : TreeD) => (((isTree v'270 x287 rs'271) ∧
                     ((capTree x287) ∧
                     (mrkC (1 : Int)))) ∧
                     ((endC (1 : Int) (endTree (1 : Int) x287) (33554432 : Int)) →
                     (∀ rs'288 : (List Row),
                      ((isTree v'270 (markTreeD (1 : Int) x287) rs'288) →
                      (b272 = b272 ∧
                       (Exists (fun (x289 : TreeD) => (((isTree v'270 (markTreeD (1 : Int) x289) rs'288) ∧
                       ((capTree x289) ∧
                       (mrkC (1 : Int)))) ∧
                       (((decide ((endTree (1 : Int) x289) < (0 : Int))) = Bool.true →
                       (Value.bool Bool.false) = (Value.bool Bool.true)) ∧
                       ((decide ((endTree (1 : Int) x289) < (0 : Int))) = Bool.false →
                       ((((endTree (1 : Int) x289) != (endTree (1 : Int) x287)) = Bool.true →
                        (Value.bool Bool.false) = (Value.bool Bool.true)) ∧
                        (((endTree (1 : Int) x289) != (endTree (1 : Int) x287)) = Bool.false →
                        (b0 = b0 ∧
                         (b1 = b1 ∧
                         ((Exists (fun (x290 : TreeD) => (((isTree v0 x290 rs0) ∧
                         (capTree x290)) ∧
                         (∀ v'291 : Value,
                         (∀ rs'292 : (List Row),
                         ((isTree v'291 x290 rs'292) →
                         (True ∧
                          ((Exists (fun (x293 : TreeD) => (((isTree v1 x293 rs1) ∧
                          (capTree x293)) ∧
                          (∀ v'294 : Value,
                          (∀ rs'295 : (List Row),
                          ((isTree v'294 x293 rs'295) →
                          (True ∧
                           ((Exists (fun (t296 : TreeD) => (Exists (fun (old297 : TreeD) => (((isTree v'291 t296 rs'292) ∧
                           ((isTree v'294 old297 rs'295) ∧
                           (capTree old297))) ∧
                           (∀ v'298 : Value,
                           (∀ rs'299 : (List Row),
                           ((isTree v'298 (withD t296 old297) rs'299) →
                           (True ∧
                            (∀ b300 : Nat,
                            (True ∧
                            ((b300 = b300 ∧
                            (wholeC Bool.true v'298 3)) ∧
                            (True ∧
                            (b300 = b300 ∧
                            (b249 = b249 ∧
                            (Exists (fun (x301 : TreeD) => (((isTree v'298 x301 rs'299) ∧
                            ((isTree v'258 x301 rs'259) ∧
                            (capTree x301))) ∧
                            (b272 = b272 ∧
                            (Exists (fun (x302 : TreeD) => (((isTree v'270 (markTreeD (1 : Int) x302) rs'288) ∧
                            ((capTree x302) ∧
                            (mrkC (1 : Int)))) ∧
                            (((decide ((endTree (1 : Int) x302) < (0 : Int))) = Bool.true →
                            (Value.bool Bool.false) = (Value.bool Bool.true)) ∧
                            ((decide ((endTree (1 : Int) x302) < (0 : Int))) = Bool.false →
                            ((((endTree (1 : Int) x302) != (endTree (1 : Int) x287)) = Bool.true →
                             (Value.bool Bool.false) = (Value.bool Bool.true)) ∧
                             (((endTree (1 : Int) x302) != (endTree (1 : Int) x287)) = Bool.false →
                             (Value.bool Bool.true) = (Value.bool Bool.true))))))))))))))))))))))))))) ∧
                           (∀ b303 : Nat,
                           (True ∧
                           (Exists (fun (t304 : TreeD) => (Exists (fun (old305 : TreeD) => (((isTree v'291 t304 rs'292) ∧
                           ((isTree v'294 old305 rs'295) ∧
                           (capTree old305))) ∧
                           (∀ v'306 : Value,
                           (∀ rs'307 : (List Row),
                           ((isTree v'306 (withD t304 old305) rs'307) →
                           (True ∧
                            ((b303 = b303 ∧
                            (wholeC Bool.true v'306 3)) ∧
                            (True ∧
                            (b303 = b303 ∧
                            (b249 = b249 ∧
                            (Exists (fun (x308 : TreeD) => (((isTree v'306 x308 rs'307) ∧
                            ((isTree v'258 x308 rs'259) ∧
                            (capTree x308))) ∧
                            (b272 = b272 ∧
                            (Exists (fun (x309 : TreeD) => (((isTree v'270 (markTreeD (1 : Int) x309) rs'288) ∧
                            ((capTree x309) ∧
                            (mrkC (1 : Int)))) ∧
                            (((decide ((endTree (1 : Int) x309) < (0 : Int))) = Bool.true →
                            (Value.bool Bool.false) = (Value.bool Bool.true)) ∧
                            ((decide ((endTree (1 : Int) x309) < (0 : Int))) = Bool.false →
                            ((((endTree (1 : Int) x309) != (endTree (1 : Int) x287)) = Bool.true →
                             (Value.bool Bool.false) = (Value.bool Bool.true)) ∧
                             (((endTree (1 : Int) x309) != (endTree (1 : Int) x287)) = Bool.false →
                             (Value.bool Bool.true) = (Value.bool Bool.true))))))))))))))))))))))))))))))))))) ∧
                          (∀ b310 : Nat,
                          (True ∧
                          (Exists (fun (x311 : TreeD) => (((isTree v1 x311 rs1) ∧
                          (capTree x311)) ∧
                          (∀ v'312 : Value,
                          (∀ rs'313 : (List Row),
                          ((isTree v'312 x311 rs'313) →
                          (True ∧
                           (Exists (fun (t314 : TreeD) => (Exists (fun (old315 : TreeD) => (((isTree v'291 t314 rs'292) ∧
                           ((isTree v'312 old315 rs'313) ∧
                           (capTree old315))) ∧
                           (∀ v'316 : Value,
                           (∀ rs'317 : (List Row),
                           ((isTree v'316 (withD t314 old315) rs'317) →
                           (True ∧
                            ((b310 = b310 ∧
                            (wholeC Bool.true v'316 3)) ∧
                            (True ∧
                            (b310 = b310 ∧
                            (b249 = b249 ∧
                            (Exists (fun (x318 : TreeD) => (((isTree v'316 x318 rs'317) ∧
                            ((isTree v'258 x318 rs'259) ∧
                            (capTree x318))) ∧
                            (b272 = b272 ∧
                            (Exists (fun (x319 : TreeD) => (((isTree v'270 (markTreeD (1 : Int) x319) rs'288) ∧
                            ((capTree x319) ∧
                            (mrkC (1 : Int)))) ∧
                            (((decide ((endTree (1 : Int) x319) < (0 : Int))) = Bool.true →
                            (Value.bool Bool.false) = (Value.bool Bool.true)) ∧
                            ((decide ((endTree (1 : Int) x319) < (0 : Int))) = Bool.false →
                            ((((endTree (1 : Int) x319) != (endTree (1 : Int) x287)) = Bool.true →
                             (Value.bool Bool.false) = (Value.bool Bool.true)) ∧
                             (((endTree (1 : Int) x319) != (endTree (1 : Int) x287)) = Bool.false →
                             (Value.bool Bool.true) = (Value.bool Bool.true)))))))))))))))))))))))))))))))))))))))))) ∧
                         (∀ b320 : Nat,
                         (True ∧
                         (Exists (fun (x321 : TreeD) => (((isTree v0 x321 rs0) ∧
                         (capTree x321)) ∧
                         (∀ v'322 : Value,
                         (∀ rs'323 : (List Row),
                         ((isTree v'322 x321 rs'323) →
                         (True ∧
                          (Exists (fun (x324 : TreeD) => (((isTree v1 x324 rs1) ∧
                          (capTree x324)) ∧
                          (∀ v'325 : Value,
                          (∀ rs'326 : (List Row),
                          ((isTree v'325 x324 rs'326) →
                          (True ∧
                           (Exists (fun (t327 : TreeD) => (Exists (fun (old328 : TreeD) => (((isTree v'322 t327 rs'323) ∧
                           ((isTree v'325 old328 rs'326) ∧
                           (capTree old328))) ∧
                           (∀ v'329 : Value,
                           (∀ rs'330 : (List Row),
                           ((isTree v'329 (withD t327 old328) rs'330) →
                           (True ∧
                            ((b320 = b320 ∧
                            (wholeC Bool.true v'329 3)) ∧
                            (True ∧
                            (b320 = b320 ∧
                            (b249 = b249 ∧
                            (Exists (fun (x331 : TreeD) => (((isTree v'329 x331 rs'330) ∧
                            ((isTree v'258 x331 rs'259) ∧
                            (capTree x331))) ∧
                            (b272 = b272 ∧
                            (Exists (fun (x332 : TreeD) => (((isTree v'270 (markTreeD (1 : Int) x332) rs'288) ∧
                            ((capTree x332) ∧
                            (mrkC (1 : Int)))) ∧
                            (((decide ((endTree (1 : Int) x332) < (0 : Int))) = Bool.true →
                            (Value.bool Bool.false) = (Value.bool Bool.true)) ∧
                            ((decide ((endTree (1 : Int) x332) < (0 : Int))) = Bool.false →
                            ((((endTree (1 : Int) x332) != (endTree (1 : Int) x287)) = Bool.true →
                             (Value.bool Bool.false) = (Value.bool Bool.true)) ∧
                             (((endTree (1 : Int) x332) != (endTree (1 : Int) x287)) = Bool.false →
                             (Value.bool Bool.true) = (Value.bool Bool.true))))))))))))))))))))))))))))))))))))))))))))))))))))))))))))))))) ∧
                    ((decide ((endTree (endTree (1 : Int) x282) x284) < (0 : Int))) = Bool.true →
                    (Value.bool Bool.false) = (Value.bool Bool.true))))))))))))))))))))))))))))))))))))))))))))))))))))))))))))))))))))))))))))))))))))))))))))))))))))))))))))))))))))))))))))))))))))) := by kernel_rfl
theorem law_FnExactWithNodes_any (v0 : Value) (rs0 : List Row) (v1 : Value) (rs1 : List Row) (W : World) (x0 : TreeD) (hx0 : isTree v0 x0 rs0) (hw0 : ∀ r ∈ rs0, r.own = false ∧ r.sat W) (hn0 : x0.MidN ≤ 9223372036854775807 ∧ x0.LeafN ≤ 9223372036854775807) (hb0 : (-9223372036854775808 ≤ x0.Root ∧ x0.Root ≤ 9223372036854775807)) (x1 : TreeD) (hx1 : isTree v1 x1 rs1) (hw1 : ∀ r ∈ rs1, r.own = false ∧ r.sat W) (hn1 : x1.MidN ≤ 9223372036854775807 ∧ x1.LeafN ≤ 9223372036854775807) (hb1 : (-9223372036854775808 ≤ x1.Root ∧ x1.Root ≤ 9223372036854775807)) : Calls Try.prog 9 #[v0, v1] W fun e W' => e = .returned (.bool true) ∧ Below W.heap.size W W' := by
  refine fnB (tb := [(43, sToTreeO), (45, sEqTreeO), (46, sMarkTreeO), (47, sHeldTreeO), (41, sSzTreeO), (44, sWithO), (42, sWithO)]) ⟨sToTreeO_ok_laws_toTree, sEqTreeO_ok, sMarkTreeO_ok, sHeldTreeO_ok, sSzTreeO_ok, sWithO_ok_impl_WithNodes, sWithO_ok_spec_WithNodes, trivial⟩ Try.func9 ((law_FnExactWithNodes_T v0 rs0 v1 rs1).mpr ?_) (HS.objs (fun _ => False) [rs0, rs1] (seen_cons hw0 (seen_cons hw1 seen_nil))) (fun v ch' w' hk hs => ⟨by rw [hk], hs.below⟩)
  clear hw0 hw1
  repeat' (first
    | exact rfl
    | exact True.intro
    | assumption
    | exact capWith (by assumption)
    | exact wholeTree (by assumption)
    | refine And.intro ?_ ?_
    | apply Exists.intro
    | omega
    | (intro h; exfalso; revert h; simp; done)
    | (intro h; exfalso; simp at h; omega)
    | intro _)
theorem walk_FnExactWithNodes (cs0 : Array Value) (cs1 : Array Value) (W : World) (h0 : Has W (.cons .int (.cons (.slice (.cons .int (.cons .int .nil))) (.cons (.slice (.cons .int (.cons .int .nil))) .nil))) cs0.toList) (h1 : Has W (.cons .int (.cons (.slice (.cons .int (.cons .int .nil))) (.cons (.slice (.cons .int (.cons .int .nil))) .nil))) cs1.toList) : Calls Try.prog 9 #[.agg cs0, .agg cs1] W fun e W' => e = .returned (.bool true) ∧ Below W.heap.size W W' := by
  obtain ⟨l0, hl0⟩ : ∃ l, cs0.toList = l := ⟨_, rfl⟩
  rw [hl0] at h0
  obtain ⟨aTRoot, _, rfl, baTRoot, h0⟩ := has_int h0
  obtain ⟨aTMidO, aTMidN, aTMidC, _, rfl, hsaTMid, h0⟩ := has_slice h0
  obtain ⟨hnaTMid, aTMidG, bGaTMid, hraTMid⟩ := row_of_has (s := 2) (.inr rfl) (by omega) rfl hsaTMid
  obtain ⟨aTLeafO, aTLeafN, aTLeafC, _, rfl, hsaTLeaf, h0⟩ := has_slice h0
  obtain ⟨hnaTLeaf, aTLeafG, bGaTLeaf, hraTLeaf⟩ := row_of_has (s := 2) (.inr rfl) (by omega) rfl hsaTLeaf
  obtain rfl := has_nil h0
  rw [arr_of hl0]
  obtain ⟨l1, hl1⟩ : ∃ l, cs1.toList = l := ⟨_, rfl⟩
  rw [hl1] at h1
  obtain ⟨aOldRoot, _, rfl, baOldRoot, h1⟩ := has_int h1
  obtain ⟨aOldMidO, aOldMidN, aOldMidC, _, rfl, hsaOldMid, h1⟩ := has_slice h1
  obtain ⟨hnaOldMid, aOldMidG, bGaOldMid, hraOldMid⟩ := row_of_has (s := 2) (.inr rfl) (by omega) rfl hsaOldMid
  obtain ⟨aOldLeafO, aOldLeafN, aOldLeafC, _, rfl, hsaOldLeaf, h1⟩ := has_slice h1
  obtain ⟨hnaOldLeaf, aOldLeafG, bGaOldLeaf, hraOldLeaf⟩ := row_of_has (s := 2) (.inr rfl) (by omega) rfl hsaOldLeaf
  obtain rfl := has_nil h1
  rw [arr_of hl1]
  exact law_FnExactWithNodes_any (.agg #[.int .i64 aTRoot, .slice aTMidO aTMidN aTMidC, .slice aTLeafO aTLeafN aTLeafC]) [⟨false, aTMidO, 0, 2, aTMidN, 0, [fun i => .int (aTMidG 0 i), fun i => .int (aTMidG 1 i)]⟩, ⟨false, aTLeafO, 0, 2, aTLeafN, 0, [fun i => .int (aTLeafG 0 i), fun i => .int (aTLeafG 1 i)]⟩] (.agg #[.int .i64 aOldRoot, .slice aOldMidO aOldMidN aOldMidC, .slice aOldLeafO aOldLeafN aOldLeafC]) [⟨false, aOldMidO, 0, 2, aOldMidN, 0, [fun i => .int (aOldMidG 0 i), fun i => .int (aOldMidG 1 i)]⟩, ⟨false, aOldLeafO, 0, 2, aOldLeafN, 0, [fun i => .int (aOldLeafG 0 i), fun i => .int (aOldLeafG 1 i)]⟩] W ⟨aTRoot, aTMidN, (aTMidG 0), (aTMidG 1), aTLeafN, (aTLeafG 0), (aTLeafG 1)⟩ ⟨_, _, _, _, _, _, _, _, _, _, rfl, rfl⟩ (rows_seen [⟨false, aTMidO, 0, 2, aTMidN, 0, [fun i => .int (aTMidG 0 i), fun i => .int (aTMidG 1 i)]⟩, ⟨false, aTLeafO, 0, 2, aTLeafN, 0, [fun i => .int (aTLeafG 0 i), fun i => .int (aTLeafG 1 i)]⟩] (by simp; exact ⟨hraTMid, hraTLeaf⟩)) ⟨hnaTMid, hnaTLeaf⟩ baTRoot ⟨aOldRoot, aOldMidN, (aOldMidG 0), (aOldMidG 1), aOldLeafN, (aOldLeafG 0), (aOldLeafG 1)⟩ ⟨_, _, _, _, _, _, _, _, _, _, rfl, rfl⟩ (rows_seen [⟨false, aOldMidO, 0, 2, aOldMidN, 0, [fun i => .int (aOldMidG 0 i), fun i => .int (aOldMidG 1 i)]⟩, ⟨false, aOldLeafO, 0, 2, aOldLeafN, 0, [fun i => .int (aOldLeafG 0 i), fun i => .int (aOldLeafG 1 i)]⟩] (by simp; exact ⟨hraOldMid, hraOldLeaf⟩)) ⟨hnaOldMid, hnaOldLeaf⟩ baOldRoot
end Go.Proofs.Ytdaeikjpnejmdaa
