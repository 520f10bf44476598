/-
  FnExactSecureReplay
-/
import Derived.Test.YtdaeikjpnejmdaaSxOSec
import Derived.Test.YtdaeikjpnejmdaaSxOpen
import Derived.Test.YtdaeikjpnejmdaaSxSec5
namespace Go.Proofs.Ytdaeikjpnejmdaa
set_option linter.unusedVariables false
set_option linter.unusedSimpArgs false
open Go.RowKit
set_option maxRecDepth 100000
set_option maxHeartbeats 8000000

def pD (s old : SecureD) (line : Int) : SecureD := ⟨s.Key, s.TreeRoot, selN (pOk s.DataN s.TagsN old.DataN old.TagsN line) old.TreeMidN s.TreeMidN, fun i => selZ (pOk s.DataN s.TagsN old.DataN old.TagsN line) (old.TreeMidg0 i) (s.TreeMidg0 i), fun i => selZ (pOk s.DataN s.TagsN old.DataN old.TagsN line) (old.TreeMidg1 i) (s.TreeMidg1 i), selN (pOk s.DataN s.TagsN old.DataN old.TagsN line) old.TreeLeafN s.TreeLeafN, fun i => selZ (pOk s.DataN s.TagsN old.DataN old.TagsN line) (old.TreeLeafg0 i) (s.TreeLeafg0 i), fun i => selZ (pOk s.DataN s.TagsN old.DataN old.TagsN line) (old.TreeLeafg1 i) (s.TreeLeafg1 i), s.DataN, pDa (pOk s.DataN s.TagsN old.DataN old.TagsN line) line s.Datag0 old.Datag0, s.TagsN, pDa (pOk s.DataN s.TagsN old.DataN old.TagsN line) line s.Tagsg0 old.Tagsg0⟩
theorem capSP {s old : SecureD} {line : Int} (h : capSecure s) (h2 : capSecure old) : capSecure (pD s old line) := by
  refine ⟨?_, ?_, h.2.2⟩
  · simp only [pD, selN]
    split
    · exact h2.1
    · exact h.1
  · simp only [pD, selN]
    split
    · exact h2.2.1
    · exact h.2.1
def sSRepO : Sm := fun args ch k =>
  match args with
  | [.a (.c (.obj i0 v0)), .a (.c (.obj i1 v1)), .a (.c c0)] =>
    match ch[i0]?, ch[i1]?, ints [c0] with
    | some (.obj _ r0), some (.obj _ r1), some [line] => ∃ (s : SecureD) (old : SecureD), (isSecure v0 s r0 ∧ isSecure v1 old r1 ∧ capSecure s ∧ capSecure old) ∧ ∀ (v' : Value) (rs' : List Row), isSecure v' (pD s old line) rs' → k (.a (.c (.obj ch.length v'))) (ch ++ [.obj true rs']) []
    | _, _, _ => False
  | _ => False
theorem sSRepO_ok_impl_SecureReplay : SmOK Try.prog 65 sSRepO := by
  refine smN Try.call65 fun args ch k w X h0 hs => ?_
  unfold sSRepO at h0
  split at h0
  · rename_i i0 v0 i1 v1 c0
    split at h0
    · rename_i o0 r0 o1 r1 line hi0 hi1 hI
      obtain ⟨s, old, ⟨⟨_, _, _, _, _, _, _, _, _, _, _, _, _, _, _, _, _, _, _, _, rfl, rfl⟩, ⟨_, _, _, _, _, _, _, _, _, _, _, _, _, _, _, _, _, _, _, _, rfl, rfl⟩, hpre⟩, h0⟩ := h0
      obtain ⟨ec0, hI⟩ := ints_cons hI
      have hw0 := hs.seeObj hi0
      have hw1 := hs.seeObj hi1
      simp only [List.map_cons, List.map_nil, den_a, den_c, SA.den, den_obj, ec0]
      refine Calls.mono (srepI_any s.Key s.TreeRoot _ s.TreeMidN _ s.TreeMidg0 s.TreeMidg1 _ s.TreeLeafN _ s.TreeLeafg0 s.TreeLeafg1 _ s.DataN _ s.Datag0 _ s.TagsN _ s.Tagsg0 old.Key old.TreeRoot _ old.TreeMidN _ old.TreeMidg0 old.TreeMidg1 _ old.TreeLeafN _ old.TreeLeafg0 old.TreeLeafg1 _ old.DataN _ old.Datag0 _ old.TagsN _ old.Tagsg0 line w (Row.seenAs (hw0 _ (mem0)).2 rfl rfl) (Row.seenAs (hw0 _ ((memS mem0))).2 rfl rfl) (Row.seenAs (hw0 _ ((memS (memS mem0)))).2 rfl rfl) (Row.seenAs (hw0 _ ((memS (memS (memS mem0))))).2 rfl rfl) (Row.seenAs (hw1 _ (mem0)).2 rfl rfl) (Row.seenAs (hw1 _ ((memS mem0))).2 rfl rfl) (Row.seenAs (hw1 _ ((memS (memS mem0)))).2 rfl rfl) (Row.seenAs (hw1 _ ((memS (memS (memS mem0))))).2 rfl rfl) ⟨hpre.1.1, hpre.1.2.1, hpre.1.2.2.1, hpre.1.2.2.2, hpre.2⟩) fun e w' ⟨ro0, rc0, ro1, rc1, ro2, rc2, ro3, rc3, he, hs'⟩ => ⟨_, [.obj true _], ?_, hs'.pack (rs := [_, _, _, _]) (by simp), rfl, h0 _ _ ⟨ro0, ro1, ro2, ro3, rc0, _, _, rc1, _, _, rc2, _, _, rc3, _, _, _, _, _, _, rfl, rfl⟩⟩
      rw [he]
      rfl
    · exact h0.elim
  · exact h0.elim
theorem sSRepO_ok_spec_SecureReplay : SmOK Try.prog 64 sSRepO := by
  refine smN Try.call64 fun args ch k w X h0 hs => ?_
  unfold sSRepO at h0
  split at h0
  · rename_i i0 v0 i1 v1 c0
    split at h0
    · rename_i o0 r0 o1 r1 line hi0 hi1 hI
      obtain ⟨s, old, ⟨⟨_, _, _, _, _, _, _, _, _, _, _, _, _, _, _, _, _, _, _, _, rfl, rfl⟩, ⟨_, _, _, _, _, _, _, _, _, _, _, _, _, _, _, _, _, _, _, _, rfl, rfl⟩, hpre⟩, h0⟩ := h0
      obtain ⟨ec0, hI⟩ := ints_cons hI
      have hw0 := hs.seeObj hi0
      have hw1 := hs.seeObj hi1
      simp only [List.map_cons, List.map_nil, den_a, den_c, SA.den, den_obj, ec0]
      refine Calls.mono (srepS_any s.Key s.TreeRoot _ s.TreeMidN _ s.TreeMidg0 s.TreeMidg1 _ s.TreeLeafN _ s.TreeLeafg0 s.TreeLeafg1 _ s.DataN _ s.Datag0 _ s.TagsN _ s.Tagsg0 old.Key old.TreeRoot _ old.TreeMidN _ old.TreeMidg0 old.TreeMidg1 _ old.TreeLeafN _ old.TreeLeafg0 old.TreeLeafg1 _ old.DataN _ old.Datag0 _ old.TagsN _ old.Tagsg0 line w (Row.seenAs (hw0 _ (mem0)).2 rfl rfl) (Row.seenAs (hw0 _ ((memS mem0))).2 rfl rfl) (Row.seenAs (hw0 _ ((memS (memS mem0)))).2 rfl rfl) (Row.seenAs (hw0 _ ((memS (memS (memS mem0))))).2 rfl rfl) (Row.seenAs (hw1 _ (mem0)).2 rfl rfl) (Row.seenAs (hw1 _ ((memS mem0))).2 rfl rfl) (Row.seenAs (hw1 _ ((memS (memS mem0)))).2 rfl rfl) (Row.seenAs (hw1 _ ((memS (memS (memS mem0))))).2 rfl rfl) ⟨hpre.1.1, hpre.1.2.1, hpre.1.2.2.1, hpre.1.2.2.2, hpre.2⟩) fun e w' ⟨ro0, rc0, ro1, rc1, ro2, rc2, ro3, rc3, he, hs'⟩ => ⟨_, [.obj true _], ?_, hs'.pack (rs := [_, _, _, _]) (by simp), rfl, h0 _ _ ⟨ro0, ro1, ro2, ro3, rc0, _, _, rc1, _, _, rc2, _, _, rc3, _, _, _, _, _, _, rfl, rfl⟩⟩
      rw [he]
      rfl
    · exact h0.elim
  · exact h0.elim
theorem law_FnExactSecureReplay_T (v0 : Value) (rs0 : List Row) (v1 : Value) (rs1 : List Row) (aLine : Int) : (exFn Try.prog {tb := [(59, sToSecureO), (61, sEqSecureO), (62, sMarkSecureO), (63, sHeldSecureO), (57, sSzSecureO), (65, sSRepO), (64, sSRepO)]} 400 Try.f17 ([.a (.c (.obj 0 v0)), .a (.c (.obj 1 v1)), .a (.c (.int aLine))]) ([.obj false rs0, .obj false rs1]) (fun v _ => v.den = .bool true)) = (
  ((wholeC Bool.true v0 6) ∧
  (∀ b0 : Nat,
  ((wholeC Bool.true v1 6) ∧
  (∀ b1 : Nat,
  (b0 = b0 ∧
  (Exists (fun (x2 : SecureD) => (((isSecure v0 x2 rs0) ∧
  ((lensSecure x2) ∧
  (szK (1048576 : Int)))) ∧
  ((Value.bool Bool.true) = (Value.bool Bool.true) ∧
  (∀ z3 : Int,
  ((szO z3 (1048576 : Int)) →
  ((capSecure x2) →
   (((decide (z3 < (0 : Int))) = Bool.true →
    (Value.bool Bool.true) = (Value.bool Bool.true)) ∧
    ((decide (z3 < (0 : Int))) = Bool.false →
    (b1 = b1 ∧
     (Exists (fun (x4 : SecureD) => (((isSecure v1 x4 rs1) ∧
     ((lensSecure x4) ∧
     (szK z3))) ∧
     ((Value.bool Bool.true) = (Value.bool Bool.true) ∧
     (∀ z5 : Int,
     ((szO z5 z3) →
     ((capSecure x4) →
      (((decide (z5 < (0 : Int))) = Bool.true →
       (Value.bool Bool.true) = (Value.bool Bool.true)) ∧
       ((decide (z5 < (0 : Int))) = Bool.false →
       (b0 = b0 ∧
        (b1 = b1 ∧
        ((Exists (fun (x6 : SecureD) => (((isSecure v0 x6 rs0) ∧
        (capSecure x6)) ∧
        (∀ v'7 : Value,
        (∀ rs'8 : (List Row),
        ((isSecure v'7 x6 rs'8) →
        (True ∧
         ((Exists (fun (x9 : SecureD) => (((isSecure v1 x9 rs1) ∧
         (capSecure x9)) ∧
         (∀ v'10 : Value,
         (∀ rs'11 : (List Row),
         ((isSecure v'10 x9 rs'11) →
         (True ∧
          ((Exists (fun (s12 : SecureD) => (Exists (fun (old13 : SecureD) => (((isSecure v'7 s12 rs'8) ∧
          ((isSecure v'10 old13 rs'11) ∧
          ((capSecure s12) ∧
          (capSecure old13)))) ∧
          (∀ v'14 : Value,
          (∀ rs'15 : (List Row),
          ((isSecure v'14 (pD s12 old13 aLine) rs'15) →
          (True ∧
           (∀ b16 : Nat,
           (True ∧
           ((b16 = b16 ∧
           (wholeC Bool.true v'14 6)) ∧
           (True ∧
           (b0 = b0 ∧
           (Exists (fun (x17 : SecureD) => (((isSecure v0 x17 rs0) ∧
           (capSecure x17)) ∧
           (∀ v'18 : Value,
           (∀ rs'19 : (List Row),
           ((isSecure v'18 x17 rs'19) →
           (∀ b20 : Nat,
            ((b20 = b20 ∧
            (wholeC Bool.true v'18 6)) ∧
            (b1 = b1 ∧
            (Exists (fun (x21 : SecureD) => (((isSecure v1 x21 rs1) ∧
            (capSecure x21)) ∧
            (∀ v'22 : Value,
            (∀ rs'23 : (List Row),
            ((isSecure v'22 x21 rs'23) →
            (∀ b24 : Nat,
             ((b24 = b24 ∧
             (wholeC Bool.true v'22 6)) ∧
             (b20 = b20 ∧
             (b24 = b24 ∧
             (Exists (fun (s25 : SecureD) => (Exists (fun (old26 : SecureD) => (((isSecure v'18 s25 rs'19) ∧
             ((isSecure v'22 old26 rs'23) ∧
             ((capSecure s25) ∧
             (capSecure old26)))) ∧
             (∀ v'27 : Value,
             (∀ rs'28 : (List Row),
             ((isSecure v'27 (pD s25 old26 aLine) rs'28) →
             (∀ b29 : Nat,
              ((b29 = b29 ∧
              (wholeC Bool.true v'27 6)) ∧
              (b29 = b29 ∧
              (b16 = b16 ∧
              (Exists (fun (x30 : SecureD) => (((isSecure v'27 x30 rs'28) ∧
              ((isSecure v'14 x30 rs'15) ∧
              (capSecure x30))) ∧
              (b20 = b20 ∧
              (b0 = b0 ∧
              (Exists (fun (x31 : SecureD) => (((isSecure v0 x31 rs0) ∧
              (capSecure x31)) ∧
              (∀ v'32 : Value,
              (∀ rs'33 : (List Row),
              ((isSecure v'32 x31 rs'33) →
              (True ∧
               (Exists (fun (x34 : SecureD) => (((isSecure v'18 x34 rs'19) ∧
               ((isSecure v'32 x34 rs'33) ∧
               (capSecure x34))) ∧
               (True ∧
               (b24 = b24 ∧
               (b1 = b1 ∧
               (Exists (fun (x35 : SecureD) => (((isSecure v1 x35 rs1) ∧
               (capSecure x35)) ∧
               (∀ v'36 : Value,
               (∀ rs'37 : (List Row),
               ((isSecure v'36 x35 rs'37) →
               (True ∧
                (Exists (fun (x38 : SecureD) => (((isSecure v'22 x38 rs'23) ∧
                ((isSecure v'36 x38 rs'37) ∧
                (capSecure x38))) ∧
                (True ∧
                (b20 = b20 ∧
                (Exists (fun (x39 : SecureD) => (((isSecure v'18 x39 rs'19) ∧
                ((capSecure x39) ∧
                (mrkC (1 : Int)))) ∧
                ((endC (1 : Int) (endSecure (1 : Int) x39) (67108864 : Int)) →
                (∀ rs'40 : (List Row),
                 ((isSecure v'18 (markSecureD (1 : Int) x39) rs'40) →
                 (b24 = b24 ∧
                  (Exists (fun (x41 : SecureD) => (((isSecure v'22 x41 rs'23) ∧
                  ((capSecure x41) ∧
                  (mrkC (endSecure (1 : Int) x39)))) ∧
                  ((endC (endSecure (1 : Int) x39) (endSecure (endSecure (1 : Int) x39) x41) (67108864 : Int)) →
                  (∀ rs'42 : (List Row),
                   ((isSecure v'22 (markSecureD (endSecure (1 : Int) x39) x41) rs'42) →
                   (((decide ((endSecure (endSecure (1 : Int) x39) x41) < (0 : Int))) = Bool.false →
                    (b29 = b29 ∧
                     (b16 = b16 ∧
                     (Exists (fun (x43 : SecureD) => (((isSecure v'27 x43 rs'28) ∧
                     ((isSecure v'14 x43 rs'15) ∧
                     (capSecure x43))) ∧
                     (b29 = b29 ∧
                     (Exists (fun (x44 : SecureD) => (((isSecure v'27 x44 rs'28) ∧
                     ((capSecure x44) ∧
                     (mrkC (1 : Int)))) ∧
                     ((endC (1 : Int) (endSecure (1 : Int) x44) (67108864 : Int)) →
                     (∀ rs'45 : (List Row),
                      ((isSecure v'27 (markSecureD (1 : Int) x44) rs'45) →
                      (b29 = b29 ∧
                       (Exists (fun (x46 : SecureD) => (((isSecure v'27 (markSecureD (1 : Int) x46) rs'45) ∧
                       ((capSecure x46) ∧
                       (mrkC (1 : Int)))) ∧
                       (((decide ((endSecure (1 : Int) x46) < (0 : Int))) = Bool.true →
                       (Value.bool Bool.false) = (Value.bool Bool.true)) ∧
                       ((decide ((endSecure (1 : Int) x46) < (0 : Int))) = Bool.false →
                       ((((endSecure (1 : Int) x46) != (endSecure (1 : Int) x44)) = Bool.true →
                        (Value.bool Bool.false) = (Value.bool Bool.true)) ∧
                        (((endSecure (1 : Int) x46) != (endSecure (1 : Int) x44)) = Bool.false →
                        (b0 = b0 ∧
                         (b1 = b1 ∧
                         ((Exists (fun (x47 : SecureD) => (((isSecure v0 x47 rs0) ∧
                         (capSecure x47)) ∧
                         (∀ v'48 : Value,
                         (∀ rs'49 : (List Row),
                         ((isSecure v'48 x47 rs'49) →
                         (True ∧
                          ((Exists (fun (x50 : SecureD) => (((isSecure v1 x50 rs1) ∧
                          (capSecure x50)) ∧
                          (∀ v'51 : Value,
                          (∀ rs'52 : (List Row),
                          ((isSecure v'51 x50 rs'52) →
                          (True ∧
                           ((Exists (fun (s53 : SecureD) => (Exists (fun (old54 : SecureD) => (((isSecure v'48 s53 rs'49) ∧
                           ((isSecure v'51 old54 rs'52) ∧
                           ((capSecure s53) ∧
                           (capSecure old54)))) ∧
                           (∀ v'55 : Value,
                           (∀ rs'56 : (List Row),
                           ((isSecure v'55 (pD s53 old54 aLine) rs'56) →
                           (True ∧
                            (∀ b57 : Nat,
                            (True ∧
                            ((b57 = b57 ∧
                            (wholeC Bool.true v'55 6)) ∧
                            (True ∧
                            (b57 = b57 ∧
                            (b16 = b16 ∧
                            (Exists (fun (x58 : SecureD) => (((isSecure v'55 x58 rs'56) ∧
                            ((isSecure v'14 x58 rs'15) ∧
                            (capSecure x58))) ∧
                            (b29 = b29 ∧
                            (Exists (fun (x59 : SecureD) => (((isSecure v'27 (markSecureD (1 : Int) x59) rs'45) ∧
                            ((capSecure x59) ∧
                            (mrkC (1 : Int)))) ∧
                            (((decide ((endSecure (1 : Int) x59) < (0 : Int))) = Bool.true →
                            (Value.bool Bool.false) = (Value.bool Bool.true)) ∧
                            ((decide ((endSecure (1 : Int) x59) < (0 : Int))) = Bool.false →
                            ((((endSecure (1 : Int) x59) != (endSecure (1 : Int) x44)) = Bool.true →
                             (Value.bool Bool.false) = (Value.bool Bool.true)) ∧
                             (((endSecure (1 : Int) x59) != (endSecure (1 : Int) x44)) = Bool.false →
                             (Value.bool Bool.true) = (Value.bool Bool.true))))))))))))))))))))))))))) ∧
                           (∀ b60 : Nat,
                           (True ∧
                           (Exists (fun (s61 : SecureD) => (Exists (fun (old62 : SecureD) => (((isSecure v'48 s61 rs'49) ∧
                           ((isSecure v'51 old62 rs'52) ∧
                           ((capSecure s61) ∧
                           (capSecure old62)))) ∧
                           (∀ v'63 : Value,
                           (∀ rs'64 : (List Row),
                           ((isSecure v'63 (pD s61 old62 aLine) rs'64) →
                           (True ∧
                            ((b60 = b60 ∧
                            (wholeC Bool.true v'63 6)) ∧
                            (True ∧
                            (b60 = b60 ∧
                            (b16 = b16 ∧
                            (Exists (fun (x65 : SecureD) => (((isSecure v'63 x65 rs'64) ∧
                            ((isSecure v'14 x65 rs'15) ∧
                            (capSecure x65))) ∧
                            (b29 = b29 ∧
                            (Exists (fun (x66 : SecureD) => (((isSecure v'27 (markSecureD (1 : Int) x66) rs'45) ∧
                            ((capSecure x66) ∧
                            (mrkC (1 : Int)))) ∧
                            (((decide ((endSecure (1 : Int) x66) < (0 : Int))) = Bool.true →
                            (Value.bool Bool.false) = (Value.bool Bool.true)) ∧
                            ((decide ((endSecure (1 : Int) x66) < (0 : Int))) = Bool.false →
                            ((((endSecure (1 : Int) x66) != (endSecure (1 : Int) x44)) = Bool.true →
                             (Value.bool Bool.false) = (Value.bool Bool.true)) ∧
                             (((endSecure (1 : Int) x66) != (endSecure (1 : Int) x44)) = Bool.false →
                             (Value.bool Bool.true) = (Value.bool Bool.true))))))))))))))))))))))))))))))))))) ∧
                          (∀ b67 : Nat,
                          (True ∧
                          (Exists (fun (x68 : SecureD) => (((isSecure v1 x68 rs1) ∧
                          (capSecure x68)) ∧
                          (∀ v'69 : Value,
                          (∀ rs'70 : (List Row),
                          ((isSecure v'69 x68 rs'70) →
                          (True ∧
                           (Exists (fun (s71 : SecureD) => (Exists (fun (old72 : SecureD) => (((isSecure v'48 s71 rs'49) ∧
                           ((isSecure v'69 old72 rs'70) ∧
                           ((capSecure s71) ∧
                           (capSecure old72)))) ∧
                           (∀ v'73 : Value,
                           (∀ rs'74 : (List Row),
                           ((isSecure v'73 (pD s71 old72 aLine) rs'74) →
                           (True ∧
                            ((b67 = b67 ∧
                            (wholeC Bool.true v'73 6)) ∧
                            (True ∧
                            (b67 = b67 ∧
                            (b16 = b16 ∧
                            (Exists (fun (x75 : SecureD) => (((isSecure v'73 x75 rs'74) ∧
                            ((isSecure v'14 x75 rs'15) ∧
                            (capSecure x75))) ∧
                            (b29 = b29 ∧
                            (Exists (fun (x76 : SecureD) => (((isSecure v'27 (markSecureD (1 : Int) x76) rs'45) ∧
                            ((capSecure x76) ∧
                            (mrkC (1 : Int)))) ∧
                            (((decide ((endSecure (1 : Int) x76) < (0 : Int))) = Bool.true →
                            (Value.bool Bool.false) = (Value.bool Bool.true)) ∧
                            ((decide ((endSecure (1 : Int) x76) < (0 : Int))) = Bool.false →
                            ((((endSecure (1 : Int) x76) != (endSecure (1 : Int) x44)) = Bool.true →
                             (Value.bool Bool.false) = (Value.bool Bool.true)) ∧
                             (((endSecure (1 : Int) x76) != (endSecure (1 : Int) x44)) = Bool.false →
                             (Value.bool Bool.true) = (Value.bool Bool.true)))))))))))))))))))))))))))))))))))))))))) ∧
                         (∀ b77 : Nat,
                         (True ∧
                         (Exists (fun (x78 : SecureD) => (((isSecure v0 x78 rs0) ∧
                         (capSecure x78)) ∧
                         (∀ v'79 : Value,
                         (∀ rs'80 : (List Row),
                         ((isSecure v'79 x78 rs'80) →
                         (True ∧
                          (Exists (fun (x81 : SecureD) => (((isSecure v1 x81 rs1) ∧
                          (capSecure x81)) ∧
                          (∀ v'82 : Value,
                          (∀ rs'83 : (List Row),
                          ((isSecure v'82 x81 rs'83) →
                          (True ∧
                           (Exists (fun (s84 : SecureD) => (Exists (fun (old85 : SecureD) => (((isSecure v'79 s84 rs'80) ∧
                           ((isSecure v'82 old85 rs'83) ∧
                           ((capSecure s84) ∧
                           (capSecure old85)))) ∧
                           (∀ v'86 : Value,
                           (∀ rs'87 : (List Row),
                           ((isSecure v'86 (pD s84 old85 aLine) rs'87) →
                           (True ∧
                            ((b77 = b77 ∧
                            (wholeC Bool.true v'86 6)) ∧
                            (True ∧
                            (b77 = b77 ∧
                            (b16 = b16 ∧
                            (Exists (fun (x88 : SecureD) => (((isSecure v'86 x88 rs'87) ∧
                            ((isSecure v'14 x88 rs'15) ∧
                            (capSecure x88))) ∧
                            (b29 = b29 ∧
                            (Exists (fun (x89 : SecureD) => (((isSecure v'27 (markSecureD (1 : Int) x89) rs'45) ∧
                            ((capSecure x89) ∧
                            (mrkC (1 : Int)))) ∧
                            (((decide ((endSecure (1 : Int) x89) < (0 : Int))) = Bool.true →
                            (Value.bool Bool.false) = (Value.bool Bool.true)) ∧
                            ((decide ((endSecure (1 : Int) x89) < (0 : Int))) = Bool.false →
                            ((((endSecure (1 : Int) x89) != (endSecure (1 : Int) x44)) = Bool.true →
                             (Value.bool Bool.false) = (Value.bool Bool.true)) ∧
                             (((endSecure (1 : Int) x89) != (endSecure (1 : Int) x44)) = Bool.false →
                             (Value.bool Bool.true) = (Value.bool Bool.true))))))))))))))))))))))))))))))))))))))))))))))))))))))))))))))))) ∧
                    ((decide ((endSecure (endSecure (1 : Int) x39) x41) < (0 : Int))) = Bool.true →
                    (Value.bool Bool.false) = (Value.bool Bool.true))))))))))))))))))))))))))))))))))))))))))))))))))))))))))))))))))))))))))))))))))))))))))) ∧
          (∀ b90 : Nat,
          (True ∧
          (Exists (fun (s91 : SecureD) => (Exists (fun (old92 : SecureD) => (((isSecure v'7 s91 rs'8) ∧
          ((isSecure v'10 old92 rs'11) ∧
          ((capSecure s91) ∧
          (capSecure old92)))) ∧
          (∀ v'93 : Value,
          (∀ rs'94 : (List Row),
          ((isSecure v'93 (pD s91 old92 aLine) rs'94) →
          (True ∧
           ((b90 = b90 ∧
           (wholeC Bool.true v'93 6)) ∧
           (True ∧
           (b0 = b0 ∧
           (Exists (fun (x95 : SecureD) => (((isSecure v0 x95 rs0) ∧
           (capSecure x95)) ∧
           (∀ v'96 : Value,
           (∀ rs'97 : (List Row),
           ((isSecure v'96 x95 rs'97) →
           (∀ b98 : Nat,
            ((b98 = b98 ∧
            (wholeC Bool.true v'96 6)) ∧
            (b1 = b1 ∧
            (Exists (fun (x99 : SecureD) => (((isSecure v1 x99 rs1) ∧
            (capSecure x99)) ∧
            (∀ v'100 : Value,
            (∀ rs'101 : (List Row),
            ((isSecure v'100 x99 rs'101) →
            (∀ b102 : Nat,
             ((b102 = b102 ∧
             (wholeC Bool.true v'100 6)) ∧
             (b98 = b98 ∧
             (b102 = b102 ∧
             (Exists (fun (s103 : SecureD) => (Exists (fun (old104 : SecureD) => (((isSecure v'96 s103 rs'97) ∧
             ((isSecure v'100 old104 rs'101) ∧
             ((capSecure s103) ∧
             (capSecure old104)))) ∧
             (∀ v'105 : Value,
             (∀ rs'106 : (List Row),
             ((isSecure v'105 (pD s103 old104 aLine) rs'106) →
             (∀ b107 : Nat,
              ((b107 = b107 ∧
              (wholeC Bool.true v'105 6)) ∧
              (b107 = b107 ∧
              (b90 = b90 ∧
              (Exists (fun (x108 : SecureD) => (((isSecure v'105 x108 rs'106) ∧
              ((isSecure v'93 x108 rs'94) ∧
              (capSecure x108))) ∧
              (b98 = b98 ∧
              (b0 = b0 ∧
              (Exists (fun (x109 : SecureD) => (((isSecure v0 x109 rs0) ∧
              (capSecure x109)) ∧
              (∀ v'110 : Value,
              (∀ rs'111 : (List Row),
              ((isSecure v'110 x109 rs'111) →
              (True ∧
               (Exists (fun (x112 : SecureD) => (((isSecure v'96 x112 rs'97) ∧
               ((isSecure v'110 x112 rs'111) ∧
               (capSecure x112))) ∧
               (True ∧
               (b102 = b102 ∧
               (b1 = b1 ∧
               (Exists (fun (x113 : SecureD) => (((isSecure v1 x113 rs1) ∧
               (capSecure x113)) ∧
               (∀ v'114 : Value,
               (∀ rs'115 : (List Row),
               ((isSecure v'114 x113 rs'115) →
               (True ∧
                (Exists (fun (x116 : SecureD) => (((isSecure v'100 x116 rs'101) ∧
                ((isSecure v'114 x116 rs'115) ∧
                (capSecure x116))) ∧
                (True ∧
                (b98 = b98 ∧
                (Exists (fun (x117 : SecureD) => (((isSecure v'96 x117 rs'97) ∧
                ((capSecure x117) ∧
                (mrkC (1 : Int)))) ∧
                ((endC (1 : Int) (endSecure (1 : Int) x117) (67108864 : Int)) →
                (∀ rs'118 : (List Row),
                 ((isSecure v'96 (markSecureD (1 : Int) x117) rs'118) →
                 (b102 = b102 ∧
                  (Exists (fun (x119 : SecureD) => (((isSecure v'100 x119 rs'101) ∧
                  ((capSecure x119) ∧
                  (mrkC (endSecure (1 : Int) x117)))) ∧
                  ((endC (endSecure (1 : Int) x117) (endSecure (endSecure (1 : Int) x117) x119) (67108864 : Int)) →
                  (∀ rs'120 : (List Row),
                   ((isSecure v'100 (markSecureD (endSecure (1 : Int) x117) x119) rs'120) →
                   (((decide ((endSecure (endSecure (1 : Int) x117) x119) < (0 : Int))) = Bool.false →
                    (b107 = b107 ∧
                     (b90 = b90 ∧
                     (Exists (fun (x121 : SecureD) => (((isSecure v'105 x121 rs'106) ∧
                     ((isSecure v'93 x121 rs'94) ∧
                     (capSecure x121))) ∧
                     (b107 = b107 ∧
                     (Exists (fun (x122 : SecureD) => (((isSecure v'105 x122 rs'106) ∧
                     ((capSecure x122) ∧
                     (mrkC (1 : Int)))) ∧
                     ((endC (1 : Int) (endSecure (1 : Int) x122) (67108864 : Int)) →
                     (∀ rs'123 : (List Row),
                      ((isSecure v'105 (markSecureD (1 : Int) x122) rs'123) →
                      (b107 = b107 ∧
                       (Exists (fun (x124 : SecureD) => (((isSecure v'105 (markSecureD (1 : Int) x124) rs'123) ∧
                       ((capSecure x124) ∧
                       (mrkC (1 : Int)))) ∧
                       (((decide ((endSecure (1 : Int) x124) < (0 : Int))) = Bool.true →
                       (Value.bool Bool.false) = (Value.bool Bool.true)) ∧
                       ((decide ((endSecure (1 : Int) x124) < (0 : Int))) = Bool.false →
                       ((((endSecure (1 : Int) x124) != (endSecure (1 : Int) x122)) = Bool.true →
                        (Value.bool Bool.false) = (Value.bool Bool.true)) ∧
                        (((endSecure (1 : Int) x124) != (endSecure (1 : Int) x122)) = Bool.false →
                        (b0 = b0 ∧
                         (b1 = b1 ∧
                         ((Exists (fun (x125 : SecureD) => (((isSecure v0 x125 rs0) ∧
                         (capSecure x125)) ∧
                         (∀ v'126 : Value,
                         (∀ rs'127 : (List Row),
                         ((isSecure v'126 x125 rs'127) →
                         (True ∧
                          ((Exists (fun (x128 : SecureD) => (((isSecure v1 x128 rs1) ∧
                          (capSecure x128)) ∧
                          (∀ v'129 : Value,
                          (∀ rs'130 : (List Row),
                          ((isSecure v'129 x128 rs'130) →
                          (True ∧
                           ((Exists (fun (s131 : SecureD) => (Exists (fun (old132 : SecureD) => (((isSecure v'126 s131 rs'127) ∧
                           ((isSecure v'129 old132 rs'130) ∧
                           ((capSecure s131) ∧
                           (capSecure old132)))) ∧
                           (∀ v'133 : Value,
                           (∀ rs'134 : (List Row),
                           ((isSecure v'133 (pD s131 old132 aLine) rs'134) →
                           (True ∧
                            (∀ b135 : Nat,
                            (True ∧
                            ((b135 = b135 ∧
                            (wholeC Bool.true v'133 6)) ∧
                            (True ∧
                            (b135 = b135 ∧
                            (b90 = b90 ∧
                            (Exists (fun (x136 : SecureD) => (((isSecure v'133 x136 rs'134) ∧
                            ((isSecure v'93 x136 rs'94) ∧
                            (capSecure x136))) ∧
                            (b107 = b107 ∧
                            (Exists (fun (x137 : SecureD) => (((isSecure v'105 (markSecureD (1 : Int) x137) rs'123) ∧
                            ((capSecure x137) ∧
                            (mrkC (1 : Int)))) ∧
                            (((decide ((endSecure (1 : Int) x137) < (0 : Int))) = Bool.true →
                            (Value.bool Bool.false) = (Value.bool Bool.true)) ∧
                            ((decide ((endSecure (1 : Int) x137) < (0 : Int))) = Bool.false →
                            ((((endSecure (1 : Int) x137) != (endSecure (1 : Int) x122)) = Bool.true →
                             (Value.bool Bool.false) = (Value.bool Bool.true)) ∧
                             (((endSecure (1 : Int) x137) != (endSecure (1 : Int) x122)) = Bool.false →
                             (Value.bool Bool.true) = (Value.bool Bool.true))))))))))))))))))))))))))) ∧
                           (∀ b138 : Nat,
                           (True ∧
                           (Exists (fun (s139 : SecureD) => (Exists (fun (old140 : SecureD) => (((isSecure v'126 s139 rs'127) ∧
                           ((isSecure v'129 old140 rs'130) ∧
                           ((capSecure s139) ∧
                           (capSecure old140)))) ∧
                           (∀ v'141 : Value,
                           (∀ rs'142 : (List Row),
                           ((isSecure v'141 (pD s139 old140 aLine) rs'142) →
                           (True ∧
                            ((b138 = b138 ∧
                            (wholeC Bool.true v'141 6)) ∧
                            (True ∧
                            (b138 = b138 ∧
                            (b90 = b90 ∧
                            (Exists (fun (x143 : SecureD) => (((isSecure v'141 x143 rs'142) ∧
                            ((isSecure v'93 x143 rs'94) ∧
                            (capSecure x143))) ∧
                            (b107 = b107 ∧
                            (Exists (fun (x144 : SecureD) => (((isSecure v'105 (markSecureD (1 : Int) x144) rs'123) ∧
                            ((capSecure x144) ∧
                            (mrkC (1 : Int)))) ∧
                            (((decide ((endSecure (1 : Int) x144) < (0 : Int))) = Bool.true →
                            (Value.bool Bool.false) = (Value.bool Bool.true)) ∧
                            ((decide ((endSecure (1 : Int) x144) < (0 : Int))) = Bool.false →
                            ((((endSecure (1 : Int) x144) != (endSecure (1 : Int) x122)) = Bool.true →
                             (Value.bool Bool.false) = (Value.bool Bool.true)) ∧
                             (((endSecure (1 : Int) x144) != (endSecure (1 : Int) x122)) = Bool.false →
                             (Value.bool Bool.true) = (Value.bool Bool.true))))))))))))))))))))))))))))))))))) ∧
                          (∀ b145 : Nat,
                          (True ∧
                          (Exists (fun (x146 : SecureD) => (((isSecure v1 x146 rs1) ∧
                          (capSecure x146)) ∧
                          (∀ v'147 : Value,
                          (∀ rs'148 : (List Row),
                          ((isSecure v'147 x146 rs'148) →
                          (True ∧
                           (Exists (fun (s149 : SecureD) => (Exists (fun (old150 : SecureD) => (((isSecure v'126 s149 rs'127) ∧
                           ((isSecure v'147 old150 rs'148) ∧
                           ((capSecure s149) ∧
                           (capSecure old150)))) ∧
                           (∀ v'151 : Value,
                           (∀ rs'152 : (List Row),
                           ((isSecure v'151 (pD s149 old150 aLine) rs'152) →
                           (True ∧
                            ((b145 = b145 ∧
                            (wholeC Bool.true v'151 6)) ∧
                            (True ∧
                            (b145 = b145 ∧
                            (b90 = b90 ∧
                            (Exists (fun (x153 : SecureD) => (((isSecure v'151 x153 rs'152) ∧
                            ((isSecure v'93 x153 rs'94) ∧
                            (capSecure x153))) ∧
                            (b107 = b107 ∧
                            (Exists (fun (x154 : SecureD) => (((isSecure v'105 (markSecureD (1 : Int) x154) rs'123) ∧
                            ((capSecure x154) ∧
                            (mrkC (1 : Int)))) ∧
                            (((decide ((endSecure (1 : Int) x154) < (0 : Int))) = Bool.true →
                            (Value.bool Bool.false) = (Value.bool Bool.true)) ∧
                            ((decide ((endSecure (1 : Int) x154) < (0 : Int))) = Bool.false →
                            ((((endSecure (1 : Int) x154) != (endSecure (1 : Int) x122)) = Bool.true →
                             (Value.bool Bool.false) = (Value.bool Bool.true)) ∧
                             (((endSecure (1 : Int) x154) != (endSecure (1 : Int) x122)) = Bool.false →
                             (Value.bool Bool.true) = (Value.bool Bool.true)))))))))))))))))))))))))))))))))))))))))) ∧
                         (∀ b155 : Nat,
                         (True ∧
                         (Exists (fun (x156 : SecureD) => (((isSecure v0 x156 rs0) ∧
                         (capSecure x156)) ∧
                         (∀ v'157 : Value,
                         (∀ rs'158 : (List Row),
                         ((isSecure v'157 x156 rs'158) →
                         (True ∧
                          (Exists (fun (x159 : SecureD) => (((isSecure v1 x159 rs1) ∧
                          (capSecure x159)) ∧
                          (∀ v'160 : Value,
                          (∀ rs'161 : (List Row),
                          ((isSecure v'160 x159 rs'161) →
                          (True ∧
                           (Exists (fun (s162 : SecureD) => (Exists (fun (old163 : SecureD) => (((isSecure v'157 s162 rs'158) ∧
                           ((isSecure v'160 old163 rs'161) ∧
                           ((capSecure s162) ∧
                           (capSecure old163)))) ∧
                           (∀ v'164 : Value,
                           (∀ rs'165 : (List Row),
                           ((isSecure v'164 (pD s162 old163 aLine) rs'165) →
                           (True ∧
                            ((b155 = b155 ∧
                            (wholeC Bool.true v'164 6)) ∧
                            (True ∧
                            (b155 = b155 ∧
                            (b90 = b90 ∧
                            (Exists (fun (x166 : SecureD) => (((isSecure v'164 x166 rs'165) ∧
                            ((isSecure v'93 x166 rs'94) ∧
                            (capSecure x166))) ∧
                            (b107 = b107 ∧
                            (Exists (fun (x167 : SecureD) => (((isSecure v'105 (markSecureD (1 : Int) x167) rs'123) ∧
                            ((capSecure x167) ∧
                            (mrkC (1 : Int)))) ∧
                            (((decide ((endSecure (1 : Int) x167) < (0 : Int))) = Bool.true →
                            (Value.bool Bool.false) = (Value.bool Bool.true)) ∧
                            ((decide ((endSecure (1 : Int) x167) < (0 : Int))) = Bool.false →
                            ((((endSecure (1 : Int) x167) != (endSecure (1 : Int) x122)) = Bool.true →
                             (Value.bool Bool.false) = (Value.bool Bool.true)) ∧
                             (((endSecure (1 : Int) x167) != (endSecure (1 : Int) x122)) = Bool.false →
                             (Value.bool Bool.true) = (Value.bool Bool.true))))))))))))))))))))))))))))))))))))))))))))))))))))))))))))))))) ∧
                    ((decide ((endSecure (endSecure (1 : Int) x117) x119) < (0 : Int))) = Bool.true →
                    (Value.bool Bool.false) = (Value.bool Bool.true))))))))))))))))))))))))))))))))))))))))))))))))))))))))))))))))))))))))))))))))))))))))))))))))))) ∧
         (∀ b168 : Nat,
         (True ∧
         (Exists (fun (x169 : SecureD) => (((isSecure v1 x169 rs1) ∧
         (capSecure x169)) ∧
         (∀ v'170 : Value,
         (∀ rs'171 : (List Row),
         ((isSecure v'170 x169 rs'171) →
         (True ∧
          (Exists (fun (s172 : SecureD) => (Exists (fun (old173 : SecureD) => (((isSecure v'7 s172 rs'8) ∧
          ((isSecure v'170 old173 rs'171) ∧
          ((capSecure s172) ∧
          (capSecure old173)))) ∧
          (∀ v'174 : Value,
          (∀ rs'175 : (List Row),
          ((isSecure v'174 (pD s172 old173 aLine) rs'175) →
          (True ∧
           ((b168 = b168 ∧
           (wholeC Bool.true v'174 6)) ∧
           (True ∧
           (b0 = b0 ∧
           (Exists (fun (x176 : SecureD) => (((isSecure v0 x176 rs0) ∧
           (capSecure x176)) ∧
           (∀ v'177 : Value,
           (∀ rs'178 : (List Row),
           ((isSecure v'177 x176 rs'178) →
           (∀ b179 : Nat,
            ((b179 = b179 ∧
            (wholeC Bool.true v'177 6)) ∧
            (b1 = b1 ∧
            (Exists (fun (x180 : SecureD) => (((isSecure v1 x180 rs1) ∧
            (capSecure x180)) ∧
            (∀ v'181 : Value,
            (∀ rs'182 : (List Row),
            ((isSecure v'181 x180 rs'182) →
            (∀ b183 : Nat,
             ((b183 = b183 ∧
             (wholeC Bool.true v'181 6)) ∧
             (b179 = b179 ∧
             (b183 = b183 ∧
             (Exists (fun (s184 : SecureD) => (Exists (fun (old185 : SecureD) => (((isSecure v'177 s184 rs'178) ∧
             ((isSecure v'181 old185 rs'182) ∧
             ((capSecure s184) ∧
             (capSecure old185)))) ∧
             (∀ v'186 : Value,
             (∀ rs'187 : (List Row),
             ((isSecure v'186 (pD s184 old185 aLine) rs'187) →
             (∀ b188 : Nat,
              ((b188 = b188 ∧
              (wholeC Bool.true v'186 6)) ∧
              (b188 = b188 ∧
              (b168 = b168 ∧
              (Exists (fun (x189 : SecureD) => (((isSecure v'186 x189 rs'187) ∧
              ((isSecure v'174 x189 rs'175) ∧
              (capSecure x189))) ∧
              (b179 = b179 ∧
              (b0 = b0 ∧
              (Exists (fun (x190 : SecureD) => (((isSecure v0 x190 rs0) ∧
              (capSecure x190)) ∧
              (∀ v'191 : Value,
              (∀ rs'192 : (List Row),
              ((isSecure v'191 x190 rs'192) →
              (True ∧
               (Exists (fun (x193 : SecureD) => (((isSecure v'177 x193 rs'178) ∧
               ((isSecure v'191 x193 rs'192) ∧
               (capSecure x193))) ∧
               (True ∧
               (b183 = b183 ∧
               (b1 = b1 ∧
               (Exists (fun (x194 : SecureD) => (((isSecure v1 x194 rs1) ∧
               (capSecure x194)) ∧
               (∀ v'195 : Value,
               (∀ rs'196 : (List Row),
               ((isSecure v'195 x194 rs'196) →
               (True ∧
                (Exists (fun (x197 : SecureD) => (((isSecure v'181 x197 rs'182) ∧
                ((isSecure v'195 x197 rs'196) ∧
                (capSecure x197))) ∧
                (True ∧
                (b179 = b179 ∧
                (Exists (fun (x198 : SecureD) => (((isSecure v'177 x198 rs'178) ∧
                ((capSecure x198) ∧
                (mrkC (1 : Int)))) ∧
                ((endC (1 : Int) (endSecure (1 : Int) x198) (67108864 : Int)) →
                (∀ rs'199 : (List Row),
                 ((isSecure v'177 (markSecureD (1 : Int) x198) rs'199) →
                 (b183 = b183 ∧
                  (Exists (fun (x200 : SecureD) => (((isSecure v'181 x200 rs'182) ∧
                  ((capSecure x200) ∧
                  (mrkC (endSecure (1 : Int) x198)))) ∧
                  ((endC (endSecure (1 : Int) x198) (endSecure (endSecure (1 : Int) x198) x200) (67108864 : Int)) →
                  (∀ rs'201 : (List Row),
                   ((isSecure v'181 (markSecureD (endSecure (1 : Int) x198) x200) rs'201) →
                   (((decide ((endSecure (endSecure (1 : Int) x198) x200) < (0 : Int))) = Bool.false →
                    (b188 = b188 ∧
                     (b168 = b168 ∧
                     (Exists (fun (x202 : SecureD) => (((isSecure v'186 x202 rs'187) ∧
                     ((isSecure v'174 x202 rs'175) ∧
                     (capSecure x202))) ∧
                     (b188 = b188 ∧
                     (Exists (fun (x203 : SecureD) => (((isSecure v'186 x203 rs'187) ∧
                     ((capSecure x203) ∧
                     (mrkC (1 : Int)))) ∧
                     ((endC (1 : Int) (endSecure (1 : Int) x203) (67108864 : Int)) →
                     (∀ rs'204 : (List Row),
                      ((isSecure v'186 (markSecureD (1 : Int) x203) rs'204) →
                      (b188 = b188 ∧
                       (Exists (fun (x205 : SecureD) => (((isSecure v'186 (markSecureD (1 : Int) x205) rs'204) ∧
                       ((capSecure x205) ∧
                       (mrkC (1 : Int)))) ∧
                       (((decide ((endSecure (1 : Int) x205) < (0 : Int))) = Bool.true →
                       (Value.bool Bool.false) = (Value.bool Bool.true)) ∧
                       ((decide ((endSecure (1 : Int) x205) < (0 : Int))) = Bool.false →
                       ((((endSecure (1 : Int) x205) != (endSecure (1 : Int) x203)) = Bool.true →
                        (Value.bool Bool.false) = (Value.bool Bool.true)) ∧
                        (((endSecure (1 : Int) x205) != (endSecure (1 : Int) x203)) = Bool.false →
                        (b0 = b0 ∧
                         (b1 = b1 ∧
                         ((Exists (fun (x206 : SecureD) => (((isSecure v0 x206 rs0) ∧
                         (capSecure x206)) ∧
                         (∀ v'207 : Value,
                         (∀ rs'208 : (List Row),
                         ((isSecure v'207 x206 rs'208) →
                         (True ∧
                          ((Exists (fun (x209 : SecureD) => (((isSecure v1 x209 rs1) ∧
                          (capSecure x209)) ∧
                          (∀ v'210 : Value,
                          (∀ rs'211 : (List Row),
                          ((isSecure v'210 x209 rs'211) →
                          (True ∧
                           ((Exists (fun (s212 : SecureD) => (Exists (fun (old213 : SecureD) => (((isSecure v'207 s212 rs'208) ∧
                           ((isSecure v'210 old213 rs'211) ∧
                           ((capSecure s212) ∧
                           (capSecure old213)))) ∧
                           (∀ v'214 : Value,
                           (∀ rs'215 : (List Row),
                           ((isSecure v'214 (pD s212 old213 aLine) rs'215) →
                           (True ∧
                            (∀ b216 : Nat,
                            (True ∧
                            ((b216 = b216 ∧
                            (wholeC Bool.true v'214 6)) ∧
                            (True ∧
                            (b216 = b216 ∧
                            (b168 = b168 ∧
                            (Exists (fun (x217 : SecureD) => (((isSecure v'214 x217 rs'215) ∧
                            ((isSecure v'174 x217 rs'175) ∧
                            (capSecure x217))) ∧
                            (b188 = b188 ∧
                            (Exists (fun (x218 : SecureD) => (((isSecure v'186 (markSecureD (1 : Int) x218) rs'204) ∧
                            ((capSecure x218) ∧
                            (mrkC (1 : Int)))) ∧
                            (((decide ((endSecure (1 : Int) x218) < (0 : Int))) = Bool.true →
                            (Value.bool Bool.false) = (Value.bool Bool.true)) ∧
                            ((decide ((endSecure (1 : Int) x218) < (0 : Int))) = Bool.false →
                            ((((endSecure (1 : Int) x218) != (endSecure (1 : Int) x203)) = Bool.true →
                             (Value.bool Bool.false) = (Value.bool Bool.true)) ∧
                             (((endSecure (1 : Int) x218) != (endSecure (1 : Int) x203)) = Bool.false →
                             (Value.bool Bool.true) = (Value.bool Bool.true))))))))))))))))))))))))))) ∧
                           (∀ b219 : Nat,
                           (True ∧
                           (Exists (fun (s220 : SecureD) => (Exists (fun (old221 : SecureD) => (((isSecure v'207 s220 rs'208) ∧
                           ((isSecure v'210 old221 rs'211) ∧
                           ((capSecure s220) ∧
                           (capSecure old221)))) ∧
                           (∀ v'222 : Value,
                           (∀ rs'223 : (List Row),
                           ((isSecure v'222 (pD s220 old221 aLine) rs'223) →
                           (True ∧
                            ((b219 = b219 ∧
                            (wholeC Bool.true v'222 6)) ∧
                            (True ∧
                            (b219 = b219 ∧
                            (b168 = b168 ∧
                            (Exists (fun (x224 : SecureD) => (((isSecure v'222 x224 rs'223) ∧
                            ((isSecure v'174 x224 rs'175) ∧
                            (capSecure x224))) ∧
                            (b188 = b188 ∧
                            (Exists (fun (x225 : SecureD) => (((isSecure v'186 (markSecureD (1 : Int) x225) rs'204) ∧
                            ((capSecure x225) ∧
                            (mrkC (1 : Int)))) ∧
                            (((decide ((endSecure (1 : Int) x225) < (0 : Int))) = Bool.true →
                            (Value.bool Bool.false) = (Value.bool Bool.true)) ∧
                            ((decide ((endSecure (1 : Int) x225) < (0 : Int))) = Bool.false →
                            ((((endSecure (1 : Int) x225) != (endSecure (1 : Int) x203)) = Bool.true →
                             (Value.bool Bool.false) = (Value.bool Bool.true)) ∧
                             (((endSecure (1 : Int) x225) != (endSecure (1 : Int) x203)) = Bool.false →
                             (Value.bool Bool.true) = (Value.bool Bool.true))))))))))))))))))))))))))))))))))) ∧
                          (∀ b226 : Nat,
                          (True ∧
                          (Exists (fun (x227 : SecureD) => (((isSecure v1 x227 rs1) ∧
                          (capSecure x227)) ∧
                          (∀ v'228 : Value,
                          (∀ rs'229 : (List Row),
                          ((isSecure v'228 x227 rs'229) →
                          (True ∧
                           (Exists (fun (s230 : SecureD) => (Exists (fun (old231 : SecureD) => (((isSecure v'207 s230 rs'208) ∧
                           ((isSecure v'228 old231 rs'229) ∧
                           ((capSecure s230) ∧
                           (capSecure old231)))) ∧
                           (∀ v'232 : Value,
                           (∀ rs'233 : (List Row),
                           ((isSecure v'232 (pD s230 old231 aLine) rs'233) →
                           (True ∧
                            ((b226 = b226 ∧
                            (wholeC Bool.true v'232 6)) ∧
                            (True ∧
                            (b226 = b226 ∧
                            (b168 = b168 ∧
                            (Exists (fun (x234 : SecureD) => (((isSecure v'232 x234 rs'233) ∧
                            ((isSecure v'174 x234 rs'175) ∧
                            (capSecure x234))) ∧
                            (b188 = b188 ∧
                            (Exists (fun (x235 : SecureD) => (((isSecure v'186 (markSecureD (1 : Int) x235) rs'204) ∧
                            ((capSecure x235) ∧
                            (mrkC (1 : Int)))) ∧
                            (((decide ((endSecure (1 : Int) x235) < (0 : Int))) = Bool.true →
                            (Value.bool Bool.false) = (Value.bool Bool.true)) ∧
                            ((decide ((endSecure (1 : Int) x235) < (0 : Int))) = Bool.false →
                            ((((endSecure (1 : Int) x235) != (endSecure (1 : Int) x203)) = Bool.true →
                             (Value.bool Bool.false) = (Value.bool Bool.true)) ∧
                             (((endSecure (1 : Int) x235) != (endSecure (1 : Int) x203)) = Bool.false →
                             (Value.bool Bool.true) = (Value.bool Bool.true)))))))))))))))))))))))))))))))))))))))))) ∧
                         (∀ b236 : Nat,
                         (True ∧
                         (Exists (fun (x237 : SecureD) => (((isSecure v0 x237 rs0) ∧
                         (capSecure x237)) ∧
                         (∀ v'238 : Value,
                         (∀ rs'239 : (List Row),
                         ((isSecure v'238 x237 rs'239) →
                         (True ∧
                          (Exists (fun (x240 : SecureD) => (((isSecure v1 x240 rs1) ∧
                          (capSecure x240)) ∧
                          (∀ v'241 : Value,
                          (∀ rs'242 : (List Row),
                          ((isSecure v'241 x240 rs'242) →
                          (True ∧
                           (Exists (fun (s243 : SecureD) => (Exists (fun (old244 : SecureD) => (((isSecure v'238 s243 rs'239) ∧
                           ((isSecure v'241 old244 rs'242) ∧
                           ((capSecure s243) ∧
                           (capSecure old244)))) ∧
                           (∀ v'245 : Value,
                           (∀ rs'246 : (List Row),
                           ((isSecure v'245 (pD s243 old244 aLine) rs'246) →
                           (True ∧
                            ((b236 = b236 ∧
                            (wholeC Bool.true v'245 6)) ∧
                            (True ∧
                            (b236 = b236 ∧
                            (b168 = b168 ∧
                            (Exists (fun (x247 : SecureD) => (((isSecure v'245 x247 rs'246) ∧
                            ((isSecure v'174 x247 rs'175) ∧
                            (capSecure x247))) ∧
                            (b188 = b188 ∧
                            (Exists (fun (x248 : SecureD) => (((isSecure v'186 (markSecureD (1 : Int) x248) rs'204) ∧
                            ((capSecure x248) ∧
                            (mrkC (1 : Int)))) ∧
                            (((decide ((endSecure (1 : Int) x248) < (0 : Int))) = Bool.true →
                            (Value.bool Bool.false) = (Value.bool Bool.true)) ∧
                            ((decide ((endSecure (1 : Int) x248) < (0 : Int))) = Bool.false →
                            ((((endSecure (1 : Int) x248) != (endSecure (1 : Int) x203)) = Bool.true →
                             (Value.bool Bool.false) = (Value.bool Bool.true)) ∧
                             (((endSecure (1 : Int) x248) != (endSecure (1 : Int) x203)) = Bool.false →
                             (Value.bool Bool.true) = (Value.bool Bool.true))))))))))))))))))))))))))))))))))))))))))))))))))))))))))))))))) ∧
                    ((decide ((endSecure (endSecure (1 : Int) x198) x200) < (0 : Int))) = Bool.true →
                    (Value.bool Bool.false) = (Value.bool Bool.true)))))))))))))))))))))))))))))))))))))))))))))))))))))))))))))))))))))))))))))))))))))))))))))))))))))))))) ∧
        (∀ b249 : Nat,
        (True ∧
        (Exists (fun (x250 : SecureD) => (((isSecure v0 x250 rs0) ∧
        (capSecure x250)) ∧
        (∀ v'251 : Value,
        (∀ rs'252 : (List Row),
        ((isSecure v'251 x250 rs'252) →
        (True ∧
         (Exists (fun (x253 : SecureD) => (((isSecure v1 x253 rs1) ∧
         (capSecure x253)) ∧
         (∀ v'254 : Value,
         (∀ rs'255 : (List Row),
         ((isSecure v'254 x253 rs'255) →
         (True ∧
          (Exists (fun (s256 : SecureD) => (Exists (fun (old257 : SecureD) => (((isSecure v'251 s256 rs'252) ∧
          ((isSecure v'254 old257 rs'255) ∧
          ((capSecure s256) ∧
          (capSecure old257)))) ∧
          (∀ v'258 : Value,
          (∀ rs'259 : (List Row),
          ((isSecure v'258 (pD s256 old257 aLine) rs'259) →
          (True ∧
           ((b249 = b249 ∧
           (wholeC Bool.true v'258 6)) ∧
           (True ∧
           (b0 = b0 ∧
           (Exists (fun (x260 : SecureD) => (((isSecure v0 x260 rs0) ∧
           (capSecure x260)) ∧
           (∀ v'261 : Value,
           (∀ rs'262 : (List Row),
           ((isSecure v'261 x260 rs'262) →
           (∀ b263 : Nat,
            ((b263 = b263 ∧
            (wholeC Bool.true v'261 6)) ∧
            (b1 = b1 ∧
            (Exists (fun (x264 : SecureD) => (((isSecure v1 x264 rs1) ∧
            (capSecure x264)) ∧
            (∀ v'265 : Value,
            (∀ rs'266 : (List Row),
            ((isSecure v'265 x264 rs'266) →
            (∀ b267 : Nat,
             ((b267 = b267 ∧
             (wholeC Bool.true v'265 6)) ∧
             (b263 = b263 ∧
             (b267 = b267 ∧
             (Exists (fun (s268 : SecureD) => (Exists (fun (old269 : SecureD) => (((isSecure v'261 s268 rs'262) ∧
             ((isSecure v'265 old269 rs'266) ∧
             ((capSecure s268) ∧
             (capSecure old269)))) ∧
             (∀ v'270 : Value,
             (∀ rs'271 : (List Row),
             ((isSecure v'270 (pD s268 old269 aLine) rs'271) →
             (∀ b272 : Nat,
              ((b272 = b272 ∧
              (wholeC Bool.true v'270 6)) ∧
              (b272 = b272 ∧
              (b249 = b249 ∧
              (Exists (fun (x273 : SecureD) => (((isSecure v'270 x273 rs'271) ∧
              ((isSecure v'258 x273 rs'259) ∧
              (capSecure x273))) ∧
              (b263 = b263 ∧
              (b0 = b0 ∧
              (Exists (fun (x274 : SecureD) => (((isSecure v0 x274 rs0) ∧
              (capSecure x274)) ∧
              (∀ v'275 : Value,
              (∀ rs'276 : (List Row),
              ((isSecure v'275 x274 rs'276) →
              (True ∧
               (Exists (fun (x277 : SecureD) => (((isSecure v'261 x277 rs'262) ∧
               ((isSecure v'275 x277 rs'276) ∧
               (capSecure x277))) ∧
               (True ∧
               (b267 = b267 ∧
               (b1 = b1 ∧
               (Exists (fun (x278 : SecureD) => (((isSecure v1 x278 rs1) ∧
               (capSecure x278)) ∧
               (∀ v'279 : Value,
               (∀ rs'280 : (List Row),
               ((isSecure v'279 x278 rs'280) →
               (True ∧
                (Exists (fun (x281 : SecureD) => (((isSecure v'265 x281 rs'266) ∧
                ((isSecure v'279 x281 rs'280) ∧
                (capSecure x281))) ∧
                (True ∧
                (b263 = b263 ∧
                (Exists (fun (x282 : SecureD) => (((isSecure v'261 x282 rs'262) ∧
                ((capSecure x282) ∧
                (mrkC (1 : Int)))) ∧
                ((endC (1 : Int) (endSecure (1 : Int) x282) (67108864 : Int)) →
                (∀ rs'283 : (List Row),
                 ((isSecure v'261 (markSecureD (1 : Int) x282) rs'283) →
                 (b267 = b267 ∧
                  (Exists (fun (x284 : SecureD) => (((isSecure v'265 x284 rs'266) ∧
                  ((capSecure x284) ∧
                  (mrkC (endSecure (1 : Int) x282)))) ∧
                  ((endC (endSecure (1 : Int) x282) (endSecure (endSecure (1 : Int) x282) x284) (67108864 : Int)) →
                  (∀ rs'285 : (List Row),
                   ((isSecure v'265 (markSecureD (endSecure (1 : Int) x282) x284) rs'285) →
                   (((decide ((endSecure (endSecure (1 : Int) x282) x284) < (0 : Int))) = Bool.false →
                    (b272 = b272 ∧
                     (b249 = b249 ∧
                     (Exists (fun (x286 : SecureD) => (((isSecure v'270 x286 rs'271) ∧
                     ((isSecure v'258 x286 rs'259) ∧
                     (capSecure x286))) ∧
                     (b272 = b272 ∧
                     (Exists (fun (x287 : SecureD) => (((isSecure v'270 x287 rs'271) ∧
                     ((capSecure x287) ∧
                     (mrkC (1 : Int)))) ∧
                     ((endC (1 : Int) (endSecure (1 : Int) x287) (67108864 : Int)) →
                     (∀ rs'288 : (List Row),
                      ((isSecure v'270 (markSecureD (1 : Int) x287) rs'288) →
                      (b272 = b272 ∧
                       (Exists (fun (x289 : SecureD) => (((isSecure v'270 (markSecureD (1 : Int) x289) rs'288) ∧
                       ((capSecure x289) ∧
                       (mrkC (1 : Int)))) ∧
                       (((decide ((endSecure (1 : Int) x289) < (0 : Int))) = Bool.true →
                       (Value.bool Bool.false) = (Value.bool Bool.true)) ∧
                       ((decide ((endSecure (1 : Int) x289) < (0 : Int))) = Bool.false →
                       ((((endSecure (1 : Int) x289) != (endSecure (1 : Int) x287)) = Bool.true →
                        (Value.bool Bool.false) = (Value.bool Bool.true)) ∧
                        (((endSecure (1 : Int) x289) != (endSecure (1 : Int) x287)) = Bool.false →
                        (b0 = b0 ∧
                         (b1 = b1 ∧
                         ((Exists (fun (x290 : SecureD) => (((isSecure v0 x290 rs0) ∧
                         (capSecure x290)) ∧
                         (∀ v'291 : Value,
                         (∀ rs'292 : (List Row),
                         ((isSecure v'291 x290 rs'292) →
                         (True ∧
                          ((Exists (fun (x293 : SecureD) => (((isSecure v1 x293 rs1) ∧
                          (capSecure x293)) ∧
                          (∀ v'294 : Value,
                          (∀ rs'295 : (List Row),
                          ((isSecure v'294 x293 rs'295) →
                          (True ∧
                           ((Exists (fun (s296 : SecureD) => (Exists (fun (old297 : SecureD) => (((isSecure v'291 s296 rs'292) ∧
                           ((isSecure v'294 old297 rs'295) ∧
                           ((capSecure s296) ∧
                           (capSecure old297)))) ∧
                           (∀ v'298 : Value,
                           (∀ rs'299 : (List Row),
                           ((isSecure v'298 (pD s296 old297 aLine) rs'299) →
                           (True ∧
                            (∀ b300 : Nat,
                            (True ∧
                            ((b300 = b300 ∧
                            (wholeC Bool.true v'298 6)) ∧
                            (True ∧
                            (b300 = b300 ∧
                            (b249 = b249 ∧
                            (Exists (fun (x301 : SecureD) => (((isSecure v'298 x301 rs'299) ∧
                            ((isSecure v'258 x301 rs'259) ∧
                            (capSecure x301))) ∧
                            (b272 = b272 ∧
                            (Exists (fun (x302 : SecureD) => (((isSecure v'270 (markSecureD (1 : Int) x302) rs'288) ∧
                            ((capSecure x302) ∧
                            (mrkC (1 : Int)))) ∧
                            (((decide ((endSecure (1 : Int) x302) < (0 : Int))) = Bool.true →
                            (Value.bool Bool.false) = (Value.bool Bool.true)) ∧
                            ((decide ((endSecure (1 : Int) x302) < (0 : Int))) = Bool.false →
                            ((((endSecure (1 : Int) x302) != (endSecure (1 : Int) x287)) = Bool.true →
                             (Value.bool Bool.false) = (Value.bool Bool.true)) ∧
                             (((endSecure (1 : Int) x302) != (endSecure (1 : Int) x287)) = Bool.false →
                             (Value.bool Bool.true) = (Value.bool Bool.true))))))))))))))))))))))))))) ∧
                           (∀ b303 : Nat,
                           (True ∧
                           (Exists (fun (s304 : SecureD) => (Exists (fun (old305 : SecureD) => (((isSecure v'291 s304 rs'292) ∧
                           ((isSecure v'294 old305 rs'295) ∧
                           ((capSecure s304) ∧
                           (capSecure old305)))) ∧
                           (∀ v'306 : Value,
                           (∀ rs'307 : (List Row),
                           ((isSecure v'306 (pD s304 old305 aLine) rs'307) →
                           (True ∧
                            ((b303 = b303 ∧
                            (wholeC Bool.true v'306 6)) ∧
                            (True ∧
                            (b303 = b303 ∧
                            (b249 = b249 ∧
                            (Exists (fun (x308 : SecureD) => (((isSecure v'306 x308 rs'307) ∧
                            ((isSecure v'258 x308 rs'259) ∧
                            (capSecure x308))) ∧
                            (b272 = b272 ∧
                            (Exists (fun (x309 : SecureD) => (((isSecure v'270 (markSecureD (1 : Int) x309) rs'288) ∧
                            ((capSecure x309) ∧
                            (mrkC (1 : Int)))) ∧
                            (((decide ((endSecure (1 : Int) x309) < (0 : Int))) = Bool.true →
                            (Value.bool Bool.false) = (Value.bool Bool.true)) ∧
                            ((decide ((endSecure (1 : Int) x309) < (0 : Int))) = Bool.false →
                            ((((endSecure (1 : Int) x309) != (endSecure (1 : Int) x287)) = Bool.true →
                             (Value.bool Bool.false) = (Value.bool Bool.true)) ∧
                             (((endSecure (1 : Int) x309) != (endSecure (1 : Int) x287)) = Bool.false →
                             (Value.bool Bool.true) = (Value.bool Bool.true))))))))))))))))))))))))))))))))))) ∧
                          (∀ b310 : Nat,
                          (True ∧
                          (Exists (fun (x311 : SecureD) => (((isSecure v1 x311 rs1) ∧
                          (capSecure x311)) ∧
                          (∀ v'312 : Value,
                          (∀ rs'313 : (List Row),
                          ((isSecure v'312 x311 rs'313) →
                          (True ∧
                           (Exists (fun (s314 : SecureD) => (Exists (fun (old315 : SecureD) => (((isSecure v'291 s314 rs'292) ∧
                           ((isSecure v'312 old315 rs'313) ∧
                           ((capSecure s314) ∧
                           (capSecure old315)))) ∧
                           (∀ v'316 : Value,
                           (∀ rs'317 : (List Row),
                           ((isSecure v'316 (pD s314 old315 aLine) rs'317) →
                           (True ∧
                            ((b310 = b310 ∧
                            (wholeC Bool.true v'316 6)) ∧
                            (True ∧
                            (b310 = b310 ∧
                            (b249 = b249 ∧
                            (Exists (fun (x318 : SecureD) => (((isSecure v'316 x318 rs'317) ∧
                            ((isSecure v'258 x318 rs'259) ∧
                            (capSecure x318))) ∧
                            (b272 = b272 ∧
                            (Exists (fun (x319 : SecureD) => (((isSecure v'270 (markSecureD (1 : Int) x319) rs'288) ∧
                            ((capSecure x319) ∧
                            (mrkC (1 : Int)))) ∧
                            (((decide ((endSecure (1 : Int) x319) < (0 : Int))) = Bool.true →
                            (Value.bool Bool.false) = (Value.bool Bool.true)) ∧
                            ((decide ((endSecure (1 : Int) x319) < (0 : Int))) = Bool.false →
                            ((((endSecure (1 : Int) x319) != (endSecure (1 : Int) x287)) = Bool.true →
                             (Value.bool Bool.false) = (Value.bool Bool.true)) ∧
                             (((endSecure (1 : Int) x319) != (endSecure (1 : Int) x287)) = Bool.false →
                             (Value.bool Bool.true) = (Value.bool Bool.true)))))))))))))))))))))))))))))))))))))))))) ∧
                         (∀ b320 : Nat,
                         (True ∧
                         (Exists (fun (x321 : SecureD) => (((isSecure v0 x321 rs0) ∧
                         (capSecure x321)) ∧
                         (∀ v'322 : Value,
                         (∀ rs'323 : (List Row),
                         ((isSecure v'322 x321 rs'323) →
                         (True ∧
                          (Exists (fun (x324 : SecureD) => (((isSecure v1 x324 rs1) ∧
                          (capSecure x324)) ∧
                          (∀ v'325 : Value,
                          (∀ rs'326 : (List Row),
                          ((isSecure v'325 x324 rs'326) →
                          (True ∧
                           (Exists (fun (s327 : SecureD) => (Exists (fun (old328 : SecureD) => (((isSecure v'322 s327 rs'323) ∧
                           ((isSecure v'325 old328 rs'326) ∧
                           ((capSecure s327) ∧
                           (capSecure old328)))) ∧
                           (∀ v'329 : Value,
                           (∀ rs'330 : (List Row),
                           ((isSecure v'329 (pD s327 old328 aLine) rs'330) →
                           (True ∧
                            ((b320 = b320 ∧
                            (wholeC Bool.true v'329 6)) ∧
                            (True ∧
                            (b320 = b320 ∧
                            (b249 = b249 ∧
                            (Exists (fun (x331 : SecureD) => (((isSecure v'329 x331 rs'330) ∧
                            ((isSecure v'258 x331 rs'259) ∧
                            (capSecure x331))) ∧
                            (b272 = b272 ∧
                            (Exists (fun (x332 : SecureD) => (((isSecure v'270 (markSecureD (1 : Int) x332) rs'288) ∧
                            ((capSecure x332) ∧
                            (mrkC (1 : Int)))) ∧
                            (((decide ((endSecure (1 : Int) x332) < (0 : Int))) = Bool.true →
                            (Value.bool Bool.false) = (Value.bool Bool.true)) ∧
                            ((decide ((endSecure (1 : Int) x332) < (0 : Int))) = Bool.false →
                            ((((endSecure (1 : Int) x332) != (endSecure (1 : Int) x287)) = Bool.true →
                             (Value.bool Bool.false) = (Value.bool Bool.true)) ∧
                             (((endSecure (1 : Int) x332) != (endSecure (1 : Int) x287)) = Bool.false →
                             (Value.bool Bool.true) = (Value.bool Bool.true))))))))))))))))))))))))))))))))))))))))))))))))))))))))))))))))) ∧
                    ((decide ((endSecure (endSecure (1 : Int) x282) x284) < (0 : Int))) = Bool.true →
                    (Value.bool Bool.false) = (Value.bool Bool.true))))))))))))))))))))))))))))))))))))))))))))))))))))))))))))))))))))))))))))))))))))))))))))))))))))))))))))))))))))))))))))))))))))) := by kernel_rfl
theorem law_FnExactSecureReplay_any (v0 : Value) (rs0 : List Row) (v1 : Value) (rs1 : List Row) (aLine : Int) (W : World) (x0 : SecureD) (hx0 : isSecure v0 x0 rs0) (hw0 : ∀ r ∈ rs0, r.own = false ∧ r.sat W) (hn0 : x0.TreeMidN ≤ 9223372036854775807 ∧ x0.TreeLeafN ≤ 9223372036854775807 ∧ x0.DataN ≤ 9223372036854775807 ∧ x0.TagsN ≤ 9223372036854775807) (hb0 : (-9223372036854775808 ≤ x0.Key ∧ x0.Key ≤ 9223372036854775807) ∧ (-9223372036854775808 ≤ x0.TreeRoot ∧ x0.TreeRoot ≤ 9223372036854775807)) (x1 : SecureD) (hx1 : isSecure v1 x1 rs1) (hw1 : ∀ r ∈ rs1, r.own = false ∧ r.sat W) (hn1 : x1.TreeMidN ≤ 9223372036854775807 ∧ x1.TreeLeafN ≤ 9223372036854775807 ∧ x1.DataN ≤ 9223372036854775807 ∧ x1.TagsN ≤ 9223372036854775807) (hb1 : (-9223372036854775808 ≤ x1.Key ∧ x1.Key ≤ 9223372036854775807) ∧ (-9223372036854775808 ≤ x1.TreeRoot ∧ x1.TreeRoot ≤ 9223372036854775807)) (baLine : -9223372036854775808 ≤ aLine ∧ aLine ≤ 9223372036854775807) : Calls Try.prog 17 #[v0, v1, .int .i64 aLine] W fun e W' => e = .returned (.bool true) ∧ Below W.heap.size W W' := by
  refine fnB (tb := [(59, sToSecureO), (61, sEqSecureO), (62, sMarkSecureO), (63, sHeldSecureO), (57, sSzSecureO), (65, sSRepO), (64, sSRepO)]) ⟨sToSecureO_ok_laws_toSecure, sEqSecureO_ok, sMarkSecureO_ok, sHeldSecureO_ok, sSzSecureO_ok, sSRepO_ok_impl_SecureReplay, sSRepO_ok_spec_SecureReplay, trivial⟩ Try.func17 ((law_FnExactSecureReplay_T v0 rs0 v1 rs1 aLine).mpr ?_) (HS.objs (fun _ => False) [rs0, rs1] (seen_cons hw0 (seen_cons hw1 seen_nil))) (fun v ch' w' hk hs => ⟨by rw [hk], hs.below⟩)
  clear hw0 hw1
  repeat' (first
    | exact rfl
    | exact True.intro
    | assumption
    | exact capSP (by assumption) (by assumption)
    | exact wholeSecure (by assumption)
    | refine And.intro ?_ ?_
    | apply Exists.intro
    | omega
    | (intro h; exfalso; revert h; simp; done)
    | (intro h; exfalso; simp at h; omega)
    | intro _)
theorem walk_FnExactSecureReplay (cs0 : Array Value) (cs1 : Array Value) (aLine : Int) (W : World) (h0 : Has W (.cons .int (.cons (.cons .int (.cons (.slice (.cons .int (.cons .int .nil))) (.cons (.slice (.cons .int (.cons .int .nil))) .nil))) (.cons (.slice .int) (.cons (.slice .int) .nil)))) cs0.toList) (h1 : Has W (.cons .int (.cons (.cons .int (.cons (.slice (.cons .int (.cons .int .nil))) (.cons (.slice (.cons .int (.cons .int .nil))) .nil))) (.cons (.slice .int) (.cons (.slice .int) .nil)))) cs1.toList) (baLine : -9223372036854775808 ≤ aLine ∧ aLine ≤ 9223372036854775807) : Calls Try.prog 17 #[.agg cs0, .agg cs1, .int .i64 aLine] W fun e W' => e = .returned (.bool true) ∧ Below W.heap.size W W' := by
  obtain ⟨l0, hl0⟩ : ∃ l, cs0.toList = l := ⟨_, rfl⟩
  rw [hl0] at h0
  obtain ⟨aSKey, _, rfl, baSKey, h0_f0⟩ := has_int h0
  obtain ⟨_, _, rfl, h0Tree, h0_f1⟩ := has_struct h0_f0
  obtain ⟨aSTreeRoot, _, rfl, baSTreeRoot, h0Tree_f0⟩ := has_int h0Tree
  obtain ⟨aSTreeMidO, aSTreeMidN, aSTreeMidC, _, rfl, hsaSTreeMid, h0Tree_f1⟩ := has_slice h0Tree_f0
  obtain ⟨hnaSTreeMid, aSTreeMidG, bGaSTreeMid, hraSTreeMid⟩ := row_of_has (s := 2) (.inr rfl) (by omega) rfl hsaSTreeMid
  obtain ⟨aSTreeLeafO, aSTreeLeafN, aSTreeLeafC, _, rfl, hsaSTreeLeaf, h0Tree_f2⟩ := has_slice h0Tree_f1
  obtain ⟨hnaSTreeLeaf, aSTreeLeafG, bGaSTreeLeaf, hraSTreeLeaf⟩ := row_of_has (s := 2) (.inr rfl) (by omega) rfl hsaSTreeLeaf
  obtain rfl := has_nil h0Tree_f2
  obtain ⟨aSDataO, aSDataN, aSDataC, _, rfl, hsaSData, h0_f2⟩ := has_slice h0_f1
  obtain ⟨hnaSData, aSDataG, bGaSData, hraSData⟩ := row_of_has (s := 1) (.inl ⟨rfl, rfl⟩) (by omega) rfl hsaSData
  obtain ⟨aSTagsO, aSTagsN, aSTagsC, _, rfl, hsaSTags, h0_f3⟩ := has_slice h0_f2
  obtain ⟨hnaSTags, aSTagsG, bGaSTags, hraSTags⟩ := row_of_has (s := 1) (.inl ⟨rfl, rfl⟩) (by omega) rfl hsaSTags
  obtain rfl := has_nil h0_f3
  rw [arr_of hl0]
  obtain ⟨l1, hl1⟩ : ∃ l, cs1.toList = l := ⟨_, rfl⟩
  rw [hl1] at h1
  obtain ⟨aOldKey, _, rfl, baOldKey, h1_f0⟩ := has_int h1
  obtain ⟨_, _, rfl, h1Tree, h1_f1⟩ := has_struct h1_f0
  obtain ⟨aOldTreeRoot, _, rfl, baOldTreeRoot, h1Tree_f0⟩ := has_int h1Tree
  obtain ⟨aOldTreeMidO, aOldTreeMidN, aOldTreeMidC, _, rfl, hsaOldTreeMid, h1Tree_f1⟩ := has_slice h1Tree_f0
  obtain ⟨hnaOldTreeMid, aOldTreeMidG, bGaOldTreeMid, hraOldTreeMid⟩ := row_of_has (s := 2) (.inr rfl) (by omega) rfl hsaOldTreeMid
  obtain ⟨aOldTreeLeafO, aOldTreeLeafN, aOldTreeLeafC, _, rfl, hsaOldTreeLeaf, h1Tree_f2⟩ := has_slice h1Tree_f1
  obtain ⟨hnaOldTreeLeaf, aOldTreeLeafG, bGaOldTreeLeaf, hraOldTreeLeaf⟩ := row_of_has (s := 2) (.inr rfl) (by omega) rfl hsaOldTreeLeaf
  obtain rfl := has_nil h1Tree_f2
  obtain ⟨aOldDataO, aOldDataN, aOldDataC, _, rfl, hsaOldData, h1_f2⟩ := has_slice h1_f1
  obtain ⟨hnaOldData, aOldDataG, bGaOldData, hraOldData⟩ := row_of_has (s := 1) (.inl ⟨rfl, rfl⟩) (by omega) rfl hsaOldData
  obtain ⟨aOldTagsO, aOldTagsN, aOldTagsC, _, rfl, hsaOldTags, h1_f3⟩ := has_slice h1_f2
  obtain ⟨hnaOldTags, aOldTagsG, bGaOldTags, hraOldTags⟩ := row_of_has (s := 1) (.inl ⟨rfl, rfl⟩) (by omega) rfl hsaOldTags
  obtain rfl := has_nil h1_f3
  rw [arr_of hl1]
  exact law_FnExactSecureReplay_any (.agg #[.int .i64 aSKey, .int .i64 aSTreeRoot, .slice aSTreeMidO aSTreeMidN aSTreeMidC, .slice aSTreeLeafO aSTreeLeafN aSTreeLeafC, .slice aSDataO aSDataN aSDataC, .slice aSTagsO aSTagsN aSTagsC]) [⟨false, aSTreeMidO, 0, 2, aSTreeMidN, 0, [fun i => .int (aSTreeMidG 0 i), fun i => .int (aSTreeMidG 1 i)]⟩, ⟨false, aSTreeLeafO, 0, 2, aSTreeLeafN, 0, [fun i => .int (aSTreeLeafG 0 i), fun i => .int (aSTreeLeafG 1 i)]⟩, ⟨false, aSDataO, 0, 1, aSDataN, 0, [fun i => .int (aSDataG 0 i)]⟩, ⟨false, aSTagsO, 0, 1, aSTagsN, 0, [fun i => .int (aSTagsG 0 i)]⟩] (.agg #[.int .i64 aOldKey, .int .i64 aOldTreeRoot, .slice aOldTreeMidO aOldTreeMidN aOldTreeMidC, .slice aOldTreeLeafO aOldTreeLeafN aOldTreeLeafC, .slice aOldDataO aOldDataN aOldDataC, .slice aOldTagsO aOldTagsN aOldTagsC]) [⟨false, aOldTreeMidO, 0, 2, aOldTreeMidN, 0, [fun i => .int (aOldTreeMidG 0 i), fun i => .int (aOldTreeMidG 1 i)]⟩, ⟨false, aOldTreeLeafO, 0, 2, aOldTreeLeafN, 0, [fun i => .int (aOldTreeLeafG 0 i), fun i => .int (aOldTreeLeafG 1 i)]⟩, ⟨false, aOldDataO, 0, 1, aOldDataN, 0, [fun i => .int (aOldDataG 0 i)]⟩, ⟨false, aOldTagsO, 0, 1, aOldTagsN, 0, [fun i => .int (aOldTagsG 0 i)]⟩] aLine W ⟨aSKey, aSTreeRoot, aSTreeMidN, (aSTreeMidG 0), (aSTreeMidG 1), aSTreeLeafN, (aSTreeLeafG 0), (aSTreeLeafG 1), aSDataN, (aSDataG 0), aSTagsN, (aSTagsG 0)⟩ ⟨_, _, _, _, _, _, _, _, _, _, _, _, _, _, _, _, _, _, _, _, rfl, rfl⟩ (rows_seen [⟨false, aSTreeMidO, 0, 2, aSTreeMidN, 0, [fun i => .int (aSTreeMidG 0 i), fun i => .int (aSTreeMidG 1 i)]⟩, ⟨false, aSTreeLeafO, 0, 2, aSTreeLeafN, 0, [fun i => .int (aSTreeLeafG 0 i), fun i => .int (aSTreeLeafG 1 i)]⟩, ⟨false, aSDataO, 0, 1, aSDataN, 0, [fun i => .int (aSDataG 0 i)]⟩, ⟨false, aSTagsO, 0, 1, aSTagsN, 0, [fun i => .int (aSTagsG 0 i)]⟩] (by simp; exact ⟨hraSTreeMid, hraSTreeLeaf, hraSData, hraSTags⟩)) ⟨hnaSTreeMid, hnaSTreeLeaf, hnaSData, hnaSTags⟩ ⟨baSKey, baSTreeRoot⟩ ⟨aOldKey, aOldTreeRoot, aOldTreeMidN, (aOldTreeMidG 0), (aOldTreeMidG 1), aOldTreeLeafN, (aOldTreeLeafG 0), (aOldTreeLeafG 1), aOldDataN, (aOldDataG 0), aOldTagsN, (aOldTagsG 0)⟩ ⟨_, _, _, _, _, _, _, _, _, _, _, _, _, _, _, _, _, _, _, _, rfl, rfl⟩ (rows_seen [⟨false, aOldTreeMidO, 0, 2, aOldTreeMidN, 0, [fun i => .int (aOldTreeMidG 0 i), fun i => .int (aOldTreeMidG 1 i)]⟩, ⟨false, aOldTreeLeafO, 0, 2, aOldTreeLeafN, 0, [fun i => .int (aOldTreeLeafG 0 i), fun i => .int (aOldTreeLeafG 1 i)]⟩, ⟨false, aOldDataO, 0, 1, aOldDataN, 0, [fun i => .int (aOldDataG 0 i)]⟩, ⟨false, aOldTagsO, 0, 1, aOldTagsN, 0, [fun i => .int (aOldTagsG 0 i)]⟩] (by simp; exact ⟨hraOldTreeMid, hraOldTreeLeaf, hraOldData, hraOldTags⟩)) ⟨hnaOldTreeMid, hnaOldTreeLeaf, hnaOldData, hnaOldTags⟩ ⟨baOldKey, baOldTreeRoot⟩ baLine
end Go.Proofs.Ytdaeikjpnejmdaa
