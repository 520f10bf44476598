/-
  FnExactSecureWrite
-/
import Derived.Test.YtdaeikjpnejmdaaSxOSec
import Derived.Test.YtdaeikjpnejmdaaSxOpen
import Derived.Test.YtdaeikjpnejmdaaSxSec4
namespace Go.Proofs.Ytdaeikjpnejmdaa
set_option linter.unusedVariables false
set_option linter.unusedSimpArgs false
open Go.RowKit
set_option maxRecDepth 100000
set_option maxHeartbeats 8000000

def wOkD (s : SecureD) (line x : Int) : Bool := wOk s.Key s.TreeRoot s.TreeMidN s.TreeLeafN s.TreeMidg0 s.TreeMidg1 s.TreeLeafg0 s.TreeLeafg1 s.DataN s.TagsN s.Datag0 s.Tagsg0 line x
def wD (s : SecureD) (line x : Int) : SecureD := ⟨s.Key, selZ (wOk s.Key s.TreeRoot s.TreeMidN s.TreeLeafN s.TreeMidg0 s.TreeMidg1 s.TreeLeafg0 s.TreeLeafg1 s.DataN s.TagsN s.Datag0 s.Tagsg0 line x) (bR s.Key s.TreeRoot s.TreeMidN s.TreeLeafN s.TreeMidg0 s.TreeMidg1 s.TreeLeafg0 s.TreeLeafg1 line) s.TreeRoot, s.TreeMidN, fun i => selZ (wOk s.Key s.TreeRoot s.TreeMidN s.TreeLeafN s.TreeMidg0 s.TreeMidg1 s.TreeLeafg0 s.TreeLeafg1 s.DataN s.TagsN s.Datag0 s.Tagsg0 line x) (bMc s.Key s.TreeRoot s.TreeMidN s.TreeLeafN s.TreeMidg0 s.TreeMidg1 s.TreeLeafg0 s.TreeLeafg1 line i) (s.TreeMidg0 i), fun i => selZ (wOk s.Key s.TreeRoot s.TreeMidN s.TreeLeafN s.TreeMidg0 s.TreeMidg1 s.TreeLeafg0 s.TreeLeafg1 s.DataN s.TagsN s.Datag0 s.Tagsg0 line x) (bMt s.Key s.TreeRoot s.TreeMidN s.TreeLeafN s.TreeMidg0 s.TreeMidg1 s.TreeLeafg0 s.TreeLeafg1 line i) (s.TreeMidg1 i), s.TreeLeafN, fun i => selZ (wOk s.Key s.TreeRoot s.TreeMidN s.TreeLeafN s.TreeMidg0 s.TreeMidg1 s.TreeLeafg0 s.TreeLeafg1 s.DataN s.TagsN s.Datag0 s.Tagsg0 line x) (bLc s.Key s.TreeRoot s.TreeMidN s.TreeLeafN s.TreeMidg0 s.TreeMidg1 s.TreeLeafg0 s.TreeLeafg1 line i) (s.TreeLeafg0 i), fun i => selZ (wOk s.Key s.TreeRoot s.TreeMidN s.TreeLeafN s.TreeMidg0 s.TreeMidg1 s.TreeLeafg0 s.TreeLeafg1 s.DataN s.TagsN s.Datag0 s.Tagsg0 line x) (bLt s.Key s.TreeRoot s.TreeMidN s.TreeLeafN s.TreeMidg0 s.TreeMidg1 s.TreeLeafg0 s.TreeLeafg1 line i) (s.TreeLeafg1 i), s.DataN, wDa s.Key s.TreeRoot s.TreeMidN s.TreeLeafN s.TreeMidg0 s.TreeMidg1 s.TreeLeafg0 s.TreeLeafg1 s.DataN s.TagsN s.Datag0 s.Tagsg0 line x, s.TagsN, wTa s.Key s.TreeRoot s.TreeMidN s.TreeLeafN s.TreeMidg0 s.TreeMidg1 s.TreeLeafg0 s.TreeLeafg1 s.DataN s.TagsN s.Datag0 s.Tagsg0 line x⟩
theorem capSW {s : SecureD} {line x : Int} (h : capSecure s) : capSecure (wD s line x) := h
def sSWriteO : Sm := fun args ch k =>
  match args with
  | [.a (.c (.obj i0 v0)), .a (.c c0), .a (.c c1)] =>
    match ch[i0]?, ints [c0, c1] with
    | some (.obj _ r0), some [line, x] => ∃ (s : SecureD), (isSecure v0 s r0 ∧ capSecure s) ∧ ∀ (v' : Value) (rs' : List Row), isSecure v' (wD s line x) rs' → k (.tup [.c (.obj ch.length v'), .c (.bool (wOkD s line x))]) (ch ++ [.obj true rs']) []
    | _, _ => False
  | _ => False
theorem sSWriteO_ok_impl_SecureWrite : SmOK Try.prog 74 sSWriteO := by
  refine smN Try.call74 fun args ch k w X h0 hs => ?_
  unfold sSWriteO at h0
  split at h0
  · rename_i i0 v0 c0 c1
    split at h0
    · rename_i o0 r0 line x hi0 hI
      obtain ⟨s, ⟨⟨_, _, _, _, _, _, _, _, _, _, _, _, _, _, _, _, _, _, _, _, rfl, rfl⟩, hpre⟩, h0⟩ := h0
      obtain ⟨ec0, hI⟩ := ints_cons hI
      obtain ⟨ec1, hI⟩ := ints_cons hI
      have hw0 := hs.seeObj hi0
      simp only [List.map_cons, List.map_nil, den_a, den_c, SA.den, den_obj, ec0, ec1]
      refine Calls.mono (swriteI_any s.Key s.TreeRoot _ s.TreeMidN _ s.TreeMidg0 s.TreeMidg1 _ s.TreeLeafN _ s.TreeLeafg0 s.TreeLeafg1 _ s.DataN _ s.Datag0 _ s.TagsN _ s.Tagsg0 line x w (Row.seenAs (hw0 _ (mem0)).2 rfl rfl) (Row.seenAs (hw0 _ ((memS mem0))).2 rfl rfl) (Row.seenAs (hw0 _ ((memS (memS mem0)))).2 rfl rfl) (Row.seenAs (hw0 _ ((memS (memS (memS mem0))))).2 rfl rfl) hpre) fun e w' ⟨ro0, rc0, ro1, rc1, ro2, rc2, ro3, rc3, he, hs'⟩ => ⟨_, [.obj true _], ?_, hs'.pack (rs := [_, _, _, _]) (by simp), rfl, h0 _ _ ⟨ro0, ro1, ro2, ro3, rc0, _, _, rc1, _, _, rc2, _, _, rc3, _, _, _, _, _, _, rfl, rfl⟩⟩
      rw [he]
      rfl
    · exact h0.elim
  · exact h0.elim
theorem sSWriteO_ok_spec_SecureWrite : SmOK Try.prog 71 sSWriteO := by
  refine smN Try.call71 fun args ch k w X h0 hs => ?_
  unfold sSWriteO at h0
  split at h0
  · rename_i i0 v0 c0 c1
    split at h0
    · rename_i o0 r0 line x hi0 hI
      obtain ⟨s, ⟨⟨_, _, _, _, _, _, _, _, _, _, _, _, _, _, _, _, _, _, _, _, rfl, rfl⟩, hpre⟩, h0⟩ := h0
      obtain ⟨ec0, hI⟩ := ints_cons hI
      obtain ⟨ec1, hI⟩ := ints_cons hI
      have hw0 := hs.seeObj hi0
      simp only [List.map_cons, List.map_nil, den_a, den_c, SA.den, den_obj, ec0, ec1]
      refine Calls.mono (swriteS_any s.Key s.TreeRoot _ s.TreeMidN _ s.TreeMidg0 s.TreeMidg1 _ s.TreeLeafN _ s.TreeLeafg0 s.TreeLeafg1 _ s.DataN _ s.Datag0 _ s.TagsN _ s.Tagsg0 line x w (Row.seenAs (hw0 _ (mem0)).2 rfl rfl) (Row.seenAs (hw0 _ ((memS mem0))).2 rfl rfl) (Row.seenAs (hw0 _ ((memS (memS mem0)))).2 rfl rfl) (Row.seenAs (hw0 _ ((memS (memS (memS mem0))))).2 rfl rfl) hpre) fun e w' ⟨ro0, rc0, ro1, rc1, ro2, rc2, ro3, rc3, he, hs'⟩ => ⟨_, [.obj true _], ?_, hs'.pack (rs := [_, _, _, _]) (by simp), rfl, h0 _ _ ⟨ro0, ro1, ro2, ro3, rc0, _, _, rc1, _, _, rc2, _, _, rc3, _, _, _, _, _, _, rfl, rfl⟩⟩
      rw [he]
      rfl
    · exact h0.elim
  · exact h0.elim
theorem law_FnExactSecureWrite_T (v0 : Value) (rs0 : List Row) (aLine : Int) (aX : Int) : (exFn Try.prog {tb := [(59, sToSecureO), (61, sEqSecureO), (62, sMarkSecureO), (63, sHeldSecureO), (57, sSzSecureO), (74, sSWriteO), (71, sSWriteO)]} 400 Try.f25 ([.a (.c (.obj 0 v0)), .a (.c (.int aLine)), .a (.c (.int aX))]) ([.obj false rs0]) (fun v _ => v.den = .bool true)) = (
  ((wholeC Bool.true v0 6) ∧
  (∀ b0 : Nat,
  (b0 = b0 ∧
  (Exists (fun (x1 : SecureD) => (((isSecure v0 x1 rs0) ∧
  ((lensSecure x1) ∧
  (szK (1048576 : Int)))) ∧
  ((Value.bool Bool.true) = (Value.bool Bool.true) ∧
  (∀ z2 : Int,
  ((szO z2 (1048576 : Int)) →
  ((capSecure x1) →
   (((decide (z2 < (0 : Int))) = Bool.true →
    (Value.bool Bool.true) = (Value.bool Bool.true)) ∧
    ((decide (z2 < (0 : Int))) = Bool.false →
    (b0 = b0 ∧
     (Exists (fun (x3 : SecureD) => (((isSecure v0 x3 rs0) ∧
     (capSecure x3)) ∧
     (∀ v'4 : Value,
     (∀ rs'5 : (List Row),
     ((isSecure v'4 x3 rs'5) →
     (Exists (fun (s6 : SecureD) => (((isSecure v'4 s6 rs'5) ∧
      (capSecure s6)) ∧
      (∀ v'7 : Value,
      (∀ rs'8 : (List Row),
      ((isSecure v'7 (wD s6 aLine aX) rs'8) →
      (∀ b9 : Nat,
       ((b9 = b9 ∧
       (wholeC Bool.true v'7 6)) ∧
       (b0 = b0 ∧
       (Exists (fun (x10 : SecureD) => (((isSecure v0 x10 rs0) ∧
       (capSecure x10)) ∧
       (∀ v'11 : Value,
       (∀ rs'12 : (List Row),
       ((isSecure v'11 x10 rs'12) →
       (∀ b13 : Nat,
        ((b13 = b13 ∧
        (wholeC Bool.true v'11 6)) ∧
        (b13 = b13 ∧
        (Exists (fun (s14 : SecureD) => (((isSecure v'11 s14 rs'12) ∧
        (capSecure s14)) ∧
        (∀ v'15 : Value,
        (∀ rs'16 : (List Row),
        ((isSecure v'15 (wD s14 aLine aX) rs'16) →
        (∀ b17 : Nat,
         ((b17 = b17 ∧
         (wholeC Bool.true v'15 6)) ∧
         (b17 = b17 ∧
         (b9 = b9 ∧
         (Exists (fun (x18 : SecureD) => (((isSecure v'15 x18 rs'16) ∧
         ((isSecure v'7 x18 rs'8) ∧
         (capSecure x18))) ∧
         ((((wOkD s14 aLine aX) != (wOkD s6 aLine aX)) = Bool.true →
         (Value.bool Bool.false) = (Value.bool Bool.true)) ∧
         (((wOkD s14 aLine aX) != (wOkD s6 aLine aX)) = Bool.false →
         (b13 = b13 ∧
          (b0 = b0 ∧
          (Exists (fun (x19 : SecureD) => (((isSecure v0 x19 rs0) ∧
          (capSecure x19)) ∧
          (∀ v'20 : Value,
          (∀ rs'21 : (List Row),
          ((isSecure v'20 x19 rs'21) →
          (True ∧
           (Exists (fun (x22 : SecureD) => (((isSecure v'11 x22 rs'12) ∧
           ((isSecure v'20 x22 rs'21) ∧
           (capSecure x22))) ∧
           (True ∧
           (b13 = b13 ∧
           (Exists (fun (x23 : SecureD) => (((isSecure v'11 x23 rs'12) ∧
           ((capSecure x23) ∧
           (mrkC (1 : Int)))) ∧
           ((endC (1 : Int) (endSecure (1 : Int) x23) (67108864 : Int)) →
           (∀ rs'24 : (List Row),
            ((isSecure v'11 (markSecureD (1 : Int) x23) rs'24) →
            (((decide ((endSecure (1 : Int) x23) < (0 : Int))) = Bool.false →
             (b17 = b17 ∧
              (b9 = b9 ∧
              (Exists (fun (x25 : SecureD) => (((isSecure v'15 x25 rs'16) ∧
              ((isSecure v'7 x25 rs'8) ∧
              (capSecure x25))) ∧
              ((((wOkD s14 aLine aX) != (wOkD s6 aLine aX)) = Bool.true →
              (Value.bool Bool.false) = (Value.bool Bool.true)) ∧
              (((wOkD s14 aLine aX) != (wOkD s6 aLine aX)) = Bool.false →
              (b17 = b17 ∧
               (Exists (fun (x26 : SecureD) => (((isSecure v'15 x26 rs'16) ∧
               ((capSecure x26) ∧
               (mrkC (1 : Int)))) ∧
               ((endC (1 : Int) (endSecure (1 : Int) x26) (67108864 : Int)) →
               (∀ rs'27 : (List Row),
                ((isSecure v'15 (markSecureD (1 : Int) x26) rs'27) →
                (b17 = b17 ∧
                 (Exists (fun (x28 : SecureD) => (((isSecure v'15 (markSecureD (1 : Int) x28) rs'27) ∧
                 ((capSecure x28) ∧
                 (mrkC (1 : Int)))) ∧
                 (((decide ((endSecure (1 : Int) x28) < (0 : Int))) = Bool.true →
                 (Value.bool Bool.false) = (Value.bool Bool.true)) ∧
                 ((decide ((endSecure (1 : Int) x28) < (0 : Int))) = Bool.false →
                 ((((endSecure (1 : Int) x28) != (endSecure (1 : Int) x26)) = Bool.true →
                  (Value.bool Bool.false) = (Value.bool Bool.true)) ∧
                  (((endSecure (1 : Int) x28) != (endSecure (1 : Int) x26)) = Bool.false →
                  (b0 = b0 ∧
                   (Exists (fun (x29 : SecureD) => (((isSecure v0 x29 rs0) ∧
                   (capSecure x29)) ∧
                   (∀ v'30 : Value,
                   (∀ rs'31 : (List Row),
                   ((isSecure v'30 x29 rs'31) →
                   (Exists (fun (s32 : SecureD) => (((isSecure v'30 s32 rs'31) ∧
                    (capSecure s32)) ∧
                    (∀ v'33 : Value,
                    (∀ rs'34 : (List Row),
                    ((isSecure v'33 (wD s32 aLine aX) rs'34) →
                    (∀ b35 : Nat,
                     ((b35 = b35 ∧
                     (wholeC Bool.true v'33 6)) ∧
                     (b35 = b35 ∧
                     (b9 = b9 ∧
                     (Exists (fun (x36 : SecureD) => (((isSecure v'33 x36 rs'34) ∧
                     ((isSecure v'7 x36 rs'8) ∧
                     (capSecure x36))) ∧
                     ((((wOkD s32 aLine aX) != (wOkD s6 aLine aX)) = Bool.true →
                     (Value.bool Bool.false) = (Value.bool Bool.true)) ∧
                     (((wOkD s32 aLine aX) != (wOkD s6 aLine aX)) = Bool.false →
                     (b17 = b17 ∧
                      (Exists (fun (x37 : SecureD) => (((isSecure v'15 (markSecureD (1 : Int) x37) rs'27) ∧
                      ((capSecure x37) ∧
                      (mrkC (1 : Int)))) ∧
                      (((decide ((endSecure (1 : Int) x37) < (0 : Int))) = Bool.true →
                      (Value.bool Bool.false) = (Value.bool Bool.true)) ∧
                      ((decide ((endSecure (1 : Int) x37) < (0 : Int))) = Bool.false →
                      ((((endSecure (1 : Int) x37) != (endSecure (1 : Int) x26)) = Bool.true →
                       (Value.bool Bool.false) = (Value.bool Bool.true)) ∧
                       (((endSecure (1 : Int) x37) != (endSecure (1 : Int) x26)) = Bool.false →
                       (Value.bool Bool.true) = (Value.bool Bool.true)))))))))))))))))))))))))))))))))))))))))))))))))))))) ∧
             ((decide ((endSecure (1 : Int) x23) < (0 : Int))) = Bool.true →
             (Value.bool Bool.false) = (Value.bool Bool.true)))))))))))))))))))))))))))))))))))))))))))))))))))))))))))))))))))))))))))) := by kernel_rfl
theorem law_FnExactSecureWrite_any (v0 : Value) (rs0 : List Row) (aLine : Int) (aX : Int) (W : World) (x0 : SecureD) (hx0 : isSecure v0 x0 rs0) (hw0 : ∀ r ∈ rs0, r.own = false ∧ r.sat W) (hn0 : x0.TreeMidN ≤ 9223372036854775807 ∧ x0.TreeLeafN ≤ 9223372036854775807 ∧ x0.DataN ≤ 9223372036854775807 ∧ x0.TagsN ≤ 9223372036854775807) (hb0 : (-9223372036854775808 ≤ x0.Key ∧ x0.Key ≤ 9223372036854775807) ∧ (-9223372036854775808 ≤ x0.TreeRoot ∧ x0.TreeRoot ≤ 9223372036854775807)) (baLine : -9223372036854775808 ≤ aLine ∧ aLine ≤ 9223372036854775807) (baX : -9223372036854775808 ≤ aX ∧ aX ≤ 9223372036854775807) : Calls Try.prog 25 #[v0, .int .i64 aLine, .int .i64 aX] W fun e W' => e = .returned (.bool true) ∧ Below W.heap.size W W' := by
  refine fnB (tb := [(59, sToSecureO), (61, sEqSecureO), (62, sMarkSecureO), (63, sHeldSecureO), (57, sSzSecureO), (74, sSWriteO), (71, sSWriteO)]) ⟨sToSecureO_ok_laws_toSecure, sEqSecureO_ok, sMarkSecureO_ok, sHeldSecureO_ok, sSzSecureO_ok, sSWriteO_ok_impl_SecureWrite, sSWriteO_ok_spec_SecureWrite, trivial⟩ Try.func25 ((law_FnExactSecureWrite_T v0 rs0 aLine aX).mpr ?_) (HS.objs (fun _ => False) [rs0] (seen_cons hw0 seen_nil)) (fun v ch' w' hk hs => ⟨by rw [hk], hs.below⟩)
  clear hw0
  repeat' (first
    | exact rfl
    | exact True.intro
    | assumption
    | exact capSW (by assumption)
    | exact wholeSecure (by assumption)
    | refine And.intro ?_ ?_
    | apply Exists.intro
    | omega
    | (intro h; exfalso; revert h; simp; done)
    | (intro h; exfalso; simp at h; omega)
    | intro _)
theorem walk_FnExactSecureWrite (cs0 : Array Value) (aLine : Int) (aX : Int) (W : World) (h0 : Has W (.cons .int (.cons (.cons .int (.cons (.slice (.cons .int (.cons .int .nil))) (.cons (.slice (.cons .int (.cons .int .nil))) .nil))) (.cons (.slice .int) (.cons (.slice .int) .nil)))) cs0.toList) (baLine : -9223372036854775808 ≤ aLine ∧ aLine ≤ 9223372036854775807) (baX : -9223372036854775808 ≤ aX ∧ aX ≤ 9223372036854775807) : Calls Try.prog 25 #[.agg cs0, .int .i64 aLine, .int .i64 aX] W fun e W' => e = .returned (.bool true) ∧ Below W.heap.size W W' := by
  obtain ⟨l0, hl0⟩ : ∃ l, cs0.toList = l := ⟨_, rfl⟩
  rw [hl0] at h0
  obtain ⟨aSKey, _, rfl, baSKey, h0_f0⟩ := has_int h0
  obtain ⟨_, _, rfl, h0Tree, h0_f1⟩ := has_struct h0_f0
  obtain ⟨aSTreeRoot, _, rfl, baSTreeRoot, h0Tree_f0⟩ := has_int h0Tree
  obtain ⟨aSTreeMidO, aSTreeMidN, aSTreeMidC, _, rfl, hsaSTreeMid, h0Tree_f1⟩ := has_slice h0Tree_f0
  obtain ⟨hnaSTreeMid, aSTreeMidG, bGaSTreeMid, hraSTreeMid⟩ := row_of_has (s := 2) (.inr rfl) (by omega) rfl hsaSTreeMid
  obtain ⟨aSTreeLeafO, aSTreeLeafN, aSTreeLeafC, _, rfl, hsaSTreeLeaf, h0Tree_f2⟩ := has_slice h0Tree_f1
  obtain ⟨hnaSTreeLeaf, aSTreeLeafG, bGaSTreeLeaf, hraSTreeLeaf⟩ := row_of_has (s := 2) (.inr rfl) (by omega) rfl hsaSTreeLeaf
  obtain rfl := has_nil h0Tree_f2
  obtain ⟨aSDataO, aSDataN, aSDataC, _, rfl, hsaSData, h0_f2⟩ := has_slice h0_f1
  obtain ⟨hnaSData, aSDataG, bGaSData, hraSData⟩ := row_of_has (s := 1) (.inl ⟨rfl, rfl⟩) (by omega) rfl hsaSData
  obtain ⟨aSTagsO, aSTagsN, aSTagsC, _, rfl, hsaSTags, h0_f3⟩ := has_slice h0_f2
  obtain ⟨hnaSTags, aSTagsG, bGaSTags, hraSTags⟩ := row_of_has (s := 1) (.inl ⟨rfl, rfl⟩) (by omega) rfl hsaSTags
  obtain rfl := has_nil h0_f3
  rw [arr_of hl0]
  exact law_FnExactSecureWrite_any (.agg #[.int .i64 aSKey, .int .i64 aSTreeRoot, .slice aSTreeMidO aSTreeMidN aSTreeMidC, .slice aSTreeLeafO aSTreeLeafN aSTreeLeafC, .slice aSDataO aSDataN aSDataC, .slice aSTagsO aSTagsN aSTagsC]) [⟨false, aSTreeMidO, 0, 2, aSTreeMidN, 0, [fun i => .int (aSTreeMidG 0 i), fun i => .int (aSTreeMidG 1 i)]⟩, ⟨false, aSTreeLeafO, 0, 2, aSTreeLeafN, 0, [fun i => .int (aSTreeLeafG 0 i), fun i => .int (aSTreeLeafG 1 i)]⟩, ⟨false, aSDataO, 0, 1, aSDataN, 0, [fun i => .int (aSDataG 0 i)]⟩, ⟨false, aSTagsO, 0, 1, aSTagsN, 0, [fun i => .int (aSTagsG 0 i)]⟩] aLine aX W ⟨aSKey, aSTreeRoot, aSTreeMidN, (aSTreeMidG 0), (aSTreeMidG 1), aSTreeLeafN, (aSTreeLeafG 0), (aSTreeLeafG 1), aSDataN, (aSDataG 0), aSTagsN, (aSTagsG 0)⟩ ⟨_, _, _, _, _, _, _, _, _, _, _, _, _, _, _, _, _, _, _, _, rfl, rfl⟩ (rows_seen [⟨false, aSTreeMidO, 0, 2, aSTreeMidN, 0, [fun i => .int (aSTreeMidG 0 i), fun i => .int (aSTreeMidG 1 i)]⟩, ⟨false, aSTreeLeafO, 0, 2, aSTreeLeafN, 0, [fun i => .int (aSTreeLeafG 0 i), fun i => .int (aSTreeLeafG 1 i)]⟩, ⟨false, aSDataO, 0, 1, aSDataN, 0, [fun i => .int (aSDataG 0 i)]⟩, ⟨false, aSTagsO, 0, 1, aSTagsN, 0, [fun i => .int (aSTagsG 0 i)]⟩] (by simp; exact ⟨hraSTreeMid, hraSTreeLeaf, hraSData, hraSTags⟩)) ⟨hnaSTreeMid, hnaSTreeLeaf, hnaSData, hnaSTags⟩ ⟨baSKey, baSTreeRoot⟩ baLine baX
end Go.Proofs.Ytdaeikjpnejmdaa
