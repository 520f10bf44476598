/-
  SendNext.
-/
import Derived.Test.YtkfinkolllpcgaaSxOLnk
import Derived.Test.YtkfinkolllpcgaaSxOpen
namespace Go.Proofs.Ytkfinkolllpcgaa
set_option linter.unusedVariables false
set_option linter.unusedSimpArgs false
open Go.RowKit
set_option maxRecDepth 100000
set_option maxHeartbeats 8000000

def sndOk (s : SenderD) : Bool := sndB s.FramesN s.Framesg0 s.Next
def sndW (s : SenderD) : Int := sndV s.FramesN s.Framesg0 s.Next
def sndD (s : SenderD) : SenderD := ⟨s.FramesN, s.Framesg0, selZ (sndB s.FramesN s.Framesg0 s.Next) (iadd s.Next 1) s.Next⟩
theorem capSnd {s : SenderD} (h : capSender s) : capSender (sndD s) := h
def sSendO : Sm := fun args ch k =>
  match args with
  | [.a (.c (.obj i0 v0))] =>
    match ch[i0]? with
    | some (.obj _ r0) => ∃ (s : SenderD), (isSender v0 s r0 ∧ capSender s) ∧ ∀ (v' : Value) (rs' : List Row), isSender v' (sndD s) rs' → k (.tup [.c (.obj ch.length v'), .c (.int (sndW s)), .c (.bool (sndOk s))]) (ch ++ [.obj true rs']) []
    | _ => False
  | _ => False
theorem sSendO_ok_impl_SendNext : SmOK Try.prog 19 sSendO := by
  refine smN Try.call19 fun args ch k w X h0 hs => ?_
  unfold sSendO at h0
  split at h0
  · rename_i i0 v0
    split at h0
    · rename_i o0 r0 hi0
      obtain ⟨s, ⟨⟨_, _, _, _, _, rfl, rfl⟩, hpre⟩, h0⟩ := h0
      have hw0 := hs.seeObj hi0
      simp only [List.map_cons, List.map_nil, den_a, den_c, SA.den, den_obj]
      refine Calls.mono (sendI_any _ s.FramesN _ s.Framesg0 s.Next w (Row.seenAs (hw0 _ (mem0)).2 rfl rfl) hpre) fun e w' ⟨ro0, rc0, he, hs'⟩ => ⟨_, [.obj true _], ?_, hs'.pack (rs := [_]) (by simp), rfl, h0 _ _ ⟨ro0, rc0, _, _, _, rfl, rfl⟩⟩
      rw [he]
      rfl
    · exact h0.elim
  · exact h0.elim
theorem sSendO_ok_spec_SendNext : SmOK Try.prog 18 sSendO := by
  refine smN Try.call18 fun args ch k w X h0 hs => ?_
  unfold sSendO at h0
  split at h0
  · rename_i i0 v0
    split at h0
    · rename_i o0 r0 hi0
      obtain ⟨s, ⟨⟨_, _, _, _, _, rfl, rfl⟩, hpre⟩, h0⟩ := h0
      have hw0 := hs.seeObj hi0
      simp only [List.map_cons, List.map_nil, den_a, den_c, SA.den, den_obj]
      refine Calls.mono (sendS_any _ s.FramesN _ s.Framesg0 s.Next w (Row.seenAs (hw0 _ (mem0)).2 rfl rfl) hpre) fun e w' ⟨ro0, rc0, he, hs'⟩ => ⟨_, [.obj true _], ?_, hs'.pack (rs := [_]) (by simp), rfl, h0 _ _ ⟨ro0, rc0, _, _, _, rfl, rfl⟩⟩
      rw [he]
      rfl
    · exact h0.elim
  · exact h0.elim
theorem law_FnExactSendNext_T (v0 : Value) (rs0 : List Row) : (exFn Try.prog {tb := [(13, sToSenderO), (15, sEqSenderO), (16, sMarkSenderO), (17, sHeldSenderO), (11, sSzSenderO), (19, sSendO), (18, sSendO)]} 400 Try.f4 ([.a (.c (.obj 0 v0))]) ([.obj false rs0]) (fun v _ => v.den = .bool true)) = (
  ((wholeC Bool.true v0 2) ∧
  (∀ b0 : Nat,
  (b0 = b0 ∧
  (Exists (fun (x1 : SenderD) => (((isSender v0 x1 rs0) ∧
  ((lensSender x1) ∧
  (szK (1048576 : Int)))) ∧
  ((Value.bool Bool.true) = (Value.bool Bool.true) ∧
  (∀ z2 : Int,
  ((szO z2 (1048576 : Int)) →
  ((capSender x1) →
   (((decide (z2 < (0 : Int))) = Bool.true →
    (Value.bool Bool.true) = (Value.bool Bool.true)) ∧
    ((decide (z2 < (0 : Int))) = Bool.false →
    (b0 = b0 ∧
     (Exists (fun (x3 : SenderD) => (((isSender v0 x3 rs0) ∧
     (capSender x3)) ∧
     (∀ v'4 : Value,
     (∀ rs'5 : (List Row),
     ((isSender v'4 x3 rs'5) →
     (Exists (fun (s6 : SenderD) => (((isSender v'4 s6 rs'5) ∧
      (capSender s6)) ∧
      (∀ v'7 : Value,
      (∀ rs'8 : (List Row),
      ((isSender v'7 (sndD s6) rs'8) →
      (∀ b9 : Nat,
       ((b9 = b9 ∧
       (wholeC Bool.true v'7 2)) ∧
       (b0 = b0 ∧
       (Exists (fun (x10 : SenderD) => (((isSender v0 x10 rs0) ∧
       (capSender x10)) ∧
       (∀ v'11 : Value,
       (∀ rs'12 : (List Row),
       ((isSender v'11 x10 rs'12) →
       (∀ b13 : Nat,
        ((b13 = b13 ∧
        (wholeC Bool.true v'11 2)) ∧
        (b13 = b13 ∧
        (Exists (fun (s14 : SenderD) => (((isSender v'11 s14 rs'12) ∧
        (capSender s14)) ∧
        (∀ v'15 : Value,
        (∀ rs'16 : (List Row),
        ((isSender v'15 (sndD s14) rs'16) →
        (∀ b17 : Nat,
         ((b17 = b17 ∧
         (wholeC Bool.true v'15 2)) ∧
         (b17 = b17 ∧
         (b9 = b9 ∧
         (Exists (fun (x18 : SenderD) => (((isSender v'15 x18 rs'16) ∧
         ((isSender v'7 x18 rs'8) ∧
         (capSender x18))) ∧
         ((((sndW s14) != (sndW s6)) = Bool.false →
         ((((sndOk s14) != (sndOk s6)) = Bool.true →
          (Value.bool Bool.false) = (Value.bool Bool.true)) ∧
          (((sndOk s14) != (sndOk s6)) = Bool.false →
          (b13 = b13 ∧
           (b0 = b0 ∧
           (Exists (fun (x19 : SenderD) => (((isSender v0 x19 rs0) ∧
           (capSender x19)) ∧
           (∀ v'20 : Value,
           (∀ rs'21 : (List Row),
           ((isSender v'20 x19 rs'21) →
           (True ∧
            (Exists (fun (x22 : SenderD) => (((isSender v'11 x22 rs'12) ∧
            ((isSender v'20 x22 rs'21) ∧
            (capSender x22))) ∧
            (True ∧
            (b13 = b13 ∧
            (Exists (fun (x23 : SenderD) => (((isSender v'11 x23 rs'12) ∧
            ((capSender x23) ∧
            (mrkC (1 : Int)))) ∧
            ((endC (1 : Int) (endSender (1 : Int) x23) (16777216 : Int)) →
            (∀ rs'24 : (List Row),
             ((isSender v'11 (markSenderD (1 : Int) x23) rs'24) →
             (((decide ((endSender (1 : Int) x23) < (0 : Int))) = Bool.false →
              (b17 = b17 ∧
               (b9 = b9 ∧
               (Exists (fun (x25 : SenderD) => (((isSender v'15 x25 rs'16) ∧
               ((isSender v'7 x25 rs'8) ∧
               (capSender x25))) ∧
               ((((sndW s14) != (sndW s6)) = Bool.false →
               ((((sndOk s14) != (sndOk s6)) = Bool.true →
                (Value.bool Bool.false) = (Value.bool Bool.true)) ∧
                (((sndOk s14) != (sndOk s6)) = Bool.false →
                (b17 = b17 ∧
                 (Exists (fun (x26 : SenderD) => (((isSender v'15 x26 rs'16) ∧
                 ((capSender x26) ∧
                 (mrkC (1 : Int)))) ∧
                 ((endC (1 : Int) (endSender (1 : Int) x26) (16777216 : Int)) →
                 (∀ rs'27 : (List Row),
                  ((isSender v'15 (markSenderD (1 : Int) x26) rs'27) →
                  (b17 = b17 ∧
                   (Exists (fun (x28 : SenderD) => (((isSender v'15 (markSenderD (1 : Int) x28) rs'27) ∧
                   ((capSender x28) ∧
                   (mrkC (1 : Int)))) ∧
                   (((decide ((endSender (1 : Int) x28) < (0 : Int))) = Bool.true →
                   (Value.bool Bool.false) = (Value.bool Bool.true)) ∧
                   ((decide ((endSender (1 : Int) x28) < (0 : Int))) = Bool.false →
                   ((((endSender (1 : Int) x28) != (endSender (1 : Int) x26)) = Bool.true →
                    (Value.bool Bool.false) = (Value.bool Bool.true)) ∧
                    (((endSender (1 : Int) x28) != (endSender (1 : Int) x26)) = Bool.false →
                    (b0 = b0 ∧
                     (Exists (fun (x29 : SenderD) => (((isSender v0 x29 rs0) ∧
                     (capSender x29)) ∧
                     (∀ v'30 : Value,
                     (∀ rs'31 : (List Row),
                     ((isSender v'30 x29 rs'31) →
                     (Exists (fun (s32 : SenderD) => (((isSender v'30 s32 rs'31) ∧
                      (capSender s32)) ∧
                      (∀ v'33 : Value,
                      (∀ rs'34 : (List Row),
                      ((isSender v'33 (sndD s32) rs'34) →
                      (∀ b35 : Nat,
                       ((b35 = b35 ∧
                       (wholeC Bool.true v'33 2)) ∧
                       (b35 = b35 ∧
                       (b9 = b9 ∧
                       (Exists (fun (x36 : SenderD) => (((isSender v'33 x36 rs'34) ∧
                       ((isSender v'7 x36 rs'8) ∧
                       (capSender x36))) ∧
                       ((((sndW s32) != (sndW s6)) = Bool.false →
                       ((((sndOk s32) != (sndOk s6)) = Bool.true →
                        (Value.bool Bool.false) = (Value.bool Bool.true)) ∧
                        (((sndOk s32) != (sndOk s6)) = Bool.false →
                        (b17 = b17 ∧
                         (Exists (fun (x37 : SenderD) => (((isSender v'15 (markSenderD (1 : Int) x37) rs'27) ∧
                         ((capSender x37) ∧
                         (mrkC (1 : Int)))) ∧
                         (((decide ((endSender (1 : Int) x37) < (0 : Int))) = Bool.true →
                         (Value.bool Bool.false) = (Value.bool Bool.true)) ∧
                         ((decide ((endSender (1 : Int) x37) < (0 : Int))) = Bool.false →
                         ((((endSender (1 : Int) x37) != (endSender (1 : Int) x26)) = Bool.true →
                          (Value.bool Bool.false) = (Value.bool Bool.true)) ∧
                          (((endSender (1 : Int) x37) != (endSender (1 : Int) x26)) = Bool.false →
                          (Value.bool Bool.true) = (Value.bool Bool.true)))))))))))) ∧
                       (((sndW s32) != (sndW s6)) = Bool.true →
                       (Value.bool Bool.false) = (Value.bool Bool.true))))))))))))))))))))))))))))))))))))))))) ∧
               (((sndW s14) != (sndW s6)) = Bool.true →
               (Value.bool Bool.false) = (Value.bool Bool.true))))))))) ∧
              ((decide ((endSender (1 : Int) x23) < (0 : Int))) = Bool.true →
              (Value.bool Bool.false) = (Value.bool Bool.true)))))))))))))))))))))))))) ∧
         (((sndW s14) != (sndW s6)) = Bool.true →
         (Value.bool Bool.false) = (Value.bool Bool.true)))))))))))))))))))))))))))))))))))))))))))))))))))))) := by kernel_rfl
theorem law_FnExactSendNext_any (v0 : Value) (rs0 : List Row) (W : World) (x0 : SenderD) (hx0 : isSender v0 x0 rs0) (hw0 : ∀ r ∈ rs0, r.own = false ∧ r.sat W) (hn0 : x0.FramesN ≤ 9223372036854775807) (hb0 : (-9223372036854775808 ≤ x0.Next ∧ x0.Next ≤ 9223372036854775807)) : Calls Try.prog 4 #[v0] W fun e W' => e = .returned (.bool true) ∧ Below W.heap.size W W' := by
  refine fnB (tb := [(13, sToSenderO), (15, sEqSenderO), (16, sMarkSenderO), (17, sHeldSenderO), (11, sSzSenderO), (19, sSendO), (18, sSendO)]) ⟨sToSenderO_ok_laws_toSender, sEqSenderO_ok, sMarkSenderO_ok, sHeldSenderO_ok, sSzSenderO_ok, sSendO_ok_impl_SendNext, sSendO_ok_spec_SendNext, trivial⟩ Try.func4 ((law_FnExactSendNext_T v0 rs0).mpr ?_) (HS.objs (fun _ => False) [rs0] (seen_cons hw0 seen_nil)) (fun v ch' w' hk hs => ⟨by rw [hk], hs.below⟩)
  clear hw0
  repeat' (first
    | exact rfl
    | exact True.intro
    | assumption
    | exact capSnd (by assumption)
    | exact wholeSender (by assumption)
    | refine And.intro ?_ ?_
    | apply Exists.intro
    | omega
    | (intro h; exfalso; revert h; simp; done)
    | (intro h; exfalso; simp at h; omega)
    | intro _)
theorem walk_FnExactSendNext (cs0 : Array Value) (W : World) (h0 : Has W (.cons (.slice .int) (.cons .int .nil)) cs0.toList) : Calls Try.prog 4 #[.agg cs0] W fun e W' => e = .returned (.bool true) ∧ Below W.heap.size W W' := by
  obtain ⟨l0, hl0⟩ : ∃ l, cs0.toList = l := ⟨_, rfl⟩
  rw [hl0] at h0
  obtain ⟨aSFramesO, aSFramesN, aSFramesC, _, rfl, hsaSFrames, h0_f0⟩ := has_slice h0
  obtain ⟨hnaSFrames, aSFramesG, bGaSFrames, hraSFrames⟩ := row_of_has (s := 1) (.inl ⟨rfl, rfl⟩) (by omega) rfl hsaSFrames
  obtain ⟨aSNext, _, rfl, baSNext, h0_f1⟩ := has_int h0_f0
  obtain rfl := has_nil h0_f1
  rw [arr_of hl0]
  exact law_FnExactSendNext_any (.agg #[.slice aSFramesO aSFramesN aSFramesC, .int .i64 aSNext]) [⟨false, aSFramesO, 0, 1, aSFramesN, 0, [fun i => .int (aSFramesG 0 i)]⟩] W ⟨aSFramesN, (aSFramesG 0), aSNext⟩ ⟨_, _, _, _, _, rfl, rfl⟩ (rows_seen [⟨false, aSFramesO, 0, 1, aSFramesN, 0, [fun i => .int (aSFramesG 0 i)]⟩] (by simp; exact hraSFrames)) hnaSFrames baSNext
end Go.Proofs.Ytkfinkolllpcgaa
