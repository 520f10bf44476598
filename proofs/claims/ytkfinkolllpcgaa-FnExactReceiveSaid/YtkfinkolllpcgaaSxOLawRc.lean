/-
  Receive.
-/
import Derived.Test.YtkfinkolllpcgaaSxORcv
import Derived.Test.YtkfinkolllpcgaaSxOpen
namespace Go.Proofs.Ytkfinkolllpcgaa
set_option linter.unusedVariables false
set_option linter.unusedSimpArgs false
open Go.RowKit
set_option maxRecDepth 100000
set_option maxHeartbeats 8000000

def rcvD (r : ReceiverD) (x : Int) : ReceiverD := ⟨rcvZ (rcvB r.Count x) r.Count, rcvN (rcvB r.Count x) r.CommandsN, rcv0 r.CommandsN r.Commandsg0 x, rcv1 r.CommandsN r.Commandsg1 x, rcv2 r.CommandsN r.Commandsg2 x, rcv3 r.CommandsN r.Commandsg3 x⟩
theorem capRcv {r : ReceiverD} {x : Int} (h : cap1Receiver r) : capReceiver (rcvD r x) := by
  unfold cap1Receiver at h
  simp only [capReceiver, rcvD, rcvN]
  split <;> omega
def sRecvO : Sm := fun args ch k =>
  match args with
  | [.a (.c (.obj i0 v0)), .a (.c c0)] =>
    match ch[i0]?, ints [c0] with
    | some (.obj _ r0), some [x] => ∃ (r : ReceiverD), (isReceiver v0 r r0 ∧ capReceiver r ∧ rngC x ∧ rngC r.Count) ∧ ∀ (v' : Value) (rs' : List Row), isReceiver v' (rcvD r x) rs' → k (.tup [.c (.obj ch.length v'), .c (.bool (rcvB r.Count x))]) (ch ++ [.obj true rs']) []
    | _, _ => False
  | _ => False
theorem sRecvO_ok_impl_Receive : SmOK Try.prog 24 sRecvO := by
  refine smN Try.call24 fun args ch k w X h0 hs => ?_
  unfold sRecvO at h0
  split at h0
  · rename_i i0 v0 c0
    split at h0
    · rename_i o0 r0 x hi0 hI
      obtain ⟨r, ⟨⟨_, _, _, _, _, rfl, rfl⟩, hpre⟩, h0⟩ := h0
      obtain ⟨ec0, hI⟩ := ints_cons hI
      have hw0 := hs.seeObj hi0
      simp only [List.map_cons, List.map_nil, den_a, den_c, SA.den, den_obj, ec0]
      refine Calls.mono (recvI_any r.Count _ r.CommandsN _ r.Commandsg0 r.Commandsg1 r.Commandsg2 r.Commandsg3 x w (Row.seenAs (hw0 _ (mem0)).2 rfl rfl) hpre) fun e w' ⟨ro0, rc0, he, hs'⟩ => ⟨_, [.obj true _], ?_, hs'.pack (rs := [_]) (by simp), rfl, h0 _ _ ⟨ro0, rc0, _, _, _, rfl, rfl⟩⟩
      rw [he]
      rfl
    · exact h0.elim
  · exact h0.elim
theorem sRecvO_ok_spec_Receive : SmOK Try.prog 35 sRecvO := by
  refine smN Try.call35 fun args ch k w X h0 hs => ?_
  unfold sRecvO at h0
  split at h0
  · rename_i i0 v0 c0
    split at h0
    · rename_i o0 r0 x hi0 hI
      obtain ⟨r, ⟨⟨_, _, _, _, _, rfl, rfl⟩, hpre⟩, h0⟩ := h0
      obtain ⟨ec0, hI⟩ := ints_cons hI
      have hw0 := hs.seeObj hi0
      simp only [List.map_cons, List.map_nil, den_a, den_c, SA.den, den_obj, ec0]
      refine Calls.mono (recvS_any r.Count _ r.CommandsN _ r.Commandsg0 r.Commandsg1 r.Commandsg2 r.Commandsg3 x w (Row.seenAs (hw0 _ (mem0)).2 rfl rfl) hpre) fun e w' ⟨ro0, rc0, he, hs'⟩ => ⟨_, [.obj true _], ?_, hs'.pack (rs := [_]) (by simp), rfl, h0 _ _ ⟨ro0, rc0, _, _, _, rfl, rfl⟩⟩
      rw [he]
      rfl
    · exact h0.elim
  · exact h0.elim
theorem law_FnExactReceive_T (v0 : Value) (rs0 : List Row) (aWord : Int) : (exFn Try.prog {tb := [(36, sToReceiverO), (37, sEqReceiverO), (38, sMarkReceiverO), (39, sHeldReceiverO), (34, sSzReceiverO), (24, sRecvO), (35, sRecvO)]} 400 Try.f8 ([.a (.c (.obj 0 v0)), .a (.c (.int aWord))]) ([.obj false rs0]) (fun v _ => v.den = .bool true)) = (
  ((wholeC Bool.true v0 2) ∧
  (∀ b0 : Nat,
  (b0 = b0 ∧
  (Exists (fun (x1 : ReceiverD) => (((isReceiver v0 x1 rs0) ∧
  ((lensReceiver x1) ∧
  (szK (1048576 : Int)))) ∧
  ((Value.bool Bool.true) = (Value.bool Bool.true) ∧
  (∀ z2 : Int,
  ((szO z2 (1048576 : Int)) →
  ((cap1Receiver x1) →
   (((decide (z2 < (0 : Int))) = Bool.true →
    (Value.bool Bool.true) = (Value.bool Bool.true)) ∧
    ((decide (z2 < (0 : Int))) = Bool.false →
    (b0 = b0 ∧
     (Exists (fun (x3 : ReceiverD) => (((isReceiver v0 x3 rs0) ∧
     (capReceiver x3)) ∧
     (∀ v'4 : Value,
     (∀ rs'5 : (List Row),
     ((isReceiver v'4 x3 rs'5) →
     (Exists (fun (r6 : ReceiverD) => (((isReceiver v'4 r6 rs'5) ∧
      ((capReceiver r6) ∧
      ((rngC aWord) ∧
      (rngC (r6).1)))) ∧
      (∀ v'7 : Value,
      (∀ rs'8 : (List Row),
      ((isReceiver v'7 (rcvD r6 aWord) rs'8) →
      (∀ b9 : Nat,
       ((b9 = b9 ∧
       (wholeC Bool.true v'7 2)) ∧
       (b0 = b0 ∧
       (Exists (fun (x10 : ReceiverD) => (((isReceiver v0 x10 rs0) ∧
       (capReceiver x10)) ∧
       (∀ v'11 : Value,
       (∀ rs'12 : (List Row),
       ((isReceiver v'11 x10 rs'12) →
       (∀ b13 : Nat,
        ((b13 = b13 ∧
        (wholeC Bool.true v'11 2)) ∧
        (b13 = b13 ∧
        (Exists (fun (r14 : ReceiverD) => (((isReceiver v'11 r14 rs'12) ∧
        ((capReceiver r14) ∧
        ((rngC aWord) ∧
        (rngC (r14).1)))) ∧
        (∀ v'15 : Value,
        (∀ rs'16 : (List Row),
        ((isReceiver v'15 (rcvD r14 aWord) rs'16) →
        (∀ b17 : Nat,
         ((b17 = b17 ∧
         (wholeC Bool.true v'15 2)) ∧
         (b17 = b17 ∧
         (b9 = b9 ∧
         (Exists (fun (x18 : ReceiverD) => (((isReceiver v'15 x18 rs'16) ∧
         ((isReceiver v'7 x18 rs'8) ∧
         (capReceiver x18))) ∧
         ((((rcvB (r14).1 aWord) != (rcvB (r6).1 aWord)) = Bool.true →
         (Value.bool Bool.false) = (Value.bool Bool.true)) ∧
         (((rcvB (r14).1 aWord) != (rcvB (r6).1 aWord)) = Bool.false →
         (b13 = b13 ∧
          (b0 = b0 ∧
          (Exists (fun (x19 : ReceiverD) => (((isReceiver v0 x19 rs0) ∧
          (capReceiver x19)) ∧
          (∀ v'20 : Value,
          (∀ rs'21 : (List Row),
          ((isReceiver v'20 x19 rs'21) →
          (True ∧
           (Exists (fun (x22 : ReceiverD) => (((isReceiver v'11 x22 rs'12) ∧
           ((isReceiver v'20 x22 rs'21) ∧
           (capReceiver x22))) ∧
           (True ∧
           (b13 = b13 ∧
           (Exists (fun (x23 : ReceiverD) => (((isReceiver v'11 x23 rs'12) ∧
           ((capReceiver x23) ∧
           (mrkC (1 : Int)))) ∧
           ((endC (1 : Int) (endReceiver (1 : Int) x23) (16777216 : Int)) →
           (∀ rs'24 : (List Row),
            ((isReceiver v'11 (markReceiverD (1 : Int) x23) rs'24) →
            (((decide ((endReceiver (1 : Int) x23) < (0 : Int))) = Bool.false →
             (b17 = b17 ∧
              (b9 = b9 ∧
              (Exists (fun (x25 : ReceiverD) => (((isReceiver v'15 x25 rs'16) ∧
              ((isReceiver v'7 x25 rs'8) ∧
              (capReceiver x25))) ∧
              ((((rcvB (r14).1 aWord) != (rcvB (r6).1 aWord)) = Bool.true →
              (Value.bool Bool.false) = (Value.bool Bool.true)) ∧
              (((rcvB (r14).1 aWord) != (rcvB (r6).1 aWord)) = Bool.false →
              (b17 = b17 ∧
               (Exists (fun (x26 : ReceiverD) => (((isReceiver v'15 x26 rs'16) ∧
               ((capReceiver x26) ∧
               (mrkC (1 : Int)))) ∧
               ((endC (1 : Int) (endReceiver (1 : Int) x26) (16777216 : Int)) →
               (∀ rs'27 : (List Row),
                ((isReceiver v'15 (markReceiverD (1 : Int) x26) rs'27) →
                (b17 = b17 ∧
                 (Exists (fun (x28 : ReceiverD) => (((isReceiver v'15 (markReceiverD (1 : Int) x28) rs'27) ∧
                 ((capReceiver x28) ∧
                 (mrkC (1 : Int)))) ∧
                 (((decide ((endReceiver (1 : Int) x28) < (0 : Int))) = Bool.true →
                 (Value.bool Bool.false) = (Value.bool Bool.true)) ∧
                 ((decide ((endReceiver (1 : Int) x28) < (0 : Int))) = Bool.false →
                 ((((endReceiver (1 : Int) x28) != (endReceiver (1 : Int) x26)) = Bool.true →
                  (Value.bool Bool.false) = (Value.bool Bool.true)) ∧
                  (((endReceiver (1 : Int) x28) != (endReceiver (1 : Int) x26)) = Bool.false →
                  (b0 = b0 ∧
                   (Exists (fun (x29 : ReceiverD) => (((isReceiver v0 x29 rs0) ∧
                   (capReceiver x29)) ∧
                   (∀ v'30 : Value,
                   (∀ rs'31 : (List Row),
                   ((isReceiver v'30 x29 rs'31) →
                   (Exists (fun (r32 : ReceiverD) => (((isReceiver v'30 r32 rs'31) ∧
                    ((capReceiver r32) ∧
                    ((rngC aWord) ∧
                    (rngC (r32).1)))) ∧
                    (∀ v'33 : Value,
                    (∀ rs'34 : (List Row),
                    ((isReceiver v'33 (rcvD r32 aWord) rs'34) →
                    (∀ b35 : Nat,
                     ((b35 = b35 ∧
                     (wholeC Bool.true v'33 2)) ∧
                     (b35 = b35 ∧
                     (b9 = b9 ∧
                     (Exists (fun (x36 : ReceiverD) => (((isReceiver v'33 x36 rs'34) ∧
                     ((isReceiver v'7 x36 rs'8) ∧
                     (capReceiver x36))) ∧
                     ((((rcvB (r32).1 aWord) != (rcvB (r6).1 aWord)) = Bool.true →
                     (Value.bool Bool.false) = (Value.bool Bool.true)) ∧
                     (((rcvB (r32).1 aWord) != (rcvB (r6).1 aWord)) = Bool.false →
                     (b17 = b17 ∧
                      (Exists (fun (x37 : ReceiverD) => (((isReceiver v'15 (markReceiverD (1 : Int) x37) rs'27) ∧
                      ((capReceiver x37) ∧
                      (mrkC (1 : Int)))) ∧
                      (((decide ((endReceiver (1 : Int) x37) < (0 : Int))) = Bool.true →
                      (Value.bool Bool.false) = (Value.bool Bool.true)) ∧
                      ((decide ((endReceiver (1 : Int) x37) < (0 : Int))) = Bool.false →
                      ((((endReceiver (1 : Int) x37) != (endReceiver (1 : Int) x26)) = Bool.true →
                       (Value.bool Bool.false) = (Value.bool Bool.true)) ∧
                       (((endReceiver (1 : Int) x37) != (endReceiver (1 : Int) x26)) = Bool.false →
                       (Value.bool Bool.true) = (Value.bool Bool.true)))))))))))))))))))))))))))))))))))))))))))))))))))))) ∧
             ((decide ((endReceiver (1 : Int) x23) < (0 : Int))) = Bool.true →
             (Value.bool Bool.false) = (Value.bool Bool.true)))))))))))))))))))))))))))))))))))))))))))))))))))))))))))))))))))))))))))) := by kernel_rfl
theorem law_FnExactReceive_any (v0 : Value) (rs0 : List Row) (aWord : Int) (W : World) (x0 : ReceiverD) (hx0 : isReceiver v0 x0 rs0) (hw0 : ∀ r ∈ rs0, r.own = false ∧ r.sat W) (hn0 : x0.CommandsN ≤ 9223372036854775807) (hb0 : (-9223372036854775808 ≤ x0.Count ∧ x0.Count ≤ 9223372036854775807)) (baWord : -9223372036854775808 ≤ aWord ∧ aWord ≤ 9223372036854775807) : Calls Try.prog 8 #[v0, .int .i64 aWord] W fun e W' => e = .returned (.bool true) ∧ Below W.heap.size W W' := by
  refine fnB (tb := [(36, sToReceiverO), (37, sEqReceiverO), (38, sMarkReceiverO), (39, sHeldReceiverO), (34, sSzReceiverO), (24, sRecvO), (35, sRecvO)]) ⟨sToReceiverO_ok_laws_toReceiver, sEqReceiverO_ok, sMarkReceiverO_ok, sHeldReceiverO_ok, sSzReceiverO_ok, sRecvO_ok_impl_Receive, sRecvO_ok_spec_Receive, trivial⟩ Try.func8 (@Eq.mpr _ _ (law_FnExactReceive_T v0 rs0 aWord) ?_) (HS.objs (fun _ => False) [rs0] (seen_cons hw0 seen_nil)) (fun v ch' w' hk hs => ⟨by rw [hk], hs.below⟩)
  clear hw0
  repeat' (first
    | exact rfl
    | exact True.intro
    | assumption
    | exact capRcv (by assumption)
    | exact wholeReceiver (by assumption)
    | exact capOf1Receiver (by assumption)
    | refine And.intro ?_ ?_
    | apply Exists.intro
    | omega
    | (intro h; exfalso; revert h; simp; done)
    | (intro h; exfalso; simp at h; omega)
    | intro _)
theorem walk_FnExactReceive (cs0 : Array Value) (aWord : Int) (W : World) (h0 : Has W (.cons .int (.cons (.slice (.cons .int (.cons .int (.cons .int (.cons .int .nil))))) .nil)) cs0.toList) (baWord : -9223372036854775808 ≤ aWord ∧ aWord ≤ 9223372036854775807) : Calls Try.prog 8 #[.agg cs0, .int .i64 aWord] W fun e W' => e = .returned (.bool true) ∧ Below W.heap.size W W' := by
  obtain ⟨l0, hl0⟩ : ∃ l, cs0.toList = l := ⟨_, rfl⟩
  rw [hl0] at h0
  obtain ⟨aRCount, _, rfl, baRCount, h0_f0⟩ := has_int h0
  obtain ⟨aRCommandsO, aRCommandsN, aRCommandsC, _, rfl, hsaRCommands, h0_f1⟩ := has_slice h0_f0
  obtain ⟨hnaRCommands, aRCommandsG, bGaRCommands, hraRCommands⟩ := row_of_has (s := 4) (.inr rfl) (by omega) rfl hsaRCommands
  obtain rfl := has_nil h0_f1
  rw [arr_of hl0]
  exact law_FnExactReceive_any (.agg #[.int .i64 aRCount, .slice aRCommandsO aRCommandsN aRCommandsC]) [⟨false, aRCommandsO, 0, 4, aRCommandsN, 0, [fun i => .int (aRCommandsG 0 i), fun i => .int (aRCommandsG 1 i), fun i => .int (aRCommandsG 2 i), fun i => .int (aRCommandsG 3 i)]⟩] aWord W ⟨aRCount, aRCommandsN, (aRCommandsG 0), (aRCommandsG 1), (aRCommandsG 2), (aRCommandsG 3)⟩ ⟨_, _, _, _, _, rfl, rfl⟩ (rows_seen [⟨false, aRCommandsO, 0, 4, aRCommandsN, 0, [fun i => .int (aRCommandsG 0 i), fun i => .int (aRCommandsG 1 i), fun i => .int (aRCommandsG 2 i), fun i => .int (aRCommandsG 3 i)]⟩] (by simp; exact hraRCommands)) hnaRCommands baRCount baWord
end Go.Proofs.Ytkfinkolllpcgaa
