/-
  Receivers as objects.
-/
import Derived.Test.YtkfinkolllpcgaaSxO
import Derived.Test.YtkfinkolllpcgaaSxRcv
import Derived.Test.YtkfinkolllpcgaaSxSlL
namespace Go.Proofs.Ytkfinkolllpcgaa
set_option linter.unusedVariables false
set_option linter.unusedSimpArgs false
open Go.RowKit
set_option maxRecDepth 100000
set_option maxHeartbeats 8000000

/-! Receiver -/
structure ReceiverD where
  Count : Int
  CommandsN : Nat
  (Commandsg0 Commandsg1 Commandsg2 Commandsg3 : Nat → Int)
def isReceiver (v : Value) (x : ReceiverD) (rs : List Row) : Prop :=
  ∃ (CommandsO : Option Addr) (CommandsC CommandsT CommandsK : Nat) (CommandsB : Bool), v = .agg #[.int .i64 x.Count, .slice CommandsO x.CommandsN CommandsC] ∧ rs = [⟨CommandsB, CommandsO, CommandsT, 4, x.CommandsN, CommandsK, [fun i => .int (x.Commandsg0 i), fun i => .int (x.Commandsg1 i), fun i => .int (x.Commandsg2 i), fun i => .int (x.Commandsg3 i)]⟩]
abbrev capReceiver (x : ReceiverD) : Prop := x.CommandsN ≤ 2097152
abbrev cap1Receiver (x : ReceiverD) : Prop := x.CommandsN ≤ 1048576
theorem capOf1Receiver {x : ReceiverD} (h : cap1Receiver x) : capReceiver x := by unfold cap1Receiver at h; unfold capReceiver; omega
abbrev szPReceiver (z k : Int) (CommandsN : Nat) : Prop := z = -1 ∨ (0 ≤ z ∧ z ≤ k ∧ CommandsN ≤ 1048576)
abbrev lensReceiver (x : ReceiverD) : Prop := x.CommandsN ≤ 9223372036854775807
theorem wholeReceiver {v : Value} {x : ReceiverD} {rs : List Row} (h : isReceiver v x rs) : wholeC true v 2 := by
  obtain ⟨_, _, _, _, _, rfl, rfl⟩ := h
  exact ⟨_, rfl, rfl, List.all_eq_true.1 rfl⟩
def markReceiverD (k : Int) (x : ReceiverD) : ReceiverD := ⟨x.Count, x.CommandsN, fun i => mk (k) 4 0 i, fun i => mk (k) 4 1 i, fun i => mk (k) 4 2 i, fun i => mk (k) 4 3 i⟩
def endReceiver (k : Int) (x : ReceiverD) : Int := mk (k) 4 0 x.CommandsN
theorem toReceiver_T (Count : Int) (CommandsO : Option Addr) (CommandsN CommandsC : Nat) (Commandsg0 Commandsg1 Commandsg2 Commandsg3 : Nat → Int) : (exFn Try.prog {tb := [(28, sToCommandS)]} 400 Try.f36 ([.a (.agg [.int Count, .sl 0 CommandsO CommandsN CommandsC])]) ([.row ⟨false, CommandsO, 0, 4, CommandsN, 0, [fun i => .int (Commandsg0 i), fun i => .int (Commandsg1 i), fun i => .int (Commandsg2 i), fun i => .int (Commandsg3 i)]⟩]) (fun v ch => ∃ (ro0 : Option Addr) (rc0 : Nat), OutR v ch (.agg #[.int .i64 (Count), .slice ro0 (CommandsN) rc0]) [.row ⟨true, ro0, 41, 4, CommandsN, rc0, [fun i => .int (Commandsg0 i), fun i => .int (Commandsg1 i), fun i => .int (Commandsg2 i), fun i => .int (Commandsg3 i)]⟩])) = (
  (∀ b0 : Nat,
  (∀ b1 : Nat,
  (∀ b2 : Nat,
  (b0 = b0 ∧
  (b2 = b2 ∧
  (b0 = b0 ∧
  (Exists (fun (g03 : (Nat →
  Int)) => (Exists (fun (g14 : (Nat →
  Int)) => (Exists (fun (g25 : (Nat →
  Int)) => (Exists (fun (g36 : (Nat →
  Int)) => ((CommandsO = CommandsO ∧
  (CommandsN = CommandsN ∧
  ([(fun (i7 : Nat) => (SC.int (Commandsg0 i7))), (fun (i8 : Nat) => (SC.int (Commandsg1 i8))), (fun (i9 : Nat) => (SC.int (Commandsg2 i9))), (fun (i10 : Nat) => (SC.int (Commandsg3 i10)))] = [(fun (i11 : Nat) => (SC.int (g03 i11))), (fun (i12 : Nat) => (SC.int (g14 i12))), (fun (i13 : Nat) => (SC.int (g25 i13))), (fun (i14 : Nat) => (SC.int (g36 i14)))] ∧
  (capC CommandsN)))) ∧
  (∀ b15 : Nat,
  (b2 = b2 ∧
  (b2 = b2 ∧
  (b1 = b1 ∧
  (b1 = b1 ∧
  (Exists (fun (ro016 : (Option Addr)) => (Exists (fun (rc017 : Nat) => ((Value.agg (List.toArray [(Value.int IntKind.i64 Count), (Value.slice (Option.some (Addr.mk b15 0 Option.none)) CommandsN CommandsN)])) = (Value.agg (List.toArray [(Value.int IntKind.i64 Count), (Value.slice ro016 CommandsN rc017)])) ∧
  (((Bool.true = Bool.true ∧
  ((Option.some (Addr.mk b15 0 Option.none)) = ro016 ∧
  (41 = 41 ∧
  (4 = 4 ∧
  (CommandsN = CommandsN ∧
  (CommandsN = rc017 ∧
  ((∀ i18 : Nat,
  (i18 < CommandsN →
  (Value.int IntKind.i64 (g03 i18)) = (Value.int IntKind.i64 (Commandsg0 i18)))) ∧
  ((∀ i19 : Nat,
  (i19 < CommandsN →
  (Value.int IntKind.i64 (g14 i19)) = (Value.int IntKind.i64 (Commandsg1 i19)))) ∧
  ((∀ i20 : Nat,
  (i20 < CommandsN →
  (Value.int IntKind.i64 (g25 i20)) = (Value.int IntKind.i64 (Commandsg2 i20)))) ∧
  ((∀ i21 : Nat,
  (i21 < CommandsN →
  (Value.int IntKind.i64 (g36 i21)) = (Value.int IntKind.i64 (Commandsg3 i21)))) ∧
  True)))))))))) ∧
  True) ∧
  Bool.true = Bool.true))))))))))))))))))))))))))) := by kernel_rfl
theorem toReceiver_any (Count : Int) (CommandsO : Option Addr) (CommandsN CommandsC : Nat) (Commandsg0 Commandsg1 Commandsg2 Commandsg3 : Nat → Int) (w : World) (hrCommands : Row.sat w ⟨false, CommandsO, 0, 4, CommandsN, 0, [fun i => .int (Commandsg0 i), fun i => .int (Commandsg1 i), fun i => .int (Commandsg2 i), fun i => .int (Commandsg3 i)]⟩) (hpre : capC CommandsN) : Calls Try.prog 36 #[.agg #[.int .i64 Count, .slice CommandsO CommandsN CommandsC]] w fun e w' => ∃ (ro0 : Option Addr) (rc0 : Nat), e = .returned (.agg #[.int .i64 (Count), .slice ro0 (CommandsN) rc0]) ∧ HS ⟨w, fun _ => False⟩ [.row ⟨true, ro0, 41, 4, CommandsN, rc0, [fun i => .int (Commandsg0 i), fun i => .int (Commandsg1 i), fun i => .int (Commandsg2 i), fun i => .int (Commandsg3 i)]⟩] w' := by
  refine fnB (tb := [(28, sToCommandS)]) ⟨sToCommandS_ok, trivial⟩ Try.func36 (@Eq.mpr _ _ (toReceiver_T Count CommandsO CommandsN CommandsC Commandsg0 Commandsg1 Commandsg2 Commandsg3) ?_) (HS.rows (fun _ => False) [⟨false, CommandsO, 0, 4, CommandsN, 0, [fun i => .int (Commandsg0 i), fun i => .int (Commandsg1 i), fun i => .int (Commandsg2 i), fun i => .int (Commandsg3 i)]⟩] (by simp; exact hrCommands)) (fun v ch' w' ⟨ro0, rc0, hk⟩ hs => ⟨ro0, rc0, by rw [hk.1], hk.hs hs⟩)
  clear hrCommands
  repeat' (first
    | exact rfl
    | exact True.intro
    | refine And.intro ?_ ?_
    | apply Exists.intro
    | assumption
    | omega
    | intro _)
def sToReceiverO : Sm := fun args ch k =>
  match args with
  | [.a (.c (.obj i0 v0))] =>
    match ch[i0]? with
    | some (.obj _ r0) => ∃ (x : ReceiverD), (isReceiver v0 x r0 ∧ capReceiver x) ∧ ∀ (v' : Value) (rs' : List Row), isReceiver v' (x) rs' → k (.a (.c (.obj ch.length v'))) (ch ++ [.obj true rs']) []
    | _ => False
  | _ => False
theorem sToReceiverO_ok_laws_toReceiver : SmOK Try.prog 36 sToReceiverO := by
  refine smN Try.call36 fun args ch k w X h0 hs => ?_
  unfold sToReceiverO at h0
  split at h0
  · rename_i i0 v0
    split at h0
    · rename_i o0 r0 hi0
      obtain ⟨x, ⟨⟨_, _, _, _, _, rfl, rfl⟩, hpre⟩, h0⟩ := h0
      have hw0 := hs.seeObj hi0
      simp only [List.map_cons, List.map_nil, den_a, den_c, SA.den, den_obj]
      refine Calls.mono (toReceiver_any x.Count _ x.CommandsN _ x.Commandsg0 x.Commandsg1 x.Commandsg2 x.Commandsg3 w (Row.seenAs (hw0 _ (mem0)).2 rfl rfl) hpre) fun e w' ⟨ro0, rc0, he, hs'⟩ => ⟨_, [.obj true _], ?_, hs'.pack (rs := [_]) (by simp), rfl, h0 _ _ ⟨ro0, rc0, _, _, _, rfl, rfl⟩⟩
      rw [he]
      rfl
    · exact h0.elim
  · exact h0.elim
theorem eqReceiver_T (Count : Int) (CommandsN : Nat) (Commandsg0 Commandsg1 Commandsg2 Commandsg3 : Nat → Int) (aCommandsO : Option Addr) (aCommandsC : Nat) (bCommandsO : Option Addr) (bCommandsC : Nat) : (exFn Try.prog {tb := [(29, sEqCommandS)]} 400 Try.f37 ([.a (.agg [.int Count, .sl 0 aCommandsO CommandsN aCommandsC]), .a (.agg [.int Count, .sl 1 bCommandsO CommandsN bCommandsC])]) ([.row ⟨false, aCommandsO, 0, 4, CommandsN, 0, [fun i => .int (Commandsg0 i), fun i => .int (Commandsg1 i), fun i => .int (Commandsg2 i), fun i => .int (Commandsg3 i)]⟩, .row ⟨false, bCommandsO, 0, 4, CommandsN, 0, [fun i => .int (Commandsg0 i), fun i => .int (Commandsg1 i), fun i => .int (Commandsg2 i), fun i => .int (Commandsg3 i)]⟩]) (fun v _ => v.den = .bool true)) = (
  (∀ b0 : Nat,
  (∀ b1 : Nat,
  (b0 = b0 ∧
  (b1 = b1 ∧
  (((Count != Count) = Bool.true →
  (Value.bool Bool.false) = (Value.bool Bool.true)) ∧
  ((Count != Count) = Bool.false →
  (b0 = b0 ∧
   (b1 = b1 ∧
   (Exists (fun (g02 : (Nat →
   Int)) => (Exists (fun (g13 : (Nat →
   Int)) => (Exists (fun (g24 : (Nat →
   Int)) => (Exists (fun (g35 : (Nat →
   Int)) => (Exists (fun (q06 : (Nat →
   Int)) => (Exists (fun (q17 : (Nat →
   Int)) => (Exists (fun (q28 : (Nat →
   Int)) => (Exists (fun (q39 : (Nat →
   Int)) => ((aCommandsO = aCommandsO ∧
   (CommandsN = CommandsN ∧
   ([(fun (i10 : Nat) => (SC.int (Commandsg0 i10))), (fun (i11 : Nat) => (SC.int (Commandsg1 i11))), (fun (i12 : Nat) => (SC.int (Commandsg2 i12))), (fun (i13 : Nat) => (SC.int (Commandsg3 i13)))] = [(fun (i14 : Nat) => (SC.int (g02 i14))), (fun (i15 : Nat) => (SC.int (g13 i15))), (fun (i16 : Nat) => (SC.int (g24 i16))), (fun (i17 : Nat) => (SC.int (g35 i17)))] ∧
   (bCommandsO = bCommandsO ∧
   (CommandsN = CommandsN ∧
   ([(fun (i18 : Nat) => (SC.int (Commandsg0 i18))), (fun (i19 : Nat) => (SC.int (Commandsg1 i19))), (fun (i20 : Nat) => (SC.int (Commandsg2 i20))), (fun (i21 : Nat) => (SC.int (Commandsg3 i21)))] = [(fun (i22 : Nat) => (SC.int (q06 i22))), (fun (i23 : Nat) => (SC.int (q17 i23))), (fun (i24 : Nat) => (SC.int (q28 i24))), (fun (i25 : Nat) => (SC.int (q39 i25)))] ∧
   (CommandsN = CommandsN ∧
   (capC CommandsN)))))))) ∧
   ((∀ i26 : Nat,
   (i26 < CommandsN →
   ((g02 i26) = (q06 i26) ∧
    ((g13 i26) = (q17 i26) ∧
    ((g24 i26) = (q28 i26) ∧
    (g35 i26) = (q39 i26)))))) ∧
   (Value.bool Bool.true) = (Value.bool Bool.true)))))))))))))))))))))))))))) := by kernel_rfl
theorem eqReceiver_any (Count : Int) (CommandsN : Nat) (Commandsg0 Commandsg1 Commandsg2 Commandsg3 : Nat → Int) (aCommandsO : Option Addr) (aCommandsC : Nat) (bCommandsO : Option Addr) (bCommandsC : Nat) (w : World) (hra0 : Row.sat w ⟨false, aCommandsO, 0, 4, CommandsN, 0, [fun i => .int (Commandsg0 i), fun i => .int (Commandsg1 i), fun i => .int (Commandsg2 i), fun i => .int (Commandsg3 i)]⟩) (hrb0 : Row.sat w ⟨false, bCommandsO, 0, 4, CommandsN, 0, [fun i => .int (Commandsg0 i), fun i => .int (Commandsg1 i), fun i => .int (Commandsg2 i), fun i => .int (Commandsg3 i)]⟩) (hcap : CommandsN ≤ 2097152) : Calls Try.prog 37 #[.agg #[.int .i64 Count, .slice aCommandsO CommandsN aCommandsC], .agg #[.int .i64 Count, .slice bCommandsO CommandsN bCommandsC]] w fun e w' => e = .returned (.bool true) ∧ Below w.heap.size w w' := by
  refine fnB (tb := [(29, sEqCommandS)]) ⟨sEqCommandS_ok, trivial⟩ Try.func37 (@Eq.mpr _ _ (eqReceiver_T Count CommandsN Commandsg0 Commandsg1 Commandsg2 Commandsg3 aCommandsO aCommandsC bCommandsO bCommandsC) ?_) (HS.rows (fun _ => False) [⟨false, aCommandsO, 0, 4, CommandsN, 0, [fun i => .int (Commandsg0 i), fun i => .int (Commandsg1 i), fun i => .int (Commandsg2 i), fun i => .int (Commandsg3 i)]⟩, ⟨false, bCommandsO, 0, 4, CommandsN, 0, [fun i => .int (Commandsg0 i), fun i => .int (Commandsg1 i), fun i => .int (Commandsg2 i), fun i => .int (Commandsg3 i)]⟩] (by simp; exact ⟨hra0, hrb0⟩)) (fun v ch' w' hk hs => ⟨by rw [hk], hs.below⟩)
  clear hra0 hrb0
  repeat' (first
    | exact rfl
    | exact True.intro
    | assumption
    | refine And.intro ?_ ?_
    | apply Exists.intro
    | omega
    | (intro h; exfalso; simp at h; done)
    | (intro h; exfalso; simp at h; omega)
    | intro _)
def sEqReceiverO : Sm := fun args ch k =>
  match args with
  | [.a (.c (.obj i v)), .a (.c (.obj j u))] =>
    match ch[i]?, ch[j]? with
    | some (.obj _ rs), some (.obj _ us) => ∃ x : ReceiverD, (isReceiver v x rs ∧ isReceiver u x us ∧ capReceiver x) ∧ k (.a (.c (.lit true))) ch []
    | _, _ => False
  | _ => False
theorem sEqReceiverO_ok : SmOK Try.prog 37 sEqReceiverO := by
  refine smB Try.call37 fun args ch k w X h0 hs => ?_
  unfold sEqReceiverO at h0
  split at h0
  · rename_i i v j u
    split at h0
    · rename_i o rs o' us hi hj
      obtain ⟨x, ⟨⟨_, _, _, _, _, rfl, rfl⟩, ⟨_, _, _, _, _, rfl, rfl⟩, hc⟩, h0⟩ := h0
      have h1 := hs.seeObj hi
      have h2 := hs.seeObj hj
      refine ⟨_, h0, ?_⟩
      exact eqReceiver_any x.Count x.CommandsN x.Commandsg0 x.Commandsg1 x.Commandsg2 x.Commandsg3 _ _ _ _ w (Row.seenAs (h1 _ (mem0)).2 rfl rfl) (Row.seenAs (h2 _ (mem0)).2 rfl rfl) hc
    · exact h0.elim
  · exact h0.elim
theorem markReceiver_T (Count : Int) (CommandsN : Nat) (Commandsg0 Commandsg1 Commandsg2 Commandsg3 : Nat → Int) (CommandsO : Option Addr) (CommandsC : Nat) (CommandsT CommandsK : Nat) (k0 : Int) : (exFn Try.prog {tb := [(30, sMarkCommandS)]} 400 Try.f38 ([.a (.agg [.int Count, .sl 0 CommandsO CommandsN CommandsC]), .a (.c (.int k0))]) ([.row ⟨true, CommandsO, CommandsT, 4, CommandsN, CommandsK, [fun i => .int (Commandsg0 i), fun i => .int (Commandsg1 i), fun i => .int (Commandsg2 i), fun i => .int (Commandsg3 i)]⟩]) (fun v ch => v.den = .int .i64 (mk (k0) 4 0 CommandsN) ∧ selC ch [0] = [.row ⟨true, CommandsO, CommandsT, 4, CommandsN, CommandsK, [fun i => .int (mk (k0) 4 0 i), fun i => .int (mk (k0) 4 1 i), fun i => .int (mk (k0) 4 2 i), fun i => .int (mk (k0) 4 3 i)]⟩])) = (
  (∀ b0 : Nat,
  (b0 = b0 ∧
  (Exists (fun (g01 : (Nat →
  Int)) => (Exists (fun (g12 : (Nat →
  Int)) => (Exists (fun (g23 : (Nat →
  Int)) => (Exists (fun (g34 : (Nat →
  Int)) => ((CommandsO = CommandsO ∧
  (CommandsN = CommandsN ∧
  ([(fun (i5 : Nat) => (SC.int (Commandsg0 i5))), (fun (i6 : Nat) => (SC.int (Commandsg1 i6))), (fun (i7 : Nat) => (SC.int (Commandsg2 i7))), (fun (i8 : Nat) => (SC.int (Commandsg3 i8)))] = [(fun (i9 : Nat) => (SC.int (g01 i9))), (fun (i10 : Nat) => (SC.int (g12 i10))), (fun (i11 : Nat) => (SC.int (g23 i11))), (fun (i12 : Nat) => (SC.int (g34 i12)))] ∧
  (markC CommandsN k0)))) ∧
  ((Value.int IntKind.i64 (mk k0 4 0 CommandsN)) = (Value.int IntKind.i64 (mk k0 4 0 CommandsN)) ∧
  [(Ch.row (Row.mk Bool.true CommandsO CommandsT 4 CommandsN CommandsK [(fun (i13 : Nat) => (SC.int (mk k0 4 0 i13))), (fun (i14 : Nat) => (SC.int (mk k0 4 1 i14))), (fun (i15 : Nat) => (SC.int (mk k0 4 2 i15))), (fun (i16 : Nat) => (SC.int (mk k0 4 3 i16)))]))] = [(Ch.row (Row.mk Bool.true CommandsO CommandsT 4 CommandsN CommandsK [(fun (i17 : Nat) => (SC.int (mk k0 4 0 i17))), (fun (i18 : Nat) => (SC.int (mk k0 4 1 i18))), (fun (i19 : Nat) => (SC.int (mk k0 4 2 i19))), (fun (i20 : Nat) => (SC.int (mk k0 4 3 i20)))]))]))))))))))))) := by kernel_rfl
theorem markReceiver_any (Count : Int) (CommandsN : Nat) (Commandsg0 Commandsg1 Commandsg2 Commandsg3 : Nat → Int) (CommandsO : Option Addr) (CommandsC : Nat) (CommandsT CommandsK : Nat) (k0 : Int) (w : World) (M : Nat → Prop) (hs : HS ⟨w, M⟩ [.row ⟨true, CommandsO, CommandsT, 4, CommandsN, CommandsK, [fun i => .int (Commandsg0 i), fun i => .int (Commandsg1 i), fun i => .int (Commandsg2 i), fun i => .int (Commandsg3 i)]⟩] w) (hcap : CommandsN ≤ 2097152) (h0 : 0 ≤ k0 ∧ k0 ≤ 549755813888) : Calls Try.prog 38 #[.agg #[.int .i64 Count, .slice CommandsO CommandsN CommandsC], .int .i64 k0] w fun e w' => e = .returned (.int .i64 (mk (k0) 4 0 CommandsN)) ∧ HS ⟨w, M⟩ [.row ⟨true, CommandsO, CommandsT, 4, CommandsN, CommandsK, [fun i => .int (mk (k0) 4 0 i), fun i => .int (mk (k0) 4 1 i), fun i => .int (mk (k0) 4 2 i), fun i => .int (mk (k0) 4 3 i)]⟩] w' := by
  refine fnB (tb := [(30, sMarkCommandS)]) ⟨sMarkCommandS_ok, trivial⟩ Try.func38 (@Eq.mpr _ _ (markReceiver_T Count CommandsN Commandsg0 Commandsg1 Commandsg2 Commandsg3 CommandsO CommandsC CommandsT CommandsK k0) ?_) hs (fun v ch' w' ⟨hv, hc⟩ hs => ⟨by rw [hv], by rw [← hc]; exact hs.sel _ (by simp)⟩)
  clear hs
  have hb0 : 0 ≤ mk (k0) 4 0 CommandsN ∧ mk (k0) 4 0 CommandsN ≤ k0 + 16777216 := mk_more (by omega) (by omega) (by omega)
  repeat' (first
    | exact rfl
    | exact True.intro
    | assumption
    | refine And.intro ?_ ?_
    | apply Exists.intro
    | omega
    | (intro h; exfalso; simp at h; done)
    | (intro h; exfalso; simp at h; omega)
    | intro _)
def sMarkReceiverO : Sm := fun args ch k =>
  match args with
  | [.a (.c (.obj i v)), .a (.c kc)] =>
    match ch[i]?, asI kc with
    | some (.obj true rs), some k0 => ∃ x : ReceiverD, (isReceiver v x rs ∧ capReceiver x ∧ mrkC k0) ∧ (endC k0 (endReceiver k0 x) 16777216 → ∀ rs' : List Row, isReceiver v (markReceiverD k0 x) rs' → k (.a (.c (.int (endReceiver k0 x)))) (ch.set i (.obj true rs')) [i])
    | _, _ => False
  | _ => False
theorem sMarkReceiverO_ok : SmOK Try.prog 38 sMarkReceiverO := by
  refine smTurnO Try.call38 fun args ch k w X h0 hs => ?_
  unfold sMarkReceiverO at h0
  split at h0
  · rename_i i v kc
    split at h0
    · rename_i rs k0 hi hk
      obtain ⟨x, ⟨⟨CommandsO, CommandsC, CommandsT, CommandsK, CommandsB, rfl, rfl⟩, hc, hk0⟩, h0⟩ := h0
      have h1 := hs.seeObj hi
      have eCommands : CommandsB = true := (h1 _ (mem0)).1
      subst eCommands
      have hb0 : 0 ≤ mk (k0) 4 0 x.CommandsN ∧ mk (k0) 4 0 x.CommandsN ≤ k0 + 16777216 := mk_more (by omega) (by omega) (by omega)
      refine ⟨_, i, _, _, hi, h0 ⟨by unfold endReceiver; omega, by unfold endReceiver; omega⟩ [⟨true, CommandsO, CommandsT, 4, x.CommandsN, CommandsK, [fun i => .int ((markReceiverD k0 x).Commandsg0 i), fun i => .int ((markReceiverD k0 x).Commandsg1 i), fun i => .int ((markReceiverD k0 x).Commandsg2 i), fun i => .int ((markReceiverD k0 x).Commandsg3 i)]⟩] ⟨_, _, _, _, _, rfl, rfl⟩, by simp, (at_cons rfl rfl rfl (fun _ h => h)), ?_⟩
      simp only [List.map_cons, List.map_nil, den_a, den_c, asI_den hk]
      exact markReceiver_any x.Count x.CommandsN x.Commandsg0 x.Commandsg1 x.Commandsg2 x.Commandsg3 CommandsO CommandsC CommandsT CommandsK k0 w _ (hs.open hi) hc hk0
    · exact h0.elim
  · exact h0.elim
theorem heldReceiver_T (Count : Int) (CommandsN : Nat) (CommandsO : Option Addr) (CommandsC : Nat) (k0 : Int) : (exFn Try.prog {tb := [(63, sHeldCommandS)]} 400 Try.f39 ([.a (.agg [.int Count, .sl 0 CommandsO CommandsN CommandsC]), .a (.c (.int k0))]) ([.row ⟨false, CommandsO, 0, 4, CommandsN, 0, [fun i => .int (mk (k0) 4 0 i), fun i => .int (mk (k0) 4 1 i), fun i => .int (mk (k0) 4 2 i), fun i => .int (mk (k0) 4 3 i)]⟩]) (fun v _ => v.den = .int .i64 (mk (k0) 4 0 CommandsN))) = (
  (∀ b0 : Nat,
  (b0 = b0 ∧
  ((CommandsO = CommandsO ∧
  (CommandsN = CommandsN ∧
  ([(fun (i1 : Nat) => (SC.int (mk k0 4 0 i1))), (fun (i2 : Nat) => (SC.int (mk k0 4 1 i2))), (fun (i3 : Nat) => (SC.int (mk k0 4 2 i3))), (fun (i4 : Nat) => (SC.int (mk k0 4 3 i4)))] = [(fun (i5 : Nat) => (SC.int (mk k0 4 0 i5))), (fun (i6 : Nat) => (SC.int (mk k0 4 1 i6))), (fun (i7 : Nat) => (SC.int (mk k0 4 2 i7))), (fun (i8 : Nat) => (SC.int (mk k0 4 3 i8)))] ∧
  (markC CommandsN k0)))) ∧
  (((decide ((mk k0 4 0 CommandsN) < (0 : Int))) = Bool.true →
  (Value.int IntKind.i64 (-1 : Int)) = (Value.int IntKind.i64 (mk k0 4 0 CommandsN))) ∧
  ((decide ((mk k0 4 0 CommandsN) < (0 : Int))) = Bool.false →
  (Value.int IntKind.i64 (mk k0 4 0 CommandsN)) = (Value.int IntKind.i64 (mk k0 4 0 CommandsN)))))))) := by kernel_rfl
theorem heldReceiver_any (Count : Int) (CommandsN : Nat) (CommandsO : Option Addr) (CommandsC : Nat) (k0 : Int) (w : World) (hr0 : Row.sat w ⟨false, CommandsO, 0, 4, CommandsN, 0, [fun i => .int (mk (k0) 4 0 i), fun i => .int (mk (k0) 4 1 i), fun i => .int (mk (k0) 4 2 i), fun i => .int (mk (k0) 4 3 i)]⟩) (hcap : CommandsN ≤ 2097152) (h0 : 0 ≤ k0 ∧ k0 ≤ 549755813888) : Calls Try.prog 39 #[.agg #[.int .i64 Count, .slice CommandsO CommandsN CommandsC], .int .i64 k0] w fun e w' => e = .returned (.int .i64 (mk (k0) 4 0 CommandsN)) ∧ Below w.heap.size w w' := by
  refine fnB (tb := [(63, sHeldCommandS)]) ⟨sHeldCommandS_ok, trivial⟩ Try.func39 (@Eq.mpr _ _ (heldReceiver_T Count CommandsN CommandsO CommandsC k0) ?_) (HS.rows (fun _ => False) [⟨false, CommandsO, 0, 4, CommandsN, 0, [fun i => .int (mk (k0) 4 0 i), fun i => .int (mk (k0) 4 1 i), fun i => .int (mk (k0) 4 2 i), fun i => .int (mk (k0) 4 3 i)]⟩] (by simp; exact hr0)) (fun v ch' w' hk hs => ⟨by rw [hk], hs.below⟩)
  clear hr0
  have hb0 : 0 ≤ mk (k0) 4 0 CommandsN ∧ mk (k0) 4 0 CommandsN ≤ k0 + 16777216 := mk_more (by omega) (by omega) (by omega)
  repeat' (first
    | exact rfl
    | exact True.intro
    | assumption
    | refine And.intro ?_ ?_
    | apply Exists.intro
    | omega
    | (intro h; exfalso; simp at h; done)
    | (intro h; exfalso; simp at h; omega)
    | intro _)
def sHeldReceiverO : Sm := fun args ch k =>
  match args with
  | [.a (.c (.obj i v)), .a (.c kc)] =>
    match ch[i]?, asI kc with
    | some (.obj _ rs), some k0 => ∃ x : ReceiverD, (isReceiver v (markReceiverD k0 x) rs ∧ capReceiver x ∧ mrkC k0) ∧ k (.a (.c (.int (endReceiver k0 x)))) ch []
    | _, _ => False
  | _ => False
theorem sHeldReceiverO_ok : SmOK Try.prog 39 sHeldReceiverO := by
  refine smB Try.call39 fun args ch k w X h0 hs => ?_
  unfold sHeldReceiverO at h0
  split at h0
  · rename_i i v kc
    split at h0
    · rename_i o rs k0 hi hk
      obtain ⟨x, ⟨⟨_, _, _, _, _, rfl, rfl⟩, hc, hk0⟩, h0⟩ := h0
      have h1 := hs.seeObj hi
      refine ⟨_, h0, ?_⟩
      simp only [List.map_cons, List.map_nil, den_a, den_c, asI_den hk]
      exact heldReceiver_any x.Count x.CommandsN _ _ k0 w (Row.seenAs (h1 _ (mem0)).2 rfl rfl) hc hk0
    · exact h0.elim
  · exact h0.elim
theorem szReceiver_T (Count : Int) (CommandsO : Option Addr) (CommandsN CommandsC : Nat) (k0 : Int) : (exFn Try.prog {tb := [(26, sSzCommandS)]} 400 Try.f34 ([.a (.agg [.int Count, .sl 0 CommandsO CommandsN CommandsC]), .a (.c (.int k0))]) ([]) (fun v _ => ∃ z : Int, v.den = .int .i64 z ∧ szPReceiver z k0 CommandsN)) = (
  (∀ b0 : Nat,
  (b0 = b0 ∧
  ((szC CommandsN k0) ∧
  (((k0 < ((CommandsN : Nat) : Int)) →
  (Exists (fun (z1 : Int) => ((Value.int IntKind.i64 (-1 : Int)) = (Value.int IntKind.i64 z1) ∧
   (szPReceiver z1 k0 CommandsN))))) ∧
  ((((CommandsN : Nat) : Int) ≤ k0) →
  (((decide ((k0 - ((CommandsN : Nat) : Int)) < (0 : Int))) = Bool.true →
   (Exists (fun (z2 : Int) => ((Value.int IntKind.i64 (-1 : Int)) = (Value.int IntKind.i64 z2) ∧
    (szPReceiver z2 k0 CommandsN))))) ∧
   ((decide ((k0 - ((CommandsN : Nat) : Int)) < (0 : Int))) = Bool.false →
   (Exists (fun (z3 : Int) => ((Value.int IntKind.i64 (k0 - ((CommandsN : Nat) : Int))) = (Value.int IntKind.i64 z3) ∧
    (szPReceiver z3 k0 CommandsN)))))))))))) := by kernel_rfl
theorem szReceiver_any (Count : Int) (CommandsO : Option Addr) (CommandsN CommandsC : Nat) (k0 : Int) (w : World) (hn : CommandsN ≤ 9223372036854775807) (h0 : 0 ≤ k0 ∧ k0 ≤ 1048576) : Calls Try.prog 34 #[.agg #[.int .i64 Count, .slice CommandsO CommandsN CommandsC], .int .i64 k0] w fun e w' => ∃ z : Int, (z = -1 ∨ (0 ≤ z ∧ z ≤ k0 ∧ CommandsN ≤ 1048576)) ∧ e = .returned (.int .i64 z) ∧ Below w.heap.size w w' := by
  refine fnB (tb := [(26, sSzCommandS)]) ⟨sSzCommandS_ok, trivial⟩ Try.func34 (@Eq.mpr _ _ (szReceiver_T Count CommandsO CommandsN CommandsC k0) ?_) (HS.start w (fun _ => False)) (fun v ch' w' ⟨z, hv, hz⟩ hs => ⟨z, hz, by rw [hv], hs.below⟩)
  repeat' (first
    | (refine ⟨_, rfl, ?_⟩; first | exact .inl rfl | (refine .inr ?_; omega))
    | exact True.intro
    | assumption
    | refine And.intro ?_ ?_
    | omega
    | (intro h; exfalso; simp at h; done)
    | (intro h; exfalso; simp at h; omega)
    | intro _)
def sSzReceiverO : Sm := fun args ch k =>
  match args with
  | [.a (.c (.obj i v)), .a (.c kc)] =>
    match ch[i]?, asI kc with
    | some (.obj _ rs), some k0 => ∃ x : ReceiverD, (isReceiver v x rs ∧ lensReceiver x ∧ szK k0) ∧ (k (.a (.c (.il (-1)))) ch [] ∧ ∀ z : Int, szO z k0 → cap1Receiver x → k (.a (.c (.int z))) ch [])
    | _, _ => False
  | _ => False
theorem sSzReceiverO_ok : SmOK Try.prog 34 sSzReceiverO := by
  refine smV Try.call34 fun args ch k w X h0 hs => ?_
  unfold sSzReceiverO at h0
  split at h0
  · rename_i i v kc
    split at h0
    · rename_i o rs k0 hi hk
      obtain ⟨x, ⟨⟨_, _, _, _, _, rfl, rfl⟩, hc, hk0⟩, h1, h2⟩ := h0
      simp only [List.map_cons, List.map_nil, den_a, den_c, asI_den hk]
      refine Calls.mono (szReceiver_any x.Count _ x.CommandsN _ k0 w hc hk0) fun e w' ⟨z, hz, he, hb⟩ => ?_
      rcases hz with rfl | ⟨hz0, hz1, hz2⟩
      · exact ⟨.a (.c (.il (-1))), he, hb, h1⟩
      · exact ⟨.a (.c (.int z)), he, hb, h2 z ⟨hz0, hz1⟩ hz2⟩
    · exact h0.elim
  · exact h0.elim
end Go.Proofs.Ytkfinkolllpcgaa
