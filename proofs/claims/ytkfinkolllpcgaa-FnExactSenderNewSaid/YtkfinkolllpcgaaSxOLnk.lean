/-
  Senders as objects.
-/
import Derived.Test.YtkfinkolllpcgaaSxO
import Derived.Test.YtkfinkolllpcgaaSxLnk
namespace Go.Proofs.Ytkfinkolllpcgaa
set_option linter.unusedVariables false
set_option linter.unusedSimpArgs false
open Go.RowKit
set_option maxRecDepth 100000
set_option maxHeartbeats 8000000

/-! Sender -/
structure SenderD where
  FramesN : Nat
  (Framesg0 : Nat → Int)
  Next : Int
def isSender (v : Value) (x : SenderD) (rs : List Row) : Prop :=
  ∃ (FramesO : Option Addr) (FramesC FramesT FramesK : Nat) (FramesB : Bool), v = .agg #[.slice FramesO x.FramesN FramesC, .int .i64 x.Next] ∧ rs = [⟨FramesB, FramesO, FramesT, 1, x.FramesN, FramesK, [fun i => .int (x.Framesg0 i)]⟩]
abbrev capSender (x : SenderD) : Prop := x.FramesN ≤ 2097152
abbrev cap1Sender (x : SenderD) : Prop := x.FramesN ≤ 1048576
theorem capOf1Sender {x : SenderD} (h : cap1Sender x) : capSender x := by unfold cap1Sender at h; unfold capSender; omega
abbrev szPSender (z k : Int) (FramesN : Nat) : Prop := z = -1 ∨ (0 ≤ z ∧ z ≤ k ∧ FramesN ≤ 1048576)
abbrev lensSender (x : SenderD) : Prop := x.FramesN ≤ 9223372036854775807
theorem wholeSender {v : Value} {x : SenderD} {rs : List Row} (h : isSender v x rs) : wholeC true v 2 := by
  obtain ⟨_, _, _, _, _, rfl, rfl⟩ := h
  exact ⟨_, rfl, rfl, List.all_eq_true.1 rfl⟩
def markSenderD (k : Int) (x : SenderD) : SenderD := ⟨x.FramesN, fun i => mk (k) 1 0 i, x.Next⟩
def endSender (k : Int) (x : SenderD) : Int := mk (k) 1 0 x.FramesN
theorem toSender_T (FramesO : Option Addr) (FramesN FramesC : Nat) (Framesg0 : Nat → Int) (Next : Int) : (exFn Try.prog {tb := [(41, sToIntS)]} 400 Try.f13 ([.a (.agg [.sl 0 FramesO FramesN FramesC, .int Next])]) ([.row ⟨false, FramesO, 0, 1, FramesN, 0, [fun i => .int (Framesg0 i)]⟩]) (fun v ch => ∃ (ro0 : Option Addr) (rc0 : Nat), OutR v ch (.agg #[.slice ro0 (FramesN) rc0, .int .i64 (Next)]) [.row ⟨true, ro0, 3, 1, FramesN, rc0, [fun i => .int (Framesg0 i)]⟩])) = (
  (∀ b0 : Nat,
  (∀ b1 : Nat,
  (∀ b2 : Nat,
  (b0 = b0 ∧
  (Exists (fun (g03 : (Nat →
  Int)) => ((FramesO = FramesO ∧
  (FramesN = FramesN ∧
  ([(fun (i4 : Nat) => (SC.int (Framesg0 i4)))] = [(fun (i5 : Nat) => (SC.int (g03 i5)))] ∧
  (capC FramesN)))) ∧
  (∀ b6 : Nat,
  (b2 = b2 ∧
  (b0 = b0 ∧
  (b2 = b2 ∧
  (b2 = b2 ∧
  (b1 = b1 ∧
  (b1 = b1 ∧
  (Exists (fun (ro07 : (Option Addr)) => (Exists (fun (rc08 : Nat) => ((Value.agg (List.toArray [(Value.slice (Option.some (Addr.mk b6 0 Option.none)) FramesN FramesN), (Value.int IntKind.i64 Next)])) = (Value.agg (List.toArray [(Value.slice ro07 FramesN rc08), (Value.int IntKind.i64 Next)])) ∧
  (((Bool.true = Bool.true ∧
  ((Option.some (Addr.mk b6 0 Option.none)) = ro07 ∧
  (3 = 3 ∧
  (1 = 1 ∧
  (FramesN = FramesN ∧
  (FramesN = rc08 ∧
  ((∀ i9 : Nat,
  (i9 < FramesN →
  (Value.int IntKind.i64 (g03 i9)) = (Value.int IntKind.i64 (Framesg0 i9)))) ∧
  True))))))) ∧
  True) ∧
  Bool.true = Bool.true))))))))))))))))))))) := by kernel_rfl
theorem toSender_any (FramesO : Option Addr) (FramesN FramesC : Nat) (Framesg0 : Nat → Int) (Next : Int) (w : World) (hrFrames : Row.sat w ⟨false, FramesO, 0, 1, FramesN, 0, [fun i => .int (Framesg0 i)]⟩) (hpre : capC FramesN) : Calls Try.prog 13 #[.agg #[.slice FramesO FramesN FramesC, .int .i64 Next]] w fun e w' => ∃ (ro0 : Option Addr) (rc0 : Nat), e = .returned (.agg #[.slice ro0 (FramesN) rc0, .int .i64 (Next)]) ∧ HS ⟨w, fun _ => False⟩ [.row ⟨true, ro0, 3, 1, FramesN, rc0, [fun i => .int (Framesg0 i)]⟩] w' := by
  refine fnB (tb := [(41, sToIntS)]) ⟨sToIntS_ok, trivial⟩ Try.func13 (@Eq.mpr _ _ (toSender_T FramesO FramesN FramesC Framesg0 Next) ?_) (HS.rows (fun _ => False) [⟨false, FramesO, 0, 1, FramesN, 0, [fun i => .int (Framesg0 i)]⟩] (by simp; exact hrFrames)) (fun v ch' w' ⟨ro0, rc0, hk⟩ hs => ⟨ro0, rc0, by rw [hk.1], hk.hs hs⟩)
  clear hrFrames
  repeat' (first
    | exact rfl
    | exact True.intro
    | refine And.intro ?_ ?_
    | apply Exists.intro
    | assumption
    | omega
    | intro _)
def sToSenderO : Sm := fun args ch k =>
  match args with
  | [.a (.c (.obj i0 v0))] =>
    match ch[i0]? with
    | some (.obj _ r0) => ∃ (x : SenderD), (isSender v0 x r0 ∧ capSender x) ∧ ∀ (v' : Value) (rs' : List Row), isSender v' (x) rs' → k (.a (.c (.obj ch.length v'))) (ch ++ [.obj true rs']) []
    | _ => False
  | _ => False
theorem sToSenderO_ok_laws_toSender : SmOK Try.prog 13 sToSenderO := by
  refine smN Try.call13 fun args ch k w X h0 hs => ?_
  unfold sToSenderO at h0
  split at h0
  · rename_i i0 v0
    split at h0
    · rename_i o0 r0 hi0
      obtain ⟨x, ⟨⟨_, _, _, _, _, rfl, rfl⟩, hpre⟩, h0⟩ := h0
      have hw0 := hs.seeObj hi0
      simp only [List.map_cons, List.map_nil, den_a, den_c, SA.den, den_obj]
      refine Calls.mono (toSender_any _ x.FramesN _ x.Framesg0 x.Next w (Row.seenAs (hw0 _ (mem0)).2 rfl rfl) hpre) fun e w' ⟨ro0, rc0, he, hs'⟩ => ⟨_, [.obj true _], ?_, hs'.pack (rs := [_]) (by simp), rfl, h0 _ _ ⟨ro0, rc0, _, _, _, rfl, rfl⟩⟩
      rw [he]
      rfl
    · exact h0.elim
  · exact h0.elim
theorem eqSender_T (FramesN : Nat) (Framesg0 : Nat → Int) (Next : Int) (aFramesO : Option Addr) (aFramesC : Nat) (bFramesO : Option Addr) (bFramesC : Nat) : (exFn Try.prog {tb := [(42, sEqIntS)]} 400 Try.f15 ([.a (.agg [.sl 0 aFramesO FramesN aFramesC, .int Next]), .a (.agg [.sl 1 bFramesO FramesN bFramesC, .int Next])]) ([.row ⟨false, aFramesO, 0, 1, FramesN, 0, [fun i => .int (Framesg0 i)]⟩, .row ⟨false, bFramesO, 0, 1, FramesN, 0, [fun i => .int (Framesg0 i)]⟩]) (fun v _ => v.den = .bool true)) = (
  (∀ b0 : Nat,
  (∀ b1 : Nat,
  (b0 = b0 ∧
  (b1 = b1 ∧
  (Exists (fun (g02 : (Nat →
  Int)) => (Exists (fun (q03 : (Nat →
  Int)) => ((aFramesO = aFramesO ∧
  (FramesN = FramesN ∧
  ([(fun (i4 : Nat) => (SC.int (Framesg0 i4)))] = [(fun (i5 : Nat) => (SC.int (g02 i5)))] ∧
  (bFramesO = bFramesO ∧
  (FramesN = FramesN ∧
  ([(fun (i6 : Nat) => (SC.int (Framesg0 i6)))] = [(fun (i7 : Nat) => (SC.int (q03 i7)))] ∧
  (FramesN = FramesN ∧
  (capC FramesN)))))))) ∧
  ((∀ i8 : Nat,
  (i8 < FramesN →
  (g02 i8) = (q03 i8))) ∧
  (b0 = b0 ∧
  (b1 = b1 ∧
  (((Next != Next) = Bool.true →
  (Value.bool Bool.false) = (Value.bool Bool.true)) ∧
  ((Next != Next) = Bool.false →
  (Value.bool Bool.true) = (Value.bool Bool.true)))))))))))))))) := by kernel_rfl
theorem eqSender_any (FramesN : Nat) (Framesg0 : Nat → Int) (Next : Int) (aFramesO : Option Addr) (aFramesC : Nat) (bFramesO : Option Addr) (bFramesC : Nat) (w : World) (hra0 : Row.sat w ⟨false, aFramesO, 0, 1, FramesN, 0, [fun i => .int (Framesg0 i)]⟩) (hrb0 : Row.sat w ⟨false, bFramesO, 0, 1, FramesN, 0, [fun i => .int (Framesg0 i)]⟩) (hcap : FramesN ≤ 2097152) : Calls Try.prog 15 #[.agg #[.slice aFramesO FramesN aFramesC, .int .i64 Next], .agg #[.slice bFramesO FramesN bFramesC, .int .i64 Next]] w fun e w' => e = .returned (.bool true) ∧ Below w.heap.size w w' := by
  refine fnB (tb := [(42, sEqIntS)]) ⟨sEqIntS_ok, trivial⟩ Try.func15 (@Eq.mpr _ _ (eqSender_T FramesN Framesg0 Next aFramesO aFramesC bFramesO bFramesC) ?_) (HS.rows (fun _ => False) [⟨false, aFramesO, 0, 1, FramesN, 0, [fun i => .int (Framesg0 i)]⟩, ⟨false, bFramesO, 0, 1, FramesN, 0, [fun i => .int (Framesg0 i)]⟩] (by simp; exact ⟨hra0, hrb0⟩)) (fun v ch' w' hk hs => ⟨by rw [hk], hs.below⟩)
  clear hra0 hrb0
  repeat' (first
    | exact rfl
    | exact True.intro
    | assumption
    | refine And.intro ?_ ?_
    | apply Exists.intro
    | omega
    | (intro h; exfalso; simp at h; done)
    | (intro h; exfalso; simp at h; omega)
    | intro _)
def sEqSenderO : Sm := fun args ch k =>
  match args with
  | [.a (.c (.obj i v)), .a (.c (.obj j u))] =>
    match ch[i]?, ch[j]? with
    | some (.obj _ rs), some (.obj _ us) => ∃ x : SenderD, (isSender v x rs ∧ isSender u x us ∧ capSender x) ∧ k (.a (.c (.lit true))) ch []
    | _, _ => False
  | _ => False
theorem sEqSenderO_ok : SmOK Try.prog 15 sEqSenderO := by
  refine smB Try.call15 fun args ch k w X h0 hs => ?_
  unfold sEqSenderO at h0
  split at h0
  · rename_i i v j u
    split at h0
    · rename_i o rs o' us hi hj
      obtain ⟨x, ⟨⟨_, _, _, _, _, rfl, rfl⟩, ⟨_, _, _, _, _, rfl, rfl⟩, hc⟩, h0⟩ := h0
      have h1 := hs.seeObj hi
      have h2 := hs.seeObj hj
      refine ⟨_, h0, ?_⟩
      exact eqSender_any x.FramesN x.Framesg0 x.Next _ _ _ _ w (Row.seenAs (h1 _ (mem0)).2 rfl rfl) (Row.seenAs (h2 _ (mem0)).2 rfl rfl) hc
    · exact h0.elim
  · exact h0.elim
theorem markSender_T (FramesN : Nat) (Framesg0 : Nat → Int) (Next : Int) (FramesO : Option Addr) (FramesC : Nat) (FramesT FramesK : Nat) (k0 : Int) : (exFn Try.prog {tb := [(43, sMarkIntS)]} 400 Try.f16 ([.a (.agg [.sl 0 FramesO FramesN FramesC, .int Next]), .a (.c (.int k0))]) ([.row ⟨true, FramesO, FramesT, 1, FramesN, FramesK, [fun i => .int (Framesg0 i)]⟩]) (fun v ch => v.den = .int .i64 (mk (k0) 1 0 FramesN) ∧ selC ch [0] = [.row ⟨true, FramesO, FramesT, 1, FramesN, FramesK, [fun i => .int (mk (k0) 1 0 i)]⟩])) = (
  (∀ b0 : Nat,
  (b0 = b0 ∧
  (Exists (fun (g01 : (Nat →
  Int)) => ((FramesO = FramesO ∧
  (FramesN = FramesN ∧
  ([(fun (i2 : Nat) => (SC.int (Framesg0 i2)))] = [(fun (i3 : Nat) => (SC.int (g01 i3)))] ∧
  (markC FramesN k0)))) ∧
  ((Value.int IntKind.i64 (mk k0 1 0 FramesN)) = (Value.int IntKind.i64 (mk k0 1 0 FramesN)) ∧
  [(Ch.row (Row.mk Bool.true FramesO FramesT 1 FramesN FramesK [(fun (i4 : Nat) => (SC.int (mk k0 1 0 i4)))]))] = [(Ch.row (Row.mk Bool.true FramesO FramesT 1 FramesN FramesK [(fun (i5 : Nat) => (SC.int (mk k0 1 0 i5)))]))]))))))) := by kernel_rfl
theorem markSender_any (FramesN : Nat) (Framesg0 : Nat → Int) (Next : Int) (FramesO : Option Addr) (FramesC : Nat) (FramesT FramesK : Nat) (k0 : Int) (w : World) (M : Nat → Prop) (hs : HS ⟨w, M⟩ [.row ⟨true, FramesO, FramesT, 1, FramesN, FramesK, [fun i => .int (Framesg0 i)]⟩] w) (hcap : FramesN ≤ 2097152) (h0 : 0 ≤ k0 ∧ k0 ≤ 549755813888) : Calls Try.prog 16 #[.agg #[.slice FramesO FramesN FramesC, .int .i64 Next], .int .i64 k0] w fun e w' => e = .returned (.int .i64 (mk (k0) 1 0 FramesN)) ∧ HS ⟨w, M⟩ [.row ⟨true, FramesO, FramesT, 1, FramesN, FramesK, [fun i => .int (mk (k0) 1 0 i)]⟩] w' := by
  refine fnB (tb := [(43, sMarkIntS)]) ⟨sMarkIntS_ok, trivial⟩ Try.func16 (@Eq.mpr _ _ (markSender_T FramesN Framesg0 Next FramesO FramesC FramesT FramesK k0) ?_) hs (fun v ch' w' ⟨hv, hc⟩ hs => ⟨by rw [hv], by rw [← hc]; exact hs.sel _ (by simp)⟩)
  clear hs
  have hb0 : 0 ≤ mk (k0) 1 0 FramesN ∧ mk (k0) 1 0 FramesN ≤ k0 + 16777216 := mk_more (by omega) (by omega) (by omega)
  repeat' (first
    | exact rfl
    | exact True.intro
    | assumption
    | refine And.intro ?_ ?_
    | apply Exists.intro
    | omega
    | (intro h; exfalso; simp at h; done)
    | (intro h; exfalso; simp at h; omega)
    | intro _)
def sMarkSenderO : Sm := fun args ch k =>
  match args with
  | [.a (.c (.obj i v)), .a (.c kc)] =>
    match ch[i]?, asI kc with
    | some (.obj true rs), some k0 => ∃ x : SenderD, (isSender v x rs ∧ capSender x ∧ mrkC k0) ∧ (endC k0 (endSender k0 x) 16777216 → ∀ rs' : List Row, isSender v (markSenderD k0 x) rs' → k (.a (.c (.int (endSender k0 x)))) (ch.set i (.obj true rs')) [i])
    | _, _ => False
  | _ => False
theorem sMarkSenderO_ok : SmOK Try.prog 16 sMarkSenderO := by
  refine smTurnO Try.call16 fun args ch k w X h0 hs => ?_
  unfold sMarkSenderO at h0
  split at h0
  · rename_i i v kc
    split at h0
    · rename_i rs k0 hi hk
      obtain ⟨x, ⟨⟨FramesO, FramesC, FramesT, FramesK, FramesB, rfl, rfl⟩, hc, hk0⟩, h0⟩ := h0
      have h1 := hs.seeObj hi
      have eFrames : FramesB = true := (h1 _ (mem0)).1
      subst eFrames
      have hb0 : 0 ≤ mk (k0) 1 0 x.FramesN ∧ mk (k0) 1 0 x.FramesN ≤ k0 + 16777216 := mk_more (by omega) (by omega) (by omega)
      refine ⟨_, i, _, _, hi, h0 ⟨by unfold endSender; omega, by unfold endSender; omega⟩ [⟨true, FramesO, FramesT, 1, x.FramesN, FramesK, [fun i => .int ((markSenderD k0 x).Framesg0 i)]⟩] ⟨_, _, _, _, _, rfl, rfl⟩, by simp, (at_cons rfl rfl rfl (fun _ h => h)), ?_⟩
      simp only [List.map_cons, List.map_nil, den_a, den_c, asI_den hk]
      exact markSender_any x.FramesN x.Framesg0 x.Next FramesO FramesC FramesT FramesK k0 w _ (hs.open hi) hc hk0
    · exact h0.elim
  · exact h0.elim
theorem heldSender_T (Next : Int) (FramesN : Nat) (FramesO : Option Addr) (FramesC : Nat) (k0 : Int) : (exFn Try.prog {tb := [(51, sHeldIntS)]} 400 Try.f17 ([.a (.agg [.sl 0 FramesO FramesN FramesC, .int Next]), .a (.c (.int k0))]) ([.row ⟨false, FramesO, 0, 1, FramesN, 0, [fun i => .int (mk (k0) 1 0 i)]⟩]) (fun v _ => v.den = .int .i64 (mk (k0) 1 0 FramesN))) = (
  (∀ b0 : Nat,
  (b0 = b0 ∧
  ((FramesO = FramesO ∧
  (FramesN = FramesN ∧
  ([(fun (i1 : Nat) => (SC.int (mk k0 1 0 i1)))] = [(fun (i2 : Nat) => (SC.int (mk k0 1 0 i2)))] ∧
  (markC FramesN k0)))) ∧
  (((decide ((mk k0 1 0 FramesN) < (0 : Int))) = Bool.true →
  (Value.int IntKind.i64 (-1 : Int)) = (Value.int IntKind.i64 (mk k0 1 0 FramesN))) ∧
  ((decide ((mk k0 1 0 FramesN) < (0 : Int))) = Bool.false →
  (Value.int IntKind.i64 (mk k0 1 0 FramesN)) = (Value.int IntKind.i64 (mk k0 1 0 FramesN)))))))) := by kernel_rfl
theorem heldSender_any (Next : Int) (FramesN : Nat) (FramesO : Option Addr) (FramesC : Nat) (k0 : Int) (w : World) (hr0 : Row.sat w ⟨false, FramesO, 0, 1, FramesN, 0, [fun i => .int (mk (k0) 1 0 i)]⟩) (hcap : FramesN ≤ 2097152) (h0 : 0 ≤ k0 ∧ k0 ≤ 549755813888) : Calls Try.prog 17 #[.agg #[.slice FramesO FramesN FramesC, .int .i64 Next], .int .i64 k0] w fun e w' => e = .returned (.int .i64 (mk (k0) 1 0 FramesN)) ∧ Below w.heap.size w w' := by
  refine fnB (tb := [(51, sHeldIntS)]) ⟨sHeldIntS_ok, trivial⟩ Try.func17 (@Eq.mpr _ _ (heldSender_T Next FramesN FramesO FramesC k0) ?_) (HS.rows (fun _ => False) [⟨false, FramesO, 0, 1, FramesN, 0, [fun i => .int (mk (k0) 1 0 i)]⟩] (by simp; exact hr0)) (fun v ch' w' hk hs => ⟨by rw [hk], hs.below⟩)
  clear hr0
  have hb0 : 0 ≤ mk (k0) 1 0 FramesN ∧ mk (k0) 1 0 FramesN ≤ k0 + 16777216 := mk_more (by omega) (by omega) (by omega)
  repeat' (first
    | exact rfl
    | exact True.intro
    | assumption
    | refine And.intro ?_ ?_
    | apply Exists.intro
    | omega
    | (intro h; exfalso; simp at h; done)
    | (intro h; exfalso; simp at h; omega)
    | intro _)
def sHeldSenderO : Sm := fun args ch k =>
  match args with
  | [.a (.c (.obj i v)), .a (.c kc)] =>
    match ch[i]?, asI kc with
    | some (.obj _ rs), some k0 => ∃ x : SenderD, (isSender v (markSenderD k0 x) rs ∧ capSender x ∧ mrkC k0) ∧ k (.a (.c (.int (endSender k0 x)))) ch []
    | _, _ => False
  | _ => False
theorem sHeldSenderO_ok : SmOK Try.prog 17 sHeldSenderO := by
  refine smB Try.call17 fun args ch k w X h0 hs => ?_
  unfold sHeldSenderO at h0
  split at h0
  · rename_i i v kc
    split at h0
    · rename_i o rs k0 hi hk
      obtain ⟨x, ⟨⟨_, _, _, _, _, rfl, rfl⟩, hc, hk0⟩, h0⟩ := h0
      have h1 := hs.seeObj hi
      refine ⟨_, h0, ?_⟩
      simp only [List.map_cons, List.map_nil, den_a, den_c, asI_den hk]
      exact heldSender_any x.Next x.FramesN _ _ k0 w (Row.seenAs (h1 _ (mem0)).2 rfl rfl) hc hk0
    · exact h0.elim
  · exact h0.elim
theorem szSender_T (Next : Int) (FramesO : Option Addr) (FramesN FramesC : Nat) (k0 : Int) : (exFn Try.prog {tb := [(46, sSzIntS)]} 400 Try.f11 ([.a (.agg [.sl 0 FramesO FramesN FramesC, .int Next]), .a (.c (.int k0))]) ([]) (fun v _ => ∃ z : Int, v.den = .int .i64 z ∧ szPSender z k0 FramesN)) = (
  (∀ b0 : Nat,
  (b0 = b0 ∧
  ((szC FramesN k0) ∧
  (((k0 < ((FramesN : Nat) : Int)) →
  (Exists (fun (z1 : Int) => ((Value.int IntKind.i64 (-1 : Int)) = (Value.int IntKind.i64 z1) ∧
   (szPSender z1 k0 FramesN))))) ∧
  ((((FramesN : Nat) : Int) ≤ k0) →
  (((decide ((k0 - ((FramesN : Nat) : Int)) < (0 : Int))) = Bool.true →
   (Exists (fun (z2 : Int) => ((Value.int IntKind.i64 (-1 : Int)) = (Value.int IntKind.i64 z2) ∧
    (szPSender z2 k0 FramesN))))) ∧
   ((decide ((k0 - ((FramesN : Nat) : Int)) < (0 : Int))) = Bool.false →
   (Exists (fun (z3 : Int) => ((Value.int IntKind.i64 (k0 - ((FramesN : Nat) : Int))) = (Value.int IntKind.i64 z3) ∧
    (szPSender z3 k0 FramesN)))))))))))) := by kernel_rfl
theorem szSender_any (Next : Int) (FramesO : Option Addr) (FramesN FramesC : Nat) (k0 : Int) (w : World) (hn : FramesN ≤ 9223372036854775807) (h0 : 0 ≤ k0 ∧ k0 ≤ 1048576) : Calls Try.prog 11 #[.agg #[.slice FramesO FramesN FramesC, .int .i64 Next], .int .i64 k0] w fun e w' => ∃ z : Int, (z = -1 ∨ (0 ≤ z ∧ z ≤ k0 ∧ FramesN ≤ 1048576)) ∧ e = .returned (.int .i64 z) ∧ Below w.heap.size w w' := by
  refine fnB (tb := [(46, sSzIntS)]) ⟨sSzIntS_ok, trivial⟩ Try.func11 (@Eq.mpr _ _ (szSender_T Next FramesO FramesN FramesC k0) ?_) (HS.start w (fun _ => False)) (fun v ch' w' ⟨z, hv, hz⟩ hs => ⟨z, hz, by rw [hv], hs.below⟩)
  repeat' (first
    | (refine ⟨_, rfl, ?_⟩; first | exact .inl rfl | (refine .inr ?_; omega))
    | exact True.intro
    | assumption
    | refine And.intro ?_ ?_
    | omega
    | (intro h; exfalso; simp at h; done)
    | (intro h; exfalso; simp at h; omega)
    | intro _)
def sSzSenderO : Sm := fun args ch k =>
  match args with
  | [.a (.c (.obj i v)), .a (.c kc)] =>
    match ch[i]?, asI kc with
    | some (.obj _ rs), some k0 => ∃ x : SenderD, (isSender v x rs ∧ lensSender x ∧ szK k0) ∧ (k (.a (.c (.il (-1)))) ch [] ∧ ∀ z : Int, szO z k0 → cap1Sender x → k (.a (.c (.int z))) ch [])
    | _, _ => False
  | _ => False
theorem sSzSenderO_ok : SmOK Try.prog 11 sSzSenderO := by
  refine smV Try.call11 fun args ch k w X h0 hs => ?_
  unfold sSzSenderO at h0
  split at h0
  · rename_i i v kc
    split at h0
    · rename_i o rs k0 hi hk
      obtain ⟨x, ⟨⟨_, _, _, _, _, rfl, rfl⟩, hc, hk0⟩, h1, h2⟩ := h0
      simp only [List.map_cons, List.map_nil, den_a, den_c, asI_den hk]
      refine Calls.mono (szSender_any x.Next _ x.FramesN _ k0 w hc hk0) fun e w' ⟨z, hz, he, hb⟩ => ?_
      rcases hz with rfl | ⟨hz0, hz1, hz2⟩
      · exact ⟨.a (.c (.il (-1))), he, hb, h1⟩
      · exact ⟨.a (.c (.int z)), he, hb, h2 z ⟨hz0, hz1⟩ hz2⟩
    · exact h0.elim
  · exact h0.elim
end Go.Proofs.Ytkfinkolllpcgaa
