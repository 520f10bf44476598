/-
  Senders copied, rewound, sent on.
-/
import Derived.Test.YtkfinkolllpcgaaSxSlL
namespace Go.Proofs.Ytkfinkolllpcgaa
set_option linter.unusedVariables false
set_option linter.unusedSimpArgs false
open Go.RowKit
set_option maxRecDepth 100000
set_option maxHeartbeats 8000000

theorem btw_facts' {x lo hi : Int} (h : btw x lo hi = true) : lo ≤ x ∧ x ≤ hi := by simp [btw] at h; omega
def selZ (b : Bool) (x y : Int) : Int := if b = true then x else y
def ifZ (b : Bool) (n : Int) : Int := if b = true then n else 0
theorem copyNI_T (sFramesO : Option Addr) (sFramesN sFramesC : Nat) (sFramesg0 : Nat → Int) (sNext : Int) : (exFn Try.prog {tb := []} 400 Try.f49 ([.a (.agg [.sl 0 sFramesO sFramesN sFramesC, .int sNext])]) ([.row ⟨false, sFramesO, 0, 1, sFramesN, 0, [fun i => .int (sFramesg0 i)]⟩]) (fun v ch => ∃ (ro0 : Option Addr) (rc0 : Nat), OutR v ch (.agg #[.slice ro0 (sFramesN) rc0, .int .i64 (sNext)]) [.row ⟨true, ro0, 3, 1, sFramesN, rc0, [fun i => .int (sFramesg0 i)]⟩])) = (
  (∀ b0 : Nat,
  (∀ b1 : Nat,
  (b0 = b0 ∧
  (b0 = b0 ∧
  (∀ b2 : Nat,
  (True ∧
  ((b2 = b2 ∧
  ((sFramesO = sFramesO ∧
  sFramesN = sFramesN) ∧
  ((∀ i3 : Nat,
  Bool.true = Bool.true) ∧
  (apC 0 sFramesN 8)))) ∧
  (∀ ao4 : (Option Addr),
  (∀ cap5 : Nat,
  (True ∧
  (b1 = b1 ∧
  (True ∧
  (b1 = b1 ∧
  (Exists (fun (ro06 : (Option Addr)) => (Exists (fun (rc07 : Nat) => ((Value.agg (List.toArray [(Value.slice ao4 sFramesN cap5), (Value.int IntKind.i64 sNext)])) = (Value.agg (List.toArray [(Value.slice ro06 sFramesN rc07), (Value.int IntKind.i64 sNext)])) ∧
  (((Bool.true = Bool.true ∧
  (ao4 = ro06 ∧
  (3 = 3 ∧
  (1 = 1 ∧
  (sFramesN = sFramesN ∧
  (cap5 = rc07 ∧
  ((∀ i8 : Nat,
  (i8 < sFramesN →
  (Value.int IntKind.i64 (sFramesg0 i8)) = (Value.int IntKind.i64 (sFramesg0 i8)))) ∧
  True))))))) ∧
  True) ∧
  Bool.true = Bool.true)))))))))))))))))))) := by kernel_rfl
theorem copyNI_any (sFramesO : Option Addr) (sFramesN sFramesC : Nat) (sFramesg0 : Nat → Int) (sNext : Int) (w : World) (hrsFrames : Row.sat w ⟨false, sFramesO, 0, 1, sFramesN, 0, [fun i => .int (sFramesg0 i)]⟩) (hpre : capC sFramesN) : Calls Try.prog 49 #[.agg #[.slice sFramesO sFramesN sFramesC, .int .i64 sNext]] w fun e w' => ∃ (ro0 : Option Addr) (rc0 : Nat), e = .returned (.agg #[.slice ro0 (sFramesN) rc0, .int .i64 (sNext)]) ∧ HS ⟨w, fun _ => False⟩ [.row ⟨true, ro0, 3, 1, sFramesN, rc0, [fun i => .int (sFramesg0 i)]⟩] w' := by
  refine fnB (tb := []) trivial Try.func49 (@Eq.mpr _ _ (copyNI_T sFramesO sFramesN sFramesC sFramesg0 sNext) ?_) (HS.rows (fun _ => False) [⟨false, sFramesO, 0, 1, sFramesN, 0, [fun i => .int (sFramesg0 i)]⟩] (by simp; exact hrsFrames)) (fun v ch' w' ⟨ro0, rc0, hk⟩ hs => ⟨ro0, rc0, by rw [hk.1], hk.hs hs⟩)
  clear hrsFrames
  repeat' (first
    | exact rfl
    | exact True.intro
    | refine And.intro ?_ ?_
    | apply Exists.intro
    | assumption
    | omega
    | intro _)
theorem copyNS_T (sFramesO : Option Addr) (sFramesN sFramesC : Nat) (sFramesg0 : Nat → Int) (sNext : Int) : (exFn Try.prog {tb := []} 400 Try.f47 ([.a (.agg [.sl 0 sFramesO sFramesN sFramesC, .int sNext])]) ([.row ⟨false, sFramesO, 0, 1, sFramesN, 0, [fun i => .int (sFramesg0 i)]⟩]) (fun v ch => ∃ (ro0 : Option Addr) (rc0 : Nat), OutR v ch (.agg #[.slice ro0 (sFramesN) rc0, .int .i64 (sNext)]) [.row ⟨true, ro0, 3, 1, sFramesN, rc0, [fun i => .int (sFramesg0 i)]⟩])) = (
  (∀ b0 : Nat,
  (∀ b1 : Nat,
  (b0 = b0 ∧
  (b0 = b0 ∧
  (∀ b2 : Nat,
  (True ∧
  ((b2 = b2 ∧
  ((sFramesO = sFramesO ∧
  sFramesN = sFramesN) ∧
  ((∀ i3 : Nat,
  Bool.true = Bool.true) ∧
  (apC 0 sFramesN 8)))) ∧
  (∀ ao4 : (Option Addr),
  (∀ cap5 : Nat,
  (True ∧
  (b1 = b1 ∧
  (True ∧
  (b1 = b1 ∧
  (Exists (fun (ro06 : (Option Addr)) => (Exists (fun (rc07 : Nat) => ((Value.agg (List.toArray [(Value.slice ao4 sFramesN cap5), (Value.int IntKind.i64 sNext)])) = (Value.agg (List.toArray [(Value.slice ro06 sFramesN rc07), (Value.int IntKind.i64 sNext)])) ∧
  (((Bool.true = Bool.true ∧
  (ao4 = ro06 ∧
  (3 = 3 ∧
  (1 = 1 ∧
  (sFramesN = sFramesN ∧
  (cap5 = rc07 ∧
  ((∀ i8 : Nat,
  (i8 < sFramesN →
  (Value.int IntKind.i64 (sFramesg0 i8)) = (Value.int IntKind.i64 (sFramesg0 i8)))) ∧
  True))))))) ∧
  True) ∧
  Bool.true = Bool.true)))))))))))))))))))) := by kernel_rfl
theorem copyNS_any (sFramesO : Option Addr) (sFramesN sFramesC : Nat) (sFramesg0 : Nat → Int) (sNext : Int) (w : World) (hrsFrames : Row.sat w ⟨false, sFramesO, 0, 1, sFramesN, 0, [fun i => .int (sFramesg0 i)]⟩) (hpre : capC sFramesN) : Calls Try.prog 47 #[.agg #[.slice sFramesO sFramesN sFramesC, .int .i64 sNext]] w fun e w' => ∃ (ro0 : Option Addr) (rc0 : Nat), e = .returned (.agg #[.slice ro0 (sFramesN) rc0, .int .i64 (sNext)]) ∧ HS ⟨w, fun _ => False⟩ [.row ⟨true, ro0, 3, 1, sFramesN, rc0, [fun i => .int (sFramesg0 i)]⟩] w' := by
  refine fnB (tb := []) trivial Try.func47 (@Eq.mpr _ _ (copyNS_T sFramesO sFramesN sFramesC sFramesg0 sNext) ?_) (HS.rows (fun _ => False) [⟨false, sFramesO, 0, 1, sFramesN, 0, [fun i => .int (sFramesg0 i)]⟩] (by simp; exact hrsFrames)) (fun v ch' w' ⟨ro0, rc0, hk⟩ hs => ⟨ro0, rc0, by rw [hk.1], hk.hs hs⟩)
  clear hrsFrames
  repeat' (first
    | exact rfl
    | exact True.intro
    | refine And.intro ?_ ?_
    | apply Exists.intro
    | assumption
    | omega
    | intro _)
def sCopyN : Sm := fun args ch kk =>
  match args with
  | [.a (.agg [.sl i0 a0 n0 d0, c0])] =>
    match ch[i0]?, ints [c0] with
    | some (.row r0), some [sNext] => ∃ sFramesg0 : Nat → Int, (a0 = r0.ao ∧ n0 = r0.n ∧ r0.fld = [fun i => .int (sFramesg0 i)] ∧ capC n0) ∧ ∀ (ro0 : Option Addr) (rc0 : Nat), kk (.a (.agg [.sl (ch.length) ro0 (n0) rc0, .int (sNext)])) (ch ++ [.row ⟨true, ro0, 3, 1, n0, rc0, [fun i => .int (sFramesg0 i)]⟩]) []
    | _, _ => False
  | _ => False
theorem sCopyN_ok {f : FuncId} (hc : ∀ args w, (callFunc f args).run Try.prog w = .ok (.enter f args) w) (h : ∀ (sFramesO : Option Addr) (sFramesN sFramesC : Nat) (sFramesg0 : Nat → Int) (sNext : Int) (w : World), Row.sat w ⟨false, sFramesO, 0, 1, sFramesN, 0, [fun i => .int (sFramesg0 i)]⟩ → capC sFramesN → Calls Try.prog f #[.agg #[.slice sFramesO sFramesN sFramesC, .int .i64 sNext]] w fun e w' => ∃ (ro0 : Option Addr) (rc0 : Nat), e = .returned (.agg #[.slice ro0 (sFramesN) rc0, .int .i64 (sNext)]) ∧ HS ⟨w, fun _ => False⟩ [.row ⟨true, ro0, 3, 1, sFramesN, rc0, [fun i => .int (sFramesg0 i)]⟩] w') : SmOK Try.prog f sCopyN := by
  refine smN hc fun args ch kk w X h0 hs => ?_
  unfold sCopyN at h0
  split at h0
  · rename_i i0 a0 n0 d0 c0
    split at h0
    · rename_i r0 sNext hr0 hi
      obtain ⟨sFramesg0, ⟨rfl, rfl, hf0, hpre⟩, h0⟩ := h0
      obtain ⟨ec0, hi⟩ := ints_cons hi
      refine Calls.mono (?_ : Calls Try.prog f _ w (fun e w' => ∃ (ro0 : Option Addr) (rc0 : Nat), e = .returned (.agg #[.slice ro0 (r0.n) rc0, .int .i64 (sNext)]) ∧ HS ⟨w, fun _ => False⟩ [.row ⟨true, ro0, 3, 1, r0.n, rc0, [fun i => .int (sFramesg0 i)]⟩] w')) (fun e w' ⟨ro0, rc0, he, hs'⟩ => ⟨_, _, ?_, hs', rfl, h0 ro0 rc0⟩)
      · simp only [List.map_cons, List.map_nil, den_a, den_c, SA.den, den_sl, ec0]
        exact h r0.ao r0.n d0 sFramesg0 sNext w (Row.seenAs (hs.sat i0 _ hr0) hf0 rfl) hpre
      · rw [he]
        rfl
    · exact h0.elim
  · exact h0.elim
theorem sCopyN_ok_copyNI : SmOK Try.prog 49 sCopyN := sCopyN_ok Try.call49 (fun sFramesO sFramesN sFramesC sFramesg0 sNext w h0 hp => copyNI_any sFramesO sFramesN sFramesC sFramesg0 sNext w h0 hp)
theorem sCopyN_ok_copyNS : SmOK Try.prog 47 sCopyN := sCopyN_ok Try.call47 (fun sFramesO sFramesN sFramesC sFramesg0 sNext w h0 hp => copyNS_any sFramesO sFramesN sFramesC sFramesg0 sNext w h0 hp)
theorem rewI_T (sFramesO : Option Addr) (sFramesN sFramesC : Nat) (sFramesg0 : Nat → Int) (sNext : Int) (count : Int) : (exFn Try.prog {tb := [(49, sCopyN), (50, sBtw)]} 400 Try.f14 ([.a (.agg [.sl 0 sFramesO sFramesN sFramesC, .int sNext]), .a (.c (.int count))]) ([.row ⟨false, sFramesO, 0, 1, sFramesN, 0, [fun i => .int (sFramesg0 i)]⟩]) (fun v ch => ∃ (ro0 : Option Addr) (rc0 : Nat), OutR v ch (.tuple #[.agg #[.slice ro0 (sFramesN) rc0, .int .i64 (selZ (btw count 0 sNext) count sNext)], .bool (btw count 0 sNext)]) [.row ⟨true, ro0, 3, 1, sFramesN, rc0, [fun i => .int (sFramesg0 i)]⟩])) = (
  (∀ b0 : Nat,
  (∀ b1 : Nat,
  (b0 = b0 ∧
  (Exists (fun (sFramesg02 : (Nat →
  Int)) => ((sFramesO = sFramesO ∧
  (sFramesN = sFramesN ∧
  ([(fun (i3 : Nat) => (SC.int (sFramesg0 i3)))] = [(fun (i4 : Nat) => (SC.int (sFramesg02 i4)))] ∧
  (capC sFramesN)))) ∧
  (∀ ro05 : (Option Addr),
  (∀ rc06 : Nat,
  (∀ b7 : Nat,
  (b7 = b7 ∧
  (b0 = b0 ∧
  (((!(btw count (0 : Int) sNext)) = Bool.true →
  (b7 = b7 ∧
   (b1 = b1 ∧
   (b1 = b1 ∧
   (Exists (fun (ro08 : (Option Addr)) => (Exists (fun (rc09 : Nat) => ((Value.tuple (List.toArray [(Value.agg (List.toArray [(Value.slice ro05 sFramesN rc06), (Value.int IntKind.i64 sNext)])), (Value.bool Bool.false)])) = (Value.tuple (List.toArray [(Value.agg (List.toArray [(Value.slice ro08 sFramesN rc09), (Value.int IntKind.i64 (selZ (btw count (0 : Int) sNext) count sNext))])), (Value.bool (btw count (0 : Int) sNext))])) ∧
   (((Bool.true = Bool.true ∧
   (ro05 = ro08 ∧
   (3 = 3 ∧
   (1 = 1 ∧
   (sFramesN = sFramesN ∧
   (rc06 = rc09 ∧
   ((∀ i10 : Nat,
   (i10 < sFramesN →
   (Value.int IntKind.i64 (sFramesg02 i10)) = (Value.int IntKind.i64 (sFramesg0 i10)))) ∧
   True))))))) ∧
   True) ∧
   Bool.true = Bool.true)))))))))) ∧
  ((!(btw count (0 : Int) sNext)) = Bool.false →
  (b7 = b7 ∧
   (b7 = b7 ∧
   (b1 = b1 ∧
   (b1 = b1 ∧
   (Exists (fun (ro011 : (Option Addr)) => (Exists (fun (rc012 : Nat) => ((Value.tuple (List.toArray [(Value.agg (List.toArray [(Value.slice ro05 sFramesN rc06), (Value.int IntKind.i64 count)])), (Value.bool Bool.true)])) = (Value.tuple (List.toArray [(Value.agg (List.toArray [(Value.slice ro011 sFramesN rc012), (Value.int IntKind.i64 (selZ (btw count (0 : Int) sNext) count sNext))])), (Value.bool (btw count (0 : Int) sNext))])) ∧
   (((Bool.true = Bool.true ∧
   (ro05 = ro011 ∧
   (3 = 3 ∧
   (1 = 1 ∧
   (sFramesN = sFramesN ∧
   (rc06 = rc012 ∧
   ((∀ i13 : Nat,
   (i13 < sFramesN →
   (Value.int IntKind.i64 (sFramesg02 i13)) = (Value.int IntKind.i64 (sFramesg0 i13)))) ∧
   True))))))) ∧
   True) ∧
   Bool.true = Bool.true)))))))))))))))))))))))) := by kernel_rfl
theorem rewI_any (sFramesO : Option Addr) (sFramesN sFramesC : Nat) (sFramesg0 : Nat → Int) (sNext : Int) (count : Int) (w : World) (hrsFrames : Row.sat w ⟨false, sFramesO, 0, 1, sFramesN, 0, [fun i => .int (sFramesg0 i)]⟩) (hpre : capC sFramesN) : Calls Try.prog 14 #[.agg #[.slice sFramesO sFramesN sFramesC, .int .i64 sNext], .int .i64 count] w fun e w' => ∃ (ro0 : Option Addr) (rc0 : Nat), e = .returned (.tuple #[.agg #[.slice ro0 (sFramesN) rc0, .int .i64 (selZ (btw count 0 sNext) count sNext)], .bool (btw count 0 sNext)]) ∧ HS ⟨w, fun _ => False⟩ [.row ⟨true, ro0, 3, 1, sFramesN, rc0, [fun i => .int (sFramesg0 i)]⟩] w' := by
  refine fnB (tb := [(49, sCopyN), (50, sBtw)]) ⟨sCopyN_ok_copyNI, sBtwI_ok, trivial⟩ Try.func14 (@Eq.mpr _ _ (rewI_T sFramesO sFramesN sFramesC sFramesg0 sNext count) ?_) (HS.rows (fun _ => False) [⟨false, sFramesO, 0, 1, sFramesN, 0, [fun i => .int (sFramesg0 i)]⟩] (by simp; exact hrsFrames)) (fun v ch' w' ⟨ro0, rc0, hk⟩ hs => ⟨ro0, rc0, by rw [hk.1], hk.hs hs⟩)
  clear hrsFrames
  cases hb : btw count 0 sNext
  all_goals
    repeat' (first
      | with_reducible exact rfl
      | exact True.intro
      | with_reducible assumption
      | refine And.intro ?_ ?_
      | apply Exists.intro
      | (intro h; exfalso; simp [hb] at h; done)
      | (intro h; exfalso; simp [hb] at h; omega)
      | intro _
      | omega
      | (simp; omega))
  all_goals (simp_all [selZ]; done)
theorem rewS_T (sFramesO : Option Addr) (sFramesN sFramesC : Nat) (sFramesg0 : Nat → Int) (sNext : Int) (count : Int) : (exFn Try.prog {tb := [(47, sCopyN), (48, sBtw)]} 400 Try.f12 ([.a (.agg [.sl 0 sFramesO sFramesN sFramesC, .int sNext]), .a (.c (.int count))]) ([.row ⟨false, sFramesO, 0, 1, sFramesN, 0, [fun i => .int (sFramesg0 i)]⟩]) (fun v ch => ∃ (ro0 : Option Addr) (rc0 : Nat), OutR v ch (.tuple #[.agg #[.slice ro0 (sFramesN) rc0, .int .i64 (selZ (btw count 0 sNext) count sNext)], .bool (btw count 0 sNext)]) [.row ⟨true, ro0, 3, 1, sFramesN, rc0, [fun i => .int (sFramesg0 i)]⟩])) = (
  (∀ b0 : Nat,
  (∀ b1 : Nat,
  (b0 = b0 ∧
  (Exists (fun (sFramesg02 : (Nat →
  Int)) => ((sFramesO = sFramesO ∧
  (sFramesN = sFramesN ∧
  ([(fun (i3 : Nat) => (SC.int (sFramesg0 i3)))] = [(fun (i4 : Nat) => (SC.int (sFramesg02 i4)))] ∧
  (capC sFramesN)))) ∧
  (∀ ro05 : (Option Addr),
  (∀ rc06 : Nat,
  (∀ b7 : Nat,
  (b7 = b7 ∧
  (b0 = b0 ∧
  (((!(btw count (0 : Int) sNext)) = Bool.true →
  (b7 = b7 ∧
   (b1 = b1 ∧
   (b1 = b1 ∧
   (Exists (fun (ro08 : (Option Addr)) => (Exists (fun (rc09 : Nat) => ((Value.tuple (List.toArray [(Value.agg (List.toArray [(Value.slice ro05 sFramesN rc06), (Value.int IntKind.i64 sNext)])), (Value.bool Bool.false)])) = (Value.tuple (List.toArray [(Value.agg (List.toArray [(Value.slice ro08 sFramesN rc09), (Value.int IntKind.i64 (selZ (btw count (0 : Int) sNext) count sNext))])), (Value.bool (btw count (0 : Int) sNext))])) ∧
   (((Bool.true = Bool.true ∧
   (ro05 = ro08 ∧
   (3 = 3 ∧
   (1 = 1 ∧
   (sFramesN = sFramesN ∧
   (rc06 = rc09 ∧
   ((∀ i10 : Nat,
   (i10 < sFramesN →
   (Value.int IntKind.i64 (sFramesg02 i10)) = (Value.int IntKind.i64 (sFramesg0 i10)))) ∧
   True))))))) ∧
   True) ∧
   Bool.true = Bool.true)))))))))) ∧
  ((!(btw count (0 : Int) sNext)) = Bool.false →
  (b7 = b7 ∧
   (b7 = b7 ∧
   (b1 = b1 ∧
   (b1 = b1 ∧
   (Exists (fun (ro011 : (Option Addr)) => (Exists (fun (rc012 : Nat) => ((Value.tuple (List.toArray [(Value.agg (List.toArray [(Value.slice ro05 sFramesN rc06), (Value.int IntKind.i64 count)])), (Value.bool Bool.true)])) = (Value.tuple (List.toArray [(Value.agg (List.toArray [(Value.slice ro011 sFramesN rc012), (Value.int IntKind.i64 (selZ (btw count (0 : Int) sNext) count sNext))])), (Value.bool (btw count (0 : Int) sNext))])) ∧
   (((Bool.true = Bool.true ∧
   (ro05 = ro011 ∧
   (3 = 3 ∧
   (1 = 1 ∧
   (sFramesN = sFramesN ∧
   (rc06 = rc012 ∧
   ((∀ i13 : Nat,
   (i13 < sFramesN →
   (Value.int IntKind.i64 (sFramesg02 i13)) = (Value.int IntKind.i64 (sFramesg0 i13)))) ∧
   True))))))) ∧
   True) ∧
   Bool.true = Bool.true)))))))))))))))))))))))) := by kernel_rfl
theorem rewS_any (sFramesO : Option Addr) (sFramesN sFramesC : Nat) (sFramesg0 : Nat → Int) (sNext : Int) (count : Int) (w : World) (hrsFrames : Row.sat w ⟨false, sFramesO, 0, 1, sFramesN, 0, [fun i => .int (sFramesg0 i)]⟩) (hpre : capC sFramesN) : Calls Try.prog 12 #[.agg #[.slice sFramesO sFramesN sFramesC, .int .i64 sNext], .int .i64 count] w fun e w' => ∃ (ro0 : Option Addr) (rc0 : Nat), e = .returned (.tuple #[.agg #[.slice ro0 (sFramesN) rc0, .int .i64 (selZ (btw count 0 sNext) count sNext)], .bool (btw count 0 sNext)]) ∧ HS ⟨w, fun _ => False⟩ [.row ⟨true, ro0, 3, 1, sFramesN, rc0, [fun i => .int (sFramesg0 i)]⟩] w' := by
  refine fnB (tb := [(47, sCopyN), (48, sBtw)]) ⟨sCopyN_ok_copyNS, sBtwS_ok, trivial⟩ Try.func12 (@Eq.mpr _ _ (rewS_T sFramesO sFramesN sFramesC sFramesg0 sNext count) ?_) (HS.rows (fun _ => False) [⟨false, sFramesO, 0, 1, sFramesN, 0, [fun i => .int (sFramesg0 i)]⟩] (by simp; exact hrsFrames)) (fun v ch' w' ⟨ro0, rc0, hk⟩ hs => ⟨ro0, rc0, by rw [hk.1], hk.hs hs⟩)
  clear hrsFrames
  cases hb : btw count 0 sNext
  all_goals
    repeat' (first
      | with_reducible exact rfl
      | exact True.intro
      | with_reducible assumption
      | refine And.intro ?_ ?_
      | apply Exists.intro
      | (intro h; exfalso; simp [hb] at h; done)
      | (intro h; exfalso; simp [hb] at h; omega)
      | intro _
      | omega
      | (simp; omega))
  all_goals (simp_all [selZ]; done)
def sRew : Sm := fun args ch kk =>
  match args with
  | [.a (.agg [.sl i0 a0 n0 d0, c0]), .a (.c c1)] =>
    match ch[i0]?, ints [c0, c1] with
    | some (.row r0), some [sNext, count] => ∃ sFramesg0 : Nat → Int, (a0 = r0.ao ∧ n0 = r0.n ∧ r0.fld = [fun i => .int (sFramesg0 i)] ∧ capC n0) ∧ ∀ (ro0 : Option Addr) (rc0 : Nat), kk (.tup [.agg [.sl (ch.length) ro0 (n0) rc0, .int (selZ (btw count 0 sNext) count sNext)], .c (.bool (btw count 0 sNext))]) (ch ++ [.row ⟨true, ro0, 3, 1, n0, rc0, [fun i => .int (sFramesg0 i)]⟩]) []
    | _, _ => False
  | _ => False
theorem sRew_ok {f : FuncId} (hc : ∀ args w, (callFunc f args).run Try.prog w = .ok (.enter f args) w) (h : ∀ (sFramesO : Option Addr) (sFramesN sFramesC : Nat) (sFramesg0 : Nat → Int) (sNext : Int) (count : Int) (w : World), Row.sat w ⟨false, sFramesO, 0, 1, sFramesN, 0, [fun i => .int (sFramesg0 i)]⟩ → capC sFramesN → Calls Try.prog f #[.agg #[.slice sFramesO sFramesN sFramesC, .int .i64 sNext], .int .i64 count] w fun e w' => ∃ (ro0 : Option Addr) (rc0 : Nat), e = .returned (.tuple #[.agg #[.slice ro0 (sFramesN) rc0, .int .i64 (selZ (btw count 0 sNext) count sNext)], .bool (btw count 0 sNext)]) ∧ HS ⟨w, fun _ => False⟩ [.row ⟨true, ro0, 3, 1, sFramesN, rc0, [fun i => .int (sFramesg0 i)]⟩] w') : SmOK Try.prog f sRew := by
  refine smN hc fun args ch kk w X h0 hs => ?_
  unfold sRew at h0
  split at h0
  · rename_i i0 a0 n0 d0 c0 c1
    split at h0
    · rename_i r0 sNext count hr0 hi
      obtain ⟨sFramesg0, ⟨rfl, rfl, hf0, hpre⟩, h0⟩ := h0
      obtain ⟨ec0, hi⟩ := ints_cons hi
      obtain ⟨ec1, hi⟩ := ints_cons hi
      refine Calls.mono (?_ : Calls Try.prog f _ w (fun e w' => ∃ (ro0 : Option Addr) (rc0 : Nat), e = .returned (.tuple #[.agg #[.slice ro0 (r0.n) rc0, .int .i64 (selZ (btw count 0 sNext) count sNext)], .bool (btw count 0 sNext)]) ∧ HS ⟨w, fun _ => False⟩ [.row ⟨true, ro0, 3, 1, r0.n, rc0, [fun i => .int (sFramesg0 i)]⟩] w')) (fun e w' ⟨ro0, rc0, he, hs'⟩ => ⟨_, _, ?_, hs', rfl, h0 ro0 rc0⟩)
      · simp only [List.map_cons, List.map_nil, den_a, den_c, SA.den, den_sl, ec0, ec1]
        exact h r0.ao r0.n d0 sFramesg0 sNext count w (Row.seenAs (hs.sat i0 _ hr0) hf0 rfl) hpre
      · rw [he]
        rfl
    · exact h0.elim
  · exact h0.elim
theorem sRew_ok_rewI : SmOK Try.prog 14 sRew := sRew_ok Try.call14 (fun sFramesO sFramesN sFramesC sFramesg0 sNext count w h0 hp => rewI_any sFramesO sFramesN sFramesC sFramesg0 sNext count w h0 hp)
theorem sRew_ok_rewS : SmOK Try.prog 12 sRew := sRew_ok Try.call12 (fun sFramesO sFramesN sFramesC sFramesg0 sNext count w h0 hp => rewS_any sFramesO sFramesN sFramesC sFramesg0 sNext count w h0 hp)
def sndB (n : Nat) (f : Nat → Int) (x : Int) : Bool := btw x 0 ((n : Int) - 1) && btw (f x.toNat) 0 32767
def sndV (n : Nat) (f : Nat → Int) (x : Int) : Int := if sndB n f x = true then x % 64 * 32768 + f x.toNat else 0
theorem sendI_T (sFramesO : Option Addr) (sFramesN sFramesC : Nat) (sFramesg0 : Nat → Int) (sNext : Int) : (exFn Try.prog {tb := [(49, sCopyN), (50, sBtw)], D := fun _ => [2]} 400 Try.f19 ([.a (.agg [.sl 0 sFramesO sFramesN sFramesC, .int sNext])]) ([.row ⟨false, sFramesO, 0, 1, sFramesN, 0, [fun i => .int (sFramesg0 i)]⟩]) (fun v ch => ∃ (ro0 : Option Addr) (rc0 : Nat), OutR v ch (.tuple #[.agg #[.slice ro0 (sFramesN) rc0, .int .i64 (selZ (sndB sFramesN sFramesg0 sNext) (iadd sNext 1) sNext)], .int .i64 (sndV sFramesN sFramesg0 sNext), .bool (sndB sFramesN sFramesg0 sNext)]) [.row ⟨true, ro0, 3, 1, sFramesN, rc0, [fun i => .int (sFramesg0 i)]⟩])) = (
  (∀ b0 : Nat,
  (∀ b1 : Nat,
  (b0 = b0 ∧
  (Exists (fun (sFramesg02 : (Nat →
  Int)) => ((sFramesO = sFramesO ∧
  (sFramesN = sFramesN ∧
  ([(fun (i3 : Nat) => (SC.int (sFramesg0 i3)))] = [(fun (i4 : Nat) => (SC.int (sFramesg02 i4)))] ∧
  (capC sFramesN)))) ∧
  (∀ ro05 : (Option Addr),
  (∀ rc06 : Nat,
  (∀ b7 : Nat,
  (b7 = b7 ∧
  (b0 = b0 ∧
  (b0 = b0 ∧
  ((rng (((sFramesN : Nat) : Int) - (1 : Int))) ∧
  (((!(btw sNext (0 : Int) (((sFramesN : Nat) : Int) - (1 : Int)))) = Bool.false →
  (b0 = b0 ∧
   (b0 = b0 ∧
   (sFramesO = sFramesO ∧
   (sFramesN = sFramesN ∧
   ((0 ≤ sNext ∧ sNext < ((sFramesN : Nat) : Int)) ∧
   (sFramesO = sFramesO ∧
   ((Int.toNat sNext) < sFramesN ∧
   (((!(btw (sFramesg0 (Int.toNat sNext)) (0 : Int) (32767 : Int))) = Bool.true →
   (b7 = b7 ∧
    (b1 = b1 ∧
    (b1 = b1 ∧
    (Exists (fun (ro08 : (Option Addr)) => (Exists (fun (rc09 : Nat) => ((Value.tuple (List.toArray [(Value.agg (List.toArray [(Value.slice ro05 sFramesN rc06), (Value.int IntKind.i64 sNext)])), (Value.int IntKind.i64 (0 : Int)), (Value.bool Bool.false)])) = (Value.tuple (List.toArray [(Value.agg (List.toArray [(Value.slice ro08 sFramesN rc09), (Value.int IntKind.i64 (selZ (sndB sFramesN sFramesg0 sNext) (sNext + (1 : Int)) sNext))])), (Value.int IntKind.i64 (sndV sFramesN sFramesg0 sNext)), (Value.bool (sndB sFramesN sFramesg0 sNext))])) ∧
    (((Bool.true = Bool.true ∧
    (ro05 = ro08 ∧
    (3 = 3 ∧
    (1 = 1 ∧
    (sFramesN = sFramesN ∧
    (rc06 = rc09 ∧
    ((∀ i10 : Nat,
    (i10 < sFramesN →
    (Value.int IntKind.i64 (sFramesg02 i10)) = (Value.int IntKind.i64 (sFramesg0 i10)))) ∧
    True))))))) ∧
    True) ∧
    Bool.true = Bool.true)))))))))) ∧
   ((!(btw (sFramesg0 (Int.toNat sNext)) (0 : Int) (32767 : Int))) = Bool.false →
   (b7 = b7 ∧
    ((rng (sNext + (1 : Int))) ∧
    (b7 = b7 ∧
    (b7 = b7 ∧
    (b0 = b0 ∧
    ((divC sNext (64 : Int)) ∧
    ((rng ((sNext % (64 : Int)) * (32768 : Int))) ∧
    (b0 = b0 ∧
    (b0 = b0 ∧
    (sFramesO = sFramesO ∧
    (sFramesN = sFramesN ∧
    ((0 ≤ sNext ∧ sNext < ((sFramesN : Nat) : Int)) ∧
    (sFramesO = sFramesO ∧
    ((Int.toNat sNext) < sFramesN ∧
    ((rng (((sNext % (64 : Int)) * (32768 : Int)) + (sFramesg0 (Int.toNat sNext)))) ∧
    (b1 = b1 ∧
    (True ∧
    (b1 = b1 ∧
    (Exists (fun (ro011 : (Option Addr)) => (Exists (fun (rc012 : Nat) => ((Value.tuple (List.toArray [(Value.agg (List.toArray [(Value.slice ro05 sFramesN rc06), (Value.int IntKind.i64 (sNext + (1 : Int)))])), (Value.int IntKind.i64 (((sNext % (64 : Int)) * (32768 : Int)) + (sFramesg0 (Int.toNat sNext)))), (Value.bool Bool.true)])) = (Value.tuple (List.toArray [(Value.agg (List.toArray [(Value.slice ro011 sFramesN rc012), (Value.int IntKind.i64 (selZ (sndB sFramesN sFramesg0 sNext) (sNext + (1 : Int)) sNext))])), (Value.int IntKind.i64 (sndV sFramesN sFramesg0 sNext)), (Value.bool (sndB sFramesN sFramesg0 sNext))])) ∧
    (((Bool.true = Bool.true ∧
    (ro05 = ro011 ∧
    (3 = 3 ∧
    (1 = 1 ∧
    (sFramesN = sFramesN ∧
    (rc06 = rc012 ∧
    ((∀ i13 : Nat,
    (i13 < sFramesN →
    (Value.int IntKind.i64 (sFramesg02 i13)) = (Value.int IntKind.i64 (sFramesg0 i13)))) ∧
    True))))))) ∧
    True) ∧
    Bool.true = Bool.true)))))))))))))))))))))))))))))))))) ∧
  ((!(btw sNext (0 : Int) (((sFramesN : Nat) : Int) - (1 : Int)))) = Bool.true →
  (b7 = b7 ∧
   (b1 = b1 ∧
   (b1 = b1 ∧
   (Exists (fun (ro014 : (Option Addr)) => (Exists (fun (rc015 : Nat) => ((Value.tuple (List.toArray [(Value.agg (List.toArray [(Value.slice ro05 sFramesN rc06), (Value.int IntKind.i64 sNext)])), (Value.int IntKind.i64 (0 : Int)), (Value.bool Bool.false)])) = (Value.tuple (List.toArray [(Value.agg (List.toArray [(Value.slice ro014 sFramesN rc015), (Value.int IntKind.i64 (selZ (sndB sFramesN sFramesg0 sNext) (sNext + (1 : Int)) sNext))])), (Value.int IntKind.i64 (sndV sFramesN sFramesg0 sNext)), (Value.bool (sndB sFramesN sFramesg0 sNext))])) ∧
   (((Bool.true = Bool.true ∧
   (ro05 = ro014 ∧
   (3 = 3 ∧
   (1 = 1 ∧
   (sFramesN = sFramesN ∧
   (rc06 = rc015 ∧
   ((∀ i16 : Nat,
   (i16 < sFramesN →
   (Value.int IntKind.i64 (sFramesg02 i16)) = (Value.int IntKind.i64 (sFramesg0 i16)))) ∧
   True))))))) ∧
   True) ∧
   Bool.true = Bool.true))))))))))))))))))))))))) := by kernel_rfl
theorem sendI_any (sFramesO : Option Addr) (sFramesN sFramesC : Nat) (sFramesg0 : Nat → Int) (sNext : Int) (w : World) (hrsFrames : Row.sat w ⟨false, sFramesO, 0, 1, sFramesN, 0, [fun i => .int (sFramesg0 i)]⟩) (hpre : capC sFramesN) : Calls Try.prog 19 #[.agg #[.slice sFramesO sFramesN sFramesC, .int .i64 sNext]] w fun e w' => ∃ (ro0 : Option Addr) (rc0 : Nat), e = .returned (.tuple #[.agg #[.slice ro0 (sFramesN) rc0, .int .i64 (selZ (sndB sFramesN sFramesg0 sNext) (iadd sNext 1) sNext)], .int .i64 (sndV sFramesN sFramesg0 sNext), .bool (sndB sFramesN sFramesg0 sNext)]) ∧ HS ⟨w, fun _ => False⟩ [.row ⟨true, ro0, 3, 1, sFramesN, rc0, [fun i => .int (sFramesg0 i)]⟩] w' := by
  refine fnB (tb := [(49, sCopyN), (50, sBtw)]) (D := fun _ => [2]) ⟨sCopyN_ok_copyNI, sBtwI_ok, trivial⟩ Try.func19 (@Eq.mpr _ _ (sendI_T sFramesO sFramesN sFramesC sFramesg0 sNext) ?_) (HS.rows (fun _ => False) [⟨false, sFramesO, 0, 1, sFramesN, 0, [fun i => .int (sFramesg0 i)]⟩] (by simp; exact hrsFrames)) (fun v ch' w' ⟨ro0, rc0, hk⟩ hs => ⟨ro0, rc0, by rw [hk.1], hk.hs hs⟩)
  clear hrsFrames
  cases hb : btw sNext 0 ((sFramesN : Int) - 1)
  · have hok : sndB sFramesN sFramesg0 sNext = false := by simp [sndB, hb]
    repeat' (first
      | with_reducible exact rfl
      | exact True.intro
      | with_reducible assumption
      | refine And.intro ?_ ?_
      | apply Exists.intro
      | (intro h; exfalso; simp [hb] at h; done)
      | (intro h; exfalso; simp [hb] at h; omega)
      | intro _
      | omega
      | (simp; omega))
    all_goals (simp_all [selZ, sndV]; done)
  · have hf := btw_facts' hb
    cases hc : btw (sFramesg0 sNext.toNat) 0 32767
    · have hok : sndB sFramesN sFramesg0 sNext = false := by simp [sndB, hc]
      repeat' (first
        | with_reducible exact rfl
        | exact True.intro
        | with_reducible assumption
        | refine And.intro ?_ ?_
        | apply Exists.intro
        | (intro h; exfalso; simp [hb, hc] at h; done)
        | (intro h; exfalso; simp [hb, hc] at h; omega)
        | intro _
        | omega
        | (simp; omega))
      all_goals (simp_all [selZ, sndV]; done)
    · have hg := btw_facts' hc
      have hok : sndB sFramesN sFramesg0 sNext = true := by simp [sndB, hb, hc]
      repeat' (first
        | with_reducible exact rfl
        | exact True.intro
        | with_reducible assumption
        | refine And.intro ?_ ?_
        | apply Exists.intro
        | (intro h; exfalso; simp [hb, hc] at h; done)
        | (intro h; exfalso; simp [hb, hc] at h; omega)
        | intro _
        | omega
        | (simp; omega))
      all_goals (simp_all [selZ, sndV]; done)
theorem sendS_T (sFramesO : Option Addr) (sFramesN sFramesC : Nat) (sFramesg0 : Nat → Int) (sNext : Int) : (exFn Try.prog {tb := [(47, sCopyN), (48, sBtw)], D := fun _ => [2]} 400 Try.f18 ([.a (.agg [.sl 0 sFramesO sFramesN sFramesC, .int sNext])]) ([.row ⟨false, sFramesO, 0, 1, sFramesN, 0, [fun i => .int (sFramesg0 i)]⟩]) (fun v ch => ∃ (ro0 : Option Addr) (rc0 : Nat), OutR v ch (.tuple #[.agg #[.slice ro0 (sFramesN) rc0, .int .i64 (selZ (sndB sFramesN sFramesg0 sNext) (iadd sNext 1) sNext)], .int .i64 (sndV sFramesN sFramesg0 sNext), .bool (sndB sFramesN sFramesg0 sNext)]) [.row ⟨true, ro0, 3, 1, sFramesN, rc0, [fun i => .int (sFramesg0 i)]⟩])) = (
  (∀ b0 : Nat,
  (∀ b1 : Nat,
  (b0 = b0 ∧
  (Exists (fun (sFramesg02 : (Nat →
  Int)) => ((sFramesO = sFramesO ∧
  (sFramesN = sFramesN ∧
  ([(fun (i3 : Nat) => (SC.int (sFramesg0 i3)))] = [(fun (i4 : Nat) => (SC.int (sFramesg02 i4)))] ∧
  (capC sFramesN)))) ∧
  (∀ ro05 : (Option Addr),
  (∀ rc06 : Nat,
  (∀ b7 : Nat,
  (b7 = b7 ∧
  (b0 = b0 ∧
  (b0 = b0 ∧
  ((rng (((sFramesN : Nat) : Int) - (1 : Int))) ∧
  (((!(btw sNext (0 : Int) (((sFramesN : Nat) : Int) - (1 : Int)))) = Bool.false →
  (b0 = b0 ∧
   (b0 = b0 ∧
   (sFramesO = sFramesO ∧
   (sFramesN = sFramesN ∧
   ((0 ≤ sNext ∧ sNext < ((sFramesN : Nat) : Int)) ∧
   (sFramesO = sFramesO ∧
   ((Int.toNat sNext) < sFramesN ∧
   (((!(btw (sFramesg0 (Int.toNat sNext)) (0 : Int) (32767 : Int))) = Bool.true →
   (b7 = b7 ∧
    (b1 = b1 ∧
    (b1 = b1 ∧
    (Exists (fun (ro08 : (Option Addr)) => (Exists (fun (rc09 : Nat) => ((Value.tuple (List.toArray [(Value.agg (List.toArray [(Value.slice ro05 sFramesN rc06), (Value.int IntKind.i64 sNext)])), (Value.int IntKind.i64 (0 : Int)), (Value.bool Bool.false)])) = (Value.tuple (List.toArray [(Value.agg (List.toArray [(Value.slice ro08 sFramesN rc09), (Value.int IntKind.i64 (selZ (sndB sFramesN sFramesg0 sNext) (sNext + (1 : Int)) sNext))])), (Value.int IntKind.i64 (sndV sFramesN sFramesg0 sNext)), (Value.bool (sndB sFramesN sFramesg0 sNext))])) ∧
    (((Bool.true = Bool.true ∧
    (ro05 = ro08 ∧
    (3 = 3 ∧
    (1 = 1 ∧
    (sFramesN = sFramesN ∧
    (rc06 = rc09 ∧
    ((∀ i10 : Nat,
    (i10 < sFramesN →
    (Value.int IntKind.i64 (sFramesg02 i10)) = (Value.int IntKind.i64 (sFramesg0 i10)))) ∧
    True))))))) ∧
    True) ∧
    Bool.true = Bool.true)))))))))) ∧
   ((!(btw (sFramesg0 (Int.toNat sNext)) (0 : Int) (32767 : Int))) = Bool.false →
   (b0 = b0 ∧
    ((rng (sNext + (1 : Int))) ∧
    (b7 = b7 ∧
    (b7 = b7 ∧
    (b0 = b0 ∧
    ((divC sNext (64 : Int)) ∧
    ((rng ((sNext % (64 : Int)) * (32768 : Int))) ∧
    (b0 = b0 ∧
    (b0 = b0 ∧
    (sFramesO = sFramesO ∧
    (sFramesN = sFramesN ∧
    ((0 ≤ sNext ∧ sNext < ((sFramesN : Nat) : Int)) ∧
    (sFramesO = sFramesO ∧
    ((Int.toNat sNext) < sFramesN ∧
    ((rng (((sNext % (64 : Int)) * (32768 : Int)) + (sFramesg0 (Int.toNat sNext)))) ∧
    (b1 = b1 ∧
    (True ∧
    (b1 = b1 ∧
    (Exists (fun (ro011 : (Option Addr)) => (Exists (fun (rc012 : Nat) => ((Value.tuple (List.toArray [(Value.agg (List.toArray [(Value.slice ro05 sFramesN rc06), (Value.int IntKind.i64 (sNext + (1 : Int)))])), (Value.int IntKind.i64 (((sNext % (64 : Int)) * (32768 : Int)) + (sFramesg0 (Int.toNat sNext)))), (Value.bool Bool.true)])) = (Value.tuple (List.toArray [(Value.agg (List.toArray [(Value.slice ro011 sFramesN rc012), (Value.int IntKind.i64 (selZ (sndB sFramesN sFramesg0 sNext) (sNext + (1 : Int)) sNext))])), (Value.int IntKind.i64 (sndV sFramesN sFramesg0 sNext)), (Value.bool (sndB sFramesN sFramesg0 sNext))])) ∧
    (((Bool.true = Bool.true ∧
    (ro05 = ro011 ∧
    (3 = 3 ∧
    (1 = 1 ∧
    (sFramesN = sFramesN ∧
    (rc06 = rc012 ∧
    ((∀ i13 : Nat,
    (i13 < sFramesN →
    (Value.int IntKind.i64 (sFramesg02 i13)) = (Value.int IntKind.i64 (sFramesg0 i13)))) ∧
    True))))))) ∧
    True) ∧
    Bool.true = Bool.true)))))))))))))))))))))))))))))))))) ∧
  ((!(btw sNext (0 : Int) (((sFramesN : Nat) : Int) - (1 : Int)))) = Bool.true →
  (b7 = b7 ∧
   (b1 = b1 ∧
   (b1 = b1 ∧
   (Exists (fun (ro014 : (Option Addr)) => (Exists (fun (rc015 : Nat) => ((Value.tuple (List.toArray [(Value.agg (List.toArray [(Value.slice ro05 sFramesN rc06), (Value.int IntKind.i64 sNext)])), (Value.int IntKind.i64 (0 : Int)), (Value.bool Bool.false)])) = (Value.tuple (List.toArray [(Value.agg (List.toArray [(Value.slice ro014 sFramesN rc015), (Value.int IntKind.i64 (selZ (sndB sFramesN sFramesg0 sNext) (sNext + (1 : Int)) sNext))])), (Value.int IntKind.i64 (sndV sFramesN sFramesg0 sNext)), (Value.bool (sndB sFramesN sFramesg0 sNext))])) ∧
   (((Bool.true = Bool.true ∧
   (ro05 = ro014 ∧
   (3 = 3 ∧
   (1 = 1 ∧
   (sFramesN = sFramesN ∧
   (rc06 = rc015 ∧
   ((∀ i16 : Nat,
   (i16 < sFramesN →
   (Value.int IntKind.i64 (sFramesg02 i16)) = (Value.int IntKind.i64 (sFramesg0 i16)))) ∧
   True))))))) ∧
   True) ∧
   Bool.true = Bool.true))))))))))))))))))))))))) := by kernel_rfl
theorem sendS_any (sFramesO : Option Addr) (sFramesN sFramesC : Nat) (sFramesg0 : Nat → Int) (sNext : Int) (w : World) (hrsFrames : Row.sat w ⟨false, sFramesO, 0, 1, sFramesN, 0, [fun i => .int (sFramesg0 i)]⟩) (hpre : capC sFramesN) : Calls Try.prog 18 #[.agg #[.slice sFramesO sFramesN sFramesC, .int .i64 sNext]] w fun e w' => ∃ (ro0 : Option Addr) (rc0 : Nat), e = .returned (.tuple #[.agg #[.slice ro0 (sFramesN) rc0, .int .i64 (selZ (sndB sFramesN sFramesg0 sNext) (iadd sNext 1) sNext)], .int .i64 (sndV sFramesN sFramesg0 sNext), .bool (sndB sFramesN sFramesg0 sNext)]) ∧ HS ⟨w, fun _ => False⟩ [.row ⟨true, ro0, 3, 1, sFramesN, rc0, [fun i => .int (sFramesg0 i)]⟩] w' := by
  refine fnB (tb := [(47, sCopyN), (48, sBtw)]) (D := fun _ => [2]) ⟨sCopyN_ok_copyNS, sBtwS_ok, trivial⟩ Try.func18 (@Eq.mpr _ _ (sendS_T sFramesO sFramesN sFramesC sFramesg0 sNext) ?_) (HS.rows (fun _ => False) [⟨false, sFramesO, 0, 1, sFramesN, 0, [fun i => .int (sFramesg0 i)]⟩] (by simp; exact hrsFrames)) (fun v ch' w' ⟨ro0, rc0, hk⟩ hs => ⟨ro0, rc0, by rw [hk.1], hk.hs hs⟩)
  clear hrsFrames
  cases hb : btw sNext 0 ((sFramesN : Int) - 1)
  · have hok : sndB sFramesN sFramesg0 sNext = false := by simp [sndB, hb]
    repeat' (first
      | with_reducible exact rfl
      | exact True.intro
      | with_reducible assumption
      | refine And.intro ?_ ?_
      | apply Exists.intro
      | (intro h; exfalso; simp [hb] at h; done)
      | (intro h; exfalso; simp [hb] at h; omega)
      | intro _
      | omega
      | (simp; omega))
    all_goals (simp_all [selZ, sndV]; done)
  · have hf := btw_facts' hb
    cases hc : btw (sFramesg0 sNext.toNat) 0 32767
    · have hok : sndB sFramesN sFramesg0 sNext = false := by simp [sndB, hc]
      repeat' (first
        | with_reducible exact rfl
        | exact True.intro
        | with_reducible assumption
        | refine And.intro ?_ ?_
        | apply Exists.intro
        | (intro h; exfalso; simp [hb, hc] at h; done)
        | (intro h; exfalso; simp [hb, hc] at h; omega)
        | intro _
        | omega
        | (simp; omega))
      all_goals (simp_all [selZ, sndV]; done)
    · have hg := btw_facts' hc
      have hok : sndB sFramesN sFramesg0 sNext = true := by simp [sndB, hb, hc]
      repeat' (first
        | with_reducible exact rfl
        | exact True.intro
        | with_reducible assumption
        | refine And.intro ?_ ?_
        | apply Exists.intro
        | (intro h; exfalso; simp [hb, hc] at h; done)
        | (intro h; exfalso; simp [hb, hc] at h; omega)
        | intro _
        | omega
        | (simp; omega))
      all_goals (simp_all [selZ, sndV]; done)
def sSend : Sm := fun args ch kk =>
  match args with
  | [.a (.agg [.sl i0 a0 n0 d0, c0])] =>
    match ch[i0]?, ints [c0] with
    | some (.row r0), some [sNext] => ∃ sFramesg0 : Nat → Int, (a0 = r0.ao ∧ n0 = r0.n ∧ r0.fld = [fun i => .int (sFramesg0 i)] ∧ capC n0) ∧ ∀ (ro0 : Option Addr) (rc0 : Nat), kk (.tup [.agg [.sl (ch.length) ro0 (n0) rc0, .int (selZ (sndB n0 sFramesg0 sNext) (iadd sNext 1) sNext)], .c (.int (sndV n0 sFramesg0 sNext)), .c (.bool (sndB n0 sFramesg0 sNext))]) (ch ++ [.row ⟨true, ro0, 3, 1, n0, rc0, [fun i => .int (sFramesg0 i)]⟩]) []
    | _, _ => False
  | _ => False
theorem sSend_ok {f : FuncId} (hc : ∀ args w, (callFunc f args).run Try.prog w = .ok (.enter f args) w) (h : ∀ (sFramesO : Option Addr) (sFramesN sFramesC : Nat) (sFramesg0 : Nat → Int) (sNext : Int) (w : World), Row.sat w ⟨false, sFramesO, 0, 1, sFramesN, 0, [fun i => .int (sFramesg0 i)]⟩ → capC sFramesN → Calls Try.prog f #[.agg #[.slice sFramesO sFramesN sFramesC, .int .i64 sNext]] w fun e w' => ∃ (ro0 : Option Addr) (rc0 : Nat), e = .returned (.tuple #[.agg #[.slice ro0 (sFramesN) rc0, .int .i64 (selZ (sndB sFramesN sFramesg0 sNext) (iadd sNext 1) sNext)], .int .i64 (sndV sFramesN sFramesg0 sNext), .bool (sndB sFramesN sFramesg0 sNext)]) ∧ HS ⟨w, fun _ => False⟩ [.row ⟨true, ro0, 3, 1, sFramesN, rc0, [fun i => .int (sFramesg0 i)]⟩] w') : SmOK Try.prog f sSend := by
  refine smN hc fun args ch kk w X h0 hs => ?_
  unfold sSend at h0
  split at h0
  · rename_i i0 a0 n0 d0 c0
    split at h0
    · rename_i r0 sNext hr0 hi
      obtain ⟨sFramesg0, ⟨rfl, rfl, hf0, hpre⟩, h0⟩ := h0
      obtain ⟨ec0, hi⟩ := ints_cons hi
      refine Calls.mono (?_ : Calls Try.prog f _ w (fun e w' => ∃ (ro0 : Option Addr) (rc0 : Nat), e = .returned (.tuple #[.agg #[.slice ro0 (r0.n) rc0, .int .i64 (selZ (sndB r0.n sFramesg0 sNext) (iadd sNext 1) sNext)], .int .i64 (sndV r0.n sFramesg0 sNext), .bool (sndB r0.n sFramesg0 sNext)]) ∧ HS ⟨w, fun _ => False⟩ [.row ⟨true, ro0, 3, 1, r0.n, rc0, [fun i => .int (sFramesg0 i)]⟩] w')) (fun e w' ⟨ro0, rc0, he, hs'⟩ => ⟨_, _, ?_, hs', rfl, h0 ro0 rc0⟩)
      · simp only [List.map_cons, List.map_nil, den_a, den_c, SA.den, den_sl, ec0]
        exact h r0.ao r0.n d0 sFramesg0 sNext w (Row.seenAs (hs.sat i0 _ hr0) hf0 rfl) hpre
      · rw [he]
        rfl
    · exact h0.elim
  · exact h0.elim
theorem sSend_ok_sendI : SmOK Try.prog 19 sSend := sSend_ok Try.call19 (fun sFramesO sFramesN sFramesC sFramesg0 sNext w h0 hp => sendI_any sFramesO sFramesN sFramesC sFramesg0 sNext w h0 hp)
theorem sSend_ok_sendS : SmOK Try.prog 18 sSend := sSend_ok Try.call18 (fun sFramesO sFramesN sFramesC sFramesg0 sNext w h0 hp => sendS_any sFramesO sFramesN sFramesC sFramesg0 sNext w h0 hp)
end Go.Proofs.Ytkfinkolllpcgaa
