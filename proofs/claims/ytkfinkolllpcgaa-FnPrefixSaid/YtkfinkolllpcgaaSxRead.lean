/-
  Frames read.
-/
import Derived.Test.YtkfinkolllpcgaaSxFrm
namespace Go.Proofs.Ytkfinkolllpcgaa
set_option linter.unusedVariables false
set_option linter.unusedSimpArgs false
open Go.RowKit
set_option maxRecDepth 100000
set_option maxHeartbeats 8000000

theorem and_low (w : Int) (k : Nat) (hk : k < 62) (h : 0 ≤ w ∧ w ≤ 9223372036854775807) : bits .and .i64 w ((2 ^ k - 1 : Nat) : Int) = w % ((2 ^ k : Nat) : Int) := by
  obtain ⟨n, rfl⟩ : ∃ n : Nat, w = n := ⟨w.toNat, by omega⟩
  have hp : 2 ^ k < 2 ^ 62 := Nat.pow_lt_pow_right (by decide) hk
  have h1 : ∀ m : Nat, m < 9223372036854775808 → (BitVec.ofInt 64 (m : Int)).toNat = m := fun m hm => by simp; omega
  have : bits .and .i64 (n : Int) ((2 ^ k - 1 : Nat) : Int) = IntKind.i64.wrap (((BitVec.ofInt 64 (n : Int)) &&& (BitVec.ofInt 64 ((2 ^ k - 1 : Nat) : Int))).toNat : Int) := rfl
  rw [this, BitVec.toNat_and, h1 _ (by omega), h1 _ (by omega), IntKind.wrap_i64, Nat.and_two_pow_sub_one_eq_mod]
  have h2 : n % 2 ^ k ≤ n := Nat.mod_le _ _
  rw [show ((n : Int) % ((2 ^ k : Nat) : Int)) = ((n % 2 ^ k : Nat) : Int) from rfl]
  omega
theorem readI_T (x : Int) : (exFn Try.prog {tb := [(45, sFrame)]} 400 Try.f56 ([.a (.c (.int x))]) ([]) (fun v _ => v.den = .tuple #[.agg #[.int .i64 (rdK x), .int .i64 (rdBk x), .int .i64 (rdR x), .int .i64 (rdCo x)], .bool (rdB x)])) = (
  (∀ b0 : Nat,
  (((decide (x < (0 : Int))) = Bool.true →
  (b0 = b0 ∧
   (b0 = b0 ∧
   (Value.tuple (List.toArray [(Value.agg (List.toArray [(Value.int IntKind.i64 (0 : Int)), (Value.int IntKind.i64 (0 : Int)), (Value.int IntKind.i64 (0 : Int)), (Value.int IntKind.i64 (0 : Int))])), (Value.bool Bool.false)])) = (Value.tuple (List.toArray [(Value.agg (List.toArray [(Value.int IntKind.i64 (rdK x)), (Value.int IntKind.i64 (rdBk x)), (Value.int IntKind.i64 (rdR x)), (Value.int IntKind.i64 (rdCo x))])), (Value.bool (rdB x))]))))) ∧
  ((decide (x < (0 : Int))) = Bool.false →
  ((divC x (16 : Int)) ∧
   ((divC x (16 : Int)) ∧
   ((divC (x / (16 : Int)) (8 : Int)) ∧
   ((divC x (128 : Int)) ∧
   ((divC (x / (128 : Int)) (16 : Int)) ∧
   ((divC x (2048 : Int)) ∧
   ((divC (x / (2048 : Int)) (8 : Int)) ∧
   (∀ b1 : Nat,
   (b1 = b1 ∧
   (b1 = b1 ∧
   ((((frameV (x % (16 : Int)) ((x / (16 : Int)) % (8 : Int)) ((x / (128 : Int)) % (16 : Int)) ((x / (2048 : Int)) % (8 : Int))) != x) = Bool.true →
   (b0 = b0 ∧
    (b0 = b0 ∧
    (Value.tuple (List.toArray [(Value.agg (List.toArray [(Value.int IntKind.i64 (0 : Int)), (Value.int IntKind.i64 (0 : Int)), (Value.int IntKind.i64 (0 : Int)), (Value.int IntKind.i64 (0 : Int))])), (Value.bool Bool.false)])) = (Value.tuple (List.toArray [(Value.agg (List.toArray [(Value.int IntKind.i64 (rdK x)), (Value.int IntKind.i64 (rdBk x)), (Value.int IntKind.i64 (rdR x)), (Value.int IntKind.i64 (rdCo x))])), (Value.bool (rdB x))]))))) ∧
   (((frameV (x % (16 : Int)) ((x / (16 : Int)) % (8 : Int)) ((x / (128 : Int)) % (16 : Int)) ((x / (2048 : Int)) % (8 : Int))) != x) = Bool.false →
   (b1 = b1 ∧
    (b0 = b0 ∧
    (b0 = b0 ∧
    (Value.tuple (List.toArray [(Value.agg (List.toArray [(Value.int IntKind.i64 (x % (16 : Int))), (Value.int IntKind.i64 ((x / (16 : Int)) % (8 : Int))), (Value.int IntKind.i64 ((x / (128 : Int)) % (16 : Int))), (Value.int IntKind.i64 ((x / (2048 : Int)) % (8 : Int)))])), (Value.bool Bool.true)])) = (Value.tuple (List.toArray [(Value.agg (List.toArray [(Value.int IntKind.i64 (rdK x)), (Value.int IntKind.i64 (rdBk x)), (Value.int IntKind.i64 (rdR x)), (Value.int IntKind.i64 (rdCo x))])), (Value.bool (rdB x))]))))))))))))))))))))) := by kernel_rfl
theorem readI_any (x : Int) (w : World) (hpre : rdC x) : Calls Try.prog 56 #[.int .i64 x] w fun e w' => e = .returned (.tuple #[.agg #[.int .i64 (rdK x), .int .i64 (rdBk x), .int .i64 (rdR x), .int .i64 (rdCo x)], .bool (rdB x)]) ∧ Below w.heap.size w w' := by
  refine fnB (tb := [(45, sFrame)]) ⟨sFrame_ok_frameI, trivial⟩ Try.func56 (@Eq.mpr _ _ (readI_T x) ?_) (HS.start w (fun _ => False)) (fun v ch' w' hk hs => ⟨by rw [hk], hs.below⟩)
  have b0 : btw x 0 32767 = true := btw_mk' (by omega)
  have a4 := and_low x 4 (by omega) (by omega)
  have a3 := and_low (x / 16) 3 (by omega) (by omega)
  have a4' := and_low (x / 128) 4 (by omega) (by omega)
  have a3' := and_low (x / 2048) 3 (by omega) (by omega)
  simp only [show ((2 ^ 4 - 1 : Nat) : Int) = 15 from rfl, show ((2 ^ 3 - 1 : Nat) : Int) = 7 from rfl, show ((2 ^ 4 : Nat) : Int) = 16 from rfl, show ((2 ^ 3 : Nat) : Int) = 8 from rfl] at a4 a3 a4' a3'
  try simp only [a4, a3, a4', a3']
  cases hk : frameV (x % 16) (x / 16 % 8) (x / 128 % 16) (x / 2048 % 8) == x
  · have hr : rdB x = false := by simp [rdB, b0, hk]
    simp only [rdK, rdBk, rdR, rdCo, hr]
    repeat' (first
      | with_reducible exact rfl
      | exact True.intro
      | with_reducible assumption
      | refine And.intro ?_ ?_
      | apply Exists.intro
      | (intro h; exfalso; simp [hk, b0, bne] at h; done)
      | (intro h; exfalso; simp [hk, b0, bne] at h; omega)
      | intro _
      | omega
      | (simp; omega))
    all_goals (simp_all [bne]; done)
  · have hr : rdB x = true := by simp [rdB, b0, hk]
    simp only [rdK, rdBk, rdR, rdCo, hr]
    repeat' (first
      | with_reducible exact rfl
      | exact True.intro
      | with_reducible assumption
      | refine And.intro ?_ ?_
      | apply Exists.intro
      | (intro h; exfalso; simp [hk, b0, bne] at h; done)
      | (intro h; exfalso; simp [hk, b0, bne] at h; omega)
      | intro _
      | omega
      | (simp; omega))
    all_goals (simp_all [bne]; done)
theorem readS_T (x : Int) : (exFn Try.prog {tb := [(57, sFrame), (48, sBtw)]} 400 Try.f62 ([.a (.c (.int x))]) ([]) (fun v _ => v.den = .tuple #[.agg #[.int .i64 (rdK x), .int .i64 (rdBk x), .int .i64 (rdR x), .int .i64 (rdCo x)], .bool (rdB x)])) = (
  (∀ b0 : Nat,
  (((!(btw x (0 : Int) (32767 : Int))) = Bool.true →
  (b0 = b0 ∧
   (b0 = b0 ∧
   (Value.tuple (List.toArray [(Value.agg (List.toArray [(Value.int IntKind.i64 (0 : Int)), (Value.int IntKind.i64 (0 : Int)), (Value.int IntKind.i64 (0 : Int)), (Value.int IntKind.i64 (0 : Int))])), (Value.bool Bool.false)])) = (Value.tuple (List.toArray [(Value.agg (List.toArray [(Value.int IntKind.i64 (rdK x)), (Value.int IntKind.i64 (rdBk x)), (Value.int IntKind.i64 (rdR x)), (Value.int IntKind.i64 (rdCo x))])), (Value.bool (rdB x))]))))) ∧
  ((!(btw x (0 : Int) (32767 : Int))) = Bool.false →
  (∀ b1 : Nat,
   (b1 = b1 ∧
   (b1 = b1 ∧
   ((((frameV (bits BinOp.and .i64 x (15 : Int)) (bits BinOp.and .i64 (x / (16 : Int)) (7 : Int)) (bits BinOp.and .i64 (x / (128 : Int)) (15 : Int)) (bits BinOp.and .i64 (x / (2048 : Int)) (7 : Int))) != x) = Bool.true →
   (b0 = b0 ∧
    (b0 = b0 ∧
    (Value.tuple (List.toArray [(Value.agg (List.toArray [(Value.int IntKind.i64 (0 : Int)), (Value.int IntKind.i64 (0 : Int)), (Value.int IntKind.i64 (0 : Int)), (Value.int IntKind.i64 (0 : Int))])), (Value.bool Bool.false)])) = (Value.tuple (List.toArray [(Value.agg (List.toArray [(Value.int IntKind.i64 (rdK x)), (Value.int IntKind.i64 (rdBk x)), (Value.int IntKind.i64 (rdR x)), (Value.int IntKind.i64 (rdCo x))])), (Value.bool (rdB x))]))))) ∧
   (((frameV (bits BinOp.and .i64 x (15 : Int)) (bits BinOp.and .i64 (x / (16 : Int)) (7 : Int)) (bits BinOp.and .i64 (x / (128 : Int)) (15 : Int)) (bits BinOp.and .i64 (x / (2048 : Int)) (7 : Int))) != x) = Bool.false →
   (b1 = b1 ∧
    (b0 = b0 ∧
    (b0 = b0 ∧
    (Value.tuple (List.toArray [(Value.agg (List.toArray [(Value.int IntKind.i64 (bits BinOp.and .i64 x (15 : Int))), (Value.int IntKind.i64 (bits BinOp.and .i64 (x / (16 : Int)) (7 : Int))), (Value.int IntKind.i64 (bits BinOp.and .i64 (x / (128 : Int)) (15 : Int))), (Value.int IntKind.i64 (bits BinOp.and .i64 (x / (2048 : Int)) (7 : Int)))])), (Value.bool Bool.true)])) = (Value.tuple (List.toArray [(Value.agg (List.toArray [(Value.int IntKind.i64 (rdK x)), (Value.int IntKind.i64 (rdBk x)), (Value.int IntKind.i64 (rdR x)), (Value.int IntKind.i64 (rdCo x))])), (Value.bool (rdB x))])))))))))))))) := by kernel_rfl
theorem readS_any (x : Int) (w : World) (hpre : rdC x) : Calls Try.prog 62 #[.int .i64 x] w fun e w' => e = .returned (.tuple #[.agg #[.int .i64 (rdK x), .int .i64 (rdBk x), .int .i64 (rdR x), .int .i64 (rdCo x)], .bool (rdB x)]) ∧ Below w.heap.size w w' := by
  refine fnB (tb := [(57, sFrame), (48, sBtw)]) ⟨sFrame_ok_frameS, sBtwS_ok, trivial⟩ Try.func62 (@Eq.mpr _ _ (readS_T x) ?_) (HS.start w (fun _ => False)) (fun v ch' w' hk hs => ⟨by rw [hk], hs.below⟩)
  have b0 : btw x 0 32767 = true := btw_mk' (by omega)
  have a4 := and_low x 4 (by omega) (by omega)
  have a3 := and_low (x / 16) 3 (by omega) (by omega)
  have a4' := and_low (x / 128) 4 (by omega) (by omega)
  have a3' := and_low (x / 2048) 3 (by omega) (by omega)
  simp only [show ((2 ^ 4 - 1 : Nat) : Int) = 15 from rfl, show ((2 ^ 3 - 1 : Nat) : Int) = 7 from rfl, show ((2 ^ 4 : Nat) : Int) = 16 from rfl, show ((2 ^ 3 : Nat) : Int) = 8 from rfl] at a4 a3 a4' a3'
  try simp only [a4, a3, a4', a3']
  cases hk : frameV (x % 16) (x / 16 % 8) (x / 128 % 16) (x / 2048 % 8) == x
  · have hr : rdB x = false := by simp [rdB, b0, hk]
    simp only [rdK, rdBk, rdR, rdCo, hr]
    repeat' (first
      | with_reducible exact rfl
      | exact True.intro
      | with_reducible assumption
      | refine And.intro ?_ ?_
      | apply Exists.intro
      | (intro h; exfalso; simp [hk, b0, bne] at h; done)
      | (intro h; exfalso; simp [hk, b0, bne] at h; omega)
      | intro _
      | omega
      | (simp; omega))
    all_goals (simp_all [bne]; done)
  · have hr : rdB x = true := by simp [rdB, b0, hk]
    simp only [rdK, rdBk, rdR, rdCo, hr]
    repeat' (first
      | with_reducible exact rfl
      | exact True.intro
      | with_reducible assumption
      | refine And.intro ?_ ?_
      | apply Exists.intro
      | (intro h; exfalso; simp [hk, b0, bne] at h; done)
      | (intro h; exfalso; simp [hk, b0, bne] at h; omega)
      | intro _
      | omega
      | (simp; omega))
    all_goals (simp_all [bne]; done)
def sRead : Sm := fun args ch kk =>
  match args with
  | [.a (.c c0)] =>
    match ints [c0] with
    | some [x] => (rdC x) ∧ kk (.tup [.agg [.int (rdK x), .int (rdBk x), .int (rdR x), .int (rdCo x)], .c (.bool (rdB x))]) ch []
    | _ => False
  | _ => False
theorem sRead_ok {f : FuncId} (hc : ∀ args w, (callFunc f args).run Try.prog w = .ok (.enter f args) w) (h : ∀ (x : Int) (w : World), rdC x → Calls Try.prog f #[.int .i64 x] w fun e w' => e = .returned (.tuple #[.agg #[.int .i64 (rdK x), .int .i64 (rdBk x), .int .i64 (rdR x), .int .i64 (rdCo x)], .bool (rdB x)]) ∧ Below w.heap.size w w') : SmOK Try.prog f sRead := by
  refine smB hc fun args ch kk w X h0 hs => ?_
  unfold sRead at h0
  split at h0
  · rename_i c0
    split at h0
    · rename_i x hi
      obtain ⟨hpre, h0⟩ := h0
      obtain ⟨ec0, hi⟩ := ints_cons hi
      refine ⟨_, h0, ?_⟩
      simp only [List.map_cons, List.map_nil, den_a, den_c, SA.den, den_sl, ec0]
      exact h x w hpre
    · exact h0.elim
  · exact h0.elim
theorem sRead_ok_readI : SmOK Try.prog 56 sRead := sRead_ok Try.call56 (fun x w hp => readI_any x w hp)
theorem sRead_ok_readS : SmOK Try.prog 62 sRead := sRead_ok Try.call62 (fun x w hp => readS_any x w hp)
end Go.Proofs.Ytkfinkolllpcgaa
