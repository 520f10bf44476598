/-
  Plain facts on words: the mixer is one-to-one on 32-bit words. No program in sight.
-/
import Derived.WalkKit
import Derived.Lib.Hide
import Derived.Deep.QuietTactic
import Derived.BigQuiet
import Derived.Deep.Light
namespace Go.Proofs.Ytlkklplnomecgaa
open Go.RowKit
def xs16 (y : Nat) : Nat := y ^^^ (y / 65536)
def mulC (y : Nat) : Nat := (y * 73244475) % 4294967296
def mixN (y : Nat) : Nat := xs16 (mulC (xs16 (mulC (xs16 y))))

theorem xs16_lt (y : Nat) (h : y < 4294967296) : xs16 y < 4294967296 := by
  unfold xs16
  exact Nat.xor_lt_two_pow (n := 32) h (by omega)
theorem mulC_lt (y : Nat) : mulC y < 4294967296 := Nat.mod_lt _ (by decide)
theorem mixN_lt (y : Nat) : mixN y < 4294967296 := xs16_lt _ (mulC_lt _)

theorem xs16_xs16 (y : Nat) (h : y < 4294967296) : xs16 (xs16 y) = y := by
  unfold xs16
  have e : ∀ z : Nat, z / 65536 = z >>> 16 := fun z => by rw [Nat.shiftRight_eq_div_pow]
  rw [e, e]
  apply Nat.eq_of_testBit_eq
  intro i
  simp only [Nat.testBit_xor, Nat.testBit_shiftRight]
  have h32 : y.testBit (16 + (16 + i)) = false := Nat.testBit_lt_two_pow (Nat.lt_of_lt_of_le h (Nat.pow_le_pow_right (n := 2) (by decide) (show 32 ≤ 16 + (16 + i) by omega)))
  rw [h32]
  cases y.testBit i <;> cases y.testBit (16 + i) <;> rfl
theorem xs16_inj {a b : Nat} (ha : a < 4294967296) (hb : b < 4294967296) (h : xs16 a = xs16 b) : a = b := by
  rw [← xs16_xs16 a ha, ← xs16_xs16 b hb, h]
theorem mulC_inv (y : Nat) (h : y < 4294967296) : (mulC y * 295559667) % 4294967296 = y := by
  unfold mulC
  omega
theorem mulC_inj {a b : Nat} (ha : a < 4294967296) (hb : b < 4294967296) (h : mulC a = mulC b) : a = b := by
  rw [← mulC_inv a ha, ← mulC_inv b hb, h]
theorem mixN_inj {a b : Nat} (ha : a < 4294967296) (hb : b < 4294967296) (h : mixN a = mixN b) : a = b := by
  unfold mixN at h
  have h1 := xs16_inj (mulC_lt _) (mulC_lt _) h
  have h2 := mulC_inj (xs16_lt _ (mulC_lt _)) (xs16_lt _ (mulC_lt _)) h1
  have h3 := xs16_inj (mulC_lt _) (mulC_lt _) h2
  have h4 := mulC_inj (xs16_lt _ ha) (xs16_lt _ hb) h3
  exact xs16_inj ha hb h4

/-- The bits of two words, in the walk's own words. -/
theorem bits_xor_i64 (a b : Nat) (ha : a < 4294967296) (hb : b < 4294967296) : bits .xor .i64 (a : Int) (b : Int) = ((a ^^^ b : Nat) : Int) := by
  have hx : a ^^^ b < 2 ^ 32 := Nat.xor_lt_two_pow (by omega) (by omega)
  have h1 : (BitVec.ofInt 64 (a : Int)).toNat = a := by simp; omega
  have h2 : (BitVec.ofInt 64 (b : Int)).toNat = b := by simp; omega
  show IntKind.i64.wrap (((BitVec.ofInt 64 (a : Int)) ^^^ (BitVec.ofInt 64 (b : Int))).toNat : Int) = _
  rw [BitVec.toNat_xor, h1, h2, IntKind.wrap_i64]
  have : ((a ^^^ b : Nat) : Int) < 4294967296 := by omega
  omega
theorem bits_and_i64 (a : Nat) (ha : a < 9223372036854775808) : bits .and .i64 (a : Int) 4294967295 = ((a % 4294967296 : Nat) : Int) := by
  have h1 : (BitVec.ofInt 64 (a : Int)).toNat = a := by simp; omega
  have h2 : (BitVec.ofInt 64 (4294967295 : Int)).toNat = 4294967295 := by decide
  show IntKind.i64.wrap (((BitVec.ofInt 64 (a : Int)) &&& (BitVec.ofInt 64 (4294967295 : Int))).toNat : Int) = _
  rw [BitVec.toNat_and, h1, h2, IntKind.wrap_i64]
  have : a &&& 4294967295 = a % 4294967296 := Nat.and_two_pow_sub_one_eq_mod a 32
  rw [this]
  omega

theorem mix_end (y : Nat) (hy : y < 4294967296) : bits .xor .i64 (y : Int) ((y : Int) / 65536) = ((xs16 y : Nat) : Int) := by
  have := bits_xor_i64 y (y / 65536) hy (by omega)
  rw [show ((y / 65536 : Nat) : Int) = (y : Int) / 65536 by omega] at this
  exact this
theorem mix_round (y : Nat) (hy : y < 4294967296) : bits .and .i64 (wrap64 (bits .xor .i64 (y : Int) ((y : Int) / 65536) * 73244475)) 4294967295 = ((mulC (xs16 y) : Nat) : Int) := by
  rw [mix_end y hy]
  have h := xs16_lt y hy
  rw [show wrap64 ((xs16 y : Nat) * 73244475 : Int) = ((xs16 y * 73244475 : Nat) : Int) by unfold wrap64; omega]
  exact bits_and_i64 _ (by omega)
/-- After i rounds of the mixer the variable holds y. -/
def MixAt (n i y : Nat) : Prop := y < 4294967296 ∧ (i = 0 ∧ y = n ∨ i = 1 ∧ y = mulC (xs16 n) ∨ i = 2 ∧ y = mulC (xs16 (mulC (xs16 n))))
theorem MixAt.start {n : Nat} (h : n < 4294967296) : MixAt n 0 n := ⟨h, .inl ⟨rfl, rfl⟩⟩
theorem MixAt.step {n i y : Nat} (h : MixAt n i y) (hi : i < 2) : MixAt n (i + 1) (mulC (xs16 y)) := by
  refine ⟨mulC_lt _, ?_⟩
  rcases h.2 with ⟨h1, h2⟩ | ⟨h1, h2⟩ | ⟨h1, h2⟩
  · exact .inr (.inl ⟨by omega, by rw [h2]⟩)
  · exact .inr (.inr ⟨by omega, by rw [h2]⟩)
  · omega
theorem MixAt.fin {n i y : Nat} (h : MixAt n i y) (hi : ¬ i < 2) : mixN n = xs16 y := by
  rcases h.2 with ⟨h1, h2⟩ | ⟨h1, h2⟩ | ⟨h1, h2⟩
  · omega
  · omega
  · rw [h2]; rfl

/-- Go's 'between', a plain Bool. -/
def btw (x lo hi : Int) : Bool := decide (lo ≤ x) && decide (x ≤ hi)
theorem btw_true {x lo hi : Int} (h : btw x lo hi = true) : lo ≤ x ∧ x ≤ hi := by simpa [btw] using h
theorem btw_false {x lo hi : Int} (h : btw x lo hi = false) : x < lo ∨ hi < x := by
  unfold btw at h
  by_cases h1 : lo ≤ x
  · right; simp [h1] at h; omega
  · left; omega
theorem btw_mk {x lo hi : Int} (h1 : lo ≤ x) (h2 : x ≤ hi) : btw x lo hi = true := by simp [btw, h1, h2]
theorem btw_no {x lo hi : Int} (h : x < lo ∨ hi < x) : btw x lo hi = false := by
  unfold btw
  rcases h with h | h
  · simp [show ¬ lo ≤ x by omega]
  · simp [show ¬ x ≤ hi by omega]
def isW (x : Int) : Bool := btw x 0 4294967295
/-- The mixer on ints, as the program gives it. -/
def mix (x : Int) : Int := if isW x = true then (mixN x.toNat : Int) else 0
theorem isW_nat {n : Nat} (h : n < 4294967296) : isW (n : Int) = true := btw_mk (by omega) (by omega)
theorem mix_nat {n : Nat} (h : n < 4294967296) : mix (n : Int) = (mixN n : Int) := by
  unfold mix
  rw [if_pos (isW_nat h)]
  simp
theorem mix_not {x : Int} (h : isW x = false) : mix x = 0 := by simp [mix, h]
theorem isW_of {x : Int} (h : isW x = true) : ∃ n : Nat, n < 4294967296 ∧ x = (n : Int) := by
  have := btw_true h
  exact ⟨x.toNat, by omega, by omega⟩
theorem all_step {α : Type} {p : α → Bool} {xs : List α} {k : Nat} {x d : α} (h : (xs.take k).all p = true) (hk : k < xs.length) (hx : x = xs.getD k d) (hp : p x = true) : (xs.take (k + 1)).all p = true := by
  rw [List.take_succ_eq_append_getElem hk, List.all_append, h]
  have : x = xs[k] := by rw [hx]; simp [List.getD, hk]
  simp [← this, hp]
theorem all_stop {α : Type} {p : α → Bool} {xs : List α} {k : Nat} {x d : α} (hk : k < xs.length) (hx : x = xs.getD k d) (hp : p x = false) : xs.all p = false := by
  have : x = xs[k] := by rw [hx]; simp [List.getD, hk]
  rw [List.all_eq_false]
  exact ⟨xs[k], List.getElem_mem hk, by rw [← this]; simp [hp]⟩
theorem all_end {α : Type} {p : α → Bool} {xs : List α} {k : Nat} (h : (xs.take k).all p = true) (hk : xs.length ≤ k) : xs.all p = true := by
  rw [List.take_of_length_le hk] at h
  exact h
def okW2 (a b : Int) : Bool := isW a && isW b
def okW3 (a b c : Int) : Bool := isW a && isW b && isW c
def keyed (k a b : Int) : Int := if okW3 k a b = true then mix (bits .xor .i64 (mix (bits .xor .i64 (mix k) a)) b) else 0
def okW4 (k l c x : Int) : Bool := isW k && isW l && isW c && isW x
def sealW (k l c x : Int) : Int := if okW4 k l c x = true then bits .xor .i64 x (keyed k l c) else 0
def tagW (k l c x : Int) : Int := if okW4 k l c x = true then keyed (mix k) (keyed k l c) x else 0

/-- What a call leaves below its own heap, call after call. -/
theorem belowNext {a b c : World} (h1 : Below a.heap.size a b) (h2 : Below b.heap.size b c) : Below a.heap.size a c := h1.trans (h2.mono h1.size)
theorem belowNew (w : World) (o : Obj) : Below w.heap.size w (w.alloc o) := (Below.refl _ _).alloc (Nat.le_refl _) _
theorem belowAlloc {a b : World} (h : Below a.heap.size a b) (o : Obj) : Below a.heap.size a (b.alloc o) := h.alloc h.size _
theorem belowDrewN {a b : World} (h : Below a.heap.size a b) (n : Nat) : Below a.heap.size a (b.drewN n) := ⟨h.os, h.tape, h.output, h.size, h.block⟩
theorem belowDrew {a b : World} (h : Below a.heap.size a b) : Below a.heap.size a b.drew := ⟨h.os, h.tape, h.output, h.size, h.block⟩
theorem cell_new (w : World) (cs : Array Value) (t : TypeId) (j : Nat) : (w.alloc (.cells cs t)).cell? ⟨w.heap.size, j, none⟩ = cs[j]? := World.cell?_alloc_at _ _ _ _ rfl
@[simp] theorem size_setCell (w : World) (a : Addr) (v : Value) : (w.setCell a v).heap.size = w.heap.size := by simp [World.setCell]
/-- Behind a call that only made memory: all old cells and marks read as before. -/
theorem bcell {W w1 : World} (hb : Below W.heap.size W w1) : (∀ b o, b < W.heap.size → w1.cell? ⟨b, o, none⟩ = W.cell? ⟨b, o, none⟩) ∧ (∀ b o, b < W.heap.size → w1.frozen? ⟨b, o, none⟩ = W.frozen? ⟨b, o, none⟩) ∧ W.heap.size ≤ w1.heap.size :=
  ⟨fun b o h => hb.cell (p := ⟨b, o, none⟩) h, fun b o h => hb.frozen (p := ⟨b, o, none⟩) h, hb.size⟩
theorem bcellN {W w1 : World} {n : Nat} (hb : Below W.heap.size W w1) (hn : W.heap.size = n) : (∀ b o, b < n → w1.cell? ⟨b, o, none⟩ = W.cell? ⟨b, o, none⟩) ∧ (∀ b o, b < n → w1.frozen? ⟨b, o, none⟩ = W.frozen? ⟨b, o, none⟩) ∧ n ≤ w1.heap.size := by
  subst hn
  exact bcell hb
end Go.Proofs.Ytlkklplnomecgaa
