/-
  Plain facts on words: the mixer is one-to-one on 32-bit words. No program in sight.
-/
import Derived.WalkKit
import Derived.Lib.Hide
import Derived.Deep.QuietTactic
import Derived.BigQuiet
import Derived.Deep.Light
namespace Go.Proofs.Ytmgjmglmjfjliab
set_option linter.unusedVariables false
set_option linter.unusedSimpArgs false
open Go.RowKit
def xs16 (y : Nat) : Nat := y ^^^ (y / 65536)
def mulC (y : Nat) : Nat := (y * 73244475) % 4294967296
def mixN (y : Nat) : Nat := xs16 (mulC (xs16 (mulC (xs16 y))))

theorem xs16_lt (y : Nat) (h : y < 4294967296) : xs16 y < 4294967296 := by
  unfold xs16
  exact Nat.xor_lt_two_pow (n := 32) h (by omega)
theorem mulC_lt (y : Nat) : mulC y < 4294967296 := Nat.mod_lt _ (by decide)
theorem mixN_lt (y : Nat) : mixN y < 4294967296 := xs16_lt _ (mulC_lt _)

theorem xs16_xs16 (y : Nat) (h : y < 4294967296) : xs16 (xs16 y) = y := by
  unfold xs16
  have e : ∀ z : Nat, z / 65536 = z >>> 16 := fun z => by rw [Nat.shiftRight_eq_div_pow]
  rw [e, e]
  apply Nat.eq_of_testBit_eq
  intro i
  simp only [Nat.testBit_xor, Nat.testBit_shiftRight]
  have h32 : y.testBit (16 + (16 + i)) = false := Nat.testBit_lt_two_pow (Nat.lt_of_lt_of_le h (Nat.pow_le_pow_right (n := 2) (by decide) (show 32 ≤ 16 + (16 + i) by omega)))
  rw [h32]
  cases y.testBit i <;> cases y.testBit (16 + i) <;> rfl
theorem xs16_inj {a b : Nat} (ha : a < 4294967296) (hb : b < 4294967296) (h : xs16 a = xs16 b) : a = b := by
  rw [← xs16_xs16 a ha, ← xs16_xs16 b hb, h]
theorem mulC_inv (y : Nat) (h : y < 4294967296) : (mulC y * 295559667) % 4294967296 = y := by
  unfold mulC
  omega
theorem mulC_inj {a b : Nat} (ha : a < 4294967296) (hb : b < 4294967296) (h : mulC a = mulC b) : a = b := by
  rw [← mulC_inv a ha, ← mulC_inv b hb, h]
theorem mixN_inj {a b : Nat} (ha : a < 4294967296) (hb : b < 4294967296) (h : mixN a = mixN b) : a = b := by
  unfold mixN at h
  have h1 := xs16_inj (mulC_lt _) (mulC_lt _) h
  have h2 := mulC_inj (xs16_lt _ (mulC_lt _)) (xs16_lt _ (mulC_lt _)) h1
  have h3 := xs16_inj (mulC_lt _) (mulC_lt _) h2
  have h4 := mulC_inj (xs16_lt _ ha) (xs16_lt _ hb) h3
  exact xs16_inj ha hb h4

/-- The bits of two words, in the walk's own words. -/
theorem bits_xor_i64 (a b : Nat) (ha : a < 4294967296) (hb : b < 4294967296) : bits .xor .i64 (a : Int) (b : Int) = ((a ^^^ b : Nat) : Int) := by
  have hx : a ^^^ b < 2 ^ 32 := Nat.xor_lt_two_pow (by omega) (by omega)
  have h1 : (BitVec.ofInt 64 (a : Int)).toNat = a := by simp; omega
  have h2 : (BitVec.ofInt 64 (b : Int)).toNat = b := by simp; omega
  show IntKind.i64.wrap (((BitVec.ofInt 64 (a : Int)) ^^^ (BitVec.ofInt 64 (b : Int))).toNat : Int) = _
  rw [BitVec.toNat_xor, h1, h2, IntKind.wrap_i64]
  have : ((a ^^^ b : Nat) : Int) < 4294967296 := by omega
  omega
theorem bits_and_i64 (a : Nat) (ha : a < 9223372036854775808) : bits .and .i64 (a : Int) 4294967295 = ((a % 4294967296 : Nat) : Int) := by
  have h1 : (BitVec.ofInt 64 (a : Int)).toNat = a := by simp; omega
  have h2 : (BitVec.ofInt 64 (4294967295 : Int)).toNat = 4294967295 := by decide
  show IntKind.i64.wrap (((BitVec.ofInt 64 (a : Int)) &&& (BitVec.ofInt 64 (4294967295 : Int))).toNat : Int) = _
  rw [BitVec.toNat_and, h1, h2, IntKind.wrap_i64]
  have : a &&& 4294967295 = a % 4294967296 := Nat.and_two_pow_sub_one_eq_mod a 32
  rw [this]
  omega

theorem mix_end (y : Nat) (hy : y < 4294967296) : bits .xor .i64 (y : Int) ((y : Int) / 65536) = ((xs16 y : Nat) : Int) := by
  have := bits_xor_i64 y (y / 65536) hy (by omega)
  rw [show ((y / 65536 : Nat) : Int) = (y : Int) / 65536 by omega] at this
  exact this
theorem mix_round (y : Nat) (hy : y < 4294967296) : bits .and .i64 (wrap64 (bits .xor .i64 (y : Int) ((y : Int) / 65536) * 73244475)) 4294967295 = ((mulC (xs16 y) : Nat) : Int) := by
  rw [mix_end y hy]
  have h := xs16_lt y hy
  rw [show wrap64 ((xs16 y : Nat) * 73244475 : Int) = ((xs16 y * 73244475 : Nat) : Int) by unfold wrap64; omega]
  exact bits_and_i64 _ (by omega)
/-- After i rounds of the mixer the variable holds y. -/
def MixAt (n i y : Nat) : Prop := y < 4294967296 ∧ (i = 0 ∧ y = n ∨ i = 1 ∧ y = mulC (xs16 n) ∨ i = 2 ∧ y = mulC (xs16 (mulC (xs16 n))))
theorem MixAt.start {n : Nat} (h : n < 4294967296) : MixAt n 0 n := ⟨h, .inl ⟨rfl, rfl⟩⟩
theorem MixAt.step {n i y : Nat} (h : MixAt n i y) (hi : i < 2) : MixAt n (i + 1) (mulC (xs16 y)) := by
  refine ⟨mulC_lt _, ?_⟩
  rcases h.2 with ⟨h1, h2⟩ | ⟨h1, h2⟩ | ⟨h1, h2⟩
  · exact .inr (.inl ⟨by omega, by rw [h2]⟩)
  · exact .inr (.inr ⟨by omega, by rw [h2]⟩)
  · omega
theorem MixAt.fin {n i y : Nat} (h : MixAt n i y) (hi : ¬ i < 2) : mixN n = xs16 y := by
  rcases h.2 with ⟨h1, h2⟩ | ⟨h1, h2⟩ | ⟨h1, h2⟩
  · omega
  · omega
  · rw [h2]; rfl

/-- Go's 'between', a plain Bool. -/
def btw (x lo hi : Int) : Bool := decide (lo ≤ x) && decide (x ≤ hi)
theorem btw_true {x lo hi : Int} (h : btw x lo hi = true) : lo ≤ x ∧ x ≤ hi := by simpa [btw] using h
theorem btw_false {x lo hi : Int} (h : btw x lo hi = false) : x < lo ∨ hi < x := by
  unfold btw at h
  by_cases h1 : lo ≤ x
  · right; simp [h1] at h; omega
  · left; omega
theorem btw_mk {x lo hi : Int} (h1 : lo ≤ x) (h2 : x ≤ hi) : btw x lo hi = true := by simp [btw, h1, h2]
theorem btw_no {x lo hi : Int} (h : x < lo ∨ hi < x) : btw x lo hi = false := by
  unfold btw
  rcases h with h | h
  · simp [show ¬ lo ≤ x by omega]
  · simp [show ¬ x ≤ hi by omega]
def isW (x : Int) : Bool := btw x 0 4294967295
/-- The mixer on ints, as the program gives it. -/
def mix (x : Int) : Int := if isW x = true then (mixN x.toNat : Int) else 0
theorem isW_nat {n : Nat} (h : n < 4294967296) : isW (n : Int) = true := btw_mk (by omega) (by omega)
theorem mix_nat {n : Nat} (h : n < 4294967296) : mix (n : Int) = (mixN n : Int) := by
  unfold mix
  rw [if_pos (isW_nat h)]
  simp
theorem mix_not {x : Int} (h : isW x = false) : mix x = 0 := by simp [mix, h]
theorem isW_of {x : Int} (h : isW x = true) : ∃ n : Nat, n < 4294967296 ∧ x = (n : Int) := by
  have := btw_true h
  exact ⟨x.toNat, by omega, by omega⟩
theorem all_step {α : Type} {p : α → Bool} {xs : List α} {k : Nat} {x d : α} (h : (xs.take k).all p = true) (hk : k < xs.length) (hx : x = xs.getD k d) (hp : p x = true) : (xs.take (k + 1)).all p = true := by
  rw [List.take_succ_eq_append_getElem hk, List.all_append, h]
  have : x = xs[k] := by rw [hx]; simp [List.getD, hk]
  simp [← this, hp]
theorem all_stop {α : Type} {p : α → Bool} {xs : List α} {k : Nat} {x d : α} (hk : k < xs.length) (hx : x = xs.getD k d) (hp : p x = false) : xs.all p = false := by
  have : x = xs[k] := by rw [hx]; simp [List.getD, hk]
  rw [List.all_eq_false]
  exact ⟨xs[k], List.getElem_mem hk, by rw [← this]; simp [hp]⟩
theorem all_end {α : Type} {p : α → Bool} {xs : List α} {k : Nat} (h : (xs.take k).all p = true) (hk : xs.length ≤ k) : xs.all p = true := by
  rw [List.take_of_length_le hk] at h
  exact h
def okW2 (a b : Int) : Bool := isW a && isW b
def okW3 (a b c : Int) : Bool := isW a && isW b && isW c
def keyed (k a b : Int) : Int := if okW3 k a b = true then mix (bits .xor .i64 (mix (bits .xor .i64 (mix k) a)) b) else 0
def okW4 (k l c x : Int) : Bool := isW k && isW l && isW c && isW x
def sealW (k l c x : Int) : Int := if okW4 k l c x = true then bits .xor .i64 x (keyed k l c) else 0
def tagW (k l c x : Int) : Int := if okW4 k l c x = true then keyed (mix k) (keyed k l c) x else 0

/-- What a call leaves below its own heap, call after call. -/
theorem belowNext {a b c : World} (h1 : Below a.heap.size a b) (h2 : Below b.heap.size b c) : Below a.heap.size a c := h1.trans (h2.mono h1.size)
theorem belowNew (w : World) (o : Obj) : Below w.heap.size w (w.alloc o) := (Below.refl _ _).alloc (Nat.le_refl _) _
theorem belowAlloc {a b : World} (h : Below a.heap.size a b) (o : Obj) : Below a.heap.size a (b.alloc o) := h.alloc h.size _
theorem belowDrewN {a b : World} (h : Below a.heap.size a b) (n : Nat) : Below a.heap.size a (b.drewN n) := ⟨h.os, h.tape, h.output, h.size, h.block⟩
theorem belowDrew {a b : World} (h : Below a.heap.size a b) : Below a.heap.size a b.drew := ⟨h.os, h.tape, h.output, h.size, h.block⟩
theorem cell_new (w : World) (cs : Array Value) (t : TypeId) (j : Nat) : (w.alloc (.cells cs t)).cell? ⟨w.heap.size, j, none⟩ = cs[j]? := World.cell?_alloc_at _ _ _ _ rfl
@[simp] theorem size_setCell (w : World) (a : Addr) (v : Value) : (w.setCell a v).heap.size = w.heap.size := by simp [World.setCell]
/-- Behind a call that only made memory: all old cells and marks read as before. -/
theorem bcell {W w1 : World} (hb : Below W.heap.size W w1) : (∀ b o, b < W.heap.size → w1.cell? ⟨b, o, none⟩ = W.cell? ⟨b, o, none⟩) ∧ (∀ b o, b < W.heap.size → w1.frozen? ⟨b, o, none⟩ = W.frozen? ⟨b, o, none⟩) ∧ W.heap.size ≤ w1.heap.size :=
  ⟨fun b o h => hb.cell (p := ⟨b, o, none⟩) h, fun b o h => hb.frozen (p := ⟨b, o, none⟩) h, hb.size⟩
theorem bcellN {W w1 : World} {n : Nat} (hb : Below W.heap.size W w1) (hn : W.heap.size = n) : (∀ b o, b < n → w1.cell? ⟨b, o, none⟩ = W.cell? ⟨b, o, none⟩) ∧ (∀ b o, b < n → w1.frozen? ⟨b, o, none⟩ = W.frozen? ⟨b, o, none⟩) ∧ n ≤ w1.heap.size := by
  subst hn
  exact bcell hb

/-! The plain law of seals and tags. -/
def xorN (a b : Nat) : Nat := a ^^^ b
theorem xorN_lt {a b : Nat} (ha : a < 4294967296) (hb : b < 4294967296) : a ^^^ b < 4294967296 := Nat.xor_lt_two_pow (n := 32) ha hb
theorem xor_cancel {a b c : Nat} (h : a ^^^ b = a ^^^ c) : b = c := by
  have : a ^^^ (a ^^^ b) = a ^^^ (a ^^^ c) := by rw [h]
  simpa [← Nat.xor_assoc] using this
theorem xor_cancel' {a b c : Nat} (h : b ^^^ a = c ^^^ a) : b = c := xor_cancel (a := a) (by rw [Nat.xor_comm a b, Nat.xor_comm a c]; exact h)
def keyedN (k a b : Nat) : Nat := mixN (mixN (mixN k ^^^ a) ^^^ b)
theorem keyedN_lt (k a b : Nat) : keyedN k a b < 4294967296 := mixN_lt _
theorem keyed_nat {k a b : Nat} (hk : k < 4294967296) (ha : a < 4294967296) (hb : b < 4294967296) : keyed k a b = (keyedN k a b : Int) := by
  unfold keyed
  rw [if_pos (by simp [okW3, isW_nat hk, isW_nat ha, isW_nat hb]), mix_nat hk, bits_xor_i64 _ _ (mixN_lt _) ha, mix_nat (xorN_lt (mixN_lt _) ha), bits_xor_i64 _ _ (mixN_lt _) hb, mix_nat (xorN_lt (mixN_lt _) hb)]
  rfl
theorem keyedN_inj3 {k a b c : Nat} (hb : b < 4294967296) (hc : c < 4294967296) (h : keyedN k a b = keyedN k a c) : b = c :=
  xor_cancel (mixN_inj (xorN_lt (mixN_lt _) hb) (xorN_lt (mixN_lt _) hc) h)
theorem keyedN_inj2 {k a a' b : Nat} (ha : a < 4294967296) (ha' : a' < 4294967296) (hb : b < 4294967296) (h : keyedN k a b = keyedN k a' b) : a = a' := by
  have h1 := xor_cancel' (mixN_inj (xorN_lt (mixN_lt _) hb) (xorN_lt (mixN_lt _) hb) h)
  exact xor_cancel (mixN_inj (xorN_lt (mixN_lt _) ha) (xorN_lt (mixN_lt _) ha') h1)
theorem okW4_nat {k l c x : Nat} (hk : k < 4294967296) (hl : l < 4294967296) (hc : c < 4294967296) (hx : x < 4294967296) : okW4 k l c x = true := by simp [okW4, isW_nat hk, isW_nat hl, isW_nat hc, isW_nat hx]
def sealN (k l c x : Nat) : Nat := x ^^^ keyedN k l c
def tagN (k l c x : Nat) : Nat := keyedN (mixN k) (keyedN k l c) x
theorem sealN_lt {k l c x : Nat} (hx : x < 4294967296) : sealN k l c x < 4294967296 := xorN_lt hx (keyedN_lt _ _ _)
theorem tagN_lt (k l c x : Nat) : tagN k l c x < 4294967296 := keyedN_lt _ _ _
theorem sealW_nat {k l c x : Nat} (hk : k < 4294967296) (hl : l < 4294967296) (hc : c < 4294967296) (hx : x < 4294967296) : sealW k l c x = (sealN k l c x : Int) := by
  unfold sealW
  rw [if_pos (okW4_nat hk hl hc hx), keyed_nat hk hl hc, bits_xor_i64 _ _ hx (keyedN_lt _ _ _)]
  rfl
theorem tagW_nat {k l c x : Nat} (hk : k < 4294967296) (hl : l < 4294967296) (hc : c < 4294967296) (hx : x < 4294967296) : tagW k l c x = (tagN k l c x : Int) := by
  unfold tagW
  rw [if_pos (okW4_nat hk hl hc hx), keyed_nat hk hl hc, mix_nat hk, keyed_nat (mixN_lt _) (keyedN_lt _ _ _) hx]
  rfl
theorem seal_seal (k l c x : Nat) : sealN k l c (sealN k l c x) = x := by
  unfold sealN
  rw [Nat.xor_assoc, Nat.xor_self, Nat.xor_zero]
theorem seal_counter {k l c c' x : Nat} (hc : c < 4294967296) (hc' : c' < 4294967296) (h : sealN k l c x = sealN k l c' x) : c = c' :=
  keyedN_inj3 hc hc' (xor_cancel h)
theorem tag_word {k l c x y : Nat} (hx : x < 4294967296) (hy : y < 4294967296) (h : tagN k l c x = tagN k l c y) : x = y := keyedN_inj3 hx hy h
theorem tag_counter {k l c c' x : Nat} (hc : c < 4294967296) (hc' : c' < 4294967296) (hx : x < 4294967296) (h : tagN k l c x = tagN k l c' x) : c = c' :=
  keyedN_inj3 hc hc' (keyedN_inj2 (keyedN_lt _ _ _) (keyedN_lt _ _ _) hx h)
/-- Of ints that are words. -/
theorem sealW_seal {k l c x : Int} (h : okW4 k l c x = true) : sealW k l c (sealW k l c x) = x ∧ isW (sealW k l c x) = true := by
  simp only [okW4, Bool.and_eq_true] at h
  obtain ⟨⟨⟨ik, il⟩, ic⟩, ix⟩ := h
  obtain ⟨k, hk, rfl⟩ := isW_of ik
  obtain ⟨l, hl, rfl⟩ := isW_of il
  obtain ⟨c, hc, rfl⟩ := isW_of ic
  obtain ⟨x, hx, rfl⟩ := isW_of ix
  rw [sealW_nat hk hl hc hx, sealW_nat hk hl hc (sealN_lt hx), seal_seal]
  exact ⟨rfl, isW_nat (sealN_lt hx)⟩
theorem sealW_counter {k l c c' x : Int} (h : okW4 k l c x = true) (h' : isW c' = true) (hne : c ≠ c') : sealW k l c x ≠ sealW k l c' x := by
  simp only [okW4, Bool.and_eq_true] at h
  obtain ⟨⟨⟨ik, il⟩, ic⟩, ix⟩ := h
  obtain ⟨k, hk, rfl⟩ := isW_of ik
  obtain ⟨l, hl, rfl⟩ := isW_of il
  obtain ⟨c, hc, rfl⟩ := isW_of ic
  obtain ⟨c', hc', rfl⟩ := isW_of h'
  obtain ⟨x, hx, rfl⟩ := isW_of ix
  rw [sealW_nat hk hl hc hx, sealW_nat hk hl hc' hx]
  intro e
  exact hne (by rw [seal_counter hc hc' (Int.ofNat_inj.1 e)])
theorem tagW_word {k l c x y : Int} (h : okW4 k l c x = true) (h' : isW y = true) (hne : x ≠ y) : tagW k l c x ≠ tagW k l c y := by
  simp only [okW4, Bool.and_eq_true] at h
  obtain ⟨⟨⟨ik, il⟩, ic⟩, ix⟩ := h
  obtain ⟨k, hk, rfl⟩ := isW_of ik
  obtain ⟨l, hl, rfl⟩ := isW_of il
  obtain ⟨c, hc, rfl⟩ := isW_of ic
  obtain ⟨x, hx, rfl⟩ := isW_of ix
  obtain ⟨y, hy, rfl⟩ := isW_of h'
  rw [tagW_nat hk hl hc hx, tagW_nat hk hl hc hy]
  intro e
  exact hne (by rw [tag_word hx hy (Int.ofNat_inj.1 e)])
theorem tagW_counter {k l c c' x : Int} (h : okW4 k l c x = true) (h' : isW c' = true) (hne : c ≠ c') : tagW k l c x ≠ tagW k l c' x := by
  simp only [okW4, Bool.and_eq_true] at h
  obtain ⟨⟨⟨ik, il⟩, ic⟩, ix⟩ := h
  obtain ⟨k, hk, rfl⟩ := isW_of ik
  obtain ⟨l, hl, rfl⟩ := isW_of il
  obtain ⟨c, hc, rfl⟩ := isW_of ic
  obtain ⟨c', hc', rfl⟩ := isW_of h'
  obtain ⟨x, hx, rfl⟩ := isW_of ix
  rw [tagW_nat hk hl hc hx, tagW_nat hk hl hc' hx]
  intro e
  exact hne (by rw [tag_counter hc hc' hx (Int.ofNat_inj.1 e)])
theorem keyed_third {k a b b' : Int} (h : okW3 k a b = true) (h' : isW b' = true) (hne : b ≠ b') : keyed k a b ≠ keyed k a b' := by
  simp only [okW3, Bool.and_eq_true] at h
  obtain ⟨⟨ik, il⟩, ic⟩ := h
  obtain ⟨k, hk, rfl⟩ := isW_of ik
  obtain ⟨a, hl, rfl⟩ := isW_of il
  obtain ⟨b, hc, rfl⟩ := isW_of ic
  obtain ⟨b', hb', rfl⟩ := isW_of h'
  rw [keyed_nat hk hl hc, keyed_nat hk hl hb']
  intro e
  exact hne (by rw [keyedN_inj3 hc hb' (Int.ofNat_inj.1 e)])
theorem belowSet {a b : World} (h : Below a.heap.size a b) {g o : Nat} (hg : a.heap.size ≤ g) (v : Value) : Below a.heap.size a (b.setCell ⟨g, o, none⟩ v) := h.setCell (p := ⟨g, o, none⟩) hg v
end Go.Proofs.Ytmgjmglmjfjliab
