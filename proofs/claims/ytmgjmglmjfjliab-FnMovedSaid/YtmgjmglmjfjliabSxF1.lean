/-
  The field of 16 numbers: sums, products, linear expressions. No program in sight.
-/
import Derived.Laws.BitsLemmas
import Derived.KernelRfl
namespace Go.Proofs.Ytmgjmglmjfjliab
set_option linter.unusedVariables false
set_option linter.unusedSimpArgs false
set_option maxRecDepth 100000

def xt (a : Nat) : Nat := Nat.xor (2 * a) (19 * (a / 8))
def bm (b k a : Nat) : Nat := (b / 2 ^ k % 2) * a
/-- The product. -/
def gfN (a b : Nat) : Nat := Nat.xor (Nat.xor (bm b 0 a) (bm b 1 (xt a))) (Nat.xor (bm b 2 (xt (xt a))) (bm b 3 (xt (xt (xt a)))))
def allN : Nat → (Nat → Bool) → Bool
  | 0, _ => true
  | n + 1, p => p n && allN n p
theorem allN_get {p : Nat → Bool} : ∀ {n i : Nat}, allN n p = true → i < n → p i = true := by
  intro n
  induction n with
  | zero => intro i _ h; omega
  | succ n ih =>
    intro i h hi
    simp only [allN, Bool.and_eq_true] at h
    by_cases e : i = n
    · rw [e]; exact h.1
    · exact ih h.2 (by omega)
def gfLaws : Bool := allN 16 fun a => Nat.beq (gfN 1 a) a && Nat.beq (gfN a 1) a && Nat.beq (gfN 0 a) 0 && Nat.beq (gfN a 0) 0 && allN 16 fun b => Nat.blt (gfN a b) 16 && Nat.beq (gfN a b) (gfN b a) && Nat.blt (Nat.xor a b) 16 && allN 16 fun c => Nat.beq (gfN a (Nat.xor b c)) (Nat.xor (gfN a b) (gfN a c)) && Nat.beq (gfN a (gfN b c)) (gfN (gfN a b) c)
theorem gfLaws_ok : gfLaws = true := by kernel_rfl
theorem beqN {a b : Nat} (h : Nat.beq a b = true) : a = b := Nat.eq_of_beq_eq_true h
theorem bltN {a b : Nat} (h : Nat.blt a b = true) : a < b := Nat.le_of_ble_eq_true h
theorem gf1 {a : Nat} (ha : a < 16) : gfN 1 a = a ∧ gfN a 1 = a ∧ gfN 0 a = 0 ∧ gfN a 0 = 0 := by
  have h := allN_get gfLaws_ok ha
  simp only [Bool.and_eq_true] at h
  exact ⟨beqN h.1.1.1.1, beqN h.1.1.1.2, beqN h.1.1.2, beqN h.1.2⟩
theorem gf2 {a b : Nat} (ha : a < 16) (hb : b < 16) : gfN a b < 16 ∧ gfN a b = gfN b a ∧ Nat.xor a b < 16 := by
  have h := allN_get gfLaws_ok ha
  simp only [Bool.and_eq_true] at h
  have h2 := allN_get h.2 hb
  simp only [Bool.and_eq_true] at h2
  exact ⟨bltN h2.1.1.1, beqN h2.1.1.2, bltN h2.1.2⟩
theorem gf3 {a b c : Nat} (ha : a < 16) (hb : b < 16) (hc : c < 16) : gfN a (Nat.xor b c) = Nat.xor (gfN a b) (gfN a c) ∧ gfN a (gfN b c) = gfN (gfN a b) c := by
  have h := allN_get gfLaws_ok ha
  simp only [Bool.and_eq_true] at h
  have h2 := allN_get h.2 hb
  simp only [Bool.and_eq_true] at h2
  have h3 := allN_get h2.2 hc
  simp only [Bool.and_eq_true] at h3
  exact ⟨beqN h3.1, beqN h3.2⟩
theorem gf_radd {a b c : Nat} (ha : a < 16) (hb : b < 16) (hc : c < 16) : gfN (Nat.xor b c) a = Nat.xor (gfN b a) (gfN c a) := by
  rw [(gf2 (gf2 hb hc).2.2 ha).2.1, (gf3 ha hb hc).1, (gf2 ha hb).2.1, (gf2 ha hc).2.1]

/-- Linear expressions. -/
inductive LE where
  | o
  | v (i : Nat)
  | x (a b : LE)
  | m (c : Nat) (a : LE)
  | w (a : LE) (c : Nat)
def LE.ev (r : Nat → Nat) : LE → Nat
  | .o => 0
  | .v i => r i
  | .x a b => Nat.xor (a.ev r) (b.ev r)
  | .m c a => gfN c (a.ev r)
  | .w a c => gfN (a.ev r) c
def LE.co : LE → Nat → Nat
  | .o, _ => 0
  | .v j, i => match Nat.beq j i with | true => 1 | false => 0
  | .x a b, i => Nat.xor (a.co i) (b.co i)
  | .m c a, i => gfN c (a.co i)
  | .w a c, i => gfN c (a.co i)
def LE.ok (n : Nat) : LE → Bool
  | .o => true
  | .v i => Nat.blt i n
  | .x a b => a.ok n && b.ok n
  | .m c a => Nat.blt c 16 && a.ok n
  | .w a c => Nat.blt c 16 && a.ok n
def lc (cs r : Nat → Nat) : Nat → Nat
  | 0 => 0
  | n + 1 => Nat.xor (lc cs r n) (gfN (cs n) (r n))
theorem xor4 (a b c d : Nat) : Nat.xor (Nat.xor a b) (Nat.xor c d) = Nat.xor (Nat.xor a c) (Nat.xor b d) := by
  show (a ^^^ b) ^^^ (c ^^^ d) = (a ^^^ c) ^^^ (b ^^^ d)
  rw [Nat.xor_assoc, Nat.xor_assoc, ← Nat.xor_assoc b, ← Nat.xor_assoc c, Nat.xor_comm b c]
theorem lc_lt {cs r : Nat → Nat} (hc : ∀ i, cs i < 16) : ∀ {n : Nat}, (∀ i, i < n → r i < 16) → lc cs r n < 16 := by
  intro n
  induction n with
  | zero => intro _; simp [lc]
  | succ n ih => intro h; exact (gf2 (ih fun i hi => h i (by omega)) (gf2 (hc n) (h n (by omega))).1).2.2
theorem lc_zero {r : Nat → Nat} : ∀ {n : Nat}, (∀ i, i < n → r i < 16) → lc (fun _ => 0) r n = 0 := by
  intro n
  induction n with
  | zero => intro _; rfl
  | succ n ih =>
    intro h
    simp only [lc]
    rw [ih fun i hi => h i (by omega), (gf1 (h n (by omega))).2.2.1]
    rfl
theorem lc_xor {c d r : Nat → Nat} (hc : ∀ i, c i < 16) (hd : ∀ i, d i < 16) : ∀ {n : Nat}, (∀ i, i < n → r i < 16) → lc (fun i => Nat.xor (c i) (d i)) r n = Nat.xor (lc c r n) (lc d r n) := by
  intro n
  induction n with
  | zero => intro _; exact (Nat.xor_zero 0).symm
  | succ n ih =>
    intro h
    simp only [lc]
    rw [ih fun i hi => h i (by omega), gf_radd (h n (by omega)) (hc n) (hd n), xor4]
theorem lc_mul {c r : Nat → Nat} {k : Nat} (hk : k < 16) (hc : ∀ i, c i < 16) : ∀ {n : Nat}, (∀ i, i < n → r i < 16) → lc (fun i => gfN k (c i)) r n = gfN k (lc c r n) := by
  intro n
  induction n with
  | zero => intro _; simp only [lc]; exact (gf1 hk).2.2.2.symm
  | succ n ih =>
    intro h
    simp only [lc]
    rw [ih fun i hi => h i (by omega), (gf3 hk (lc_lt hc fun i hi => h i (by omega)) (gf2 (hc n) (h n (by omega))).1).1, (gf3 hk (hc n) (h n (by omega))).2]
theorem lc_unit {r : Nat → Nat} {j : Nat} : ∀ {n : Nat}, (∀ i, i < n → r i < 16) → lc (LE.v j).co r n = if j < n then r j else 0 := by
  intro n
  induction n with
  | zero => intro _; rfl
  | succ n ih =>
    intro h
    simp only [lc]
    rw [ih fun i hi => h i (by omega)]
    have hn := gf1 (h n (by omega))
    by_cases e : j = n
    · subst e
      have e1 : (LE.v j).co j = 1 := by simp [LE.co]
      rw [e1, hn.1, if_neg (by omega), if_pos (by omega)]
      show 0 ^^^ r j = r j
      exact Nat.zero_xor _
    · have e1 : (LE.v j).co n = 0 := by
        simp only [LE.co]
        have : Nat.beq j n = false := by
          cases hb : Nat.beq j n
          · rfl
          · exact absurd (beqN hb) e
        rw [this]
      rw [e1, hn.2.2.1]
      by_cases h2 : j < n
      · rw [if_pos h2, if_pos (by omega)]
        show r j ^^^ 0 = r j
        exact Nat.xor_zero _
      · rw [if_neg h2, if_neg (by omega)]
        rfl
theorem LE.lin {n : Nat} {r : Nat → Nat} (hr : ∀ i, i < n → r i < 16) : ∀ (e : LE), e.ok n = true → e.ev r = lc e.co r n ∧ e.ev r < 16 ∧ ∀ i, e.co i < 16 := by
  intro e
  induction e with
  | o => intro _; exact ⟨(lc_zero hr).symm, by simp [LE.ev], fun i => by simp [LE.co]⟩
  | v j =>
    intro h
    have hj : j < n := bltN h
    refine ⟨?_, hr j hj, fun i => ?_⟩
    · rw [lc_unit hr, if_pos hj]; rfl
    · simp only [LE.co]; split <;> omega
  | x a b iha ihb =>
    intro h
    simp only [LE.ok, Bool.and_eq_true] at h
    obtain ⟨a1, a2, a3⟩ := iha h.1
    obtain ⟨b1, b2, b3⟩ := ihb h.2
    refine ⟨?_, (gf2 a2 b2).2.2, fun i => (gf2 (a3 i) (b3 i)).2.2⟩
    show Nat.xor (a.ev r) (b.ev r) = lc (fun i => Nat.xor (a.co i) (b.co i)) r n
    rw [lc_xor a3 b3 hr, a1, b1]
  | m c a ih =>
    intro h
    simp only [LE.ok, Bool.and_eq_true] at h
    have hc : c < 16 := bltN h.1
    obtain ⟨a1, a2, a3⟩ := ih h.2
    refine ⟨?_, (gf2 hc a2).1, fun i => (gf2 hc (a3 i)).1⟩
    show gfN c (a.ev r) = lc (fun i => gfN c (a.co i)) r n
    rw [lc_mul hc a3 hr, a1]
  | w a c ih =>
    intro h
    simp only [LE.ok, Bool.and_eq_true] at h
    have hc : c < 16 := bltN h.1
    obtain ⟨a1, a2, a3⟩ := ih h.2
    refine ⟨?_, (gf2 a2 hc).1, fun i => (gf2 hc (a3 i)).1⟩
    show gfN (a.ev r) c = lc (fun i => gfN c (a.co i)) r n
    rw [lc_mul hc a3 hr, a1, (gf2 (lc_lt a3 hr) hc).2.1]
def LE.eqB (n : Nat) (a b : LE) : Bool := a.ok n && b.ok n && allN n fun i => Nat.beq (a.co i) (b.co i)
theorem lc_congr {c d r : Nat → Nat} : ∀ {n : Nat}, (∀ i, i < n → c i = d i) → lc c r n = lc d r n := by
  intro n
  induction n with
  | zero => intro _; rfl
  | succ n ih => intro h; simp only [lc]; rw [ih fun i hi => h i (by omega), h n (by omega)]
theorem LE.eq_of {n : Nat} {a b : LE} (h : LE.eqB n a b = true) {r : Nat → Nat} (hr : ∀ i, i < n → r i < 16) : a.ev r = b.ev r := by
  simp only [LE.eqB, Bool.and_eq_true] at h
  obtain ⟨⟨h1, h2⟩, h3⟩ := h
  rw [(LE.lin hr a h1).1, (LE.lin hr b h2).1]
  exact lc_congr fun i hi => by
    have h4 := allN_get h3 hi
    exact beqN h4

/-! The same, of ints. -/
abbrev el (x : Int) : Prop := 0 ≤ x ∧ x ≤ 15
def gfM (a b : Int) : Int := ((gfN a.toNat b.toNat : Nat) : Int)
def pwN : Nat → Nat
  | 0 => 1
  | n + 1 => gfN (pwN n) 2
def findN (p : Nat → Bool) : Nat → Nat → Int
  | 0, _ => -1
  | n + 1, i => match p i with | true => (i : Int) | false => findN p n (i + 1)
def invZ (a : Nat) : Int := findN (fun x => Nat.beq (gfN a x) 1) 15 1
def logZ (a : Nat) : Int := findN (fun n => Nat.beq (pwN n) a) 15 0
def gfInv (a : Int) : Int := invZ a.toNat
def gfLog (a : Int) : Int := logZ a.toNat
def xorI (a b : Int) : Int := bits .xor .i64 a b
theorem wraps62 (n : Int) (h0 : 0 ≤ n) (h1 : n < 2 ^ 62) : IntKind.i64.wrap n = n := by rw [IntKind.wrap_i64]; omega
theorem xorI_nat {m n : Nat} (hm : m < 2 ^ 62) (hn : n < 2 ^ 62) : xorI (m : Int) (n : Int) = ((Nat.xor m n : Nat) : Int) := by
  have ha' : m % 2 ^ IntKind.i64.bits = m := Nat.mod_eq_of_lt (by show m < 2 ^ 64; omega)
  have hb' : n % 2 ^ IntKind.i64.bits = n := Nat.mod_eq_of_lt (by show n < 2 ^ 64; omega)
  simp only [xorI, bits, BitVec.ofInt_natCast, BitVec.toNat_xor, BitVec.toNat_ofNat, ha', hb']
  have hx : Nat.xor m n < 2 ^ 62 := Nat.xor_lt_two_pow hm hn
  exact wraps62 _ (Int.natCast_nonneg _) (by exact_mod_cast hx)
def LE.ei (f : Nat → Int) : LE → Int
  | .o => 0
  | .v i => f i
  | .x a b => bits .xor .i64 (a.ei f) (b.ei f)
  | .m c a => gfM (c : Nat) (a.ei f)
  | .w a c => gfM (a.ei f) (c : Nat)
theorem LE.ei_ev {n : Nat} {f : Nat → Int} (hf : ∀ i, i < n → el (f i)) : ∀ (e : LE), e.ok n = true → e.ei f = ((e.ev fun i => (f i).toNat : Nat) : Int) ∧ (e.ev fun i => (f i).toNat) < 16 := by
  have hr : ∀ i, i < n → (fun i => (f i).toNat) i < 16 := fun i hi => by have := hf i hi; simp only; omega
  intro e
  induction e with
  | o => intro h; exact ⟨rfl, by simp [LE.ev]⟩
  | v j =>
    intro h
    have hj : j < n := bltN h
    have h2 := hf j hj
    exact ⟨by simp only [LE.ei, LE.ev]; omega, hr j hj⟩
  | x a b iha ihb =>
    intro h
    have hl := (LE.lin hr _ h).2.1
    simp only [LE.ok, Bool.and_eq_true] at h
    obtain ⟨a1, a2⟩ := iha h.1
    obtain ⟨b1, b2⟩ := ihb h.2
    refine ⟨?_, hl⟩
    show bits .xor .i64 (a.ei f) (b.ei f) = _
    rw [a1, b1]
    exact xorI_nat (by omega) (by omega)
  | m c a ih =>
    intro h
    have hl := (LE.lin hr _ h).2.1
    simp only [LE.ok, Bool.and_eq_true] at h
    obtain ⟨a1, a2⟩ := ih h.2
    refine ⟨?_, hl⟩
    show gfM (c : Nat) (a.ei f) = _
    rw [a1]
    rfl
  | w a c ih =>
    intro h
    have hl := (LE.lin hr _ h).2.1
    simp only [LE.ok, Bool.and_eq_true] at h
    obtain ⟨a1, a2⟩ := ih h.2
    refine ⟨?_, hl⟩
    show gfM (a.ei f) (c : Nat) = _
    rw [a1]
    rfl
theorem LE.el {n : Nat} {f : Nat → Int} (hf : ∀ i, i < n → el (f i)) (e : LE) (h : e.ok n = true) : Go.Proofs.Ytmgjmglmjfjliab.el (e.ei f) := by
  obtain ⟨h1, h2⟩ := LE.ei_ev hf e h
  rw [h1]
  exact ⟨by omega, by omega⟩
theorem LE.eqI (n : Nat) (a b : LE) (h : LE.eqB n a b = true) {f : Nat → Int} (hf : ∀ i, i < n → Go.Proofs.Ytmgjmglmjfjliab.el (f i)) : a.ei f = b.ei f := by
  have h' := h
  simp only [LE.eqB, Bool.and_eq_true] at h'
  rw [(LE.ei_ev hf a h'.1.1).1, (LE.ei_ev hf b h'.1.2).1]
  congr 1
  exact LE.eq_of h fun i hi => by have := hf i hi; omega
def LE.sub (s : Nat → LE) : LE → LE
  | .o => .o
  | .v i => s i
  | .x a b => .x (a.sub s) (b.sub s)
  | .m c a => .m c (a.sub s)
  | .w a c => .w (a.sub s) c
theorem LE.sub_ei (s : Nat → LE) (f : Nat → Int) : ∀ e : LE, (e.sub s).ei f = e.ei fun i => (s i).ei f := by
  intro e
  induction e with
  | o => rfl
  | v i => rfl
  | x a b iha ihb => simp only [LE.sub, LE.ei, iha, ihb]
  | m c a ih => simp only [LE.sub, LE.ei, ih]
  | w a c ih => simp only [LE.sub, LE.ei, ih]
theorem LE.ei_congr {f g : Nat → Int} {n : Nat} (h : ∀ i, i < n → f i = g i) : ∀ e : LE, e.ok n = true → e.ei f = e.ei g := by
  intro e
  induction e with
  | o => intro _; rfl
  | v i => intro hk; exact h i (bltN hk)
  | x a b iha ihb => intro hk; simp only [LE.ok, Bool.and_eq_true] at hk; simp only [LE.ei, iha hk.1, ihb hk.2]
  | m c a ih => intro hk; simp only [LE.ok, Bool.and_eq_true] at hk; simp only [LE.ei, ih hk.2]
  | w a c ih => intro hk; simp only [LE.ok, Bool.and_eq_true] at hk; simp only [LE.ei, ih hk.2]
theorem el_gf {a b : Int} (ha : el a) (hb : el b) : el (gfM a b) := by
  have := (gf2 (a := a.toNat) (b := b.toNat) (by omega) (by omega)).1
  exact ⟨by unfold gfM; omega, by unfold gfM; omega⟩
theorem el_xor {a b : Int} (ha : el a) (hb : el b) : el (bits .xor .i64 a b) := by
  obtain ⟨m, rfl⟩ := Int.eq_ofNat_of_zero_le ha.1
  obtain ⟨n, rfl⟩ := Int.eq_ofNat_of_zero_le hb.1
  have := (gf2 (a := m) (b := n) (by omega) (by omega)).2.2
  show el (xorI _ _)
  rw [xorI_nat (by omega) (by omega)]
  exact ⟨by omega, by omega⟩
end Go.Proofs.Ytmgjmglmjfjliab
