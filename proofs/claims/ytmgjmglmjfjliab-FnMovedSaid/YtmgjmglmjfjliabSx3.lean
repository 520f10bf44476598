/-
  A walk by symbols, part 3: arithmetic, structs, the calm operations together.
-/
import Derived.Test.YtmgjmglmjfjliabSx2
import Derived.Laws.Entries
import Derived.Laws.BitsLemmas
import Derived.Laws.Closers25
import Derived.Laws.Cover3
namespace Go.Proofs.Ytmgjmglmjfjliab
set_option linter.unusedVariables false
set_option linter.unusedSimpArgs false
open Go.RowKit

/-- In the range of an int. -/
def rng (z : Int) : Prop := -9223372036854775808 ≤ z ∧ z ≤ 9223372036854775807
theorem wrap_rng {z : Int} (h : rng z) : IntKind.i64.wrap z = z := by
  rw [IntKind.wrap_i64]
  obtain ⟨h1, h2⟩ := h
  omega
def rngB (z : Int) : Bool :=
  match z with
  | .ofNat m => Nat.ble m 9223372036854775807
  | .negSucc m => Nat.ble m 9223372036854775807
theorem rngB_ok {z : Int} (h : rngB z = true) : rng z := by
  unfold rngB at h
  split at h
  · have := Nat.le_of_ble_eq_true h
    refine ⟨?_, ?_⟩ <;> simp only [Int.ofNat_eq_natCast] <;> omega
  · have := Nat.le_of_ble_eq_true h
    exact ⟨by omega, by omega⟩

def lits : SC → SC → Option (Int × Int)
  | .il a, .il b => some (a, b)
  | _, _ => none
theorem lits_ok {x y : SC} {a b : Int} (h : lits x y = some (a, b)) : x = .il a ∧ y = .il b := by
  unfold lits at h
  split at h
  · injection h with h; injection h with h1 h2; subst h1; subst h2; exact ⟨rfl, rfl⟩
  · cases h

abbrev iadd (a b : Int) : Int := a + b
abbrev isub (a b : Int) : Int := a - b
abbrev imul (a b : Int) : Int := a * b
abbrev idiv (a b : Int) : Int := a / b
abbrev imod (a b : Int) : Int := a % b
abbrev ieq (a b : Int) : Bool := a == b
abbrev ine (a b : Int) : Bool := a != b
abbrev ilt (a b : Int) : Bool := decide (a < b)
abbrev ile (a b : Int) : Bool := decide (a ≤ b)
abbrev igt (a b : Int) : Bool := decide (a > b)
abbrev ige (a b : Int) : Bool := decide (a ≥ b)
abbrev beqb (a b : Bool) : Bool := a == b
abbrev bneb (a b : Bool) : Bool := a != b
abbrev bnot (a : Bool) : Bool := !a
abbrev bitsI (op : BinOp) (a b : Int) : Int := bits op .i64 a b
abbrev divC (a b : Int) : Prop := 0 ≤ a ∧ a ≤ 9223372036854775807 ∧ 0 < b
abbrev byteC (n : Int) : Prop := 0 ≤ n ∧ n ≤ 255

inductive Ar where
  | add | sub | mul
def Ar.f : Ar → Int → Int → Int
  | .add => iadd
  | .sub => isub
  | .mul => imul
def Ar.l : Ar → Int → Int → Int
  | .add => fun a b => a + b
  | .sub => fun a b => a - b
  | .mul => fun a b => a * b
theorem Ar.l_ok (r : Ar) (a b : Int) : r.l a b = r.f a b := by cases r <;> rfl

abbrev wrapI (n : Int) : Int := IntKind.i64.wrap n
/-- A literal so great that what it enters is meant to wrap. -/
def bigL : SC → Bool
  | .il (.ofNat m) => match Nat.blt 1000000000000000000 m with | true => Nat.blt m 9000000000000000000 | false => false
  | _ => false
def exArith (r : Ar) (x y : SC) (k : SC → Prop) : Prop :=
  match lits x y with
  | some (a, b) => match rngB (r.l a b) with | true => k (.il (r.l a b)) | false => k (.int (wrapI (r.l a b)))
  | none =>
    match asI x, asI y with
    | some a, some b =>
      match bigL y with
      | true => ∀ z : Int, z = wrapI (r.f a b) → k (.int z)
      | false => rng (r.f a b) ∧ k (.int (r.f a b))
    | _, _ => False
theorem exArith_ok {r : Ar} {x y : SC} {k : SC → Prop} (h : exArith r x y k) : ∃ a b v, x.den = .int .i64 a ∧ y.den = .int .i64 b ∧ v.den = .int .i64 (IntKind.i64.wrap (r.f a b)) ∧ k v := by
  unfold exArith at h
  split at h
  · rename_i a b hl
    obtain ⟨rfl, rfl⟩ := lits_ok hl
    split at h
    · rename_i hr
      exact ⟨a, b, _, rfl, rfl, by rw [← Ar.l_ok, wrap_rng (rngB_ok hr)]; rfl, h⟩
    · exact ⟨a, b, _, rfl, rfl, by rw [← Ar.l_ok]; rfl, h⟩
  · split at h
    · rename_i a b ha hb
      split at h
      · exact ⟨a, b, _, asI_den ha, asI_den hb, rfl, h _ rfl⟩
      · obtain ⟨hr, h⟩ := h
        exact ⟨a, b, _, asI_den ha, asI_den hb, by rw [wrap_rng hr]; rfl, h⟩
    · exact h.elim

def posB' (a b : Int) : Bool :=
  match a, b with
  | .ofNat _, .ofNat (_ + 1) => true
  | _, _ => false
theorem posB'_ok {a b : Int} (h : posB' a b = true) : 0 ≤ a ∧ 0 < b := by
  unfold posB' at h
  split at h
  · refine ⟨?_, ?_⟩ <;> simp only [Int.ofNat_eq_natCast] <;> omega
  · cases h

def exDiv (q : Bool) (x y : SC) (k : SC → Prop) : Prop :=
  match lits x y with
  | some (a, b) =>
    match posB' a b, rngB a with
    | true, true => k (.il (match q with | true => a / b | false => a % b))
    | _, _ => False
  | none =>
    match asI x, asI y with
    | some a, some b => divC a b ∧ k (.int (match q with | true => idiv a b | false => imod a b))
    | _, _ => False
def divOf (q : Bool) (a b : Int) : Int := match q with | true => a / b | false => a % b
theorem div_fine {a b : Int} (h0 : 0 ≤ a) (h1 : a ≤ 9223372036854775807) (hb : 0 < b) : IntKind.i64.wrap (a.tdiv b) = a / b ∧ a.tmod b = a % b := by
  have e : a.tdiv b = a / b := Int.tdiv_eq_ediv_of_nonneg h0
  have e2 : a.tmod b = a % b := Int.tmod_eq_emod_of_nonneg h0
  refine ⟨?_, e2⟩
  rw [e, wrap_rng]
  have h2 : 0 ≤ a / b := Int.ediv_nonneg h0 (by omega)
  have h3 : a / b ≤ a := Int.ediv_le_self b h0
  exact ⟨by omega, by omega⟩
theorem exDiv_ok {q : Bool} {x y : SC} {k : SC → Prop} (h : exDiv q x y k) : ∃ a b v, x.den = .int .i64 a ∧ y.den = .int .i64 b ∧ b ≠ 0 ∧ IntKind.i64.wrap (a.tdiv b) = a / b ∧ a.tmod b = a % b ∧ v.den = .int .i64 (divOf q a b) ∧ k v := by
  unfold exDiv at h
  split at h
  · rename_i a b hl
    obtain ⟨rfl, rfl⟩ := lits_ok hl
    split at h
    · rename_i hp hr
      obtain ⟨h0, h1⟩ := posB'_ok hp
      obtain ⟨h2, h3⟩ := div_fine h0 (rngB_ok hr).2 h1
      exact ⟨a, b, _, rfl, rfl, by omega, h2, h3, rfl, h⟩
    · exact h.elim
  · split at h
    · rename_i a b ha hb
      obtain ⟨⟨h0, h1, h2⟩, h⟩ := h
      obtain ⟨h3, h4⟩ := div_fine h0 h1 h2
      exact ⟨a, b, _, asI_den ha, asI_den hb, by omega, h3, h4, rfl, h⟩
    · exact h.elim

/-- Equality of literals, by looking. -/
def ieqB (a b : Int) : Bool :=
  match a, b with
  | .ofNat m, .ofNat n => Nat.beq m n
  | .negSucc m, .negSucc n => Nat.beq m n
  | _, _ => false
theorem ieqB_ok (a b : Int) : ieqB a b = (a == b) := by
  cases a <;> cases b <;> simp only [ieqB]
  · rw [Bool.eq_iff_iff, Nat.beq_eq]; simp; omega
  · rw [Bool.eq_iff_iff]; simp
  · rw [Bool.eq_iff_iff]; simp
  · rw [Bool.eq_iff_iff, Nat.beq_eq]; simp
def iltB (a b : Int) : Bool :=
  match a, b with
  | .ofNat m, .ofNat n => Nat.blt m n
  | .negSucc m, .negSucc n => Nat.blt n m
  | .negSucc _, .ofNat _ => true
  | .ofNat _, .negSucc _ => false
theorem iltB_ok (a b : Int) : iltB a b = decide (a < b) := by
  cases a <;> cases b <;> simp only [iltB] <;> rw [Bool.eq_iff_iff] <;> simp [Nat.blt] <;> omega

def asB : SC → Option Bool
  | .lit b => some b
  | .bool b => some b
  | _ => none
theorem asB_den {x : SC} {b : Bool} (h : asB x = some b) : x.den = .bool b := by
  cases x <;> simp [asB] at h <;> subst h <;> rfl
def blits : SC → SC → Option (Bool × Bool)
  | .lit a, .lit b => some (a, b)
  | _, _ => none

inductive Cmp where
  | eq | ne | lt | le | gt | ge
def Cmp.f : Cmp → Int → Int → Bool
  | .eq => ieq
  | .ne => ine
  | .lt => ilt
  | .le => ile
  | .gt => igt
  | .ge => ige
def Cmp.l : Cmp → Int → Int → Bool
  | .eq => fun a b => ieqB a b
  | .ne => fun a b => !ieqB a b
  | .lt => fun a b => iltB a b
  | .le => fun a b => !iltB b a
  | .gt => fun a b => iltB b a
  | .ge => fun a b => !iltB a b
theorem Cmp.l_ok (c : Cmp) (a b : Int) : c.l a b = c.f a b := by
  cases c <;> simp only [Cmp.l, Cmp.f, ieqB_ok, iltB_ok]
  · rfl
  · rw [Bool.eq_iff_iff]; simp
  · rw [Bool.eq_iff_iff]; simp
def Cmp.op : Cmp → BinOp
  | .eq => .eql | .ne => .neq | .lt => .lss | .le => .leq | .gt => .gtr | .ge => .geq

def exCmp (P : Program) (t : TypeId) (c : Cmp) (x y : SC) (k : SC → Prop) : Prop :=
  match lits x y with
  | some (a, b) => k (.lit (c.l a b))
  | none =>
    match asI x, asI y with
    | some a, some b => k (.bool (c.f a b))
    | _, _ =>
      match asB x, asB y, P.underlying t with
      | some a, some b, some .bool =>
        match c with
        | .eq => k (.bool (beqb a b))
        | .ne => k (.bool (bneb a b))
        | _ => False
      | _, _, _ => False

theorem run_bool_eql {P : Program} {t : TypeId} (h : P.underlying t = some .bool) (a b : Bool) (w : World) : (Op.equal t (.bool a) (.bool b)).run P w = .ok (a == b) w := by
  unfold Op.equal
  rw [show Op.maxDepth = 9999 + 1 from rfl, Op.equalIn]
  simp [run_underlying h]

theorem exCmp_ok {P : Program} {t : TypeId} {c : Cmp} {x y : SC} {k : SC → Prop} (h : exCmp P t c x y k) :
    ∃ v, k v ∧ ∀ (w : World) (p q : Operand), (do eqGuard c.op t p q x.den y.den; binOp c.op t x.den y.den : Sem Value).run P w = .ok v.den w := by
  unfold exCmp at h
  split at h
  · rename_i a b hl
    obtain ⟨rfl, rfl⟩ := lits_ok hl
    refine ⟨_, h, fun w p q => ?_⟩
    simp only [SC.den, Cmp.l_ok]
    cases c <;> simp [Cmp.op, Cmp.f, eqGuard, binOp, Op.intCmp]
  · split at h
    · rename_i a b ha hb
      refine ⟨_, h, fun w p q => ?_⟩
      rw [asI_den ha, asI_den hb]
      cases c <;> simp [Cmp.op, Cmp.f, eqGuard, binOp, Op.intCmp, SC.den]
    · split at h
      · rename_i a b ha hb hu
        split at h
        · refine ⟨_, h, fun w p q => ?_⟩
          rw [asB_den ha, asB_den hb]
          simp [Cmp.op, eqGuard, binOp, run_bool_eql hu, SC.den]
        · refine ⟨_, h, fun w p q => ?_⟩
          rw [asB_den ha, asB_den hb]
          simp [Cmp.op, eqGuard, binOp, run_bool_eql hu, SC.den]
          cases a <;> cases b <;> rfl
        · exact h.elim
      · exact h.elim

def litN : SC → Option Nat
  | .il (.ofNat m) => some m
  | _ => none
theorem litN_den {x : SC} {m : Nat} (h : litN x = some m) : x.den = .int .i64 (m : Int) := by
  unfold litN at h
  split at h
  · injection h with h; subst h; rfl
  · cases h
def natOp (op : BinOp) (m n : Nat) : Option Nat :=
  match op with
  | .and => some (Nat.land m n)
  | .or => some (Nat.lor m n)
  | .xor => some (Nat.xor m n)
  | _ => none
theorem wraps_62 (n : Int) (h0 : 0 ≤ n) (h1 : n < 2 ^ 62) : IntKind.i64.wrap n = n := by rw [IntKind.wrap_i64]; omega
theorem natOp_ok {op : BinOp} {m n q : Nat} (h : natOp op m n = some q) (hm : m < 2 ^ 62) (hn : n < 2 ^ 62) : bits op .i64 (m : Int) (n : Int) = (q : Int) := by
  unfold natOp at h
  split at h
  · injection h with h; subst h; exact (bits_nat .i64 62 (by decide) wraps_62 m n hm hn).1
  · injection h with h; subst h; exact (bits_nat .i64 62 (by decide) wraps_62 m n hm hn).2
  · injection h with h
    subst h
    have ha' : m % 2 ^ IntKind.i64.bits = m := Nat.mod_eq_of_lt (by show m < 2 ^ 64; omega)
    have hb' : n % 2 ^ IntKind.i64.bits = n := Nat.mod_eq_of_lt (by show n < 2 ^ 64; omega)
    simp only [bits, BitVec.ofInt_natCast, BitVec.toNat_xor, BitVec.toNat_ofNat, ha', hb']
    have hx : Nat.xor m n < 2 ^ 62 := Nat.xor_lt_two_pow hm hn
    exact wraps_62 _ (Int.natCast_nonneg _) (by exact_mod_cast hx)
  · cases h
def exBits (op : BinOp) (x y : SC) (k : SC → Prop) : Prop :=
  match litN x, litN y with
  | some m, some n =>
    match Nat.blt m 4611686018427387904, Nat.blt n 4611686018427387904, natOp op m n with
    | true, true, some q => k (.il (.ofNat q))
    | _, _, _ => k (.int (bitsI op (.ofNat m) (.ofNat n)))
  | _, _ =>
    match asI x, asI y with
    | some a, some b => k (.int (bitsI op a b))
    | _, _ => False

def natOf : SC → Option Nat
  | .il (.ofNat m) => some m
  | .ul m => some m
  | _ => none
theorem natOf_den {y : SC} {m : Nat} (h : natOf y = some m) : ∃ q : IntKind, y.den = .int q (m : Int) := by
  unfold natOf at h
  split at h
  · injection h with h; subst h; exact ⟨.i64, rfl⟩
  · injection h with h; subst h; exact ⟨.u64, rfl⟩
  · cases h

abbrev shC (n : Int) : Prop := 0 ≤ n ∧ n ≤ 63
abbrev shrI (a n : Int) : Int := a / 2 ^ n.toNat
abbrev shlI (a n : Int) : Int := a * 2 ^ n.toNat
def anyI : SC → Option Int
  | .int n => some n
  | .u64 n => some n
  | _ => none
theorem anyI_den {y : SC} {n : Int} (h : anyI y = some n) : ∃ q : IntKind, y.den = .int q n := by
  cases y <;> simp [anyI] at h <;> subst h
  · exact ⟨.i64, rfl⟩
  · exact ⟨.u64, rfl⟩
def exShift (r : Bool) (x y : SC) (k : SC → Prop) : Prop :=
  match litN x, natOf y with
  | some a, some m =>
    match Nat.blt m 64, r with
    | true, true => k (.il (.ofNat (a / 2 ^ m)))
    | true, false =>
      match Nat.blt (a * 2 ^ m) 4611686018427387904 with
      | true => k (.il (.ofNat (a * 2 ^ m)))
      | false => False
    | false, _ => False
  | _, _ =>
    match asI x, natOf y with
    | some a, some m =>
      match Nat.blt m 64, r with
      | true, true => k (.int (idiv a (2 ^ m)))
      | true, false => rng (imul a (2 ^ m)) ∧ k (.int (imul a (2 ^ m)))
      | false, _ => False
    | some a, none =>
      match anyI y, r with
      | some n, true => shC n ∧ k (.int (shrI a n))
      | some n, false => shC n ∧ rng (shlI a n) ∧ k (.int (shlI a n))
      | none, _ => False
    | none, _ => False

def asU : SC → Option Int
  | .ul m => some (m : Int)
  | .u64 n => some n
  | _ => none
theorem asU_den {x : SC} {n : Int} (h : asU x = some n) : x.den = .int .u64 n := by
  cases x <;> simp [asU] at h <;> subst h <;> rfl
abbrev wrapU (n : Int) : Int := IntKind.u64.wrap n
abbrev bitsU (op : BinOp) (a b : Int) : Int := bits op .u64 a b
/-- Arithmetic of uint64, which wraps. -/
def exBinU (op : BinOp) (a : Int) (y : SC) (k : SC → Prop) : Prop :=
  match op with
  | .shr =>
    match natOf y with
    | some m => match Nat.blt m 64 with
      | true => ∀ z : Int, z = idiv a (2 ^ m) → k (.u64 z)
      | false => False
    | none => False
  | .add => match asU y with | some b => ∀ z : Int, z = wrapU (iadd a b) → k (.u64 z) | none => False
  | .and => match asU y with | some b => ∀ z : Int, z = bitsU .and a b → k (.u64 z) | none => False
  | .or => match asU y with | some b => ∀ z : Int, z = bitsU .or a b → k (.u64 z) | none => False
  | .xor => match asU y with | some b => ∀ z : Int, z = bitsU .xor a b → k (.u64 z) | none => False
  | _ => False
theorem exBinU_ok {P : Program} {op : BinOp} {t : TypeId} {a : Int} {y : SC} {k : SC → Prop} (h : exBinU op a y k) :
    ∃ v, k v ∧ ∀ (w : World) (p q : Operand), (do eqGuard op t p q (.int .u64 a) y.den; binOp op t (.int .u64 a) y.den : Sem Value).run P w = .ok v.den w := by
  unfold exBinU at h
  split at h
  · split at h
    · rename_i m hm
      split at h
      · rename_i hb
        obtain ⟨q0, hy⟩ := natOf_den hm
        refine ⟨_, h _ rfl, fun w p q => ?_⟩
        rw [hy]
        have hm' : m < 64 := by have := Nat.le_of_ble_eq_true hb; omega
        have e : min m 64 = m := by omega
        have e2 : a.fdiv (2 ^ m) = a / 2 ^ m := Int.fdiv_eq_ediv_of_nonneg _ (Int.le_of_lt (Int.pow_pos (by decide)))
        simp [eqGuard, binOp, Op.shift, IntKind.bits, e, e2, SC.den, show ¬ ((m : Int) < 0) by omega]
      · exact h.elim
    · exact h.elim
  · split at h
    · rename_i b hb
      exact ⟨_, h _ rfl, fun w p q => by rw [asU_den hb]; simp [eqGuard, binOp, Op.intArith, SC.den]⟩
    · exact h.elim
  · split at h
    · rename_i b hb
      exact ⟨_, h _ rfl, fun w p q => by rw [asU_den hb]; simp [eqGuard, binOp, Op.intBits, SC.den, bits]⟩
    · exact h.elim
  · split at h
    · rename_i b hb
      exact ⟨_, h _ rfl, fun w p q => by rw [asU_den hb]; simp [eqGuard, binOp, Op.intBits, SC.den, bits]⟩
    · exact h.elim
  · split at h
    · rename_i b hb
      exact ⟨_, h _ rfl, fun w p q => by rw [asU_den hb]; simp [eqGuard, binOp, Op.intBits, SC.den, bits]⟩
    · exact h.elim
  · exact h.elim

def exBinI (P : Program) (op : BinOp) (t : TypeId) (x y : SC) (k : SC → Prop) : Prop :=
  match op with
  | .add => exArith .add x y k
  | .sub => exArith .sub x y k
  | .mul => exArith .mul x y k
  | .quo => exDiv true x y k
  | .rem => exDiv false x y k
  | .eql => exCmp P t .eq x y k
  | .neq => exCmp P t .ne x y k
  | .lss => exCmp P t .lt x y k
  | .leq => exCmp P t .le x y k
  | .gtr => exCmp P t .gt x y k
  | .geq => exCmp P t .ge x y k
  | .and => exBits .and x y k
  | .or => exBits .or x y k
  | .xor => exBits .xor x y k
  | .shl => exShift false x y k
  | .shr => exShift true x y k
  | _ => False

theorem exBits_ok {op : BinOp} {x y : SC} {k : SC → Prop} (h : exBits op x y k) : ∃ a b v, x.den = .int .i64 a ∧ y.den = .int .i64 b ∧ v.den = .int .i64 (bits op .i64 a b) ∧ k v := by
  unfold exBits at h
  split at h
  · rename_i m n hm hn
    split at h
    · rename_i q h1 h2 h3
      have h1' := Nat.le_of_ble_eq_true h1
      have h2' := Nat.le_of_ble_eq_true h2
      refine ⟨m, n, _, litN_den hm, litN_den hn, ?_, h⟩
      rw [natOp_ok h3 (by omega) (by omega)]
      rfl
    · exact ⟨m, n, _, litN_den hm, litN_den hn, rfl, h⟩
  · split at h
    · rename_i a b ha hb; exact ⟨a, b, _, asI_den ha, asI_den hb, rfl, h⟩
    · exact h.elim
theorem exShift_ok {r : Bool} {x y : SC} {k : SC → Prop} (h : exShift r x y k) : ∃ (a : Int) (m : Nat) (v : SC), x.den = .int .i64 a ∧ (∃ q : IntKind, y.den = .int q (m : Int)) ∧ m < 64 ∧ (match r with | true => v.den = .int .i64 (a / 2 ^ m) | false => v.den = .int .i64 (IntKind.i64.wrap (a * 2 ^ m))) ∧ k v := by
  unfold exShift at h
  split at h
  · rename_i a m ha hy
    split at h
    · rename_i hm _
      exact ⟨a, m, _, litN_den ha, natOf_den hy, by have := Nat.le_of_ble_eq_true hm; omega, by simp [SC.den], h⟩
    · rename_i hm _
      split at h
      · rename_i hl
        have hl' := Nat.le_of_ble_eq_true hl
        refine ⟨a, m, _, litN_den ha, natOf_den hy, by have := Nat.le_of_ble_eq_true hm; omega, ?_, h⟩
        have e : ((a : Int) * 2 ^ m) = ((a * 2 ^ m : Nat) : Int) := by simp
        show Value.int .i64 ((a * 2 ^ m : Nat) : Int) = .int .i64 (IntKind.i64.wrap ((a : Int) * 2 ^ m))
        rw [e, wrap_rng (z := ((a * 2 ^ m : Nat) : Int)) ⟨by omega, by omega⟩]
      · exact h.elim
    · exact h.elim
  split at h
  · rename_i a m ha hy
    split at h
    · rename_i hm _
      exact ⟨a, m, _, asI_den ha, natOf_den hy, by have := Nat.le_of_ble_eq_true hm; omega, rfl, h⟩
    · rename_i hm _
      obtain ⟨hr, h⟩ := h
      exact ⟨a, m, _, asI_den ha, natOf_den hy, by have := Nat.le_of_ble_eq_true hm; omega, by simp only [wrap_rng hr]; rfl, h⟩
    · exact h.elim
  · rename_i a ha _
    split at h
    · rename_i n hn _
      obtain ⟨⟨h0, h1⟩, h⟩ := h
      obtain ⟨q, hq⟩ := anyI_den hn
      exact ⟨a, n.toNat, _, asI_den ha, ⟨q, by rw [hq, Int.toNat_of_nonneg h0]⟩, by omega, rfl, h⟩
    · rename_i n hn _
      obtain ⟨⟨h0, h1⟩, hr, h⟩ := h
      obtain ⟨q, hq⟩ := anyI_den hn
      exact ⟨a, n.toNat, _, asI_den ha, ⟨q, by rw [hq, Int.toNat_of_nonneg h0]⟩, by omega, by simp only [wrap_rng hr]; rfl, h⟩
    · exact h.elim
  · exact h.elim

theorem exBinI_ok {P : Program} {op : BinOp} {t : TypeId} {x y : SC} {k : SC → Prop} (h : exBinI P op t x y k) :
    ∃ v, k v ∧ ∀ (w : World) (p q : Operand), (do eqGuard op t p q x.den y.den; binOp op t x.den y.den : Sem Value).run P w = .ok v.den w := by
  unfold exBinI at h
  split at h
  · obtain ⟨a, b, v, h1, h2, h3, h⟩ := exArith_ok h
    exact ⟨v, h, fun w p q => by rw [h1, h2, h3]; simp [eqGuard, binOp, Op.intArith, Ar.f]⟩
  · obtain ⟨a, b, v, h1, h2, h3, h⟩ := exArith_ok h
    exact ⟨v, h, fun w p q => by rw [h1, h2, h3]; simp [eqGuard, binOp, Op.intArith, Ar.f]⟩
  · obtain ⟨a, b, v, h1, h2, h3, h⟩ := exArith_ok h
    exact ⟨v, h, fun w p q => by rw [h1, h2, h3]; simp [eqGuard, binOp, Op.intArith, Ar.f]⟩
  · obtain ⟨a, b, v, h1, h2, hb, h3, h4, h5, h⟩ := exDiv_ok h
    exact ⟨v, h, fun w p q => by rw [h1, h2, h5]; simp [eqGuard, binOp, Op.intDiv, hb, h3, divOf]⟩
  · obtain ⟨a, b, v, h1, h2, hb, h3, h4, h5, h⟩ := exDiv_ok h
    exact ⟨v, h, fun w p q => by rw [h1, h2, h5]; simp [eqGuard, binOp, Op.intDiv, hb, h4, divOf]⟩
  · exact exCmp_ok h
  · exact exCmp_ok h
  · exact exCmp_ok h
  · exact exCmp_ok h
  · exact exCmp_ok h
  · exact exCmp_ok h
  · obtain ⟨a, b, v, h1, h2, h3, h⟩ := exBits_ok h
    exact ⟨v, h, fun w p q => by rw [h1, h2, h3]; simp [eqGuard, binOp, Op.intBits, SC.den, bits]⟩
  · obtain ⟨a, b, v, h1, h2, h3, h⟩ := exBits_ok h
    exact ⟨v, h, fun w p q => by rw [h1, h2, h3]; simp [eqGuard, binOp, Op.intBits, SC.den, bits]⟩
  · obtain ⟨a, b, v, h1, h2, h3, h⟩ := exBits_ok h
    exact ⟨v, h, fun w p q => by rw [h1, h2, h3]; simp [eqGuard, binOp, Op.intBits, SC.den, bits]⟩
  · obtain ⟨a, m, v, h1, ⟨q0, h2⟩, hm, h3, h⟩ := exShift_ok h
    refine ⟨v, h, fun w p q => ?_⟩
    rw [h1, h2, h3]
    have e : min m 64 = m := by omega
    simp [eqGuard, binOp, Op.shift, IntKind.bits, e, show ¬ ((m : Int) < 0) by omega]
  · obtain ⟨a, m, v, h1, ⟨q0, h2⟩, hm, h3, h⟩ := exShift_ok h
    refine ⟨v, h, fun w p q => ?_⟩
    rw [h1, h2, h3]
    have e : min m 64 = m := by omega
    have e2 : a.fdiv (2 ^ m) = a / 2 ^ m := Int.fdiv_eq_ediv_of_nonneg _ (Int.le_of_lt (Int.pow_pos (by decide)))
    simp [eqGuard, binOp, Op.shift, IntKind.bits, e, e2, show ¬ ((m : Int) < 0) by omega]
  · exact h.elim

/-- A literal slice against nil. -/
def nilCmp (op : BinOp) (x y : SC) : Option Bool :=
  match op, x, y with
  | .eql, .slc _ _ _ _, .nil => some false
  | .neq, .slc _ _ _ _, .nil => some true
  | .eql, .nil, .nil => some true
  | .neq, .nil, .nil => some false
  | _, _, _ => none
theorem run_eql_slice_nil' {P : Program} {t e : TypeId} (h : P.underlying t = some (.slice e)) (w : World) (a : Option Addr) (n c : Nat) : (binOp .eql t (.slice a n c) (.slice none 0 0)).run P w = .ok (.bool a.isNone) w := by
  simp only [binOp]
  simp [run_equal_slice_nil w t e a n c h]
theorem nilCmp_ok {P : Program} {op : BinOp} {t e : TypeId} {x y : SC} {b : Bool} (h : nilCmp op x y = some b) (he : P.underlying t = some (.slice e)) (w : World) (p q : Operand) : (do eqGuard op t p q x.den y.den; binOp op t x.den y.den : Sem Value).run P w = .ok (.bool b) w := by
  unfold nilCmp at h
  split at h
  · injection h with h; subst h; simp [eqGuard, SC.den, run_eql_slice_nil' he]
  · injection h with h; subst h; simp [eqGuard, SC.den, run_neq_slice_nil w t e _ _ _ he]
  · injection h with h; subst h; simp [eqGuard, SC.den, run_eql_slice_nil' he]
  · injection h with h; subst h; simp [eqGuard, SC.den, run_neq_slice_nil w t e _ _ _ he]
  · cases h
def exBin (P : Program) (op : BinOp) (t : TypeId) (x y : SC) (k : SC → Prop) : Prop :=
  match nilCmp op x y, elemOf' P t with
  | some b, some _ => k (.lit b)
  | _, _ =>
    match asU x with
    | some a => exBinU op a y k
    | none => exBinI P op t x y k
theorem exBin_ok {P : Program} {op : BinOp} {t : TypeId} {x y : SC} {k : SC → Prop} (h : exBin P op t x y k) :
    ∃ v, k v ∧ ∀ (w : World) (p q : Operand), (do eqGuard op t p q x.den y.den; binOp op t x.den y.den : Sem Value).run P w = .ok v.den w := by
  unfold exBin at h
  split at h
  · rename_i b e hn he
    exact ⟨_, h, fun w p q => nilCmp_ok hn (elemOf_ok he) w p q⟩
  · split at h
    · rename_i a ha
      rw [asU_den ha]
      exact exBinU_ok h
    · exact exBinI_ok h

def exUn (op : UnOp) (x : SC) (k : SC → Prop) : Prop :=
  match op with
  | .not =>
    match x with
    | .lit b => k (.lit (!b))
    | .bool b => k (.bool (bnot b))
    | _ => False
  | .neg => exArith .sub (.il 0) x k
  | _ => False
theorem exUn_ok {op : UnOp} {x : SC} {k : SC → Prop} (h : exUn op x k) : ∃ v, k v ∧ ∀ (P : Program) (w : World), (Op.unary op x.den).run P w = .ok v.den w := by
  unfold exUn at h
  split at h
  · split at h
    · exact ⟨_, h, fun P w => rfl⟩
    · exact ⟨_, h, fun P w => rfl⟩
    · exact h.elim
  · obtain ⟨a, b, v, h1, h2, h3, h⟩ := exArith_ok h
    have ha : a = 0 := by injection h1 with _ h1; exact h1.symm
    subst ha
    exact ⟨v, h, fun P w => by rw [h2, h3]; simp [Op.unary, Op.intArith, Ar.f]⟩
  · exact h.elim

def exConv (P : Program) (src dst : TypeId) (x : SC) (k : SC → Prop) : Prop :=
  match P.underlying src, P.underlying dst with
  | some _, some (.int .i64) =>
    match x with
    | .il n => match rngB n with | true => k (.il n) | false => False
    | .int n => rng n ∧ k (.int n)
    | .u8 n => rng n ∧ k (.int n)
    | .u64 n => k (.int (wrapI n))
    | _ => False
  | some _, some (.int .u64) =>
    match x with
    | .il (.ofNat m) => match Nat.ble m 9223372036854775807 with | true => k (.ul m) | false => False
    | .ul m => match Nat.ble m 9223372036854775807 with | true => k (.ul m) | false => False
    | .int n => k (.u64 (wrapU n))
    | .u64 n => k (.u64 (wrapU n))
    | _ => False
  | some _, some (.int .u8) =>
    match asI x with
    | some n => byteC n ∧ k (.u8 n)
    | none => False
  | _, _ => False
theorem exConv_ok {P : Program} {src dst : TypeId} {x : SC} {k : SC → Prop} (h : exConv P src dst x k) : ∃ v, k v ∧ ∀ (w : World), (convert src dst x.den).run P w = .ok v.den w := by
  unfold exConv at h
  split at h
  · rename_i d hs hd
    split at h
    · split at h
      · rename_i n hn
        exact ⟨_, h, fun w => by simp [convert, run_underlying hs, run_underlying hd, SC.den, Conv.intToInt, wrap_rng (rngB_ok hn)]⟩
      · exact h.elim
    · obtain ⟨hr, h⟩ := h
      exact ⟨_, h, fun w => by simp [convert, run_underlying hs, run_underlying hd, SC.den, Conv.intToInt, wrap_rng hr]⟩
    · obtain ⟨hr, h⟩ := h
      exact ⟨_, h, fun w => by simp [convert, run_underlying hs, run_underlying hd, SC.den, Conv.intToInt, wrap_rng hr]⟩
    · exact ⟨_, h, fun w => by simp [convert, run_underlying hs, run_underlying hd, SC.den, Conv.intToInt]⟩
    · exact h.elim
  · rename_i d hs hd
    have wu : ∀ m : Nat, m ≤ 9223372036854775807 → IntKind.u64.wrap (m : Int) = m := fun m hm => by
      simp [IntKind.wrap, IntKind.bits, IntKind.signed]; omega
    split at h
    · rename_i m
      split at h
      · rename_i hm
        have hw := wu m (Nat.le_of_ble_eq_true hm)
        exact ⟨_, h, fun w => by simp [convert, run_underlying hs, run_underlying hd, SC.den, Conv.intToInt, hw]⟩
      · exact h.elim
    · rename_i m
      split at h
      · rename_i hm
        have hw := wu m (Nat.le_of_ble_eq_true hm)
        exact ⟨_, h, fun w => by simp [convert, run_underlying hs, run_underlying hd, SC.den, Conv.intToInt, hw]⟩
      · exact h.elim
    · exact ⟨_, h, fun w => by simp [convert, run_underlying hs, run_underlying hd, SC.den, Conv.intToInt]⟩
    · exact ⟨_, h, fun w => by simp [convert, run_underlying hs, run_underlying hd, SC.den, Conv.intToInt]⟩
    · exact h.elim
  · rename_i d hs hd
    split at h
    · rename_i n hn
      obtain ⟨hr, h⟩ := h
      refine ⟨_, h, fun w => ?_⟩
      rw [asI_den hn]
      have : IntKind.u8.wrap n = n := by simp [IntKind.wrap, IntKind.bits, IntKind.signed]; omega
      simp [convert, run_underlying hs, run_underlying hd, SC.den, Conv.intToInt, this]
    · exact h.elim
  · exact h.elim
end Go.Proofs.Ytmgjmglmjfjliab
