/-
  What a run of the link computes.
-/
import Derived.Test.YtkfinkolllpcgaaSxSnd3
namespace Go.Proofs.Ytkfinkolllpcgaa
set_option linter.unusedVariables false
set_option linter.unusedSimpArgs false
open Go.RowKit
set_option maxRecDepth 100000
set_option maxHeartbeats 8000000

structure LkD where
  nx : Int
  cnt : Int
  rn : Nat
  (c0 c1 c2 c3 : Nat → Int)
def lkX (fN : Nat) (f : Nat → Int) (nx : Int) : Int := selZ (sndB fN f nx) (iadd nx 1) nx
def lkW (fN : Nat) (f : Nat → Int) (m : Nat) (q : Nat → Int) (j : Nat) (nx : Int) : Int := if j < m then bits .xor .i64 (sndV fN f nx) (q j) else sndV fN f nx
def lkO (fN : Nat) (f : Nat → Int) (m : Nat) (q : Nat → Int) (j : Nat) (s : LkD) : Bool := rcvB s.cnt (lkW fN f m q j s.nx)
def lkB (fN : Nat) (f : Nat → Int) (x : Int) (nx : Int) (s : LkD) : LkD := ⟨nx, rcvZ (rcvB s.cnt x) s.cnt, rcvN (rcvB s.cnt x) s.rn, rcv0 s.rn s.c0 x, rcv1 s.rn s.c1 x, rcv2 s.rn s.c2 x, rcv3 s.rn s.c3 x⟩
def lkT (fN : Nat) (f : Nat → Int) (x : Int) (s : LkD) : LkD := lkB fN f x (lkX fN f s.nx) s
def lkF (fN : Nat) (f : Nat → Int) (x : Int) (s : LkD) : LkD := lkB fN f x (selZ (btw (rcvZ (rcvB s.cnt x) s.cnt) 0 (lkX fN f s.nx)) (rcvZ (rcvB s.cnt x) s.cnt) (lkX fN f s.nx)) s
def lkStep (fN : Nat) (f : Nat → Int) (m : Nat) (q : Nat → Int) (j : Nat) (s : LkD) : LkD := if lkO fN f m q j s = true then lkT fN f (lkW fN f m q j s.nx) s else lkF fN f (lkW fN f m q j s.nx) s
def lkGo (fN : Nat) (f : Nat → Int) (m : Nat) (q : Nat → Int) : Nat → Nat → LkD → Nat × LkD
  | 0, j, s => (j, s)
  | k + 1, j, s => if sndB fN f s.nx = true then lkGo fN f m q k (j + 1) (lkStep fN f m q j s) else (j, s)
def lk0 : LkD := ⟨0, 0, 0, fun _ => 0, fun _ => 0, fun _ => 0, fun _ => 0⟩
def lkEnd (fN : Nat) (f : Nat → Int) (m : Nat) (q : Nat → Int) : Nat × LkD := lkGo fN f m q 300 0 lk0
def lkN (fN : Nat) (f : Nat → Int) (m : Nat) (q : Nat → Int) : Nat := (lkEnd fN f m q).1
def lkS (fN : Nat) (f : Nat → Int) (m : Nat) (q : Nat → Int) : LkD := (lkEnd fN f m q).2
def nzB (b : Bool) (q : Nat → Int) (j : Nat) : Bool := b && allB j (fun i => btw (q i) 0 2097151)
/-- What holds of the state after j words. -/
structure LkI (fN : Nat) (j : Nat) (s : LkD) : Prop where
  cnt : s.cnt = s.rn
  rn : s.rn ≤ j
  nx : 0 ≤ s.nx ∧ s.nx ≤ fN
theorem LkI.zero (fN : Nat) : LkI fN 0 lk0 := ⟨rfl, Nat.le_refl _, by simp [lk0]⟩
theorem lkX_in {fN : Nat} {f : Nat → Int} {nx : Int} (h : 0 ≤ nx ∧ nx ≤ fN) : 0 ≤ lkX fN f nx ∧ lkX fN f nx ≤ fN := by
  unfold lkX selZ
  split
  · rename_i hs
    simp only [sndB, Bool.and_eq_true] at hs
    have := btw_facts' hs.1
    simp only [iadd]
    omega
  · exact h
theorem inW (c : Int) (h : 0 ≤ c ∧ c ≤ 400) : incW c = c + 1 := wrap_rng (show rng (c + 1) from ⟨by omega, by omega⟩)
theorem lkB_in {fN : Nat} {f : Nat → Int} {j : Nat} {s : LkD} {x nx : Int} (h : LkI fN j s) (hj : j ≤ 300) (hn : 0 ≤ nx ∧ nx ≤ fN) : LkI fN (j + 1) (lkB fN f x nx s) := by
  have h1 := h.cnt; have h2 := h.rn
  have h3 := inW s.cnt (by omega)
  refine ⟨?_, ?_, hn⟩ <;> simp only [lkB, rcvZ, rcvN] <;> split <;> omega
theorem lkT_in {fN : Nat} {f : Nat → Int} {j : Nat} {s : LkD} {x : Int} (h : LkI fN j s) (hj : j ≤ 300) : LkI fN (j + 1) (lkT fN f x s) := lkB_in h hj (lkX_in h.nx)
theorem lkF_in {fN : Nat} {f : Nat → Int} {j : Nat} {s : LkD} {x : Int} (h : LkI fN j s) (hj : j ≤ 300) : LkI fN (j + 1) (lkF fN f x s) := by
  have hx := lkX_in (f := f) h.nx
  refine lkB_in h hj ?_
  unfold selZ
  split
  · rename_i hb
    have := btw_facts' hb
    omega
  · exact hx
theorem bits_rng (op : BinOp) (a b : Int) (h : op = .xor) : -9223372036854775808 ≤ bits op .i64 a b ∧ bits op .i64 a b ≤ 9223372036854775807 := by
  subst h
  have : bits .xor .i64 a b = IntKind.i64.wrap (((BitVec.ofInt 64 a) ^^^ (BitVec.ofInt 64 b)).toNat : Int) := rfl
  rw [this, IntKind.wrap_i64]
  omega
theorem sndV_in (fN : Nat) (f : Nat → Int) (nx : Int) : 0 ≤ sndV fN f nx ∧ sndV fN f nx ≤ 2097151 := by
  unfold sndV
  split
  · rename_i h
    simp only [sndB, Bool.and_eq_true] at h
    have h1 := btw_facts' h.1
    have h2 := btw_facts' h.2
    omega
  · omega
theorem lkGo_more {fN : Nat} {f : Nat → Int} {m : Nat} {q : Nat → Int} {j : Nat} {s : LkD} (hj : j < 300) (h : sndB fN f s.nx = true) : lkGo fN f m q (300 - j) j s = lkGo fN f m q (300 - (j + 1)) (j + 1) (lkStep fN f m q j s) := by
  have e : 300 - j = (300 - (j + 1)) + 1 := by omega
  rw [e, lkGo, if_pos h]
theorem lkGo_stop {fN : Nat} {f : Nat → Int} {m : Nat} {q : Nat → Int} {k j : Nat} {s : LkD} (h : sndB fN f s.nx = false) : lkGo fN f m q k j s = (j, s) := by
  cases k with
  | zero => rfl
  | succ k => rw [lkGo, if_neg (by simp [h])]
end Go.Proofs.Ytkfinkolllpcgaa
