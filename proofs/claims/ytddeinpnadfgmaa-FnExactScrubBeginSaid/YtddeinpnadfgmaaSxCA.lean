/-
  One of several loops has a summary. Syndromes. Words encoded. Words of a line. Symbols and data. Words corrected. Lines decoded.
-/
import Derived.Test.YtddeinpnadfgmaaSxLit
import Derived.Test.YtddeinpnadfgmaaSxC1
import Derived.Test.YtddeinpnadfgmaaSxFA
import Derived.Test.YtddeinpnadfgmaaSxA0
namespace Go.Proofs.Ytddeinpnadfgmaa
set_option linter.unusedVariables false
set_option linter.unusedSimpArgs false
open Go.RowKit
set_option maxRecDepth 100000
set_option maxHeartbeats 8000000

theorem key_loop {P : Program} {X : Cx} {fn : Func} {ks : List Nat} {S : LSm} (i k : Nat) (hl : (loopsF fn).map firstReg = ks) (hnd : ks.Nodup) (hk : ks[i]? = some k) (h : LoopOK P X (theLoop fn i) S) :
    ∀ c, fn.body = some c → LoopsOK P X [(k, S)] c := by
  intro c hc
  refine loopsOK_of c fun b hb T hT => ?_
  have e : loopsF fn = loopsIn c := by simp [loopsF, hc]
  rw [← e] at hb
  obtain ⟨j, hj⟩ := List.getElem?_of_mem hb
  simp only [lookL] at hT
  split at hT
  · rename_i hb2
    have hkb := Nat.eq_of_beq_eq_true hb2
    injection hT with hT
    subst hT
    have h1 : ks[j]? = some k := by rw [← hl, List.getElem?_map, hj]; simp [hkb]
    have hij : j = i := by
      obtain ⟨p1, p2⟩ := List.getElem?_eq_some_iff.1 h1
      obtain ⟨q1, q2⟩ := List.getElem?_eq_some_iff.1 hk
      exact (List.getElem_inj hnd).1 (p2.trans q2.symm)
    subst hij
    have ht : theLoop fn j = b := by simp [theLoop, hj]
    rw [← ht]
    exact h
  · cases hT

theorem symB_el {n : Nat} {g : Nat → Int} {m : Int} (h : symB n g m = true) : ∀ i, i < n → el (g i) := fun i hi => by
  simp only [symB, Bool.and_eq_true] at h
  have := allB_get h.1 hi
  exact btw_f this
theorem synI_T (ao : Option Addr) (c : Nat) (f : Nat → Int) : (exFn Try.prog {tb := [(68, sSym), (133, sPow), (126, sMul)], L := [(8, relit Try.prog {tb := [(133, sPow), (126, sMul)]} 400 12 (theLoop Try.f124 1) 17 (.il 11))]} 400 Try.f124 ([.a (.c (.sl 0 ao 11 c))]) ([.row ⟨false, ao, 0, 1, 11, 0, [fun i => .int (f i)]⟩]) (fun v ch => ∃ b : Nat, v.den = .slice (some ⟨b, 0, none⟩) 3 3 ∧ SelS ch (idSlc v) [.cells b 3 [.int (syn f 0), .int (syn f 1), .int (syn f 2)]])) = (
  (∃ g00 : (Nat →
 Int), ((ao = ao ∧
 (11 = 11 ∧
 [(fun i1 => (Ci (f i1)))] = [(fun i2 => (Ci (g00 i2)))])) ∧
 ((lenC 11) ∧
 (((!(symB 11 g00 (11 : Int))) = true →
 (∃ b3 : Nat, (Wn = (Ws (Ad b3 0) 3 3) ∧
 (SelS [(Hr false ao 0 1 11 0 [(fun i4 => (Ci (f i4)))])] [] [(Hc b3 3 [(Ci (syn f 0)), (Ci (syn f 1)), (Ci (syn f 2))])])))) ∧
 ((!(symB 11 g00 (11 : Int))) = false →
 (∀ b5 : Nat,
 ((Wi 11) = (Wi 11) ∧
 (ao = ao ∧
 (11 = 11 ∧
 ((0 ≤ (0 : Int) ∧ (0 : Int) < ((11 : Nat) : Int)) ∧
 (ao = ao ∧
 (0 < 11 ∧
 (b5 = b5 ∧
 (True ∧
 (((el (f 0)) ∧
 (el (1 : Int))) ∧
 (∀ z6 : Int,
 (z6 = (gfM (f 0) (1 : Int)) →
 (True ∧
 (b5 = b5 ∧
 (True ∧
 (ao = ao ∧
 (11 = 11 ∧
 ((0 ≤ (1 : Int) ∧ (1 : Int) < ((11 : Nat) : Int)) ∧
 (ao = ao ∧
 (1 < 11 ∧
 (b5 = b5 ∧
 (True ∧
 (((el (f 1)) ∧
 (el (1 : Int))) ∧
 (∀ z7 : Int,
 (z7 = (gfM (f 1) (1 : Int)) →
 (True ∧
 (b5 = b5 ∧
 (True ∧
 (ao = ao ∧
 (11 = 11 ∧
 ((0 ≤ (2 : Int) ∧ (2 : Int) < ((11 : Nat) : Int)) ∧
 (ao = ao ∧
 (2 < 11 ∧
 (b5 = b5 ∧
 (True ∧
 (((el (f 2)) ∧
 (el (1 : Int))) ∧
 (∀ z8 : Int,
 (z8 = (gfM (f 2) (1 : Int)) →
 (True ∧
 (b5 = b5 ∧
 (True ∧
 (ao = ao ∧
 (11 = 11 ∧
 ((0 ≤ (3 : Int) ∧ (3 : Int) < ((11 : Nat) : Int)) ∧
 (ao = ao ∧
 (3 < 11 ∧
 (b5 = b5 ∧
 (True ∧
 (((el (f 3)) ∧
 (el (1 : Int))) ∧
 (∀ z9 : Int,
 (z9 = (gfM (f 3) (1 : Int)) →
 (True ∧
 (b5 = b5 ∧
 (True ∧
 (ao = ao ∧
 (11 = 11 ∧
 ((0 ≤ (4 : Int) ∧ (4 : Int) < ((11 : Nat) : Int)) ∧
 (ao = ao ∧
 (4 < 11 ∧
 (b5 = b5 ∧
 (True ∧
 (((el (f 4)) ∧
 (el (1 : Int))) ∧
 (∀ z10 : Int,
 (z10 = (gfM (f 4) (1 : Int)) →
 (True ∧
 (b5 = b5 ∧
 (True ∧
 (ao = ao ∧
 (11 = 11 ∧
 ((0 ≤ (5 : Int) ∧ (5 : Int) < ((11 : Nat) : Int)) ∧
 (ao = ao ∧
 (5 < 11 ∧
 (b5 = b5 ∧
 (True ∧
 (((el (f 5)) ∧
 (el (1 : Int))) ∧
 (∀ z11 : Int,
 (z11 = (gfM (f 5) (1 : Int)) →
 (True ∧
 (b5 = b5 ∧
 (True ∧
 (ao = ao ∧
 (11 = 11 ∧
 ((0 ≤ (6 : Int) ∧ (6 : Int) < ((11 : Nat) : Int)) ∧
 (ao = ao ∧
 (6 < 11 ∧
 (b5 = b5 ∧
 (True ∧
 (((el (f 6)) ∧
 (el (1 : Int))) ∧
 (∀ z12 : Int,
 (z12 = (gfM (f 6) (1 : Int)) →
 (True ∧
 (b5 = b5 ∧
 (True ∧
 (ao = ao ∧
 (11 = 11 ∧
 ((0 ≤ (7 : Int) ∧ (7 : Int) < ((11 : Nat) : Int)) ∧
 (ao = ao ∧
 (7 < 11 ∧
 (b5 = b5 ∧
 (True ∧
 (((el (f 7)) ∧
 (el (1 : Int))) ∧
 (∀ z13 : Int,
 (z13 = (gfM (f 7) (1 : Int)) →
 (True ∧
 (b5 = b5 ∧
 (True ∧
 (ao = ao ∧
 (11 = 11 ∧
 ((0 ≤ (8 : Int) ∧ (8 : Int) < ((11 : Nat) : Int)) ∧
 (ao = ao ∧
 (8 < 11 ∧
 (b5 = b5 ∧
 (True ∧
 (((el (f 8)) ∧
 (el (1 : Int))) ∧
 (∀ z14 : Int,
 (z14 = (gfM (f 8) (1 : Int)) →
 (True ∧
 (b5 = b5 ∧
 (True ∧
 (ao = ao ∧
 (11 = 11 ∧
 ((0 ≤ (9 : Int) ∧ (9 : Int) < ((11 : Nat) : Int)) ∧
 (ao = ao ∧
 (9 < 11 ∧
 (b5 = b5 ∧
 (True ∧
 (((el (f 9)) ∧
 (el (1 : Int))) ∧
 (∀ z15 : Int,
 (z15 = (gfM (f 9) (1 : Int)) →
 (True ∧
 (b5 = b5 ∧
 (True ∧
 (ao = ao ∧
 (11 = 11 ∧
 ((0 ≤ (10 : Int) ∧ (10 : Int) < ((11 : Nat) : Int)) ∧
 (ao = ao ∧
 (10 < 11 ∧
 (b5 = b5 ∧
 (True ∧
 (((el (f 10)) ∧
 (el (1 : Int))) ∧
 (∀ z16 : Int,
 (z16 = (gfM (f 10) (1 : Int)) →
 (True ∧
 (b5 = b5 ∧
 (True ∧
 ((Wi 11) = (Wi 11) ∧
 (ao = ao ∧
 (11 = 11 ∧
 ((0 ≤ (0 : Int) ∧ (0 : Int) < ((11 : Nat) : Int)) ∧
 (ao = ao ∧
 (0 < 11 ∧
 (b5 = b5 ∧
 (True ∧
 (((el (f 0)) ∧
 (el (1 : Int))) ∧
 (∀ z17 : Int,
 (z17 = (gfM (f 0) (1 : Int)) →
 (True ∧
 (b5 = b5 ∧
 (True ∧
 (ao = ao ∧
 (11 = 11 ∧
 ((0 ≤ (1 : Int) ∧ (1 : Int) < ((11 : Nat) : Int)) ∧
 (ao = ao ∧
 (1 < 11 ∧
 (b5 = b5 ∧
 (True ∧
 (((el (f 1)) ∧
 (el (2 : Int))) ∧
 (∀ z18 : Int,
 (z18 = (gfM (f 1) (2 : Int)) →
 (True ∧
 (b5 = b5 ∧
 (True ∧
 (ao = ao ∧
 (11 = 11 ∧
 ((0 ≤ (2 : Int) ∧ (2 : Int) < ((11 : Nat) : Int)) ∧
 (ao = ao ∧
 (2 < 11 ∧
 (b5 = b5 ∧
 (True ∧
 (((el (f 2)) ∧
 (el (4 : Int))) ∧
 (∀ z19 : Int,
 (z19 = (gfM (f 2) (4 : Int)) →
 (True ∧
 (b5 = b5 ∧
 (True ∧
 (ao = ao ∧
 (11 = 11 ∧
 ((0 ≤ (3 : Int) ∧ (3 : Int) < ((11 : Nat) : Int)) ∧
 (ao = ao ∧
 (3 < 11 ∧
 (b5 = b5 ∧
 (True ∧
 (((el (f 3)) ∧
 (el (8 : Int))) ∧
 (∀ z20 : Int,
 (z20 = (gfM (f 3) (8 : Int)) →
 (True ∧
 (b5 = b5 ∧
 (True ∧
 (ao = ao ∧
 (11 = 11 ∧
 ((0 ≤ (4 : Int) ∧ (4 : Int) < ((11 : Nat) : Int)) ∧
 (ao = ao ∧
 (4 < 11 ∧
 (b5 = b5 ∧
 (True ∧
 (((el (f 4)) ∧
 (el (3 : Int))) ∧
 (∀ z21 : Int,
 (z21 = (gfM (f 4) (3 : Int)) →
 (True ∧
 (b5 = b5 ∧
 (True ∧
 (ao = ao ∧
 (11 = 11 ∧
 ((0 ≤ (5 : Int) ∧ (5 : Int) < ((11 : Nat) : Int)) ∧
 (ao = ao ∧
 (5 < 11 ∧
 (b5 = b5 ∧
 (True ∧
 (((el (f 5)) ∧
 (el (6 : Int))) ∧
 (∀ z22 : Int,
 (z22 = (gfM (f 5) (6 : Int)) →
 (True ∧
 (b5 = b5 ∧
 (True ∧
 (ao = ao ∧
 (11 = 11 ∧
 ((0 ≤ (6 : Int) ∧ (6 : Int) < ((11 : Nat) : Int)) ∧
 (ao = ao ∧
 (6 < 11 ∧
 (b5 = b5 ∧
 (True ∧
 (((el (f 6)) ∧
 (el (12 : Int))) ∧
 (∀ z23 : Int,
 (z23 = (gfM (f 6) (12 : Int)) →
 (True ∧
 (b5 = b5 ∧
 (True ∧
 (ao = ao ∧
 (11 = 11 ∧
 ((0 ≤ (7 : Int) ∧ (7 : Int) < ((11 : Nat) : Int)) ∧
 (ao = ao ∧
 (7 < 11 ∧
 (b5 = b5 ∧
 (True ∧
 (((el (f 7)) ∧
 (el (11 : Int))) ∧
 (∀ z24 : Int,
 (z24 = (gfM (f 7) (11 : Int)) →
 (True ∧
 (b5 = b5 ∧
 (True ∧
 (ao = ao ∧
 (11 = 11 ∧
 ((0 ≤ (8 : Int) ∧ (8 : Int) < ((11 : Nat) : Int)) ∧
 (ao = ao ∧
 (8 < 11 ∧
 (b5 = b5 ∧
 (True ∧
 (((el (f 8)) ∧
 (el (5 : Int))) ∧
 (∀ z25 : Int,
 (z25 = (gfM (f 8) (5 : Int)) →
 (True ∧
 (b5 = b5 ∧
 (True ∧
 (ao = ao ∧
 (11 = 11 ∧
 ((0 ≤ (9 : Int) ∧ (9 : Int) < ((11 : Nat) : Int)) ∧
 (ao = ao ∧
 (9 < 11 ∧
 (b5 = b5 ∧
 (True ∧
 (((el (f 9)) ∧
 (el (10 : Int))) ∧
 (∀ z26 : Int,
 (z26 = (gfM (f 9) (10 : Int)) →
 (True ∧
 (b5 = b5 ∧
 (True ∧
 (ao = ao ∧
 (11 = 11 ∧
 ((0 ≤ (10 : Int) ∧ (10 : Int) < ((11 : Nat) : Int)) ∧
 (ao = ao ∧
 (10 < 11 ∧
 (b5 = b5 ∧
 (True ∧
 (((el (f 10)) ∧
 (el (7 : Int))) ∧
 (∀ z27 : Int,
 (z27 = (gfM (f 10) (7 : Int)) →
 (True ∧
 (b5 = b5 ∧
 (True ∧
 ((Wi 11) = (Wi 11) ∧
 (ao = ao ∧
 (11 = 11 ∧
 ((0 ≤ (0 : Int) ∧ (0 : Int) < ((11 : Nat) : Int)) ∧
 (ao = ao ∧
 (0 < 11 ∧
 (b5 = b5 ∧
 (True ∧
 (((el (f 0)) ∧
 (el (1 : Int))) ∧
 (∀ z28 : Int,
 (z28 = (gfM (f 0) (1 : Int)) →
 (True ∧
 (b5 = b5 ∧
 (True ∧
 (ao = ao ∧
 (11 = 11 ∧
 ((0 ≤ (1 : Int) ∧ (1 : Int) < ((11 : Nat) : Int)) ∧
 (ao = ao ∧
 (1 < 11 ∧
 (b5 = b5 ∧
 (True ∧
 (((el (f 1)) ∧
 (el (4 : Int))) ∧
 (∀ z29 : Int,
 (z29 = (gfM (f 1) (4 : Int)) →
 (True ∧
 (b5 = b5 ∧
 (True ∧
 (ao = ao ∧
 (11 = 11 ∧
 ((0 ≤ (2 : Int) ∧ (2 : Int) < ((11 : Nat) : Int)) ∧
 (ao = ao ∧
 (2 < 11 ∧
 (b5 = b5 ∧
 (True ∧
 (((el (f 2)) ∧
 (el (3 : Int))) ∧
 (∀ z30 : Int,
 (z30 = (gfM (f 2) (3 : Int)) →
 (True ∧
 (b5 = b5 ∧
 (True ∧
 (ao = ao ∧
 (11 = 11 ∧
 ((0 ≤ (3 : Int) ∧ (3 : Int) < ((11 : Nat) : Int)) ∧
 (ao = ao ∧
 (3 < 11 ∧
 (b5 = b5 ∧
 (True ∧
 (((el (f 3)) ∧
 (el (12 : Int))) ∧
 (∀ z31 : Int,
 (z31 = (gfM (f 3) (12 : Int)) →
 (True ∧
 (b5 = b5 ∧
 (True ∧
 (ao = ao ∧
 (11 = 11 ∧
 ((0 ≤ (4 : Int) ∧ (4 : Int) < ((11 : Nat) : Int)) ∧
 (ao = ao ∧
 (4 < 11 ∧
 (b5 = b5 ∧
 (True ∧
 (((el (f 4)) ∧
 (el (5 : Int))) ∧
 (∀ z32 : Int,
 (z32 = (gfM (f 4) (5 : Int)) →
 (True ∧
 (b5 = b5 ∧
 (True ∧
 (ao = ao ∧
 (11 = 11 ∧
 ((0 ≤ (5 : Int) ∧ (5 : Int) < ((11 : Nat) : Int)) ∧
 (ao = ao ∧
 (5 < 11 ∧
 (b5 = b5 ∧
 (True ∧
 (((el (f 5)) ∧
 (el (7 : Int))) ∧
 (∀ z33 : Int,
 (z33 = (gfM (f 5) (7 : Int)) →
 (True ∧
 (b5 = b5 ∧
 (True ∧
 (ao = ao ∧
 (11 = 11 ∧
 ((0 ≤ (6 : Int) ∧ (6 : Int) < ((11 : Nat) : Int)) ∧
 (ao = ao ∧
 (6 < 11 ∧
 (b5 = b5 ∧
 (True ∧
 (((el (f 6)) ∧
 (el (15 : Int))) ∧
 (∀ z34 : Int,
 (z34 = (gfM (f 6) (15 : Int)) →
 (True ∧
 (b5 = b5 ∧
 (True ∧
 (ao = ao ∧
 (11 = 11 ∧
 ((0 ≤ (7 : Int) ∧ (7 : Int) < ((11 : Nat) : Int)) ∧
 (ao = ao ∧
 (7 < 11 ∧
 (b5 = b5 ∧
 (True ∧
 (((el (f 7)) ∧
 (el (9 : Int))) ∧
 (∀ z35 : Int,
 (z35 = (gfM (f 7) (9 : Int)) →
 (True ∧
 (b5 = b5 ∧
 (True ∧
 (ao = ao ∧
 (11 = 11 ∧
 ((0 ≤ (8 : Int) ∧ (8 : Int) < ((11 : Nat) : Int)) ∧
 (ao = ao ∧
 (8 < 11 ∧
 (b5 = b5 ∧
 (True ∧
 (((el (f 8)) ∧
 (el (2 : Int))) ∧
 (∀ z36 : Int,
 (z36 = (gfM (f 8) (2 : Int)) →
 (True ∧
 (b5 = b5 ∧
 (True ∧
 (ao = ao ∧
 (11 = 11 ∧
 ((0 ≤ (9 : Int) ∧ (9 : Int) < ((11 : Nat) : Int)) ∧
 (ao = ao ∧
 (9 < 11 ∧
 (b5 = b5 ∧
 (True ∧
 (((el (f 9)) ∧
 (el (8 : Int))) ∧
 (∀ z37 : Int,
 (z37 = (gfM (f 9) (8 : Int)) →
 (True ∧
 (b5 = b5 ∧
 (True ∧
 (ao = ao ∧
 (11 = 11 ∧
 ((0 ≤ (10 : Int) ∧ (10 : Int) < ((11 : Nat) : Int)) ∧
 (ao = ao ∧
 (10 < 11 ∧
 (b5 = b5 ∧
 (True ∧
 (((el (f 10)) ∧
 (el (6 : Int))) ∧
 (∀ z38 : Int,
 (z38 = (gfM (f 10) (6 : Int)) →
 (True ∧
 (b5 = b5 ∧
 (True ∧
 (∃ b39 : Nat, ((Ws (Ad b5 0) 3 3) = (Ws (Ad b39 0) 3 3) ∧
 (SelS [(Hr false ao 0 1 11 0 [(fun i40 => (Ci (f i40)))]), (Hc b5 3 [(Ci (bits BinOp.xor .i64 (bits BinOp.xor .i64 (bits BinOp.xor .i64 (bits BinOp.xor .i64 (bits BinOp.xor .i64 (bits BinOp.xor .i64 (bits BinOp.xor .i64 (bits BinOp.xor .i64 (bits BinOp.xor .i64 (bits BinOp.xor .i64 (bits BinOp.xor .i64 (0 : Int) z6) z7) z8) z9) z10) z11) z12) z13) z14) z15) z16)), (Ci (bits BinOp.xor .i64 (bits BinOp.xor .i64 (bits BinOp.xor .i64 (bits BinOp.xor .i64 (bits BinOp.xor .i64 (bits BinOp.xor .i64 (bits BinOp.xor .i64 (bits BinOp.xor .i64 (bits BinOp.xor .i64 (bits BinOp.xor .i64 (bits BinOp.xor .i64 (0 : Int) z17) z18) z19) z20) z21) z22) z23) z24) z25) z26) z27)), (Ci (bits BinOp.xor .i64 (bits BinOp.xor .i64 (bits BinOp.xor .i64 (bits BinOp.xor .i64 (bits BinOp.xor .i64 (bits BinOp.xor .i64 (bits BinOp.xor .i64 (bits BinOp.xor .i64 (bits BinOp.xor .i64 (bits BinOp.xor .i64 (bits BinOp.xor .i64 (0 : Int) z28) z29) z30) z31) z32) z33) z34) z35) z36) z37) z38))])] [1] [(Hc b39 3 [(Ci (syn f 0)), (Ci (syn f 1)), (Ci (syn f 2))])])))))))))))))))))))))))))))))))))))))))))))))))))))))))))))))))))))))))))))))))))))))))))))))))))))))))))))))))))))))))))))))))))))))))))))))))))))))))))))))))))))))))))))))))))))))))))))))))))))))))))))))))))))))))))))))))))))))))))))))))))))))))))))))))))))))))))))))))))))))))))))))))))))))))))))))))))))))))))))))))))))))))))))))))))))))))))))))))))))))))))))))))))))))))))))))))))))))))))))))))))))))))))))))))))))))))))))))))))))))))))) := by kernel_rfl
theorem synI_any (ao : Option Addr) (c : Nat) (f : Nat → Int) (w : World) (h : Row.sat w ⟨false, ao, 0, 1, 11, 0, [fun i => .int (f i)]⟩) (hsy : symB 11 f 11 = true) : Calls Try.prog 124 #[.slice ao 11 c] w fun e w' => ∃ b : Nat, e = .returned (.slice (some ⟨b, 0, none⟩) 3 3) ∧ HS ⟨w, fun _ => False⟩ [.cells b 3 [.int (syn f 0), .int (syn f 1), .int (syn f 2)]] w' := by
  refine fn_ok mixed (E := {tb := [(68, sSym), (133, sPow), (126, sMul)], L := [(8, relit Try.prog {tb := [(133, sPow), (126, sMul)]} 400 12 (theLoop Try.f124 1) 17 (.il 11))]}) ⟨sSym_I, sPow_I, sMul_I, trivial⟩ Try.func124 (second_loop (k0 := 5) (by kernel_rfl) (by decide) (relit_ok mixed (E := {tb := [(133, sPow), (126, sMul)]}) ⟨sPow_I, sMul_I, trivial⟩ (loopsOK_nil _ _ _))) (@Eq.mpr _ _ (synI_T ao c f) ?_) (HS.rows (fun _ => False) [⟨false, ao, 0, 1, 11, 0, [fun i => .int (f i)]⟩] (by simpa using h)) (fun v ch' w' ⟨b, hv, hc⟩ hs => ⟨b, by rw [hv], hc.hs hs⟩)
  clear h
  have hel := symB_el hsy
  repeat' (first
    | with_reducible exact rfl
    | exact True.intro
    | with_reducible assumption
    | (intro h; exfalso; rw [hsy] at h; simp at h; done)
    | exact ⟨⟨⟨rfl, rfl, by kernel_rfl⟩, True.intro⟩, rfl⟩
    | exact hel _ (by omega)
    | exact el_gf (by assumption) (by assumption)
    | exact el_xor (by assumption) (by assumption)
    | refine And.intro ?_ ?_
    | apply Exists.intro
    | (intro z hz; subst hz)
    | (intro h; exfalso; simp at h; done)
    | (intro h; exfalso; replace h := of_decide_eq_true h; omega)
    | (intro h; exfalso; replace h := of_decide_eq_false h; omega)
    | intro _
    | omega
    | exact rfl)
theorem synS_T (ao : Option Addr) (c : Nat) (f : Nat → Int) : (exFn Try.prog {tb := [(64, sSym), (118, sPow), (117, sMul)], R := [(5, 12)]} 400 Try.f131 ([.a (.c (.sl 0 ao 11 c))]) ([.row ⟨false, ao, 0, 1, 11, 0, [fun i => .int (f i)]⟩]) (fun v ch => ∃ b : Nat, v.den = .slice (some ⟨b, 0, none⟩) 3 3 ∧ SelS ch (idSlc v) [.cells b 3 [.int (syn f 0), .int (syn f 1), .int (syn f 2)]])) = (
  (∃ g00 : (Nat →
 Int), ((ao = ao ∧
 (11 = 11 ∧
 [(fun i1 => (Ci (f i1)))] = [(fun i2 => (Ci (g00 i2)))])) ∧
 ((lenC 11) ∧
 (((!(symB 11 g00 (11 : Int))) = true →
 (∀ b3 : Nat,
 (∃ b4 : Nat, ((Ws (Ad b3 0) 0 0) = (Ws (Ad b4 0) 3 3) ∧
 (SelS [(Hr false ao 0 1 11 0 [(fun i5 => (Ci (f i5)))]), (Hc b3 3 [])] [1] [(Hc b4 3 [(Ci (syn f 0)), (Ci (syn f 1)), (Ci (syn f 2))])]))))) ∧
 ((!(symB 11 g00 (11 : Int))) = false →
 (∀ b6 : Nat,
 (((decide ((0 : Int) < (11 : Int))) = true →
 (b6 = b6 ∧
 (ao = ao ∧
 (11 = 11 ∧
 ((0 ≤ (0 : Int) ∧ (0 : Int) < ((11 : Nat) : Int)) ∧
 (ao = ao ∧
 (0 < 11 ∧
 (((el (f 0)) ∧
 (el (1 : Int))) ∧
 (∀ z7 : Int,
 (z7 = (gfM (f 0) (1 : Int)) →
 (True ∧
 (b6 = b6 ∧
 (True ∧
 (b6 = b6 ∧
 (ao = ao ∧
 (11 = 11 ∧
 ((0 ≤ (0 : Int) ∧ (0 : Int) < ((11 : Nat) : Int)) ∧
 (ao = ao ∧
 (0 < 11 ∧
 (((el (f 0)) ∧
 (el (1 : Int))) ∧
 (∀ z8 : Int,
 (z8 = (gfM (f 0) (1 : Int)) →
 (True ∧
 (b6 = b6 ∧
 (True ∧
 (b6 = b6 ∧
 (ao = ao ∧
 (11 = 11 ∧
 ((0 ≤ (0 : Int) ∧ (0 : Int) < ((11 : Nat) : Int)) ∧
 (ao = ao ∧
 (0 < 11 ∧
 (((el (f 0)) ∧
 (el (1 : Int))) ∧
 (∀ z9 : Int,
 (z9 = (gfM (f 0) (1 : Int)) →
 (True ∧
 (b6 = b6 ∧
 (True ∧
 (((decide ((1 : Int) < (11 : Int))) = true →
 (b6 = b6 ∧
 (ao = ao ∧
 (11 = 11 ∧
 ((0 ≤ (1 : Int) ∧ (1 : Int) < ((11 : Nat) : Int)) ∧
 (ao = ao ∧
 (1 < 11 ∧
 (((el (f 1)) ∧
 (el (1 : Int))) ∧
 (∀ z10 : Int,
 (z10 = (gfM (f 1) (1 : Int)) →
 (True ∧
 (b6 = b6 ∧
 (True ∧
 (b6 = b6 ∧
 (ao = ao ∧
 (11 = 11 ∧
 ((0 ≤ (1 : Int) ∧ (1 : Int) < ((11 : Nat) : Int)) ∧
 (ao = ao ∧
 (1 < 11 ∧
 (((el (f 1)) ∧
 (el (2 : Int))) ∧
 (∀ z11 : Int,
 (z11 = (gfM (f 1) (2 : Int)) →
 (True ∧
 (b6 = b6 ∧
 (True ∧
 (b6 = b6 ∧
 (ao = ao ∧
 (11 = 11 ∧
 ((0 ≤ (1 : Int) ∧ (1 : Int) < ((11 : Nat) : Int)) ∧
 (ao = ao ∧
 (1 < 11 ∧
 (((el (f 1)) ∧
 (el (4 : Int))) ∧
 (∀ z12 : Int,
 (z12 = (gfM (f 1) (4 : Int)) →
 (True ∧
 (b6 = b6 ∧
 (True ∧
 (((decide ((2 : Int) < (11 : Int))) = true →
 (b6 = b6 ∧
 (ao = ao ∧
 (11 = 11 ∧
 ((0 ≤ (2 : Int) ∧ (2 : Int) < ((11 : Nat) : Int)) ∧
 (ao = ao ∧
 (2 < 11 ∧
 (((el (f 2)) ∧
 (el (1 : Int))) ∧
 (∀ z13 : Int,
 (z13 = (gfM (f 2) (1 : Int)) →
 (True ∧
 (b6 = b6 ∧
 (True ∧
 (b6 = b6 ∧
 (ao = ao ∧
 (11 = 11 ∧
 ((0 ≤ (2 : Int) ∧ (2 : Int) < ((11 : Nat) : Int)) ∧
 (ao = ao ∧
 (2 < 11 ∧
 (((el (f 2)) ∧
 (el (4 : Int))) ∧
 (∀ z14 : Int,
 (z14 = (gfM (f 2) (4 : Int)) →
 (True ∧
 (b6 = b6 ∧
 (True ∧
 (b6 = b6 ∧
 (ao = ao ∧
 (11 = 11 ∧
 ((0 ≤ (2 : Int) ∧ (2 : Int) < ((11 : Nat) : Int)) ∧
 (ao = ao ∧
 (2 < 11 ∧
 (((el (f 2)) ∧
 (el (3 : Int))) ∧
 (∀ z15 : Int,
 (z15 = (gfM (f 2) (3 : Int)) →
 (True ∧
 (b6 = b6 ∧
 (True ∧
 (((decide ((3 : Int) < (11 : Int))) = true →
 (b6 = b6 ∧
 (ao = ao ∧
 (11 = 11 ∧
 ((0 ≤ (3 : Int) ∧ (3 : Int) < ((11 : Nat) : Int)) ∧
 (ao = ao ∧
 (3 < 11 ∧
 (((el (f 3)) ∧
 (el (1 : Int))) ∧
 (∀ z16 : Int,
 (z16 = (gfM (f 3) (1 : Int)) →
 (True ∧
 (b6 = b6 ∧
 (True ∧
 (b6 = b6 ∧
 (ao = ao ∧
 (11 = 11 ∧
 ((0 ≤ (3 : Int) ∧ (3 : Int) < ((11 : Nat) : Int)) ∧
 (ao = ao ∧
 (3 < 11 ∧
 (((el (f 3)) ∧
 (el (8 : Int))) ∧
 (∀ z17 : Int,
 (z17 = (gfM (f 3) (8 : Int)) →
 (True ∧
 (b6 = b6 ∧
 (True ∧
 (b6 = b6 ∧
 (ao = ao ∧
 (11 = 11 ∧
 ((0 ≤ (3 : Int) ∧ (3 : Int) < ((11 : Nat) : Int)) ∧
 (ao = ao ∧
 (3 < 11 ∧
 (((el (f 3)) ∧
 (el (12 : Int))) ∧
 (∀ z18 : Int,
 (z18 = (gfM (f 3) (12 : Int)) →
 (True ∧
 (b6 = b6 ∧
 (True ∧
 (((decide ((4 : Int) < (11 : Int))) = true →
 (b6 = b6 ∧
 (ao = ao ∧
 (11 = 11 ∧
 ((0 ≤ (4 : Int) ∧ (4 : Int) < ((11 : Nat) : Int)) ∧
 (ao = ao ∧
 (4 < 11 ∧
 (((el (f 4)) ∧
 (el (1 : Int))) ∧
 (∀ z19 : Int,
 (z19 = (gfM (f 4) (1 : Int)) →
 (True ∧
 (b6 = b6 ∧
 (True ∧
 (b6 = b6 ∧
 (ao = ao ∧
 (11 = 11 ∧
 ((0 ≤ (4 : Int) ∧ (4 : Int) < ((11 : Nat) : Int)) ∧
 (ao = ao ∧
 (4 < 11 ∧
 (((el (f 4)) ∧
 (el (3 : Int))) ∧
 (∀ z20 : Int,
 (z20 = (gfM (f 4) (3 : Int)) →
 (True ∧
 (b6 = b6 ∧
 (True ∧
 (b6 = b6 ∧
 (ao = ao ∧
 (11 = 11 ∧
 ((0 ≤ (4 : Int) ∧ (4 : Int) < ((11 : Nat) : Int)) ∧
 (ao = ao ∧
 (4 < 11 ∧
 (((el (f 4)) ∧
 (el (5 : Int))) ∧
 (∀ z21 : Int,
 (z21 = (gfM (f 4) (5 : Int)) →
 (True ∧
 (b6 = b6 ∧
 (True ∧
 (((decide ((5 : Int) < (11 : Int))) = true →
 (b6 = b6 ∧
 (ao = ao ∧
 (11 = 11 ∧
 ((0 ≤ (5 : Int) ∧ (5 : Int) < ((11 : Nat) : Int)) ∧
 (ao = ao ∧
 (5 < 11 ∧
 (((el (f 5)) ∧
 (el (1 : Int))) ∧
 (∀ z22 : Int,
 (z22 = (gfM (f 5) (1 : Int)) →
 (True ∧
 (b6 = b6 ∧
 (True ∧
 (b6 = b6 ∧
 (ao = ao ∧
 (11 = 11 ∧
 ((0 ≤ (5 : Int) ∧ (5 : Int) < ((11 : Nat) : Int)) ∧
 (ao = ao ∧
 (5 < 11 ∧
 (((el (f 5)) ∧
 (el (6 : Int))) ∧
 (∀ z23 : Int,
 (z23 = (gfM (f 5) (6 : Int)) →
 (True ∧
 (b6 = b6 ∧
 (True ∧
 (b6 = b6 ∧
 (ao = ao ∧
 (11 = 11 ∧
 ((0 ≤ (5 : Int) ∧ (5 : Int) < ((11 : Nat) : Int)) ∧
 (ao = ao ∧
 (5 < 11 ∧
 (((el (f 5)) ∧
 (el (7 : Int))) ∧
 (∀ z24 : Int,
 (z24 = (gfM (f 5) (7 : Int)) →
 (True ∧
 (b6 = b6 ∧
 (True ∧
 (((decide ((6 : Int) < (11 : Int))) = true →
 (b6 = b6 ∧
 (ao = ao ∧
 (11 = 11 ∧
 ((0 ≤ (6 : Int) ∧ (6 : Int) < ((11 : Nat) : Int)) ∧
 (ao = ao ∧
 (6 < 11 ∧
 (((el (f 6)) ∧
 (el (1 : Int))) ∧
 (∀ z25 : Int,
 (z25 = (gfM (f 6) (1 : Int)) →
 (True ∧
 (b6 = b6 ∧
 (True ∧
 (b6 = b6 ∧
 (ao = ao ∧
 (11 = 11 ∧
 ((0 ≤ (6 : Int) ∧ (6 : Int) < ((11 : Nat) : Int)) ∧
 (ao = ao ∧
 (6 < 11 ∧
 (((el (f 6)) ∧
 (el (12 : Int))) ∧
 (∀ z26 : Int,
 (z26 = (gfM (f 6) (12 : Int)) →
 (True ∧
 (b6 = b6 ∧
 (True ∧
 (b6 = b6 ∧
 (ao = ao ∧
 (11 = 11 ∧
 ((0 ≤ (6 : Int) ∧ (6 : Int) < ((11 : Nat) : Int)) ∧
 (ao = ao ∧
 (6 < 11 ∧
 (((el (f 6)) ∧
 (el (15 : Int))) ∧
 (∀ z27 : Int,
 (z27 = (gfM (f 6) (15 : Int)) →
 (True ∧
 (b6 = b6 ∧
 (True ∧
 (((decide ((7 : Int) < (11 : Int))) = true →
 (b6 = b6 ∧
 (ao = ao ∧
 (11 = 11 ∧
 ((0 ≤ (7 : Int) ∧ (7 : Int) < ((11 : Nat) : Int)) ∧
 (ao = ao ∧
 (7 < 11 ∧
 (((el (f 7)) ∧
 (el (1 : Int))) ∧
 (∀ z28 : Int,
 (z28 = (gfM (f 7) (1 : Int)) →
 (True ∧
 (b6 = b6 ∧
 (True ∧
 (b6 = b6 ∧
 (ao = ao ∧
 (11 = 11 ∧
 ((0 ≤ (7 : Int) ∧ (7 : Int) < ((11 : Nat) : Int)) ∧
 (ao = ao ∧
 (7 < 11 ∧
 (((el (f 7)) ∧
 (el (11 : Int))) ∧
 (∀ z29 : Int,
 (z29 = (gfM (f 7) (11 : Int)) →
 (True ∧
 (b6 = b6 ∧
 (True ∧
 (b6 = b6 ∧
 (ao = ao ∧
 (11 = 11 ∧
 ((0 ≤ (7 : Int) ∧ (7 : Int) < ((11 : Nat) : Int)) ∧
 (ao = ao ∧
 (7 < 11 ∧
 (((el (f 7)) ∧
 (el (9 : Int))) ∧
 (∀ z30 : Int,
 (z30 = (gfM (f 7) (9 : Int)) →
 (True ∧
 (b6 = b6 ∧
 (True ∧
 (((decide ((8 : Int) < (11 : Int))) = true →
 (b6 = b6 ∧
 (ao = ao ∧
 (11 = 11 ∧
 ((0 ≤ (8 : Int) ∧ (8 : Int) < ((11 : Nat) : Int)) ∧
 (ao = ao ∧
 (8 < 11 ∧
 (((el (f 8)) ∧
 (el (1 : Int))) ∧
 (∀ z31 : Int,
 (z31 = (gfM (f 8) (1 : Int)) →
 (True ∧
 (b6 = b6 ∧
 (True ∧
 (b6 = b6 ∧
 (ao = ao ∧
 (11 = 11 ∧
 ((0 ≤ (8 : Int) ∧ (8 : Int) < ((11 : Nat) : Int)) ∧
 (ao = ao ∧
 (8 < 11 ∧
 (((el (f 8)) ∧
 (el (5 : Int))) ∧
 (∀ z32 : Int,
 (z32 = (gfM (f 8) (5 : Int)) →
 (True ∧
 (b6 = b6 ∧
 (True ∧
 (b6 = b6 ∧
 (ao = ao ∧
 (11 = 11 ∧
 ((0 ≤ (8 : Int) ∧ (8 : Int) < ((11 : Nat) : Int)) ∧
 (ao = ao ∧
 (8 < 11 ∧
 (((el (f 8)) ∧
 (el (2 : Int))) ∧
 (∀ z33 : Int,
 (z33 = (gfM (f 8) (2 : Int)) →
 (True ∧
 (b6 = b6 ∧
 (True ∧
 (((decide ((9 : Int) < (11 : Int))) = true →
 (b6 = b6 ∧
 (ao = ao ∧
 (11 = 11 ∧
 ((0 ≤ (9 : Int) ∧ (9 : Int) < ((11 : Nat) : Int)) ∧
 (ao = ao ∧
 (9 < 11 ∧
 (((el (f 9)) ∧
 (el (1 : Int))) ∧
 (∀ z34 : Int,
 (z34 = (gfM (f 9) (1 : Int)) →
 (True ∧
 (b6 = b6 ∧
 (True ∧
 (b6 = b6 ∧
 (ao = ao ∧
 (11 = 11 ∧
 ((0 ≤ (9 : Int) ∧ (9 : Int) < ((11 : Nat) : Int)) ∧
 (ao = ao ∧
 (9 < 11 ∧
 (((el (f 9)) ∧
 (el (10 : Int))) ∧
 (∀ z35 : Int,
 (z35 = (gfM (f 9) (10 : Int)) →
 (True ∧
 (b6 = b6 ∧
 (True ∧
 (b6 = b6 ∧
 (ao = ao ∧
 (11 = 11 ∧
 ((0 ≤ (9 : Int) ∧ (9 : Int) < ((11 : Nat) : Int)) ∧
 (ao = ao ∧
 (9 < 11 ∧
 (((el (f 9)) ∧
 (el (8 : Int))) ∧
 (∀ z36 : Int,
 (z36 = (gfM (f 9) (8 : Int)) →
 (True ∧
 (b6 = b6 ∧
 (True ∧
 (((decide ((10 : Int) < (11 : Int))) = true →
 (b6 = b6 ∧
 (ao = ao ∧
 (11 = 11 ∧
 ((0 ≤ (10 : Int) ∧ (10 : Int) < ((11 : Nat) : Int)) ∧
 (ao = ao ∧
 (10 < 11 ∧
 (((el (f 10)) ∧
 (el (1 : Int))) ∧
 (∀ z37 : Int,
 (z37 = (gfM (f 10) (1 : Int)) →
 (True ∧
 (b6 = b6 ∧
 (True ∧
 (b6 = b6 ∧
 (ao = ao ∧
 (11 = 11 ∧
 ((0 ≤ (10 : Int) ∧ (10 : Int) < ((11 : Nat) : Int)) ∧
 (ao = ao ∧
 (10 < 11 ∧
 (((el (f 10)) ∧
 (el (7 : Int))) ∧
 (∀ z38 : Int,
 (z38 = (gfM (f 10) (7 : Int)) →
 (True ∧
 (b6 = b6 ∧
 (True ∧
 (b6 = b6 ∧
 (ao = ao ∧
 (11 = 11 ∧
 ((0 ≤ (10 : Int) ∧ (10 : Int) < ((11 : Nat) : Int)) ∧
 (ao = ao ∧
 (10 < 11 ∧
 (((el (f 10)) ∧
 (el (6 : Int))) ∧
 (∀ z39 : Int,
 (z39 = (gfM (f 10) (6 : Int)) →
 (True ∧
 (b6 = b6 ∧
 (True ∧
 (((decide ((11 : Int) < (11 : Int))) = true →
 (b6 = b6 ∧
 (ao = ao ∧
 (11 = 11 ∧
 ((0 ≤ (11 : Int) ∧ (11 : Int) < ((11 : Nat) : Int)) ∧
 (ao = ao ∧
 (11 < 11 ∧
 (((el (f 11)) ∧
 (el (1 : Int))) ∧
 (∀ z40 : Int,
 (z40 = (gfM (f 11) (1 : Int)) →
 (True ∧
 (b6 = b6 ∧
 (True ∧
 (b6 = b6 ∧
 (ao = ao ∧
 (11 = 11 ∧
 ((0 ≤ (11 : Int) ∧ (11 : Int) < ((11 : Nat) : Int)) ∧
 (ao = ao ∧
 (11 < 11 ∧
 (((el (f 11)) ∧
 (el (14 : Int))) ∧
 (∀ z41 : Int,
 (z41 = (gfM (f 11) (14 : Int)) →
 (True ∧
 (b6 = b6 ∧
 (True ∧
 (b6 = b6 ∧
 (ao = ao ∧
 (11 = 11 ∧
 ((0 ≤ (11 : Int) ∧ (11 : Int) < ((11 : Nat) : Int)) ∧
 (ao = ao ∧
 (11 < 11 ∧
 (((el (f 11)) ∧
 (el (11 : Int))) ∧
 (∀ z42 : Int,
 (z42 = (gfM (f 11) (11 : Int)) →
 (True ∧
 (b6 = b6 ∧
 (True ∧
 False))))))))))))))))))))))))))))))))))))) ∧
 ((decide ((11 : Int) < (11 : Int))) = false →
 (∃ b43 : Nat, ((Ws (Ad b6 0) 3 3) = (Ws (Ad b43 0) 3 3) ∧
 (SelS [(Hr false ao 0 1 11 0 [(fun i44 => (Ci (f i44)))]), (Hc b6 3 [(Ci (bits BinOp.xor .i64 (bits BinOp.xor .i64 (bits BinOp.xor .i64 (bits BinOp.xor .i64 (bits BinOp.xor .i64 (bits BinOp.xor .i64 (bits BinOp.xor .i64 (bits BinOp.xor .i64 (bits BinOp.xor .i64 (bits BinOp.xor .i64 (bits BinOp.xor .i64 (0 : Int) z7) z10) z13) z16) z19) z22) z25) z28) z31) z34) z37)), (Ci (bits BinOp.xor .i64 (bits BinOp.xor .i64 (bits BinOp.xor .i64 (bits BinOp.xor .i64 (bits BinOp.xor .i64 (bits BinOp.xor .i64 (bits BinOp.xor .i64 (bits BinOp.xor .i64 (bits BinOp.xor .i64 (bits BinOp.xor .i64 (bits BinOp.xor .i64 (0 : Int) z8) z11) z14) z17) z20) z23) z26) z29) z32) z35) z38)), (Ci (bits BinOp.xor .i64 (bits BinOp.xor .i64 (bits BinOp.xor .i64 (bits BinOp.xor .i64 (bits BinOp.xor .i64 (bits BinOp.xor .i64 (bits BinOp.xor .i64 (bits BinOp.xor .i64 (bits BinOp.xor .i64 (bits BinOp.xor .i64 (bits BinOp.xor .i64 (0 : Int) z9) z12) z15) z18) z21) z24) z27) z30) z33) z36) z39))])] [1] [(Hc b43 3 [(Ci (syn f 0)), (Ci (syn f 1)), (Ci (syn f 2))])])))))))))))))))))))))))))))))))))))))))))) ∧
 ((decide ((10 : Int) < (11 : Int))) = false →
 (∃ b45 : Nat, ((Ws (Ad b6 0) 3 3) = (Ws (Ad b45 0) 3 3) ∧
 (SelS [(Hr false ao 0 1 11 0 [(fun i46 => (Ci (f i46)))]), (Hc b6 3 [(Ci (bits BinOp.xor .i64 (bits BinOp.xor .i64 (bits BinOp.xor .i64 (bits BinOp.xor .i64 (bits BinOp.xor .i64 (bits BinOp.xor .i64 (bits BinOp.xor .i64 (bits BinOp.xor .i64 (bits BinOp.xor .i64 (bits BinOp.xor .i64 (0 : Int) z7) z10) z13) z16) z19) z22) z25) z28) z31) z34)), (Ci (bits BinOp.xor .i64 (bits BinOp.xor .i64 (bits BinOp.xor .i64 (bits BinOp.xor .i64 (bits BinOp.xor .i64 (bits BinOp.xor .i64 (bits BinOp.xor .i64 (bits BinOp.xor .i64 (bits BinOp.xor .i64 (bits BinOp.xor .i64 (0 : Int) z8) z11) z14) z17) z20) z23) z26) z29) z32) z35)), (Ci (bits BinOp.xor .i64 (bits BinOp.xor .i64 (bits BinOp.xor .i64 (bits BinOp.xor .i64 (bits BinOp.xor .i64 (bits BinOp.xor .i64 (bits BinOp.xor .i64 (bits BinOp.xor .i64 (bits BinOp.xor .i64 (bits BinOp.xor .i64 (0 : Int) z9) z12) z15) z18) z21) z24) z27) z30) z33) z36))])] [1] [(Hc b45 3 [(Ci (syn f 0)), (Ci (syn f 1)), (Ci (syn f 2))])])))))))))))))))))))))))))))))))))))))))))) ∧
 ((decide ((9 : Int) < (11 : Int))) = false →
 (∃ b47 : Nat, ((Ws (Ad b6 0) 3 3) = (Ws (Ad b47 0) 3 3) ∧
 (SelS [(Hr false ao 0 1 11 0 [(fun i48 => (Ci (f i48)))]), (Hc b6 3 [(Ci (bits BinOp.xor .i64 (bits BinOp.xor .i64 (bits BinOp.xor .i64 (bits BinOp.xor .i64 (bits BinOp.xor .i64 (bits BinOp.xor .i64 (bits BinOp.xor .i64 (bits BinOp.xor .i64 (bits BinOp.xor .i64 (0 : Int) z7) z10) z13) z16) z19) z22) z25) z28) z31)), (Ci (bits BinOp.xor .i64 (bits BinOp.xor .i64 (bits BinOp.xor .i64 (bits BinOp.xor .i64 (bits BinOp.xor .i64 (bits BinOp.xor .i64 (bits BinOp.xor .i64 (bits BinOp.xor .i64 (bits BinOp.xor .i64 (0 : Int) z8) z11) z14) z17) z20) z23) z26) z29) z32)), (Ci (bits BinOp.xor .i64 (bits BinOp.xor .i64 (bits BinOp.xor .i64 (bits BinOp.xor .i64 (bits BinOp.xor .i64 (bits BinOp.xor .i64 (bits BinOp.xor .i64 (bits BinOp.xor .i64 (bits BinOp.xor .i64 (0 : Int) z9) z12) z15) z18) z21) z24) z27) z30) z33))])] [1] [(Hc b47 3 [(Ci (syn f 0)), (Ci (syn f 1)), (Ci (syn f 2))])])))))))))))))))))))))))))))))))))))))))))) ∧
 ((decide ((8 : Int) < (11 : Int))) = false →
 (∃ b49 : Nat, ((Ws (Ad b6 0) 3 3) = (Ws (Ad b49 0) 3 3) ∧
 (SelS [(Hr false ao 0 1 11 0 [(fun i50 => (Ci (f i50)))]), (Hc b6 3 [(Ci (bits BinOp.xor .i64 (bits BinOp.xor .i64 (bits BinOp.xor .i64 (bits BinOp.xor .i64 (bits BinOp.xor .i64 (bits BinOp.xor .i64 (bits BinOp.xor .i64 (bits BinOp.xor .i64 (0 : Int) z7) z10) z13) z16) z19) z22) z25) z28)), (Ci (bits BinOp.xor .i64 (bits BinOp.xor .i64 (bits BinOp.xor .i64 (bits BinOp.xor .i64 (bits BinOp.xor .i64 (bits BinOp.xor .i64 (bits BinOp.xor .i64 (bits BinOp.xor .i64 (0 : Int) z8) z11) z14) z17) z20) z23) z26) z29)), (Ci (bits BinOp.xor .i64 (bits BinOp.xor .i64 (bits BinOp.xor .i64 (bits BinOp.xor .i64 (bits BinOp.xor .i64 (bits BinOp.xor .i64 (bits BinOp.xor .i64 (bits BinOp.xor .i64 (0 : Int) z9) z12) z15) z18) z21) z24) z27) z30))])] [1] [(Hc b49 3 [(Ci (syn f 0)), (Ci (syn f 1)), (Ci (syn f 2))])])))))))))))))))))))))))))))))))))))))))))) ∧
 ((decide ((7 : Int) < (11 : Int))) = false →
 (∃ b51 : Nat, ((Ws (Ad b6 0) 3 3) = (Ws (Ad b51 0) 3 3) ∧
 (SelS [(Hr false ao 0 1 11 0 [(fun i52 => (Ci (f i52)))]), (Hc b6 3 [(Ci (bits BinOp.xor .i64 (bits BinOp.xor .i64 (bits BinOp.xor .i64 (bits BinOp.xor .i64 (bits BinOp.xor .i64 (bits BinOp.xor .i64 (bits BinOp.xor .i64 (0 : Int) z7) z10) z13) z16) z19) z22) z25)), (Ci (bits BinOp.xor .i64 (bits BinOp.xor .i64 (bits BinOp.xor .i64 (bits BinOp.xor .i64 (bits BinOp.xor .i64 (bits BinOp.xor .i64 (bits BinOp.xor .i64 (0 : Int) z8) z11) z14) z17) z20) z23) z26)), (Ci (bits BinOp.xor .i64 (bits BinOp.xor .i64 (bits BinOp.xor .i64 (bits BinOp.xor .i64 (bits BinOp.xor .i64 (bits BinOp.xor .i64 (bits BinOp.xor .i64 (0 : Int) z9) z12) z15) z18) z21) z24) z27))])] [1] [(Hc b51 3 [(Ci (syn f 0)), (Ci (syn f 1)), (Ci (syn f 2))])])))))))))))))))))))))))))))))))))))))))))) ∧
 ((decide ((6 : Int) < (11 : Int))) = false →
 (∃ b53 : Nat, ((Ws (Ad b6 0) 3 3) = (Ws (Ad b53 0) 3 3) ∧
 (SelS [(Hr false ao 0 1 11 0 [(fun i54 => (Ci (f i54)))]), (Hc b6 3 [(Ci (bits BinOp.xor .i64 (bits BinOp.xor .i64 (bits BinOp.xor .i64 (bits BinOp.xor .i64 (bits BinOp.xor .i64 (bits BinOp.xor .i64 (0 : Int) z7) z10) z13) z16) z19) z22)), (Ci (bits BinOp.xor .i64 (bits BinOp.xor .i64 (bits BinOp.xor .i64 (bits BinOp.xor .i64 (bits BinOp.xor .i64 (bits BinOp.xor .i64 (0 : Int) z8) z11) z14) z17) z20) z23)), (Ci (bits BinOp.xor .i64 (bits BinOp.xor .i64 (bits BinOp.xor .i64 (bits BinOp.xor .i64 (bits BinOp.xor .i64 (bits BinOp.xor .i64 (0 : Int) z9) z12) z15) z18) z21) z24))])] [1] [(Hc b53 3 [(Ci (syn f 0)), (Ci (syn f 1)), (Ci (syn f 2))])])))))))))))))))))))))))))))))))))))))))))) ∧
 ((decide ((5 : Int) < (11 : Int))) = false →
 (∃ b55 : Nat, ((Ws (Ad b6 0) 3 3) = (Ws (Ad b55 0) 3 3) ∧
 (SelS [(Hr false ao 0 1 11 0 [(fun i56 => (Ci (f i56)))]), (Hc b6 3 [(Ci (bits BinOp.xor .i64 (bits BinOp.xor .i64 (bits BinOp.xor .i64 (bits BinOp.xor .i64 (bits BinOp.xor .i64 (0 : Int) z7) z10) z13) z16) z19)), (Ci (bits BinOp.xor .i64 (bits BinOp.xor .i64 (bits BinOp.xor .i64 (bits BinOp.xor .i64 (bits BinOp.xor .i64 (0 : Int) z8) z11) z14) z17) z20)), (Ci (bits BinOp.xor .i64 (bits BinOp.xor .i64 (bits BinOp.xor .i64 (bits BinOp.xor .i64 (bits BinOp.xor .i64 (0 : Int) z9) z12) z15) z18) z21))])] [1] [(Hc b55 3 [(Ci (syn f 0)), (Ci (syn f 1)), (Ci (syn f 2))])])))))))))))))))))))))))))))))))))))))))))) ∧
 ((decide ((4 : Int) < (11 : Int))) = false →
 (∃ b57 : Nat, ((Ws (Ad b6 0) 3 3) = (Ws (Ad b57 0) 3 3) ∧
 (SelS [(Hr false ao 0 1 11 0 [(fun i58 => (Ci (f i58)))]), (Hc b6 3 [(Ci (bits BinOp.xor .i64 (bits BinOp.xor .i64 (bits BinOp.xor .i64 (bits BinOp.xor .i64 (0 : Int) z7) z10) z13) z16)), (Ci (bits BinOp.xor .i64 (bits BinOp.xor .i64 (bits BinOp.xor .i64 (bits BinOp.xor .i64 (0 : Int) z8) z11) z14) z17)), (Ci (bits BinOp.xor .i64 (bits BinOp.xor .i64 (bits BinOp.xor .i64 (bits BinOp.xor .i64 (0 : Int) z9) z12) z15) z18))])] [1] [(Hc b57 3 [(Ci (syn f 0)), (Ci (syn f 1)), (Ci (syn f 2))])])))))))))))))))))))))))))))))))))))))))))) ∧
 ((decide ((3 : Int) < (11 : Int))) = false →
 (∃ b59 : Nat, ((Ws (Ad b6 0) 3 3) = (Ws (Ad b59 0) 3 3) ∧
 (SelS [(Hr false ao 0 1 11 0 [(fun i60 => (Ci (f i60)))]), (Hc b6 3 [(Ci (bits BinOp.xor .i64 (bits BinOp.xor .i64 (bits BinOp.xor .i64 (0 : Int) z7) z10) z13)), (Ci (bits BinOp.xor .i64 (bits BinOp.xor .i64 (bits BinOp.xor .i64 (0 : Int) z8) z11) z14)), (Ci (bits BinOp.xor .i64 (bits BinOp.xor .i64 (bits BinOp.xor .i64 (0 : Int) z9) z12) z15))])] [1] [(Hc b59 3 [(Ci (syn f 0)), (Ci (syn f 1)), (Ci (syn f 2))])])))))))))))))))))))))))))))))))))))))))))) ∧
 ((decide ((2 : Int) < (11 : Int))) = false →
 (∃ b61 : Nat, ((Ws (Ad b6 0) 3 3) = (Ws (Ad b61 0) 3 3) ∧
 (SelS [(Hr false ao 0 1 11 0 [(fun i62 => (Ci (f i62)))]), (Hc b6 3 [(Ci (bits BinOp.xor .i64 (bits BinOp.xor .i64 (0 : Int) z7) z10)), (Ci (bits BinOp.xor .i64 (bits BinOp.xor .i64 (0 : Int) z8) z11)), (Ci (bits BinOp.xor .i64 (bits BinOp.xor .i64 (0 : Int) z9) z12))])] [1] [(Hc b61 3 [(Ci (syn f 0)), (Ci (syn f 1)), (Ci (syn f 2))])])))))))))))))))))))))))))))))))))))))))))) ∧
 ((decide ((1 : Int) < (11 : Int))) = false →
 (∃ b63 : Nat, ((Ws (Ad b6 0) 3 3) = (Ws (Ad b63 0) 3 3) ∧
 (SelS [(Hr false ao 0 1 11 0 [(fun i64 => (Ci (f i64)))]), (Hc b6 3 [(Ci (bits BinOp.xor .i64 (0 : Int) z7)), (Ci (bits BinOp.xor .i64 (0 : Int) z8)), (Ci (bits BinOp.xor .i64 (0 : Int) z9))])] [1] [(Hc b63 3 [(Ci (syn f 0)), (Ci (syn f 1)), (Ci (syn f 2))])])))))))))))))))))))))))))))))))))))))))))) ∧
 ((decide ((0 : Int) < (11 : Int))) = false →
 (∃ b65 : Nat, ((Ws (Ad b6 0) 3 3) = (Ws (Ad b65 0) 3 3) ∧
 (SelS [(Hr false ao 0 1 11 0 [(fun i66 => (Ci (f i66)))]), (Hc b6 3 [(Cl 0), (Cl 0), (Cl 0)])] [1] [(Hc b65 3 [(Ci (syn f 0)), (Ci (syn f 1)), (Ci (syn f 2))])])))))))))))) := by kernel_rfl
theorem synS_any (ao : Option Addr) (c : Nat) (f : Nat → Int) (w : World) (h : Row.sat w ⟨false, ao, 0, 1, 11, 0, [fun i => .int (f i)]⟩) (hsy : symB 11 f 11 = true) : Calls Try.prog 131 #[.slice ao 11 c] w fun e w' => ∃ b : Nat, e = .returned (.slice (some ⟨b, 0, none⟩) 3 3) ∧ HS ⟨w, fun _ => False⟩ [.cells b 3 [.int (syn f 0), .int (syn f 1), .int (syn f 2)]] w' := by
  refine fn_ok mixed (E := {tb := [(64, sSym), (118, sPow), (117, sMul)], R := [(5, 12)]}) ⟨sSym_S, sPow_S, sMul_S, trivial⟩ Try.func131 (fun _ _ => loopsOK_nil _ _ _) (@Eq.mpr _ _ (synS_T ao c f) ?_) (HS.rows (fun _ => False) [⟨false, ao, 0, 1, 11, 0, [fun i => .int (f i)]⟩] (by simpa using h)) (fun v ch' w' ⟨b, hv, hc⟩ hs => ⟨b, by rw [hv], hc.hs hs⟩)
  clear h
  have hel := symB_el hsy
  repeat' (first
    | with_reducible exact rfl
    | exact True.intro
    | with_reducible assumption
    | (intro h; exfalso; rw [hsy] at h; simp at h; done)
    | exact ⟨⟨⟨rfl, rfl, by kernel_rfl⟩, True.intro⟩, rfl⟩
    | exact hel _ (by omega)
    | exact el_gf (by assumption) (by assumption)
    | exact el_xor (by assumption) (by assumption)
    | refine And.intro ?_ ?_
    | apply Exists.intro
    | (intro z hz; subst hz)
    | (intro h; exfalso; simp at h; done)
    | (intro h; exfalso; replace h := of_decide_eq_true h; omega)
    | (intro h; exfalso; replace h := of_decide_eq_false h; omega)
    | intro _
    | omega
    | exact rfl)

def sSyn : Sm := fun args ch k =>
  match args with
  | [.a (.c c)] => rdn ch c fun n g => (n = 11 ∧ symB 11 g 11 = true) ∧ ∀ b : Nat, k (.a (.c (.slc ch.length b 3 3))) (ch ++ [.cells b 3 [.int (syn g 0), .int (syn g 1), .int (syn g 2)]]) []
  | _ => False
theorem sSyn_I : SmOK Try.prog 124 sSyn := by
  refine smN Try.call124 fun args ch k w X h0 hs => ?_
  unfold sSyn at h0
  split at h0
  · obtain ⟨ao, n, c', g, e, hr, ⟨rfl, hsy⟩, h1⟩ := rdn_ok h0 hs
    simp only [List.map_cons, List.map_nil, den_a, den_c, e]
    exact Calls.mono (synI_any ao c' g w hr hsy) fun e w' ⟨b, he, hs'⟩ => ⟨.a (.c (.slc ch.length b 3 3)), _, by rw [he]; rfl, hs', rfl, h1 b⟩
  · exact h0.elim
theorem sSyn_S : SmOK Try.prog 131 sSyn := by
  refine smN Try.call131 fun args ch k w X h0 hs => ?_
  unfold sSyn at h0
  split at h0
  · obtain ⟨ao, n, c', g, e, hr, ⟨rfl, hsy⟩, h1⟩ := rdn_ok h0 hs
    simp only [List.map_cons, List.map_nil, den_a, den_c, e]
    exact Calls.mono (synS_any ao c' g w hr hsy) fun e w' ⟨b, he, hs'⟩ => ⟨.a (.c (.slc ch.length b 3 3)), _, by rw [he]; rfl, hs', rfl, h1 b⟩
  · exact h0.elim
theorem lt11 {i : Nat} (h : i < 11) : i = 0 ∨ i = 1 ∨ i = 2 ∨ i = 3 ∨ i = 4 ∨ i = 5 ∨ i = 6 ∨ i = 7 ∨ i = 8 ∨ i = 9 ∨ i = 10 := by omega
theorem symB_mk {n : Nat} {g : Nat → Int} {m : Int} (h : ∀ i, i < n → el (g i)) (hm : (n : Int) = m) : symB n g m = true := by
  simp only [symB, Bool.and_eq_true, ieq, beq_iff_eq]
  refine ⟨?_, hm⟩
  simp only [allB, List.all_eq_true, List.mem_range]
  intro i hi
  exact btw_mk (h i hi).1 (h i hi).2
theorem encI_T (ao : Option Addr) (c : Nat) (d : Nat → Int) : (exFn Try.prog {tb := [(68, sSym), (124, sSyn), (125, sInv), (126, sMul)]} 400 Try.f112 ([.a (.c (.sl 0 ao 8 c))]) ([.row ⟨false, ao, 0, 1, 8, 0, [fun i => .int (d i)]⟩]) (fun v ch => ∃ (ro : Option Addr) (rc : Nat), OutR v ch (.slice ro 11 rc) [.row ⟨true, ro, 3, 1, 11, rc, [fun i => .int (enc d i)]⟩])) = (
  (∃ g00 : (Nat →
 Int), ((ao = ao ∧
 (8 = 8 ∧
 [(fun i1 => (Ci (d i1)))] = [(fun i2 => (Ci (g00 i2)))])) ∧
 ((lenC 8) ∧
 (((!(symB 8 g00 (8 : Int))) = true →
 (∃ ro3 : (Option Addr), (∃ rc4 : Nat, (Wn = (Ws ro3 11 rc4) ∧
 (((true = true ∧
 ((none : Option (Addr)) = ro3 ∧
 (0 = 11 ∧
 (0 = rc4 ∧
 true = true)))) ∧
 True) ∧
 true = true))))) ∧
 ((!(symB 8 g00 (8 : Int))) = false →
 (∀ b5 : Nat,
 ((b5 = b5 ∧
 ((ao = ao ∧
 8 = 8) ∧
 ((∀ i6 : Nat,
 true = true) ∧
 (apC 3 8 8)))) ∧
 (∀ ao'7 : (Option Addr),
 (∀ cap'8 : Nat,
 (∃ g09 : (Nat →
 Int), ((ao'7 = ao'7 ∧
 (11 = 11 ∧
 [(fun i10 => (Ci (if i10 < 3 then (litZ [(0 : Int), (0 : Int), (0 : Int)] i10) else (d (i10 - 3)))))] = [(fun i11 => (Ci (g09 i11)))])) ∧
 ((11 = 11 ∧
 (symB 11 g09 (11 : Int)) = true) ∧
 (∀ b12 : Nat,
 (b12 = b12 ∧
 (b12 = b12 ∧
 (b12 = b12 ∧
 (b12 = b12 ∧
 (((el (2 : Int)) ∧
 (el (bits BinOp.xor .i64 (syn g09 0) (syn g09 1)))) ∧
 (∀ z13 : Int,
 (z13 = (gfM (2 : Int) (bits BinOp.xor .i64 (syn g09 0) (syn g09 1))) →
 (((el (5 : Int)) ∧
 (el (bits BinOp.xor .i64 (syn g09 0) (syn g09 2)))) ∧
 (∀ z14 : Int,
 (z14 = (gfM (5 : Int) (bits BinOp.xor .i64 (syn g09 0) (syn g09 2))) →
 (((el (bits BinOp.xor .i64 z13 z14)) ∧
 (el (13 : Int))) ∧
 (∀ z15 : Int,
 (z15 = (gfM (bits BinOp.xor .i64 z13 z14) (13 : Int)) →
 (ao'7 = ao'7 ∧
 (11 = 11 ∧
 ((0 ≤ (1 : Int) ∧ (1 : Int) < ((11 : Nat) : Int)) ∧
 (ao'7 = ao'7 ∧
 (1 < 11 ∧
 (((el (3 : Int)) ∧
 (el (bits BinOp.xor .i64 (syn g09 0) (syn g09 2)))) ∧
 (∀ z16 : Int,
 (z16 = (gfM (3 : Int) (bits BinOp.xor .i64 (syn g09 0) (syn g09 2))) →
 (((el (5 : Int)) ∧
 (el (bits BinOp.xor .i64 (syn g09 0) (syn g09 1)))) ∧
 (∀ z17 : Int,
 (z17 = (gfM (5 : Int) (bits BinOp.xor .i64 (syn g09 0) (syn g09 1))) →
 (((el (bits BinOp.xor .i64 z16 z17)) ∧
 (el (13 : Int))) ∧
 (∀ z18 : Int,
 (z18 = (gfM (bits BinOp.xor .i64 z16 z17) (13 : Int)) →
 (ao'7 = ao'7 ∧
 (11 = 11 ∧
 ((0 ≤ (2 : Int) ∧ (2 : Int) < ((11 : Nat) : Int)) ∧
 (ao'7 = ao'7 ∧
 (2 < 11 ∧
 (b12 = b12 ∧
 (ao'7 = ao'7 ∧
 (11 = 11 ∧
 ((0 ≤ (1 : Int) ∧ (1 : Int) < ((11 : Nat) : Int)) ∧
 (ao'7 = ao'7 ∧
 (1 < 11 ∧
 (ao'7 = ao'7 ∧
 (11 = 11 ∧
 ((0 ≤ (2 : Int) ∧ (2 : Int) < ((11 : Nat) : Int)) ∧
 (ao'7 = ao'7 ∧
 (2 < 11 ∧
 (ao'7 = ao'7 ∧
 (11 = 11 ∧
 ((0 ≤ (0 : Int) ∧ (0 : Int) < ((11 : Nat) : Int)) ∧
 (ao'7 = ao'7 ∧
 (0 < 11 ∧
 (True ∧
 (∃ ro19 : (Option Addr), (∃ rc20 : Nat, ((Ws ao'7 11 cap'8) = (Ws ro19 11 rc20) ∧
 (((true = true ∧
 (ao'7 = ro19 ∧
 (3 = 3 ∧
 (1 = 1 ∧
 (11 = 11 ∧
 (cap'8 = rc20 ∧
 ((∀ i21 : Nat,
 (i21 < 11 →
 (Wi (if i21 = 0 then (bits BinOp.xor .i64 (bits BinOp.xor .i64 (syn g09 0) z15) z18) else (if i21 = 2 then z18 else (if i21 = 1 then z15 else (if i21 < 3 then (litZ [(0 : Int), (0 : Int), (0 : Int)] i21) else (d (i21 - 3))))))) = (Wi (enc d i21)))) ∧
 True))))))) ∧
 True) ∧
 true = true))))))))))))))))))))))))))))))))))))))))))))))))))))))))))))))))))) := by kernel_rfl
theorem encI_any (ao : Option Addr) (c : Nat) (d : Nat → Int) (w : World) (h : Row.sat w ⟨false, ao, 0, 1, 8, 0, [fun i => .int (d i)]⟩) (hsy : symB 8 d 8 = true) : Calls Try.prog 112 #[.slice ao 8 c] w fun e w' => ∃ (ro : Option Addr) (rc : Nat), e = .returned (.slice ro 11 rc) ∧ HS ⟨w, fun _ => False⟩ [.row ⟨true, ro, 3, 1, 11, rc, [fun i => .int (enc d i)]⟩] w' := by
  refine fn_ok mixed (E := {tb := [(68, sSym), (124, sSyn), (125, sInv), (126, sMul)]}) ⟨sSym_I, sSyn_I, sInv_ok, sMul_I, trivial⟩ Try.func112 (fun _ _ => loopsOK_nil _ _ _) (@Eq.mpr _ _ (encI_T ao c d) ?_) (HS.rows (fun _ => False) [⟨false, ao, 0, 1, 8, 0, [fun i => .int (d i)]⟩] (by simpa using h)) (fun v ch' w' ⟨ro, rc, hk⟩ hs => ⟨ro, rc, by rw [hk.1], hk.hs hs⟩)
  clear h
  have hel := symB_el hsy
  have hfr : symB 11 (fun i => if i < 3 then litZ [0, 0, 0] i else d (i - 3)) 11 = true := symB_mk (fun i hi => by
    by_cases h3 : i < 3
    · simp only [if_pos h3]
      match i, h3 with
      | 0, _ => exact ⟨by decide, by decide⟩
      | 1, _ => exact ⟨by decide, by decide⟩
      | 2, _ => exact ⟨by decide, by decide⟩
    · simp only [if_neg h3]
      exact hel _ (by omega)) rfl
  have hfe : ∀ j, j < 3 → el (syn (fun i => if i < 3 then litZ [0, 0, 0] i else d (i - 3)) j) := fun j hj => syn_el (symB_el hfr) hj
  repeat' (first
    | with_reducible exact rfl
    | exact True.intro
    | with_reducible assumption
    | (intro h; exfalso; rw [hsy] at h; simp at h; done)
    | with_reducible exact hfr
    | with_reducible exact hfe _ (by omega)
    | with_reducible exact hel _ (by omega)
    | (with_reducible refine mulStep ?_ ?_ (fun z hze hz => ?_))
    | (with_reducible refine el_xor ?_ ?_)
    | (intro i hi; subst_vars; rcases lt11 hi with rfl | rfl | rfl | rfl | rfl | rfl | rfl | rfl | rfl | rfl | rfl; (show (_ : Value) = _; kernel_rfl); (show (_ : Value) = _; kernel_rfl); (show (_ : Value) = _; kernel_rfl); (show (_ : Value) = _; kernel_rfl); (show (_ : Value) = _; kernel_rfl); (show (_ : Value) = _; kernel_rfl); (show (_ : Value) = _; kernel_rfl); (show (_ : Value) = _; kernel_rfl); (show (_ : Value) = _; kernel_rfl); (show (_ : Value) = _; kernel_rfl); (show (_ : Value) = _; kernel_rfl))
    | refine And.intro ?_ ?_
    | apply Exists.intro
    | (intro z hz; subst hz)
    | (intro h; exfalso; simp at h; done)
    | (intro h; exfalso; replace h := of_decide_eq_true h; omega)
    | (intro h; exfalso; replace h := of_decide_eq_false h; omega)
    | intro _
    | omega
    | exact rfl)
theorem encS_T (ao : Option Addr) (c : Nat) (d : Nat → Int) : (exFn Try.prog {tb := [(64, sSym), (118, sPow), (117, sMul)], L := [(17, relit Try.prog {tb := [(117, sMul)]} 400 10 (theLoop Try.f107 2) 9 (.il 10))]} 400 Try.f107 ([.a (.c (.sl 0 ao 8 c))]) ([.row ⟨false, ao, 0, 1, 8, 0, [fun i => .int (d i)]⟩]) (fun v ch => ∃ (ro : Option Addr) (rc : Nat), OutR v ch (.slice ro 11 rc) [.row ⟨true, ro, 3, 1, 11, rc, [fun i => .int (enc d i)]⟩])) = (
  (∃ g00 : (Nat →
 Int), ((ao = ao ∧
 (8 = 8 ∧
 [(fun i1 => (Ci (d i1)))] = [(fun i2 => (Ci (g00 i2)))])) ∧
 ((lenC 8) ∧
 (((!(symB 8 g00 (8 : Int))) = true →
 (∀ b3 : Nat,
 (∃ ro4 : (Option Addr), (∃ rc5 : Nat, ((Ws (Ad b3 0) 0 0) = (Ws ro4 11 rc5) ∧
 (((true = true ∧
 ((Ad b3 0) = ro4 ∧
 (3 = 3 ∧
 (true = true ∧
 (0 = 11 ∧
 (0 = rc5 ∧
 true = true)))))) ∧
 True) ∧
 true = true)))))) ∧
 ((!(symB 8 g00 (8 : Int))) = false →
 (∀ b6 : Nat,
 ((b6 = b6 ∧
 ((ao = ao ∧
 8 = 8) ∧
 ((∀ i7 : Nat,
 true = true) ∧
 (apC 3 8 8)))) ∧
 (∀ ao'8 : (Option Addr),
 (∀ cap'9 : Nat,
 (∀ b10 : Nat,
 (∀ b11 : Nat,
 (b11 = b11 ∧
 (b10 = b10 ∧
 (b11 = b11 ∧
 (True ∧
 (b11 = b11 ∧
 (b10 = b10 ∧
 (True ∧
 (True ∧
 (b11 = b11 ∧
 (True ∧
 (b11 = b11 ∧
 (b10 = b10 ∧
 (b11 = b11 ∧
 (True ∧
 (b11 = b11 ∧
 (b10 = b10 ∧
 (True ∧
 (True ∧
 (b11 = b11 ∧
 (True ∧
 (∀ b12 : Nat,
 (b12 = b12 ∧
 (b11 = b11 ∧
 (b12 = b12 ∧
 (True ∧
 (b12 = b12 ∧
 (b11 = b11 ∧
 (True ∧
 (True ∧
 (b12 = b12 ∧
 (True ∧
 (b12 = b12 ∧
 (b11 = b11 ∧
 (b12 = b12 ∧
 (True ∧
 (b12 = b12 ∧
 (b11 = b11 ∧
 (True ∧
 (True ∧
 (b12 = b12 ∧
 (True ∧
 (b12 = b12 ∧
 (b11 = b11 ∧
 (b12 = b12 ∧
 (True ∧
 (b12 = b12 ∧
 (b11 = b11 ∧
 (True ∧
 (True ∧
 (b12 = b12 ∧
 (True ∧
 (∀ b13 : Nat,
 ((b13 = b13 ∧
 ((ao'8 = ao'8 ∧
 11 = 11) ∧
 ((∀ i14 : Nat,
 true = true) ∧
 (apC 0 11 8)))) ∧
 (∀ ao15 : (Option Addr),
 (∀ cap16 : Nat,
 ((rng ((11 : Int) - (1 : Int))) ∧
 ((Wi ((11 : Int) - (1 : Int))) = (Wi 10) ∧
 (ao15 = ao15 ∧
 (11 = 11 ∧
 ((0 ≤ (10 : Int) ∧ (10 : Int) < ((11 : Nat) : Int)) ∧
 (ao15 = ao15 ∧
 (10 < 11 ∧
 (ao15 = ao15 ∧
 (11 = 11 ∧
 ((0 ≤ (7 : Int) ∧ (7 : Int) < ((11 : Nat) : Int)) ∧
 (ao15 = ao15 ∧
 (7 < 11 ∧
 (b12 = b12 ∧
 (((el (8 : Int)) ∧
 (el (d 7))) ∧
 (∀ z17 : Int,
 (z17 = (gfM (8 : Int) (d 7)) →
 (True ∧
 (ao15 = ao15 ∧
 (11 = 11 ∧
 ((0 ≤ (7 : Int) ∧ (7 : Int) < ((11 : Nat) : Int)) ∧
 (ao15 = ao15 ∧
 (7 < 11 ∧
 (True ∧
 (ao15 = ao15 ∧
 (11 = 11 ∧
 ((0 ≤ (8 : Int) ∧ (8 : Int) < ((11 : Nat) : Int)) ∧
 (ao15 = ao15 ∧
 (8 < 11 ∧
 (b12 = b12 ∧
 (((el (14 : Int)) ∧
 (el (d 7))) ∧
 (∀ z18 : Int,
 (z18 = (gfM (14 : Int) (d 7)) →
 (True ∧
 (ao15 = ao15 ∧
 (11 = 11 ∧
 ((0 ≤ (8 : Int) ∧ (8 : Int) < ((11 : Nat) : Int)) ∧
 (ao15 = ao15 ∧
 (8 < 11 ∧
 (True ∧
 (ao15 = ao15 ∧
 (11 = 11 ∧
 ((0 ≤ (9 : Int) ∧ (9 : Int) < ((11 : Nat) : Int)) ∧
 (ao15 = ao15 ∧
 (9 < 11 ∧
 (b12 = b12 ∧
 (((el (7 : Int)) ∧
 (el (d 7))) ∧
 (∀ z19 : Int,
 (z19 = (gfM (7 : Int) (d 7)) →
 (True ∧
 (ao15 = ao15 ∧
 (11 = 11 ∧
 ((0 ≤ (9 : Int) ∧ (9 : Int) < ((11 : Nat) : Int)) ∧
 (ao15 = ao15 ∧
 (9 < 11 ∧
 (True ∧
 (ao15 = ao15 ∧
 (11 = 11 ∧
 ((0 ≤ (10 : Int) ∧ (10 : Int) < ((11 : Nat) : Int)) ∧
 (ao15 = ao15 ∧
 (10 < 11 ∧
 (b12 = b12 ∧
 (((el (1 : Int)) ∧
 (el (d 7))) ∧
 (∀ z20 : Int,
 (z20 = (gfM (1 : Int) (d 7)) →
 (True ∧
 (ao15 = ao15 ∧
 (11 = 11 ∧
 ((0 ≤ (10 : Int) ∧ (10 : Int) < ((11 : Nat) : Int)) ∧
 (ao15 = ao15 ∧
 (10 < 11 ∧
 (True ∧
 (ao15 = ao15 ∧
 (11 = 11 ∧
 ((0 ≤ (9 : Int) ∧ (9 : Int) < ((11 : Nat) : Int)) ∧
 (ao15 = ao15 ∧
 (9 < 11 ∧
 (ao15 = ao15 ∧
 (11 = 11 ∧
 ((0 ≤ (6 : Int) ∧ (6 : Int) < ((11 : Nat) : Int)) ∧
 (ao15 = ao15 ∧
 (6 < 11 ∧
 (b12 = b12 ∧
 (((el (8 : Int)) ∧
 (el (bits BinOp.xor .i64 (d 6) z19))) ∧
 (∀ z21 : Int,
 (z21 = (gfM (8 : Int) (bits BinOp.xor .i64 (d 6) z19)) →
 (True ∧
 (ao15 = ao15 ∧
 (11 = 11 ∧
 ((0 ≤ (6 : Int) ∧ (6 : Int) < ((11 : Nat) : Int)) ∧
 (ao15 = ao15 ∧
 (6 < 11 ∧
 (True ∧
 (ao15 = ao15 ∧
 (11 = 11 ∧
 ((0 ≤ (7 : Int) ∧ (7 : Int) < ((11 : Nat) : Int)) ∧
 (ao15 = ao15 ∧
 (7 < 11 ∧
 (b12 = b12 ∧
 (((el (14 : Int)) ∧
 (el (bits BinOp.xor .i64 (d 6) z19))) ∧
 (∀ z22 : Int,
 (z22 = (gfM (14 : Int) (bits BinOp.xor .i64 (d 6) z19)) →
 (True ∧
 (ao15 = ao15 ∧
 (11 = 11 ∧
 ((0 ≤ (7 : Int) ∧ (7 : Int) < ((11 : Nat) : Int)) ∧
 (ao15 = ao15 ∧
 (7 < 11 ∧
 (True ∧
 (ao15 = ao15 ∧
 (11 = 11 ∧
 ((0 ≤ (8 : Int) ∧ (8 : Int) < ((11 : Nat) : Int)) ∧
 (ao15 = ao15 ∧
 (8 < 11 ∧
 (b12 = b12 ∧
 (((el (7 : Int)) ∧
 (el (bits BinOp.xor .i64 (d 6) z19))) ∧
 (∀ z23 : Int,
 (z23 = (gfM (7 : Int) (bits BinOp.xor .i64 (d 6) z19)) →
 (True ∧
 (ao15 = ao15 ∧
 (11 = 11 ∧
 ((0 ≤ (8 : Int) ∧ (8 : Int) < ((11 : Nat) : Int)) ∧
 (ao15 = ao15 ∧
 (8 < 11 ∧
 (True ∧
 (ao15 = ao15 ∧
 (11 = 11 ∧
 ((0 ≤ (9 : Int) ∧ (9 : Int) < ((11 : Nat) : Int)) ∧
 (ao15 = ao15 ∧
 (9 < 11 ∧
 (b12 = b12 ∧
 (((el (1 : Int)) ∧
 (el (bits BinOp.xor .i64 (d 6) z19))) ∧
 (∀ z24 : Int,
 (z24 = (gfM (1 : Int) (bits BinOp.xor .i64 (d 6) z19)) →
 (True ∧
 (ao15 = ao15 ∧
 (11 = 11 ∧
 ((0 ≤ (9 : Int) ∧ (9 : Int) < ((11 : Nat) : Int)) ∧
 (ao15 = ao15 ∧
 (9 < 11 ∧
 (True ∧
 (ao15 = ao15 ∧
 (11 = 11 ∧
 ((0 ≤ (8 : Int) ∧ (8 : Int) < ((11 : Nat) : Int)) ∧
 (ao15 = ao15 ∧
 (8 < 11 ∧
 (ao15 = ao15 ∧
 (11 = 11 ∧
 ((0 ≤ (5 : Int) ∧ (5 : Int) < ((11 : Nat) : Int)) ∧
 (ao15 = ao15 ∧
 (5 < 11 ∧
 (b12 = b12 ∧
 (((el (8 : Int)) ∧
 (el (bits BinOp.xor .i64 (bits BinOp.xor .i64 (d 5) z18) z23))) ∧
 (∀ z25 : Int,
 (z25 = (gfM (8 : Int) (bits BinOp.xor .i64 (bits BinOp.xor .i64 (d 5) z18) z23)) →
 (True ∧
 (ao15 = ao15 ∧
 (11 = 11 ∧
 ((0 ≤ (5 : Int) ∧ (5 : Int) < ((11 : Nat) : Int)) ∧
 (ao15 = ao15 ∧
 (5 < 11 ∧
 (True ∧
 (ao15 = ao15 ∧
 (11 = 11 ∧
 ((0 ≤ (6 : Int) ∧ (6 : Int) < ((11 : Nat) : Int)) ∧
 (ao15 = ao15 ∧
 (6 < 11 ∧
 (b12 = b12 ∧
 (((el (14 : Int)) ∧
 (el (bits BinOp.xor .i64 (bits BinOp.xor .i64 (d 5) z18) z23))) ∧
 (∀ z26 : Int,
 (z26 = (gfM (14 : Int) (bits BinOp.xor .i64 (bits BinOp.xor .i64 (d 5) z18) z23)) →
 (True ∧
 (ao15 = ao15 ∧
 (11 = 11 ∧
 ((0 ≤ (6 : Int) ∧ (6 : Int) < ((11 : Nat) : Int)) ∧
 (ao15 = ao15 ∧
 (6 < 11 ∧
 (True ∧
 (ao15 = ao15 ∧
 (11 = 11 ∧
 ((0 ≤ (7 : Int) ∧ (7 : Int) < ((11 : Nat) : Int)) ∧
 (ao15 = ao15 ∧
 (7 < 11 ∧
 (b12 = b12 ∧
 (((el (7 : Int)) ∧
 (el (bits BinOp.xor .i64 (bits BinOp.xor .i64 (d 5) z18) z23))) ∧
 (∀ z27 : Int,
 (z27 = (gfM (7 : Int) (bits BinOp.xor .i64 (bits BinOp.xor .i64 (d 5) z18) z23)) →
 (True ∧
 (ao15 = ao15 ∧
 (11 = 11 ∧
 ((0 ≤ (7 : Int) ∧ (7 : Int) < ((11 : Nat) : Int)) ∧
 (ao15 = ao15 ∧
 (7 < 11 ∧
 (True ∧
 (ao15 = ao15 ∧
 (11 = 11 ∧
 ((0 ≤ (8 : Int) ∧ (8 : Int) < ((11 : Nat) : Int)) ∧
 (ao15 = ao15 ∧
 (8 < 11 ∧
 (b12 = b12 ∧
 (((el (1 : Int)) ∧
 (el (bits BinOp.xor .i64 (bits BinOp.xor .i64 (d 5) z18) z23))) ∧
 (∀ z28 : Int,
 (z28 = (gfM (1 : Int) (bits BinOp.xor .i64 (bits BinOp.xor .i64 (d 5) z18) z23)) →
 (True ∧
 (ao15 = ao15 ∧
 (11 = 11 ∧
 ((0 ≤ (8 : Int) ∧ (8 : Int) < ((11 : Nat) : Int)) ∧
 (ao15 = ao15 ∧
 (8 < 11 ∧
 (True ∧
 (ao15 = ao15 ∧
 (11 = 11 ∧
 ((0 ≤ (7 : Int) ∧ (7 : Int) < ((11 : Nat) : Int)) ∧
 (ao15 = ao15 ∧
 (7 < 11 ∧
 (ao15 = ao15 ∧
 (11 = 11 ∧
 ((0 ≤ (4 : Int) ∧ (4 : Int) < ((11 : Nat) : Int)) ∧
 (ao15 = ao15 ∧
 (4 < 11 ∧
 (b12 = b12 ∧
 (((el (8 : Int)) ∧
 (el (bits BinOp.xor .i64 (bits BinOp.xor .i64 (bits BinOp.xor .i64 (d 4) z17) z22) z27))) ∧
 (∀ z29 : Int,
 (z29 = (gfM (8 : Int) (bits BinOp.xor .i64 (bits BinOp.xor .i64 (bits BinOp.xor .i64 (d 4) z17) z22) z27)) →
 (True ∧
 (ao15 = ao15 ∧
 (11 = 11 ∧
 ((0 ≤ (4 : Int) ∧ (4 : Int) < ((11 : Nat) : Int)) ∧
 (ao15 = ao15 ∧
 (4 < 11 ∧
 (True ∧
 (ao15 = ao15 ∧
 (11 = 11 ∧
 ((0 ≤ (5 : Int) ∧ (5 : Int) < ((11 : Nat) : Int)) ∧
 (ao15 = ao15 ∧
 (5 < 11 ∧
 (b12 = b12 ∧
 (((el (14 : Int)) ∧
 (el (bits BinOp.xor .i64 (bits BinOp.xor .i64 (bits BinOp.xor .i64 (d 4) z17) z22) z27))) ∧
 (∀ z30 : Int,
 (z30 = (gfM (14 : Int) (bits BinOp.xor .i64 (bits BinOp.xor .i64 (bits BinOp.xor .i64 (d 4) z17) z22) z27)) →
 (True ∧
 (ao15 = ao15 ∧
 (11 = 11 ∧
 ((0 ≤ (5 : Int) ∧ (5 : Int) < ((11 : Nat) : Int)) ∧
 (ao15 = ao15 ∧
 (5 < 11 ∧
 (True ∧
 (ao15 = ao15 ∧
 (11 = 11 ∧
 ((0 ≤ (6 : Int) ∧ (6 : Int) < ((11 : Nat) : Int)) ∧
 (ao15 = ao15 ∧
 (6 < 11 ∧
 (b12 = b12 ∧
 (((el (7 : Int)) ∧
 (el (bits BinOp.xor .i64 (bits BinOp.xor .i64 (bits BinOp.xor .i64 (d 4) z17) z22) z27))) ∧
 (∀ z31 : Int,
 (z31 = (gfM (7 : Int) (bits BinOp.xor .i64 (bits BinOp.xor .i64 (bits BinOp.xor .i64 (d 4) z17) z22) z27)) →
 (True ∧
 (ao15 = ao15 ∧
 (11 = 11 ∧
 ((0 ≤ (6 : Int) ∧ (6 : Int) < ((11 : Nat) : Int)) ∧
 (ao15 = ao15 ∧
 (6 < 11 ∧
 (True ∧
 (ao15 = ao15 ∧
 (11 = 11 ∧
 ((0 ≤ (7 : Int) ∧ (7 : Int) < ((11 : Nat) : Int)) ∧
 (ao15 = ao15 ∧
 (7 < 11 ∧
 (b12 = b12 ∧
 (((el (1 : Int)) ∧
 (el (bits BinOp.xor .i64 (bits BinOp.xor .i64 (bits BinOp.xor .i64 (d 4) z17) z22) z27))) ∧
 (∀ z32 : Int,
 (z32 = (gfM (1 : Int) (bits BinOp.xor .i64 (bits BinOp.xor .i64 (bits BinOp.xor .i64 (d 4) z17) z22) z27)) →
 (True ∧
 (ao15 = ao15 ∧
 (11 = 11 ∧
 ((0 ≤ (7 : Int) ∧ (7 : Int) < ((11 : Nat) : Int)) ∧
 (ao15 = ao15 ∧
 (7 < 11 ∧
 (True ∧
 (ao15 = ao15 ∧
 (11 = 11 ∧
 ((0 ≤ (6 : Int) ∧ (6 : Int) < ((11 : Nat) : Int)) ∧
 (ao15 = ao15 ∧
 (6 < 11 ∧
 (ao15 = ao15 ∧
 (11 = 11 ∧
 ((0 ≤ (3 : Int) ∧ (3 : Int) < ((11 : Nat) : Int)) ∧
 (ao15 = ao15 ∧
 (3 < 11 ∧
 (b12 = b12 ∧
 (((el (8 : Int)) ∧
 (el (bits BinOp.xor .i64 (bits BinOp.xor .i64 (bits BinOp.xor .i64 (d 3) z21) z26) z31))) ∧
 (∀ z33 : Int,
 (z33 = (gfM (8 : Int) (bits BinOp.xor .i64 (bits BinOp.xor .i64 (bits BinOp.xor .i64 (d 3) z21) z26) z31)) →
 (True ∧
 (ao15 = ao15 ∧
 (11 = 11 ∧
 ((0 ≤ (3 : Int) ∧ (3 : Int) < ((11 : Nat) : Int)) ∧
 (ao15 = ao15 ∧
 (3 < 11 ∧
 (True ∧
 (ao15 = ao15 ∧
 (11 = 11 ∧
 ((0 ≤ (4 : Int) ∧ (4 : Int) < ((11 : Nat) : Int)) ∧
 (ao15 = ao15 ∧
 (4 < 11 ∧
 (b12 = b12 ∧
 (((el (14 : Int)) ∧
 (el (bits BinOp.xor .i64 (bits BinOp.xor .i64 (bits BinOp.xor .i64 (d 3) z21) z26) z31))) ∧
 (∀ z34 : Int,
 (z34 = (gfM (14 : Int) (bits BinOp.xor .i64 (bits BinOp.xor .i64 (bits BinOp.xor .i64 (d 3) z21) z26) z31)) →
 (True ∧
 (ao15 = ao15 ∧
 (11 = 11 ∧
 ((0 ≤ (4 : Int) ∧ (4 : Int) < ((11 : Nat) : Int)) ∧
 (ao15 = ao15 ∧
 (4 < 11 ∧
 (True ∧
 (ao15 = ao15 ∧
 (11 = 11 ∧
 ((0 ≤ (5 : Int) ∧ (5 : Int) < ((11 : Nat) : Int)) ∧
 (ao15 = ao15 ∧
 (5 < 11 ∧
 (b12 = b12 ∧
 (((el (7 : Int)) ∧
 (el (bits BinOp.xor .i64 (bits BinOp.xor .i64 (bits BinOp.xor .i64 (d 3) z21) z26) z31))) ∧
 (∀ z35 : Int,
 (z35 = (gfM (7 : Int) (bits BinOp.xor .i64 (bits BinOp.xor .i64 (bits BinOp.xor .i64 (d 3) z21) z26) z31)) →
 (True ∧
 (ao15 = ao15 ∧
 (11 = 11 ∧
 ((0 ≤ (5 : Int) ∧ (5 : Int) < ((11 : Nat) : Int)) ∧
 (ao15 = ao15 ∧
 (5 < 11 ∧
 (True ∧
 (ao15 = ao15 ∧
 (11 = 11 ∧
 ((0 ≤ (6 : Int) ∧ (6 : Int) < ((11 : Nat) : Int)) ∧
 (ao15 = ao15 ∧
 (6 < 11 ∧
 (b12 = b12 ∧
 (((el (1 : Int)) ∧
 (el (bits BinOp.xor .i64 (bits BinOp.xor .i64 (bits BinOp.xor .i64 (d 3) z21) z26) z31))) ∧
 (∀ z36 : Int,
 (z36 = (gfM (1 : Int) (bits BinOp.xor .i64 (bits BinOp.xor .i64 (bits BinOp.xor .i64 (d 3) z21) z26) z31)) →
 (True ∧
 (ao15 = ao15 ∧
 (11 = 11 ∧
 ((0 ≤ (6 : Int) ∧ (6 : Int) < ((11 : Nat) : Int)) ∧
 (ao15 = ao15 ∧
 (6 < 11 ∧
 (True ∧
 (ao15 = ao15 ∧
 (11 = 11 ∧
 ((0 ≤ (5 : Int) ∧ (5 : Int) < ((11 : Nat) : Int)) ∧
 (ao15 = ao15 ∧
 (5 < 11 ∧
 (ao15 = ao15 ∧
 (11 = 11 ∧
 ((0 ≤ (2 : Int) ∧ (2 : Int) < ((11 : Nat) : Int)) ∧
 (ao15 = ao15 ∧
 (2 < 11 ∧
 (b12 = b12 ∧
 (((el (8 : Int)) ∧
 (el (bits BinOp.xor .i64 (bits BinOp.xor .i64 (bits BinOp.xor .i64 (d 2) z25) z30) z35))) ∧
 (∀ z37 : Int,
 (z37 = (gfM (8 : Int) (bits BinOp.xor .i64 (bits BinOp.xor .i64 (bits BinOp.xor .i64 (d 2) z25) z30) z35)) →
 (True ∧
 (ao15 = ao15 ∧
 (11 = 11 ∧
 ((0 ≤ (2 : Int) ∧ (2 : Int) < ((11 : Nat) : Int)) ∧
 (ao15 = ao15 ∧
 (2 < 11 ∧
 (True ∧
 (ao15 = ao15 ∧
 (11 = 11 ∧
 ((0 ≤ (3 : Int) ∧ (3 : Int) < ((11 : Nat) : Int)) ∧
 (ao15 = ao15 ∧
 (3 < 11 ∧
 (b12 = b12 ∧
 (((el (14 : Int)) ∧
 (el (bits BinOp.xor .i64 (bits BinOp.xor .i64 (bits BinOp.xor .i64 (d 2) z25) z30) z35))) ∧
 (∀ z38 : Int,
 (z38 = (gfM (14 : Int) (bits BinOp.xor .i64 (bits BinOp.xor .i64 (bits BinOp.xor .i64 (d 2) z25) z30) z35)) →
 (True ∧
 (ao15 = ao15 ∧
 (11 = 11 ∧
 ((0 ≤ (3 : Int) ∧ (3 : Int) < ((11 : Nat) : Int)) ∧
 (ao15 = ao15 ∧
 (3 < 11 ∧
 (True ∧
 (ao15 = ao15 ∧
 (11 = 11 ∧
 ((0 ≤ (4 : Int) ∧ (4 : Int) < ((11 : Nat) : Int)) ∧
 (ao15 = ao15 ∧
 (4 < 11 ∧
 (b12 = b12 ∧
 (((el (7 : Int)) ∧
 (el (bits BinOp.xor .i64 (bits BinOp.xor .i64 (bits BinOp.xor .i64 (d 2) z25) z30) z35))) ∧
 (∀ z39 : Int,
 (z39 = (gfM (7 : Int) (bits BinOp.xor .i64 (bits BinOp.xor .i64 (bits BinOp.xor .i64 (d 2) z25) z30) z35)) →
 (True ∧
 (ao15 = ao15 ∧
 (11 = 11 ∧
 ((0 ≤ (4 : Int) ∧ (4 : Int) < ((11 : Nat) : Int)) ∧
 (ao15 = ao15 ∧
 (4 < 11 ∧
 (True ∧
 (ao15 = ao15 ∧
 (11 = 11 ∧
 ((0 ≤ (5 : Int) ∧ (5 : Int) < ((11 : Nat) : Int)) ∧
 (ao15 = ao15 ∧
 (5 < 11 ∧
 (b12 = b12 ∧
 (((el (1 : Int)) ∧
 (el (bits BinOp.xor .i64 (bits BinOp.xor .i64 (bits BinOp.xor .i64 (d 2) z25) z30) z35))) ∧
 (∀ z40 : Int,
 (z40 = (gfM (1 : Int) (bits BinOp.xor .i64 (bits BinOp.xor .i64 (bits BinOp.xor .i64 (d 2) z25) z30) z35)) →
 (True ∧
 (ao15 = ao15 ∧
 (11 = 11 ∧
 ((0 ≤ (5 : Int) ∧ (5 : Int) < ((11 : Nat) : Int)) ∧
 (ao15 = ao15 ∧
 (5 < 11 ∧
 (True ∧
 (ao15 = ao15 ∧
 (11 = 11 ∧
 ((0 ≤ (4 : Int) ∧ (4 : Int) < ((11 : Nat) : Int)) ∧
 (ao15 = ao15 ∧
 (4 < 11 ∧
 (ao15 = ao15 ∧
 (11 = 11 ∧
 ((0 ≤ (1 : Int) ∧ (1 : Int) < ((11 : Nat) : Int)) ∧
 (ao15 = ao15 ∧
 (1 < 11 ∧
 (b12 = b12 ∧
 (((el (8 : Int)) ∧
 (el (bits BinOp.xor .i64 (bits BinOp.xor .i64 (bits BinOp.xor .i64 (d 1) z29) z34) z39))) ∧
 (∀ z41 : Int,
 (z41 = (gfM (8 : Int) (bits BinOp.xor .i64 (bits BinOp.xor .i64 (bits BinOp.xor .i64 (d 1) z29) z34) z39)) →
 (True ∧
 (ao15 = ao15 ∧
 (11 = 11 ∧
 ((0 ≤ (1 : Int) ∧ (1 : Int) < ((11 : Nat) : Int)) ∧
 (ao15 = ao15 ∧
 (1 < 11 ∧
 (True ∧
 (ao15 = ao15 ∧
 (11 = 11 ∧
 ((0 ≤ (2 : Int) ∧ (2 : Int) < ((11 : Nat) : Int)) ∧
 (ao15 = ao15 ∧
 (2 < 11 ∧
 (b12 = b12 ∧
 (((el (14 : Int)) ∧
 (el (bits BinOp.xor .i64 (bits BinOp.xor .i64 (bits BinOp.xor .i64 (d 1) z29) z34) z39))) ∧
 (∀ z42 : Int,
 (z42 = (gfM (14 : Int) (bits BinOp.xor .i64 (bits BinOp.xor .i64 (bits BinOp.xor .i64 (d 1) z29) z34) z39)) →
 (True ∧
 (ao15 = ao15 ∧
 (11 = 11 ∧
 ((0 ≤ (2 : Int) ∧ (2 : Int) < ((11 : Nat) : Int)) ∧
 (ao15 = ao15 ∧
 (2 < 11 ∧
 (True ∧
 (ao15 = ao15 ∧
 (11 = 11 ∧
 ((0 ≤ (3 : Int) ∧ (3 : Int) < ((11 : Nat) : Int)) ∧
 (ao15 = ao15 ∧
 (3 < 11 ∧
 (b12 = b12 ∧
 (((el (7 : Int)) ∧
 (el (bits BinOp.xor .i64 (bits BinOp.xor .i64 (bits BinOp.xor .i64 (d 1) z29) z34) z39))) ∧
 (∀ z43 : Int,
 (z43 = (gfM (7 : Int) (bits BinOp.xor .i64 (bits BinOp.xor .i64 (bits BinOp.xor .i64 (d 1) z29) z34) z39)) →
 (True ∧
 (ao15 = ao15 ∧
 (11 = 11 ∧
 ((0 ≤ (3 : Int) ∧ (3 : Int) < ((11 : Nat) : Int)) ∧
 (ao15 = ao15 ∧
 (3 < 11 ∧
 (True ∧
 (ao15 = ao15 ∧
 (11 = 11 ∧
 ((0 ≤ (4 : Int) ∧ (4 : Int) < ((11 : Nat) : Int)) ∧
 (ao15 = ao15 ∧
 (4 < 11 ∧
 (b12 = b12 ∧
 (((el (1 : Int)) ∧
 (el (bits BinOp.xor .i64 (bits BinOp.xor .i64 (bits BinOp.xor .i64 (d 1) z29) z34) z39))) ∧
 (∀ z44 : Int,
 (z44 = (gfM (1 : Int) (bits BinOp.xor .i64 (bits BinOp.xor .i64 (bits BinOp.xor .i64 (d 1) z29) z34) z39)) →
 (True ∧
 (ao15 = ao15 ∧
 (11 = 11 ∧
 ((0 ≤ (4 : Int) ∧ (4 : Int) < ((11 : Nat) : Int)) ∧
 (ao15 = ao15 ∧
 (4 < 11 ∧
 (True ∧
 (ao15 = ao15 ∧
 (11 = 11 ∧
 ((0 ≤ (3 : Int) ∧ (3 : Int) < ((11 : Nat) : Int)) ∧
 (ao15 = ao15 ∧
 (3 < 11 ∧
 (ao15 = ao15 ∧
 (11 = 11 ∧
 ((0 ≤ (0 : Int) ∧ (0 : Int) < ((11 : Nat) : Int)) ∧
 (ao15 = ao15 ∧
 (0 < 11 ∧
 (b12 = b12 ∧
 (((el (8 : Int)) ∧
 (el (bits BinOp.xor .i64 (bits BinOp.xor .i64 (bits BinOp.xor .i64 (d 0) z33) z38) z43))) ∧
 (∀ z45 : Int,
 (z45 = (gfM (8 : Int) (bits BinOp.xor .i64 (bits BinOp.xor .i64 (bits BinOp.xor .i64 (d 0) z33) z38) z43)) →
 (True ∧
 (ao15 = ao15 ∧
 (11 = 11 ∧
 ((0 ≤ (0 : Int) ∧ (0 : Int) < ((11 : Nat) : Int)) ∧
 (ao15 = ao15 ∧
 (0 < 11 ∧
 (True ∧
 (ao15 = ao15 ∧
 (11 = 11 ∧
 ((0 ≤ (1 : Int) ∧ (1 : Int) < ((11 : Nat) : Int)) ∧
 (ao15 = ao15 ∧
 (1 < 11 ∧
 (b12 = b12 ∧
 (((el (14 : Int)) ∧
 (el (bits BinOp.xor .i64 (bits BinOp.xor .i64 (bits BinOp.xor .i64 (d 0) z33) z38) z43))) ∧
 (∀ z46 : Int,
 (z46 = (gfM (14 : Int) (bits BinOp.xor .i64 (bits BinOp.xor .i64 (bits BinOp.xor .i64 (d 0) z33) z38) z43)) →
 (True ∧
 (ao15 = ao15 ∧
 (11 = 11 ∧
 ((0 ≤ (1 : Int) ∧ (1 : Int) < ((11 : Nat) : Int)) ∧
 (ao15 = ao15 ∧
 (1 < 11 ∧
 (True ∧
 (ao15 = ao15 ∧
 (11 = 11 ∧
 ((0 ≤ (2 : Int) ∧ (2 : Int) < ((11 : Nat) : Int)) ∧
 (ao15 = ao15 ∧
 (2 < 11 ∧
 (b12 = b12 ∧
 (((el (7 : Int)) ∧
 (el (bits BinOp.xor .i64 (bits BinOp.xor .i64 (bits BinOp.xor .i64 (d 0) z33) z38) z43))) ∧
 (∀ z47 : Int,
 (z47 = (gfM (7 : Int) (bits BinOp.xor .i64 (bits BinOp.xor .i64 (bits BinOp.xor .i64 (d 0) z33) z38) z43)) →
 (True ∧
 (ao15 = ao15 ∧
 (11 = 11 ∧
 ((0 ≤ (2 : Int) ∧ (2 : Int) < ((11 : Nat) : Int)) ∧
 (ao15 = ao15 ∧
 (2 < 11 ∧
 (True ∧
 (ao15 = ao15 ∧
 (11 = 11 ∧
 ((0 ≤ (3 : Int) ∧ (3 : Int) < ((11 : Nat) : Int)) ∧
 (ao15 = ao15 ∧
 (3 < 11 ∧
 (b12 = b12 ∧
 (((el (1 : Int)) ∧
 (el (bits BinOp.xor .i64 (bits BinOp.xor .i64 (bits BinOp.xor .i64 (d 0) z33) z38) z43))) ∧
 (∀ z48 : Int,
 (z48 = (gfM (1 : Int) (bits BinOp.xor .i64 (bits BinOp.xor .i64 (bits BinOp.xor .i64 (d 0) z33) z38) z43)) →
 (True ∧
 (ao15 = ao15 ∧
 (11 = 11 ∧
 ((0 ≤ (3 : Int) ∧ (3 : Int) < ((11 : Nat) : Int)) ∧
 (ao15 = ao15 ∧
 (3 < 11 ∧
 (True ∧
 (ao15 = ao15 ∧
 (11 = 11 ∧
 ((0 ≤ (0 : Int) ∧ (0 : Int) < ((11 : Nat) : Int)) ∧
 (ao15 = ao15 ∧
 (0 < 11 ∧
 (ao'8 = ao'8 ∧
 (11 = 11 ∧
 ((0 ≤ (0 : Int) ∧ (0 : Int) < ((11 : Nat) : Int)) ∧
 (ao'8 = ao'8 ∧
 (0 < 11 ∧
 (ao15 = ao15 ∧
 (11 = 11 ∧
 ((0 ≤ (1 : Int) ∧ (1 : Int) < ((11 : Nat) : Int)) ∧
 (ao15 = ao15 ∧
 (1 < 11 ∧
 (ao'8 = ao'8 ∧
 (11 = 11 ∧
 ((0 ≤ (1 : Int) ∧ (1 : Int) < ((11 : Nat) : Int)) ∧
 (ao'8 = ao'8 ∧
 (1 < 11 ∧
 (ao15 = ao15 ∧
 (11 = 11 ∧
 ((0 ≤ (2 : Int) ∧ (2 : Int) < ((11 : Nat) : Int)) ∧
 (ao15 = ao15 ∧
 (2 < 11 ∧
 (ao'8 = ao'8 ∧
 (11 = 11 ∧
 ((0 ≤ (2 : Int) ∧ (2 : Int) < ((11 : Nat) : Int)) ∧
 (ao'8 = ao'8 ∧
 (2 < 11 ∧
 (∃ ro49 : (Option Addr), (∃ rc50 : Nat, ((Ws ao'8 11 cap'9) = (Ws ro49 11 rc50) ∧
 (((true = true ∧
 (ao'8 = ro49 ∧
 (3 = 3 ∧
 (1 = 1 ∧
 (11 = 11 ∧
 (cap'9 = rc50 ∧
 ((∀ i51 : Nat,
 (i51 < 11 →
 (Wi (if i51 = 2 then (bits BinOp.xor .i64 (bits BinOp.xor .i64 (bits BinOp.xor .i64 (0 : Int) z37) z42) z47) else (if i51 = 1 then (bits BinOp.xor .i64 (bits BinOp.xor .i64 (0 : Int) z41) z46) else (if i51 = 0 then (bits BinOp.xor .i64 (0 : Int) z45) else (if i51 < 3 then (litZ [(0 : Int), (0 : Int), (0 : Int)] i51) else (d (i51 - 3))))))) = (Wi (enc d i51)))) ∧
 True))))))) ∧
 True) ∧
 true = true))))))))))))))))))))))))))))))))))))))))))))))))))))))))))))))))))))))))))))))))))))))))))))))))))))))))))))))))))))))))))))))))))))))))))))))))))))))))))))))))))))))))))))))))))))))))))))))))))))))))))))))))))))))))))))))))))))))))))))))))))))))))))))))))))))))))))))))))))))))))))))))))))))))))))))))))))))))))))))))))))))))))))))))))))))))))))))))))))))))))))))))))))))))))))))))))))))))))))))))))))))))))))))))))))))))))))))))))))))))))))))))))))))))))))))))))))))))))))))))))))))))))))))))))))))))))))))))))))))))))))))))))))))))))))))))))))))))))))))))))))))))))))))))))))))))))))))))))))))))))))))))))))))))))))))))))))))))))))))))))))))))))))))))) := by kernel_rfl
theorem encS_any (ao : Option Addr) (c : Nat) (d : Nat → Int) (w : World) (h : Row.sat w ⟨false, ao, 0, 1, 8, 0, [fun i => .int (d i)]⟩) (hsy : symB 8 d 8 = true) : Calls Try.prog 107 #[.slice ao 8 c] w fun e w' => ∃ (ro : Option Addr) (rc : Nat), e = .returned (.slice ro 11 rc) ∧ HS ⟨w, fun _ => False⟩ [.row ⟨true, ro, 3, 1, 11, rc, [fun i => .int (enc d i)]⟩] w' := by
  refine fn_ok mixed (E := {tb := [(64, sSym), (118, sPow), (117, sMul)], L := [(17, relit Try.prog {tb := [(117, sMul)]} 400 10 (theLoop Try.f107 2) 9 (.il 10))]}) ⟨sSym_S, sPow_S, sMul_S, trivial⟩ Try.func107 (key_loop (ks := [6, 10, 17, 21, 26]) 2 17 (by kernel_rfl) (by decide) rfl (relit_ok mixed (E := {tb := [(117, sMul)]}) ⟨sMul_S, trivial⟩ (loopsOK_nil _ _ _))) (@Eq.mpr _ _ (encS_T ao c d) ?_) (HS.rows (fun _ => False) [⟨false, ao, 0, 1, 8, 0, [fun i => .int (d i)]⟩] (by simpa using h)) (fun v ch' w' ⟨ro, rc, hk⟩ hs => ⟨ro, rc, by rw [hk.1], hk.hs hs⟩)
  clear h
  have hel := symB_el hsy
  have hfr : symB 11 (fun i => if i < 3 then litZ [0, 0, 0] i else d (i - 3)) 11 = true := symB_mk (fun i hi => by
    by_cases h3 : i < 3
    · simp only [if_pos h3]
      match i, h3 with
      | 0, _ => exact ⟨by decide, by decide⟩
      | 1, _ => exact ⟨by decide, by decide⟩
      | 2, _ => exact ⟨by decide, by decide⟩
    · simp only [if_neg h3]
      exact hel _ (by omega)) rfl
  have hfe : ∀ j, j < 3 → el (syn (fun i => if i < 3 then litZ [0, 0, 0] i else d (i - 3)) j) := fun j hj => syn_el (symB_el hfr) hj
  repeat' (first
    | with_reducible exact rfl
    | exact True.intro
    | with_reducible assumption
    | (intro h; exfalso; rw [hsy] at h; simp at h; done)
    | with_reducible exact hfr
    | with_reducible exact hfe _ (by omega)
    | with_reducible exact hel _ (by omega)
    | (with_reducible refine mulStep ?_ ?_ (fun z hze hz => ?_))
    | (with_reducible refine el_xor ?_ ?_)
    | (intro i hi; subst_vars; rcases lt11 hi with rfl | rfl | rfl | rfl | rfl | rfl | rfl | rfl | rfl | rfl | rfl; exact congrArg (fun z => Value.int .i64 z) ((show _ = (divE 8 0).ei d by kernel_rfl).trans (enc_div hel (by omega))); exact congrArg (fun z => Value.int .i64 z) ((show _ = (divE 8 1).ei d by kernel_rfl).trans (enc_div hel (by omega))); exact congrArg (fun z => Value.int .i64 z) ((show _ = (divE 8 2).ei d by kernel_rfl).trans (enc_div hel (by omega))); (show (_ : Value) = _; kernel_rfl); (show (_ : Value) = _; kernel_rfl); (show (_ : Value) = _; kernel_rfl); (show (_ : Value) = _; kernel_rfl); (show (_ : Value) = _; kernel_rfl); (show (_ : Value) = _; kernel_rfl); (show (_ : Value) = _; kernel_rfl); (show (_ : Value) = _; kernel_rfl))
    | refine And.intro ?_ ?_
    | apply Exists.intro
    | (intro z hz; subst hz)
    | (intro h; exfalso; simp at h; done)
    | (intro h; exfalso; replace h := of_decide_eq_true h; omega)
    | (intro h; exfalso; replace h := of_decide_eq_false h; omega)
    | intro _
    | omega
    | exact rfl)

def sIwI : Sm := inlM Try.prog {tb := [(75, sBtw)]} 300 Try.f76
theorem sIwI_ok : SmOK Try.prog 76 sIwI := inlM_ok mixed (E := {tb := [(75, sBtw)]}) ⟨sBtwI_ok, trivial⟩ Try.func76 Try.call76 (fun _ _ _ => loopsOK_nil _ _ _)
def sIwS : Sm := inlM Try.prog {tb := [(63, sBtw)]} 300 Try.f74
theorem sIwS_ok : SmOK Try.prog 74 sIwS := inlM_ok mixed (E := {tb := [(63, sBtw)]}) ⟨sBtwS_ok, trivial⟩ Try.func74 Try.call74 (fun _ _ _ => loopsOK_nil _ _ _)
theorem sowI_T (x : Int) : (exFn Try.prog {tb := [(76, sIwI)]} 400 Try.f113 ([.a (.c (.int x))]) ([]) (fun v ch => ∃ (ro : Option Addr) (rc : Nat), OutR v ch (.slice ro 8 rc) [.row ⟨true, ro, 3, 1, 8, rc, [fun i => .int (wsym x i)]⟩])) = (
  (((!(btw x (0 : Int) (4294967295 : Int))) = true →
 (∃ ro0 : (Option Addr), (∃ rc1 : Nat, (Wn = (Ws ro0 8 rc1) ∧
 (((true = true ∧
 ((none : Option (Addr)) = ro0 ∧
 (0 = 8 ∧
 (0 = rc1 ∧
 true = true)))) ∧
 True) ∧
 true = true))))) ∧
 ((!(btw x (0 : Int) (4294967295 : Int))) = false →
 (∀ b2 : Nat,
 (∀ b3 : Nat,
 ((b2 = b2 ∧
 (b3 = b3 ∧
 ((∀ i4 : Nat,
 true = true) ∧
 (apC 0 1 8)))) ∧
 (∀ ao5 : (Option Addr),
 (∀ cap6 : Nat,
 (∀ b7 : Nat,
 ((ao5 = ao5 ∧
 (1 = 1 ∧
 (cap6 = cap6 ∧
 (b7 = b7 ∧
 ((∀ i8 : Nat,
 true = true) ∧
 (apC 1 1 8)))))) ∧
 (∀ ao'9 : (Option Addr),
 (∀ cap'10 : Nat,
 (∀ b11 : Nat,
 ((ao'9 = ao'9 ∧
 (2 = 2 ∧
 (cap'10 = cap'10 ∧
 (b11 = b11 ∧
 ((∀ i12 : Nat,
 true = true) ∧
 (apC 2 1 8)))))) ∧
 (∀ ao'13 : (Option Addr),
 (∀ cap'14 : Nat,
 (∀ b15 : Nat,
 ((ao'13 = ao'13 ∧
 (3 = 3 ∧
 (cap'14 = cap'14 ∧
 (b15 = b15 ∧
 ((∀ i16 : Nat,
 true = true) ∧
 (apC 3 1 8)))))) ∧
 (∀ ao'17 : (Option Addr),
 (∀ cap'18 : Nat,
 (∀ b19 : Nat,
 ((ao'17 = ao'17 ∧
 (4 = 4 ∧
 (cap'18 = cap'18 ∧
 (b19 = b19 ∧
 ((∀ i20 : Nat,
 true = true) ∧
 (apC 4 1 8)))))) ∧
 (∀ ao'21 : (Option Addr),
 (∀ cap'22 : Nat,
 (∀ b23 : Nat,
 ((ao'21 = ao'21 ∧
 (5 = 5 ∧
 (cap'22 = cap'22 ∧
 (b23 = b23 ∧
 ((∀ i24 : Nat,
 true = true) ∧
 (apC 5 1 8)))))) ∧
 (∀ ao'25 : (Option Addr),
 (∀ cap'26 : Nat,
 (∀ b27 : Nat,
 ((ao'25 = ao'25 ∧
 (6 = 6 ∧
 (cap'26 = cap'26 ∧
 (b27 = b27 ∧
 ((∀ i28 : Nat,
 true = true) ∧
 (apC 6 1 8)))))) ∧
 (∀ ao'29 : (Option Addr),
 (∀ cap'30 : Nat,
 (∀ b31 : Nat,
 ((ao'29 = ao'29 ∧
 (7 = 7 ∧
 (cap'30 = cap'30 ∧
 (b31 = b31 ∧
 ((∀ i32 : Nat,
 true = true) ∧
 (apC 7 1 8)))))) ∧
 (∀ ao'33 : (Option Addr),
 (∀ cap'34 : Nat,
 (∃ ro35 : (Option Addr), (∃ rc36 : Nat, ((Ws ao'33 8 cap'34) = (Ws ro35 8 rc36) ∧
 (((true = true ∧
 (ao'33 = ro35 ∧
 (3 = 3 ∧
 (1 = 1 ∧
 (8 = 8 ∧
 (cap'34 = rc36 ∧
 ((∀ i37 : Nat,
 (i37 < 8 →
 (Wi (if i37 < 7 then (if i37 < 6 then (if i37 < 5 then (if i37 < 4 then (if i37 < 3 then (if i37 < 2 then (if i37 < 1 then (bits BinOp.and .i64 (x / (1 : Int)) (15 : Int)) else (bits BinOp.and .i64 (x / (16 : Int)) (15 : Int))) else (bits BinOp.and .i64 (x / (256 : Int)) (15 : Int))) else (bits BinOp.and .i64 (x / (4096 : Int)) (15 : Int))) else (bits BinOp.and .i64 (x / (65536 : Int)) (15 : Int))) else (bits BinOp.and .i64 (x / (1048576 : Int)) (15 : Int))) else (bits BinOp.and .i64 (x / (16777216 : Int)) (15 : Int))) else (bits BinOp.and .i64 (x / (268435456 : Int)) (15 : Int)))) = (Wi (wsym x i37)))) ∧
 True))))))) ∧
 True) ∧
 true = true)))))))))))))))))))))))))))))))))))))))) := by kernel_rfl
theorem sowI_any (x : Int) (w : World) (hx : 0 ≤ x ∧ x ≤ 4294967295) : Calls Try.prog 113 #[.int .i64 x] w fun e w' => ∃ (ro : Option Addr) (rc : Nat), e = .returned (.slice ro 8 rc) ∧ HS ⟨w, fun _ => False⟩ [.row ⟨true, ro, 3, 1, 8, rc, [fun i => .int (wsym x i)]⟩] w' := by
  refine fn_ok mixed (E := {tb := [(76, sIwI)]}) ⟨sIwI_ok, trivial⟩ Try.func113 (fun _ _ => loopsOK_nil _ _ _) (@Eq.mpr _ _ (sowI_T x) ?_) (HS.start w (fun _ => False)) (fun v ch' w' ⟨ro, rc, hk⟩ hs => ⟨ro, rc, by rw [hk.1], hk.hs hs⟩)
  have hb : btw x 0 4294967295 = true := btw_mk hx.1 hx.2
  repeat' (first
    | with_reducible exact rfl
    | exact True.intro
    | with_reducible assumption
    | (intro h; exfalso; rw [hb] at h; simp at h; done)
    | (intro i hi; rcases lt8 hi with rfl | rfl | rfl | rfl | rfl | rfl | rfl | rfl <;> (show (_ : Value) = _; kernel_rfl))
    | refine And.intro ?_ ?_
    | apply Exists.intro
    | (intro z hz; subst hz)
    | (intro h; exfalso; simp at h; done)
    | (intro h; exfalso; replace h := of_decide_eq_true h; omega)
    | (intro h; exfalso; replace h := of_decide_eq_false h; omega)
    | intro _
    | omega
    | exact rfl)
theorem sowS_T (x : Int) : (exFn Try.prog {tb := [(74, sIwS)]} 400 Try.f108 ([.a (.c (.int x))]) ([]) (fun v ch => ∃ (ro : Option Addr) (rc : Nat), OutR v ch (.slice ro 8 rc) [.row ⟨true, ro, 3, 1, 8, rc, [fun i => .int (wsym x i)]⟩])) = (
  (∀ b0 : Nat,
 (((btw x (0 : Int) (4294967295 : Int)) = true →
 (∀ b1 : Nat,
 ((b0 = b0 ∧
 (b1 = b1 ∧
 ((∀ i2 : Nat,
 true = true) ∧
 (apC 0 1 8)))) ∧
 (∀ ao3 : (Option Addr),
 (∀ cap4 : Nat,
 (((btw x (0 : Int) (4294967295 : Int)) = true →
 (∀ b5 : Nat,
 ((ao3 = ao3 ∧
 (1 = 1 ∧
 (cap4 = cap4 ∧
 (b5 = b5 ∧
 ((∀ i6 : Nat,
 true = true) ∧
 (apC 1 1 8)))))) ∧
 (∀ ao'7 : (Option Addr),
 (∀ cap'8 : Nat,
 (((btw x (0 : Int) (4294967295 : Int)) = true →
 (∀ b9 : Nat,
 ((ao'7 = ao'7 ∧
 (2 = 2 ∧
 (cap'8 = cap'8 ∧
 (b9 = b9 ∧
 ((∀ i10 : Nat,
 true = true) ∧
 (apC 2 1 8)))))) ∧
 (∀ ao'11 : (Option Addr),
 (∀ cap'12 : Nat,
 (((btw x (0 : Int) (4294967295 : Int)) = true →
 (∀ b13 : Nat,
 ((ao'11 = ao'11 ∧
 (3 = 3 ∧
 (cap'12 = cap'12 ∧
 (b13 = b13 ∧
 ((∀ i14 : Nat,
 true = true) ∧
 (apC 3 1 8)))))) ∧
 (∀ ao'15 : (Option Addr),
 (∀ cap'16 : Nat,
 (((btw x (0 : Int) (4294967295 : Int)) = true →
 (∀ b17 : Nat,
 ((ao'15 = ao'15 ∧
 (4 = 4 ∧
 (cap'16 = cap'16 ∧
 (b17 = b17 ∧
 ((∀ i18 : Nat,
 true = true) ∧
 (apC 4 1 8)))))) ∧
 (∀ ao'19 : (Option Addr),
 (∀ cap'20 : Nat,
 (((btw x (0 : Int) (4294967295 : Int)) = true →
 (∀ b21 : Nat,
 ((ao'19 = ao'19 ∧
 (5 = 5 ∧
 (cap'20 = cap'20 ∧
 (b21 = b21 ∧
 ((∀ i22 : Nat,
 true = true) ∧
 (apC 5 1 8)))))) ∧
 (∀ ao'23 : (Option Addr),
 (∀ cap'24 : Nat,
 (((btw x (0 : Int) (4294967295 : Int)) = true →
 (∀ b25 : Nat,
 ((ao'23 = ao'23 ∧
 (6 = 6 ∧
 (cap'24 = cap'24 ∧
 (b25 = b25 ∧
 ((∀ i26 : Nat,
 true = true) ∧
 (apC 6 1 8)))))) ∧
 (∀ ao'27 : (Option Addr),
 (∀ cap'28 : Nat,
 (((btw x (0 : Int) (4294967295 : Int)) = true →
 (∀ b29 : Nat,
 ((ao'27 = ao'27 ∧
 (7 = 7 ∧
 (cap'28 = cap'28 ∧
 (b29 = b29 ∧
 ((∀ i30 : Nat,
 true = true) ∧
 (apC 7 1 8)))))) ∧
 (∀ ao'31 : (Option Addr),
 (∀ cap'32 : Nat,
 (∃ ro33 : (Option Addr), (∃ rc34 : Nat, ((Ws ao'31 8 cap'32) = (Ws ro33 8 rc34) ∧
 (((true = true ∧
 (ao'31 = ro33 ∧
 (3 = 3 ∧
 (1 = 1 ∧
 (8 = 8 ∧
 (cap'32 = rc34 ∧
 ((∀ i35 : Nat,
 (i35 < 8 →
 (Wi (if i35 < 7 then (if i35 < 6 then (if i35 < 5 then (if i35 < 4 then (if i35 < 3 then (if i35 < 2 then (if i35 < 1 then (bits BinOp.and .i64 (x / (1 : Int)) (15 : Int)) else (bits BinOp.and .i64 (x / (16 : Int)) (15 : Int))) else (bits BinOp.and .i64 (x / (256 : Int)) (15 : Int))) else (bits BinOp.and .i64 (x / (4096 : Int)) (15 : Int))) else (bits BinOp.and .i64 (x / (65536 : Int)) (15 : Int))) else (bits BinOp.and .i64 (x / (1048576 : Int)) (15 : Int))) else (bits BinOp.and .i64 (x / (16777216 : Int)) (15 : Int))) else (bits BinOp.and .i64 (x / (268435456 : Int)) (15 : Int)))) = (Wi (wsym x i35)))) ∧
 True))))))) ∧
 True) ∧
 true = true))))))))) ∧
 ((btw x (0 : Int) (4294967295 : Int)) = false →
 (∃ ro36 : (Option Addr), (∃ rc37 : Nat, ((Ws ao'27 7 cap'28) = (Ws ro36 8 rc37) ∧
 (((true = true ∧
 (ao'27 = ro36 ∧
 (3 = 3 ∧
 (1 = 1 ∧
 (7 = 8 ∧
 (cap'28 = rc37 ∧
 ((∀ i38 : Nat,
 (i38 < 7 →
 (Wi (if i38 < 6 then (if i38 < 5 then (if i38 < 4 then (if i38 < 3 then (if i38 < 2 then (if i38 < 1 then (bits BinOp.and .i64 (x / (1 : Int)) (15 : Int)) else (bits BinOp.and .i64 (x / (16 : Int)) (15 : Int))) else (bits BinOp.and .i64 (x / (256 : Int)) (15 : Int))) else (bits BinOp.and .i64 (x / (4096 : Int)) (15 : Int))) else (bits BinOp.and .i64 (x / (65536 : Int)) (15 : Int))) else (bits BinOp.and .i64 (x / (1048576 : Int)) (15 : Int))) else (bits BinOp.and .i64 (x / (16777216 : Int)) (15 : Int)))) = (Wi (wsym x i38)))) ∧
 True))))))) ∧
 True) ∧
 true = true))))))))))) ∧
 ((btw x (0 : Int) (4294967295 : Int)) = false →
 (∃ ro39 : (Option Addr), (∃ rc40 : Nat, ((Ws ao'23 6 cap'24) = (Ws ro39 8 rc40) ∧
 (((true = true ∧
 (ao'23 = ro39 ∧
 (3 = 3 ∧
 (1 = 1 ∧
 (6 = 8 ∧
 (cap'24 = rc40 ∧
 ((∀ i41 : Nat,
 (i41 < 6 →
 (Wi (if i41 < 5 then (if i41 < 4 then (if i41 < 3 then (if i41 < 2 then (if i41 < 1 then (bits BinOp.and .i64 (x / (1 : Int)) (15 : Int)) else (bits BinOp.and .i64 (x / (16 : Int)) (15 : Int))) else (bits BinOp.and .i64 (x / (256 : Int)) (15 : Int))) else (bits BinOp.and .i64 (x / (4096 : Int)) (15 : Int))) else (bits BinOp.and .i64 (x / (65536 : Int)) (15 : Int))) else (bits BinOp.and .i64 (x / (1048576 : Int)) (15 : Int)))) = (Wi (wsym x i41)))) ∧
 True))))))) ∧
 True) ∧
 true = true))))))))))) ∧
 ((btw x (0 : Int) (4294967295 : Int)) = false →
 (∃ ro42 : (Option Addr), (∃ rc43 : Nat, ((Ws ao'19 5 cap'20) = (Ws ro42 8 rc43) ∧
 (((true = true ∧
 (ao'19 = ro42 ∧
 (3 = 3 ∧
 (1 = 1 ∧
 (5 = 8 ∧
 (cap'20 = rc43 ∧
 ((∀ i44 : Nat,
 (i44 < 5 →
 (Wi (if i44 < 4 then (if i44 < 3 then (if i44 < 2 then (if i44 < 1 then (bits BinOp.and .i64 (x / (1 : Int)) (15 : Int)) else (bits BinOp.and .i64 (x / (16 : Int)) (15 : Int))) else (bits BinOp.and .i64 (x / (256 : Int)) (15 : Int))) else (bits BinOp.and .i64 (x / (4096 : Int)) (15 : Int))) else (bits BinOp.and .i64 (x / (65536 : Int)) (15 : Int)))) = (Wi (wsym x i44)))) ∧
 True))))))) ∧
 True) ∧
 true = true))))))))))) ∧
 ((btw x (0 : Int) (4294967295 : Int)) = false →
 (∃ ro45 : (Option Addr), (∃ rc46 : Nat, ((Ws ao'15 4 cap'16) = (Ws ro45 8 rc46) ∧
 (((true = true ∧
 (ao'15 = ro45 ∧
 (3 = 3 ∧
 (1 = 1 ∧
 (4 = 8 ∧
 (cap'16 = rc46 ∧
 ((∀ i47 : Nat,
 (i47 < 4 →
 (Wi (if i47 < 3 then (if i47 < 2 then (if i47 < 1 then (bits BinOp.and .i64 (x / (1 : Int)) (15 : Int)) else (bits BinOp.and .i64 (x / (16 : Int)) (15 : Int))) else (bits BinOp.and .i64 (x / (256 : Int)) (15 : Int))) else (bits BinOp.and .i64 (x / (4096 : Int)) (15 : Int)))) = (Wi (wsym x i47)))) ∧
 True))))))) ∧
 True) ∧
 true = true))))))))))) ∧
 ((btw x (0 : Int) (4294967295 : Int)) = false →
 (∃ ro48 : (Option Addr), (∃ rc49 : Nat, ((Ws ao'11 3 cap'12) = (Ws ro48 8 rc49) ∧
 (((true = true ∧
 (ao'11 = ro48 ∧
 (3 = 3 ∧
 (1 = 1 ∧
 (3 = 8 ∧
 (cap'12 = rc49 ∧
 ((∀ i50 : Nat,
 (i50 < 3 →
 (Wi (if i50 < 2 then (if i50 < 1 then (bits BinOp.and .i64 (x / (1 : Int)) (15 : Int)) else (bits BinOp.and .i64 (x / (16 : Int)) (15 : Int))) else (bits BinOp.and .i64 (x / (256 : Int)) (15 : Int)))) = (Wi (wsym x i50)))) ∧
 True))))))) ∧
 True) ∧
 true = true))))))))))) ∧
 ((btw x (0 : Int) (4294967295 : Int)) = false →
 (∃ ro51 : (Option Addr), (∃ rc52 : Nat, ((Ws ao'7 2 cap'8) = (Ws ro51 8 rc52) ∧
 (((true = true ∧
 (ao'7 = ro51 ∧
 (3 = 3 ∧
 (1 = 1 ∧
 (2 = 8 ∧
 (cap'8 = rc52 ∧
 ((∀ i53 : Nat,
 (i53 < 2 →
 (Wi (if i53 < 1 then (bits BinOp.and .i64 (x / (1 : Int)) (15 : Int)) else (bits BinOp.and .i64 (x / (16 : Int)) (15 : Int)))) = (Wi (wsym x i53)))) ∧
 True))))))) ∧
 True) ∧
 true = true))))))))))) ∧
 ((btw x (0 : Int) (4294967295 : Int)) = false →
 (∃ ro54 : (Option Addr), (∃ rc55 : Nat, ((Ws ao3 1 cap4) = (Ws ro54 8 rc55) ∧
 (((true = true ∧
 (ao3 = ro54 ∧
 (3 = 3 ∧
 (1 = 1 ∧
 (1 = 8 ∧
 (cap4 = rc55 ∧
 ((∀ i56 : Nat,
 (i56 < 1 →
 (Wi (bits BinOp.and .i64 (x / (1 : Int)) (15 : Int))) = (Wi (wsym x i56)))) ∧
 True))))))) ∧
 True) ∧
 true = true))))))))))) ∧
 ((btw x (0 : Int) (4294967295 : Int)) = false →
 (∃ ro57 : (Option Addr), (∃ rc58 : Nat, ((Ws (Ad b0 0) 0 0) = (Ws ro57 8 rc58) ∧
 (((true = true ∧
 ((Ad b0 0) = ro57 ∧
 (3 = 3 ∧
 (true = true ∧
 (0 = 8 ∧
 (0 = rc58 ∧
 true = true)))))) ∧
 True) ∧
 true = true)))))))) := by kernel_rfl
theorem sowS_any (x : Int) (w : World) (hx : 0 ≤ x ∧ x ≤ 4294967295) : Calls Try.prog 108 #[.int .i64 x] w fun e w' => ∃ (ro : Option Addr) (rc : Nat), e = .returned (.slice ro 8 rc) ∧ HS ⟨w, fun _ => False⟩ [.row ⟨true, ro, 3, 1, 8, rc, [fun i => .int (wsym x i)]⟩] w' := by
  refine fn_ok mixed (E := {tb := [(74, sIwS)]}) ⟨sIwS_ok, trivial⟩ Try.func108 (fun _ _ => loopsOK_nil _ _ _) (@Eq.mpr _ _ (sowS_T x) ?_) (HS.start w (fun _ => False)) (fun v ch' w' ⟨ro, rc, hk⟩ hs => ⟨ro, rc, by rw [hk.1], hk.hs hs⟩)
  have hb : btw x 0 4294967295 = true := btw_mk hx.1 hx.2
  repeat' (first
    | with_reducible exact rfl
    | exact True.intro
    | with_reducible assumption
    | (intro h; exfalso; rw [hb] at h; simp at h; done)
    | (intro i hi; rcases lt8 hi with rfl | rfl | rfl | rfl | rfl | rfl | rfl | rfl <;> (show (_ : Value) = _; kernel_rfl))
    | refine And.intro ?_ ?_
    | apply Exists.intro
    | (intro z hz; subst hz)
    | (intro h; exfalso; simp at h; done)
    | (intro h; exfalso; replace h := of_decide_eq_true h; omega)
    | (intro h; exfalso; replace h := of_decide_eq_false h; omega)
    | intro _
    | omega
    | exact rfl)
def sSow : Sm := fun args ch k =>
  match args with
  | [.a (.c c)] =>
    match asI c with
    | some x => btw x 0 4294967295 = true ∧ ∀ (ro : Option Addr) (rc : Nat), k (.a (.c (.sl ch.length ro 8 rc))) (ch ++ [.row ⟨true, ro, 3, 1, 8, rc, [fun i => .int (wsym x i)]⟩]) []
    | none => False
  | _ => False
def sEncS : Sm := fun args ch k =>
  match args with
  | [.a (.c c)] => rdn ch c fun n g => (n = 8 ∧ symB 8 g 8 = true) ∧ ∀ (ro : Option Addr) (rc : Nat), k (.a (.c (.sl ch.length ro 11 rc))) (ch ++ [.row ⟨true, ro, 3, 1, 11, rc, [fun i => .int (enc g i)]⟩]) []
  | _ => False
def sEnl : Sm := fun args ch k =>
  match args with
  | [.a (.c c)] =>
    match asI c with
    | some x => btw x 0 4294967295 = true ∧ ∀ (ro : Option Addr) (rc : Nat), k (.a (.c (.sl ch.length ro 11 rc))) (ch ++ [.row ⟨true, ro, 3, 1, 11, rc, [fun i => .int (cw x i)]⟩]) []
    | none => False
  | _ => False
theorem sSow_I : SmOK Try.prog 113 sSow := by
  refine smN Try.call113 fun args ch k w X h0 hs => ?_
  unfold sSow at h0
  split at h0
  · split at h0
    · rename_i x hx
      obtain ⟨hb, h1⟩ := h0
      simp only [List.map_cons, List.map_nil, den_a, den_c, asI_den hx]
      exact Calls.mono (sowI_any x w (btw_f hb)) fun e w' ⟨ro, rc, he, hs'⟩ => ⟨.a (.c (.sl ch.length ro 8 rc)), _, by rw [he]; rfl, hs', rfl, h1 ro rc⟩
    · exact h0.elim
  · exact h0.elim
theorem sEncS_I : SmOK Try.prog 112 sEncS := by
  refine smN Try.call112 fun args ch k w X h0 hs => ?_
  unfold sEncS at h0
  split at h0
  · obtain ⟨ao, n, c', g, e, hr, ⟨rfl, hsy⟩, h1⟩ := rdn_ok h0 hs
    simp only [List.map_cons, List.map_nil, den_a, den_c, e]
    exact Calls.mono (encI_any ao c' g w hr hsy) fun e w' ⟨ro, rc, he, hs'⟩ => ⟨.a (.c (.sl ch.length ro 11 rc)), _, by rw [he]; rfl, hs', rfl, h1 ro rc⟩
  · exact h0.elim
theorem sSow_S : SmOK Try.prog 108 sSow := by
  refine smN Try.call108 fun args ch k w X h0 hs => ?_
  unfold sSow at h0
  split at h0
  · split at h0
    · rename_i x hx
      obtain ⟨hb, h1⟩ := h0
      simp only [List.map_cons, List.map_nil, den_a, den_c, asI_den hx]
      exact Calls.mono (sowS_any x w (btw_f hb)) fun e w' ⟨ro, rc, he, hs'⟩ => ⟨.a (.c (.sl ch.length ro 8 rc)), _, by rw [he]; rfl, hs', rfl, h1 ro rc⟩
    · exact h0.elim
  · exact h0.elim
theorem sEncS_S : SmOK Try.prog 107 sEncS := by
  refine smN Try.call107 fun args ch k w X h0 hs => ?_
  unfold sEncS at h0
  split at h0
  · obtain ⟨ao, n, c', g, e, hr, ⟨rfl, hsy⟩, h1⟩ := rdn_ok h0 hs
    simp only [List.map_cons, List.map_nil, den_a, den_c, e]
    exact Calls.mono (encS_any ao c' g w hr hsy) fun e w' ⟨ro, rc, he, hs'⟩ => ⟨.a (.c (.sl ch.length ro 11 rc)), _, by rw [he]; rfl, hs', rfl, h1 ro rc⟩
  · exact h0.elim
theorem enlI_T (x : Int) : (exFn Try.prog {tb := [(76, sIwI), (113, sSow), (112, sEncS)]} 400 Try.f97 ([.a (.c (.int x))]) ([]) (fun v ch => ∃ (ro : Option Addr) (rc : Nat), OutR v ch (.slice ro 11 rc) [.row ⟨true, ro, 3, 1, 11, rc, [fun i => .int (cw x i)]⟩])) = (
  (((!(btw x (0 : Int) (4294967295 : Int))) = true →
 (∃ ro0 : (Option Addr), (∃ rc1 : Nat, (Wn = (Ws ro0 11 rc1) ∧
 (((true = true ∧
 ((none : Option (Addr)) = ro0 ∧
 (0 = 11 ∧
 (0 = rc1 ∧
 true = true)))) ∧
 True) ∧
 true = true))))) ∧
 ((!(btw x (0 : Int) (4294967295 : Int))) = false →
 ((btw x (0 : Int) (4294967295 : Int)) = true ∧
 (∀ ro2 : (Option Addr),
 (∀ rc3 : Nat,
 (∃ g04 : (Nat →
 Int), ((ro2 = ro2 ∧
 (8 = 8 ∧
 [(fun i5 => (Ci (wsym x i5)))] = [(fun i6 => (Ci (g04 i6)))])) ∧
 ((8 = 8 ∧
 (symB 8 g04 (8 : Int)) = true) ∧
 (∀ ro7 : (Option Addr),
 (∀ rc8 : Nat,
 (∃ ro9 : (Option Addr), (∃ rc10 : Nat, ((Ws ro7 11 rc8) = (Ws ro9 11 rc10) ∧
 (((true = true ∧
 (ro7 = ro9 ∧
 (3 = 3 ∧
 (1 = 1 ∧
 (11 = 11 ∧
 (rc8 = rc10 ∧
 ((∀ i11 : Nat,
 (i11 < 11 →
 (Wi (enc g04 i11)) = (Wi (cw x i11)))) ∧
 True))))))) ∧
 True) ∧
 true = true))))))))))))))) := by kernel_rfl
theorem enlI_any (x : Int) (w : World) (hx : 0 ≤ x ∧ x ≤ 4294967295) : Calls Try.prog 97 #[.int .i64 x] w fun e w' => ∃ (ro : Option Addr) (rc : Nat), e = .returned (.slice ro 11 rc) ∧ HS ⟨w, fun _ => False⟩ [.row ⟨true, ro, 3, 1, 11, rc, [fun i => .int (cw x i)]⟩] w' := by
  refine fn_ok mixed (E := {tb := [(76, sIwI), (113, sSow), (112, sEncS)]}) ⟨sIwI_ok, sSow_I, sEncS_I, trivial⟩ Try.func97 (fun _ _ => loopsOK_nil _ _ _) (@Eq.mpr _ _ (enlI_T x) ?_) (HS.start w (fun _ => False)) (fun v ch' w' ⟨ro, rc, hk⟩ hs => ⟨ro, rc, by rw [hk.1], hk.hs hs⟩)
  have hb : btw x 0 4294967295 = true := btw_mk hx.1 hx.2
  have hsy : symB 8 (fun i => wsym x i) 8 = true := symB_mk (fun i _ => wsym_el hx i) rfl
  repeat' (first
    | with_reducible exact rfl
    | exact True.intro
    | with_reducible assumption
    | (intro h; exfalso; rw [hb] at h; simp at h; done)
    | with_reducible exact hsy
    | (intro i hi; show Value.int _ _ = Value.int _ _; rfl)
    | refine And.intro ?_ ?_
    | apply Exists.intro
    | (intro z hz; subst hz)
    | (intro h; exfalso; simp at h; done)
    | (intro h; exfalso; replace h := of_decide_eq_true h; omega)
    | (intro h; exfalso; replace h := of_decide_eq_false h; omega)
    | intro _
    | omega
    | exact rfl)
theorem sEnl_I : SmOK Try.prog 97 sEnl := by
  refine smN Try.call97 fun args ch k w X h0 hs => ?_
  unfold sEnl at h0
  split at h0
  · split at h0
    · rename_i x hx
      obtain ⟨hb, h1⟩ := h0
      simp only [List.map_cons, List.map_nil, den_a, den_c, asI_den hx]
      exact Calls.mono (enlI_any x w (btw_f hb)) fun e w' ⟨ro, rc, he, hs'⟩ => ⟨.a (.c (.sl ch.length ro 11 rc)), _, by rw [he]; rfl, hs', rfl, h1 ro rc⟩
    · exact h0.elim
  · exact h0.elim
theorem enlS_T (x : Int) : (exFn Try.prog {tb := [(108, sSow), (107, sEncS)]} 400 Try.f84 ([.a (.c (.int x))]) ([]) (fun v ch => ∃ (ro : Option Addr) (rc : Nat), OutR v ch (.slice ro 11 rc) [.row ⟨true, ro, 3, 1, 11, rc, [fun i => .int (cw x i)]⟩])) = (
  ((btw x (0 : Int) (4294967295 : Int)) = true ∧
 (∀ ro0 : (Option Addr),
 (∀ rc1 : Nat,
 (∃ g02 : (Nat →
 Int), ((ro0 = ro0 ∧
 (8 = 8 ∧
 [(fun i3 => (Ci (wsym x i3)))] = [(fun i4 => (Ci (g02 i4)))])) ∧
 ((8 = 8 ∧
 (symB 8 g02 (8 : Int)) = true) ∧
 (∀ ro5 : (Option Addr),
 (∀ rc6 : Nat,
 (∃ ro7 : (Option Addr), (∃ rc8 : Nat, ((Ws ro5 11 rc6) = (Ws ro7 11 rc8) ∧
 (((true = true ∧
 (ro5 = ro7 ∧
 (3 = 3 ∧
 (1 = 1 ∧
 (11 = 11 ∧
 (rc6 = rc8 ∧
 ((∀ i9 : Nat,
 (i9 < 11 →
 (Wi (enc g02 i9)) = (Wi (cw x i9)))) ∧
 True))))))) ∧
 True) ∧
 true = true))))))))))))) := by kernel_rfl
theorem enlS_any (x : Int) (w : World) (hx : 0 ≤ x ∧ x ≤ 4294967295) : Calls Try.prog 84 #[.int .i64 x] w fun e w' => ∃ (ro : Option Addr) (rc : Nat), e = .returned (.slice ro 11 rc) ∧ HS ⟨w, fun _ => False⟩ [.row ⟨true, ro, 3, 1, 11, rc, [fun i => .int (cw x i)]⟩] w' := by
  refine fn_ok mixed (E := {tb := [(108, sSow), (107, sEncS)]}) ⟨sSow_S, sEncS_S, trivial⟩ Try.func84 (fun _ _ => loopsOK_nil _ _ _) (@Eq.mpr _ _ (enlS_T x) ?_) (HS.start w (fun _ => False)) (fun v ch' w' ⟨ro, rc, hk⟩ hs => ⟨ro, rc, by rw [hk.1], hk.hs hs⟩)
  have hb : btw x 0 4294967295 = true := btw_mk hx.1 hx.2
  have hsy : symB 8 (fun i => wsym x i) 8 = true := symB_mk (fun i _ => wsym_el hx i) rfl
  repeat' (first
    | with_reducible exact rfl
    | exact True.intro
    | with_reducible assumption
    | (intro h; exfalso; rw [hb] at h; simp at h; done)
    | with_reducible exact hsy
    | (intro i hi; show Value.int _ _ = Value.int _ _; rfl)
    | refine And.intro ?_ ?_
    | apply Exists.intro
    | (intro z hz; subst hz)
    | (intro h; exfalso; simp at h; done)
    | (intro h; exfalso; replace h := of_decide_eq_true h; omega)
    | (intro h; exfalso; replace h := of_decide_eq_false h; omega)
    | intro _
    | omega
    | exact rfl)
theorem sEnl_S : SmOK Try.prog 84 sEnl := by
  refine smN Try.call84 fun args ch k w X h0 hs => ?_
  unfold sEnl at h0
  split at h0
  · split at h0
    · rename_i x hx
      obtain ⟨hb, h1⟩ := h0
      simp only [List.map_cons, List.map_nil, den_a, den_c, asI_den hx]
      exact Calls.mono (enlS_any x w (btw_f hb)) fun e w' ⟨ro, rc, he, hs'⟩ => ⟨.a (.c (.sl ch.length ro 11 rc)), _, by rw [he]; rfl, hs', rfl, h1 ro rc⟩
    · exact h0.elim
  · exact h0.elim

theorem or_step {x y d : Int} {k : Nat} (hk : k ≤ 28) (hx : 0 ≤ x ∧ x < 2 ^ k) (hd : el d) (hy : y = d * 2 ^ k) : bits .or .i64 x y = x + d * 2 ^ k := by rw [hy]; exact or_join hk hx hd
theorem or_eight {d : Nat → Int} (h : ∀ i, i < 8 → el (d i)) : bits .or .i64 (bits .or .i64 (bits .or .i64 (bits .or .i64 (bits .or .i64 (bits .or .i64 (bits .or .i64 (bits .or .i64 0 (d 0 * 2 ^ 0)) (d 1 * 2 ^ 4)) (d 2 * 2 ^ 8)) (d 3 * 2 ^ 12)) (d 4 * 2 ^ 16)) (d 5 * 2 ^ 20)) (d 6 * 2 ^ 24)) (d 7 * 2 ^ 28) = wordOf d := by
  have h0 := h 0 (by omega); have h1 := h 1 (by omega); have h2 := h 2 (by omega); have h3 := h 3 (by omega); have h4 := h 4 (by omega); have h5 := h 5 (by omega); have h6 := h 6 (by omega); have h7 := h 7 (by omega)
  rw [or_join (k := 0) (by omega) (by omega) h0, or_join (k := 4) (by omega) (by omega) h1, or_join (k := 8) (by omega) (by omega) h2, or_join (k := 12) (by omega) (by omega) h3, or_join (k := 16) (by omega) (by omega) h4, or_join (k := 20) (by omega) (by omega) h5, or_join (k := 24) (by omega) (by omega) h6, or_join (k := 28) (by omega) (by omega) h7]
  unfold wordOf
  omega
theorem wosI_T (ao : Option Addr) (c : Nat) (d : Nat → Int) : (exFn Try.prog {tb := [(68, sSym)], L := [(5, relit Try.prog {tb := []} 400 9 (theLoop Try.f129 0) 11 (.il 8))]} 400 Try.f129 ([.a (.c (.sl 0 ao 8 c))]) ([.row ⟨false, ao, 0, 1, 8, 0, [fun i => .int (d i)]⟩]) (fun v _ => v.den = .tuple #[.int .i64 (wordOf d), .bool true])) = (
  (∃ g00 : (Nat →
 Int), ((ao = ao ∧
 (8 = 8 ∧
 [(fun i1 => (Ci (d i1)))] = [(fun i2 => (Ci (g00 i2)))])) ∧
 ((lenC 8) ∧
 (((!(symB 8 g00 (8 : Int))) = true →
 (Wu [(Wi 0), (Wb false)]) = (Wu [(Wi (wordOf d)), (Wb true)])) ∧
 ((!(symB 8 g00 (8 : Int))) = false →
 ((Wi 8) = (Wi 8) ∧
 (ao = ao ∧
 (8 = 8 ∧
 ((0 ≤ (0 : Int) ∧ (0 : Int) < ((8 : Nat) : Int)) ∧
 (ao = ao ∧
 (0 < 8 ∧
 ((rng ((d 0) * (1 : Int))) ∧
 (ao = ao ∧
 (8 = 8 ∧
 ((0 ≤ (1 : Int) ∧ (1 : Int) < ((8 : Nat) : Int)) ∧
 (ao = ao ∧
 (1 < 8 ∧
 ((rng ((d 1) * (16 : Int))) ∧
 (ao = ao ∧
 (8 = 8 ∧
 ((0 ≤ (2 : Int) ∧ (2 : Int) < ((8 : Nat) : Int)) ∧
 (ao = ao ∧
 (2 < 8 ∧
 ((rng ((d 2) * (256 : Int))) ∧
 (ao = ao ∧
 (8 = 8 ∧
 ((0 ≤ (3 : Int) ∧ (3 : Int) < ((8 : Nat) : Int)) ∧
 (ao = ao ∧
 (3 < 8 ∧
 ((rng ((d 3) * (4096 : Int))) ∧
 (ao = ao ∧
 (8 = 8 ∧
 ((0 ≤ (4 : Int) ∧ (4 : Int) < ((8 : Nat) : Int)) ∧
 (ao = ao ∧
 (4 < 8 ∧
 ((rng ((d 4) * (65536 : Int))) ∧
 (ao = ao ∧
 (8 = 8 ∧
 ((0 ≤ (5 : Int) ∧ (5 : Int) < ((8 : Nat) : Int)) ∧
 (ao = ao ∧
 (5 < 8 ∧
 ((rng ((d 5) * (1048576 : Int))) ∧
 (ao = ao ∧
 (8 = 8 ∧
 ((0 ≤ (6 : Int) ∧ (6 : Int) < ((8 : Nat) : Int)) ∧
 (ao = ao ∧
 (6 < 8 ∧
 ((rng ((d 6) * (16777216 : Int))) ∧
 (ao = ao ∧
 (8 = 8 ∧
 ((0 ≤ (7 : Int) ∧ (7 : Int) < ((8 : Nat) : Int)) ∧
 (ao = ao ∧
 (7 < 8 ∧
 ((rng ((d 7) * (268435456 : Int))) ∧
 (Wu [(Wi (bits BinOp.or .i64 (bits BinOp.or .i64 (bits BinOp.or .i64 (bits BinOp.or .i64 (bits BinOp.or .i64 (bits BinOp.or .i64 (bits BinOp.or .i64 (bits BinOp.or .i64 (0 : Int) ((d 0) * (1 : Int))) ((d 1) * (16 : Int))) ((d 2) * (256 : Int))) ((d 3) * (4096 : Int))) ((d 4) * (65536 : Int))) ((d 5) * (1048576 : Int))) ((d 6) * (16777216 : Int))) ((d 7) * (268435456 : Int)))), (Wb true)]) = (Wu [(Wi (wordOf d)), (Wb true)])))))))))))))))))))))))))))))))))))))))))))))))))))))))) := by kernel_rfl
theorem wosI_any (ao : Option Addr) (c : Nat) (d : Nat → Int) (w : World) (h : Row.sat w ⟨false, ao, 0, 1, 8, 0, [fun i => .int (d i)]⟩) (hsy : symB 8 d 8 = true) : Calls Try.prog 129 #[.slice ao 8 c] w fun e w' => e = .returned (.tuple #[.int .i64 (wordOf d), .bool true]) ∧ Below w.heap.size w w' := by
  refine fn_ok mixed (E := {tb := [(68, sSym)], L := [(5, relit Try.prog {tb := []} 400 9 (theLoop Try.f129 0) 11 (.il 8))]}) ⟨sSym_I, trivial⟩ Try.func129 (one_loop (by kernel_rfl) (by kernel_rfl) (relit_ok mixed (E := {tb := []}) trivial (loopsOK_nil _ _ _))) (@Eq.mpr _ _ (wosI_T ao c d) ?_) (HS.rows (fun _ => False) [⟨false, ao, 0, 1, 8, 0, [fun i => .int (d i)]⟩] (by simpa using h)) (fun v ch' w' hv hs => ⟨by rw [hv], hs.below⟩)
  clear h
  have hel := symB_el hsy
  have h0 := hel 0 (by omega); have h1 := hel 1 (by omega); have h2 := hel 2 (by omega); have h3 := hel 3 (by omega); have h4 := hel 4 (by omega); have h5 := hel 5 (by omega); have h6 := hel 6 (by omega); have h7 := hel 7 (by omega)
  repeat' (first
    | with_reducible exact rfl
    | exact True.intro
    | with_reducible assumption
    | (intro h; exfalso; rw [hsy] at h; simp at h; done)
    | (show rng _; simp only [rng, imul]; omega)
    | exact congrArg (fun z => Value.tuple #[.int .i64 z, .bool true]) (or_eight hel)
    | refine And.intro ?_ ?_
    | apply Exists.intro
    | (intro z hz; subst hz)
    | (intro h; exfalso; simp at h; done)
    | (intro h; exfalso; replace h := of_decide_eq_true h; omega)
    | (intro h; exfalso; replace h := of_decide_eq_false h; omega)
    | intro _
    | omega
    | exact rfl)
theorem wosS_T (ao : Option Addr) (c : Nat) (d : Nat → Int) : (exFn Try.prog {tb := [(64, sSym)], R := [(5, 9)]} 400 Try.f122 ([.a (.c (.sl 0 ao 8 c))]) ([.row ⟨false, ao, 0, 1, 8, 0, [fun i => .int (d i)]⟩]) (fun v _ => v.den = .tuple #[.int .i64 (wordOf d), .bool true])) = (
  (∃ g00 : (Nat →
 Int), ((ao = ao ∧
 (8 = 8 ∧
 [(fun i1 => (Ci (d i1)))] = [(fun i2 => (Ci (g00 i2)))])) ∧
 ((lenC 8) ∧
 (((!(symB 8 g00 (8 : Int))) = true →
 (Wu [(Wi 0), (Wb false)]) = (Wu [(Wi (wordOf d)), (Wb true)])) ∧
 ((!(symB 8 g00 (8 : Int))) = false →
 (((decide ((0 : Int) < (8 : Int))) = true →
 (ao = ao ∧
 (8 = 8 ∧
 ((0 ≤ (0 : Int) ∧ (0 : Int) < ((8 : Nat) : Int)) ∧
 (ao = ao ∧
 (0 < 8 ∧
 ((rng ((d 0) * (1 : Int))) ∧
 (((decide ((1 : Int) < (8 : Int))) = true →
 (ao = ao ∧
 (8 = 8 ∧
 ((0 ≤ (1 : Int) ∧ (1 : Int) < ((8 : Nat) : Int)) ∧
 (ao = ao ∧
 (1 < 8 ∧
 ((rng ((d 1) * (16 : Int))) ∧
 (((decide ((2 : Int) < (8 : Int))) = true →
 (ao = ao ∧
 (8 = 8 ∧
 ((0 ≤ (2 : Int) ∧ (2 : Int) < ((8 : Nat) : Int)) ∧
 (ao = ao ∧
 (2 < 8 ∧
 ((rng ((d 2) * (256 : Int))) ∧
 (((decide ((3 : Int) < (8 : Int))) = true →
 (ao = ao ∧
 (8 = 8 ∧
 ((0 ≤ (3 : Int) ∧ (3 : Int) < ((8 : Nat) : Int)) ∧
 (ao = ao ∧
 (3 < 8 ∧
 ((rng ((d 3) * (4096 : Int))) ∧
 (((decide ((4 : Int) < (8 : Int))) = true →
 (ao = ao ∧
 (8 = 8 ∧
 ((0 ≤ (4 : Int) ∧ (4 : Int) < ((8 : Nat) : Int)) ∧
 (ao = ao ∧
 (4 < 8 ∧
 ((rng ((d 4) * (65536 : Int))) ∧
 (((decide ((5 : Int) < (8 : Int))) = true →
 (ao = ao ∧
 (8 = 8 ∧
 ((0 ≤ (5 : Int) ∧ (5 : Int) < ((8 : Nat) : Int)) ∧
 (ao = ao ∧
 (5 < 8 ∧
 ((rng ((d 5) * (1048576 : Int))) ∧
 (((decide ((6 : Int) < (8 : Int))) = true →
 (ao = ao ∧
 (8 = 8 ∧
 ((0 ≤ (6 : Int) ∧ (6 : Int) < ((8 : Nat) : Int)) ∧
 (ao = ao ∧
 (6 < 8 ∧
 ((rng ((d 6) * (16777216 : Int))) ∧
 (((decide ((7 : Int) < (8 : Int))) = true →
 (ao = ao ∧
 (8 = 8 ∧
 ((0 ≤ (7 : Int) ∧ (7 : Int) < ((8 : Nat) : Int)) ∧
 (ao = ao ∧
 (7 < 8 ∧
 ((rng ((d 7) * (268435456 : Int))) ∧
 (((decide ((8 : Int) < (8 : Int))) = true →
 (ao = ao ∧
 (8 = 8 ∧
 ((0 ≤ (8 : Int) ∧ (8 : Int) < ((8 : Nat) : Int)) ∧
 (ao = ao ∧
 (8 < 8 ∧
 ((rng ((d 8) * (4294967296 : Int))) ∧
 False))))))) ∧
 ((decide ((8 : Int) < (8 : Int))) = false →
 (Wu [(Wi (bits BinOp.or .i64 (bits BinOp.or .i64 (bits BinOp.or .i64 (bits BinOp.or .i64 (bits BinOp.or .i64 (bits BinOp.or .i64 (bits BinOp.or .i64 (bits BinOp.or .i64 (0 : Int) ((d 0) * (1 : Int))) ((d 1) * (16 : Int))) ((d 2) * (256 : Int))) ((d 3) * (4096 : Int))) ((d 4) * (65536 : Int))) ((d 5) * (1048576 : Int))) ((d 6) * (16777216 : Int))) ((d 7) * (268435456 : Int)))), (Wb true)]) = (Wu [(Wi (wordOf d)), (Wb true)])))))))))) ∧
 ((decide ((7 : Int) < (8 : Int))) = false →
 (Wu [(Wi (bits BinOp.or .i64 (bits BinOp.or .i64 (bits BinOp.or .i64 (bits BinOp.or .i64 (bits BinOp.or .i64 (bits BinOp.or .i64 (bits BinOp.or .i64 (0 : Int) ((d 0) * (1 : Int))) ((d 1) * (16 : Int))) ((d 2) * (256 : Int))) ((d 3) * (4096 : Int))) ((d 4) * (65536 : Int))) ((d 5) * (1048576 : Int))) ((d 6) * (16777216 : Int)))), (Wb true)]) = (Wu [(Wi (wordOf d)), (Wb true)])))))))))) ∧
 ((decide ((6 : Int) < (8 : Int))) = false →
 (Wu [(Wi (bits BinOp.or .i64 (bits BinOp.or .i64 (bits BinOp.or .i64 (bits BinOp.or .i64 (bits BinOp.or .i64 (bits BinOp.or .i64 (0 : Int) ((d 0) * (1 : Int))) ((d 1) * (16 : Int))) ((d 2) * (256 : Int))) ((d 3) * (4096 : Int))) ((d 4) * (65536 : Int))) ((d 5) * (1048576 : Int)))), (Wb true)]) = (Wu [(Wi (wordOf d)), (Wb true)])))))))))) ∧
 ((decide ((5 : Int) < (8 : Int))) = false →
 (Wu [(Wi (bits BinOp.or .i64 (bits BinOp.or .i64 (bits BinOp.or .i64 (bits BinOp.or .i64 (bits BinOp.or .i64 (0 : Int) ((d 0) * (1 : Int))) ((d 1) * (16 : Int))) ((d 2) * (256 : Int))) ((d 3) * (4096 : Int))) ((d 4) * (65536 : Int)))), (Wb true)]) = (Wu [(Wi (wordOf d)), (Wb true)])))))))))) ∧
 ((decide ((4 : Int) < (8 : Int))) = false →
 (Wu [(Wi (bits BinOp.or .i64 (bits BinOp.or .i64 (bits BinOp.or .i64 (bits BinOp.or .i64 (0 : Int) ((d 0) * (1 : Int))) ((d 1) * (16 : Int))) ((d 2) * (256 : Int))) ((d 3) * (4096 : Int)))), (Wb true)]) = (Wu [(Wi (wordOf d)), (Wb true)])))))))))) ∧
 ((decide ((3 : Int) < (8 : Int))) = false →
 (Wu [(Wi (bits BinOp.or .i64 (bits BinOp.or .i64 (bits BinOp.or .i64 (0 : Int) ((d 0) * (1 : Int))) ((d 1) * (16 : Int))) ((d 2) * (256 : Int)))), (Wb true)]) = (Wu [(Wi (wordOf d)), (Wb true)])))))))))) ∧
 ((decide ((2 : Int) < (8 : Int))) = false →
 (Wu [(Wi (bits BinOp.or .i64 (bits BinOp.or .i64 (0 : Int) ((d 0) * (1 : Int))) ((d 1) * (16 : Int)))), (Wb true)]) = (Wu [(Wi (wordOf d)), (Wb true)])))))))))) ∧
 ((decide ((1 : Int) < (8 : Int))) = false →
 (Wu [(Wi (bits BinOp.or .i64 (0 : Int) ((d 0) * (1 : Int)))), (Wb true)]) = (Wu [(Wi (wordOf d)), (Wb true)])))))))))) ∧
 ((decide ((0 : Int) < (8 : Int))) = false →
 (Wu [(Wi 0), (Wb true)]) = (Wu [(Wi (wordOf d)), (Wb true)]))))))))) := by kernel_rfl
theorem wosS_any (ao : Option Addr) (c : Nat) (d : Nat → Int) (w : World) (h : Row.sat w ⟨false, ao, 0, 1, 8, 0, [fun i => .int (d i)]⟩) (hsy : symB 8 d 8 = true) : Calls Try.prog 122 #[.slice ao 8 c] w fun e w' => e = .returned (.tuple #[.int .i64 (wordOf d), .bool true]) ∧ Below w.heap.size w w' := by
  refine fn_ok mixed (E := {tb := [(64, sSym)], R := [(5, 9)]}) ⟨sSym_S, trivial⟩ Try.func122 (fun _ _ => loopsOK_nil _ _ _) (@Eq.mpr _ _ (wosS_T ao c d) ?_) (HS.rows (fun _ => False) [⟨false, ao, 0, 1, 8, 0, [fun i => .int (d i)]⟩] (by simpa using h)) (fun v ch' w' hv hs => ⟨by rw [hv], hs.below⟩)
  clear h
  have hel := symB_el hsy
  have h0 := hel 0 (by omega); have h1 := hel 1 (by omega); have h2 := hel 2 (by omega); have h3 := hel 3 (by omega); have h4 := hel 4 (by omega); have h5 := hel 5 (by omega); have h6 := hel 6 (by omega); have h7 := hel 7 (by omega)
  repeat' (first
    | with_reducible exact rfl
    | exact True.intro
    | with_reducible assumption
    | (intro h; exfalso; rw [hsy] at h; simp at h; done)
    | (show rng _; simp only [rng, imul]; omega)
    | exact congrArg (fun z => Value.tuple #[.int .i64 z, .bool true]) (or_eight hel)
    | refine And.intro ?_ ?_
    | apply Exists.intro
    | (intro z hz; subst hz)
    | (intro h; exfalso; simp at h; done)
    | (intro h; exfalso; replace h := of_decide_eq_true h; omega)
    | (intro h; exfalso; replace h := of_decide_eq_false h; omega)
    | intro _
    | omega
    | exact rfl)
theorem datI_T (ao : Option Addr) (c : Nat) (f : Nat → Int) : (exFn Try.prog {tb := [(68, sSym)]} 400 Try.f130 ([.a (.c (.sl 0 ao 11 c))]) ([.row ⟨false, ao, 0, 1, 11, 0, [fun i => .int (f i)]⟩]) (fun v ch => ∃ (ro : Option Addr) (rc : Nat), OutR v ch (.slice ro 8 rc) [.row ⟨true, ro, 3, 1, 8, rc, [fun i => .int (dat f i)]⟩])) = (
  (∃ g00 : (Nat →
 Int), ((ao = ao ∧
 (11 = 11 ∧
 [(fun i1 => (Ci (f i1)))] = [(fun i2 => (Ci (g00 i2)))])) ∧
 ((lenC 11) ∧
 (((!(symB 11 g00 (11 : Int))) = true →
 (∃ ro3 : (Option Addr), (∃ rc4 : Nat, (Wn = (Ws ro3 8 rc4) ∧
 (((true = true ∧
 ((none : Option (Addr)) = ro3 ∧
 (0 = 8 ∧
 (0 = rc4 ∧
 true = true)))) ∧
 True) ∧
 true = true))))) ∧
 ((!(symB 11 g00 (11 : Int))) = false →
 (∀ b5 : Nat,
 ((ao = ao ∧
 (11 = 11 ∧
 (3 ≤ 11 ∧
 11 ≤ c))) ∧
 (∀ ao'6 : (Option Addr),
 ((b5 = b5 ∧
 ((ao'6 = ao'6 ∧
 8 = 8) ∧
 ((∀ i7 : Nat,
 true = true) ∧
 (apC 0 8 8)))) ∧
 (∀ ao8 : (Option Addr),
 (∀ cap9 : Nat,
 (∃ ro10 : (Option Addr), (∃ rc11 : Nat, ((Ws ao8 8 cap9) = (Ws ro10 8 rc11) ∧
 (((true = true ∧
 (ao8 = ro10 ∧
 (3 = 3 ∧
 (1 = 1 ∧
 (8 = 8 ∧
 (cap9 = rc11 ∧
 ((∀ i12 : Nat,
 (i12 < 8 →
 (Wi (f (i12 + 3))) = (Wi (dat f i12)))) ∧
 True))))))) ∧
 True) ∧
 true = true)))))))))))))))) := by kernel_rfl
theorem datI_any (ao : Option Addr) (c : Nat) (f : Nat → Int) (w : World) (h : Row.sat w ⟨false, ao, 0, 1, 11, 0, [fun i => .int (f i)]⟩) (hsy : symB 11 f 11 = true) (hcap : 11 ≤ c) : Calls Try.prog 130 #[.slice ao 11 c] w fun e w' => ∃ (ro : Option Addr) (rc : Nat), e = .returned (.slice ro 8 rc) ∧ HS ⟨w, fun _ => False⟩ [.row ⟨true, ro, 3, 1, 8, rc, [fun i => .int (dat f i)]⟩] w' := by
  refine fn_ok mixed (E := {tb := [(68, sSym)]}) ⟨sSym_I, trivial⟩ Try.func130 (fun _ _ => loopsOK_nil _ _ _) (@Eq.mpr _ _ (datI_T ao c f) ?_) (HS.rows (fun _ => False) [⟨false, ao, 0, 1, 11, 0, [fun i => .int (f i)]⟩] (by simpa using h)) (fun v ch' w' ⟨ro, rc, hk⟩ hs => ⟨ro, rc, by rw [hk.1], hk.hs hs⟩)
  clear h
  repeat' (first
    | with_reducible exact rfl
    | exact True.intro
    | with_reducible assumption
    | (intro h; exfalso; rw [hsy] at h; simp at h; done)
    | (intro i hi; exact rfl)
    | refine And.intro ?_ ?_
    | apply Exists.intro
    | (intro z hz; subst hz)
    | (intro h; exfalso; simp at h; done)
    | (intro h; exfalso; replace h := of_decide_eq_true h; omega)
    | (intro h; exfalso; replace h := of_decide_eq_false h; omega)
    | intro _
    | omega
    | exact rfl)
theorem datS_T (ao : Option Addr) (c : Nat) (f : Nat → Int) : (exFn Try.prog {tb := [(64, sSym)]} 400 Try.f123 ([.a (.c (.sl 0 ao 11 c))]) ([.row ⟨false, ao, 0, 1, 11, 0, [fun i => .int (f i)]⟩]) (fun v ch => ∃ (ro : Option Addr) (rc : Nat), OutR v ch (.slice ro 8 rc) [.row ⟨true, ro, 3, 1, 8, rc, [fun i => .int (dat f i)]⟩])) = (
  (∃ g00 : (Nat →
 Int), ((ao = ao ∧
 (11 = 11 ∧
 [(fun i1 => (Ci (f i1)))] = [(fun i2 => (Ci (g00 i2)))])) ∧
 ((lenC 11) ∧
 (((!(symB 11 g00 (11 : Int))) = true →
 (∀ b3 : Nat,
 (∃ ro4 : (Option Addr), (∃ rc5 : Nat, ((Ws (Ad b3 0) 0 0) = (Ws ro4 8 rc5) ∧
 (((true = true ∧
 ((Ad b3 0) = ro4 ∧
 (3 = 3 ∧
 (true = true ∧
 (0 = 8 ∧
 (0 = rc5 ∧
 true = true)))))) ∧
 True) ∧
 true = true)))))) ∧
 ((!(symB 11 g00 (11 : Int))) = false →
 (∀ b6 : Nat,
 ((ao = ao ∧
 (11 = 11 ∧
 (3 ≤ 11 ∧
 11 ≤ c))) ∧
 (∀ ao'7 : (Option Addr),
 ((b6 = b6 ∧
 ((ao'7 = ao'7 ∧
 8 = 8) ∧
 ((∀ i8 : Nat,
 true = true) ∧
 (apC 0 8 8)))) ∧
 (∀ ao9 : (Option Addr),
 (∀ cap10 : Nat,
 (∃ ro11 : (Option Addr), (∃ rc12 : Nat, ((Ws ao9 8 cap10) = (Ws ro11 8 rc12) ∧
 (((true = true ∧
 (ao9 = ro11 ∧
 (3 = 3 ∧
 (1 = 1 ∧
 (8 = 8 ∧
 (cap10 = rc12 ∧
 ((∀ i13 : Nat,
 (i13 < 8 →
 (Wi (f (i13 + 3))) = (Wi (dat f i13)))) ∧
 True))))))) ∧
 True) ∧
 true = true)))))))))))))))) := by kernel_rfl
theorem datS_any (ao : Option Addr) (c : Nat) (f : Nat → Int) (w : World) (h : Row.sat w ⟨false, ao, 0, 1, 11, 0, [fun i => .int (f i)]⟩) (hsy : symB 11 f 11 = true) (hcap : 11 ≤ c) : Calls Try.prog 123 #[.slice ao 11 c] w fun e w' => ∃ (ro : Option Addr) (rc : Nat), e = .returned (.slice ro 8 rc) ∧ HS ⟨w, fun _ => False⟩ [.row ⟨true, ro, 3, 1, 8, rc, [fun i => .int (dat f i)]⟩] w' := by
  refine fn_ok mixed (E := {tb := [(64, sSym)]}) ⟨sSym_S, trivial⟩ Try.func123 (fun _ _ => loopsOK_nil _ _ _) (@Eq.mpr _ _ (datS_T ao c f) ?_) (HS.rows (fun _ => False) [⟨false, ao, 0, 1, 11, 0, [fun i => .int (f i)]⟩] (by simpa using h)) (fun v ch' w' ⟨ro, rc, hk⟩ hs => ⟨ro, rc, by rw [hk.1], hk.hs hs⟩)
  clear h
  repeat' (first
    | with_reducible exact rfl
    | exact True.intro
    | with_reducible assumption
    | (intro h; exfalso; rw [hsy] at h; simp at h; done)
    | (intro i hi; exact rfl)
    | refine And.intro ?_ ?_
    | apply Exists.intro
    | (intro z hz; subst hz)
    | (intro h; exfalso; simp at h; done)
    | (intro h; exfalso; replace h := of_decide_eq_true h; omega)
    | (intro h; exfalso; replace h := of_decide_eq_false h; omega)
    | intro _
    | omega
    | exact rfl)
def sWos : Sm := fun args ch k =>
  match args with
  | [.a (.c c)] => rdn ch c fun n g => (n = 8 ∧ symB 8 g 8 = true) ∧ k (.tup [.c (.int (wordOf g)), .c (.lit true)]) ch []
  | _ => False
def sDat : Sm := fun args ch k =>
  match args with
  | [.a (.c (.sl id ao n cap))] =>
    match ch[id]? with
    | some (.row r) =>
      match r.own with
      | true => ∃ g : Nat → Int, (ao = r.ao ∧ n = r.n ∧ n = 11 ∧ cap = r.cap ∧ r.fld = [fun i => .int (g i)] ∧ symB 11 g 11 = true) ∧ ∀ (ro : Option Addr) (rc : Nat), k (.a (.c (.sl ch.length ro 8 rc))) (ch ++ [.row ⟨true, ro, 3, 1, 8, rc, [fun i => .int (dat g i)]⟩]) []
      | false => False
    | _ => False
  | _ => False
theorem sWos_I : SmOK Try.prog 129 sWos := by
  refine smB Try.call129 fun args ch k w X h0 hs => ?_
  unfold sWos at h0
  split at h0
  · obtain ⟨ao, n, c', g, e, hr, ⟨rfl, hsy⟩, h1⟩ := rdn_ok h0 hs
    refine ⟨_, h1, ?_⟩
    simp only [List.map_cons, List.map_nil, den_a, den_c, e]
    exact wosI_any ao c' g w hr hsy
  · exact h0.elim
theorem sDat_I : SmOK Try.prog 130 sDat := by
  refine smN Try.call130 fun args ch k w X h0 hs => ?_
  unfold sDat at h0
  split at h0
  · rename_i id ao n cap
    split at h0
    · rename_i r hid
      split at h0
      · rename_i hown
        obtain ⟨g, ⟨rfl, rfl, hn, rfl, hf, hsy⟩, h1⟩ := h0
        have hr : r.sat w := hs.sat id _ hid
        have hcap : 11 ≤ r.cap := by
          rcases hr.2.2 hown with ⟨_, q, _⟩ | ⟨_, _, _, _, q, _⟩ <;> omega
        have hr2 := seenAs' hr hf rfl
        rw [hn] at hr2
        have e : (SV.a (SA.c (SC.sl id r.ao r.n r.cap))).den = .slice r.ao 11 r.cap := by rw [hn]; rfl
        simp only [List.map_cons, List.map_nil, e]
        exact Calls.mono (datI_any r.ao r.cap g w hr2 hsy hcap) fun e w' ⟨ro, rc, he, hs'⟩ => ⟨.a (.c (.sl ch.length ro 8 rc)), _, by rw [he]; rfl, hs', rfl, h1 ro rc⟩
      · exact h0.elim
    · exact h0.elim
  · exact h0.elim
theorem sWos_S : SmOK Try.prog 122 sWos := by
  refine smB Try.call122 fun args ch k w X h0 hs => ?_
  unfold sWos at h0
  split at h0
  · obtain ⟨ao, n, c', g, e, hr, ⟨rfl, hsy⟩, h1⟩ := rdn_ok h0 hs
    refine ⟨_, h1, ?_⟩
    simp only [List.map_cons, List.map_nil, den_a, den_c, e]
    exact wosS_any ao c' g w hr hsy
  · exact h0.elim
theorem sDat_S : SmOK Try.prog 123 sDat := by
  refine smN Try.call123 fun args ch k w X h0 hs => ?_
  unfold sDat at h0
  split at h0
  · rename_i id ao n cap
    split at h0
    · rename_i r hid
      split at h0
      · rename_i hown
        obtain ⟨g, ⟨rfl, rfl, hn, rfl, hf, hsy⟩, h1⟩ := h0
        have hr : r.sat w := hs.sat id _ hid
        have hcap : 11 ≤ r.cap := by
          rcases hr.2.2 hown with ⟨_, q, _⟩ | ⟨_, _, _, _, q, _⟩ <;> omega
        have hr2 := seenAs' hr hf rfl
        rw [hn] at hr2
        have e : (SV.a (SA.c (SC.sl id r.ao r.n r.cap))).den = .slice r.ao 11 r.cap := by rw [hn]; rfl
        simp only [List.map_cons, List.map_nil, e]
        exact Calls.mono (datS_any r.ao r.cap g w hr2 hsy hcap) fun e w' ⟨ro, rc, he, hs'⟩ => ⟨.a (.c (.sl ch.length ro 8 rc)), _, by rw [he]; rfl, hs', rfl, h1 ro rc⟩
      · exact h0.elim
    · exact h0.elim
  · exact h0.elim

def sWok : Sm := inlM Try.prog {tb := [(124, sSyn)]} 300 Try.f127
theorem sWok_ok : SmOK Try.prog 127 sWok := inlM_ok mixed (E := {tb := [(124, sSyn)]}) ⟨sSyn_I, trivial⟩ Try.func127 Try.call127 (fun _ _ _ => loopsOK_nil _ _ _)
theorem corI_T (ao : Option Addr) (c : Nat) (f : Nat → Int) : (exFn Try.prog {tb := [(124, sSyn), (127, sWok), (125, sInv), (126, sMul), (128, sLog)]} 400 Try.f119 ([.a (.c (.sl 0 ao 11 c))]) ([.row ⟨false, ao, 0, 1, 11, 0, [fun i => .int (f i)]⟩]) (fun v ch => ∃ (ro : Option Addr) (rc : Nat), OutR v ch (.tuple #[.slice ro 11 rc, .int .i64 (corC f), .int .i64 (corP f)]) [.row ⟨true, ro, 3, 1, 11, rc, [fun i => .int (corW f i)]⟩])) = (
  (∃ g00 : (Nat →
 Int), ((ao = ao ∧
 (11 = 11 ∧
 [(fun i1 => (Ci (f i1)))] = [(fun i2 => (Ci (g00 i2)))])) ∧
 ((11 = 11 ∧
 (symB 11 g00 (11 : Int)) = true) ∧
 (∀ b3 : Nat,
 (∀ b4 : Nat,
 ((b4 = b4 ∧
 ((ao = ao ∧
 11 = 11) ∧
 ((∀ i5 : Nat,
 true = true) ∧
 (apC 0 11 8)))) ∧
 (∀ ao6 : (Option Addr),
 (∀ cap7 : Nat,
 (∃ g08 : (Nat →
 Int), ((ao = ao ∧
 (11 = 11 ∧
 [(fun i9 => (Ci (f i9)))] = [(fun i10 => (Ci (g08 i10)))])) ∧
 ((11 = 11 ∧
 (symB 11 g08 (11 : Int)) = true) ∧
 (∀ b11 : Nat,
 (b11 = b11 ∧
 ((((syn g08 0) == (0 : Int)) = true →
 (b11 = b11 ∧
 ((((syn g08 1) == (0 : Int)) = true →
 (b11 = b11 ∧
 ((((syn g08 2) == (0 : Int)) = true →
 (∃ ro12 : (Option Addr), (∃ rc13 : Nat, ((Wu [(Ws ao6 11 cap7), (Wi 0), (Wi (-1))]) = (Wu [(Ws ro12 11 rc13), (Wi (corC f)), (Wi (corP f))]) ∧
 (((true = true ∧
 (ao6 = ro12 ∧
 (3 = 3 ∧
 (1 = 1 ∧
 (11 = 11 ∧
 (cap7 = rc13 ∧
 ((∀ i14 : Nat,
 (i14 < 11 →
 (Wi (f i14)) = (Wi (corW f i14)))) ∧
 True))))))) ∧
 True) ∧
 true = true))))) ∧
 (((syn g08 2) == (0 : Int)) = false →
 (b3 = b3 ∧
 ((((syn g00 0) != (0 : Int)) = true →
 (b3 = b3 ∧
 ((((syn g00 1) != (0 : Int)) = true →
 (b3 = b3 ∧
 (b3 = b3 ∧
 ((el (syn g00 0)) ∧
 (∀ z15 : Int,
 (z15 = (gfInv (syn g00 0)) →
 (True ∧
 (((el (syn g00 1)) ∧
 (el z15)) ∧
 (∀ z16 : Int,
 (z16 = (gfM (syn g00 1) z15) →
 (True ∧
 ((el z16) ∧
 (∀ z17 : Int,
 (z17 = (gfLog z16) →
 (((decide (z17 < (11 : Int))) = true →
 (b3 = b3 ∧
 (b3 = b3 ∧
 (((el (syn g00 1)) ∧
 (el z16)) ∧
 (∀ z18 : Int,
 (z18 = (gfM (syn g00 1) z16) →
 (True ∧
 (((z18 == (syn g00 2)) = true →
 (ao6 = ao6 ∧
 (11 = 11 ∧
 ((0 ≤ z17 ∧ z17 < ((11 : Nat) : Int)) ∧
 (ao6 = ao6 ∧
 ((Int.toNat z17) < 11 ∧
 (b3 = b3 ∧
 (ao6 = ao6 ∧
 (11 = 11 ∧
 ((0 ≤ z17 ∧ z17 < ((11 : Nat) : Int)) ∧
 (ao6 = ao6 ∧
 ((Int.toNat z17) < 11 ∧
 (True ∧
 (∃ ro19 : (Option Addr), (∃ rc20 : Nat, ((Wu [(Ws ao6 11 cap7), (Wi 1), (Wi z17)]) = (Wu [(Ws ro19 11 rc20), (Wi (corC f)), (Wi (corP f))]) ∧
 (((true = true ∧
 (ao6 = ro19 ∧
 (3 = 3 ∧
 (1 = 1 ∧
 (11 = 11 ∧
 (cap7 = rc20 ∧
 ((∀ i21 : Nat,
 (i21 < 11 →
 (Wi (if i21 = (Int.toNat z17) then (bits BinOp.xor .i64 (f (Int.toNat z17)) (syn g00 0)) else (f i21))) = (Wi (corW f i21)))) ∧
 True))))))) ∧
 True) ∧
 true = true))))))))))))))))) ∧
 ((z18 == (syn g00 2)) = false →
 (∃ ro22 : (Option Addr), (∃ rc23 : Nat, ((Wu [(Ws ao6 11 cap7), (Wi 2), (Wi (-1))]) = (Wu [(Ws ro22 11 rc23), (Wi (corC f)), (Wi (corP f))]) ∧
 (((true = true ∧
 (ao6 = ro22 ∧
 (3 = 3 ∧
 (1 = 1 ∧
 (11 = 11 ∧
 (cap7 = rc23 ∧
 ((∀ i24 : Nat,
 (i24 < 11 →
 (Wi (f i24)) = (Wi (corW f i24)))) ∧
 True))))))) ∧
 True) ∧
 true = true))))))))))))) ∧
 ((decide (z17 < (11 : Int))) = false →
 (∃ ro25 : (Option Addr), (∃ rc26 : Nat, ((Wu [(Ws ao6 11 cap7), (Wi 2), (Wi (-1))]) = (Wu [(Ws ro25 11 rc26), (Wi (corC f)), (Wi (corP f))]) ∧
 (((true = true ∧
 (ao6 = ro25 ∧
 (3 = 3 ∧
 (1 = 1 ∧
 (11 = 11 ∧
 (cap7 = rc26 ∧
 ((∀ i27 : Nat,
 (i27 < 11 →
 (Wi (f i27)) = (Wi (corW f i27)))) ∧
 True))))))) ∧
 True) ∧
 true = true)))))))))))))))))))) ∧
 (((syn g00 1) != (0 : Int)) = false →
 (∃ ro28 : (Option Addr), (∃ rc29 : Nat, ((Wu [(Ws ao6 11 cap7), (Wi 2), (Wi (-1))]) = (Wu [(Ws ro28 11 rc29), (Wi (corC f)), (Wi (corP f))]) ∧
 (((true = true ∧
 (ao6 = ro28 ∧
 (3 = 3 ∧
 (1 = 1 ∧
 (11 = 11 ∧
 (cap7 = rc29 ∧
 ((∀ i30 : Nat,
 (i30 < 11 →
 (Wi (f i30)) = (Wi (corW f i30)))) ∧
 True))))))) ∧
 True) ∧
 true = true)))))))) ∧
 (((syn g00 0) != (0 : Int)) = false →
 (∃ ro31 : (Option Addr), (∃ rc32 : Nat, ((Wu [(Ws ao6 11 cap7), (Wi 2), (Wi (-1))]) = (Wu [(Ws ro31 11 rc32), (Wi (corC f)), (Wi (corP f))]) ∧
 (((true = true ∧
 (ao6 = ro31 ∧
 (3 = 3 ∧
 (1 = 1 ∧
 (11 = 11 ∧
 (cap7 = rc32 ∧
 ((∀ i33 : Nat,
 (i33 < 11 →
 (Wi (f i33)) = (Wi (corW f i33)))) ∧
 True))))))) ∧
 True) ∧
 true = true))))))))))) ∧
 (((syn g08 1) == (0 : Int)) = false →
 (b3 = b3 ∧
 ((((syn g00 0) != (0 : Int)) = true →
 (b3 = b3 ∧
 ((((syn g00 1) != (0 : Int)) = true →
 (b3 = b3 ∧
 (b3 = b3 ∧
 ((el (syn g00 0)) ∧
 (∀ z34 : Int,
 (z34 = (gfInv (syn g00 0)) →
 (True ∧
 (((el (syn g00 1)) ∧
 (el z34)) ∧
 (∀ z35 : Int,
 (z35 = (gfM (syn g00 1) z34) →
 (True ∧
 ((el z35) ∧
 (∀ z36 : Int,
 (z36 = (gfLog z35) →
 (((decide (z36 < (11 : Int))) = true →
 (b3 = b3 ∧
 (b3 = b3 ∧
 (((el (syn g00 1)) ∧
 (el z35)) ∧
 (∀ z37 : Int,
 (z37 = (gfM (syn g00 1) z35) →
 (True ∧
 (((z37 == (syn g00 2)) = true →
 (ao6 = ao6 ∧
 (11 = 11 ∧
 ((0 ≤ z36 ∧ z36 < ((11 : Nat) : Int)) ∧
 (ao6 = ao6 ∧
 ((Int.toNat z36) < 11 ∧
 (b3 = b3 ∧
 (ao6 = ao6 ∧
 (11 = 11 ∧
 ((0 ≤ z36 ∧ z36 < ((11 : Nat) : Int)) ∧
 (ao6 = ao6 ∧
 ((Int.toNat z36) < 11 ∧
 (True ∧
 (∃ ro38 : (Option Addr), (∃ rc39 : Nat, ((Wu [(Ws ao6 11 cap7), (Wi 1), (Wi z36)]) = (Wu [(Ws ro38 11 rc39), (Wi (corC f)), (Wi (corP f))]) ∧
 (((true = true ∧
 (ao6 = ro38 ∧
 (3 = 3 ∧
 (1 = 1 ∧
 (11 = 11 ∧
 (cap7 = rc39 ∧
 ((∀ i40 : Nat,
 (i40 < 11 →
 (Wi (if i40 = (Int.toNat z36) then (bits BinOp.xor .i64 (f (Int.toNat z36)) (syn g00 0)) else (f i40))) = (Wi (corW f i40)))) ∧
 True))))))) ∧
 True) ∧
 true = true))))))))))))))))) ∧
 ((z37 == (syn g00 2)) = false →
 (∃ ro41 : (Option Addr), (∃ rc42 : Nat, ((Wu [(Ws ao6 11 cap7), (Wi 2), (Wi (-1))]) = (Wu [(Ws ro41 11 rc42), (Wi (corC f)), (Wi (corP f))]) ∧
 (((true = true ∧
 (ao6 = ro41 ∧
 (3 = 3 ∧
 (1 = 1 ∧
 (11 = 11 ∧
 (cap7 = rc42 ∧
 ((∀ i43 : Nat,
 (i43 < 11 →
 (Wi (f i43)) = (Wi (corW f i43)))) ∧
 True))))))) ∧
 True) ∧
 true = true))))))))))))) ∧
 ((decide (z36 < (11 : Int))) = false →
 (∃ ro44 : (Option Addr), (∃ rc45 : Nat, ((Wu [(Ws ao6 11 cap7), (Wi 2), (Wi (-1))]) = (Wu [(Ws ro44 11 rc45), (Wi (corC f)), (Wi (corP f))]) ∧
 (((true = true ∧
 (ao6 = ro44 ∧
 (3 = 3 ∧
 (1 = 1 ∧
 (11 = 11 ∧
 (cap7 = rc45 ∧
 ((∀ i46 : Nat,
 (i46 < 11 →
 (Wi (f i46)) = (Wi (corW f i46)))) ∧
 True))))))) ∧
 True) ∧
 true = true)))))))))))))))))))) ∧
 (((syn g00 1) != (0 : Int)) = false →
 (∃ ro47 : (Option Addr), (∃ rc48 : Nat, ((Wu [(Ws ao6 11 cap7), (Wi 2), (Wi (-1))]) = (Wu [(Ws ro47 11 rc48), (Wi (corC f)), (Wi (corP f))]) ∧
 (((true = true ∧
 (ao6 = ro47 ∧
 (3 = 3 ∧
 (1 = 1 ∧
 (11 = 11 ∧
 (cap7 = rc48 ∧
 ((∀ i49 : Nat,
 (i49 < 11 →
 (Wi (f i49)) = (Wi (corW f i49)))) ∧
 True))))))) ∧
 True) ∧
 true = true)))))))) ∧
 (((syn g00 0) != (0 : Int)) = false →
 (∃ ro50 : (Option Addr), (∃ rc51 : Nat, ((Wu [(Ws ao6 11 cap7), (Wi 2), (Wi (-1))]) = (Wu [(Ws ro50 11 rc51), (Wi (corC f)), (Wi (corP f))]) ∧
 (((true = true ∧
 (ao6 = ro50 ∧
 (3 = 3 ∧
 (1 = 1 ∧
 (11 = 11 ∧
 (cap7 = rc51 ∧
 ((∀ i52 : Nat,
 (i52 < 11 →
 (Wi (f i52)) = (Wi (corW f i52)))) ∧
 True))))))) ∧
 True) ∧
 true = true))))))))))) ∧
 (((syn g08 0) == (0 : Int)) = false →
 (b3 = b3 ∧
 ((((syn g00 0) != (0 : Int)) = true →
 (b3 = b3 ∧
 ((((syn g00 1) != (0 : Int)) = true →
 (b3 = b3 ∧
 (b3 = b3 ∧
 ((el (syn g00 0)) ∧
 (∀ z53 : Int,
 (z53 = (gfInv (syn g00 0)) →
 (True ∧
 (((el (syn g00 1)) ∧
 (el z53)) ∧
 (∀ z54 : Int,
 (z54 = (gfM (syn g00 1) z53) →
 (True ∧
 ((el z54) ∧
 (∀ z55 : Int,
 (z55 = (gfLog z54) →
 (((decide (z55 < (11 : Int))) = true →
 (b3 = b3 ∧
 (b3 = b3 ∧
 (((el (syn g00 1)) ∧
 (el z54)) ∧
 (∀ z56 : Int,
 (z56 = (gfM (syn g00 1) z54) →
 (True ∧
 (((z56 == (syn g00 2)) = true →
 (ao6 = ao6 ∧
 (11 = 11 ∧
 ((0 ≤ z55 ∧ z55 < ((11 : Nat) : Int)) ∧
 (ao6 = ao6 ∧
 ((Int.toNat z55) < 11 ∧
 (b3 = b3 ∧
 (ao6 = ao6 ∧
 (11 = 11 ∧
 ((0 ≤ z55 ∧ z55 < ((11 : Nat) : Int)) ∧
 (ao6 = ao6 ∧
 ((Int.toNat z55) < 11 ∧
 (True ∧
 (∃ ro57 : (Option Addr), (∃ rc58 : Nat, ((Wu [(Ws ao6 11 cap7), (Wi 1), (Wi z55)]) = (Wu [(Ws ro57 11 rc58), (Wi (corC f)), (Wi (corP f))]) ∧
 (((true = true ∧
 (ao6 = ro57 ∧
 (3 = 3 ∧
 (1 = 1 ∧
 (11 = 11 ∧
 (cap7 = rc58 ∧
 ((∀ i59 : Nat,
 (i59 < 11 →
 (Wi (if i59 = (Int.toNat z55) then (bits BinOp.xor .i64 (f (Int.toNat z55)) (syn g00 0)) else (f i59))) = (Wi (corW f i59)))) ∧
 True))))))) ∧
 True) ∧
 true = true))))))))))))))))) ∧
 ((z56 == (syn g00 2)) = false →
 (∃ ro60 : (Option Addr), (∃ rc61 : Nat, ((Wu [(Ws ao6 11 cap7), (Wi 2), (Wi (-1))]) = (Wu [(Ws ro60 11 rc61), (Wi (corC f)), (Wi (corP f))]) ∧
 (((true = true ∧
 (ao6 = ro60 ∧
 (3 = 3 ∧
 (1 = 1 ∧
 (11 = 11 ∧
 (cap7 = rc61 ∧
 ((∀ i62 : Nat,
 (i62 < 11 →
 (Wi (f i62)) = (Wi (corW f i62)))) ∧
 True))))))) ∧
 True) ∧
 true = true))))))))))))) ∧
 ((decide (z55 < (11 : Int))) = false →
 (∃ ro63 : (Option Addr), (∃ rc64 : Nat, ((Wu [(Ws ao6 11 cap7), (Wi 2), (Wi (-1))]) = (Wu [(Ws ro63 11 rc64), (Wi (corC f)), (Wi (corP f))]) ∧
 (((true = true ∧
 (ao6 = ro63 ∧
 (3 = 3 ∧
 (1 = 1 ∧
 (11 = 11 ∧
 (cap7 = rc64 ∧
 ((∀ i65 : Nat,
 (i65 < 11 →
 (Wi (f i65)) = (Wi (corW f i65)))) ∧
 True))))))) ∧
 True) ∧
 true = true)))))))))))))))))))) ∧
 (((syn g00 1) != (0 : Int)) = false →
 (∃ ro66 : (Option Addr), (∃ rc67 : Nat, ((Wu [(Ws ao6 11 cap7), (Wi 2), (Wi (-1))]) = (Wu [(Ws ro66 11 rc67), (Wi (corC f)), (Wi (corP f))]) ∧
 (((true = true ∧
 (ao6 = ro66 ∧
 (3 = 3 ∧
 (1 = 1 ∧
 (11 = 11 ∧
 (cap7 = rc67 ∧
 ((∀ i68 : Nat,
 (i68 < 11 →
 (Wi (f i68)) = (Wi (corW f i68)))) ∧
 True))))))) ∧
 True) ∧
 true = true)))))))) ∧
 (((syn g00 0) != (0 : Int)) = false →
 (∃ ro69 : (Option Addr), (∃ rc70 : Nat, ((Wu [(Ws ao6 11 cap7), (Wi 2), (Wi (-1))]) = (Wu [(Ws ro69 11 rc70), (Wi (corC f)), (Wi (corP f))]) ∧
 (((true = true ∧
 (ao6 = ro69 ∧
 (3 = 3 ∧
 (1 = 1 ∧
 (11 = 11 ∧
 (cap7 = rc70 ∧
 ((∀ i71 : Nat,
 (i71 < 11 →
 (Wi (f i71)) = (Wi (corW f i71)))) ∧
 True))))))) ∧
 True) ∧
 true = true))))))))))))))))))))))) := by kernel_rfl
theorem mulStep2 {a b : Int} {K : Int → Prop} (ha : el a) (hb : el b) (h : el (gfM a b) → K (gfM a b)) : (el a ∧ el b) ∧ ∀ z : Int, z = gfM a b → K z :=
  ⟨⟨ha, hb⟩, fun z hz => by rw [hz]; exact h (el_gf ha hb)⟩
theorem zer_of {f : Nat → Int} (h : ¬ (syn f 0 = 0 ∧ syn f 1 = 0 ∧ syn f 2 = 0)) : zerB f = false := by
  cases hz : zerB f
  · rfl
  · simp only [zerB, Bool.and_eq_true, beq_iff_eq] at hz
    exact absurd ⟨hz.1.1, hz.1.2, hz.2⟩ h
theorem cor_none {f : Nat → Int} (hP : corP f = -1) : ∀ i, corW f i = f i := fun i => by
  unfold corW
  rw [hP, if_neg (by omega)]
theorem cor_lost {f : Nat → Int} (hz : zerB f = false) (hP : corP f = -1) : corC f = 2 := by
  unfold corC
  rw [hz, hP]
  rfl
theorem corI_any (ao : Option Addr) (c : Nat) (f : Nat → Int) (w : World) (h : Row.sat w ⟨false, ao, 0, 1, 11, 0, [fun i => .int (f i)]⟩) (hsy : symB 11 f 11 = true) : Calls Try.prog 119 #[.slice ao 11 c] w fun e w' => ∃ (ro : Option Addr) (rc : Nat), e = .returned (.tuple #[.slice ro 11 rc, .int .i64 (corC f), .int .i64 (corP f)]) ∧ HS ⟨w, fun _ => False⟩ [.row ⟨true, ro, 3, 1, 11, rc, [fun i => .int (corW f i)]⟩] w' := by
  refine fn_ok mixed (E := {tb := [(124, sSyn), (127, sWok), (125, sInv), (126, sMul), (128, sLog)]}) ⟨sSyn_I, sWok_ok, sInv_ok, sMul_I, sLog_ok, trivial⟩ Try.func119 (fun _ _ => loopsOK_nil _ _ _) (@Eq.mpr _ _ (corI_T ao c f) ?_) (HS.rows (fun _ => False) [⟨false, ao, 0, 1, 11, 0, [fun i => .int (f i)]⟩] (by simpa using h)) (fun v ch' w' ⟨ro, rc, hk⟩ hs => ⟨ro, rc, by rw [hk.1], hk.hs hs⟩)
  clear h
  have hf := symB_el hsy
  by_cases h0 : syn f 0 = 0
  · have hP := imp_no hf (.inl h0)
    have hW := cor_none hP
    by_cases h1 : syn f 1 = 0
    · by_cases h2 : syn f 2 = 0
      · have hC : corC f = 0 := by simp [corC, zerB, h0, h1, h2]
        repeat' (first
          | with_reducible exact rfl
          | exact True.intro
          | with_reducible assumption
          | (intro h; exfalso; simp [h0, h1, h2] at h; done)
          | with_reducible exact hsy
          | with_reducible exact syn_el hf (by omega)
          | (with_reducible refine mulStep2 ?_ ?_ (fun hze => ?_))
          | (show (_ : Value) = _; rw [hC, hP]; try with_reducible rfl)
          | (intro i hi; rw [hW i])
          | refine And.intro ?_ ?_
          | apply Exists.intro
          | (intro z hz; subst hz)
          | (intro h; exfalso; simp at h; done)
          | (intro h; exfalso; replace h := of_decide_eq_true h; omega)
          | (intro h; exfalso; replace h := of_decide_eq_false h; omega)
          | intro _
          | omega
          | exact rfl)
      · have hC := cor_lost (zer_of (fun q => h2 q.2.2)) hP
        repeat' (first
          | with_reducible exact rfl
          | exact True.intro
          | with_reducible assumption
          | (intro h; exfalso; simp [h0, h1, h2] at h; done)
          | with_reducible exact hsy
          | with_reducible exact syn_el hf (by omega)
          | (with_reducible refine mulStep2 ?_ ?_ (fun hze => ?_))
          | (show (_ : Value) = _; rw [hC, hP]; try with_reducible rfl)
          | (intro i hi; rw [hW i])
          | refine And.intro ?_ ?_
          | apply Exists.intro
          | (intro z hz; subst hz)
          | (intro h; exfalso; simp at h; done)
          | (intro h; exfalso; replace h := of_decide_eq_true h; omega)
          | (intro h; exfalso; replace h := of_decide_eq_false h; omega)
          | intro _
          | omega
          | exact rfl)
    · have hC := cor_lost (zer_of (fun q => h1 q.2.1)) hP
      repeat' (first
        | with_reducible exact rfl
        | exact True.intro
        | with_reducible assumption
        | (intro h; exfalso; simp [h0, h1] at h; done)
        | with_reducible exact hsy
        | with_reducible exact syn_el hf (by omega)
        | (with_reducible refine mulStep2 ?_ ?_ (fun hze => ?_))
        | (show (_ : Value) = _; rw [hC, hP]; try with_reducible rfl)
        | (intro i hi; rw [hW i])
        | refine And.intro ?_ ?_
        | apply Exists.intro
        | (intro z hz; subst hz)
        | (intro h; exfalso; simp at h; done)
        | (intro h; exfalso; replace h := of_decide_eq_true h; omega)
        | (intro h; exfalso; replace h := of_decide_eq_false h; omega)
        | intro _
        | omega
        | exact rfl)
  · by_cases h1 : syn f 1 = 0
    · have hP := imp_no hf (.inr h1)
      have hW := cor_none hP
      have hC := cor_lost (zer_of (fun q => h0 q.1)) hP
      repeat' (first
        | with_reducible exact rfl
        | exact True.intro
        | with_reducible assumption
        | (intro h; exfalso; simp [h0, h1] at h; done)
        | with_reducible exact hsy
        | with_reducible exact syn_el hf (by omega)
        | (with_reducible refine mulStep2 ?_ ?_ (fun hze => ?_))
        | (show (_ : Value) = _; rw [hC, hP]; try with_reducible rfl)
        | (intro i hi; rw [hW i])
        | refine And.intro ?_ ?_
        | apply Exists.intro
        | (intro z hz; subst hz)
        | (intro h; exfalso; simp at h; done)
        | (intro h; exfalso; replace h := of_decide_eq_true h; omega)
        | (intro h; exfalso; replace h := of_decide_eq_false h; omega)
        | intro _
        | omega
        | exact rfl)
    · obtain ⟨he, hl, hp⟩ := imp_pos hf h0 h1
      have hem := el_gf (syn_el hf (j := 1) (by omega)) he
      by_cases hlt : gfLog (gfM (syn f 1) (gfInv (syn f 0))) < 11
      · by_cases hq : gfM (syn f 1) (gfM (syn f 1) (gfInv (syn f 0))) = syn f 2
        · rw [if_pos ⟨hlt, hq⟩] at hp
          have hP := hp
          have hC : corC f = 1 := by
            unfold corC
            rw [zer_of (fun q => h0 q.1), hP, if_neg (by simp), if_pos hl.1]
          have hW : ∀ i, corW f i = if i = Int.toNat (gfLog (gfM (syn f 1) (gfInv (syn f 0)))) then bits .xor .i64 (f (Int.toNat (gfLog (gfM (syn f 1) (gfInv (syn f 0)))))) (syn f 0) else f i := fun i => by
            unfold corW
            rw [hP]
            by_cases e : i = Int.toNat (gfLog (gfM (syn f 1) (gfInv (syn f 0))))
            · rw [if_pos e, if_pos (by omega), e]
            · rw [if_neg e, if_neg (by omega)]
          repeat' (first
            | with_reducible exact rfl
            | exact True.intro
            | with_reducible assumption
            | (intro h; exfalso; simp [h0, h1, hlt, hq] at h; done)
            | with_reducible exact hsy
            | with_reducible exact syn_el hf (by omega)
            | (with_reducible refine mulStep2 ?_ ?_ (fun hze => ?_))
            | (show (_ : Value) = _; rw [hC, hP]; try with_reducible rfl)
            | (intro i hi; rw [hW i])
            | refine And.intro ?_ ?_
            | apply Exists.intro
            | (intro z hz; subst hz)
            | (intro h; exfalso; simp at h; done)
            | (intro h; exfalso; replace h := of_decide_eq_true h; omega)
            | (intro h; exfalso; replace h := of_decide_eq_false h; omega)
            | intro _
            | omega
            | exact rfl)
        · rw [if_neg (fun q => hq q.2)] at hp
          have hP := hp
          have hW := cor_none hP
          have hC := cor_lost (zer_of (fun q => h0 q.1)) hP
          repeat' (first
            | with_reducible exact rfl
            | exact True.intro
            | with_reducible assumption
            | (intro h; exfalso; simp [h0, h1, hlt, hq] at h; done)
            | with_reducible exact hsy
            | with_reducible exact syn_el hf (by omega)
            | (with_reducible refine mulStep2 ?_ ?_ (fun hze => ?_))
            | (show (_ : Value) = _; rw [hC, hP]; try with_reducible rfl)
            | (intro i hi; rw [hW i])
            | refine And.intro ?_ ?_
            | apply Exists.intro
            | (intro z hz; subst hz)
            | (intro h; exfalso; simp at h; done)
            | (intro h; exfalso; replace h := of_decide_eq_true h; omega)
            | (intro h; exfalso; replace h := of_decide_eq_false h; omega)
            | intro _
            | omega
            | exact rfl)
      · rw [if_neg (fun q => hlt q.1)] at hp
        have hP := hp
        have hW := cor_none hP
        have hC := cor_lost (zer_of (fun q => h0 q.1)) hP
        repeat' (first
          | with_reducible exact rfl
          | exact True.intro
          | with_reducible assumption
          | (intro h; exfalso; simp [h0, h1, hlt] at h; done)
          | with_reducible exact hsy
          | with_reducible exact syn_el hf (by omega)
          | (with_reducible refine mulStep2 ?_ ?_ (fun hze => ?_))
          | (show (_ : Value) = _; rw [hC, hP]; try with_reducible rfl)
          | (intro i hi; rw [hW i])
          | refine And.intro ?_ ?_
          | apply Exists.intro
          | (intro z hz; subst hz)
          | (intro h; exfalso; simp at h; done)
          | (intro h; exfalso; replace h := of_decide_eq_true h; omega)
          | (intro h; exfalso; replace h := of_decide_eq_false h; omega)
          | intro _
          | omega
          | exact rfl)
abbrev r10 (n : Int) : Prop := 0 ≤ n ∧ n ≤ 10
def sPowS : Sm := fun args ch k =>
  match args with
  | [.a (.c x), .a (.c y)] =>
    match litN x, asI y with
    | some m, some n =>
      match Nat.beq m 2 with
      | true => r10 n ∧ ∀ z : Int, z = pwI n → k (.a (.c (.int z))) ch []
      | false => False
    | _, _ => False
  | _ => False
theorem sPowS_ok : SmOK Try.prog 118 sPowS := by
  refine smB Try.call118 fun args ch k w X h0 hs => ?_
  unfold sPowS at h0
  split at h0
  · rename_i x y
    split at h0
    · rename_i m n hm hn
      split at h0
      · rename_i h1
        refine ⟨_, h0.2 _ rfl, ?_⟩
        have e := beqN h1
        subst e
        simp only [List.map_cons, List.map_nil, den_a, den_c, litN_den hm, asI_den hn]
        obtain ⟨q, rfl⟩ := Int.eq_ofNat_of_zero_le h0.1.1
        have h2 := h0.1.2
        exact powS_lit q (by omega) w
      · exact h0.elim
    · exact h0.elim
  · exact h0.elim
def cwH (ao : Option Addr) (c : Nat) (f : Nat → Int) (ro : Option Addr) (rc b : Nat) (i : SC) (g : Nat → Value) : List SV := [.a (.c (.sl 0 ao 11 c)), .a (.c (.val (g 1))), .a (.c (.val (g 2))), .a (.c (.val (g 3))), .a (.c (.val (g 4))), .a (.c (.sl 1 ro 11 rc)), .a (.c (.slc 2 b 3 3)), .a (.c i), .a (.c (.val (g 8))), .a (.c (.val (g 9))), .a (.c (.val (g 10))), .a (.c (.val (g 11))), .a (.c (.val (g 12))), .a (.c (.val (g 13))), .a (.c (.val (g 14))), .a (.c (.val (g 15))), .a (.c (.val (g 16))), .a (.c (.val (g 17))), .a (.c (.val (g 18))), .a (.c (.val (g 19))), .a (.c (.val (g 20))), .a (.c (.val (g 21))), .a (.c (.val (g 22))), .a (.c (.val (g 23))), .a (.c (.val (g 24))), .a (.c (.val (g 25))), .a (.c (.val (g 26))), .a (.c (.val (g 27))), .a (.c (.val (g 28))), .a (.c (.val (g 29))), .a (.c (.val (g 30))), .a (.c (.val (g 31))), .a (.c (.val (g 32))), .a (.c (.val (g 33))), .a (.c (.val (g 34))), .a (.c (.val (g 35))), .a (.c (.val (g 36))), .a (.c (.val (g 37))), .a (.c (.val (g 38))), .a (.c (.val (g 39))), .a (.c (.val (g 40))), .a (.c (.val (g 41))), .a (.c (.val (g 42))), .a (.c (.val (g 43))), .a (.c (.val (g 44))), .a (.c (.val (g 45))), .a (.c (.val (g 46))), .a (.c (.val (g 47))), .a (.c (.val (g 48))), .a (.c (.val (g 49))), .a (.c (.val (g 50))), .a (.c (.val (g 51))), .a (.c (.val (g 52))), .a (.c (.val (g 53))), .a (.c (.val (g 54))), .a (.c (.val (g 55))), .a (.c (.val (g 56))), .a (.c (.val (g 57))), .a (.c (.val (g 58))), .a (.c (.val (g 59))), .a (.c (.val (g 60))), .a (.c (.val (g 61))), .a (.c (.val (g 62))), .a (.c (.val (g 63))), .a (.c (.val (g 64))), .a (.c (.val (g 65))), .a (.c (.val (g 66)))]
def cwR (ao : Option Addr) (c : Nat) (f : Nat → Int) (ro : Option Addr) (rc b : Nat) (m : Nat) (g : Nat → Value) : List SV := [.a (.c (.val (g 0))), .a (.c (.val (g 1))), .a (.c (.sl 1 ro 11 rc)), .a (.c (.il 1)), .a (.c (.int (m : Int))), .a (.c (.val (g 5))), .a (.c (.val (g 6))), .a (.c (.val (g 7))), .a (.c (.val (g 8))), .a (.c (.val (g 9))), .a (.c (.val (g 10))), .a (.c (.val (g 11))), .a (.c (.val (g 12))), .a (.c (.val (g 13))), .a (.c (.val (g 14))), .a (.c (.val (g 15))), .a (.c (.val (g 16))), .a (.c (.val (g 17))), .a (.c (.val (g 18))), .a (.c (.val (g 19))), .a (.c (.val (g 20))), .a (.c (.val (g 21))), .a (.c (.val (g 22))), .a (.c (.val (g 23))), .a (.c (.val (g 24))), .a (.c (.val (g 25))), .a (.c (.val (g 26))), .a (.c (.val (g 27))), .a (.c (.val (g 28))), .a (.c (.val (g 29))), .a (.c (.val (g 30))), .a (.c (.val (g 31))), .a (.c (.val (g 32))), .a (.c (.val (g 33))), .a (.c (.val (g 34))), .a (.c (.val (g 35))), .a (.c (.val (g 36))), .a (.c (.val (g 37))), .a (.c (.val (g 38))), .a (.c (.val (g 39))), .a (.c (.val (g 40))), .a (.c (.val (g 41))), .a (.c (.val (g 42))), .a (.c (.val (g 43))), .a (.c (.val (g 44))), .a (.c (.val (g 45))), .a (.c (.val (g 46))), .a (.c (.val (g 47))), .a (.c (.val (g 48))), .a (.c (.val (g 49))), .a (.c (.val (g 50))), .a (.c (.val (g 51))), .a (.c (.val (g 52))), .a (.c (.val (g 53))), .a (.c (.val (g 54))), .a (.c (.val (g 55))), .a (.c (.val (g 56))), .a (.c (.val (g 57))), .a (.c (.val (g 58))), .a (.c (.val (g 59))), .a (.c (.val (g 60))), .a (.c (.val (g 61))), .a (.c (.val (g 62))), .a (.c (.val (g 63))), .a (.c (.val (g 64))), .a (.c (.val (g 65))), .a (.c (.val (g 66)))]
def cwT (ao : Option Addr) (c : Nat) (f : Nat → Int) (ro : Option Addr) (rc b : Nat) : List Ch := [.row ⟨false, ao, 0, 1, 11, 0, [fun i => .int (f i)]⟩, .row ⟨true, ro, 3, 1, 11, rc, [fun i => .int (f i)]⟩, .cells b 3 [.int (syn f 0), .int (syn f 1), .int (syn f 2)]]
def cwU (ao : Option Addr) (c : Nat) (f : Nat → Int) (ro : Option Addr) (rc b : Nat) : List Ch := [.row ⟨false, ao, 0, 1, 11, 0, [fun i => .int (f i)]⟩, .row ⟨true, ro, 3, 1, 11, rc, [fun i => .int (corW f i)]⟩, .cells b 3 [.int (syn f 0), .int (syn f 1), .int (syn f 2)]]
def idV (v : SV) : Nat :=
  match v with
  | .a (.c x) => idA x 1000000
  | _ => 1000001
def scw (ao : Option Addr) (c : Nat) (f : Nat → Int) : LSm := fun ts ch k => ∃ (ro : Option Addr) (rc b : Nat),
  (ts.map SV.den = (cwH ao c f ro rc b (.il 0) (fun d => (ts.getD d .undef).den)).map SV.den ∧ SelS ch [0, idV (ts.getD 5 .undef), idV (ts.getD 6 .undef)] (cwT ao c f ro rc b)) ∧
    (corP f = -1 → ∀ g, k (.exit 0) (cwH ao c f ro rc b (.int ((11 : Nat) : Int)) g) (cwT ao c f ro rc b)) ∧ (∀ m : Nat, ltN m 11 → corP f = (m : Int) → ∀ g, k .ret (cwR ao c f ro rc b m g) (cwU ao c f ro rc b))
theorem cwB (ao : Option Addr) (c : Nat) (f : Nat → Int) (ro : Option Addr) (rc b : Nat) (j : Nat) (g : Nat → Value) (NX : List SV → List Ch → Prop) (kx : Exit → List SV → List Ch → Prop) : (exCode Try.prog {tb := [(118, sPowS), (117, sMul)]} 400 (theLoop Try.f121 0) (cwH ao c f ro rc b (.int (j : Int)) g) (cwT ao c f ro rc b) (loopK NX kx)) = (
  (((decide (((j : Nat) : Int) < (11 : Int))) = true →
 ((r10 ((j : Nat) : Int)) ∧
 (∀ z0 : Int,
 (z0 = (pwI ((j : Nat) : Int)) →
 (b = b ∧
 ((((syn f 0) != (0 : Int)) = true →
 (b = b ∧
 (b = b ∧
 (((el (syn f 0)) ∧
 (el z0)) ∧
 (∀ z1 : Int,
 (z1 = (gfM (syn f 0) z0) →
 (True ∧
 (((z1 == (syn f 1)) = true →
 (b = b ∧
 (b = b ∧
 (((el (syn f 1)) ∧
 (el z0)) ∧
 (∀ z2 : Int,
 (z2 = (gfM (syn f 1) z0) →
 (True ∧
 (((z2 == (syn f 2)) = true →
 (ro = ro ∧
 (11 = 11 ∧
 ((0 ≤ ((j : Nat) : Int) ∧ ((j : Nat) : Int) < ((11 : Nat) : Int)) ∧
 (ro = ro ∧
 (j < 11 ∧
 (b = b ∧
 (ro = ro ∧
 (11 = 11 ∧
 ((0 ≤ ((j : Nat) : Int) ∧ ((j : Nat) : Int) < ((11 : Nat) : Int)) ∧
 (ro = ro ∧
 (j < 11 ∧
 (True ∧
 (kx Exit.ret [(sV 0 ao 11 c), (vV (g 1)), (sV 1 ro 11 rc), (lV 1), (iV ((j : Nat) : Int)), (sV 1 ro 11 rc), (cV 2 b 3 3), (iV ((j : Nat) : Int)), (iV z0), (vV (g 9)), (vV (g 10)), (vV (g 11)), (vV (g 12)), (vV (g 13)), (vV (g 14)), (vV (g 15)), (vV (g 16)), (vV (g 17)), (vV (g 18)), (vV (g 19)), (vV (g 20)), (iV ((j : Nat) : Int)), tV, (vV (g 23)), (vV (g 24)), (iV ((j : Nat) : Int)), (iV z0), (cV 2 b 3 3), (pV 2 b 0), (iV (syn f 0)), (bV ((syn f 0) != (0 : Int))), tV, (cV 2 b 3 3), (pV 2 b 0), (iV (syn f 0)), (iV z0), (iV z1), (cV 2 b 3 3), (pV 2 b 1), (iV (syn f 1)), (bV (z1 == (syn f 1))), (bV (z1 == (syn f 1))), tV, (cV 2 b 3 3), (pV 2 b 1), (iV (syn f 1)), (iV z0), (iV z2), (cV 2 b 3 3), (pV 2 b 2), (iV (syn f 2)), (bV (z2 == (syn f 2))), tV, (sV 1 ro 11 rc), (iV ((j : Nat) : Int)), (sV 1 ro 11 rc), (iV ((j : Nat) : Int)), (rV 1 ro 1 j 0), (iV (f j)), (cV 2 b 3 3), (pV 2 b 0), (iV (syn f 0)), (iV (bits BinOp.xor .i64 (f j) (syn f 0))), (rV 1 ro 1 j 0), (sV 1 ro 11 rc), (iV ((j : Nat) : Int)), (vV (g 66))] [(Hr false ao 0 1 11 0 [(fun i3 => (Ci (f i3)))]), (Hr true ro 3 1 11 rc [(fun j4 => (Ci (if j4 = j then (bits BinOp.xor .i64 (f j) (syn f 0)) else (f j4))))]), (Hc b 3 [(Ci (syn f 0)), (Ci (syn f 1)), (Ci (syn f 2))])])))))))))))))) ∧
 ((z2 == (syn f 2)) = false →
 ((rng (((j : Nat) : Int) + (1 : Int))) ∧
 (NX [(sV 0 ao 11 c), (vV (g 1)), (vV (g 2)), (vV (g 3)), (vV (g 4)), (sV 1 ro 11 rc), (cV 2 b 3 3), (iV (((j : Nat) : Int) + (1 : Int))), (iV z0), (vV (g 9)), (vV (g 10)), (vV (g 11)), (vV (g 12)), (vV (g 13)), (vV (g 14)), (vV (g 15)), (vV (g 16)), (vV (g 17)), (vV (g 18)), (vV (g 19)), (vV (g 20)), (iV ((j : Nat) : Int)), tV, (iV ((j : Nat) : Int)), (iV (((j : Nat) : Int) + (1 : Int))), (iV ((j : Nat) : Int)), (iV z0), (cV 2 b 3 3), (pV 2 b 0), (iV (syn f 0)), (bV ((syn f 0) != (0 : Int))), tV, (cV 2 b 3 3), (pV 2 b 0), (iV (syn f 0)), (iV z0), (iV z1), (cV 2 b 3 3), (pV 2 b 1), (iV (syn f 1)), (bV (z1 == (syn f 1))), (bV (z1 == (syn f 1))), tV, (cV 2 b 3 3), (pV 2 b 1), (iV (syn f 1)), (iV z0), (iV z2), (cV 2 b 3 3), (pV 2 b 2), (iV (syn f 2)), (bV (z2 == (syn f 2))), fV, (vV (g 53)), (vV (g 54)), (vV (g 55)), (vV (g 56)), (vV (g 57)), (vV (g 58)), (vV (g 59)), (vV (g 60)), (vV (g 61)), (vV (g 62)), (vV (g 63)), (vV (g 64)), (vV (g 65)), (vV (g 66))] [(Hr false ao 0 1 11 0 [(fun i5 => (Ci (f i5)))]), (Hr true ro 3 1 11 rc [(fun i6 => (Ci (f i6)))]), (Hc b 3 [(Ci (syn f 0)), (Ci (syn f 1)), (Ci (syn f 2))])]))))))))))) ∧
 ((z1 == (syn f 1)) = false →
 ((rng (((j : Nat) : Int) + (1 : Int))) ∧
 (NX [(sV 0 ao 11 c), (vV (g 1)), (vV (g 2)), (vV (g 3)), (vV (g 4)), (sV 1 ro 11 rc), (cV 2 b 3 3), (iV (((j : Nat) : Int) + (1 : Int))), (iV z0), (vV (g 9)), (vV (g 10)), (vV (g 11)), (vV (g 12)), (vV (g 13)), (vV (g 14)), (vV (g 15)), (vV (g 16)), (vV (g 17)), (vV (g 18)), (vV (g 19)), (vV (g 20)), (iV ((j : Nat) : Int)), tV, (iV ((j : Nat) : Int)), (iV (((j : Nat) : Int) + (1 : Int))), (iV ((j : Nat) : Int)), (iV z0), (cV 2 b 3 3), (pV 2 b 0), (iV (syn f 0)), (bV ((syn f 0) != (0 : Int))), tV, (cV 2 b 3 3), (pV 2 b 0), (iV (syn f 0)), (iV z0), (iV z1), (cV 2 b 3 3), (pV 2 b 1), (iV (syn f 1)), (bV (z1 == (syn f 1))), (bV (z1 == (syn f 1))), fV, xV, xV, xV, xV, xV, xV, xV, xV, xV, fV, (vV (g 53)), (vV (g 54)), (vV (g 55)), (vV (g 56)), (vV (g 57)), (vV (g 58)), (vV (g 59)), (vV (g 60)), (vV (g 61)), (vV (g 62)), (vV (g 63)), (vV (g 64)), (vV (g 65)), (vV (g 66))] [(Hr false ao 0 1 11 0 [(fun i7 => (Ci (f i7)))]), (Hr true ro 3 1 11 rc [(fun i8 => (Ci (f i8)))]), (Hc b 3 [(Ci (syn f 0)), (Ci (syn f 1)), (Ci (syn f 2))])]))))))))))) ∧
 (((syn f 0) != (0 : Int)) = false →
 ((rng (((j : Nat) : Int) + (1 : Int))) ∧
 (NX [(sV 0 ao 11 c), (vV (g 1)), (vV (g 2)), (vV (g 3)), (vV (g 4)), (sV 1 ro 11 rc), (cV 2 b 3 3), (iV (((j : Nat) : Int) + (1 : Int))), (iV z0), (vV (g 9)), (vV (g 10)), (vV (g 11)), (vV (g 12)), (vV (g 13)), (vV (g 14)), (vV (g 15)), (vV (g 16)), (vV (g 17)), (vV (g 18)), (vV (g 19)), (vV (g 20)), (iV ((j : Nat) : Int)), tV, (iV ((j : Nat) : Int)), (iV (((j : Nat) : Int) + (1 : Int))), (iV ((j : Nat) : Int)), (iV z0), (cV 2 b 3 3), (pV 2 b 0), (iV (syn f 0)), (bV ((syn f 0) != (0 : Int))), fV, xV, xV, xV, xV, xV, xV, xV, xV, xV, fV, fV, xV, xV, xV, xV, xV, xV, xV, xV, xV, fV, (vV (g 53)), (vV (g 54)), (vV (g 55)), (vV (g 56)), (vV (g 57)), (vV (g 58)), (vV (g 59)), (vV (g 60)), (vV (g 61)), (vV (g 62)), (vV (g 63)), (vV (g 64)), (vV (g 65)), (vV (g 66))] [(Hr false ao 0 1 11 0 [(fun i9 => (Ci (f i9)))]), (Hr true ro 3 1 11 rc [(fun i10 => (Ci (f i10)))]), (Hc b 3 [(Ci (syn f 0)), (Ci (syn f 1)), (Ci (syn f 2))])]))))))))) ∧
 ((decide (((j : Nat) : Int) < (11 : Int))) = false →
 (kx (Exit.exit 0) [(sV 0 ao 11 c), (vV (g 1)), (vV (g 2)), (vV (g 3)), (vV (g 4)), (sV 1 ro 11 rc), (cV 2 b 3 3), (iV ((j : Nat) : Int)), (vV (g 8)), (vV (g 9)), (vV (g 10)), (vV (g 11)), (vV (g 12)), (vV (g 13)), (vV (g 14)), (vV (g 15)), (vV (g 16)), (vV (g 17)), (vV (g 18)), (vV (g 19)), (vV (g 20)), (iV ((j : Nat) : Int)), fV, (vV (g 23)), (vV (g 24)), (vV (g 25)), (vV (g 26)), (vV (g 27)), (vV (g 28)), (vV (g 29)), (vV (g 30)), (vV (g 31)), (vV (g 32)), (vV (g 33)), (vV (g 34)), (vV (g 35)), (vV (g 36)), (vV (g 37)), (vV (g 38)), (vV (g 39)), (vV (g 40)), (vV (g 41)), (vV (g 42)), (vV (g 43)), (vV (g 44)), (vV (g 45)), (vV (g 46)), (vV (g 47)), (vV (g 48)), (vV (g 49)), (vV (g 50)), (vV (g 51)), (vV (g 52)), (vV (g 53)), (vV (g 54)), (vV (g 55)), (vV (g 56)), (vV (g 57)), (vV (g 58)), (vV (g 59)), (vV (g 60)), (vV (g 61)), (vV (g 62)), (vV (g 63)), (vV (g 64)), (vV (g 65)), (vV (g 66))] [(Hr false ao 0 1 11 0 [(fun i11 => (Ci (f i11)))]), (Hr true ro 3 1 11 rc [(fun i12 => (Ci (f i12)))]), (Hc b 3 [(Ci (syn f 0)), (Ci (syn f 1)), (Ci (syn f 2))])])))) := by kernel_rfl
theorem trial_no {f : Nat → Int} (hf : ∀ i, i < 11 → el (f i)) (h : ∀ i, i < 11 → hitI (syn f 0) (syn f 1) (syn f 2) i = false) : corP f = -1 := by
  rcases corP_trial hf with ⟨h1, _⟩ | ⟨m, _, h2, h3, _⟩
  · exact h1
  · rw [h m h2] at h3
    cases h3
theorem trial_hit {f : Nat → Int} (hf : ∀ i, i < 11 → el (f i)) {j : Nat} (hj : j < 11) (h : ∀ i, i < j → hitI (syn f 0) (syn f 1) (syn f 2) i = false) (hh : hitI (syn f 0) (syn f 1) (syn f 2) j = true) : corP f = (j : Int) := by
  rcases corP_trial hf with ⟨_, h1⟩ | ⟨m, h1, h2, h3, h4⟩
  · rw [h1 j hj] at hh
    cases hh
  · rcases Nat.lt_trichotomy m j with hlt | heq | hgt
    · rw [h m hlt] at h3; cases h3
    · rw [h1, heq]
    · rw [h4 j hgt] at hh; cases hh
theorem hit_nz {s0 s1 s2 : Int} {j : Nat} (h : hitI s0 s1 s2 j = true) : s0 ≠ 0 := fun e => by
  simp [hitI, e] at h
theorem scw_ok (ao : Option Addr) (c : Nat) (f : Nat → Int) (hf : ∀ i, i < 11 → el (f i)) (X : Cx) : LoopOK Try.prog X (theLoop Try.f121 0) (scw ao c f) := by
  intro ts ch k a w hS hT hd hs
  obtain ⟨ro, rc, b, ⟨h1, hch⟩, hk, hr⟩ := hS
  refine loop_ok mixed (E := {tb := [(118, sPowS), (117, sMul)]}) ⟨sPowS_ok, sMul_S, trivial⟩ (loopsOK_nil _ _ _) 400 11 (fun j ts ch => ∃ g, (∀ i, i < j → hitI (syn f 0) (syn f 1) (syn f 2) i = false) ∧ ts = cwH ao c f ro rc b (.int (j : Int)) g ∧ ch = cwT ao c f ro rc b) ?_ ?_ hT hd hs
  · rintro j _ _ ⟨g, hall, rfl, rfl⟩ hj
    refine (@Eq.mpr _ _ (cwB ao c f ro rc b j g _ _) ?_)
    by_cases hlt : j < 11
    · have hjn : (0 : Int) ≤ (j : Int) ∧ (j : Int) < ((11 : Nat) : Int) := ⟨by omega, by omega⟩
      have hr10 : r10 (j : Int) := ⟨by omega, by omega⟩
      have hpw := pw_el hr10
      have hs0 := syn_el hf (j := 0) (by omega)
      have hs1 := syn_el hf (j := 1) (by omega)
      have next : (hh : hitI (syn f 0) (syn f 1) (syn f 2) j = false) → ∀ i, i < j + 1 → hitI (syn f 0) (syn f 1) (syn f 2) i = false := fun hh i hi => by
        by_cases e : i = j
        · rw [e]; exact hh
        · exact hall i (by omega)
      have upd : hitI (syn f 0) (syn f 1) (syn f 2) j = true → ∀ i, corW f i = if i = j then bits .xor .i64 (f j) (syn f 0) else f i := fun hh i => by
        unfold corW
        rw [trial_hit hf hlt hall hh]
        by_cases e : i = j
        · rw [if_pos e, if_pos (by omega), e]
        · rw [if_neg e, if_neg (by omega)]
      cases h0 : (syn f 0 == 0) <;> cases q1 : (gfM (syn f 0) (pwI (j : Int)) == syn f 1) <;> cases q2 : (gfM (syn f 1) (pwI (j : Int)) == syn f 2)
      all_goals
        have hh : hitI (syn f 0) (syn f 1) (syn f 2) j = (!(syn f 0 == 0) && (gfM (syn f 0) (pwI (j : Int)) == syn f 1) && (gfM (syn f 1) (pwI (j : Int)) == syn f 2)) := rfl
        rw [h0, q1, q2] at hh
        have h0' : (syn f 0 != 0) = !(syn f 0 == 0) := rfl
        rw [h0] at h0'
        repeat' (first
          | with_reducible exact rfl
          | exact True.intro
          | with_reducible assumption
          | (with_reducible refine mulStep2 ?_ ?_ (fun hze => ?_))
          | (show Next _ _ _ _; refine Next.mk (fun g => cwH ao c f ro rc b (.int ((j + 1 : Nat) : Int)) g) _ ⟨_, next hh, rfl, rfl⟩ rfl fun w hw => hw)
          | (show Next _ _ _ _; refine Next.mk (fun g => cwR ao c f ro rc b j g) (cwU ao c f ro rc b) (hr j hlt (trial_hit hf hlt hall hh) _) rfl fun w hw => SelS.hs (l := [0, 1, 2]) (by refine ⟨?_, rfl⟩; repeat' (first | exact True.intro | exact symRows_push | exact rfl | refine And.intro ?_ ?_ | (intro i hi; show _ = _; with_reducible rfl) | (intro i hi; show _ = _; rfl) | (intro i hi; simp only [SC.den]; rw [upd hh i]) | (intro i hi; show _ = _; simp only [SC.den]; split <;> rfl))) hw)
          | refine And.intro ?_ ?_
          | (intro h; exfalso; simp at h; omega)
          | (intro h; exfalso; rw [h0'] at h; cases h; done)
          | (intro h; exfalso; rw [q1] at h; cases h; done)
          | (intro h; exfalso; rw [q2] at h; cases h; done)
          | (intro z hz; subst hz)
          | intro _
          | (show rng _; simp only [rng]; omega)
          | omega)
    · have hjn : j = 11 := by omega
      subst hjn
      repeat' (first
        | with_reducible exact rfl
        | exact True.intro
        | (show Next _ _ _ _; refine Next.mk (fun g => cwH ao c f ro rc b (.int ((11 : Nat) : Int)) g) _ (hk (trial_no hf hall) _) rfl fun w hw => hw)
        | refine And.intro ?_ ?_
        | (intro h; exfalso; simp at h; done)
        | intro _)
  · exact Next.mk (fun g => cwH ao c f ro rc b (.int ((0 : Nat) : Int)) g) _ ⟨_, fun i hi => absurd hi (Nat.not_lt_zero i), rfl, rfl⟩ h1 fun w hw => hch.hs hw
def sZer : Sm := inlM Try.prog {tb := []} 300 Try.f132
theorem sZer_ok : SmOK Try.prog 132 sZer := inlM_ok mixed (E := {tb := []}) trivial Try.func132 Try.call132 (fun _ _ _ => loopsOK_nil _ _ _)
theorem corS_T (ao : Option Addr) (c : Nat) (f : Nat → Int) : (exFn Try.prog {tb := [(64, sSym), (131, sSyn), (132, sZer)], L := [(8, scw ao c f)]} 400 Try.f121 ([.a (.c (.sl 0 ao 11 c))]) ([.row ⟨false, ao, 0, 1, 11, 0, [fun i => .int (f i)]⟩]) (fun v ch => ∃ (ro : Option Addr) (rc : Nat), OutR v ch (.tuple #[.slice ro 11 rc, .int .i64 (corC f), .int .i64 (corP f)]) [.row ⟨true, ro, 3, 1, 11, rc, [fun i => .int (corW f i)]⟩])) = (
  (∃ g00 : (Nat →
 Int), ((ao = ao ∧
 (11 = 11 ∧
 [(fun i1 => (Ci (f i1)))] = [(fun i2 => (Ci (g00 i2)))])) ∧
 ((lenC 11) ∧
 (((!(symB 11 g00 (11 : Int))) = true →
 (∀ b3 : Nat,
 (∃ ro4 : (Option Addr), (∃ rc5 : Nat, ((Wu [(Ws (Ad b3 0) 0 0), (Wi 2), (Wi (-1))]) = (Wu [(Ws ro4 11 rc5), (Wi (corC f)), (Wi (corP f))]) ∧
 (((true = true ∧
 ((Ad b3 0) = ro4 ∧
 (3 = 3 ∧
 (true = true ∧
 (0 = 11 ∧
 (0 = rc5 ∧
 true = true)))))) ∧
 True) ∧
 true = true)))))) ∧
 ((!(symB 11 g00 (11 : Int))) = false →
 (∀ b6 : Nat,
 ((b6 = b6 ∧
 ((ao = ao ∧
 11 = 11) ∧
 ((∀ i7 : Nat,
 true = true) ∧
 (apC 0 11 8)))) ∧
 (∀ ao8 : (Option Addr),
 (∀ cap9 : Nat,
 (∃ g010 : (Nat →
 Int), ((ao = ao ∧
 (11 = 11 ∧
 [(fun i11 => (Ci (f i11)))] = [(fun i12 => (Ci (g010 i12)))])) ∧
 ((11 = 11 ∧
 (symB 11 g010 (11 : Int)) = true) ∧
 (∀ b13 : Nat,
 (b13 = b13 ∧
 ((((syn g010 0) == (0 : Int)) = true →
 (b13 = b13 ∧
 ((((syn g010 1) == (0 : Int)) = true →
 (b13 = b13 ∧
 ((((syn g010 2) == (0 : Int)) = true →
 (∃ ro14 : (Option Addr), (∃ rc15 : Nat, ((Wu [(Ws ao8 11 cap9), (Wi 0), (Wi (-1))]) = (Wu [(Ws ro14 11 rc15), (Wi (corC f)), (Wi (corP f))]) ∧
 (((true = true ∧
 (ao8 = ro14 ∧
 (3 = 3 ∧
 (1 = 1 ∧
 (11 = 11 ∧
 (cap9 = rc15 ∧
 ((∀ i16 : Nat,
 (i16 < 11 →
 (Wi (f i16)) = (Wi (corW f i16)))) ∧
 True))))))) ∧
 True) ∧
 true = true))))) ∧
 (((syn g010 2) == (0 : Int)) = false →
 (∃ ro17 : (Option Addr), (∃ rc18 : Nat, (∃ b19 : Nat, (([(Ws ao 11 c), (Wu []), Wn, (Wi 0), (Wi 0), (Ws ao8 11 cap9), (Ws (Ad b13 0) 3 3), (Wi 0), (Wu []), (Ws ao 11 c), (Wb (symB 11 g00 (11 : Int))), (Wb false), (Wu []), (Ws (Ad b6 0) 0 0), (Ws ao 11 c), (Ws ao8 11 cap9), (Ws ao 11 c), (Ws (Ad b13 0) 3 3), (Ws (Ad b13 0) 3 3), (Wb false), (Wu []), (Wu []), (Wu []), (Wu []), (Wu []), (Wu []), (Wu []), (Wu []), (Wu []), (Wu []), (Wu []), (Wu []), (Wu []), (Wu []), (Wu []), (Wu []), (Wu []), (Wu []), (Wu []), (Wu []), (Wu []), (Wu []), (Wu []), (Wu []), (Wu []), (Wu []), (Wu []), (Wu []), (Wu []), (Wu []), (Wu []), (Wu []), (Wu []), (Wu []), (Wu []), (Wu []), (Wu []), (Wu []), (Wu []), (Wu []), (Wu []), (Wu []), (Wu []), (Wu []), (Wu []), (Wu []), (Wu [])] = [(Ws ao 11 c), (Wu []), Wn, (Wi 0), (Wi 0), (Ws ro17 11 rc18), (Ws (Ad b19 0) 3 3), (Wi 0), (Wu []), (Ws ao 11 c), (Wb (symB 11 g00 (11 : Int))), (Wb false), (Wu []), (Ws (Ad b6 0) 0 0), (Ws ao 11 c), (Ws ao8 11 cap9), (Ws ao 11 c), (Ws (Ad b13 0) 3 3), (Ws (Ad b13 0) 3 3), (Wb false), (Wu []), (Wu []), (Wu []), (Wu []), (Wu []), (Wu []), (Wu []), (Wu []), (Wu []), (Wu []), (Wu []), (Wu []), (Wu []), (Wu []), (Wu []), (Wu []), (Wu []), (Wu []), (Wu []), (Wu []), (Wu []), (Wu []), (Wu []), (Wu []), (Wu []), (Wu []), (Wu []), (Wu []), (Wu []), (Wu []), (Wu []), (Wu []), (Wu []), (Wu []), (Wu []), (Wu []), (Wu []), (Wu []), (Wu []), (Wu []), (Wu []), (Wu []), (Wu []), (Wu []), (Wu []), (Wu []), (Wu [])] ∧
 (SelS [(Hr false ao 0 1 11 0 [(fun i20 => (Ci (f i20)))]), Hd, (Hr true ao8 3 1 11 cap9 [(fun i21 => (Ci (f i21)))]), (Hc b13 3 [(Ci (syn g010 0)), (Ci (syn g010 1)), (Ci (syn g010 2))])] [0, 2, 3] [(Hr false ao 0 1 11 0 [(fun i22 => (Ci (f i22)))]), (Hr true ro17 3 1 11 rc18 [(fun i23 => (Ci (f i23)))]), (Hc b19 3 [(Ci (syn f 0)), (Ci (syn f 1)), (Ci (syn f 2))])])) ∧
 (((corP f) = (-1 : Int) →
 (∀ g24 : (Nat →
 Value),
 (∃ ro25 : (Option Addr), (∃ rc26 : Nat, ((Wu [(Ws ro17 11 rc18), (Wi 2), (Wi (-1))]) = (Wu [(Ws ro25 11 rc26), (Wi (corC f)), (Wi (corP f))]) ∧
 (((true = true ∧
 (ro17 = ro25 ∧
 (3 = 3 ∧
 (1 = 1 ∧
 (11 = 11 ∧
 (rc18 = rc26 ∧
 ((∀ i27 : Nat,
 (i27 < 11 →
 (Wi (f i27)) = (Wi (corW f i27)))) ∧
 True))))))) ∧
 True) ∧
 true = true)))))) ∧
 (∀ m28 : Nat,
 (m28 < 11 →
 ((corP f) = ((m28 : Nat) : Int) →
 (∀ g29 : (Nat →
 Value),
 (∃ ro30 : (Option Addr), (∃ rc31 : Nat, ((Wu [(Ws ro17 11 rc18), (Wi 1), (Wi ((m28 : Nat) : Int))]) = (Wu [(Ws ro30 11 rc31), (Wi (corC f)), (Wi (corP f))]) ∧
 (((true = true ∧
 (ro17 = ro30 ∧
 (3 = 3 ∧
 (1 = 1 ∧
 (11 = 11 ∧
 (rc18 = rc31 ∧
 ((∀ i32 : Nat,
 (i32 < 11 →
 (Wi (corW f i32)) = (Wi (corW f i32)))) ∧
 True))))))) ∧
 True) ∧
 true = true))))))))))))))))) ∧
 (((syn g010 1) == (0 : Int)) = false →
 (∃ ro33 : (Option Addr), (∃ rc34 : Nat, (∃ b35 : Nat, (([(Ws ao 11 c), (Wu []), Wn, (Wi 0), (Wi 0), (Ws ao8 11 cap9), (Ws (Ad b13 0) 3 3), (Wi 0), (Wu []), (Ws ao 11 c), (Wb (symB 11 g00 (11 : Int))), (Wb false), (Wu []), (Ws (Ad b6 0) 0 0), (Ws ao 11 c), (Ws ao8 11 cap9), (Ws ao 11 c), (Ws (Ad b13 0) 3 3), (Ws (Ad b13 0) 3 3), (Wb false), (Wu []), (Wu []), (Wu []), (Wu []), (Wu []), (Wu []), (Wu []), (Wu []), (Wu []), (Wu []), (Wu []), (Wu []), (Wu []), (Wu []), (Wu []), (Wu []), (Wu []), (Wu []), (Wu []), (Wu []), (Wu []), (Wu []), (Wu []), (Wu []), (Wu []), (Wu []), (Wu []), (Wu []), (Wu []), (Wu []), (Wu []), (Wu []), (Wu []), (Wu []), (Wu []), (Wu []), (Wu []), (Wu []), (Wu []), (Wu []), (Wu []), (Wu []), (Wu []), (Wu []), (Wu []), (Wu []), (Wu [])] = [(Ws ao 11 c), (Wu []), Wn, (Wi 0), (Wi 0), (Ws ro33 11 rc34), (Ws (Ad b35 0) 3 3), (Wi 0), (Wu []), (Ws ao 11 c), (Wb (symB 11 g00 (11 : Int))), (Wb false), (Wu []), (Ws (Ad b6 0) 0 0), (Ws ao 11 c), (Ws ao8 11 cap9), (Ws ao 11 c), (Ws (Ad b13 0) 3 3), (Ws (Ad b13 0) 3 3), (Wb false), (Wu []), (Wu []), (Wu []), (Wu []), (Wu []), (Wu []), (Wu []), (Wu []), (Wu []), (Wu []), (Wu []), (Wu []), (Wu []), (Wu []), (Wu []), (Wu []), (Wu []), (Wu []), (Wu []), (Wu []), (Wu []), (Wu []), (Wu []), (Wu []), (Wu []), (Wu []), (Wu []), (Wu []), (Wu []), (Wu []), (Wu []), (Wu []), (Wu []), (Wu []), (Wu []), (Wu []), (Wu []), (Wu []), (Wu []), (Wu []), (Wu []), (Wu []), (Wu []), (Wu []), (Wu []), (Wu []), (Wu [])] ∧
 (SelS [(Hr false ao 0 1 11 0 [(fun i36 => (Ci (f i36)))]), Hd, (Hr true ao8 3 1 11 cap9 [(fun i37 => (Ci (f i37)))]), (Hc b13 3 [(Ci (syn g010 0)), (Ci (syn g010 1)), (Ci (syn g010 2))])] [0, 2, 3] [(Hr false ao 0 1 11 0 [(fun i38 => (Ci (f i38)))]), (Hr true ro33 3 1 11 rc34 [(fun i39 => (Ci (f i39)))]), (Hc b35 3 [(Ci (syn f 0)), (Ci (syn f 1)), (Ci (syn f 2))])])) ∧
 (((corP f) = (-1 : Int) →
 (∀ g40 : (Nat →
 Value),
 (∃ ro41 : (Option Addr), (∃ rc42 : Nat, ((Wu [(Ws ro33 11 rc34), (Wi 2), (Wi (-1))]) = (Wu [(Ws ro41 11 rc42), (Wi (corC f)), (Wi (corP f))]) ∧
 (((true = true ∧
 (ro33 = ro41 ∧
 (3 = 3 ∧
 (1 = 1 ∧
 (11 = 11 ∧
 (rc34 = rc42 ∧
 ((∀ i43 : Nat,
 (i43 < 11 →
 (Wi (f i43)) = (Wi (corW f i43)))) ∧
 True))))))) ∧
 True) ∧
 true = true)))))) ∧
 (∀ m44 : Nat,
 (m44 < 11 →
 ((corP f) = ((m44 : Nat) : Int) →
 (∀ g45 : (Nat →
 Value),
 (∃ ro46 : (Option Addr), (∃ rc47 : Nat, ((Wu [(Ws ro33 11 rc34), (Wi 1), (Wi ((m44 : Nat) : Int))]) = (Wu [(Ws ro46 11 rc47), (Wi (corC f)), (Wi (corP f))]) ∧
 (((true = true ∧
 (ro33 = ro46 ∧
 (3 = 3 ∧
 (1 = 1 ∧
 (11 = 11 ∧
 (rc34 = rc47 ∧
 ((∀ i48 : Nat,
 (i48 < 11 →
 (Wi (corW f i48)) = (Wi (corW f i48)))) ∧
 True))))))) ∧
 True) ∧
 true = true))))))))))))))))) ∧
 (((syn g010 0) == (0 : Int)) = false →
 (∃ ro49 : (Option Addr), (∃ rc50 : Nat, (∃ b51 : Nat, (([(Ws ao 11 c), (Wu []), Wn, (Wi 0), (Wi 0), (Ws ao8 11 cap9), (Ws (Ad b13 0) 3 3), (Wi 0), (Wu []), (Ws ao 11 c), (Wb (symB 11 g00 (11 : Int))), (Wb false), (Wu []), (Ws (Ad b6 0) 0 0), (Ws ao 11 c), (Ws ao8 11 cap9), (Ws ao 11 c), (Ws (Ad b13 0) 3 3), (Ws (Ad b13 0) 3 3), (Wb false), (Wu []), (Wu []), (Wu []), (Wu []), (Wu []), (Wu []), (Wu []), (Wu []), (Wu []), (Wu []), (Wu []), (Wu []), (Wu []), (Wu []), (Wu []), (Wu []), (Wu []), (Wu []), (Wu []), (Wu []), (Wu []), (Wu []), (Wu []), (Wu []), (Wu []), (Wu []), (Wu []), (Wu []), (Wu []), (Wu []), (Wu []), (Wu []), (Wu []), (Wu []), (Wu []), (Wu []), (Wu []), (Wu []), (Wu []), (Wu []), (Wu []), (Wu []), (Wu []), (Wu []), (Wu []), (Wu []), (Wu [])] = [(Ws ao 11 c), (Wu []), Wn, (Wi 0), (Wi 0), (Ws ro49 11 rc50), (Ws (Ad b51 0) 3 3), (Wi 0), (Wu []), (Ws ao 11 c), (Wb (symB 11 g00 (11 : Int))), (Wb false), (Wu []), (Ws (Ad b6 0) 0 0), (Ws ao 11 c), (Ws ao8 11 cap9), (Ws ao 11 c), (Ws (Ad b13 0) 3 3), (Ws (Ad b13 0) 3 3), (Wb false), (Wu []), (Wu []), (Wu []), (Wu []), (Wu []), (Wu []), (Wu []), (Wu []), (Wu []), (Wu []), (Wu []), (Wu []), (Wu []), (Wu []), (Wu []), (Wu []), (Wu []), (Wu []), (Wu []), (Wu []), (Wu []), (Wu []), (Wu []), (Wu []), (Wu []), (Wu []), (Wu []), (Wu []), (Wu []), (Wu []), (Wu []), (Wu []), (Wu []), (Wu []), (Wu []), (Wu []), (Wu []), (Wu []), (Wu []), (Wu []), (Wu []), (Wu []), (Wu []), (Wu []), (Wu []), (Wu []), (Wu [])] ∧
 (SelS [(Hr false ao 0 1 11 0 [(fun i52 => (Ci (f i52)))]), Hd, (Hr true ao8 3 1 11 cap9 [(fun i53 => (Ci (f i53)))]), (Hc b13 3 [(Ci (syn g010 0)), (Ci (syn g010 1)), (Ci (syn g010 2))])] [0, 2, 3] [(Hr false ao 0 1 11 0 [(fun i54 => (Ci (f i54)))]), (Hr true ro49 3 1 11 rc50 [(fun i55 => (Ci (f i55)))]), (Hc b51 3 [(Ci (syn f 0)), (Ci (syn f 1)), (Ci (syn f 2))])])) ∧
 (((corP f) = (-1 : Int) →
 (∀ g56 : (Nat →
 Value),
 (∃ ro57 : (Option Addr), (∃ rc58 : Nat, ((Wu [(Ws ro49 11 rc50), (Wi 2), (Wi (-1))]) = (Wu [(Ws ro57 11 rc58), (Wi (corC f)), (Wi (corP f))]) ∧
 (((true = true ∧
 (ro49 = ro57 ∧
 (3 = 3 ∧
 (1 = 1 ∧
 (11 = 11 ∧
 (rc50 = rc58 ∧
 ((∀ i59 : Nat,
 (i59 < 11 →
 (Wi (f i59)) = (Wi (corW f i59)))) ∧
 True))))))) ∧
 True) ∧
 true = true)))))) ∧
 (∀ m60 : Nat,
 (m60 < 11 →
 ((corP f) = ((m60 : Nat) : Int) →
 (∀ g61 : (Nat →
 Value),
 (∃ ro62 : (Option Addr), (∃ rc63 : Nat, ((Wu [(Ws ro49 11 rc50), (Wi 1), (Wi ((m60 : Nat) : Int))]) = (Wu [(Ws ro62 11 rc63), (Wi (corC f)), (Wi (corP f))]) ∧
 (((true = true ∧
 (ro49 = ro62 ∧
 (3 = 3 ∧
 (1 = 1 ∧
 (11 = 11 ∧
 (rc50 = rc63 ∧
 ((∀ i64 : Nat,
 (i64 < 11 →
 (Wi (corW f i64)) = (Wi (corW f i64)))) ∧
 True))))))) ∧
 True) ∧
 true = true)))))))))))))))))))))))))))))) := by kernel_rfl
theorem corS_any (ao : Option Addr) (c : Nat) (f : Nat → Int) (w : World) (h : Row.sat w ⟨false, ao, 0, 1, 11, 0, [fun i => .int (f i)]⟩) (hsy : symB 11 f 11 = true) : Calls Try.prog 121 #[.slice ao 11 c] w fun e w' => ∃ (ro : Option Addr) (rc : Nat), e = .returned (.tuple #[.slice ro 11 rc, .int .i64 (corC f), .int .i64 (corP f)]) ∧ HS ⟨w, fun _ => False⟩ [.row ⟨true, ro, 3, 1, 11, rc, [fun i => .int (corW f i)]⟩] w' := by
  have hf := symB_el hsy
  refine fn_ok mixed (E := {tb := [(64, sSym), (131, sSyn), (132, sZer)], L := [(8, scw ao c f)]}) ⟨sSym_S, sSyn_S, sZer_ok, trivial⟩ Try.func121 (one_loop (by kernel_rfl) (by kernel_rfl) (scw_ok ao c f hf _)) (@Eq.mpr _ _ (corS_T ao c f) ?_) (HS.rows (fun _ => False) [⟨false, ao, 0, 1, 11, 0, [fun i => .int (f i)]⟩] (by simpa using h)) (fun v ch' w' ⟨ro, rc, hk⟩ hs => ⟨ro, rc, by rw [hk.1], hk.hs hs⟩)
  clear h
  by_cases hz : syn f 0 = 0 ∧ syn f 1 = 0 ∧ syn f 2 = 0
  · obtain ⟨h0, h1, h2⟩ := hz
    have hP := imp_no hf (.inl h0)
    have hW := cor_none hP
    have hC : corC f = 0 := by simp [corC, zerB, h0, h1, h2]
    repeat' (first
      | with_reducible exact rfl
      | exact True.intro
      | with_reducible assumption
      | (intro h; exfalso; simp [h0, h1, h2] at h; done)
      | with_reducible exact hsy
      | (show (_ : Value) = _; rw [hC, hP]; try with_reducible rfl)
      | (intro i hi; rw [hW i])
      | exact (by refine ⟨?_, rfl⟩; repeat' (first | exact True.intro | exact symRows_push | exact rfl | refine And.intro ?_ ?_ | (intro i hi; show _ = _; with_reducible rfl) | (intro i hi; show _ = _; rfl) | (intro i hi; rw [hW i]) | (intro i hi; show _ = _; simp only [SC.den]; split <;> rfl)))
      | (intro h; exfalso; rw [hsy] at h; simp at h; done)
      | refine And.intro ?_ ?_
      | apply Exists.intro
      | (intro z hz; subst hz)
      | (intro h; exfalso; simp at h; done)
      | (intro h; exfalso; replace h := of_decide_eq_true h; omega)
      | (intro h; exfalso; replace h := of_decide_eq_false h; omega)
      | intro _
      | omega
      | exact rfl)
  · rcases corP_trial hf with ⟨hP, _⟩ | ⟨m0, hP, hm0, hh, _⟩
    · have hW := cor_none hP
      have hC := cor_lost (zer_of hz) hP
      by_cases h0 : syn f 0 = 0
      · by_cases h1 : syn f 1 = 0
        · have h2 : ¬ syn f 2 = 0 := fun q => hz ⟨h0, h1, q⟩
          repeat' (first
            | with_reducible exact rfl
            | exact True.intro
            | with_reducible assumption
            | (intro h; exfalso; simp [h0, h1, h2] at h; done)
            | with_reducible exact hsy
            | (show (_ : Value) = _; rw [hC, hP]; try with_reducible rfl)
            | (intro m hm (hq : corP f = _); exfalso; rw [hP] at hq; omega)
            | (intro i hi; rw [hW i])
            | exact (by refine ⟨?_, rfl⟩; repeat' (first | exact True.intro | exact symRows_push | exact rfl | refine And.intro ?_ ?_ | (intro i hi; show _ = _; with_reducible rfl) | (intro i hi; show _ = _; rfl) | (intro i hi; rw [hW i]) | (intro i hi; show _ = _; simp only [SC.den]; split <;> rfl)))
            | (intro h; exfalso; rw [hsy] at h; simp at h; done)
            | refine And.intro ?_ ?_
            | apply Exists.intro
            | (intro z hz; subst hz)
            | (intro h; exfalso; simp at h; done)
            | (intro h; exfalso; replace h := of_decide_eq_true h; omega)
            | (intro h; exfalso; replace h := of_decide_eq_false h; omega)
            | intro _
            | omega
            | exact rfl)
        · skip
          repeat' (first
            | with_reducible exact rfl
            | exact True.intro
            | with_reducible assumption
            | (intro h; exfalso; simp [h0, h1] at h; done)
            | with_reducible exact hsy
            | (show (_ : Value) = _; rw [hC, hP]; try with_reducible rfl)
            | (intro m hm (hq : corP f = _); exfalso; rw [hP] at hq; omega)
            | (intro i hi; rw [hW i])
            | exact (by refine ⟨?_, rfl⟩; repeat' (first | exact True.intro | exact symRows_push | exact rfl | refine And.intro ?_ ?_ | (intro i hi; show _ = _; with_reducible rfl) | (intro i hi; show _ = _; rfl) | (intro i hi; rw [hW i]) | (intro i hi; show _ = _; simp only [SC.den]; split <;> rfl)))
            | (intro h; exfalso; rw [hsy] at h; simp at h; done)
            | refine And.intro ?_ ?_
            | apply Exists.intro
            | (intro z hz; subst hz)
            | (intro h; exfalso; simp at h; done)
            | (intro h; exfalso; replace h := of_decide_eq_true h; omega)
            | (intro h; exfalso; replace h := of_decide_eq_false h; omega)
            | intro _
            | omega
            | exact rfl)
      · skip
        repeat' (first
          | with_reducible exact rfl
          | exact True.intro
          | with_reducible assumption
          | (intro h; exfalso; simp [h0] at h; done)
          | with_reducible exact hsy
          | (show (_ : Value) = _; rw [hC, hP]; try with_reducible rfl)
          | (intro m hm (hq : corP f = _); exfalso; rw [hP] at hq; omega)
          | (intro i hi; rw [hW i])
          | exact (by refine ⟨?_, rfl⟩; repeat' (first | exact True.intro | exact symRows_push | exact rfl | refine And.intro ?_ ?_ | (intro i hi; show _ = _; with_reducible rfl) | (intro i hi; show _ = _; rfl) | (intro i hi; rw [hW i]) | (intro i hi; show _ = _; simp only [SC.den]; split <;> rfl)))
          | (intro h; exfalso; rw [hsy] at h; simp at h; done)
          | refine And.intro ?_ ?_
          | apply Exists.intro
          | (intro z hz; subst hz)
          | (intro h; exfalso; simp at h; done)
          | (intro h; exfalso; replace h := of_decide_eq_true h; omega)
          | (intro h; exfalso; replace h := of_decide_eq_false h; omega)
          | intro _
          | omega
          | exact rfl)
    · have hC : corC f = 1 := by
        unfold corC
        rw [zer_of hz, hP, if_neg (by simp), if_pos (by omega)]
      have h0 := hit_nz hh
      repeat' (first
        | with_reducible exact rfl
        | exact True.intro
        | with_reducible assumption
        | (intro h; exfalso; simp [h0] at h; done)
        | with_reducible exact hsy
        | (show (_ : Value) = _; rw [hC, hP]; try with_reducible rfl)
        | (intro (hq : corP f = -1); exfalso; rw [hP] at hq; omega)
        | (intro m hm (hq : corP f = _); obtain rfl : m = m0 := by (rw [hP] at hq; omega))
        | exact (by refine ⟨?_, rfl⟩; repeat' (first | exact True.intro | exact symRows_push | exact rfl | refine And.intro ?_ ?_ | (intro i hi; show _ = _; with_reducible rfl) | (intro i hi; show _ = _; rfl) | (intro i hi; show _ = _; simp only [SC.den]; split <;> rfl)))
        | (intro h; exfalso; rw [hsy] at h; simp at h; done)
        | refine And.intro ?_ ?_
        | apply Exists.intro
        | (intro z hz; subst hz)
        | (intro h; exfalso; simp at h; done)
        | (intro h; exfalso; replace h := of_decide_eq_true h; omega)
        | (intro h; exfalso; replace h := of_decide_eq_false h; omega)
        | intro _
        | omega
        | exact rfl)

def sCor : Sm := fun args ch k =>
  match args with
  | [.a (.c c)] => rdn ch c fun n g => (n = 11 ∧ symB 11 g 11 = true) ∧ ∀ (ro : Option Addr) (rc : Nat), k (.tup [.c (.sl ch.length ro 11 rc), .c (.int (corC g)), .c (.int (corP g))]) (ch ++ [.row ⟨true, ro, 3, 1, 11, rc, [fun i => .int (corW g i)]⟩]) []
  | _ => False
def sDec : Sm := fun args ch k =>
  match args with
  | [.a (.c c)] => rdn ch c fun n g => (n = 11 ∧ symB 11 g 11 = true) ∧ k (.tup [.c (.int (decX g)), .c (.int (corC g)), .c (.int (corP g))]) ch []
  | _ => False
theorem sCor_I : SmOK Try.prog 119 sCor := by
  refine smN Try.call119 fun args ch k w X h0 hs => ?_
  unfold sCor at h0
  split at h0
  · obtain ⟨ao, n, c', g, e, hr, ⟨rfl, hsy⟩, h1⟩ := rdn_ok h0 hs
    simp only [List.map_cons, List.map_nil, den_a, den_c, e]
    exact Calls.mono (corI_any ao c' g w hr hsy) fun e w' ⟨ro, rc, he, hs'⟩ => ⟨.tup [.c (.sl ch.length ro 11 rc), .c (.int (corC g)), .c (.int (corP g))], _, by rw [he]; rfl, hs', rfl, h1 ro rc⟩
  · exact h0.elim
theorem sCor_S : SmOK Try.prog 121 sCor := by
  refine smN Try.call121 fun args ch k w X h0 hs => ?_
  unfold sCor at h0
  split at h0
  · obtain ⟨ao, n, c', g, e, hr, ⟨rfl, hsy⟩, h1⟩ := rdn_ok h0 hs
    simp only [List.map_cons, List.map_nil, den_a, den_c, e]
    exact Calls.mono (corS_any ao c' g w hr hsy) fun e w' ⟨ro, rc, he, hs'⟩ => ⟨.tup [.c (.sl ch.length ro 11 rc), .c (.int (corC g)), .c (.int (corP g))], _, by rw [he]; rfl, hs', rfl, h1 ro rc⟩
  · exact h0.elim
theorem decI_T (ao : Option Addr) (c : Nat) (f : Nat → Int) : (exFn Try.prog {tb := [(119, sCor), (130, sDat), (129, sWos)]} 400 Try.f120 ([.a (.c (.sl 0 ao 11 c))]) ([.row ⟨false, ao, 0, 1, 11, 0, [fun i => .int (f i)]⟩]) (fun v _ => v.den = .tuple #[.int .i64 (decX f), .int .i64 (corC f), .int .i64 (corP f)])) = (
  (∃ g00 : (Nat →
 Int), ((ao = ao ∧
 (11 = 11 ∧
 [(fun i1 => (Ci (f i1)))] = [(fun i2 => (Ci (g00 i2)))])) ∧
 ((11 = 11 ∧
 (symB 11 g00 (11 : Int)) = true) ∧
 (∀ ro3 : (Option Addr),
 (∀ rc4 : Nat,
 ((((corC g00) == (2 : Int)) = true →
 (Wu [(Wi 0), (Wi (corC g00)), (Wi (corP g00))]) = (Wu [(Wi (decX f)), (Wi (corC f)), (Wi (corP f))])) ∧
 (((corC g00) == (2 : Int)) = false →
 (∃ g5 : (Nat →
 Int), ((ro3 = ro3 ∧
 (11 = 11 ∧
 (11 = 11 ∧
 (rc4 = rc4 ∧
 ([(fun i6 => (Ci (corW g00 i6)))] = [(fun i7 => (Ci (g5 i7)))] ∧
 (symB 11 g5 (11 : Int)) = true))))) ∧
 (∀ ro8 : (Option Addr),
 (∀ rc9 : Nat,
 (∃ g010 : (Nat →
 Int), ((ro8 = ro8 ∧
 (8 = 8 ∧
 [(fun i11 => (Ci (dat g5 i11)))] = [(fun i12 => (Ci (g010 i12)))])) ∧
 ((8 = 8 ∧
 (symB 8 g010 (8 : Int)) = true) ∧
 (Wu [(Wi (wordOf g010)), (Wi (corC g00)), (Wi (corP g00))]) = (Wu [(Wi (decX f)), (Wi (corC f)), (Wi (corP f))])))))))))))))))) := by kernel_rfl
theorem decI_any (ao : Option Addr) (c : Nat) (f : Nat → Int) (w : World) (h : Row.sat w ⟨false, ao, 0, 1, 11, 0, [fun i => .int (f i)]⟩) (hsy : symB 11 f 11 = true) : Calls Try.prog 120 #[.slice ao 11 c] w fun e w' => e = .returned (.tuple #[.int .i64 (decX f), .int .i64 (corC f), .int .i64 (corP f)]) ∧ Below w.heap.size w w' := by
  refine fn_ok mixed (E := {tb := [(119, sCor), (130, sDat), (129, sWos)]}) ⟨sCor_I, sDat_I, sWos_I, trivial⟩ Try.func120 (fun _ _ => loopsOK_nil _ _ _) (@Eq.mpr _ _ (decI_T ao c f) ?_) (HS.rows (fun _ => False) [⟨false, ao, 0, 1, 11, 0, [fun i => .int (f i)]⟩] (by simpa using h)) (fun v ch' w' hv hs => ⟨by rw [hv], hs.below⟩)
  clear h
  have hf := symB_el hsy
  have hsc : symB 11 (fun i => corW f i) 11 = true := symB_mk (fun i hi => cor_el hf hi) rfl
  have hsd : symB 8 (fun i => dat (fun i => corW f i) i) 8 = true := symB_mk (fun i hi => dat_el (fun i hi => cor_el hf hi) hi) rfl
  by_cases hc : corC f = 2
  · have hX : decX f = 0 := by unfold decX; rw [if_pos hc]
    have hb : (corC f == 2) = true := by rw [hc]; rfl
    repeat' (first
      | with_reducible exact rfl
      | exact True.intro
      | with_reducible assumption
      | with_reducible exact hsy
      | with_reducible exact hsc
      | with_reducible exact hsd
      | (intro h; exfalso; rw [hb] at h; cases h; done)
      | (show (_ : Value) = _; rw [hX]; try with_reducible rfl)
      | refine And.intro ?_ ?_
      | apply Exists.intro
      | (intro z hz; subst hz)
      | (intro h; exfalso; simp at h; done)
      | (intro h; exfalso; replace h := of_decide_eq_true h; omega)
      | (intro h; exfalso; replace h := of_decide_eq_false h; omega)
      | intro _
      | omega
      | exact rfl)
  · have hX : decX f = wordOf (dat (corW f)) := by unfold decX; rw [if_neg hc]
    have hb : (corC f == 2) = false := by simpa using hc
    repeat' (first
      | with_reducible exact rfl
      | exact True.intro
      | with_reducible assumption
      | with_reducible exact hsy
      | with_reducible exact hsc
      | with_reducible exact hsd
      | (intro h; exfalso; rw [hb] at h; cases h; done)
      | (show (_ : Value) = _; rw [hX]; try with_reducible rfl)
      | refine And.intro ?_ ?_
      | apply Exists.intro
      | (intro z hz; subst hz)
      | (intro h; exfalso; simp at h; done)
      | (intro h; exfalso; replace h := of_decide_eq_true h; omega)
      | (intro h; exfalso; replace h := of_decide_eq_false h; omega)
      | intro _
      | omega
      | exact rfl)
theorem sDec_I : SmOK Try.prog 120 sDec := by
  refine smB Try.call120 fun args ch k w X h0 hs => ?_
  unfold sDec at h0
  split at h0
  · obtain ⟨ao, n, c', g, e, hr, ⟨rfl, hsy⟩, h1⟩ := rdn_ok h0 hs
    refine ⟨_, h1, ?_⟩
    simp only [List.map_cons, List.map_nil, den_a, den_c, e]
    exact decI_any ao c' g w hr hsy
  · exact h0.elim
theorem decS_T (ao : Option Addr) (c : Nat) (f : Nat → Int) : (exFn Try.prog {tb := [(121, sCor), (123, sDat), (122, sWos)]} 400 Try.f110 ([.a (.c (.sl 0 ao 11 c))]) ([.row ⟨false, ao, 0, 1, 11, 0, [fun i => .int (f i)]⟩]) (fun v _ => v.den = .tuple #[.int .i64 (decX f), .int .i64 (corC f), .int .i64 (corP f)])) = (
  (∃ g00 : (Nat →
 Int), ((ao = ao ∧
 (11 = 11 ∧
 [(fun i1 => (Ci (f i1)))] = [(fun i2 => (Ci (g00 i2)))])) ∧
 ((11 = 11 ∧
 (symB 11 g00 (11 : Int)) = true) ∧
 (∀ ro3 : (Option Addr),
 (∀ rc4 : Nat,
 ((((corC g00) == (2 : Int)) = true →
 (Wu [(Wi 0), (Wi (corC g00)), (Wi (corP g00))]) = (Wu [(Wi (decX f)), (Wi (corC f)), (Wi (corP f))])) ∧
 (((corC g00) == (2 : Int)) = false →
 (∃ g5 : (Nat →
 Int), ((ro3 = ro3 ∧
 (11 = 11 ∧
 (11 = 11 ∧
 (rc4 = rc4 ∧
 ([(fun i6 => (Ci (corW g00 i6)))] = [(fun i7 => (Ci (g5 i7)))] ∧
 (symB 11 g5 (11 : Int)) = true))))) ∧
 (∀ ro8 : (Option Addr),
 (∀ rc9 : Nat,
 (∃ g010 : (Nat →
 Int), ((ro8 = ro8 ∧
 (8 = 8 ∧
 [(fun i11 => (Ci (dat g5 i11)))] = [(fun i12 => (Ci (g010 i12)))])) ∧
 ((8 = 8 ∧
 (symB 8 g010 (8 : Int)) = true) ∧
 (Wu [(Wi (wordOf g010)), (Wi (corC g00)), (Wi (corP g00))]) = (Wu [(Wi (decX f)), (Wi (corC f)), (Wi (corP f))])))))))))))))))) := by kernel_rfl
theorem decS_any (ao : Option Addr) (c : Nat) (f : Nat → Int) (w : World) (h : Row.sat w ⟨false, ao, 0, 1, 11, 0, [fun i => .int (f i)]⟩) (hsy : symB 11 f 11 = true) : Calls Try.prog 110 #[.slice ao 11 c] w fun e w' => e = .returned (.tuple #[.int .i64 (decX f), .int .i64 (corC f), .int .i64 (corP f)]) ∧ Below w.heap.size w w' := by
  refine fn_ok mixed (E := {tb := [(121, sCor), (123, sDat), (122, sWos)]}) ⟨sCor_S, sDat_S, sWos_S, trivial⟩ Try.func110 (fun _ _ => loopsOK_nil _ _ _) (@Eq.mpr _ _ (decS_T ao c f) ?_) (HS.rows (fun _ => False) [⟨false, ao, 0, 1, 11, 0, [fun i => .int (f i)]⟩] (by simpa using h)) (fun v ch' w' hv hs => ⟨by rw [hv], hs.below⟩)
  clear h
  have hf := symB_el hsy
  have hsc : symB 11 (fun i => corW f i) 11 = true := symB_mk (fun i hi => cor_el hf hi) rfl
  have hsd : symB 8 (fun i => dat (fun i => corW f i) i) 8 = true := symB_mk (fun i hi => dat_el (fun i hi => cor_el hf hi) hi) rfl
  by_cases hc : corC f = 2
  · have hX : decX f = 0 := by unfold decX; rw [if_pos hc]
    have hb : (corC f == 2) = true := by rw [hc]; rfl
    repeat' (first
      | with_reducible exact rfl
      | exact True.intro
      | with_reducible assumption
      | with_reducible exact hsy
      | with_reducible exact hsc
      | with_reducible exact hsd
      | (intro h; exfalso; rw [hb] at h; cases h; done)
      | (show (_ : Value) = _; rw [hX]; try with_reducible rfl)
      | refine And.intro ?_ ?_
      | apply Exists.intro
      | (intro z hz; subst hz)
      | (intro h; exfalso; simp at h; done)
      | (intro h; exfalso; replace h := of_decide_eq_true h; omega)
      | (intro h; exfalso; replace h := of_decide_eq_false h; omega)
      | intro _
      | omega
      | exact rfl)
  · have hX : decX f = wordOf (dat (corW f)) := by unfold decX; rw [if_neg hc]
    have hb : (corC f == 2) = false := by simpa using hc
    repeat' (first
      | with_reducible exact rfl
      | exact True.intro
      | with_reducible assumption
      | with_reducible exact hsy
      | with_reducible exact hsc
      | with_reducible exact hsd
      | (intro h; exfalso; rw [hb] at h; cases h; done)
      | (show (_ : Value) = _; rw [hX]; try with_reducible rfl)
      | refine And.intro ?_ ?_
      | apply Exists.intro
      | (intro z hz; subst hz)
      | (intro h; exfalso; simp at h; done)
      | (intro h; exfalso; replace h := of_decide_eq_true h; omega)
      | (intro h; exfalso; replace h := of_decide_eq_false h; omega)
      | intro _
      | omega
      | exact rfl)
theorem sDec_S : SmOK Try.prog 110 sDec := by
  refine smB Try.call110 fun args ch k w X h0 hs => ?_
  unfold sDec at h0
  split at h0
  · obtain ⟨ao, n, c', g, e, hr, ⟨rfl, hsy⟩, h1⟩ := rdn_ok h0 hs
    refine ⟨_, h1, ?_⟩
    simp only [List.map_cons, List.map_nil, den_a, den_c, e]
    exact decS_any ao c' g w hr hsy
  · exact h0.elim
end Go.Proofs.Ytddeinpnadfgmaa
