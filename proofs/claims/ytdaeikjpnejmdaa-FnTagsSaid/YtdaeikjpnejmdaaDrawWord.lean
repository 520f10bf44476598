/-
  A drawn word is a word.
-/
import Derived.Test.YtdaeikjpnejmdaaDraw
namespace Go.Proofs.Ytdaeikjpnejmdaa
open Go.RowKit

set_option maxHeartbeats 1000000 in
theorem pickInt_any {w0 w : World} {P : Nat} {ao : Option Addr} {len cap : Nat} (hc : Cur w0 w P ao len cap) (g n : Nat) (xs : List Int) (lo hi : Int) (hn : 1 ≤ n) (hn2 : n ≤ 256) (hx : xs.length = n) (hb : ∀ x ∈ xs, lo ≤ x ∧ x ≤ hi) (hg : P < g) (_ : g < w.heap.size) (hcell : ∀ j, j < n → w.cell? ⟨g, j, none⟩ = some (.int .i64 (xs.getD j 0))) :
    Calls Try.prog 108 #[.pointer (some ⟨P, 0, none⟩), .slice (some ⟨g, 0, none⟩) n n] w (Num lo hi fun w' => Cur w0 w' P ao len cap ∧ w.grownBy w' (some P)) := by
  have Hc := Lib.hid hc
  have Hx := Lib.hid hx
  have Hb := Lib.hid hb
  have Hcell := Lib.hid hcell
  clear hc hx hb hcell
  go_enter Try.func108, Try.ntmps108
  go_wp2_with fail
  refine (l01Below_any Hc.out (by omega) (by omega)).mono ?_
  rintro e w1 ⟨x, hx0, hx1, rfl, hc1, hg1⟩
  obtain ⟨k, rfl⟩ := Int.eq_ofNat_of_zero_le hx0
  have hk : k < n := by omega
  have hcl : w1.cell? ⟨g, k, none⟩ = some (.int .i64 (xs.getD k 0)) := hg1.cell (a := ⟨g, k, none⟩) (Hcell.out k hk) (by simp; omega)
  obtain ⟨y, hy⟩ : ∃ y, y = xs.getD k 0 := ⟨_, rfl⟩
  rw [← hy] at hcl
  have hyb : lo ≤ y ∧ y ≤ hi := by
    apply Hb.out
    rw [hy]
    simp only [List.getD, List.getElem?_eq_getElem (show k < xs.length by rw [Hx.out]; exact hk), Option.getD_some]
    exact List.getElem_mem _
  have Hy := Lib.hid hy
  have Hc1 := Lib.hid hc1
  have Hg1 := Lib.hid hg1
  clear hy hc1 hg1
  have k0 : (0 : Int) ≤ (k : Int) := by omega
  have k1 : (k : Int) < (n : Int) := by omega
  go_wp2
  go_ret
  exact ⟨y, hyb.1, hyb.2, rfl, Hc1.out, Hg1.out⟩

theorem only_alloc {a w : World} {row : Option Nat} (h : a.grownBy w row) (o : Obj) : a.grownBy (w.alloc o) row :=
  ⟨h.os, h.tape, h.output, Nat.le_trans h.size (by simp), fun i hi hne => (Below.heap_alloc w o i (Nat.lt_of_lt_of_le hi h.size)).trans (h.block i hi hne)⟩

set_option maxHeartbeats 1000000 in
theorem l02Word_any {w0 w : World} {P : Nat} {ao : Option Addr} {len cap : Nat} (hc : Cur w0 w P ao len cap) :
    Calls Try.prog 78 #[.pointer (some ⟨P, 0, none⟩)] w (Num 0 4294967295 fun w' => Cur w0 w' P ao len cap ∧ w.grownBy w' (some P)) := by
  have Hc := Lib.hid hc
  have hP : P < w.heap.size := by obtain ⟨_, _, h⟩ := hc.row; exact (Array.getElem?_eq_some_iff.1 h.2.2).1
  clear hc
  go_enter Try.func78, Try.ntmps78
  go_wp2_with fail
  refine (l01Below_any Hc.out (by omega) (by omega)).mono ?_
  rintro e w1 ⟨x, hx0, hx1, rfl, hc1, hg1⟩
  have hs1 := hg1.size
  have Hc1 := Lib.hid hc1
  have Hg1 := Lib.hid hg1
  clear hc1 hg1
  by_cases h0 : x = 0
  · subst h0
    go_wp2_with fail
    refine (pickInt_any (cur_cells Hc1.out (World.grownBy_alloc _ _ _)) w1.heap.size 6 [0, 1, 4294967295, 2147483648, 65536, 305419896] 0 4294967295 (by omega) (by omega) rfl (by simp) (by omega) (by simp) ?_).mono ?_
    · intro j hj
      rw [cell_new]
      have : j = 0 ∨ j = 1 ∨ j = 2 ∨ j = 3 ∨ j = 4 ∨ j = 5 := by omega
      rcases this with rfl | rfl | rfl | rfl | rfl | rfl <;> rfl
    rintro e w2 ⟨y, hy0, hy1, rfl, hc2, hg2⟩
    have Hc2 := Lib.hid hc2
    have Hg2 := Lib.hid hg2
    clear hc2 hg2
    go_wp2
    go_ret
    exact ⟨y, hy0, hy1, rfl, Hc2.out, only_trans (only_alloc Hg1.out _) Hg2.out⟩
  · by_cases h1 : x = 1
    · subst h1
      go_wp2_with fail
      refine (l01Below_any Hc1.out (by omega) (by omega)).mono ?_
      rintro e w2 ⟨y, hy0, hy1, rfl, hc2, hg2⟩
      have Hc2 := Lib.hid hc2
      have Hg2 := Lib.hid hg2
      clear hc2 hg2
      go_wp2
      go_ret
      exact ⟨y, hy0, by omega, rfl, Hc2.out, only_trans Hg1.out Hg2.out⟩
    · have e0 : (x == 0) = false := by simpa using h0
      have e1 : (x == 1) = false := by simpa using h1
      go_wp2_with fail
      refine (l01Below_any Hc1.out (by omega) (by omega)).mono ?_
      rintro e w2 ⟨y, hy0, hy1, rfl, hc2, hg2⟩
      have Hg2 := Lib.hid hg2
      clear hg2
      go_wp2_with fail
      refine (l01Below_any hc2 (by omega) (by omega)).mono ?_
      rintro e w3 ⟨z, hz0, hz1, rfl, hc3, hg3⟩
      have Hc3 := Lib.hid hc3
      have Hg3 := Lib.hid hg3
      clear hc3 hg3 hc2
      go_wp2
      go_ret
      exact ⟨_, by omega, by omega, rfl, Hc3.out, only_trans (only_trans Hg1.out Hg2.out) Hg3.out⟩

/-- What DrawWord leaves: a word. -/
theorem drawWord_any {w0 w : World} {ao : Option Addr} {len cap : Nat} (hd : Cod w0 ao len) (bel : Below w0.heap.size w0 w) :
    Calls Try.prog 35 #[.slice ao len cap] w (Num 0 4294967295 fun w' => Below w0.heap.size w0 w' ∧ Below w.heap.size w w') := by
  have Hd := Lib.hid hd
  have Hb := Lib.hid bel
  clear hd bel
  go_enter Try.func35, Try.ntmps35
  go_wp2_with fail
  refine (l01New_any Hd.out Hb.out).mono ?_
  rintro e w1 ⟨P, hP, rfl, hc1, hb1⟩
  have Hb1 := Lib.hid hb1
  clear hb1
  go_wp2_with fail
  refine (l02Word_any hc1).mono ?_
  rintro e w2 ⟨y, hy0, hy1, rfl, hc2, hg2⟩
  have hb2 := hc2.bel
  have hb3 := hg2
  clear hc1 hc2
  have Hf := Lib.hid (show Below w0.heap.size w0 w2 ∧ Below w.heap.size w w2 from ⟨hb2, Below.grown Hb1.out hb3 Hb1.out.size (fun q hq => by cases hq; exact hP)⟩)
  clear hb2 hb3 hg2
  go_wp2
  go_ret
  exact ⟨y, hy0, hy1, rfl, Hf.out⟩
end Go.Proofs.Ytdaeikjpnejmdaa
