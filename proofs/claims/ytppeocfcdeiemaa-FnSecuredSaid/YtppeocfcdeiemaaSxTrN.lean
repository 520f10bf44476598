/-
  Trees of counts: what a new tree holds, what a bump leaves, what a change of a node shows. No program in sight.
-/
import Derived.Test.YtppeocfcdeiemaaSxTree5
namespace Go.Proofs.Ytppeocfcdeiemaa
set_option linter.unusedVariables false
set_option linter.unusedSimpArgs false
open Go.RowKit

/-- Node i of the middle, leaf j: the tags are right, the counts small. -/
structure GoodT (key root : Int) (mc mt lc lt : Nat → Int) (b : Int) : Prop where
  hkey : isW key = true
  hroot : 0 ≤ root ∧ root ≤ b
  hmid : ∀ i : Nat, i < 2 → (0 ≤ mc i ∧ mc i ≤ b) ∧ mt i = tagW key (1000 + (i : Int)) root (mc i)
  hleaf : ∀ j : Nat, j < 8 → (0 ≤ lc j ∧ lc j ≤ b) ∧ lt j = tagW key (2000 + (j : Int)) (mc (j / 4)) (lc j)
theorem GoodT.lc {key root : Int} {mc mt lc lt : Nat → Int} {b : Int} (h : GoodT key root mc mt lc lt b) (hb : b ≤ 1000000000) {j : Int} (h0 : 0 ≤ j ∧ j ≤ 7) : lcOk key root 2 8 mc mt lc lt j = true := by
  obtain ⟨n, rfl⟩ : ∃ n : Nat, j = n := ⟨j.toNat, by omega⟩
  have e1 : ((n : Int) / 4).toNat = n / 4 := by omega
  have e2 : (n : Int) / 4 = ((n / 4 : Nat) : Int) := by omega
  have hm := h.hmid (n / 4) (by omega)
  have hl := h.hleaf n (by omega)
  have hr := h.hroot
  simp only [lcOk, e1, Int.toNat_natCast, h.hkey, Bool.true_and, Bool.and_eq_true]
  refine ⟨⟨⟨⟨⟨⟨⟨rfl, rfl⟩, btw_yes h0⟩, btw_yes (by omega)⟩, btw_yes (by omega)⟩, btw_yes (by omega)⟩, ?_⟩, ?_⟩
  · rw [hm.2, e2]; simp
  · rw [hl.2]; simp
theorem GoodT.tree {key root : Int} {mc mt lc lt : Nat → Int} {b : Int} (h : GoodT key root mc mt lc lt b) (hb : b ≤ 1000000000) : treeB key root 2 8 mc mt lc lt = true := by
  have g : ∀ j : Int, 0 ≤ j ∧ j ≤ 7 → lcOk key root 2 8 mc mt lc lt j = true := fun j hj => h.lc hb hj
  simp only [treeB, g 0 (by omega), g 1 (by omega), g 2 (by omega), g 3 (by omega), g 4 (by omega), g 5 (by omega), g 6 (by omega), g 7 (by omega), Bool.and_self]
theorem good_new {key : Int} (h : isW key = true) : GoodT key 0 (fun _ => 0) (newMT key) (fun _ => 0) (newLT key) 0 := by
  refine ⟨h, by omega, fun i hi => ⟨by omega, ?_⟩, fun j hj => ⟨by omega, ?_⟩⟩
  · rfl
  · rfl
theorem GoodT.bump {key root : Int} {mc mt lc lt : Nat → Int} {b : Int} (h : GoodT key root mc mt lc lt b) (hb : b + 1 ≤ 1000000000) {k : Int} (hk : 0 ≤ k ∧ k ≤ 7) :
    bOk key root 2 8 mc mt lc lt k = true ∧ bR key root 2 8 mc mt lc lt k = root + 1 ∧ GoodT key (root + 1) (bMc key root 2 8 mc mt lc lt k) (bMt key root 2 8 mc mt lc lt k) (bLc key root 2 8 mc mt lc lt k) (bLt key root 2 8 mc mt lc lt k) (b + 1) := by
  have ht := h.tree (by omega)
  have hr := h.hroot
  have hm := (h.hmid (k / 4).toNat (by omega)).1
  have hl := (h.hleaf k.toNat (by omega)).1
  have hok : bOk key root 2 8 mc mt lc lt k = true := by
    simp only [bOk, ht, btw_yes hk, Bool.true_and, Bool.and_eq_true, decide_eq_true_eq]
    omega
  refine ⟨hok, by simp only [bR, hok, if_true], h.hkey, by omega, fun i hi => ?_, fun j hj => ?_⟩
  · have h1 := (h.hmid i hi).1
    refine ⟨?_, ?_⟩
    · simp only [bMc, hok, true_and]
      split <;> omega
    · simp only [bMt, hok, if_true]
  · have h1 := (h.hleaf j hj).1
    have h2 := (h.hleaf j hj).2
    refine ⟨?_, ?_⟩
    · simp only [bLc, hok, true_and]
      split <;> omega
    · simp only [bLt, hok, true_and]
      split
      · rename_i e
        rw [e]
      · rename_i e
        have e1 : bMc key root 2 8 mc mt lc lt k (j / 4) = mc (j / 4) := by simp only [bMc, hok, true_and, if_neg e]
        have e2 : bLc key root 2 8 mc mt lc lt k j = lc j := by
          have : ¬ j = k.toNat := fun q => e (by omega)
          simp only [bLc, hok, true_and, if_neg this]
        rw [e1, e2]
        exact h2
end Go.Proofs.Ytppeocfcdeiemaa
