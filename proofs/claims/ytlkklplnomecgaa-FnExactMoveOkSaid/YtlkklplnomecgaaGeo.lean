/-
  Geometries and addresses: what the tests answer.
-/
import Derived.Test.YtlkklplnomecgaaBtw
import Derived.Test.YtlkklplnomecgaaKeep
namespace Go.Proofs.Ytlkklplnomecgaa
open Go.RowKit

def geoB (gr bk rw cl : Int) : Bool := btw gr 1 2 && btw bk 1 4 && btw rw 2 16 && btw cl 1 8
def bankN (gr bk rw cl : Int) : Int := if geoB gr bk rw cl = true then gr * bk else 0
def addrB (gr bk rw cl b r c : Int) : Bool := geoB gr bk rw cl && btw b 0 (gr * bk - 1) && btw r 0 (rw - 1) && btw c 0 (cl - 1)
theorem geoB_true {gr bk rw cl : Int} (h : geoB gr bk rw cl = true) : (1 ≤ gr ∧ gr ≤ 2) ∧ (1 ≤ bk ∧ bk ≤ 4) ∧ (2 ≤ rw ∧ rw ≤ 16) ∧ (1 ≤ cl ∧ cl ≤ 8) := by
  simp only [geoB, Bool.and_eq_true] at h
  exact ⟨btw_true h.1.1.1, btw_true h.1.1.2, btw_true h.1.2, btw_true h.2⟩
theorem bank_mul {gr bk : Int} (h1 : 1 ≤ gr ∧ gr ≤ 2) (h2 : 1 ≤ bk ∧ bk ≤ 4) : 1 ≤ gr * bk ∧ gr * bk ≤ 8 := by
  rcases (show gr = 1 ∨ gr = 2 by omega) with rfl | rfl <;> omega

theorem geometryOk_any (gr bk rw cl : Int) (w : World) :
    Calls Try.prog 85 #[.agg #[.int .i64 gr, .int .i64 bk, .int .i64 rw, .int .i64 cl]] w fun e w' => e = .returned (.bool (geoB gr bk rw cl)) ∧ Below w.heap.size w w' := by
  go_enter Try.func85, Try.ntmps85
  go_wp2_with (first | (go_at_call 60; refine (between_any _ _ _ _ _ rfl).mono ?_; rintro e w' ⟨rfl, rfl⟩))
  all_goals
    go_ret
    refine ⟨?_, (by repeat (first | exact Below.refl _ _ | exact belowNew _ _ | assumption | refine belowAlloc ?_ _ | refine belowDrew ?_ | refine belowDrewN ?_ _ | refine belowSet ?_ (by omega) _ | refine belowNext ?_ (by assumption)))⟩
    go_light
    simp_all [geoB]
theorem geometryOk_b (gr bk rw cl : Int) (w : World) (v : Bool) (hv : geoB gr bk rw cl = v) :
    Calls Try.prog 85 #[.agg #[.int .i64 gr, .int .i64 bk, .int .i64 rw, .int .i64 cl]] w fun e w' => e = .returned (.bool v) ∧ Below w.heap.size w w' := by
  subst hv
  exact geometryOk_any _ _ _ _ _
theorem bankCount_any (gr bk rw cl : Int) (w : World) :
    Calls Try.prog 101 #[.agg #[.int .i64 gr, .int .i64 bk, .int .i64 rw, .int .i64 cl]] w fun e w' => e = .returned (.int .i64 (bankN gr bk rw cl)) ∧ Below w.heap.size w w' := by
  by_cases hg : geoB gr bk rw cl = true
  · obtain ⟨h1, h2, h3, h4⟩ := geoB_true hg
    have hm := bank_mul h1 h2
    have hw : wrap64 (gr * bk) = gr * bk := by unfold wrap64; omega
    have hr := Lib.hid (show bankN gr bk rw cl = gr * bk by unfold bankN; rw [if_pos hg])
    go_enter Try.func101, Try.ntmps101
    go_wp2_with fail; (go_at_call 85; refine (geometryOk_any _ _ _ _ _).mono ?_; rintro e w1 ⟨rfl, hb1⟩; obtain ⟨hc1, hf1, hz1⟩ := bcell hb1; (try simp only [World.size_alloc] at hc1 hf1 hz1); (try simp only [size_setCell] at hc1 hf1 hz1); (try (have hy1_0_0 : w.heap.size < w1.heap.size := (by omega))); (try (have hy1_0_1 : w.heap.size + 1 < w1.heap.size := (by omega))); (try (have hy1_0_2 : w.heap.size + 2 < w1.heap.size := (by omega))); (try (have hy1_0_3 : w.heap.size + 3 < w1.heap.size := (by omega))))
    go_wp2
    go_ret
    exact ⟨by rw [hr.out]; rfl, (by repeat (first | exact Below.refl _ _ | exact belowNew _ _ | assumption | refine belowAlloc ?_ _ | refine belowDrew ?_ | refine belowDrewN ?_ _ | refine belowSet ?_ (by omega) _ | refine belowNext ?_ (by assumption)))⟩
  · have hg' : geoB gr bk rw cl = false := by simpa using hg
    have hr := Lib.hid (show bankN gr bk rw cl = 0 by unfold bankN; rw [if_neg hg])
    clear hg
    go_enter Try.func101, Try.ntmps101
    go_wp2_with fail; (go_at_call 85; refine (geometryOk_any _ _ _ _ _).mono ?_; rintro e w1 ⟨rfl, hb1⟩; obtain ⟨hc1, hf1, hz1⟩ := bcell hb1; (try simp only [World.size_alloc] at hc1 hf1 hz1); (try simp only [size_setCell] at hc1 hf1 hz1); (try (have hy1_0_0 : w.heap.size < w1.heap.size := (by omega))); (try (have hy1_0_1 : w.heap.size + 1 < w1.heap.size := (by omega))); (try (have hy1_0_2 : w.heap.size + 2 < w1.heap.size := (by omega))); (try (have hy1_0_3 : w.heap.size + 3 < w1.heap.size := (by omega))))
    go_wp2
    go_ret
    exact ⟨by rw [hr.out]; rfl, (by repeat (first | exact Below.refl _ _ | exact belowNew _ _ | assumption | refine belowAlloc ?_ _ | refine belowDrew ?_ | refine belowDrewN ?_ _ | refine belowSet ?_ (by omega) _ | refine belowNext ?_ (by assumption)))⟩

theorem sgeometryOk_any (gr bk rw cl : Int) (w : World) :
    Calls Try.prog 99 #[.agg #[.int .i64 gr, .int .i64 bk, .int .i64 rw, .int .i64 cl]] w fun e w' => e = .returned (.bool (geoB gr bk rw cl)) ∧ Below w.heap.size w w' := by
  go_enter Try.func99, Try.ntmps99
  go_wp2_with (first | (go_at_call 59; refine (l01In_any _ _ _ _ _ rfl).mono ?_; rintro e w' ⟨rfl, rfl⟩))
  all_goals
    go_ret
    refine ⟨?_, (by repeat (first | exact Below.refl _ _ | exact belowNew _ _ | assumption | refine belowAlloc ?_ _ | refine belowDrew ?_ | refine belowDrewN ?_ _ | refine belowSet ?_ (by omega) _ | refine belowNext ?_ (by assumption)))⟩
    go_light
    simp_all [geoB]
theorem sgeometryOk_b (gr bk rw cl : Int) (w : World) (v : Bool) (hv : geoB gr bk rw cl = v) :
    Calls Try.prog 99 #[.agg #[.int .i64 gr, .int .i64 bk, .int .i64 rw, .int .i64 cl]] w fun e w' => e = .returned (.bool v) ∧ Below w.heap.size w w' := by
  subst hv
  exact sgeometryOk_any _ _ _ _ _
theorem sbankCount_any (gr bk rw cl : Int) (w : World) :
    Calls Try.prog 100 #[.agg #[.int .i64 gr, .int .i64 bk, .int .i64 rw, .int .i64 cl]] w fun e w' => e = .returned (.int .i64 (bankN gr bk rw cl)) ∧ Below w.heap.size w w' := by
  by_cases hg : geoB gr bk rw cl = true
  · obtain ⟨h1, h2, h3, h4⟩ := geoB_true hg
    have hm := bank_mul h1 h2
    have hw : wrap64 (gr * bk) = gr * bk := by unfold wrap64; omega
    have hr := Lib.hid (show bankN gr bk rw cl = gr * bk by unfold bankN; rw [if_pos hg])
    go_enter Try.func100, Try.ntmps100
    go_wp2_with fail; (go_at_call 99; refine (sgeometryOk_any _ _ _ _ _).mono ?_; rintro e w1 ⟨rfl, hb1⟩; obtain ⟨hc1, hf1, hz1⟩ := bcell hb1; (try simp only [World.size_alloc] at hc1 hf1 hz1); (try simp only [size_setCell] at hc1 hf1 hz1); (try (have hy1_0_0 : w.heap.size < w1.heap.size := (by omega))); (try (have hy1_0_1 : w.heap.size + 1 < w1.heap.size := (by omega))); (try (have hy1_0_2 : w.heap.size + 2 < w1.heap.size := (by omega))); (try (have hy1_0_3 : w.heap.size + 3 < w1.heap.size := (by omega))))
    go_wp2
    go_ret
    exact ⟨by rw [hr.out]; rfl, (by repeat (first | exact Below.refl _ _ | exact belowNew _ _ | assumption | refine belowAlloc ?_ _ | refine belowDrew ?_ | refine belowDrewN ?_ _ | refine belowSet ?_ (by omega) _ | refine belowNext ?_ (by assumption)))⟩
  · have hg' : geoB gr bk rw cl = false := by simpa using hg
    have hr := Lib.hid (show bankN gr bk rw cl = 0 by unfold bankN; rw [if_neg hg])
    clear hg
    go_enter Try.func100, Try.ntmps100
    go_wp2_with fail; (go_at_call 99; refine (sgeometryOk_any _ _ _ _ _).mono ?_; rintro e w1 ⟨rfl, hb1⟩; obtain ⟨hc1, hf1, hz1⟩ := bcell hb1; (try simp only [World.size_alloc] at hc1 hf1 hz1); (try simp only [size_setCell] at hc1 hf1 hz1); (try (have hy1_0_0 : w.heap.size < w1.heap.size := (by omega))); (try (have hy1_0_1 : w.heap.size + 1 < w1.heap.size := (by omega))); (try (have hy1_0_2 : w.heap.size + 2 < w1.heap.size := (by omega))); (try (have hy1_0_3 : w.heap.size + 3 < w1.heap.size := (by omega))))
    go_wp2
    go_ret
    exact ⟨by rw [hr.out]; rfl, (by repeat (first | exact Below.refl _ _ | exact belowNew _ _ | assumption | refine belowAlloc ?_ _ | refine belowDrew ?_ | refine belowDrewN ?_ _ | refine belowSet ?_ (by omega) _ | refine belowNext ?_ (by assumption)))⟩
end Go.Proofs.Ytlkklplnomecgaa
