/-
  Beginning a move; is a move one of the geometry's? The walks of the two laws.
-/
import Derived.Test.YtlkklplnomecgaaAddrOk
import Derived.Test.YtlkklplnomecgaaFlat
import Derived.Test.YtlkklplnomecgaaOpen
namespace Go.Proofs.Ytlkklplnomecgaa
open Go.RowKit
def rowB (gr bk rw cl b r : Int) : Bool := addrB gr bk rw cl b r 0
def moveB (gr bk rw cl b f t : Int) : Bool := rowB gr bk rw cl b f && rowB gr bk rw cl b t && !(f == t)

theorem row_any (gr bk rw cl b r : Int) (w : World) (v : Bool) (hv : rowB gr bk rw cl b r = v) :
    Calls Try.prog 66 #[.agg #[.int .i64 gr, .int .i64 bk, .int .i64 rw, .int .i64 cl], .int .i64 b, .int .i64 r] w fun e w' => e = .returned (.bool v) ∧ Below w.heap.size w w' := by
  have Hv := Lib.hid hv
  clear hv
  go_enter Try.func66, Try.ntmps66
  go_wp2_with fail; (go_at_call 96; refine (addrOk_any _ _ _ _ _ _ _ _).mono ?_; rintro e w1 ⟨rfl, hb1⟩; obtain ⟨hc1, hf1, hz1⟩ := bcell hb1; (try simp only [World.size_alloc] at hc1 hf1 hz1); (try simp only [size_setCell] at hc1 hf1 hz1); (try (have hy1_0_0 : w.heap.size < w1.heap.size := (by omega))); (try (have hy1_0_1 : w.heap.size + 1 < w1.heap.size := (by omega))); (try (have hy1_0_2 : w.heap.size + 2 < w1.heap.size := (by omega))); (try (have hy1_0_3 : w.heap.size + 3 < w1.heap.size := (by omega))))
  go_wp2
  go_ret
  exact ⟨by rw [← Hv.out]; rfl, (by repeat (first | exact Below.refl _ _ | exact belowNew _ _ | assumption | refine belowAlloc ?_ _ | refine belowDrew ?_ | refine belowDrewN ?_ _ | refine belowSet ?_ (by omega) _ | refine belowNext ?_ (by assumption)))⟩

theorem moveBegin_yes (gr bk rw cl b f t : Int) (w : World) (h1 : rowB gr bk rw cl b f = true) (h2 : rowB gr bk rw cl b t = true) (h3 : (f == t) = false) :
    Calls Try.prog 29 #[.agg #[.int .i64 gr, .int .i64 bk, .int .i64 rw, .int .i64 cl], .int .i64 b, .int .i64 f, .int .i64 t] w fun e w' => e = .returned (.tuple #[.agg #[.int .i64 b, .int .i64 f, .int .i64 t, .int .i64 0], .bool true]) ∧ Below w.heap.size w w' := by
  go_enter Try.func29, Try.ntmps29
  go_wp2_with fail; (go_at_call 66; refine (row_any _ _ _ _ _ _ _ true h1).mono ?_; rintro e w1 ⟨rfl, hb1⟩; obtain ⟨hc1, hf1, hz1⟩ := bcell hb1; (try simp only [World.size_alloc] at hc1 hf1 hz1); (try simp only [size_setCell] at hc1 hf1 hz1); (try (have hy1_0_0 : w.heap.size < w1.heap.size := (by omega))); (try (have hy1_0_1 : w.heap.size + 1 < w1.heap.size := (by omega))); (try (have hy1_0_2 : w.heap.size + 2 < w1.heap.size := (by omega))); (try (have hy1_0_3 : w.heap.size + 3 < w1.heap.size := (by omega))))
  go_wp2_with fail; (go_at_call 66; refine (row_any _ _ _ _ _ _ _ true h2).mono ?_; rintro e w2 ⟨rfl, hb2⟩; obtain ⟨hc2, hf2, hz2⟩ := bcell hb2; (try simp only [World.size_alloc] at hc2 hf2 hz2); (try simp only [size_setCell] at hc2 hf2 hz2); (try (have hy2_0_0 : w.heap.size < w2.heap.size := (by omega))); (try (have hy2_0_1 : w.heap.size + 1 < w2.heap.size := (by omega))); (try (have hy2_0_2 : w.heap.size + 2 < w2.heap.size := (by omega))); (try (have hy2_0_3 : w.heap.size + 3 < w2.heap.size := (by omega))); (try (have hy2_1_0 : w1.heap.size < w2.heap.size := (by omega))); (try (have hy2_1_1 : w1.heap.size + 1 < w2.heap.size := (by omega))); (try (have hy2_1_2 : w1.heap.size + 2 < w2.heap.size := (by omega))); (try (have hy2_1_3 : w1.heap.size + 3 < w2.heap.size := (by omega))))
  go_wp2
  go_light
  exact bodyPost_ret (v := .tuple #[.agg #[.int .i64 b, .int .i64 f, .int .i64 t, .int .i64 0], .bool true]) (by simp [results, Try.results29, go_sem, *]) rfl ⟨rfl, (by repeat (first | exact Below.refl _ _ | exact belowNew _ _ | assumption | refine belowAlloc ?_ _ | refine belowDrew ?_ | refine belowDrewN ?_ _ | refine belowSet ?_ (by omega) _ | refine belowNext ?_ (by assumption)))⟩

theorem moveBegin_no1 (gr bk rw cl b f t : Int) (w : World) (h1 : rowB gr bk rw cl b f = false) :
    Calls Try.prog 29 #[.agg #[.int .i64 gr, .int .i64 bk, .int .i64 rw, .int .i64 cl], .int .i64 b, .int .i64 f, .int .i64 t] w fun e w' => e = .returned (.tuple #[.agg #[.int .i64 0, .int .i64 0, .int .i64 0, .int .i64 0], .bool false]) ∧ Below w.heap.size w w' := by
  go_enter Try.func29, Try.ntmps29
  go_wp2_with fail; (go_at_call 66; refine (row_any _ _ _ _ _ _ _ false h1).mono ?_; rintro e w1 ⟨rfl, hb1⟩; obtain ⟨hc1, hf1, hz1⟩ := bcell hb1; (try simp only [World.size_alloc] at hc1 hf1 hz1); (try simp only [size_setCell] at hc1 hf1 hz1); (try (have hy1_0_0 : w.heap.size < w1.heap.size := (by omega))); (try (have hy1_0_1 : w.heap.size + 1 < w1.heap.size := (by omega))); (try (have hy1_0_2 : w.heap.size + 2 < w1.heap.size := (by omega))); (try (have hy1_0_3 : w.heap.size + 3 < w1.heap.size := (by omega))))
  go_wp2
  go_light
  exact bodyPost_ret (v := .tuple #[.agg #[.int .i64 0, .int .i64 0, .int .i64 0, .int .i64 0], .bool false]) (by simp [results, Try.results29, go_sem, *]) rfl ⟨rfl, (by repeat (first | exact Below.refl _ _ | exact belowNew _ _ | assumption | refine belowAlloc ?_ _ | refine belowDrew ?_ | refine belowDrewN ?_ _ | refine belowSet ?_ (by omega) _ | refine belowNext ?_ (by assumption)))⟩

theorem moveBegin_no2 (gr bk rw cl b f t : Int) (w : World) (h1 : rowB gr bk rw cl b f = true) (h2 : rowB gr bk rw cl b t = false) :
    Calls Try.prog 29 #[.agg #[.int .i64 gr, .int .i64 bk, .int .i64 rw, .int .i64 cl], .int .i64 b, .int .i64 f, .int .i64 t] w fun e w' => e = .returned (.tuple #[.agg #[.int .i64 0, .int .i64 0, .int .i64 0, .int .i64 0], .bool false]) ∧ Below w.heap.size w w' := by
  go_enter Try.func29, Try.ntmps29
  go_wp2_with fail; (go_at_call 66; refine (row_any _ _ _ _ _ _ _ true h1).mono ?_; rintro e w1 ⟨rfl, hb1⟩; obtain ⟨hc1, hf1, hz1⟩ := bcell hb1; (try simp only [World.size_alloc] at hc1 hf1 hz1); (try simp only [size_setCell] at hc1 hf1 hz1); (try (have hy1_0_0 : w.heap.size < w1.heap.size := (by omega))); (try (have hy1_0_1 : w.heap.size + 1 < w1.heap.size := (by omega))); (try (have hy1_0_2 : w.heap.size + 2 < w1.heap.size := (by omega))); (try (have hy1_0_3 : w.heap.size + 3 < w1.heap.size := (by omega))))
  go_wp2_with fail; (go_at_call 66; refine (row_any _ _ _ _ _ _ _ false h2).mono ?_; rintro e w2 ⟨rfl, hb2⟩; obtain ⟨hc2, hf2, hz2⟩ := bcell hb2; (try simp only [World.size_alloc] at hc2 hf2 hz2); (try simp only [size_setCell] at hc2 hf2 hz2); (try (have hy2_0_0 : w.heap.size < w2.heap.size := (by omega))); (try (have hy2_0_1 : w.heap.size + 1 < w2.heap.size := (by omega))); (try (have hy2_0_2 : w.heap.size + 2 < w2.heap.size := (by omega))); (try (have hy2_0_3 : w.heap.size + 3 < w2.heap.size := (by omega))); (try (have hy2_1_0 : w1.heap.size < w2.heap.size := (by omega))); (try (have hy2_1_1 : w1.heap.size + 1 < w2.heap.size := (by omega))); (try (have hy2_1_2 : w1.heap.size + 2 < w2.heap.size := (by omega))); (try (have hy2_1_3 : w1.heap.size + 3 < w2.heap.size := (by omega))))
  go_wp2
  go_light
  exact bodyPost_ret (v := .tuple #[.agg #[.int .i64 0, .int .i64 0, .int .i64 0, .int .i64 0], .bool false]) (by simp [results, Try.results29, go_sem, *]) rfl ⟨rfl, (by repeat (first | exact Below.refl _ _ | exact belowNew _ _ | assumption | refine belowAlloc ?_ _ | refine belowDrew ?_ | refine belowDrewN ?_ _ | refine belowSet ?_ (by omega) _ | refine belowNext ?_ (by assumption)))⟩

theorem moveBegin_no3 (gr bk rw cl b f t : Int) (w : World) (h1 : rowB gr bk rw cl b f = true) (h2 : rowB gr bk rw cl b t = true) (h3 : (f == t) = true) :
    Calls Try.prog 29 #[.agg #[.int .i64 gr, .int .i64 bk, .int .i64 rw, .int .i64 cl], .int .i64 b, .int .i64 f, .int .i64 t] w fun e w' => e = .returned (.tuple #[.agg #[.int .i64 0, .int .i64 0, .int .i64 0, .int .i64 0], .bool false]) ∧ Below w.heap.size w w' := by
  go_enter Try.func29, Try.ntmps29
  go_wp2_with fail; (go_at_call 66; refine (row_any _ _ _ _ _ _ _ true h1).mono ?_; rintro e w1 ⟨rfl, hb1⟩; obtain ⟨hc1, hf1, hz1⟩ := bcell hb1; (try simp only [World.size_alloc] at hc1 hf1 hz1); (try simp only [size_setCell] at hc1 hf1 hz1); (try (have hy1_0_0 : w.heap.size < w1.heap.size := (by omega))); (try (have hy1_0_1 : w.heap.size + 1 < w1.heap.size := (by omega))); (try (have hy1_0_2 : w.heap.size + 2 < w1.heap.size := (by omega))); (try (have hy1_0_3 : w.heap.size + 3 < w1.heap.size := (by omega))))
  go_wp2_with fail; (go_at_call 66; refine (row_any _ _ _ _ _ _ _ true h2).mono ?_; rintro e w2 ⟨rfl, hb2⟩; obtain ⟨hc2, hf2, hz2⟩ := bcell hb2; (try simp only [World.size_alloc] at hc2 hf2 hz2); (try simp only [size_setCell] at hc2 hf2 hz2); (try (have hy2_0_0 : w.heap.size < w2.heap.size := (by omega))); (try (have hy2_0_1 : w.heap.size + 1 < w2.heap.size := (by omega))); (try (have hy2_0_2 : w.heap.size + 2 < w2.heap.size := (by omega))); (try (have hy2_0_3 : w.heap.size + 3 < w2.heap.size := (by omega))); (try (have hy2_1_0 : w1.heap.size < w2.heap.size := (by omega))); (try (have hy2_1_1 : w1.heap.size + 1 < w2.heap.size := (by omega))); (try (have hy2_1_2 : w1.heap.size + 2 < w2.heap.size := (by omega))); (try (have hy2_1_3 : w1.heap.size + 3 < w2.heap.size := (by omega))))
  go_wp2
  go_light
  exact bodyPost_ret (v := .tuple #[.agg #[.int .i64 0, .int .i64 0, .int .i64 0, .int .i64 0], .bool false]) (by simp [results, Try.results29, go_sem, *]) rfl ⟨rfl, (by repeat (first | exact Below.refl _ _ | exact belowNew _ _ | assumption | refine belowAlloc ?_ _ | refine belowDrew ?_ | refine belowDrewN ?_ _ | refine belowSet ?_ (by omega) _ | refine belowNext ?_ (by assumption)))⟩

theorem moveBegin_true (gr bk rw cl b f t : Int) (w : World) (h : moveB gr bk rw cl b f t = true) :
    Calls Try.prog 29 #[.agg #[.int .i64 gr, .int .i64 bk, .int .i64 rw, .int .i64 cl], .int .i64 b, .int .i64 f, .int .i64 t] w fun e w' => e = .returned (.tuple #[.agg #[.int .i64 b, .int .i64 f, .int .i64 t, .int .i64 0], .bool true]) ∧ Below w.heap.size w w' := by
  simp only [moveB, Bool.and_eq_true, Bool.not_eq_true'] at h
  exact moveBegin_yes _ _ _ _ _ _ _ _ h.1.1 h.1.2 h.2
theorem moveBegin_false (gr bk rw cl b f t : Int) (w : World) (h : moveB gr bk rw cl b f t = false) :
    Calls Try.prog 29 #[.agg #[.int .i64 gr, .int .i64 bk, .int .i64 rw, .int .i64 cl], .int .i64 b, .int .i64 f, .int .i64 t] w fun e w' => e = .returned (.tuple #[.agg #[.int .i64 0, .int .i64 0, .int .i64 0, .int .i64 0], .bool false]) ∧ Below w.heap.size w w' := by
  by_cases h1 : rowB gr bk rw cl b f = true
  · by_cases h2 : rowB gr bk rw cl b t = true
    · exact moveBegin_no3 _ _ _ _ _ _ _ _ h1 h2 (by simpa [moveB, h1, h2] using h)
    · exact moveBegin_no2 _ _ _ _ _ _ _ _ h1 (by simpa using h2)
  · exact moveBegin_no1 _ _ _ _ _ _ _ _ (by simpa using h1)

theorem moveOk_any (gr bk rw cl b f t n : Int) (w : World) (v : Bool) (hv : (moveB gr bk rw cl b f t && btw n 0 cl) = v) :
    Calls Try.prog 33 #[.agg #[.int .i64 gr, .int .i64 bk, .int .i64 rw, .int .i64 cl], .agg #[.int .i64 b, .int .i64 f, .int .i64 t, .int .i64 n]] w fun e w' => e = .returned (.bool v) ∧ Below w.heap.size w w' := by
  by_cases h : moveB gr bk rw cl b f t = true
  · have hv' : btw n 0 cl = v := by rw [h] at hv; simpa using hv
    have H := Lib.hid h
    have Hv := Lib.hid hv'
    clear h hv hv'
    go_enter Try.func33, Try.ntmps33
    go_wp2_with fail; (go_at_call 29; refine (moveBegin_true _ _ _ _ _ _ _ _ H.out).mono ?_; rintro e w1 ⟨rfl, hb1⟩; obtain ⟨hc1, hf1, hz1⟩ := bcell hb1; (try simp only [World.size_alloc] at hc1 hf1 hz1); (try simp only [size_setCell] at hc1 hf1 hz1); (try (have hy1_0_0 : w.heap.size < w1.heap.size := (by omega))); (try (have hy1_0_1 : w.heap.size + 1 < w1.heap.size := (by omega))); (try (have hy1_0_2 : w.heap.size + 2 < w1.heap.size := (by omega))); (try (have hy1_0_3 : w.heap.size + 3 < w1.heap.size := (by omega))))
    go_wp2_with (first | (go_at_call 60; refine (between_any _ _ _ _ v Hv.out).mono ?_; rintro e w' ⟨rfl, rfl⟩))
    go_ret
    exact ⟨rfl, (by repeat (first | exact Below.refl _ _ | exact belowNew _ _ | assumption | refine belowAlloc ?_ _ | refine belowDrew ?_ | refine belowDrewN ?_ _ | refine belowSet ?_ (by omega) _ | refine belowNext ?_ (by assumption)))⟩
  · have h' : moveB gr bk rw cl b f t = false := by simpa using h
    have hv' : v = false := by rw [h'] at hv; simpa using hv.symm
    have H := Lib.hid h'
    subst hv'
    clear h hv h'
    go_enter Try.func33, Try.ntmps33
    go_wp2_with fail; (go_at_call 29; refine (moveBegin_false _ _ _ _ _ _ _ _ H.out).mono ?_; rintro e w1 ⟨rfl, hb1⟩; obtain ⟨hc1, hf1, hz1⟩ := bcell hb1; (try simp only [World.size_alloc] at hc1 hf1 hz1); (try simp only [size_setCell] at hc1 hf1 hz1); (try (have hy1_0_0 : w.heap.size < w1.heap.size := (by omega))); (try (have hy1_0_1 : w.heap.size + 1 < w1.heap.size := (by omega))); (try (have hy1_0_2 : w.heap.size + 2 < w1.heap.size := (by omega))); (try (have hy1_0_3 : w.heap.size + 3 < w1.heap.size := (by omega))))
    go_wp2
    go_ret
    exact ⟨rfl, (by repeat (first | exact Below.refl _ _ | exact belowNew _ _ | assumption | refine belowAlloc ?_ _ | refine belowDrew ?_ | refine belowDrewN ?_ _ | refine belowSet ?_ (by omega) _ | refine belowNext ?_ (by assumption)))⟩

theorem srow_any (gr bk rw cl b r : Int) (w : World) (v : Bool) (hv : rowB gr bk rw cl b r = v) :
    Calls Try.prog 65 #[.agg #[.int .i64 gr, .int .i64 bk, .int .i64 rw, .int .i64 cl], .int .i64 b, .int .i64 r] w fun e w' => e = .returned (.bool v) ∧ Below w.heap.size w w' := by
  have Hv := Lib.hid hv
  clear hv
  go_enter Try.func65, Try.ntmps65
  go_wp2_with fail; (go_at_call 95; refine (saddrOk_any _ _ _ _ _ _ _ _).mono ?_; rintro e w1 ⟨rfl, hb1⟩; obtain ⟨hc1, hf1, hz1⟩ := bcell hb1; (try simp only [World.size_alloc] at hc1 hf1 hz1); (try simp only [size_setCell] at hc1 hf1 hz1); (try (have hy1_0_0 : w.heap.size < w1.heap.size := (by omega))); (try (have hy1_0_1 : w.heap.size + 1 < w1.heap.size := (by omega))); (try (have hy1_0_2 : w.heap.size + 2 < w1.heap.size := (by omega))); (try (have hy1_0_3 : w.heap.size + 3 < w1.heap.size := (by omega))))
  go_wp2
  go_ret
  exact ⟨by rw [← Hv.out]; rfl, (by repeat (first | exact Below.refl _ _ | exact belowNew _ _ | assumption | refine belowAlloc ?_ _ | refine belowDrew ?_ | refine belowDrewN ?_ _ | refine belowSet ?_ (by omega) _ | refine belowNext ?_ (by assumption)))⟩

theorem smoveBegin_yes (gr bk rw cl b f t : Int) (w : World) (h1 : rowB gr bk rw cl b f = true) (h2 : rowB gr bk rw cl b t = true) (h3 : (f == t) = false) :
    Calls Try.prog 27 #[.agg #[.int .i64 gr, .int .i64 bk, .int .i64 rw, .int .i64 cl], .int .i64 b, .int .i64 f, .int .i64 t] w fun e w' => e = .returned (.tuple #[.agg #[.int .i64 b, .int .i64 f, .int .i64 t, .int .i64 0], .bool true]) ∧ Below w.heap.size w w' := by
  go_enter Try.func27, Try.ntmps27
  go_wp2_with fail; (go_at_call 65; refine (srow_any _ _ _ _ _ _ _ true h1).mono ?_; rintro e w1 ⟨rfl, hb1⟩; obtain ⟨hc1, hf1, hz1⟩ := bcell hb1; (try simp only [World.size_alloc] at hc1 hf1 hz1); (try simp only [size_setCell] at hc1 hf1 hz1); (try (have hy1_0_0 : w.heap.size < w1.heap.size := (by omega))); (try (have hy1_0_1 : w.heap.size + 1 < w1.heap.size := (by omega))); (try (have hy1_0_2 : w.heap.size + 2 < w1.heap.size := (by omega))); (try (have hy1_0_3 : w.heap.size + 3 < w1.heap.size := (by omega))))
  go_wp2_with fail; (go_at_call 65; refine (srow_any _ _ _ _ _ _ _ true h2).mono ?_; rintro e w2 ⟨rfl, hb2⟩; obtain ⟨hc2, hf2, hz2⟩ := bcell hb2; (try simp only [World.size_alloc] at hc2 hf2 hz2); (try simp only [size_setCell] at hc2 hf2 hz2); (try (have hy2_0_0 : w.heap.size < w2.heap.size := (by omega))); (try (have hy2_0_1 : w.heap.size + 1 < w2.heap.size := (by omega))); (try (have hy2_0_2 : w.heap.size + 2 < w2.heap.size := (by omega))); (try (have hy2_0_3 : w.heap.size + 3 < w2.heap.size := (by omega))); (try (have hy2_1_0 : w1.heap.size < w2.heap.size := (by omega))); (try (have hy2_1_1 : w1.heap.size + 1 < w2.heap.size := (by omega))); (try (have hy2_1_2 : w1.heap.size + 2 < w2.heap.size := (by omega))); (try (have hy2_1_3 : w1.heap.size + 3 < w2.heap.size := (by omega))))
  go_wp2
  go_light
  exact bodyPost_ret (v := .tuple #[.agg #[.int .i64 b, .int .i64 f, .int .i64 t, .int .i64 0], .bool true]) (by simp [results, Try.results27, go_sem, *]) rfl ⟨rfl, (by repeat (first | exact Below.refl _ _ | exact belowNew _ _ | assumption | refine belowAlloc ?_ _ | refine belowDrew ?_ | refine belowDrewN ?_ _ | refine belowSet ?_ (by omega) _ | refine belowNext ?_ (by assumption)))⟩

theorem smoveBegin_no1 (gr bk rw cl b f t : Int) (w : World) (h1 : rowB gr bk rw cl b f = false) :
    Calls Try.prog 27 #[.agg #[.int .i64 gr, .int .i64 bk, .int .i64 rw, .int .i64 cl], .int .i64 b, .int .i64 f, .int .i64 t] w fun e w' => e = .returned (.tuple #[.agg #[.int .i64 0, .int .i64 0, .int .i64 0, .int .i64 0], .bool false]) ∧ Below w.heap.size w w' := by
  go_enter Try.func27, Try.ntmps27
  go_wp2_with fail; (go_at_call 65; refine (srow_any _ _ _ _ _ _ _ false h1).mono ?_; rintro e w1 ⟨rfl, hb1⟩; obtain ⟨hc1, hf1, hz1⟩ := bcell hb1; (try simp only [World.size_alloc] at hc1 hf1 hz1); (try simp only [size_setCell] at hc1 hf1 hz1); (try (have hy1_0_0 : w.heap.size < w1.heap.size := (by omega))); (try (have hy1_0_1 : w.heap.size + 1 < w1.heap.size := (by omega))); (try (have hy1_0_2 : w.heap.size + 2 < w1.heap.size := (by omega))); (try (have hy1_0_3 : w.heap.size + 3 < w1.heap.size := (by omega))))
  go_wp2
  go_light
  exact bodyPost_ret (v := .tuple #[.agg #[.int .i64 0, .int .i64 0, .int .i64 0, .int .i64 0], .bool false]) (by simp [results, Try.results27, go_sem, *]) rfl ⟨rfl, (by repeat (first | exact Below.refl _ _ | exact belowNew _ _ | assumption | refine belowAlloc ?_ _ | refine belowDrew ?_ | refine belowDrewN ?_ _ | refine belowSet ?_ (by omega) _ | refine belowNext ?_ (by assumption)))⟩

theorem smoveBegin_no2 (gr bk rw cl b f t : Int) (w : World) (h1 : rowB gr bk rw cl b f = true) (h2 : rowB gr bk rw cl b t = false) :
    Calls Try.prog 27 #[.agg #[.int .i64 gr, .int .i64 bk, .int .i64 rw, .int .i64 cl], .int .i64 b, .int .i64 f, .int .i64 t] w fun e w' => e = .returned (.tuple #[.agg #[.int .i64 0, .int .i64 0, .int .i64 0, .int .i64 0], .bool false]) ∧ Below w.heap.size w w' := by
  go_enter Try.func27, Try.ntmps27
  go_wp2_with fail; (go_at_call 65; refine (srow_any _ _ _ _ _ _ _ true h1).mono ?_; rintro e w1 ⟨rfl, hb1⟩; obtain ⟨hc1, hf1, hz1⟩ := bcell hb1; (try simp only [World.size_alloc] at hc1 hf1 hz1); (try simp only [size_setCell] at hc1 hf1 hz1); (try (have hy1_0_0 : w.heap.size < w1.heap.size := (by omega))); (try (have hy1_0_1 : w.heap.size + 1 < w1.heap.size := (by omega))); (try (have hy1_0_2 : w.heap.size + 2 < w1.heap.size := (by omega))); (try (have hy1_0_3 : w.heap.size + 3 < w1.heap.size := (by omega))))
  go_wp2_with fail; (go_at_call 65; refine (srow_any _ _ _ _ _ _ _ false h2).mono ?_; rintro e w2 ⟨rfl, hb2⟩; obtain ⟨hc2, hf2, hz2⟩ := bcell hb2; (try simp only [World.size_alloc] at hc2 hf2 hz2); (try simp only [size_setCell] at hc2 hf2 hz2); (try (have hy2_0_0 : w.heap.size < w2.heap.size := (by omega))); (try (have hy2_0_1 : w.heap.size + 1 < w2.heap.size := (by omega))); (try (have hy2_0_2 : w.heap.size + 2 < w2.heap.size := (by omega))); (try (have hy2_0_3 : w.heap.size + 3 < w2.heap.size := (by omega))); (try (have hy2_1_0 : w1.heap.size < w2.heap.size := (by omega))); (try (have hy2_1_1 : w1.heap.size + 1 < w2.heap.size := (by omega))); (try (have hy2_1_2 : w1.heap.size + 2 < w2.heap.size := (by omega))); (try (have hy2_1_3 : w1.heap.size + 3 < w2.heap.size := (by omega))))
  go_wp2
  go_light
  exact bodyPost_ret (v := .tuple #[.agg #[.int .i64 0, .int .i64 0, .int .i64 0, .int .i64 0], .bool false]) (by simp [results, Try.results27, go_sem, *]) rfl ⟨rfl, (by repeat (first | exact Below.refl _ _ | exact belowNew _ _ | assumption | refine belowAlloc ?_ _ | refine belowDrew ?_ | refine belowDrewN ?_ _ | refine belowSet ?_ (by omega) _ | refine belowNext ?_ (by assumption)))⟩

theorem smoveBegin_no3 (gr bk rw cl b f t : Int) (w : World) (h1 : rowB gr bk rw cl b f = true) (h2 : rowB gr bk rw cl b t = true) (h3 : (f == t) = true) :
    Calls Try.prog 27 #[.agg #[.int .i64 gr, .int .i64 bk, .int .i64 rw, .int .i64 cl], .int .i64 b, .int .i64 f, .int .i64 t] w fun e w' => e = .returned (.tuple #[.agg #[.int .i64 0, .int .i64 0, .int .i64 0, .int .i64 0], .bool false]) ∧ Below w.heap.size w w' := by
  go_enter Try.func27, Try.ntmps27
  go_wp2_with fail; (go_at_call 65; refine (srow_any _ _ _ _ _ _ _ true h1).mono ?_; rintro e w1 ⟨rfl, hb1⟩; obtain ⟨hc1, hf1, hz1⟩ := bcell hb1; (try simp only [World.size_alloc] at hc1 hf1 hz1); (try simp only [size_setCell] at hc1 hf1 hz1); (try (have hy1_0_0 : w.heap.size < w1.heap.size := (by omega))); (try (have hy1_0_1 : w.heap.size + 1 < w1.heap.size := (by omega))); (try (have hy1_0_2 : w.heap.size + 2 < w1.heap.size := (by omega))); (try (have hy1_0_3 : w.heap.size + 3 < w1.heap.size := (by omega))))
  go_wp2_with fail; (go_at_call 65; refine (srow_any _ _ _ _ _ _ _ true h2).mono ?_; rintro e w2 ⟨rfl, hb2⟩; obtain ⟨hc2, hf2, hz2⟩ := bcell hb2; (try simp only [World.size_alloc] at hc2 hf2 hz2); (try simp only [size_setCell] at hc2 hf2 hz2); (try (have hy2_0_0 : w.heap.size < w2.heap.size := (by omega))); (try (have hy2_0_1 : w.heap.size + 1 < w2.heap.size := (by omega))); (try (have hy2_0_2 : w.heap.size + 2 < w2.heap.size := (by omega))); (try (have hy2_0_3 : w.heap.size + 3 < w2.heap.size := (by omega))); (try (have hy2_1_0 : w1.heap.size < w2.heap.size := (by omega))); (try (have hy2_1_1 : w1.heap.size + 1 < w2.heap.size := (by omega))); (try (have hy2_1_2 : w1.heap.size + 2 < w2.heap.size := (by omega))); (try (have hy2_1_3 : w1.heap.size + 3 < w2.heap.size := (by omega))))
  go_wp2
  go_light
  exact bodyPost_ret (v := .tuple #[.agg #[.int .i64 0, .int .i64 0, .int .i64 0, .int .i64 0], .bool false]) (by simp [results, Try.results27, go_sem, *]) rfl ⟨rfl, (by repeat (first | exact Below.refl _ _ | exact belowNew _ _ | assumption | refine belowAlloc ?_ _ | refine belowDrew ?_ | refine belowDrewN ?_ _ | refine belowSet ?_ (by omega) _ | refine belowNext ?_ (by assumption)))⟩

theorem smoveBegin_true (gr bk rw cl b f t : Int) (w : World) (h : moveB gr bk rw cl b f t = true) :
    Calls Try.prog 27 #[.agg #[.int .i64 gr, .int .i64 bk, .int .i64 rw, .int .i64 cl], .int .i64 b, .int .i64 f, .int .i64 t] w fun e w' => e = .returned (.tuple #[.agg #[.int .i64 b, .int .i64 f, .int .i64 t, .int .i64 0], .bool true]) ∧ Below w.heap.size w w' := by
  simp only [moveB, Bool.and_eq_true, Bool.not_eq_true'] at h
  exact smoveBegin_yes _ _ _ _ _ _ _ _ h.1.1 h.1.2 h.2
theorem smoveBegin_false (gr bk rw cl b f t : Int) (w : World) (h : moveB gr bk rw cl b f t = false) :
    Calls Try.prog 27 #[.agg #[.int .i64 gr, .int .i64 bk, .int .i64 rw, .int .i64 cl], .int .i64 b, .int .i64 f, .int .i64 t] w fun e w' => e = .returned (.tuple #[.agg #[.int .i64 0, .int .i64 0, .int .i64 0, .int .i64 0], .bool false]) ∧ Below w.heap.size w w' := by
  by_cases h1 : rowB gr bk rw cl b f = true
  · by_cases h2 : rowB gr bk rw cl b t = true
    · exact smoveBegin_no3 _ _ _ _ _ _ _ _ h1 h2 (by simpa [moveB, h1, h2] using h)
    · exact smoveBegin_no2 _ _ _ _ _ _ _ _ h1 (by simpa using h2)
  · exact smoveBegin_no1 _ _ _ _ _ _ _ _ (by simpa using h1)

theorem smoveOk_any (gr bk rw cl b f t n : Int) (w : World) (v : Bool) (hv : (moveB gr bk rw cl b f t && btw n 0 cl) = v) :
    Calls Try.prog 31 #[.agg #[.int .i64 gr, .int .i64 bk, .int .i64 rw, .int .i64 cl], .agg #[.int .i64 b, .int .i64 f, .int .i64 t, .int .i64 n]] w fun e w' => e = .returned (.bool v) ∧ Below w.heap.size w w' := by
  by_cases h : moveB gr bk rw cl b f t = true
  · have hv' : btw n 0 cl = v := by rw [h] at hv; simpa using hv
    have H := Lib.hid h
    have Hv := Lib.hid hv'
    clear h hv hv'
    go_enter Try.func31, Try.ntmps31
    go_wp2_with fail; (go_at_call 27; refine (smoveBegin_true _ _ _ _ _ _ _ _ H.out).mono ?_; rintro e w1 ⟨rfl, hb1⟩; obtain ⟨hc1, hf1, hz1⟩ := bcell hb1; (try simp only [World.size_alloc] at hc1 hf1 hz1); (try simp only [size_setCell] at hc1 hf1 hz1); (try (have hy1_0_0 : w.heap.size < w1.heap.size := (by omega))); (try (have hy1_0_1 : w.heap.size + 1 < w1.heap.size := (by omega))); (try (have hy1_0_2 : w.heap.size + 2 < w1.heap.size := (by omega))); (try (have hy1_0_3 : w.heap.size + 3 < w1.heap.size := (by omega))))
    go_wp2_with (first | (go_at_call 59; refine (l01In_any _ _ _ _ v Hv.out).mono ?_; rintro e w' ⟨rfl, rfl⟩))
    go_ret
    exact ⟨rfl, (by repeat (first | exact Below.refl _ _ | exact belowNew _ _ | assumption | refine belowAlloc ?_ _ | refine belowDrew ?_ | refine belowDrewN ?_ _ | refine belowSet ?_ (by omega) _ | refine belowNext ?_ (by assumption)))⟩
  · have h' : moveB gr bk rw cl b f t = false := by simpa using h
    have hv' : v = false := by rw [h'] at hv; simpa using hv.symm
    have H := Lib.hid h'
    subst hv'
    clear h hv h'
    go_enter Try.func31, Try.ntmps31
    go_wp2_with fail; (go_at_call 27; refine (smoveBegin_false _ _ _ _ _ _ _ _ H.out).mono ?_; rintro e w1 ⟨rfl, hb1⟩; obtain ⟨hc1, hf1, hz1⟩ := bcell hb1; (try simp only [World.size_alloc] at hc1 hf1 hz1); (try simp only [size_setCell] at hc1 hf1 hz1); (try (have hy1_0_0 : w.heap.size < w1.heap.size := (by omega))); (try (have hy1_0_1 : w.heap.size + 1 < w1.heap.size := (by omega))); (try (have hy1_0_2 : w.heap.size + 2 < w1.heap.size := (by omega))); (try (have hy1_0_3 : w.heap.size + 3 < w1.heap.size := (by omega))))
    go_wp2
    go_ret
    exact ⟨rfl, (by repeat (first | exact Below.refl _ _ | exact belowNew _ _ | assumption | refine belowAlloc ?_ _ | refine belowDrew ?_ | refine belowDrewN ?_ _ | refine belowSet ?_ (by omega) _ | refine belowNext ?_ (by assumption)))⟩

theorem walk_FnExactMoveBegin (cs : Array Value) (b f t : Int) (w : World) (h : Has w (.cons .int (.cons .int (.cons .int (.cons .int .nil)))) cs.toList) (_ : -9223372036854775808 ≤ b ∧ b ≤ 9223372036854775807) (_ : -9223372036854775808 ≤ f ∧ f ≤ 9223372036854775807) (_ : -9223372036854775808 ≤ t ∧ t ≤ 9223372036854775807) :
    Calls Try.prog 7 #[.agg cs, .int .i64 b, .int .i64 f, .int .i64 t] w fun e w' => e = .returned (.bool true) ∧ Below w.heap.size w w' := by
  obtain ⟨gr, bk, rw, cl, rfl, _, _, _, _⟩ := has_iiii h
  clear h
  by_cases hm : moveB gr bk rw cl b f t = true
  · have H := Lib.hid hm
    clear hm
    go_enter Try.func7, Try.ntmps7
    go_wp2_with fail; (go_at_call 28; refine (toGeometry_any _ _ _ _ _).mono ?_; rintro e w1 ⟨rfl, hb1⟩; obtain ⟨hc1, hf1, hz1⟩ := bcell hb1; (try simp only [World.size_alloc] at hc1 hf1 hz1); (try simp only [size_setCell] at hc1 hf1 hz1); (try (have hy1_0_0 : w.heap.size < w1.heap.size := (by omega))); (try (have hy1_0_1 : w.heap.size + 1 < w1.heap.size := (by omega))); (try (have hy1_0_2 : w.heap.size + 2 < w1.heap.size := (by omega))); (try (have hy1_0_3 : w.heap.size + 3 < w1.heap.size := (by omega))))
    go_wp2_with fail; (go_at_call 27; refine (smoveBegin_true _ _ _ _ _ _ _ _ H.out).mono ?_; rintro e w2 ⟨rfl, hb2⟩; obtain ⟨hc2, hf2, hz2⟩ := bcell hb2; (try simp only [World.size_alloc] at hc2 hf2 hz2); (try simp only [size_setCell] at hc2 hf2 hz2); (try (have hy2_0_0 : w.heap.size < w2.heap.size := (by omega))); (try (have hy2_0_1 : w.heap.size + 1 < w2.heap.size := (by omega))); (try (have hy2_0_2 : w.heap.size + 2 < w2.heap.size := (by omega))); (try (have hy2_0_3 : w.heap.size + 3 < w2.heap.size := (by omega))); (try (have hy2_1_0 : w1.heap.size < w2.heap.size := (by omega))); (try (have hy2_1_1 : w1.heap.size + 1 < w2.heap.size := (by omega))); (try (have hy2_1_2 : w1.heap.size + 2 < w2.heap.size := (by omega))); (try (have hy2_1_3 : w1.heap.size + 3 < w2.heap.size := (by omega))))
    go_wp2_with fail; (go_at_call 28; refine (toGeometry_any _ _ _ _ _).mono ?_; rintro e w3 ⟨rfl, hb3⟩; obtain ⟨hc3, hf3, hz3⟩ := bcell hb3; (try simp only [World.size_alloc] at hc3 hf3 hz3); (try simp only [size_setCell] at hc3 hf3 hz3); (try (have hy3_0_0 : w.heap.size < w3.heap.size := (by omega))); (try (have hy3_0_1 : w.heap.size + 1 < w3.heap.size := (by omega))); (try (have hy3_0_2 : w.heap.size + 2 < w3.heap.size := (by omega))); (try (have hy3_0_3 : w.heap.size + 3 < w3.heap.size := (by omega))); (try (have hy3_1_0 : w1.heap.size < w3.heap.size := (by omega))); (try (have hy3_1_1 : w1.heap.size + 1 < w3.heap.size := (by omega))); (try (have hy3_1_2 : w1.heap.size + 2 < w3.heap.size := (by omega))); (try (have hy3_1_3 : w1.heap.size + 3 < w3.heap.size := (by omega))); (try (have hy3_2_0 : w2.heap.size < w3.heap.size := (by omega))); (try (have hy3_2_1 : w2.heap.size + 1 < w3.heap.size := (by omega))); (try (have hy3_2_2 : w2.heap.size + 2 < w3.heap.size := (by omega))); (try (have hy3_2_3 : w2.heap.size + 3 < w3.heap.size := (by omega))))
    go_wp2_with fail; (go_at_call 29; refine (moveBegin_true _ _ _ _ _ _ _ _ H.out).mono ?_; rintro e w4 ⟨rfl, hb4⟩; obtain ⟨hc4, hf4, hz4⟩ := bcell hb4; (try simp only [World.size_alloc] at hc4 hf4 hz4); (try simp only [size_setCell] at hc4 hf4 hz4); (try (have hy4_0_0 : w.heap.size < w4.heap.size := (by omega))); (try (have hy4_0_1 : w.heap.size + 1 < w4.heap.size := (by omega))); (try (have hy4_0_2 : w.heap.size + 2 < w4.heap.size := (by omega))); (try (have hy4_0_3 : w.heap.size + 3 < w4.heap.size := (by omega))); (try (have hy4_1_0 : w1.heap.size < w4.heap.size := (by omega))); (try (have hy4_1_1 : w1.heap.size + 1 < w4.heap.size := (by omega))); (try (have hy4_1_2 : w1.heap.size + 2 < w4.heap.size := (by omega))); (try (have hy4_1_3 : w1.heap.size + 3 < w4.heap.size := (by omega))); (try (have hy4_2_0 : w2.heap.size < w4.heap.size := (by omega))); (try (have hy4_2_1 : w2.heap.size + 1 < w4.heap.size := (by omega))); (try (have hy4_2_2 : w2.heap.size + 2 < w4.heap.size := (by omega))); (try (have hy4_2_3 : w2.heap.size + 3 < w4.heap.size := (by omega))); (try (have hy4_3_0 : w3.heap.size < w4.heap.size := (by omega))); (try (have hy4_3_1 : w3.heap.size + 1 < w4.heap.size := (by omega))); (try (have hy4_3_2 : w3.heap.size + 2 < w4.heap.size := (by omega))); (try (have hy4_3_3 : w3.heap.size + 3 < w4.heap.size := (by omega))))
    go_wp2_with fail; (go_at_call 30; refine (eqMove_same _ _ _ _ _).mono ?_; rintro e w5 ⟨rfl, hb5⟩; obtain ⟨hc5, hf5, hz5⟩ := bcell hb5; (try simp only [World.size_alloc] at hc5 hf5 hz5); (try simp only [size_setCell] at hc5 hf5 hz5); (try (have hy5_0_0 : w.heap.size < w5.heap.size := (by omega))); (try (have hy5_0_1 : w.heap.size + 1 < w5.heap.size := (by omega))); (try (have hy5_0_2 : w.heap.size + 2 < w5.heap.size := (by omega))); (try (have hy5_0_3 : w.heap.size + 3 < w5.heap.size := (by omega))); (try (have hy5_1_0 : w1.heap.size < w5.heap.size := (by omega))); (try (have hy5_1_1 : w1.heap.size + 1 < w5.heap.size := (by omega))); (try (have hy5_1_2 : w1.heap.size + 2 < w5.heap.size := (by omega))); (try (have hy5_1_3 : w1.heap.size + 3 < w5.heap.size := (by omega))); (try (have hy5_2_0 : w2.heap.size < w5.heap.size := (by omega))); (try (have hy5_2_1 : w2.heap.size + 1 < w5.heap.size := (by omega))); (try (have hy5_2_2 : w2.heap.size + 2 < w5.heap.size := (by omega))); (try (have hy5_2_3 : w2.heap.size + 3 < w5.heap.size := (by omega))); (try (have hy5_3_0 : w3.heap.size < w5.heap.size := (by omega))); (try (have hy5_3_1 : w3.heap.size + 1 < w5.heap.size := (by omega))); (try (have hy5_3_2 : w3.heap.size + 2 < w5.heap.size := (by omega))); (try (have hy5_3_3 : w3.heap.size + 3 < w5.heap.size := (by omega))); (try (have hy5_4_0 : w4.heap.size < w5.heap.size := (by omega))); (try (have hy5_4_1 : w4.heap.size + 1 < w5.heap.size := (by omega))); (try (have hy5_4_2 : w4.heap.size + 2 < w5.heap.size := (by omega))); (try (have hy5_4_3 : w4.heap.size + 3 < w5.heap.size := (by omega))))
    go_wp2
    go_ret
    exact ⟨rfl, (by repeat (first | exact Below.refl _ _ | exact belowNew _ _ | assumption | refine belowAlloc ?_ _ | refine belowDrew ?_ | refine belowDrewN ?_ _ | refine belowSet ?_ (by omega) _ | refine belowNext ?_ (by assumption)))⟩
  · have H := Lib.hid (show moveB gr bk rw cl b f t = false by simpa using hm)
    clear hm
    go_enter Try.func7, Try.ntmps7
    go_wp2_with fail; (go_at_call 28; refine (toGeometry_any _ _ _ _ _).mono ?_; rintro e w1 ⟨rfl, hb1⟩; obtain ⟨hc1, hf1, hz1⟩ := bcell hb1; (try simp only [World.size_alloc] at hc1 hf1 hz1); (try simp only [size_setCell] at hc1 hf1 hz1); (try (have hy1_0_0 : w.heap.size < w1.heap.size := (by omega))); (try (have hy1_0_1 : w.heap.size + 1 < w1.heap.size := (by omega))); (try (have hy1_0_2 : w.heap.size + 2 < w1.heap.size := (by omega))); (try (have hy1_0_3 : w.heap.size + 3 < w1.heap.size := (by omega))))
    go_wp2_with fail; (go_at_call 27; refine (smoveBegin_false _ _ _ _ _ _ _ _ H.out).mono ?_; rintro e w2 ⟨rfl, hb2⟩; obtain ⟨hc2, hf2, hz2⟩ := bcell hb2; (try simp only [World.size_alloc] at hc2 hf2 hz2); (try simp only [size_setCell] at hc2 hf2 hz2); (try (have hy2_0_0 : w.heap.size < w2.heap.size := (by omega))); (try (have hy2_0_1 : w.heap.size + 1 < w2.heap.size := (by omega))); (try (have hy2_0_2 : w.heap.size + 2 < w2.heap.size := (by omega))); (try (have hy2_0_3 : w.heap.size + 3 < w2.heap.size := (by omega))); (try (have hy2_1_0 : w1.heap.size < w2.heap.size := (by omega))); (try (have hy2_1_1 : w1.heap.size + 1 < w2.heap.size := (by omega))); (try (have hy2_1_2 : w1.heap.size + 2 < w2.heap.size := (by omega))); (try (have hy2_1_3 : w1.heap.size + 3 < w2.heap.size := (by omega))))
    go_wp2_with fail; (go_at_call 28; refine (toGeometry_any _ _ _ _ _).mono ?_; rintro e w3 ⟨rfl, hb3⟩; obtain ⟨hc3, hf3, hz3⟩ := bcell hb3; (try simp only [World.size_alloc] at hc3 hf3 hz3); (try simp only [size_setCell] at hc3 hf3 hz3); (try (have hy3_0_0 : w.heap.size < w3.heap.size := (by omega))); (try (have hy3_0_1 : w.heap.size + 1 < w3.heap.size := (by omega))); (try (have hy3_0_2 : w.heap.size + 2 < w3.heap.size := (by omega))); (try (have hy3_0_3 : w.heap.size + 3 < w3.heap.size := (by omega))); (try (have hy3_1_0 : w1.heap.size < w3.heap.size := (by omega))); (try (have hy3_1_1 : w1.heap.size + 1 < w3.heap.size := (by omega))); (try (have hy3_1_2 : w1.heap.size + 2 < w3.heap.size := (by omega))); (try (have hy3_1_3 : w1.heap.size + 3 < w3.heap.size := (by omega))); (try (have hy3_2_0 : w2.heap.size < w3.heap.size := (by omega))); (try (have hy3_2_1 : w2.heap.size + 1 < w3.heap.size := (by omega))); (try (have hy3_2_2 : w2.heap.size + 2 < w3.heap.size := (by omega))); (try (have hy3_2_3 : w2.heap.size + 3 < w3.heap.size := (by omega))))
    go_wp2_with fail; (go_at_call 29; refine (moveBegin_false _ _ _ _ _ _ _ _ H.out).mono ?_; rintro e w4 ⟨rfl, hb4⟩; obtain ⟨hc4, hf4, hz4⟩ := bcell hb4; (try simp only [World.size_alloc] at hc4 hf4 hz4); (try simp only [size_setCell] at hc4 hf4 hz4); (try (have hy4_0_0 : w.heap.size < w4.heap.size := (by omega))); (try (have hy4_0_1 : w.heap.size + 1 < w4.heap.size := (by omega))); (try (have hy4_0_2 : w.heap.size + 2 < w4.heap.size := (by omega))); (try (have hy4_0_3 : w.heap.size + 3 < w4.heap.size := (by omega))); (try (have hy4_1_0 : w1.heap.size < w4.heap.size := (by omega))); (try (have hy4_1_1 : w1.heap.size + 1 < w4.heap.size := (by omega))); (try (have hy4_1_2 : w1.heap.size + 2 < w4.heap.size := (by omega))); (try (have hy4_1_3 : w1.heap.size + 3 < w4.heap.size := (by omega))); (try (have hy4_2_0 : w2.heap.size < w4.heap.size := (by omega))); (try (have hy4_2_1 : w2.heap.size + 1 < w4.heap.size := (by omega))); (try (have hy4_2_2 : w2.heap.size + 2 < w4.heap.size := (by omega))); (try (have hy4_2_3 : w2.heap.size + 3 < w4.heap.size := (by omega))); (try (have hy4_3_0 : w3.heap.size < w4.heap.size := (by omega))); (try (have hy4_3_1 : w3.heap.size + 1 < w4.heap.size := (by omega))); (try (have hy4_3_2 : w3.heap.size + 2 < w4.heap.size := (by omega))); (try (have hy4_3_3 : w3.heap.size + 3 < w4.heap.size := (by omega))))
    go_wp2_with fail; (go_at_call 30; refine (eqMove_same _ _ _ _ _).mono ?_; rintro e w5 ⟨rfl, hb5⟩; obtain ⟨hc5, hf5, hz5⟩ := bcell hb5; (try simp only [World.size_alloc] at hc5 hf5 hz5); (try simp only [size_setCell] at hc5 hf5 hz5); (try (have hy5_0_0 : w.heap.size < w5.heap.size := (by omega))); (try (have hy5_0_1 : w.heap.size + 1 < w5.heap.size := (by omega))); (try (have hy5_0_2 : w.heap.size + 2 < w5.heap.size := (by omega))); (try (have hy5_0_3 : w.heap.size + 3 < w5.heap.size := (by omega))); (try (have hy5_1_0 : w1.heap.size < w5.heap.size := (by omega))); (try (have hy5_1_1 : w1.heap.size + 1 < w5.heap.size := (by omega))); (try (have hy5_1_2 : w1.heap.size + 2 < w5.heap.size := (by omega))); (try (have hy5_1_3 : w1.heap.size + 3 < w5.heap.size := (by omega))); (try (have hy5_2_0 : w2.heap.size < w5.heap.size := (by omega))); (try (have hy5_2_1 : w2.heap.size + 1 < w5.heap.size := (by omega))); (try (have hy5_2_2 : w2.heap.size + 2 < w5.heap.size := (by omega))); (try (have hy5_2_3 : w2.heap.size + 3 < w5.heap.size := (by omega))); (try (have hy5_3_0 : w3.heap.size < w5.heap.size := (by omega))); (try (have hy5_3_1 : w3.heap.size + 1 < w5.heap.size := (by omega))); (try (have hy5_3_2 : w3.heap.size + 2 < w5.heap.size := (by omega))); (try (have hy5_3_3 : w3.heap.size + 3 < w5.heap.size := (by omega))); (try (have hy5_4_0 : w4.heap.size < w5.heap.size := (by omega))); (try (have hy5_4_1 : w4.heap.size + 1 < w5.heap.size := (by omega))); (try (have hy5_4_2 : w4.heap.size + 2 < w5.heap.size := (by omega))); (try (have hy5_4_3 : w4.heap.size + 3 < w5.heap.size := (by omega))))
    go_wp2
    go_ret
    exact ⟨rfl, (by repeat (first | exact Below.refl _ _ | exact belowNew _ _ | assumption | refine belowAlloc ?_ _ | refine belowDrew ?_ | refine belowDrewN ?_ _ | refine belowSet ?_ (by omega) _ | refine belowNext ?_ (by assumption)))⟩
theorem walk_FnExactMoveOk (cs ds : Array Value) (w : World) (h : Has w (.cons .int (.cons .int (.cons .int (.cons .int .nil)))) cs.toList) (h' : Has w (.cons .int (.cons .int (.cons .int (.cons .int .nil)))) ds.toList) :
    Calls Try.prog 8 #[.agg cs, .agg ds] w fun e w' => e = .returned (.bool true) ∧ Below w.heap.size w w' := by
  obtain ⟨gr, bk, rw, cl, rfl, _, _, _, _⟩ := has_iiii h
  obtain ⟨b, f, t, n, rfl, _, _, _, _⟩ := has_iiii h'
  clear h h'
  obtain ⟨v, hv⟩ : ∃ v, (moveB gr bk rw cl b f t && btw n 0 cl) = v := ⟨_, rfl⟩
  have H := Lib.hid hv
  clear hv
  go_enter Try.func8, Try.ntmps8
  go_wp2_with fail
  refine wp_region_ext8 ⟨w.heap.size, 0, none⟩ ⟨w.heap.size, 1, none⟩ ⟨w.heap.size, 2, none⟩ ⟨w.heap.size, 3, none⟩ ⟨w.heap.size + 1, 0, none⟩ ⟨w.heap.size + 1, 1, none⟩ ⟨w.heap.size + 1, 2, none⟩ ⟨w.heap.size + 1, 3, none⟩ (.int .i64 gr) (.int .i64 bk) (.int .i64 rw) (.int .i64 cl) (.int .i64 b) (.int .i64 f) (.int .i64 t) (.int .i64 n) (by kernel_rfl) (by kernel_rfl) (by first | assumption | (simp [go_sem]; done) | (simp; done)) (by first | assumption | (simp [go_sem]; done) | (simp; done)) (by first | assumption | (simp [go_sem]; done) | (simp; done)) (by first | assumption | (simp [go_sem]; done) | (simp; done)) (by first | assumption | (simp [go_sem]; done) | (simp; done)) (by first | assumption | (simp [go_sem]; done) | (simp; done)) (by first | assumption | (simp [go_sem]; done) | (simp; done)) (by first | assumption | (simp [go_sem]; done) | (simp; done)) ?_
  intro r1_0 r1_1 r1_2 r1_3 r1_4 r1_5 r1_6 r1_7
  repeat (go_big_quiet_step ((first | (go_at_call 28; exact ext_call (toGeometry_any _ _ _ _ _)) | (go_at_call 32; exact ext_call (toMove_any _ _ _ _ _)) | (go_at_call 31; exact ext_call (smoveOk_any _ _ _ _ _ _ _ _ _ v H.out)) | (go_at_call 33; exact ext_call (moveOk_any _ _ _ _ _ _ _ _ _ v H.out)))))
  refine wpQuiet_nil ?_
  intro w1 hq1
  have hb1 := ext_below hq1
  clear hq1
  have d1_0 : w1.cell? ⟨w.heap.size, 0, none⟩ = some (.int .i64 gr) := r1_0 ⟨w1, hb1⟩
  have d1_1 : w1.cell? ⟨w.heap.size, 1, none⟩ = some (.int .i64 bk) := r1_1 ⟨w1, hb1⟩
  have d1_2 : w1.cell? ⟨w.heap.size, 2, none⟩ = some (.int .i64 rw) := r1_2 ⟨w1, hb1⟩
  have d1_3 : w1.cell? ⟨w.heap.size, 3, none⟩ = some (.int .i64 cl) := r1_3 ⟨w1, hb1⟩
  have d1_4 : w1.cell? ⟨w.heap.size + 1, 0, none⟩ = some (.int .i64 b) := r1_4 ⟨w1, hb1⟩
  have d1_5 : w1.cell? ⟨w.heap.size + 1, 1, none⟩ = some (.int .i64 f) := r1_5 ⟨w1, hb1⟩
  have d1_6 : w1.cell? ⟨w.heap.size + 1, 2, none⟩ = some (.int .i64 t) := r1_6 ⟨w1, hb1⟩
  have d1_7 : w1.cell? ⟨w.heap.size + 1, 3, none⟩ = some (.int .i64 n) := r1_7 ⟨w1, hb1⟩
  clear r1_0 r1_1 r1_2 r1_3 r1_4 r1_5 r1_6 r1_7
  go_wp2_with fail
  refine wp_region_ext8 ⟨w.heap.size, 0, none⟩ ⟨w.heap.size, 1, none⟩ ⟨w.heap.size, 2, none⟩ ⟨w.heap.size, 3, none⟩ ⟨w.heap.size + 1, 0, none⟩ ⟨w.heap.size + 1, 1, none⟩ ⟨w.heap.size + 1, 2, none⟩ ⟨w.heap.size + 1, 3, none⟩ (.int .i64 gr) (.int .i64 bk) (.int .i64 rw) (.int .i64 cl) (.int .i64 b) (.int .i64 f) (.int .i64 t) (.int .i64 n) (by kernel_rfl) (by kernel_rfl) (by first | assumption | (simp [go_sem]; done) | (simp; done)) (by first | assumption | (simp [go_sem]; done) | (simp; done)) (by first | assumption | (simp [go_sem]; done) | (simp; done)) (by first | assumption | (simp [go_sem]; done) | (simp; done)) (by first | assumption | (simp [go_sem]; done) | (simp; done)) (by first | assumption | (simp [go_sem]; done) | (simp; done)) (by first | assumption | (simp [go_sem]; done) | (simp; done)) (by first | assumption | (simp [go_sem]; done) | (simp; done)) ?_
  intro r2_0 r2_1 r2_2 r2_3 r2_4 r2_5 r2_6 r2_7
  repeat (go_big_quiet_step ((first | (go_at_call 28; exact ext_call (toGeometry_any _ _ _ _ _)) | (go_at_call 32; exact ext_call (toMove_any _ _ _ _ _)) | (go_at_call 31; exact ext_call (smoveOk_any _ _ _ _ _ _ _ _ _ v H.out)) | (go_at_call 33; exact ext_call (moveOk_any _ _ _ _ _ _ _ _ _ v H.out)))))
  refine wpQuiet_nil ?_
  intro w2 hq2
  have hb2 := ext_below hq2
  clear hq2
  have d2_0 : w2.cell? ⟨w.heap.size, 0, none⟩ = some (.int .i64 gr) := r2_0 ⟨w2, hb2⟩
  have d2_1 : w2.cell? ⟨w.heap.size, 1, none⟩ = some (.int .i64 bk) := r2_1 ⟨w2, hb2⟩
  have d2_2 : w2.cell? ⟨w.heap.size, 2, none⟩ = some (.int .i64 rw) := r2_2 ⟨w2, hb2⟩
  have d2_3 : w2.cell? ⟨w.heap.size, 3, none⟩ = some (.int .i64 cl) := r2_3 ⟨w2, hb2⟩
  have d2_4 : w2.cell? ⟨w.heap.size + 1, 0, none⟩ = some (.int .i64 b) := r2_4 ⟨w2, hb2⟩
  have d2_5 : w2.cell? ⟨w.heap.size + 1, 1, none⟩ = some (.int .i64 f) := r2_5 ⟨w2, hb2⟩
  have d2_6 : w2.cell? ⟨w.heap.size + 1, 2, none⟩ = some (.int .i64 t) := r2_6 ⟨w2, hb2⟩
  have d2_7 : w2.cell? ⟨w.heap.size + 1, 3, none⟩ = some (.int .i64 n) := r2_7 ⟨w2, hb2⟩
  clear r2_0 r2_1 r2_2 r2_3 r2_4 r2_5 r2_6 r2_7
  go_wp2
  go_ret
  exact ⟨rfl, (by repeat (first | exact Below.refl _ _ | exact belowNew _ _ | assumption | refine belowAlloc ?_ _ | refine belowDrew ?_ | refine belowDrewN ?_ _ | refine belowSet ?_ (by omega) _ | refine belowNext ?_ (by assumption)))⟩
end Go.Proofs.Ytlkklplnomecgaa
