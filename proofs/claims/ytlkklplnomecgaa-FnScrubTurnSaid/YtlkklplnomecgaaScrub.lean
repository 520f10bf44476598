/-
  The walks of the laws on the scrubber.
-/
import Derived.Test.YtlkklplnomecgaaFlat
import Derived.Test.YtlkklplnomecgaaHas
import Derived.Test.YtlkklplnomecgaaOpen
namespace Go.Proofs.Ytlkklplnomecgaa
open Go.RowKit

theorem scrubberNew_yes (a : Int) (w : World) (h1 : 1 ≤ a) (h2 : a ≤ 100000) :
    Calls Try.prog 17 #[.int .i64 a] w fun e w' => e = .returned (.tuple #[.agg #[.int .i64 0, .int .i64 a, .int .i64 a], .bool true]) ∧ Below w.heap.size w w' := by
  have hb := Lib.hid (btw_mk h1 h2)
  go_enter Try.func17, Try.ntmps17
  go_wp2_with (first | (go_at_call 60; refine (between_any _ _ _ _ true hb.out).mono ?_; rintro e w' ⟨rfl, rfl⟩))
  exact bodyPost_ret (v := .tuple #[.agg #[.int .i64 0, .int .i64 a, .int .i64 a], .bool true]) (by simp [results, Try.results17, go_sem]) rfl ⟨rfl, belowNew _ _⟩
theorem scrubberNew_no (a : Int) (w : World) (h : a < 1 ∨ 100000 < a) :
    Calls Try.prog 17 #[.int .i64 a] w fun e w' => e = .returned (.tuple #[.agg #[.int .i64 0, .int .i64 0, .int .i64 0], .bool false]) ∧ Below w.heap.size w w' := by
  have hb := Lib.hid (btw_no h)
  clear h
  go_enter Try.func17, Try.ntmps17
  go_wp2_with (first | (go_at_call 60; refine (between_any _ _ _ _ false hb.out).mono ?_; rintro e w' ⟨rfl, rfl⟩))
  exact bodyPost_ret (v := .tuple #[.agg #[.int .i64 0, .int .i64 0, .int .i64 0], .bool false]) (by simp [results, Try.results17, go_sem]) rfl ⟨rfl, belowNew _ _⟩

theorem sscrubberNew_yes (a : Int) (w : World) (h1 : 1 ≤ a) (h2 : a ≤ 100000) :
    Calls Try.prog 16 #[.int .i64 a] w fun e w' => e = .returned (.tuple #[.agg #[.int .i64 0, .int .i64 a, .int .i64 a], .bool true]) ∧ Below w.heap.size w w' := by
  have hb := Lib.hid (btw_mk h1 h2)
  go_enter Try.func16, Try.ntmps16
  go_wp2_with (first | (go_at_call 59; refine (l01In_any _ _ _ _ true hb.out).mono ?_; rintro e w' ⟨rfl, rfl⟩))
  exact bodyPost_ret (v := .tuple #[.agg #[.int .i64 0, .int .i64 a, .int .i64 a], .bool true]) (by simp [results, Try.results16, go_sem]) rfl ⟨rfl, belowNew _ _⟩
theorem sscrubberNew_no (a : Int) (w : World) (h : a < 1 ∨ 100000 < a) :
    Calls Try.prog 16 #[.int .i64 a] w fun e w' => e = .returned (.tuple #[.agg #[.int .i64 0, .int .i64 0, .int .i64 0], .bool false]) ∧ Below w.heap.size w w' := by
  have hb := Lib.hid (btw_no h)
  clear h
  go_enter Try.func16, Try.ntmps16
  go_wp2_with (first | (go_at_call 59; refine (l01In_any _ _ _ _ false hb.out).mono ?_; rintro e w' ⟨rfl, rfl⟩))
  exact bodyPost_ret (v := .tuple #[.agg #[.int .i64 0, .int .i64 0, .int .i64 0], .bool false]) (by simp [results, Try.results16, go_sem]) rfl ⟨rfl, belowNew _ _⟩

theorem scrubberTick_wait (n e v l : Int) (w : World) (h1 : 1 ≤ e) (h2 : e ≤ 100000) (h3 : 1 ≤ v) (h4 : v ≤ e) (h5 : 1 ≤ l) (h6 : 0 ≤ n) (h7 : n < l) (h8 : l ≤ 9223372036854775807) (h9 : 2 ≤ v) :
    Calls Try.prog 21 #[.agg #[.int .i64 n, .int .i64 e, .int .i64 v], .int .i64 l] w fun e' w' => e' = .returned (.tuple #[.agg #[.int .i64 n, .int .i64 e, .int .i64 (v - 1)], .int .i64 (-1)]) ∧ Below w.heap.size w w' := by
  have b1 : btw e 1 100000 = true := btw_mk h1 h2
  have b2 : btw v 1 e = true := btw_mk h3 h4
  have b3 : btw n 0 (l - 1) = true := btw_mk h6 (by omega)
  go_enter Try.func21, Try.ntmps21
  go_wp2_with (first | (go_at_call 60; refine (between_any _ _ _ _ _ rfl).mono ?_; rintro e w' ⟨rfl, rfl⟩))
  exact bodyPost_ret (v := .tuple #[.agg #[.int .i64 n, .int .i64 e, .int .i64 (v - 1)], .int .i64 (-1)]) (by simp [results, Try.results21, go_sem]) rfl ⟨rfl, (by repeat (first | exact Below.refl _ _ | exact belowNew _ _ | assumption | refine belowAlloc ?_ _ | refine belowDrew ?_ | refine belowDrewN ?_ _ | refine belowNext ?_ (by assumption)))⟩
theorem scrubberTick_turn (n e v l : Int) (w : World) (h1 : 1 ≤ e) (h2 : e ≤ 100000) (h3 : 1 ≤ v) (h4 : v ≤ e) (h5 : 1 ≤ l) (h6 : 0 ≤ n) (h7 : n < l) (h8 : l ≤ 9223372036854775807) (h9 : v = 1) :
    Calls Try.prog 21 #[.agg #[.int .i64 n, .int .i64 e, .int .i64 v], .int .i64 l] w fun e' w' => e' = .returned (.tuple #[.agg #[.int .i64 ((n + 1) % l), .int .i64 e, .int .i64 e], .int .i64 n]) ∧ Below w.heap.size w w' := by
  subst h9
  have b1 : btw e 1 100000 = true := btw_mk h1 h2
  have b2 : btw 1 1 e = true := btw_mk h3 h4
  have b3 : btw n 0 (l - 1) = true := btw_mk h6 (by omega)
  go_enter Try.func21, Try.ntmps21
  go_wp2_with (first | (go_at_call 60; refine (between_any _ _ _ _ _ rfl).mono ?_; rintro e w' ⟨rfl, rfl⟩))
  exact bodyPost_ret (v := .tuple #[.agg #[.int .i64 ((n + 1) % l), .int .i64 e, .int .i64 e], .int .i64 n]) (by simp [results, Try.results21, go_sem]) rfl ⟨rfl, (by repeat (first | exact Below.refl _ _ | exact belowNew _ _ | assumption | refine belowAlloc ?_ _ | refine belowDrew ?_ | refine belowDrewN ?_ _ | refine belowNext ?_ (by assumption)))⟩
theorem scrubberTick_not (n e v l : Int) (w : World) (hl : -9223372036854775808 ≤ l) (hl2 : l ≤ 9223372036854775807) (h : (btw e 1 100000 && btw v 1 e && decide (1 ≤ l) && btw n 0 (l - 1)) = false) :
    Calls Try.prog 21 #[.agg #[.int .i64 n, .int .i64 e, .int .i64 v], .int .i64 l] w fun e' w' => e' = .returned (.tuple #[.agg #[.int .i64 n, .int .i64 e, .int .i64 v], .int .i64 (-1)]) ∧ Below w.heap.size w w' := by
  by_cases b1 : btw e 1 100000 = true
  · by_cases b2 : btw v 1 e = true
    · by_cases b3 : 1 ≤ l
      · have b4 : btw n 0 (l - 1) = false := by simpa [b1, b2, b3] using h
        clear h
        go_enter Try.func21, Try.ntmps21
        go_wp2_with (first | (go_at_call 60; refine (between_any _ _ _ _ _ rfl).mono ?_; rintro e w' ⟨rfl, rfl⟩))
        exact bodyPost_ret (v := .tuple #[.agg #[.int .i64 n, .int .i64 e, .int .i64 v], .int .i64 (-1)]) (by simp [results, Try.results21, go_sem]) rfl ⟨rfl, (by repeat (first | exact Below.refl _ _ | exact belowNew _ _ | assumption | refine belowAlloc ?_ _ | refine belowDrew ?_ | refine belowDrewN ?_ _ | refine belowNext ?_ (by assumption)))⟩
      · clear h
        go_enter Try.func21, Try.ntmps21
        go_wp2_with (first | (go_at_call 60; refine (between_any _ _ _ _ _ rfl).mono ?_; rintro e w' ⟨rfl, rfl⟩))
        exact bodyPost_ret (v := .tuple #[.agg #[.int .i64 n, .int .i64 e, .int .i64 v], .int .i64 (-1)]) (by simp [results, Try.results21, go_sem]) rfl ⟨rfl, (by repeat (first | exact Below.refl _ _ | exact belowNew _ _ | assumption | refine belowAlloc ?_ _ | refine belowDrew ?_ | refine belowDrewN ?_ _ | refine belowNext ?_ (by assumption)))⟩
    · have b2' : btw v 1 e = false := by simpa using b2
      clear h b2
      go_enter Try.func21, Try.ntmps21
      go_wp2_with (first | (go_at_call 60; refine (between_any _ _ _ _ _ rfl).mono ?_; rintro e w' ⟨rfl, rfl⟩))
      exact bodyPost_ret (v := .tuple #[.agg #[.int .i64 n, .int .i64 e, .int .i64 v], .int .i64 (-1)]) (by simp [results, Try.results21, go_sem]) rfl ⟨rfl, (by repeat (first | exact Below.refl _ _ | exact belowNew _ _ | assumption | refine belowAlloc ?_ _ | refine belowDrew ?_ | refine belowDrewN ?_ _ | refine belowNext ?_ (by assumption)))⟩
  · have b1' : btw e 1 100000 = false := by simpa using b1
    clear h b1
    go_enter Try.func21, Try.ntmps21
    go_wp2_with (first | (go_at_call 60; refine (between_any _ _ _ _ _ rfl).mono ?_; rintro e w' ⟨rfl, rfl⟩))
    exact bodyPost_ret (v := .tuple #[.agg #[.int .i64 n, .int .i64 e, .int .i64 v], .int .i64 (-1)]) (by simp [results, Try.results21, go_sem]) rfl ⟨rfl, (by repeat (first | exact Below.refl _ _ | exact belowNew _ _ | assumption | refine belowAlloc ?_ _ | refine belowDrew ?_ | refine belowDrewN ?_ _ | refine belowNext ?_ (by assumption)))⟩

theorem sscrubberTick_wait (n e v l : Int) (w : World) (h1 : 1 ≤ e) (h2 : e ≤ 100000) (h3 : 1 ≤ v) (h4 : v ≤ e) (h5 : 1 ≤ l) (h6 : 0 ≤ n) (h7 : n < l) (h8 : l ≤ 9223372036854775807) (h9 : 2 ≤ v) :
    Calls Try.prog 19 #[.agg #[.int .i64 n, .int .i64 e, .int .i64 v], .int .i64 l] w fun e' w' => e' = .returned (.tuple #[.agg #[.int .i64 n, .int .i64 e, .int .i64 (v - 1)], .int .i64 (-1)]) ∧ Below w.heap.size w w' := by
  have b1 : btw e 1 100000 = true := btw_mk h1 h2
  have b2 : btw v 1 e = true := btw_mk h3 h4
  go_enter Try.func19, Try.ntmps19
  go_wp2_with (first | (go_at_call 59; refine (l01In_any _ _ _ _ _ rfl).mono ?_; rintro e w' ⟨rfl, rfl⟩))
  exact bodyPost_ret (v := .tuple #[.agg #[.int .i64 n, .int .i64 e, .int .i64 (v - 1)], .int .i64 (-1)]) (by simp [results, Try.results19, go_sem]) rfl ⟨rfl, (by repeat (first | exact Below.refl _ _ | exact belowNew _ _ | assumption | refine belowAlloc ?_ _ | refine belowDrew ?_ | refine belowDrewN ?_ _ | refine belowNext ?_ (by assumption)))⟩
theorem sscrubberTick_turn (n e v l : Int) (w : World) (h1 : 1 ≤ e) (h2 : e ≤ 100000) (h3 : 1 ≤ v) (h4 : v ≤ e) (h5 : 1 ≤ l) (h6 : 0 ≤ n) (h7 : n < l) (h8 : l ≤ 9223372036854775807) (h9 : v = 1) :
    Calls Try.prog 19 #[.agg #[.int .i64 n, .int .i64 e, .int .i64 v], .int .i64 l] w fun e' w' => e' = .returned (.tuple #[.agg #[.int .i64 ((n + 1) % l), .int .i64 e, .int .i64 e], .int .i64 n]) ∧ Below w.heap.size w w' := by
  subst h9
  have b1 : btw e 1 100000 = true := btw_mk h1 h2
  have b2 : btw 1 1 e = true := btw_mk h3 h4
  go_enter Try.func19, Try.ntmps19
  go_wp2_with (first | (go_at_call 59; refine (l01In_any _ _ _ _ _ rfl).mono ?_; rintro e w' ⟨rfl, rfl⟩))
  exact bodyPost_ret (v := .tuple #[.agg #[.int .i64 ((n + 1) % l), .int .i64 e, .int .i64 e], .int .i64 n]) (by simp [results, Try.results19, go_sem]) rfl ⟨rfl, (by repeat (first | exact Below.refl _ _ | exact belowNew _ _ | assumption | refine belowAlloc ?_ _ | refine belowDrew ?_ | refine belowDrewN ?_ _ | refine belowNext ?_ (by assumption)))⟩
theorem sscrubberTick_not (n e v l : Int) (w : World) (hl : -9223372036854775808 ≤ l) (hl2 : l ≤ 9223372036854775807) (h : (btw e 1 100000 && btw v 1 e && decide (1 ≤ l) && btw n 0 (l - 1)) = false) :
    Calls Try.prog 19 #[.agg #[.int .i64 n, .int .i64 e, .int .i64 v], .int .i64 l] w fun e' w' => e' = .returned (.tuple #[.agg #[.int .i64 n, .int .i64 e, .int .i64 v], .int .i64 (-1)]) ∧ Below w.heap.size w w' := by
  by_cases b1 : btw e 1 100000 = true
  · by_cases b2 : btw v 1 e = true
    · by_cases b3 : 1 ≤ l
      · have b4 : btw n 0 (l - 1) = false := by simpa [b1, b2, b3] using h
        have b5 := btw_false b4
        clear h b4
        rcases b5 with b5 | b5
        · go_enter Try.func19, Try.ntmps19
          go_wp2_with (first | (go_at_call 59; refine (l01In_any _ _ _ _ _ rfl).mono ?_; rintro e w' ⟨rfl, rfl⟩))
          exact bodyPost_ret (v := .tuple #[.agg #[.int .i64 n, .int .i64 e, .int .i64 v], .int .i64 (-1)]) (by simp [results, Try.results19, go_sem]) rfl ⟨rfl, (by repeat (first | exact Below.refl _ _ | exact belowNew _ _ | assumption | refine belowAlloc ?_ _ | refine belowDrew ?_ | refine belowDrewN ?_ _ | refine belowNext ?_ (by assumption)))⟩
        · have b6 : l ≤ n := by omega
          clear b5
          by_cases b7 : n < 0
          · omega
          · go_enter Try.func19, Try.ntmps19
            go_wp2_with (first | (go_at_call 59; refine (l01In_any _ _ _ _ _ rfl).mono ?_; rintro e w' ⟨rfl, rfl⟩))
            exact bodyPost_ret (v := .tuple #[.agg #[.int .i64 n, .int .i64 e, .int .i64 v], .int .i64 (-1)]) (by simp [results, Try.results19, go_sem]) rfl ⟨rfl, (by repeat (first | exact Below.refl _ _ | exact belowNew _ _ | assumption | refine belowAlloc ?_ _ | refine belowDrew ?_ | refine belowDrewN ?_ _ | refine belowNext ?_ (by assumption)))⟩
      · clear h
        go_enter Try.func19, Try.ntmps19
        go_wp2_with (first | (go_at_call 59; refine (l01In_any _ _ _ _ _ rfl).mono ?_; rintro e w' ⟨rfl, rfl⟩))
        exact bodyPost_ret (v := .tuple #[.agg #[.int .i64 n, .int .i64 e, .int .i64 v], .int .i64 (-1)]) (by simp [results, Try.results19, go_sem]) rfl ⟨rfl, (by repeat (first | exact Below.refl _ _ | exact belowNew _ _ | assumption | refine belowAlloc ?_ _ | refine belowDrew ?_ | refine belowDrewN ?_ _ | refine belowNext ?_ (by assumption)))⟩
    · have b2' : btw v 1 e = false := by simpa using b2
      clear h b2
      go_enter Try.func19, Try.ntmps19
      go_wp2_with (first | (go_at_call 59; refine (l01In_any _ _ _ _ _ rfl).mono ?_; rintro e w' ⟨rfl, rfl⟩))
      exact bodyPost_ret (v := .tuple #[.agg #[.int .i64 n, .int .i64 e, .int .i64 v], .int .i64 (-1)]) (by simp [results, Try.results19, go_sem]) rfl ⟨rfl, (by repeat (first | exact Below.refl _ _ | exact belowNew _ _ | assumption | refine belowAlloc ?_ _ | refine belowDrew ?_ | refine belowDrewN ?_ _ | refine belowNext ?_ (by assumption)))⟩
  · have b1' : btw e 1 100000 = false := by simpa using b1
    clear h b1
    go_enter Try.func19, Try.ntmps19
    go_wp2_with (first | (go_at_call 59; refine (l01In_any _ _ _ _ _ rfl).mono ?_; rintro e w' ⟨rfl, rfl⟩))
    exact bodyPost_ret (v := .tuple #[.agg #[.int .i64 n, .int .i64 e, .int .i64 v], .int .i64 (-1)]) (by simp [results, Try.results19, go_sem]) rfl ⟨rfl, (by repeat (first | exact Below.refl _ _ | exact belowNew _ _ | assumption | refine belowAlloc ?_ _ | refine belowDrew ?_ | refine belowDrewN ?_ _ | refine belowNext ?_ (by assumption)))⟩

theorem walk_FnExactScrubberNew (a : Int) (w : World) (_h : -9223372036854775808 ≤ a ∧ a ≤ 9223372036854775807) :
    Calls Try.prog 3 #[.int .i64 a] w fun e w' => e = .returned (.bool true) ∧ Below w.heap.size w w' := by
  by_cases h : 1 ≤ a ∧ a ≤ 100000
  · obtain ⟨h1, h2⟩ := h
    go_enter Try.func3, Try.ntmps3
    go_wp2_with (first | (go_at_call 16; refine (sscrubberNew_yes _ _ h1 h2).mono ?_; rintro e w1 ⟨rfl, hb1⟩; obtain ⟨hc1, hf1, hz1⟩ := bcell hb1; (try simp only [World.size_alloc] at hc1 hf1 hz1); (try simp only [size_setCell] at hc1 hf1 hz1); (try (have hy1_0_0 : w.heap.size < w1.heap.size := (by omega))); (try (have hy1_0_1 : w.heap.size + 1 < w1.heap.size := (by omega))); (try (have hy1_0_2 : w.heap.size + 2 < w1.heap.size := (by omega))); (try (have hy1_0_3 : w.heap.size + 3 < w1.heap.size := (by omega)))) | (go_at_call 17; refine (scrubberNew_yes _ _ h1 h2).mono ?_; rintro e w2 ⟨rfl, hb2⟩; obtain ⟨hc2, hf2, hz2⟩ := bcell hb2; (try simp only [World.size_alloc] at hc2 hf2 hz2); (try simp only [size_setCell] at hc2 hf2 hz2); (try (have hy2_0_0 : w.heap.size < w2.heap.size := (by omega))); (try (have hy2_0_1 : w.heap.size + 1 < w2.heap.size := (by omega))); (try (have hy2_0_2 : w.heap.size + 2 < w2.heap.size := (by omega))); (try (have hy2_0_3 : w.heap.size + 3 < w2.heap.size := (by omega))); (try (have hy2_1_0 : w1.heap.size < w2.heap.size := (by omega))); (try (have hy2_1_1 : w1.heap.size + 1 < w2.heap.size := (by omega))); (try (have hy2_1_2 : w1.heap.size + 2 < w2.heap.size := (by omega))); (try (have hy2_1_3 : w1.heap.size + 3 < w2.heap.size := (by omega)))) | (go_at_call 18; refine (eqScrubber_same _ _ _ _).mono ?_; rintro e w3 ⟨rfl, hb3⟩; obtain ⟨hc3, hf3, hz3⟩ := bcell hb3; (try simp only [World.size_alloc] at hc3 hf3 hz3); (try simp only [size_setCell] at hc3 hf3 hz3); (try (have hy3_0_0 : w.heap.size < w3.heap.size := (by omega))); (try (have hy3_0_1 : w.heap.size + 1 < w3.heap.size := (by omega))); (try (have hy3_0_2 : w.heap.size + 2 < w3.heap.size := (by omega))); (try (have hy3_0_3 : w.heap.size + 3 < w3.heap.size := (by omega))); (try (have hy3_1_0 : w1.heap.size < w3.heap.size := (by omega))); (try (have hy3_1_1 : w1.heap.size + 1 < w3.heap.size := (by omega))); (try (have hy3_1_2 : w1.heap.size + 2 < w3.heap.size := (by omega))); (try (have hy3_1_3 : w1.heap.size + 3 < w3.heap.size := (by omega))); (try (have hy3_2_0 : w2.heap.size < w3.heap.size := (by omega))); (try (have hy3_2_1 : w2.heap.size + 1 < w3.heap.size := (by omega))); (try (have hy3_2_2 : w2.heap.size + 2 < w3.heap.size := (by omega))); (try (have hy3_2_3 : w2.heap.size + 3 < w3.heap.size := (by omega)))))
    go_ret
    exact ⟨rfl, (by repeat (first | exact Below.refl _ _ | exact belowNew _ _ | assumption | refine belowAlloc ?_ _ | refine belowDrew ?_ | refine belowDrewN ?_ _ | refine belowNext ?_ (by assumption)))⟩
  · have h' : a < 1 ∨ 100000 < a := by omega
    have H := Lib.hid h'
    clear h h'
    go_enter Try.func3, Try.ntmps3
    go_wp2_with (first | (go_at_call 16; refine (sscrubberNew_no _ _ H.out).mono ?_; rintro e w1 ⟨rfl, hb1⟩; obtain ⟨hc1, hf1, hz1⟩ := bcell hb1; (try simp only [World.size_alloc] at hc1 hf1 hz1); (try simp only [size_setCell] at hc1 hf1 hz1); (try (have hy1_0_0 : w.heap.size < w1.heap.size := (by omega))); (try (have hy1_0_1 : w.heap.size + 1 < w1.heap.size := (by omega))); (try (have hy1_0_2 : w.heap.size + 2 < w1.heap.size := (by omega))); (try (have hy1_0_3 : w.heap.size + 3 < w1.heap.size := (by omega)))) | (go_at_call 17; refine (scrubberNew_no _ _ H.out).mono ?_; rintro e w2 ⟨rfl, hb2⟩; obtain ⟨hc2, hf2, hz2⟩ := bcell hb2; (try simp only [World.size_alloc] at hc2 hf2 hz2); (try simp only [size_setCell] at hc2 hf2 hz2); (try (have hy2_0_0 : w.heap.size < w2.heap.size := (by omega))); (try (have hy2_0_1 : w.heap.size + 1 < w2.heap.size := (by omega))); (try (have hy2_0_2 : w.heap.size + 2 < w2.heap.size := (by omega))); (try (have hy2_0_3 : w.heap.size + 3 < w2.heap.size := (by omega))); (try (have hy2_1_0 : w1.heap.size < w2.heap.size := (by omega))); (try (have hy2_1_1 : w1.heap.size + 1 < w2.heap.size := (by omega))); (try (have hy2_1_2 : w1.heap.size + 2 < w2.heap.size := (by omega))); (try (have hy2_1_3 : w1.heap.size + 3 < w2.heap.size := (by omega)))) | (go_at_call 18; refine (eqScrubber_same _ _ _ _).mono ?_; rintro e w3 ⟨rfl, hb3⟩; obtain ⟨hc3, hf3, hz3⟩ := bcell hb3; (try simp only [World.size_alloc] at hc3 hf3 hz3); (try simp only [size_setCell] at hc3 hf3 hz3); (try (have hy3_0_0 : w.heap.size < w3.heap.size := (by omega))); (try (have hy3_0_1 : w.heap.size + 1 < w3.heap.size := (by omega))); (try (have hy3_0_2 : w.heap.size + 2 < w3.heap.size := (by omega))); (try (have hy3_0_3 : w.heap.size + 3 < w3.heap.size := (by omega))); (try (have hy3_1_0 : w1.heap.size < w3.heap.size := (by omega))); (try (have hy3_1_1 : w1.heap.size + 1 < w3.heap.size := (by omega))); (try (have hy3_1_2 : w1.heap.size + 2 < w3.heap.size := (by omega))); (try (have hy3_1_3 : w1.heap.size + 3 < w3.heap.size := (by omega))); (try (have hy3_2_0 : w2.heap.size < w3.heap.size := (by omega))); (try (have hy3_2_1 : w2.heap.size + 1 < w3.heap.size := (by omega))); (try (have hy3_2_2 : w2.heap.size + 2 < w3.heap.size := (by omega))); (try (have hy3_2_3 : w2.heap.size + 3 < w3.heap.size := (by omega)))))
    go_ret
    exact ⟨rfl, (by repeat (first | exact Below.refl _ _ | exact belowNew _ _ | assumption | refine belowAlloc ?_ _ | refine belowDrew ?_ | refine belowDrewN ?_ _ | refine belowNext ?_ (by assumption)))⟩

theorem walk_FnExactScrubberTick (cs : Array Value) (l : Int) (w : World) (h : Has w (.cons .int (.cons .int (.cons .int .nil))) cs.toList) (hl : -9223372036854775808 ≤ l ∧ l ≤ 9223372036854775807) :
    Calls Try.prog 4 #[.agg cs, .int .i64 l] w fun e w' => e = .returned (.bool true) ∧ Below w.heap.size w w' := by
  obtain ⟨n, e, v, rfl, hn, he, hv⟩ := has_iii h
  clear h
  obtain ⟨hl1, hl2⟩ := hl
  by_cases h0 : (btw e 1 100000 && btw v 1 e && decide (1 ≤ l) && btw n 0 (l - 1)) = true
  · have h0' := h0
    simp only [Bool.and_eq_true, decide_eq_true_eq] at h0'
    obtain ⟨⟨⟨b1, b2⟩, b3⟩, b4⟩ := h0'
    have c1 := btw_true b1
    have c2 := btw_true b2
    have c4 := btw_true b4
    clear h0 b1 b2 b4
    by_cases h9 : 2 ≤ v
    · go_enter Try.func4, Try.ntmps4
      go_wp2_with fail; (go_at_call 20; refine (toScrubber_any _ _ _ _).mono ?_; rintro e w1 ⟨rfl, hb1⟩; obtain ⟨hc1, hf1, hz1⟩ := bcell hb1; (try simp only [World.size_alloc] at hc1 hf1 hz1); (try simp only [size_setCell] at hc1 hf1 hz1); (try (have hy1_0_0 : w.heap.size < w1.heap.size := (by omega))); (try (have hy1_0_1 : w.heap.size + 1 < w1.heap.size := (by omega))); (try (have hy1_0_2 : w.heap.size + 2 < w1.heap.size := (by omega))); (try (have hy1_0_3 : w.heap.size + 3 < w1.heap.size := (by omega))))
      go_wp2_with fail; (go_at_call 19; refine (sscrubberTick_wait _ _ _ _ _ (by omega) (by omega) (by omega) (by omega) (by omega) (by omega) (by omega) (by omega) (by omega)).mono ?_; rintro e w2 ⟨rfl, hb2⟩; obtain ⟨hc2, hf2, hz2⟩ := bcell hb2; (try simp only [World.size_alloc] at hc2 hf2 hz2); (try simp only [size_setCell] at hc2 hf2 hz2); (try (have hy2_0_0 : w.heap.size < w2.heap.size := (by omega))); (try (have hy2_0_1 : w.heap.size + 1 < w2.heap.size := (by omega))); (try (have hy2_0_2 : w.heap.size + 2 < w2.heap.size := (by omega))); (try (have hy2_0_3 : w.heap.size + 3 < w2.heap.size := (by omega))); (try (have hy2_1_0 : w1.heap.size < w2.heap.size := (by omega))); (try (have hy2_1_1 : w1.heap.size + 1 < w2.heap.size := (by omega))); (try (have hy2_1_2 : w1.heap.size + 2 < w2.heap.size := (by omega))); (try (have hy2_1_3 : w1.heap.size + 3 < w2.heap.size := (by omega))))
      go_wp2_with fail; (go_at_call 20; refine (toScrubber_any _ _ _ _).mono ?_; rintro e w3 ⟨rfl, hb3⟩; obtain ⟨hc3, hf3, hz3⟩ := bcell hb3; (try simp only [World.size_alloc] at hc3 hf3 hz3); (try simp only [size_setCell] at hc3 hf3 hz3); (try (have hy3_0_0 : w.heap.size < w3.heap.size := (by omega))); (try (have hy3_0_1 : w.heap.size + 1 < w3.heap.size := (by omega))); (try (have hy3_0_2 : w.heap.size + 2 < w3.heap.size := (by omega))); (try (have hy3_0_3 : w.heap.size + 3 < w3.heap.size := (by omega))); (try (have hy3_1_0 : w1.heap.size < w3.heap.size := (by omega))); (try (have hy3_1_1 : w1.heap.size + 1 < w3.heap.size := (by omega))); (try (have hy3_1_2 : w1.heap.size + 2 < w3.heap.size := (by omega))); (try (have hy3_1_3 : w1.heap.size + 3 < w3.heap.size := (by omega))); (try (have hy3_2_0 : w2.heap.size < w3.heap.size := (by omega))); (try (have hy3_2_1 : w2.heap.size + 1 < w3.heap.size := (by omega))); (try (have hy3_2_2 : w2.heap.size + 2 < w3.heap.size := (by omega))); (try (have hy3_2_3 : w2.heap.size + 3 < w3.heap.size := (by omega))))
      go_wp2_with fail; (go_at_call 21; refine (scrubberTick_wait _ _ _ _ _ (by omega) (by omega) (by omega) (by omega) (by omega) (by omega) (by omega) (by omega) (by omega)).mono ?_; rintro e w4 ⟨rfl, hb4⟩; obtain ⟨hc4, hf4, hz4⟩ := bcell hb4; (try simp only [World.size_alloc] at hc4 hf4 hz4); (try simp only [size_setCell] at hc4 hf4 hz4); (try (have hy4_0_0 : w.heap.size < w4.heap.size := (by omega))); (try (have hy4_0_1 : w.heap.size + 1 < w4.heap.size := (by omega))); (try (have hy4_0_2 : w.heap.size + 2 < w4.heap.size := (by omega))); (try (have hy4_0_3 : w.heap.size + 3 < w4.heap.size := (by omega))); (try (have hy4_1_0 : w1.heap.size < w4.heap.size := (by omega))); (try (have hy4_1_1 : w1.heap.size + 1 < w4.heap.size := (by omega))); (try (have hy4_1_2 : w1.heap.size + 2 < w4.heap.size := (by omega))); (try (have hy4_1_3 : w1.heap.size + 3 < w4.heap.size := (by omega))); (try (have hy4_2_0 : w2.heap.size < w4.heap.size := (by omega))); (try (have hy4_2_1 : w2.heap.size + 1 < w4.heap.size := (by omega))); (try (have hy4_2_2 : w2.heap.size + 2 < w4.heap.size := (by omega))); (try (have hy4_2_3 : w2.heap.size + 3 < w4.heap.size := (by omega))); (try (have hy4_3_0 : w3.heap.size < w4.heap.size := (by omega))); (try (have hy4_3_1 : w3.heap.size + 1 < w4.heap.size := (by omega))); (try (have hy4_3_2 : w3.heap.size + 2 < w4.heap.size := (by omega))); (try (have hy4_3_3 : w3.heap.size + 3 < w4.heap.size := (by omega))))
      go_wp2_with fail; (go_at_call 18; refine (eqScrubber_same _ _ _ _).mono ?_; rintro e w5 ⟨rfl, hb5⟩; obtain ⟨hc5, hf5, hz5⟩ := bcell hb5; (try simp only [World.size_alloc] at hc5 hf5 hz5); (try simp only [size_setCell] at hc5 hf5 hz5); (try (have hy5_0_0 : w.heap.size < w5.heap.size := (by omega))); (try (have hy5_0_1 : w.heap.size + 1 < w5.heap.size := (by omega))); (try (have hy5_0_2 : w.heap.size + 2 < w5.heap.size := (by omega))); (try (have hy5_0_3 : w.heap.size + 3 < w5.heap.size := (by omega))); (try (have hy5_1_0 : w1.heap.size < w5.heap.size := (by omega))); (try (have hy5_1_1 : w1.heap.size + 1 < w5.heap.size := (by omega))); (try (have hy5_1_2 : w1.heap.size + 2 < w5.heap.size := (by omega))); (try (have hy5_1_3 : w1.heap.size + 3 < w5.heap.size := (by omega))); (try (have hy5_2_0 : w2.heap.size < w5.heap.size := (by omega))); (try (have hy5_2_1 : w2.heap.size + 1 < w5.heap.size := (by omega))); (try (have hy5_2_2 : w2.heap.size + 2 < w5.heap.size := (by omega))); (try (have hy5_2_3 : w2.heap.size + 3 < w5.heap.size := (by omega))); (try (have hy5_3_0 : w3.heap.size < w5.heap.size := (by omega))); (try (have hy5_3_1 : w3.heap.size + 1 < w5.heap.size := (by omega))); (try (have hy5_3_2 : w3.heap.size + 2 < w5.heap.size := (by omega))); (try (have hy5_3_3 : w3.heap.size + 3 < w5.heap.size := (by omega))); (try (have hy5_4_0 : w4.heap.size < w5.heap.size := (by omega))); (try (have hy5_4_1 : w4.heap.size + 1 < w5.heap.size := (by omega))); (try (have hy5_4_2 : w4.heap.size + 2 < w5.heap.size := (by omega))); (try (have hy5_4_3 : w4.heap.size + 3 < w5.heap.size := (by omega))))
      go_wp2
      go_ret
      exact ⟨rfl, (by repeat (first | exact Below.refl _ _ | exact belowNew _ _ | assumption | refine belowAlloc ?_ _ | refine belowDrew ?_ | refine belowDrewN ?_ _ | refine belowNext ?_ (by assumption)))⟩
    · have h9' : v = 1 := by omega
      subst h9'
      go_enter Try.func4, Try.ntmps4
      go_wp2_with fail; (go_at_call 20; refine (toScrubber_any _ _ _ _).mono ?_; rintro e w1 ⟨rfl, hb1⟩; obtain ⟨hc1, hf1, hz1⟩ := bcell hb1; (try simp only [World.size_alloc] at hc1 hf1 hz1); (try simp only [size_setCell] at hc1 hf1 hz1); (try (have hy1_0_0 : w.heap.size < w1.heap.size := (by omega))); (try (have hy1_0_1 : w.heap.size + 1 < w1.heap.size := (by omega))); (try (have hy1_0_2 : w.heap.size + 2 < w1.heap.size := (by omega))); (try (have hy1_0_3 : w.heap.size + 3 < w1.heap.size := (by omega))))
      go_wp2_with fail; (go_at_call 19; refine (sscrubberTick_turn _ _ _ _ _ (by omega) (by omega) (by omega) (by omega) (by omega) (by omega) (by omega) (by omega) (by omega)).mono ?_; rintro e w2 ⟨rfl, hb2⟩; obtain ⟨hc2, hf2, hz2⟩ := bcell hb2; (try simp only [World.size_alloc] at hc2 hf2 hz2); (try simp only [size_setCell] at hc2 hf2 hz2); (try (have hy2_0_0 : w.heap.size < w2.heap.size := (by omega))); (try (have hy2_0_1 : w.heap.size + 1 < w2.heap.size := (by omega))); (try (have hy2_0_2 : w.heap.size + 2 < w2.heap.size := (by omega))); (try (have hy2_0_3 : w.heap.size + 3 < w2.heap.size := (by omega))); (try (have hy2_1_0 : w1.heap.size < w2.heap.size := (by omega))); (try (have hy2_1_1 : w1.heap.size + 1 < w2.heap.size := (by omega))); (try (have hy2_1_2 : w1.heap.size + 2 < w2.heap.size := (by omega))); (try (have hy2_1_3 : w1.heap.size + 3 < w2.heap.size := (by omega))))
      go_wp2_with fail; (go_at_call 20; refine (toScrubber_any _ _ _ _).mono ?_; rintro e w3 ⟨rfl, hb3⟩; obtain ⟨hc3, hf3, hz3⟩ := bcell hb3; (try simp only [World.size_alloc] at hc3 hf3 hz3); (try simp only [size_setCell] at hc3 hf3 hz3); (try (have hy3_0_0 : w.heap.size < w3.heap.size := (by omega))); (try (have hy3_0_1 : w.heap.size + 1 < w3.heap.size := (by omega))); (try (have hy3_0_2 : w.heap.size + 2 < w3.heap.size := (by omega))); (try (have hy3_0_3 : w.heap.size + 3 < w3.heap.size := (by omega))); (try (have hy3_1_0 : w1.heap.size < w3.heap.size := (by omega))); (try (have hy3_1_1 : w1.heap.size + 1 < w3.heap.size := (by omega))); (try (have hy3_1_2 : w1.heap.size + 2 < w3.heap.size := (by omega))); (try (have hy3_1_3 : w1.heap.size + 3 < w3.heap.size := (by omega))); (try (have hy3_2_0 : w2.heap.size < w3.heap.size := (by omega))); (try (have hy3_2_1 : w2.heap.size + 1 < w3.heap.size := (by omega))); (try (have hy3_2_2 : w2.heap.size + 2 < w3.heap.size := (by omega))); (try (have hy3_2_3 : w2.heap.size + 3 < w3.heap.size := (by omega))))
      go_wp2_with fail; (go_at_call 21; refine (scrubberTick_turn _ _ _ _ _ (by omega) (by omega) (by omega) (by omega) (by omega) (by omega) (by omega) (by omega) (by omega)).mono ?_; rintro e w4 ⟨rfl, hb4⟩; obtain ⟨hc4, hf4, hz4⟩ := bcell hb4; (try simp only [World.size_alloc] at hc4 hf4 hz4); (try simp only [size_setCell] at hc4 hf4 hz4); (try (have hy4_0_0 : w.heap.size < w4.heap.size := (by omega))); (try (have hy4_0_1 : w.heap.size + 1 < w4.heap.size := (by omega))); (try (have hy4_0_2 : w.heap.size + 2 < w4.heap.size := (by omega))); (try (have hy4_0_3 : w.heap.size + 3 < w4.heap.size := (by omega))); (try (have hy4_1_0 : w1.heap.size < w4.heap.size := (by omega))); (try (have hy4_1_1 : w1.heap.size + 1 < w4.heap.size := (by omega))); (try (have hy4_1_2 : w1.heap.size + 2 < w4.heap.size := (by omega))); (try (have hy4_1_3 : w1.heap.size + 3 < w4.heap.size := (by omega))); (try (have hy4_2_0 : w2.heap.size < w4.heap.size := (by omega))); (try (have hy4_2_1 : w2.heap.size + 1 < w4.heap.size := (by omega))); (try (have hy4_2_2 : w2.heap.size + 2 < w4.heap.size := (by omega))); (try (have hy4_2_3 : w2.heap.size + 3 < w4.heap.size := (by omega))); (try (have hy4_3_0 : w3.heap.size < w4.heap.size := (by omega))); (try (have hy4_3_1 : w3.heap.size + 1 < w4.heap.size := (by omega))); (try (have hy4_3_2 : w3.heap.size + 2 < w4.heap.size := (by omega))); (try (have hy4_3_3 : w3.heap.size + 3 < w4.heap.size := (by omega))))
      go_wp2_with fail; (go_at_call 18; refine (eqScrubber_same _ _ _ _).mono ?_; rintro e w5 ⟨rfl, hb5⟩; obtain ⟨hc5, hf5, hz5⟩ := bcell hb5; (try simp only [World.size_alloc] at hc5 hf5 hz5); (try simp only [size_setCell] at hc5 hf5 hz5); (try (have hy5_0_0 : w.heap.size < w5.heap.size := (by omega))); (try (have hy5_0_1 : w.heap.size + 1 < w5.heap.size := (by omega))); (try (have hy5_0_2 : w.heap.size + 2 < w5.heap.size := (by omega))); (try (have hy5_0_3 : w.heap.size + 3 < w5.heap.size := (by omega))); (try (have hy5_1_0 : w1.heap.size < w5.heap.size := (by omega))); (try (have hy5_1_1 : w1.heap.size + 1 < w5.heap.size := (by omega))); (try (have hy5_1_2 : w1.heap.size + 2 < w5.heap.size := (by omega))); (try (have hy5_1_3 : w1.heap.size + 3 < w5.heap.size := (by omega))); (try (have hy5_2_0 : w2.heap.size < w5.heap.size := (by omega))); (try (have hy5_2_1 : w2.heap.size + 1 < w5.heap.size := (by omega))); (try (have hy5_2_2 : w2.heap.size + 2 < w5.heap.size := (by omega))); (try (have hy5_2_3 : w2.heap.size + 3 < w5.heap.size := (by omega))); (try (have hy5_3_0 : w3.heap.size < w5.heap.size := (by omega))); (try (have hy5_3_1 : w3.heap.size + 1 < w5.heap.size := (by omega))); (try (have hy5_3_2 : w3.heap.size + 2 < w5.heap.size := (by omega))); (try (have hy5_3_3 : w3.heap.size + 3 < w5.heap.size := (by omega))); (try (have hy5_4_0 : w4.heap.size < w5.heap.size := (by omega))); (try (have hy5_4_1 : w4.heap.size + 1 < w5.heap.size := (by omega))); (try (have hy5_4_2 : w4.heap.size + 2 < w5.heap.size := (by omega))); (try (have hy5_4_3 : w4.heap.size + 3 < w5.heap.size := (by omega))))
      go_wp2
      go_ret
      exact ⟨rfl, (by repeat (first | exact Below.refl _ _ | exact belowNew _ _ | assumption | refine belowAlloc ?_ _ | refine belowDrew ?_ | refine belowDrewN ?_ _ | refine belowNext ?_ (by assumption)))⟩
  · have h0' : (btw e 1 100000 && btw v 1 e && decide (1 ≤ l) && btw n 0 (l - 1)) = false := by simpa using h0
    have H := Lib.hid h0'
    clear h0 h0'
    go_enter Try.func4, Try.ntmps4
    go_wp2_with fail; (go_at_call 20; refine (toScrubber_any _ _ _ _).mono ?_; rintro e w1 ⟨rfl, hb1⟩; obtain ⟨hc1, hf1, hz1⟩ := bcell hb1; (try simp only [World.size_alloc] at hc1 hf1 hz1); (try simp only [size_setCell] at hc1 hf1 hz1); (try (have hy1_0_0 : w.heap.size < w1.heap.size := (by omega))); (try (have hy1_0_1 : w.heap.size + 1 < w1.heap.size := (by omega))); (try (have hy1_0_2 : w.heap.size + 2 < w1.heap.size := (by omega))); (try (have hy1_0_3 : w.heap.size + 3 < w1.heap.size := (by omega))))
    go_wp2_with fail; (go_at_call 19; refine (sscrubberTick_not _ _ _ _ _ hl1 hl2 H.out).mono ?_; rintro e w2 ⟨rfl, hb2⟩; obtain ⟨hc2, hf2, hz2⟩ := bcell hb2; (try simp only [World.size_alloc] at hc2 hf2 hz2); (try simp only [size_setCell] at hc2 hf2 hz2); (try (have hy2_0_0 : w.heap.size < w2.heap.size := (by omega))); (try (have hy2_0_1 : w.heap.size + 1 < w2.heap.size := (by omega))); (try (have hy2_0_2 : w.heap.size + 2 < w2.heap.size := (by omega))); (try (have hy2_0_3 : w.heap.size + 3 < w2.heap.size := (by omega))); (try (have hy2_1_0 : w1.heap.size < w2.heap.size := (by omega))); (try (have hy2_1_1 : w1.heap.size + 1 < w2.heap.size := (by omega))); (try (have hy2_1_2 : w1.heap.size + 2 < w2.heap.size := (by omega))); (try (have hy2_1_3 : w1.heap.size + 3 < w2.heap.size := (by omega))))
    go_wp2_with fail; (go_at_call 20; refine (toScrubber_any _ _ _ _).mono ?_; rintro e w3 ⟨rfl, hb3⟩; obtain ⟨hc3, hf3, hz3⟩ := bcell hb3; (try simp only [World.size_alloc] at hc3 hf3 hz3); (try simp only [size_setCell] at hc3 hf3 hz3); (try (have hy3_0_0 : w.heap.size < w3.heap.size := (by omega))); (try (have hy3_0_1 : w.heap.size + 1 < w3.heap.size := (by omega))); (try (have hy3_0_2 : w.heap.size + 2 < w3.heap.size := (by omega))); (try (have hy3_0_3 : w.heap.size + 3 < w3.heap.size := (by omega))); (try (have hy3_1_0 : w1.heap.size < w3.heap.size := (by omega))); (try (have hy3_1_1 : w1.heap.size + 1 < w3.heap.size := (by omega))); (try (have hy3_1_2 : w1.heap.size + 2 < w3.heap.size := (by omega))); (try (have hy3_1_3 : w1.heap.size + 3 < w3.heap.size := (by omega))); (try (have hy3_2_0 : w2.heap.size < w3.heap.size := (by omega))); (try (have hy3_2_1 : w2.heap.size + 1 < w3.heap.size := (by omega))); (try (have hy3_2_2 : w2.heap.size + 2 < w3.heap.size := (by omega))); (try (have hy3_2_3 : w2.heap.size + 3 < w3.heap.size := (by omega))))
    go_wp2_with fail; (go_at_call 21; refine (scrubberTick_not _ _ _ _ _ hl1 hl2 H.out).mono ?_; rintro e w4 ⟨rfl, hb4⟩; obtain ⟨hc4, hf4, hz4⟩ := bcell hb4; (try simp only [World.size_alloc] at hc4 hf4 hz4); (try simp only [size_setCell] at hc4 hf4 hz4); (try (have hy4_0_0 : w.heap.size < w4.heap.size := (by omega))); (try (have hy4_0_1 : w.heap.size + 1 < w4.heap.size := (by omega))); (try (have hy4_0_2 : w.heap.size + 2 < w4.heap.size := (by omega))); (try (have hy4_0_3 : w.heap.size + 3 < w4.heap.size := (by omega))); (try (have hy4_1_0 : w1.heap.size < w4.heap.size := (by omega))); (try (have hy4_1_1 : w1.heap.size + 1 < w4.heap.size := (by omega))); (try (have hy4_1_2 : w1.heap.size + 2 < w4.heap.size := (by omega))); (try (have hy4_1_3 : w1.heap.size + 3 < w4.heap.size := (by omega))); (try (have hy4_2_0 : w2.heap.size < w4.heap.size := (by omega))); (try (have hy4_2_1 : w2.heap.size + 1 < w4.heap.size := (by omega))); (try (have hy4_2_2 : w2.heap.size + 2 < w4.heap.size := (by omega))); (try (have hy4_2_3 : w2.heap.size + 3 < w4.heap.size := (by omega))); (try (have hy4_3_0 : w3.heap.size < w4.heap.size := (by omega))); (try (have hy4_3_1 : w3.heap.size + 1 < w4.heap.size := (by omega))); (try (have hy4_3_2 : w3.heap.size + 2 < w4.heap.size := (by omega))); (try (have hy4_3_3 : w3.heap.size + 3 < w4.heap.size := (by omega))))
    go_wp2_with fail; (go_at_call 18; refine (eqScrubber_same _ _ _ _).mono ?_; rintro e w5 ⟨rfl, hb5⟩; obtain ⟨hc5, hf5, hz5⟩ := bcell hb5; (try simp only [World.size_alloc] at hc5 hf5 hz5); (try simp only [size_setCell] at hc5 hf5 hz5); (try (have hy5_0_0 : w.heap.size < w5.heap.size := (by omega))); (try (have hy5_0_1 : w.heap.size + 1 < w5.heap.size := (by omega))); (try (have hy5_0_2 : w.heap.size + 2 < w5.heap.size := (by omega))); (try (have hy5_0_3 : w.heap.size + 3 < w5.heap.size := (by omega))); (try (have hy5_1_0 : w1.heap.size < w5.heap.size := (by omega))); (try (have hy5_1_1 : w1.heap.size + 1 < w5.heap.size := (by omega))); (try (have hy5_1_2 : w1.heap.size + 2 < w5.heap.size := (by omega))); (try (have hy5_1_3 : w1.heap.size + 3 < w5.heap.size := (by omega))); (try (have hy5_2_0 : w2.heap.size < w5.heap.size := (by omega))); (try (have hy5_2_1 : w2.heap.size + 1 < w5.heap.size := (by omega))); (try (have hy5_2_2 : w2.heap.size + 2 < w5.heap.size := (by omega))); (try (have hy5_2_3 : w2.heap.size + 3 < w5.heap.size := (by omega))); (try (have hy5_3_0 : w3.heap.size < w5.heap.size := (by omega))); (try (have hy5_3_1 : w3.heap.size + 1 < w5.heap.size := (by omega))); (try (have hy5_3_2 : w3.heap.size + 2 < w5.heap.size := (by omega))); (try (have hy5_3_3 : w3.heap.size + 3 < w5.heap.size := (by omega))); (try (have hy5_4_0 : w4.heap.size < w5.heap.size := (by omega))); (try (have hy5_4_1 : w4.heap.size + 1 < w5.heap.size := (by omega))); (try (have hy5_4_2 : w4.heap.size + 2 < w5.heap.size := (by omega))); (try (have hy5_4_3 : w4.heap.size + 3 < w5.heap.size := (by omega))))
    go_wp2
    go_ret
    exact ⟨rfl, (by repeat (first | exact Below.refl _ _ | exact belowNew _ _ | assumption | refine belowAlloc ?_ _ | refine belowDrew ?_ | refine belowDrewN ?_ _ | refine belowNext ?_ (by assumption)))⟩
end Go.Proofs.Ytlkklplnomecgaa
