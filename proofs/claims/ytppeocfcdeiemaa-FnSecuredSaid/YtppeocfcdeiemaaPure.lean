/-
  Walks of the pure word functions, each once: what the Go text computes.
-/
import Derived.Test.YtppeocfcdeiemaaBtw
namespace Go.Proofs.Ytppeocfcdeiemaa
set_option linter.unusedVariables false
set_option linter.unusedSimpArgs false
open Go.RowKit

theorem isWord_any (x : Int) (w : World) (b : Bool) (hb : isW x = b) :
    Calls Try.prog 29 #[.int .i64 x] w fun e w' => e = .returned (.bool b) ∧ w = w' := by
  have H := Lib.hid hb
  clear hb
  go_enter Try.func29, Try.ntmps29
  go_wp2_with (go_at_call 33; refine (between_any _ _ _ _ b H.out).mono ?_; rintro e w' ⟨rfl, rfl⟩)
  go_ret
  exact ⟨rfl, rfl⟩

theorem sIsWord_any (x : Int) (w : World) (b : Bool) (hb : isW x = b) :
    Calls Try.prog 34 #[.int .i64 x] w fun e w' => e = .returned (.bool b) ∧ w = w' := by
  have H := Lib.hid hb
  clear hb
  go_enter Try.func34, Try.ntmps34
  go_wp2_with (go_at_call 39; refine (l01In_any _ _ _ _ b H.out).mono ?_; rintro e w' ⟨rfl, rfl⟩)
  go_ret
  exact ⟨rfl, rfl⟩

theorem mix_any (x : Int) (w : World) :
    Calls Try.prog 59 #[.int .i64 x] w fun e w' => e = .returned (.int .i64 (mix x)) ∧ w = w' := by
  by_cases h : isW x = true
  · obtain ⟨n, hn, rfl⟩ := isW_of h
    have H := Lib.hid h
    have Hm := Lib.hid (mix_nat hn)
    have Hs := Lib.hid (MixAt.start hn)
    clear h hn
    go_enter Try.func59, Try.ntmps59
    go_wp2_with (go_at_call 29; refine (isWord_any _ _ true H.out).mono ?_; rintro e w' ⟨rfl, rfl⟩)
    go_loop [0, 3] (fun x k => ∃ (i y : Nat), i ≤ 2 ∧ k = .int .i64 i ∧ x = .int .i64 y ∧ MixAt n i y) (fun _ k => 2 - (intOf k).toNat)
    case atStart => exact ⟨0, n, by omega, rfl, rfl, Hs.out⟩
    case round =>
      obtain ⟨i, y, hi, rfl, rfl, hm⟩ := hrel
      have B1 := Lib.hid (mix_end y hm.1)
      have B2 := Lib.hid (mix_round y hm.1)
      by_cases hlt : i < 2
      · go_wp2
        go_round
        case rel => exact ⟨i + 1, mulC (xs16 y), by omega, by go_num, by rw [B2.out], hm.step hlt⟩
        case measure => simp [intOf]; omega
      · go_wp2
        go_ret
        exact ⟨by rw [Hm.out, hm.fin hlt, ← B1.out]; rfl, rfl⟩
  · have H := Lib.hid (show isW x = false by simpa using h)
    have Hm := Lib.hid (mix_not H.out)
    clear h
    go_enter Try.func59, Try.ntmps59
    go_wp2_with (go_at_call 29; refine (isWord_any _ _ false H.out).mono ?_; rintro e w' ⟨rfl, rfl⟩)
    go_ret
    exact ⟨by rw [Hm.out]; rfl, rfl⟩

theorem sMix_any (x : Int) (w : World) :
    Calls Try.prog 63 #[.int .i64 x] w fun e w' => e = .returned (.int .i64 (mix x)) ∧ w = w' := by
  by_cases h : isW x = true
  · obtain ⟨n, hn, rfl⟩ := isW_of h
    have H := Lib.hid h
    have Hm := Lib.hid (mix_nat hn)
    have Hs := Lib.hid (MixAt.start hn)
    clear h hn
    go_enter Try.func63, Try.ntmps63
    go_wp2_with (go_at_call 34; refine (sIsWord_any _ _ true H.out).mono ?_; rintro e w' ⟨rfl, rfl⟩)
    go_loop [0, 3] (fun x k => ∃ (i y : Nat), i ≤ 2 ∧ k = .int .i64 i ∧ x = .int .i64 y ∧ MixAt n i y) (fun _ k => 2 - (intOf k).toNat)
    case atStart => exact ⟨0, n, by omega, rfl, rfl, Hs.out⟩
    case round =>
      obtain ⟨i, y, hi, rfl, rfl, hm⟩ := hrel
      have B1 := Lib.hid (mix_end y hm.1)
      have B2 := Lib.hid (mix_round y hm.1)
      by_cases hlt : i < 2
      · go_wp2
        go_round
        case rel => exact ⟨i + 1, mulC (xs16 y), by omega, by go_num, by rw [B2.out], hm.step hlt⟩
        case measure => simp [intOf]; omega
      · go_wp2
        go_ret
        exact ⟨by rw [Hm.out, hm.fin hlt, ← B1.out]; rfl, rfl⟩
  · have H := Lib.hid (show isW x = false by simpa using h)
    have Hm := Lib.hid (mix_not H.out)
    clear h
    go_enter Try.func63, Try.ntmps63
    go_wp2_with (go_at_call 34; refine (sIsWord_any _ _ false H.out).mono ?_; rintro e w' ⟨rfl, rfl⟩)
    go_ret
    exact ⟨by rw [Hm.out]; rfl, rfl⟩

theorem sKeyed_any (k a b : Int) (w : World) :
    Calls Try.prog 62 #[.int .i64 k, .int .i64 a, .int .i64 b] w fun e w' => e = .returned (.int .i64 (keyed k a b)) ∧ w = w' := by
  go_enter Try.func62, Try.ntmps62
  go_wp2_with (first | (go_at_call 34; refine (sIsWord_any _ _ _ rfl).mono ?_; rintro e w' ⟨rfl, rfl⟩) | (go_at_call 63; refine (sMix_any _ _).mono ?_; rintro e w' ⟨rfl, rfl⟩))
  all_goals
    go_ret
    refine ⟨?_, rfl⟩
    go_light
    simp_all [keyed, okW3]
theorem l29Words_any (k l c x : Int) (w : World) :
    Calls Try.prog 61 #[.int .i64 k, .int .i64 l, .int .i64 c, .int .i64 x] w fun e w' => e = .returned (.bool (okW4 k l c x)) ∧ w = w' := by
  go_enter Try.func61, Try.ntmps61
  go_wp2_with (first | (go_at_call 34; refine (sIsWord_any _ _ _ rfl).mono ?_; rintro e w' ⟨rfl, rfl⟩))
  all_goals
    go_ret
    refine ⟨?_, rfl⟩
    go_light
    simp_all [okW4]
theorem sSealWord_any (k l c x : Int) (w : World) :
    Calls Try.prog 50 #[.int .i64 k, .int .i64 l, .int .i64 c, .int .i64 x] w fun e w' => e = .returned (.int .i64 (sealW k l c x)) ∧ w = w' := by
  go_enter Try.func50, Try.ntmps50
  go_wp2_with (first | (go_at_call 61; refine (l29Words_any _ _ _ _ _).mono ?_; rintro e w' ⟨rfl, rfl⟩) | (go_at_call 62; refine (sKeyed_any _ _ _ _).mono ?_; rintro e w' ⟨rfl, rfl⟩))
  all_goals
    go_ret
    refine ⟨?_, rfl⟩
    go_light
    simp_all [sealW]
theorem sOpenWord_any (k l c x : Int) (w : World) :
    Calls Try.prog 54 #[.int .i64 k, .int .i64 l, .int .i64 c, .int .i64 x] w fun e w' => e = .returned (.int .i64 (sealW k l c x)) ∧ w = w' := by
  go_enter Try.func54, Try.ntmps54
  go_wp2_with (first | (go_at_call 50; refine (sSealWord_any _ _ _ _ _).mono ?_; rintro e w' ⟨rfl, rfl⟩))
  go_ret
  exact ⟨rfl, rfl⟩
theorem sTagOf_any (k l c x : Int) (w : World) :
    Calls Try.prog 51 #[.int .i64 k, .int .i64 l, .int .i64 c, .int .i64 x] w fun e w' => e = .returned (.int .i64 (tagW k l c x)) ∧ w = w' := by
  go_enter Try.func51, Try.ntmps51
  go_wp2_with (first | (go_at_call 61; refine (l29Words_any _ _ _ _ _).mono ?_; rintro e w' ⟨rfl, rfl⟩) | (go_at_call 62; refine (sKeyed_any _ _ _ _).mono ?_; rintro e w' ⟨rfl, rfl⟩) | (go_at_call 63; refine (sMix_any _ _).mono ?_; rintro e w' ⟨rfl, rfl⟩))
  all_goals
    go_ret
    refine ⟨?_, rfl⟩
    go_light
    simp_all [tagW]

theorem areWords_any (b n : Nat) (xs : List Int) (w : World) (hn : n ≤ 1000) (hl : xs.length = n) (hc : ∀ j, j < n → w.cell? ⟨b, j, none⟩ = some (.int .i64 (xs.getD j 0))) :
    Calls Try.prog 44 #[.slice (some ⟨b, 0, none⟩) n n] w fun e w' => e = .returned (.bool (xs.all isW)) ∧ w = w' := by
  have Hl := Lib.hid hl
  have Hc := Lib.hid hc
  clear hl hc
  go_enter Try.func44, Try.ntmps44
  go_wp2
  go_loop [7] (fun i => ∃ k : Nat, k ≤ n ∧ i = .int .i64 k ∧ (xs.take k).all isW = true) (fun i => n - (intOf i).toNat)
  case atStart => exact ⟨0, by omega, rfl, by simp⟩
  case round =>
    obtain ⟨k, hk, rfl, ha⟩ := hrel
    have Ha := Lib.hid ha
    clear ha
    by_cases hlt : k < n
    · have hx := Hc.out k hlt
      obtain ⟨x, hxx⟩ : ∃ x, x = xs.getD k 0 := ⟨_, rfl⟩
      rw [← hxx] at hx
      have Hx := Lib.hid hxx
      clear hxx
      by_cases hw : isW x = true
      · have Hs := Lib.hid (all_step Ha.out (by rw [Hl.out]; exact hlt) Hx.out hw)
        go_wp2_with (first | (go_at_call 29; refine (isWord_any _ _ _ rfl).mono ?_; rintro e w' ⟨rfl, rfl⟩))
        go_round
        case rel => exact ⟨k + 1, by omega, by go_num, Hs.out⟩
        case measure => simp [intOf]; omega
      · have hw' : isW x = false := by simpa using hw
        clear hw
        have Hs := Lib.hid (all_stop (p := isW) (by rw [Hl.out]; exact hlt) Hx.out hw')
        go_wp2_with (first | (go_at_call 29; refine (isWord_any _ _ _ rfl).mono ?_; rintro e w' ⟨rfl, rfl⟩))
        go_ret
        exact ⟨by rw [Hs.out]; rfl, rfl⟩
    · have Hs := Lib.hid (all_end Ha.out (by rw [Hl.out]; omega))
      go_wp2
      go_ret
      exact ⟨by rw [Hs.out]; rfl, rfl⟩

theorem areWords2 (a b : Int) (w : World) (t : TypeId) :
    Calls Try.prog 44 #[.slice (some ⟨w.heap.size, 0, none⟩) 2 2] (w.alloc (.cells #[.int .i64 a, .int .i64 b] t)) fun e w' => e = .returned (.bool (okW2 a b)) ∧ w.alloc (.cells #[.int .i64 a, .int .i64 b] t) = w' := by
  refine (areWords_any w.heap.size 2 [a, b] _ (by omega) rfl ?_).mono ?_
  · intro j hj
    have : j = 0 ∨ j = 1 := by omega
    rw [cell_new]
    rcases this with rfl | rfl <;> rfl
  · rintro e w' ⟨rfl, rfl⟩
    refine ⟨?_, rfl⟩
    simp [List.all, okW2]
theorem areWords3 (a b c : Int) (w : World) (t : TypeId) :
    Calls Try.prog 44 #[.slice (some ⟨w.heap.size, 0, none⟩) 3 3] (w.alloc (.cells #[.int .i64 a, .int .i64 b, .int .i64 c] t)) fun e w' => e = .returned (.bool (okW3 a b c)) ∧ w.alloc (.cells #[.int .i64 a, .int .i64 b, .int .i64 c] t) = w' := by
  refine (areWords_any w.heap.size 3 [a, b, c] _ (by omega) rfl ?_).mono ?_
  · intro j hj
    have : j = 0 ∨ j = 1 ∨ j = 2 := by omega
    rw [cell_new]
    rcases this with rfl | rfl | rfl <;> rfl
  · rintro e w' ⟨rfl, rfl⟩
    refine ⟨?_, rfl⟩
    simp [List.all, okW3, Bool.and_assoc]
theorem areWords4 (a b c d : Int) (w : World) (t : TypeId) :
    Calls Try.prog 44 #[.slice (some ⟨w.heap.size, 0, none⟩) 4 4] (w.alloc (.cells #[.int .i64 a, .int .i64 b, .int .i64 c, .int .i64 d] t)) fun e w' => e = .returned (.bool (okW4 a b c d)) ∧ w.alloc (.cells #[.int .i64 a, .int .i64 b, .int .i64 c, .int .i64 d] t) = w' := by
  refine (areWords_any w.heap.size 4 [a, b, c, d] _ (by omega) rfl ?_).mono ?_
  · intro j hj
    have : j = 0 ∨ j = 1 ∨ j = 2 ∨ j = 3 := by omega
    rw [cell_new]
    rcases this with rfl | rfl | rfl | rfl <;> rfl
  · rintro e w' ⟨rfl, rfl⟩
    refine ⟨?_, rfl⟩
    simp [List.all, okW4, Bool.and_assoc]

theorem keyed_any (k a b : Int) (w : World) :
    Calls Try.prog 58 #[.int .i64 k, .int .i64 a, .int .i64 b] w fun e w' => e = .returned (.int .i64 (keyed k a b)) ∧ Below w.heap.size w w' := by
  go_enter Try.func58, Try.ntmps58
  go_wp2_with (first | (go_at_call 44; refine (areWords3 _ _ _ _ _).mono ?_; rintro e w' ⟨rfl, rfl⟩) | (go_at_call 59; refine (mix_any _ _).mono ?_; rintro e w' ⟨rfl, rfl⟩))
  all_goals
    go_ret
    refine ⟨?_, belowNew _ _⟩
    go_light
    simp_all [keyed]
theorem sealWord_any (k l c x : Int) (w : World) :
    Calls Try.prog 60 #[.int .i64 k, .int .i64 l, .int .i64 c, .int .i64 x] w fun e w' => e = .returned (.int .i64 (sealW k l c x)) ∧ Below w.heap.size w w' := by
  go_enter Try.func60, Try.ntmps60
  go_wp2_with (first | (go_at_call 44; refine (areWords4 _ _ _ _ _ _).mono ?_; rintro e w' ⟨rfl, rfl⟩) | (go_at_call 58; refine (keyed_any _ _ _ _).mono ?_; rintro e w' ⟨rfl, hb⟩))
  all_goals
    go_ret
    refine ⟨?_, ?_⟩
    · go_light
      simp_all [sealW]
    · first | exact belowNew _ _ | exact belowNext (belowNew _ _) (by assumption)
theorem openWord_any (k l c x : Int) (w : World) :
    Calls Try.prog 47 #[.int .i64 k, .int .i64 l, .int .i64 c, .int .i64 x] w fun e w' => e = .returned (.int .i64 (sealW k l c x)) ∧ Below w.heap.size w w' := by
  go_enter Try.func47, Try.ntmps47
  go_wp2_with (first | (go_at_call 60; refine (sealWord_any _ _ _ _ _).mono ?_; rintro e w' ⟨rfl, hb⟩))
  go_ret
  exact ⟨rfl, hb⟩
theorem tagOf_any (k l c x : Int) (w : World) :
    Calls Try.prog 46 #[.int .i64 k, .int .i64 l, .int .i64 c, .int .i64 x] w fun e w' => e = .returned (.int .i64 (tagW k l c x)) ∧ Below w.heap.size w w' := by
  go_enter Try.func46, Try.ntmps46
  go_wp2_with (first | (go_at_call 44; refine (areWords4 _ _ _ _ _ _).mono ?_; rintro e w' ⟨rfl, rfl⟩) | (go_at_call 58; refine (keyed_any _ _ _ _).mono ?_; rintro e w' ⟨rfl, hb⟩) | (go_at_call 59; refine (mix_any _ _).mono ?_; rintro e w' ⟨rfl, rfl⟩))
  all_goals
    go_ret
    refine ⟨?_, ?_⟩
    · go_light
      simp_all [tagW]
    · first | exact belowNew _ _ | exact belowNext (belowNext (belowNew _ _) (by assumption)) (by assumption)
end Go.Proofs.Ytppeocfcdeiemaa
