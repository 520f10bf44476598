/-
  Is an address one of the geometry's?
-/
import Derived.Test.YtlkklplnomecgaaGeo
namespace Go.Proofs.Ytlkklplnomecgaa
open Go.RowKit

set_option maxHeartbeats 2000000 in
theorem addrOk_geo (gr bk rw cl b r c : Int) (w : World) (hg : geoB gr bk rw cl = false) :
    Calls Try.prog 96 #[.agg #[.int .i64 gr, .int .i64 bk, .int .i64 rw, .int .i64 cl], .agg #[.int .i64 b, .int .i64 r, .int .i64 c]] w fun e w' => e = .returned (.bool (addrB gr bk rw cl b r c)) ∧ Below w.heap.size w w' := by
  have hr := Lib.hid (show addrB gr bk rw cl b r c = false by simp [addrB, hg])
  go_enter Try.func96, Try.ntmps96
  go_wp2_with fail
  refine wp_region_ext7 ⟨w.heap.size, 0, none⟩ ⟨w.heap.size, 1, none⟩ ⟨w.heap.size, 2, none⟩ ⟨w.heap.size, 3, none⟩ ⟨w.heap.size + 1, 0, none⟩ ⟨w.heap.size + 1, 1, none⟩ ⟨w.heap.size + 1, 2, none⟩ (.int .i64 gr) (.int .i64 bk) (.int .i64 rw) (.int .i64 cl) (.int .i64 b) (.int .i64 r) (.int .i64 c) (by kernel_rfl) (by kernel_rfl) (by first | assumption | (simp [go_sem]; done) | (simp; done)) (by first | assumption | (simp [go_sem]; done) | (simp; done)) (by first | assumption | (simp [go_sem]; done) | (simp; done)) (by first | assumption | (simp [go_sem]; done) | (simp; done)) (by first | assumption | (simp [go_sem]; done) | (simp; done)) (by first | assumption | (simp [go_sem]; done) | (simp; done)) (by first | assumption | (simp [go_sem]; done) | (simp; done)) ?_
  intro r1_0 r1_1 r1_2 r1_3 r1_4 r1_5 r1_6
  repeat (go_big_quiet_step ((first | (go_at_call 101; exact ext_call (bankCount_any _ _ _ _ _)) | (go_at_call 85; exact ext_call (geometryOk_b _ _ _ _ _ false hg)))))
  refine wpQuiet_nil ?_
  intro w1 hq1
  have hb1 := ext_below hq1
  clear hq1
  have d1_0 : w1.cell? ⟨w.heap.size, 0, none⟩ = some (.int .i64 gr) := r1_0 ⟨w1, hb1⟩
  have d1_1 : w1.cell? ⟨w.heap.size, 1, none⟩ = some (.int .i64 bk) := r1_1 ⟨w1, hb1⟩
  have d1_2 : w1.cell? ⟨w.heap.size, 2, none⟩ = some (.int .i64 rw) := r1_2 ⟨w1, hb1⟩
  have d1_3 : w1.cell? ⟨w.heap.size, 3, none⟩ = some (.int .i64 cl) := r1_3 ⟨w1, hb1⟩
  have d1_4 : w1.cell? ⟨w.heap.size + 1, 0, none⟩ = some (.int .i64 b) := r1_4 ⟨w1, hb1⟩
  have d1_5 : w1.cell? ⟨w.heap.size + 1, 1, none⟩ = some (.int .i64 r) := r1_5 ⟨w1, hb1⟩
  have d1_6 : w1.cell? ⟨w.heap.size + 1, 2, none⟩ = some (.int .i64 c) := r1_6 ⟨w1, hb1⟩
  clear r1_0 r1_1 r1_2 r1_3 r1_4 r1_5 r1_6
  go_wp2_with fail
  go_ret
  exact ⟨by rw [hr.out]; rfl, (by repeat (first | exact Below.refl _ _ | exact belowNew _ _ | assumption | refine belowAlloc ?_ _ | refine belowDrew ?_ | refine belowDrewN ?_ _ | refine belowSet ?_ (by omega) _ | refine belowNext ?_ (by assumption)))⟩

set_option maxHeartbeats 2000000 in
theorem addrOk_b (gr bk rw cl b r c : Int) (w : World) (hg : geoB gr bk rw cl = true) (b1 : btw b 0 (gr * bk - 1) = false) :
    Calls Try.prog 96 #[.agg #[.int .i64 gr, .int .i64 bk, .int .i64 rw, .int .i64 cl], .agg #[.int .i64 b, .int .i64 r, .int .i64 c]] w fun e w' => e = .returned (.bool (addrB gr bk rw cl b r c)) ∧ Below w.heap.size w w' := by
  obtain ⟨h1, h2, h3, h4⟩ := geoB_true hg
  have hm := bank_mul h1 h2
  have hn : bankN gr bk rw cl = gr * bk := by unfold bankN; rw [if_pos hg]
  have e1 : IntKind.i64.wrap (bankN gr bk rw cl - 1) = gr * bk - 1 := by rw [hn]; exact IntWalk.i64_in _ (by omega)
  have e2 : IntKind.i64.wrap (rw - 1) = rw - 1 := IntWalk.i64_in _ (by omega)
  have e3 : IntKind.i64.wrap (cl - 1) = cl - 1 := IntWalk.i64_in _ (by omega)
  have hr := Lib.hid (show addrB gr bk rw cl b r c = false by simp [addrB, b1])
  clear hn h1 h2 h3 h4 hm
  go_enter Try.func96, Try.ntmps96
  go_wp2_with fail
  refine wp_region_ext7 ⟨w.heap.size, 0, none⟩ ⟨w.heap.size, 1, none⟩ ⟨w.heap.size, 2, none⟩ ⟨w.heap.size, 3, none⟩ ⟨w.heap.size + 1, 0, none⟩ ⟨w.heap.size + 1, 1, none⟩ ⟨w.heap.size + 1, 2, none⟩ (.int .i64 gr) (.int .i64 bk) (.int .i64 rw) (.int .i64 cl) (.int .i64 b) (.int .i64 r) (.int .i64 c) (by kernel_rfl) (by kernel_rfl) (by first | assumption | (simp [go_sem]; done) | (simp; done)) (by first | assumption | (simp [go_sem]; done) | (simp; done)) (by first | assumption | (simp [go_sem]; done) | (simp; done)) (by first | assumption | (simp [go_sem]; done) | (simp; done)) (by first | assumption | (simp [go_sem]; done) | (simp; done)) (by first | assumption | (simp [go_sem]; done) | (simp; done)) (by first | assumption | (simp [go_sem]; done) | (simp; done)) ?_
  intro r1_0 r1_1 r1_2 r1_3 r1_4 r1_5 r1_6
  repeat (go_big_quiet_step ((first | (go_at_call 101; exact ext_call (bankCount_any _ _ _ _ _)) | (go_at_call 85; exact ext_call (geometryOk_b _ _ _ _ _ true hg)) | (go_at_call 60; with_reducible exact ext_same (between_any _ _ _ _ false b1)))))
  refine wpQuiet_nil ?_
  intro w1 hq1
  have hb1 := ext_below hq1
  clear hq1
  have d1_0 : w1.cell? ⟨w.heap.size, 0, none⟩ = some (.int .i64 gr) := r1_0 ⟨w1, hb1⟩
  have d1_1 : w1.cell? ⟨w.heap.size, 1, none⟩ = some (.int .i64 bk) := r1_1 ⟨w1, hb1⟩
  have d1_2 : w1.cell? ⟨w.heap.size, 2, none⟩ = some (.int .i64 rw) := r1_2 ⟨w1, hb1⟩
  have d1_3 : w1.cell? ⟨w.heap.size, 3, none⟩ = some (.int .i64 cl) := r1_3 ⟨w1, hb1⟩
  have d1_4 : w1.cell? ⟨w.heap.size + 1, 0, none⟩ = some (.int .i64 b) := r1_4 ⟨w1, hb1⟩
  have d1_5 : w1.cell? ⟨w.heap.size + 1, 1, none⟩ = some (.int .i64 r) := r1_5 ⟨w1, hb1⟩
  have d1_6 : w1.cell? ⟨w.heap.size + 1, 2, none⟩ = some (.int .i64 c) := r1_6 ⟨w1, hb1⟩
  clear r1_0 r1_1 r1_2 r1_3 r1_4 r1_5 r1_6
  go_wp2_with fail
  go_ret
  exact ⟨by rw [hr.out]; rfl, (by repeat (first | exact Below.refl _ _ | exact belowNew _ _ | assumption | refine belowAlloc ?_ _ | refine belowDrew ?_ | refine belowDrewN ?_ _ | refine belowSet ?_ (by omega) _ | refine belowNext ?_ (by assumption)))⟩

set_option maxHeartbeats 2000000 in
theorem addrOk_r (gr bk rw cl b r c : Int) (w : World) (hg : geoB gr bk rw cl = true) (b1 : btw b 0 (gr * bk - 1) = true) (b2 : btw r 0 (rw - 1) = false) :
    Calls Try.prog 96 #[.agg #[.int .i64 gr, .int .i64 bk, .int .i64 rw, .int .i64 cl], .agg #[.int .i64 b, .int .i64 r, .int .i64 c]] w fun e w' => e = .returned (.bool (addrB gr bk rw cl b r c)) ∧ Below w.heap.size w w' := by
  obtain ⟨h1, h2, h3, h4⟩ := geoB_true hg
  have hm := bank_mul h1 h2
  have hn : bankN gr bk rw cl = gr * bk := by unfold bankN; rw [if_pos hg]
  have e1 : IntKind.i64.wrap (bankN gr bk rw cl - 1) = gr * bk - 1 := by rw [hn]; exact IntWalk.i64_in _ (by omega)
  have e2 : IntKind.i64.wrap (rw - 1) = rw - 1 := IntWalk.i64_in _ (by omega)
  have e3 : IntKind.i64.wrap (cl - 1) = cl - 1 := IntWalk.i64_in _ (by omega)
  have hr := Lib.hid (show addrB gr bk rw cl b r c = false by simp [addrB, b2])
  clear hn h1 h2 h3 h4 hm
  go_enter Try.func96, Try.ntmps96
  go_wp2_with fail
  refine wp_region_ext7 ⟨w.heap.size, 0, none⟩ ⟨w.heap.size, 1, none⟩ ⟨w.heap.size, 2, none⟩ ⟨w.heap.size, 3, none⟩ ⟨w.heap.size + 1, 0, none⟩ ⟨w.heap.size + 1, 1, none⟩ ⟨w.heap.size + 1, 2, none⟩ (.int .i64 gr) (.int .i64 bk) (.int .i64 rw) (.int .i64 cl) (.int .i64 b) (.int .i64 r) (.int .i64 c) (by kernel_rfl) (by kernel_rfl) (by first | assumption | (simp [go_sem]; done) | (simp; done)) (by first | assumption | (simp [go_sem]; done) | (simp; done)) (by first | assumption | (simp [go_sem]; done) | (simp; done)) (by first | assumption | (simp [go_sem]; done) | (simp; done)) (by first | assumption | (simp [go_sem]; done) | (simp; done)) (by first | assumption | (simp [go_sem]; done) | (simp; done)) (by first | assumption | (simp [go_sem]; done) | (simp; done)) ?_
  intro r1_0 r1_1 r1_2 r1_3 r1_4 r1_5 r1_6
  repeat (go_big_quiet_step ((first | (go_at_call 101; exact ext_call (bankCount_any _ _ _ _ _)) | (go_at_call 85; exact ext_call (geometryOk_b _ _ _ _ _ true hg)) | (go_at_call 60; with_reducible exact ext_same (between_any _ _ _ _ true b1)) | (go_at_call 60; with_reducible exact ext_same (between_any _ _ _ _ false b2)))))
  refine wpQuiet_nil ?_
  intro w1 hq1
  have hb1 := ext_below hq1
  clear hq1
  have d1_0 : w1.cell? ⟨w.heap.size, 0, none⟩ = some (.int .i64 gr) := r1_0 ⟨w1, hb1⟩
  have d1_1 : w1.cell? ⟨w.heap.size, 1, none⟩ = some (.int .i64 bk) := r1_1 ⟨w1, hb1⟩
  have d1_2 : w1.cell? ⟨w.heap.size, 2, none⟩ = some (.int .i64 rw) := r1_2 ⟨w1, hb1⟩
  have d1_3 : w1.cell? ⟨w.heap.size, 3, none⟩ = some (.int .i64 cl) := r1_3 ⟨w1, hb1⟩
  have d1_4 : w1.cell? ⟨w.heap.size + 1, 0, none⟩ = some (.int .i64 b) := r1_4 ⟨w1, hb1⟩
  have d1_5 : w1.cell? ⟨w.heap.size + 1, 1, none⟩ = some (.int .i64 r) := r1_5 ⟨w1, hb1⟩
  have d1_6 : w1.cell? ⟨w.heap.size + 1, 2, none⟩ = some (.int .i64 c) := r1_6 ⟨w1, hb1⟩
  clear r1_0 r1_1 r1_2 r1_3 r1_4 r1_5 r1_6
  go_wp2_with fail
  go_ret
  exact ⟨by rw [hr.out]; rfl, (by repeat (first | exact Below.refl _ _ | exact belowNew _ _ | assumption | refine belowAlloc ?_ _ | refine belowDrew ?_ | refine belowDrewN ?_ _ | refine belowSet ?_ (by omega) _ | refine belowNext ?_ (by assumption)))⟩

set_option maxHeartbeats 2000000 in
theorem addrOk_c (gr bk rw cl b r c : Int) (w : World) (hg : geoB gr bk rw cl = true) (b1 : btw b 0 (gr * bk - 1) = true) (b2 : btw r 0 (rw - 1) = true) :
    Calls Try.prog 96 #[.agg #[.int .i64 gr, .int .i64 bk, .int .i64 rw, .int .i64 cl], .agg #[.int .i64 b, .int .i64 r, .int .i64 c]] w fun e w' => e = .returned (.bool (addrB gr bk rw cl b r c)) ∧ Below w.heap.size w w' := by
  obtain ⟨h1, h2, h3, h4⟩ := geoB_true hg
  have hm := bank_mul h1 h2
  have hn : bankN gr bk rw cl = gr * bk := by unfold bankN; rw [if_pos hg]
  have e1 : IntKind.i64.wrap (bankN gr bk rw cl - 1) = gr * bk - 1 := by rw [hn]; exact IntWalk.i64_in _ (by omega)
  have e2 : IntKind.i64.wrap (rw - 1) = rw - 1 := IntWalk.i64_in _ (by omega)
  have e3 : IntKind.i64.wrap (cl - 1) = cl - 1 := IntWalk.i64_in _ (by omega)
  have hr := Lib.hid (show addrB gr bk rw cl b r c = btw c 0 (cl - 1) by simp [addrB, hg, b1, b2])
  clear hn h1 h2 h3 h4 hm
  go_enter Try.func96, Try.ntmps96
  go_wp2_with fail
  refine wp_region_ext7 ⟨w.heap.size, 0, none⟩ ⟨w.heap.size, 1, none⟩ ⟨w.heap.size, 2, none⟩ ⟨w.heap.size, 3, none⟩ ⟨w.heap.size + 1, 0, none⟩ ⟨w.heap.size + 1, 1, none⟩ ⟨w.heap.size + 1, 2, none⟩ (.int .i64 gr) (.int .i64 bk) (.int .i64 rw) (.int .i64 cl) (.int .i64 b) (.int .i64 r) (.int .i64 c) (by kernel_rfl) (by kernel_rfl) (by first | assumption | (simp [go_sem]; done) | (simp; done)) (by first | assumption | (simp [go_sem]; done) | (simp; done)) (by first | assumption | (simp [go_sem]; done) | (simp; done)) (by first | assumption | (simp [go_sem]; done) | (simp; done)) (by first | assumption | (simp [go_sem]; done) | (simp; done)) (by first | assumption | (simp [go_sem]; done) | (simp; done)) (by first | assumption | (simp [go_sem]; done) | (simp; done)) ?_
  intro r1_0 r1_1 r1_2 r1_3 r1_4 r1_5 r1_6
  repeat (go_big_quiet_step ((first | (go_at_call 101; exact ext_call (bankCount_any _ _ _ _ _)) | (go_at_call 85; exact ext_call (geometryOk_b _ _ _ _ _ true hg)) | (go_at_call 60; with_reducible exact ext_same (between_any _ _ _ _ true b1)) | (go_at_call 60; with_reducible exact ext_same (between_any _ _ _ _ true b2)) | (go_at_call 60; with_reducible exact ext_same (between_any _ _ _ _ _ rfl)))))
  refine wpQuiet_nil ?_
  intro w1 hq1
  have hb1 := ext_below hq1
  clear hq1
  have d1_0 : w1.cell? ⟨w.heap.size, 0, none⟩ = some (.int .i64 gr) := r1_0 ⟨w1, hb1⟩
  have d1_1 : w1.cell? ⟨w.heap.size, 1, none⟩ = some (.int .i64 bk) := r1_1 ⟨w1, hb1⟩
  have d1_2 : w1.cell? ⟨w.heap.size, 2, none⟩ = some (.int .i64 rw) := r1_2 ⟨w1, hb1⟩
  have d1_3 : w1.cell? ⟨w.heap.size, 3, none⟩ = some (.int .i64 cl) := r1_3 ⟨w1, hb1⟩
  have d1_4 : w1.cell? ⟨w.heap.size + 1, 0, none⟩ = some (.int .i64 b) := r1_4 ⟨w1, hb1⟩
  have d1_5 : w1.cell? ⟨w.heap.size + 1, 1, none⟩ = some (.int .i64 r) := r1_5 ⟨w1, hb1⟩
  have d1_6 : w1.cell? ⟨w.heap.size + 1, 2, none⟩ = some (.int .i64 c) := r1_6 ⟨w1, hb1⟩
  clear r1_0 r1_1 r1_2 r1_3 r1_4 r1_5 r1_6
  go_wp2_with fail
  go_ret
  exact ⟨by rw [hr.out]; rfl, (by repeat (first | exact Below.refl _ _ | exact belowNew _ _ | assumption | refine belowAlloc ?_ _ | refine belowDrew ?_ | refine belowDrewN ?_ _ | refine belowSet ?_ (by omega) _ | refine belowNext ?_ (by assumption)))⟩

theorem addrOk_any (gr bk rw cl b r c : Int) (w : World) :
    Calls Try.prog 96 #[.agg #[.int .i64 gr, .int .i64 bk, .int .i64 rw, .int .i64 cl], .agg #[.int .i64 b, .int .i64 r, .int .i64 c]] w fun e w' => e = .returned (.bool (addrB gr bk rw cl b r c)) ∧ Below w.heap.size w w' := by
  by_cases hg : geoB gr bk rw cl = true
  · by_cases b1 : btw b 0 (gr * bk - 1) = true
    · by_cases b2 : btw r 0 (rw - 1) = true
      · exact addrOk_c _ _ _ _ _ _ _ _ hg b1 b2
      · exact addrOk_r _ _ _ _ _ _ _ _ hg b1 (by simpa using b2)
    · exact addrOk_b _ _ _ _ _ _ _ _ hg (by simpa using b1)
  · exact addrOk_geo _ _ _ _ _ _ _ _ (by simpa using hg)

set_option maxHeartbeats 2000000 in
theorem saddrOk_geo (gr bk rw cl b r c : Int) (w : World) (hg : geoB gr bk rw cl = false) :
    Calls Try.prog 95 #[.agg #[.int .i64 gr, .int .i64 bk, .int .i64 rw, .int .i64 cl], .agg #[.int .i64 b, .int .i64 r, .int .i64 c]] w fun e w' => e = .returned (.bool (addrB gr bk rw cl b r c)) ∧ Below w.heap.size w w' := by
  have hr := Lib.hid (show addrB gr bk rw cl b r c = false by simp [addrB, hg])
  have hn : bankN gr bk rw cl = 0 := by unfold bankN; rw [if_neg (by simp [hg])]
  have e1 : IntKind.i64.wrap (bankN gr bk rw cl - 1) = -1 := by rw [hn]; exact IntWalk.i64_in _ (by omega)
  have b1 : btw b 0 (-1) = false := btw_no (by omega)
  clear hn
  go_enter Try.func95, Try.ntmps95
  go_wp2_with fail
  refine wp_region_ext7 ⟨w.heap.size, 0, none⟩ ⟨w.heap.size, 1, none⟩ ⟨w.heap.size, 2, none⟩ ⟨w.heap.size, 3, none⟩ ⟨w.heap.size + 1, 0, none⟩ ⟨w.heap.size + 1, 1, none⟩ ⟨w.heap.size + 1, 2, none⟩ (.int .i64 gr) (.int .i64 bk) (.int .i64 rw) (.int .i64 cl) (.int .i64 b) (.int .i64 r) (.int .i64 c) (by kernel_rfl) (by kernel_rfl) (by first | assumption | (simp [go_sem]; done) | (simp; done)) (by first | assumption | (simp [go_sem]; done) | (simp; done)) (by first | assumption | (simp [go_sem]; done) | (simp; done)) (by first | assumption | (simp [go_sem]; done) | (simp; done)) (by first | assumption | (simp [go_sem]; done) | (simp; done)) (by first | assumption | (simp [go_sem]; done) | (simp; done)) (by first | assumption | (simp [go_sem]; done) | (simp; done)) ?_
  intro r1_0 r1_1 r1_2 r1_3 r1_4 r1_5 r1_6
  repeat (go_big_quiet_step ((first | (go_at_call 100; exact ext_call (sbankCount_any _ _ _ _ _)) | (go_at_call 59; with_reducible exact ext_same (l01In_any _ _ _ _ false b1)))))
  refine wpQuiet_nil ?_
  intro w1 hq1
  have hb1 := ext_below hq1
  clear hq1
  have d1_0 : w1.cell? ⟨w.heap.size, 0, none⟩ = some (.int .i64 gr) := r1_0 ⟨w1, hb1⟩
  have d1_1 : w1.cell? ⟨w.heap.size, 1, none⟩ = some (.int .i64 bk) := r1_1 ⟨w1, hb1⟩
  have d1_2 : w1.cell? ⟨w.heap.size, 2, none⟩ = some (.int .i64 rw) := r1_2 ⟨w1, hb1⟩
  have d1_3 : w1.cell? ⟨w.heap.size, 3, none⟩ = some (.int .i64 cl) := r1_3 ⟨w1, hb1⟩
  have d1_4 : w1.cell? ⟨w.heap.size + 1, 0, none⟩ = some (.int .i64 b) := r1_4 ⟨w1, hb1⟩
  have d1_5 : w1.cell? ⟨w.heap.size + 1, 1, none⟩ = some (.int .i64 r) := r1_5 ⟨w1, hb1⟩
  have d1_6 : w1.cell? ⟨w.heap.size + 1, 2, none⟩ = some (.int .i64 c) := r1_6 ⟨w1, hb1⟩
  clear r1_0 r1_1 r1_2 r1_3 r1_4 r1_5 r1_6
  go_wp2_with fail
  go_ret
  exact ⟨by rw [hr.out]; rfl, (by repeat (first | exact Below.refl _ _ | exact belowNew _ _ | assumption | refine belowAlloc ?_ _ | refine belowDrew ?_ | refine belowDrewN ?_ _ | refine belowSet ?_ (by omega) _ | refine belowNext ?_ (by assumption)))⟩

set_option maxHeartbeats 2000000 in
theorem saddrOk_b (gr bk rw cl b r c : Int) (w : World) (hg : geoB gr bk rw cl = true) (b1 : btw b 0 (gr * bk - 1) = false) :
    Calls Try.prog 95 #[.agg #[.int .i64 gr, .int .i64 bk, .int .i64 rw, .int .i64 cl], .agg #[.int .i64 b, .int .i64 r, .int .i64 c]] w fun e w' => e = .returned (.bool (addrB gr bk rw cl b r c)) ∧ Below w.heap.size w w' := by
  obtain ⟨h1, h2, h3, h4⟩ := geoB_true hg
  have hm := bank_mul h1 h2
  have hn : bankN gr bk rw cl = gr * bk := by unfold bankN; rw [if_pos hg]
  have e1 : IntKind.i64.wrap (bankN gr bk rw cl - 1) = gr * bk - 1 := by rw [hn]; exact IntWalk.i64_in _ (by omega)
  have e2 : IntKind.i64.wrap (rw - 1) = rw - 1 := IntWalk.i64_in _ (by omega)
  have e3 : IntKind.i64.wrap (cl - 1) = cl - 1 := IntWalk.i64_in _ (by omega)
  have hr := Lib.hid (show addrB gr bk rw cl b r c = false by simp [addrB, b1])
  clear hn h1 h2 h3 h4 hm
  go_enter Try.func95, Try.ntmps95
  go_wp2_with fail
  refine wp_region_ext7 ⟨w.heap.size, 0, none⟩ ⟨w.heap.size, 1, none⟩ ⟨w.heap.size, 2, none⟩ ⟨w.heap.size, 3, none⟩ ⟨w.heap.size + 1, 0, none⟩ ⟨w.heap.size + 1, 1, none⟩ ⟨w.heap.size + 1, 2, none⟩ (.int .i64 gr) (.int .i64 bk) (.int .i64 rw) (.int .i64 cl) (.int .i64 b) (.int .i64 r) (.int .i64 c) (by kernel_rfl) (by kernel_rfl) (by first | assumption | (simp [go_sem]; done) | (simp; done)) (by first | assumption | (simp [go_sem]; done) | (simp; done)) (by first | assumption | (simp [go_sem]; done) | (simp; done)) (by first | assumption | (simp [go_sem]; done) | (simp; done)) (by first | assumption | (simp [go_sem]; done) | (simp; done)) (by first | assumption | (simp [go_sem]; done) | (simp; done)) (by first | assumption | (simp [go_sem]; done) | (simp; done)) ?_
  intro r1_0 r1_1 r1_2 r1_3 r1_4 r1_5 r1_6
  repeat (go_big_quiet_step ((first | (go_at_call 100; exact ext_call (sbankCount_any _ _ _ _ _)) | (go_at_call 99; exact ext_call (sgeometryOk_b _ _ _ _ _ true hg)) | (go_at_call 59; with_reducible exact ext_same (l01In_any _ _ _ _ false b1)))))
  refine wpQuiet_nil ?_
  intro w1 hq1
  have hb1 := ext_below hq1
  clear hq1
  have d1_0 : w1.cell? ⟨w.heap.size, 0, none⟩ = some (.int .i64 gr) := r1_0 ⟨w1, hb1⟩
  have d1_1 : w1.cell? ⟨w.heap.size, 1, none⟩ = some (.int .i64 bk) := r1_1 ⟨w1, hb1⟩
  have d1_2 : w1.cell? ⟨w.heap.size, 2, none⟩ = some (.int .i64 rw) := r1_2 ⟨w1, hb1⟩
  have d1_3 : w1.cell? ⟨w.heap.size, 3, none⟩ = some (.int .i64 cl) := r1_3 ⟨w1, hb1⟩
  have d1_4 : w1.cell? ⟨w.heap.size + 1, 0, none⟩ = some (.int .i64 b) := r1_4 ⟨w1, hb1⟩
  have d1_5 : w1.cell? ⟨w.heap.size + 1, 1, none⟩ = some (.int .i64 r) := r1_5 ⟨w1, hb1⟩
  have d1_6 : w1.cell? ⟨w.heap.size + 1, 2, none⟩ = some (.int .i64 c) := r1_6 ⟨w1, hb1⟩
  clear r1_0 r1_1 r1_2 r1_3 r1_4 r1_5 r1_6
  go_wp2_with fail
  go_ret
  exact ⟨by rw [hr.out]; rfl, (by repeat (first | exact Below.refl _ _ | exact belowNew _ _ | assumption | refine belowAlloc ?_ _ | refine belowDrew ?_ | refine belowDrewN ?_ _ | refine belowSet ?_ (by omega) _ | refine belowNext ?_ (by assumption)))⟩

set_option maxHeartbeats 2000000 in
theorem saddrOk_r (gr bk rw cl b r c : Int) (w : World) (hg : geoB gr bk rw cl = true) (b1 : btw b 0 (gr * bk - 1) = true) (b2 : btw r 0 (rw - 1) = false) :
    Calls Try.prog 95 #[.agg #[.int .i64 gr, .int .i64 bk, .int .i64 rw, .int .i64 cl], .agg #[.int .i64 b, .int .i64 r, .int .i64 c]] w fun e w' => e = .returned (.bool (addrB gr bk rw cl b r c)) ∧ Below w.heap.size w w' := by
  obtain ⟨h1, h2, h3, h4⟩ := geoB_true hg
  have hm := bank_mul h1 h2
  have hn : bankN gr bk rw cl = gr * bk := by unfold bankN; rw [if_pos hg]
  have e1 : IntKind.i64.wrap (bankN gr bk rw cl - 1) = gr * bk - 1 := by rw [hn]; exact IntWalk.i64_in _ (by omega)
  have e2 : IntKind.i64.wrap (rw - 1) = rw - 1 := IntWalk.i64_in _ (by omega)
  have e3 : IntKind.i64.wrap (cl - 1) = cl - 1 := IntWalk.i64_in _ (by omega)
  have hr := Lib.hid (show addrB gr bk rw cl b r c = false by simp [addrB, b2])
  clear hn h1 h2 h3 h4 hm
  go_enter Try.func95, Try.ntmps95
  go_wp2_with fail
  refine wp_region_ext7 ⟨w.heap.size, 0, none⟩ ⟨w.heap.size, 1, none⟩ ⟨w.heap.size, 2, none⟩ ⟨w.heap.size, 3, none⟩ ⟨w.heap.size + 1, 0, none⟩ ⟨w.heap.size + 1, 1, none⟩ ⟨w.heap.size + 1, 2, none⟩ (.int .i64 gr) (.int .i64 bk) (.int .i64 rw) (.int .i64 cl) (.int .i64 b) (.int .i64 r) (.int .i64 c) (by kernel_rfl) (by kernel_rfl) (by first | assumption | (simp [go_sem]; done) | (simp; done)) (by first | assumption | (simp [go_sem]; done) | (simp; done)) (by first | assumption | (simp [go_sem]; done) | (simp; done)) (by first | assumption | (simp [go_sem]; done) | (simp; done)) (by first | assumption | (simp [go_sem]; done) | (simp; done)) (by first | assumption | (simp [go_sem]; done) | (simp; done)) (by first | assumption | (simp [go_sem]; done) | (simp; done)) ?_
  intro r1_0 r1_1 r1_2 r1_3 r1_4 r1_5 r1_6
  repeat (go_big_quiet_step ((first | (go_at_call 100; exact ext_call (sbankCount_any _ _ _ _ _)) | (go_at_call 99; exact ext_call (sgeometryOk_b _ _ _ _ _ true hg)) | (go_at_call 59; with_reducible exact ext_same (l01In_any _ _ _ _ true b1)) | (go_at_call 59; with_reducible exact ext_same (l01In_any _ _ _ _ false b2)))))
  refine wpQuiet_nil ?_
  intro w1 hq1
  have hb1 := ext_below hq1
  clear hq1
  have d1_0 : w1.cell? ⟨w.heap.size, 0, none⟩ = some (.int .i64 gr) := r1_0 ⟨w1, hb1⟩
  have d1_1 : w1.cell? ⟨w.heap.size, 1, none⟩ = some (.int .i64 bk) := r1_1 ⟨w1, hb1⟩
  have d1_2 : w1.cell? ⟨w.heap.size, 2, none⟩ = some (.int .i64 rw) := r1_2 ⟨w1, hb1⟩
  have d1_3 : w1.cell? ⟨w.heap.size, 3, none⟩ = some (.int .i64 cl) := r1_3 ⟨w1, hb1⟩
  have d1_4 : w1.cell? ⟨w.heap.size + 1, 0, none⟩ = some (.int .i64 b) := r1_4 ⟨w1, hb1⟩
  have d1_5 : w1.cell? ⟨w.heap.size + 1, 1, none⟩ = some (.int .i64 r) := r1_5 ⟨w1, hb1⟩
  have d1_6 : w1.cell? ⟨w.heap.size + 1, 2, none⟩ = some (.int .i64 c) := r1_6 ⟨w1, hb1⟩
  clear r1_0 r1_1 r1_2 r1_3 r1_4 r1_5 r1_6
  go_wp2_with fail
  go_ret
  exact ⟨by rw [hr.out]; rfl, (by repeat (first | exact Below.refl _ _ | exact belowNew _ _ | assumption | refine belowAlloc ?_ _ | refine belowDrew ?_ | refine belowDrewN ?_ _ | refine belowSet ?_ (by omega) _ | refine belowNext ?_ (by assumption)))⟩

set_option maxHeartbeats 2000000 in
theorem saddrOk_c (gr bk rw cl b r c : Int) (w : World) (hg : geoB gr bk rw cl = true) (b1 : btw b 0 (gr * bk - 1) = true) (b2 : btw r 0 (rw - 1) = true) :
    Calls Try.prog 95 #[.agg #[.int .i64 gr, .int .i64 bk, .int .i64 rw, .int .i64 cl], .agg #[.int .i64 b, .int .i64 r, .int .i64 c]] w fun e w' => e = .returned (.bool (addrB gr bk rw cl b r c)) ∧ Below w.heap.size w w' := by
  obtain ⟨h1, h2, h3, h4⟩ := geoB_true hg
  have hm := bank_mul h1 h2
  have hn : bankN gr bk rw cl = gr * bk := by unfold bankN; rw [if_pos hg]
  have e1 : IntKind.i64.wrap (bankN gr bk rw cl - 1) = gr * bk - 1 := by rw [hn]; exact IntWalk.i64_in _ (by omega)
  have e2 : IntKind.i64.wrap (rw - 1) = rw - 1 := IntWalk.i64_in _ (by omega)
  have e3 : IntKind.i64.wrap (cl - 1) = cl - 1 := IntWalk.i64_in _ (by omega)
  have hr := Lib.hid (show addrB gr bk rw cl b r c = btw c 0 (cl - 1) by simp [addrB, hg, b1, b2])
  clear hn h1 h2 h3 h4 hm
  go_enter Try.func95, Try.ntmps95
  go_wp2_with fail
  refine wp_region_ext7 ⟨w.heap.size, 0, none⟩ ⟨w.heap.size, 1, none⟩ ⟨w.heap.size, 2, none⟩ ⟨w.heap.size, 3, none⟩ ⟨w.heap.size + 1, 0, none⟩ ⟨w.heap.size + 1, 1, none⟩ ⟨w.heap.size + 1, 2, none⟩ (.int .i64 gr) (.int .i64 bk) (.int .i64 rw) (.int .i64 cl) (.int .i64 b) (.int .i64 r) (.int .i64 c) (by kernel_rfl) (by kernel_rfl) (by first | assumption | (simp [go_sem]; done) | (simp; done)) (by first | assumption | (simp [go_sem]; done) | (simp; done)) (by first | assumption | (simp [go_sem]; done) | (simp; done)) (by first | assumption | (simp [go_sem]; done) | (simp; done)) (by first | assumption | (simp [go_sem]; done) | (simp; done)) (by first | assumption | (simp [go_sem]; done) | (simp; done)) (by first | assumption | (simp [go_sem]; done) | (simp; done)) ?_
  intro r1_0 r1_1 r1_2 r1_3 r1_4 r1_5 r1_6
  repeat (go_big_quiet_step ((first | (go_at_call 100; exact ext_call (sbankCount_any _ _ _ _ _)) | (go_at_call 99; exact ext_call (sgeometryOk_b _ _ _ _ _ true hg)) | (go_at_call 59; with_reducible exact ext_same (l01In_any _ _ _ _ true b1)) | (go_at_call 59; with_reducible exact ext_same (l01In_any _ _ _ _ true b2)) | (go_at_call 59; with_reducible exact ext_same (l01In_any _ _ _ _ _ rfl)))))
  refine wpQuiet_nil ?_
  intro w1 hq1
  have hb1 := ext_below hq1
  clear hq1
  have d1_0 : w1.cell? ⟨w.heap.size, 0, none⟩ = some (.int .i64 gr) := r1_0 ⟨w1, hb1⟩
  have d1_1 : w1.cell? ⟨w.heap.size, 1, none⟩ = some (.int .i64 bk) := r1_1 ⟨w1, hb1⟩
  have d1_2 : w1.cell? ⟨w.heap.size, 2, none⟩ = some (.int .i64 rw) := r1_2 ⟨w1, hb1⟩
  have d1_3 : w1.cell? ⟨w.heap.size, 3, none⟩ = some (.int .i64 cl) := r1_3 ⟨w1, hb1⟩
  have d1_4 : w1.cell? ⟨w.heap.size + 1, 0, none⟩ = some (.int .i64 b) := r1_4 ⟨w1, hb1⟩
  have d1_5 : w1.cell? ⟨w.heap.size + 1, 1, none⟩ = some (.int .i64 r) := r1_5 ⟨w1, hb1⟩
  have d1_6 : w1.cell? ⟨w.heap.size + 1, 2, none⟩ = some (.int .i64 c) := r1_6 ⟨w1, hb1⟩
  clear r1_0 r1_1 r1_2 r1_3 r1_4 r1_5 r1_6
  go_wp2_with fail
  go_ret
  exact ⟨by rw [hr.out]; rfl, (by repeat (first | exact Below.refl _ _ | exact belowNew _ _ | assumption | refine belowAlloc ?_ _ | refine belowDrew ?_ | refine belowDrewN ?_ _ | refine belowSet ?_ (by omega) _ | refine belowNext ?_ (by assumption)))⟩

theorem saddrOk_any (gr bk rw cl b r c : Int) (w : World) :
    Calls Try.prog 95 #[.agg #[.int .i64 gr, .int .i64 bk, .int .i64 rw, .int .i64 cl], .agg #[.int .i64 b, .int .i64 r, .int .i64 c]] w fun e w' => e = .returned (.bool (addrB gr bk rw cl b r c)) ∧ Below w.heap.size w w' := by
  by_cases hg : geoB gr bk rw cl = true
  · by_cases b1 : btw b 0 (gr * bk - 1) = true
    · by_cases b2 : btw r 0 (rw - 1) = true
      · exact saddrOk_c _ _ _ _ _ _ _ _ hg b1 b2
      · exact saddrOk_r _ _ _ _ _ _ _ _ hg b1 (by simpa using b2)
    · exact saddrOk_b _ _ _ _ _ _ _ _ hg (by simpa using b1)
  · exact saddrOk_geo _ _ _ _ _ _ _ _ (by simpa using hg)
end Go.Proofs.Ytlkklplnomecgaa
