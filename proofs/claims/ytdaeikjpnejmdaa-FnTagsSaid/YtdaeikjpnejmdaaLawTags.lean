/-
  The walk of the law on tags.
-/
import Derived.Test.YtdaeikjpnejmdaaLawDraw
import Derived.Test.YtdaeikjpnejmdaaBit
namespace Go.Proofs.Ytdaeikjpnejmdaa
open Go.RowKit

set_option maxHeartbeats 8000000 in
set_option maxRecDepth 100000 in
theorem walk_FnTags (ao : Option Addr) (len cap : Nat) (w : World) (h : Has w (.slice .u8) [.slice ao len cap]) :
    Calls Try.prog 8 #[.slice ao len cap] w fun e w' => e = .returned (.bool true) ∧ Below w.heap.size w w' := by
  by_cases hl : len ≤ 1048576
  · have Hd := Lib.hid (cod_of_has h hl)
    have Hb := Lib.hid (show decide ((1048576 : Int) < (len : Int)) = false by simp; omega)
    clear h hl
    go_enter Try.func8, Try.ntmps8
    go_wp2_with fail
    refine (big_any _ _ _ _ false Hb.out).mono ?_
    rintro e w' ⟨rfl, rfl⟩
    go_wp2_with fail
    refine (drawWord_any Hd.out (Below.refl _ _)).mono ?_
    rintro e w1 ⟨x, hx0, hx1, rfl, hb1, _⟩
    obtain ⟨x, rfl⟩ := Int.eq_ofNat_of_zero_le hx0
    have Hb1 := Lib.hid hb1
    clear hb1
    go_wp2_with fail
    refine (drawPlaces_any Hd.out Hb1.out).mono ?_
    rintro e w2 ⟨g, cp, ps, rfl, hpl, hpb, hg, hgw3, hcell, hb2, _⟩
    have Hb2 := Lib.hid hb2
    obtain ⟨p0, p1, p2, p3, p4, d0, d1, d2, d3, d4, b0, b1, b2, b3, b4⟩ : ∃ p0 p1 p2 p3 p4 : Int, w2.cell? ⟨g, 0, none⟩ = some (.int .i64 p0) ∧ w2.cell? ⟨g, 1, none⟩ = some (.int .i64 p1) ∧ w2.cell? ⟨g, 2, none⟩ = some (.int .i64 p2) ∧ w2.cell? ⟨g, 3, none⟩ = some (.int .i64 p3) ∧ w2.cell? ⟨g, 4, none⟩ = some (.int .i64 p4) ∧ (0 ≤ p0 ∧ p0 ≤ 9999) ∧ (0 ≤ p1 ∧ p1 ≤ 9999) ∧ (0 ≤ p2 ∧ p2 ≤ 9999) ∧ (0 ≤ p3 ∧ p3 ≤ 9999) ∧ (0 ≤ p4 ∧ p4 ≤ 9999) := by
      have hm : ∀ j, j < 12 → 0 ≤ ps.getD j 0 ∧ ps.getD j 0 ≤ 9999 := fun j hj => hpb _ (by simp only [List.getD, List.getElem?_eq_getElem (show j < ps.length by omega), Option.getD_some]; exact List.getElem_mem _)
      exact ⟨_, _, _, _, _, hcell 0 (by omega), hcell 1 (by omega), hcell 2 (by omega), hcell 3 (by omega), hcell 4 (by omega), hm 0 (by omega), hm 1 (by omega), hm 2 (by omega), hm 3 (by omega), hm 4 (by omega)⟩
    clear hb2 hcell hpb hpl
    have hxn : x < 4294967296 := by omega
    obtain ⟨i, hi⟩ : ∃ i : Nat, p3 % 32 = (i : Int) := ⟨(p3 % 32).toNat, by omega⟩
    have hi32 : i < 32 := by omega
    have ok : okW4 p0 p1 p2 x = true := by
      simp only [okW4, isW, Bool.and_eq_true]
      exact ⟨⟨⟨btw_mk b0.1 (by omega), btw_mk b1.1 (by omega)⟩, btw_mk b2.1 (by omega)⟩, btw_mk (by omega) (by omega)⟩
    have ok3 : okW3 p0 p1 p2 = true := by
      simp only [okW3, isW, Bool.and_eq_true]
      exact ⟨⟨btw_mk b0.1 (by omega), btw_mk b1.1 (by omega)⟩, btw_mk b2.1 (by omega)⟩
    obtain ⟨y, hy⟩ : ∃ y, y = flipN x i := ⟨_, rfl⟩
    have e1 : (tagW p0 p1 p2 x != tagW p0 p1 p2 (y : Int)) = true := by
      rw [bne_iff_ne, hy]
      exact tagW_word ok (isW_nat (flipN_lt hxn hi32)) (fun h => flipN_ne x i (Int.ofNat_inj.1 h).symm)
    have e2 : (tagW p0 p1 p2 x != tagW p0 p1 (IntKind.i64.wrap (IntKind.i64.wrap (p2 + 1) + p4)) x) = true := by
      rw [IntWalk.i64_in (p2 + 1) (by omega), IntWalk.i64_in _ (by omega), bne_iff_ne]
      exact tagW_counter ok (btw_mk (by omega) (by omega)) (by omega)
    have e3 : (keyed p0 p1 p2 != keyed p0 p1 (IntKind.i64.wrap (p2 + 1))) = true := by
      rw [IntWalk.i64_in _ (by omega), bne_iff_ne]
      exact keyed_third ok3 (btw_mk (by omega) (by omega)) (by omega)
    have e4 : (tagW p0 p1 p2 x == keyed (mix p0) (keyed p0 p1 p2) x) = true := by
      rw [beq_iff_eq]
      unfold tagW
      rw [if_pos ok]
    have Hi := Lib.hid (show p3.tmod 32 = (i : Int) by rw [Int.tmod_eq_emod_of_nonneg b3.1]; exact hi)
    have Hy := Lib.hid hy
    obtain ⟨tb, htb⟩ : ∃ tb, tb = x >>> i % 2 := ⟨_, rfl⟩
    obtain ⟨bb, hbb⟩ : ∃ bb : Nat, bb = 1 - x >>> i % 2 := ⟨_, rfl⟩
    have hbw : IntKind.i64.wrap (1 - (tb : Int)) = (bb : Int) := by
      have := bit_lt x i
      rw [IntWalk.i64_in _ (by omega)]
      omega
    have Htb := Lib.hid htb
    have Hbb := Lib.hid hbb
    clear htb hbb
    clear ok ok3 hi hy
    go_wp2_with fail
    go_region_held3 (fun w' => w'.cell? ⟨g, 0, none⟩ = some (.int .i64 p0) ∧ w'.cell? ⟨g, 1, none⟩ = some (.int .i64 p1) ∧ w'.cell? ⟨g, 2, none⟩ = some (.int .i64 p2) ∧ w'.cell? ⟨g, 3, none⟩ = some (.int .i64 p3) ∧ w'.cell? ⟨g, 4, none⟩ = some (.int .i64 p4)) (go_keep)
      (first | (go_at_call 39; rw [Hi.out]; refine (sBitOf_any _ _ tb _ hxn hi32 Htb.out).mono ?_; rintro e w' ⟨rfl, rfl⟩) | (go_at_call 38; refine (sWithBit_any _ _ bb y _ hxn hi32 Hbb.out Hy.out).mono ?_; rintro e w' ⟨rfl, rfl⟩))
    go_wp2_with fail
    go_region_held3 (fun w' => w'.cell? ⟨g, 0, none⟩ = some (.int .i64 p0) ∧ w'.cell? ⟨g, 1, none⟩ = some (.int .i64 p1) ∧ w'.cell? ⟨g, 2, none⟩ = some (.int .i64 p2) ∧ w'.cell? ⟨g, 3, none⟩ = some (.int .i64 p3) ∧ w'.cell? ⟨g, 4, none⟩ = some (.int .i64 p4)) (go_keep)
      (first | (go_at_call 31; refine (tagOf_any _ _ _ _ _).mono ?_; rintro e w3 ⟨rfl, hb3⟩; have d0 : w3.cell? ⟨g, 0, none⟩ = some (.int .i64 p0) := (hb3.cell (p := ⟨g, 0, none⟩) (by simp [*])).trans (by simp [*]); have d1 : w3.cell? ⟨g, 1, none⟩ = some (.int .i64 p1) := (hb3.cell (p := ⟨g, 1, none⟩) (by simp [*])).trans (by simp [*]); have d2 : w3.cell? ⟨g, 2, none⟩ = some (.int .i64 p2) := (hb3.cell (p := ⟨g, 2, none⟩) (by simp [*])).trans (by simp [*]); have d3 : w3.cell? ⟨g, 3, none⟩ = some (.int .i64 p3) := (hb3.cell (p := ⟨g, 3, none⟩) (by simp [*])).trans (by simp [*]); have d4 : w3.cell? ⟨g, 4, none⟩ = some (.int .i64 p4) := (hb3.cell (p := ⟨g, 4, none⟩) (by simp [*])).trans (by simp [*]); have hgw3 : g < w3.heap.size := Nat.lt_of_lt_of_le (by simp [*]) hb3.size))
    go_wp2_with fail
    simp only [List.append]
    go_region_held3 (fun w' => w'.cell? ⟨g, 0, none⟩ = some (.int .i64 p0) ∧ w'.cell? ⟨g, 1, none⟩ = some (.int .i64 p1) ∧ w'.cell? ⟨g, 2, none⟩ = some (.int .i64 p2) ∧ w'.cell? ⟨g, 3, none⟩ = some (.int .i64 p3) ∧ w'.cell? ⟨g, 4, none⟩ = some (.int .i64 p4)) (go_keep)
      (first | (go_at_call 31; refine (tagOf_any _ _ _ _ _).mono ?_; rintro e w3 ⟨rfl, hb3⟩; have d0 : w3.cell? ⟨g, 0, none⟩ = some (.int .i64 p0) := (hb3.cell (p := ⟨g, 0, none⟩) (by simp [*])).trans (by simp [*]); have d1 : w3.cell? ⟨g, 1, none⟩ = some (.int .i64 p1) := (hb3.cell (p := ⟨g, 1, none⟩) (by simp [*])).trans (by simp [*]); have d2 : w3.cell? ⟨g, 2, none⟩ = some (.int .i64 p2) := (hb3.cell (p := ⟨g, 2, none⟩) (by simp [*])).trans (by simp [*]); have d3 : w3.cell? ⟨g, 3, none⟩ = some (.int .i64 p3) := (hb3.cell (p := ⟨g, 3, none⟩) (by simp [*])).trans (by simp [*]); have d4 : w3.cell? ⟨g, 4, none⟩ = some (.int .i64 p4) := (hb3.cell (p := ⟨g, 4, none⟩) (by simp [*])).trans (by simp [*]); have hgw3 : g < w3.heap.size := Nat.lt_of_lt_of_le (by simp [*]) hb3.size) | (go_at_call 27; refine (keyed_any _ _ _ _).mono ?_; rintro e w3 ⟨rfl, hb3⟩; have d0 : w3.cell? ⟨g, 0, none⟩ = some (.int .i64 p0) := (hb3.cell (p := ⟨g, 0, none⟩) (by simp [*])).trans (by simp [*]); have d1 : w3.cell? ⟨g, 1, none⟩ = some (.int .i64 p1) := (hb3.cell (p := ⟨g, 1, none⟩) (by simp [*])).trans (by simp [*]); have d2 : w3.cell? ⟨g, 2, none⟩ = some (.int .i64 p2) := (hb3.cell (p := ⟨g, 2, none⟩) (by simp [*])).trans (by simp [*]); have d3 : w3.cell? ⟨g, 3, none⟩ = some (.int .i64 p3) := (hb3.cell (p := ⟨g, 3, none⟩) (by simp [*])).trans (by simp [*]); have d4 : w3.cell? ⟨g, 4, none⟩ = some (.int .i64 p4) := (hb3.cell (p := ⟨g, 4, none⟩) (by simp [*])).trans (by simp [*]); have hgw3 : g < w3.heap.size := Nat.lt_of_lt_of_le (by simp [*]) hb3.size) | (go_at_call 40; refine (sMix_any _ _).mono ?_; rintro e w' ⟨rfl, rfl⟩) | (go_at_call 26; refine (sKeyed_any _ _ _ _).mono ?_; rintro e w' ⟨rfl, rfl⟩))
    go_wp2_with fail
    have hb2 := Hb2.out
    go_ret
    exact ⟨by rw [← e4]; rfl, (by repeat (first | exact Below.refl _ _ | exact belowNew _ _ | assumption | refine belowAlloc ?_ _ | refine belowDrew ?_ | refine belowDrewN ?_ _ | refine belowNext ?_ (by assumption)))⟩
  · have Hb := Lib.hid (show decide ((1048576 : Int) < (len : Int)) = true by simp; omega)
    clear h hl
    go_enter Try.func8, Try.ntmps8
    go_wp2_with fail
    refine (big_any _ _ _ _ true Hb.out).mono ?_
    rintro e w' ⟨rfl, rfl⟩
    go_wp2_with fail
    go_ret
    exact ⟨rfl, Below.refl _ _⟩
end Go.Proofs.Ytdaeikjpnejmdaa
