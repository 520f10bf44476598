/-
  The walks of the laws on seals and tags over drawn numbers.
-/
import Derived.Test.YtdaeikjpnejmdaaDrawWord
import Derived.Test.YtdaeikjpnejmdaaPure
import Derived.Test.YtdaeikjpnejmdaaHas
import Derived.Deep.RegionHeld3
namespace Go.Proofs.Ytdaeikjpnejmdaa
open Go.RowKit

theorem cod_of_has {w : World} {ao : Option Addr} {len cap : Nat} (h : Has w (.slice .u8) [.slice ao len cap]) (hl : len ≤ 1048576) : Cod w ao len := by
  refine ⟨hl, fun i hi => ?_⟩
  obtain ⟨ao', len', cap', he, hm, hx⟩ := h
  simp only [List.cons.injEq, Value.slice.injEq, and_true] at he
  obtain ⟨rfl, rfl, rfl⟩ := he
  obtain ⟨b, off, es, ha, hes, hc, n, rfl, h0, h1⟩ := hx i hi
  have hc0 := hc 0 (by decide)
  simp only [Ty.size, Nat.mul_one, Nat.add_zero] at hc0
  exact ⟨b, off, n, ha, World.block_lt_of_cell? w _ hc0, hc0, h0, h1⟩

theorem big_any (ao : Option Addr) (len cap : Nat) (w : World) (b : Bool) (hb : decide ((1048576 : Int) < (len : Int)) = b) :
    Calls Try.prog 34 #[.slice ao len cap] w fun e w' => e = .returned (.bool b) ∧ w = w' := by
  have Hb := Lib.hid hb
  clear hb
  go_enter Try.func34, Try.ntmps34
  go_wp2
  go_ret
  exact ⟨by rw [← Hb.out]; rfl, rfl⟩

set_option maxHeartbeats 2000000 in
set_option maxRecDepth 100000 in
theorem walk_FnSealed (ao : Option Addr) (len cap : Nat) (w : World) (h : Has w (.slice .u8) [.slice ao len cap]) :
    Calls Try.prog 7 #[.slice ao len cap] w fun e w' => e = .returned (.bool true) ∧ Below w.heap.size w w' := by
  by_cases hl : len ≤ 1048576
  · have Hd := Lib.hid (cod_of_has h hl)
    have Hb := Lib.hid (show decide ((1048576 : Int) < (len : Int)) = false by simp; omega)
    clear h hl
    go_enter Try.func7, Try.ntmps7
    go_wp2_with fail
    refine (big_any _ _ _ _ false Hb.out).mono ?_
    rintro e w' ⟨rfl, rfl⟩
    go_wp2_with fail
    refine (drawWord_any Hd.out (Below.refl _ _)).mono ?_
    rintro e w1 ⟨x, hx0, hx1, rfl, hb1, _⟩
    have Hb1 := Lib.hid hb1
    clear hb1
    go_wp2_with fail
    refine (drawPlaces_any Hd.out Hb1.out).mono ?_
    rintro e w2 ⟨g, cp, ps, rfl, hpl, hpb, hg, hgw, hcell, hb2, _⟩
    have Hb2 := Lib.hid hb2
    obtain ⟨p0, p1, p2, c0, c1, c2, b0, b1, b2⟩ : ∃ p0 p1 p2 : Int, w2.cell? ⟨g, 0, none⟩ = some (.int .i64 p0) ∧ w2.cell? ⟨g, 1, none⟩ = some (.int .i64 p1) ∧ w2.cell? ⟨g, 2, none⟩ = some (.int .i64 p2) ∧ (0 ≤ p0 ∧ p0 ≤ 9999) ∧ (0 ≤ p1 ∧ p1 ≤ 9999) ∧ (0 ≤ p2 ∧ p2 ≤ 9999) := by
      have hm : ∀ j, j < 12 → 0 ≤ ps.getD j 0 ∧ ps.getD j 0 ≤ 9999 := fun j hj => hpb _ (by simp only [List.getD, List.getElem?_eq_getElem (show j < ps.length by omega), Option.getD_some]; exact List.getElem_mem _)
      exact ⟨_, _, _, hcell 0 (by omega), hcell 1 (by omega), hcell 2 (by omega), hm 0 (by omega), hm 1 (by omega), hm 2 (by omega)⟩
    clear hb2 hcell hpb hpl
    have ok : okW4 p0 p1 p2 x = true := by
      simp only [okW4, isW, Bool.and_eq_true]
      exact ⟨⟨⟨btw_mk b0.1 (by omega), btw_mk b1.1 (by omega)⟩, btw_mk b2.1 (by omega)⟩, btw_mk hx0 hx1⟩
    have e1 : (sealW p0 p1 p2 (sealW p0 p1 p2 x) == x) = true := by rw [(sealW_seal ok).1]; simp
    have e2 : isW (sealW p0 p1 p2 x) = true := (sealW_seal ok).2
    have e3 : (sealW p0 p1 p2 x != sealW p0 p1 (IntKind.i64.wrap (p2 + 1)) x) = true := by
      rw [IntWalk.i64_in _ (by omega), bne_iff_ne]
      exact sealW_counter ok (btw_mk (by omega) (by omega)) (by omega)
    clear ok
    go_wp2_with fail
    go_region_held3 (fun w' => w'.cell? ⟨g, 0, none⟩ = some (.int .i64 p0) ∧ w'.cell? ⟨g, 1, none⟩ = some (.int .i64 p1) ∧ w'.cell? ⟨g, 2, none⟩ = some (.int .i64 p2)) (go_keep)
      (first | (go_at_call 29; refine (sealWord_any _ _ _ _ _).mono ?_; rintro e w3 ⟨rfl, hb3⟩; have d0 : w3.cell? ⟨g, 0, none⟩ = some (.int .i64 p0) := (hb3.cell (p := ⟨g, 0, none⟩) (by simpa using hgw)).trans (by simpa using c0); have d1 : w3.cell? ⟨g, 1, none⟩ = some (.int .i64 p1) := (hb3.cell (p := ⟨g, 1, none⟩) (by simpa using hgw)).trans (by simpa using c1); have d2 : w3.cell? ⟨g, 2, none⟩ = some (.int .i64 p2) := (hb3.cell (p := ⟨g, 2, none⟩) (by simpa using hgw)).trans (by simpa using c2)))
    have hgw3 : g < w3.heap.size := Nat.lt_of_lt_of_le (by simpa using hgw) hb3.size
    go_wp2_with fail
    go_region_held3 (fun w' => w'.cell? ⟨g, 0, none⟩ = some (.int .i64 p0) ∧ w'.cell? ⟨g, 1, none⟩ = some (.int .i64 p1) ∧ w'.cell? ⟨g, 2, none⟩ = some (.int .i64 p2)) (go_keep)
      (first | (go_at_call 29; refine (sealWord_any _ _ _ _ _).mono ?_; rintro e w3 ⟨rfl, hb3⟩; have d0 : w3.cell? ⟨g, 0, none⟩ = some (.int .i64 p0) := (hb3.cell (p := ⟨g, 0, none⟩) (by simp [*])).trans (by simp [*]); have d1 : w3.cell? ⟨g, 1, none⟩ = some (.int .i64 p1) := (hb3.cell (p := ⟨g, 1, none⟩) (by simp [*])).trans (by simp [*]); have d2 : w3.cell? ⟨g, 2, none⟩ = some (.int .i64 p2) := (hb3.cell (p := ⟨g, 2, none⟩) (by simp [*])).trans (by simp [*]); have hgw3 : g < w3.heap.size := Nat.lt_of_lt_of_le (by simp [*]) hb3.size) | (go_at_call 33; refine (openWord_any _ _ _ _ _).mono ?_; rintro e w3 ⟨rfl, hb3⟩; have d0 : w3.cell? ⟨g, 0, none⟩ = some (.int .i64 p0) := (hb3.cell (p := ⟨g, 0, none⟩) (by simp [*])).trans (by simp [*]); have d1 : w3.cell? ⟨g, 1, none⟩ = some (.int .i64 p1) := (hb3.cell (p := ⟨g, 1, none⟩) (by simp [*])).trans (by simp [*]); have d2 : w3.cell? ⟨g, 2, none⟩ = some (.int .i64 p2) := (hb3.cell (p := ⟨g, 2, none⟩) (by simp [*])).trans (by simp [*]); have hgw3 : g < w3.heap.size := Nat.lt_of_lt_of_le (by simp [*]) hb3.size) | (go_at_call 37; refine (sIsWord_any _ _ true e2).mono ?_; rintro e w' ⟨rfl, rfl⟩))
    go_wp2_with fail
    have hb2 := Hb2.out
    go_ret
    exact ⟨by rw [← e3]; rfl, (by repeat (first | exact Below.refl _ _ | exact belowNew _ _ | assumption | refine belowAlloc ?_ _ | refine belowDrew ?_ | refine belowDrewN ?_ _ | refine belowNext ?_ (by assumption)))⟩
  · have Hb := Lib.hid (show decide ((1048576 : Int) < (len : Int)) = true by simp; omega)
    clear h hl
    go_enter Try.func7, Try.ntmps7
    go_wp2_with fail
    refine (big_any _ _ _ _ true Hb.out).mono ?_
    rintro e w' ⟨rfl, rfl⟩
    go_wp2_with fail
    go_ret
    exact ⟨rfl, Below.refl _ _⟩
end Go.Proofs.Ytdaeikjpnejmdaa
