/-
  The walk of the law on one round of the scrubber.
-/
import Derived.Test.YtlkklplnomecgaaScrub
import Derived.Test.YtlkklplnomecgaaDraw
import Derived.Deep.OwnRows
namespace Go.Proofs.Ytlkklplnomecgaa
open Go.RowKit

theorem cod_of_has {w : World} {ao : Option Addr} {len cap : Nat} (h : Has w (.slice .u8) [.slice ao len cap]) (hl : len ≤ 1048576) : Cod w ao len := by
  refine ⟨hl, fun i hi => ?_⟩
  obtain ⟨ao', len', cap', he, hm, hx⟩ := h
  simp only [List.cons.injEq, Value.slice.injEq, and_true] at he
  obtain ⟨rfl, rfl, rfl⟩ := he
  obtain ⟨b, off, es, ha, hes, hc, n, rfl, h0, h1⟩ := hx i hi
  have hc0 := hc 0 (by decide)
  simp only [Ty.size, Nat.mul_one, Nat.add_zero] at hc0
  exact ⟨b, off, n, ha, World.block_lt_of_cell? w _ hc0, hc0, h0, h1⟩

theorem big_any (ao : Option Addr) (len cap : Nat) (w : World) (b : Bool) (hb : decide ((1048576 : Int) < (len : Int)) = b) :
    Calls Try.prog 25 #[.slice ao len cap] w fun e w' => e = .returned (.bool b) ∧ w = w' := by
  have Hb := Lib.hid hb
  clear hb
  go_enter Try.func25, Try.ntmps25
  go_wp2
  go_ret
  exact ⟨by rw [← Hb.out]; rfl, rfl⟩

/-- After k ticks: q whole rounds of the wait, r beyond them. -/
structure TurnAt (L E k q r : Nat) : Prop where
  hk : k = q * E + r
  hr : r < E
  hq : q ≤ L
  hz : q = L → r = 0
theorem TurnAt.start {L E : Nat} (_ : 1 ≤ L) (hE : 1 ≤ E) : TurnAt L E 0 0 0 := ⟨by simp, hE, Nat.zero_le _, fun h => rfl⟩
theorem TurnAt.lt {L E k q r : Nat} (h : TurnAt L E k q r) (hk : k < L * E) : q < L := by
  rcases Nat.lt_or_ge q L with h1 | h1
  · exact h1
  · have e : q = L := Nat.le_antisymm h.hq h1
    have := h.hk
    rw [e, h.hz e] at this
    omega
theorem TurnAt.wait {L E k q r : Nat} (h : TurnAt L E k q r) (hk : k < L * E) (hr : r + 1 < E) : TurnAt L E (k + 1) q (r + 1) :=
  ⟨by have := h.hk; omega, hr, h.hq, fun e => by have := h.lt hk; omega⟩
theorem TurnAt.turn {L E k q r : Nat} (h : TurnAt L E k q r) (hk : k < L * E) (hr : r + 1 = E) : TurnAt L E (k + 1) (q + 1) 0 :=
  ⟨by have := h.hk; rw [Nat.add_mul]; omega, by omega, h.lt hk, fun _ => rfl⟩
theorem TurnAt.fin {L E k q r : Nat} (h : TurnAt L E k q r) (hk : L * E ≤ k) : q = L ∧ r = 0 := by
  rcases Nat.lt_or_ge q L with h1 | h1
  · exfalso
    have h2 : (q + 1) * E ≤ L * E := Nat.mul_le_mul_right E h1
    have := h.hk
    have := h.hr
    rw [Nat.add_mul] at h2
    omega
  · have e : q = L := Nat.le_antisymm h.hq h1
    exact ⟨e, h.hz e⟩
/-- The place of the next line. -/
def nextOf (L q : Nat) : Int := if q = L then 0 else (q : Int)
theorem nextOf_lt {L q : Nat} (h : q < L) : nextOf L q = (q : Int) := by unfold nextOf; rw [if_neg (by omega)]
theorem nextOf_end (L : Nat) : nextOf L L = 0 := by unfold nextOf; rw [if_pos rfl]
theorem nextOf_step {L q : Nat} (h : q < L) : ((q : Int) + 1) % (L : Int) = nextOf L (q + 1) := by
  unfold nextOf
  by_cases e : q + 1 = L
  · rw [if_pos e, show ((q : Int) + 1) = (L : Int) by omega, Int.emod_self]
  · rw [if_neg e, Int.emod_eq_of_lt (by omega) (by omega)]
    omega

theorem infoInt' : (Try.prog.info? 3).map (fun i => (i.zero, i.size, i.bytes)) = some (some (.int .i64 0), 1, 8) := by kernel_rfl

/-- What the law's own memory holds after q rounds of the wait and r ticks. -/
structure TurnMem (w wr : World) (bs bn L E q r : Nat) : Prop where
  bel : Below w.heap.size w wr
  ne : bs ≠ bn
  hbs : w.heap.size ≤ bs
  hbn : w.heap.size ≤ bn
  s0 : wr.rowIs bs 23 3 (fun j => if j = 0 then .int .i64 (nextOf L q) else if j = 1 then .int .i64 E else .int .i64 ((E : Int) - r))
  n0 : wr.rowIs bn 3 L (fun j => .int .i64 (if j < q then 1 else 0))

theorem TurnMem.below {w wr w4 : World} {bs bn L E q r : Nat} (h : TurnMem w wr bs bn L E q r) (hb : Below wr.heap.size wr w4) : TurnMem w w4 bs bn L E q r :=
  ⟨belowNext h.bel hb, h.ne, h.hbs, h.hbn, h.s0.of_block (hb.block _ h.s0.lt), h.n0.of_block (hb.block _ h.n0.lt)⟩
/-- The scrubber is stored anew. -/
theorem TurnMem.setS {w wr : World} {bs bn L E q r : Nat} (h : TurnMem w wr bs bn L E q r) (q' r' : Nat) (hn : wr.rowIs bn 3 L (fun j => .int .i64 (if j < q' then 1 else 0))) (v0 v2 : Value) (h0 : v0 = .int .i64 (nextOf L q')) (h2 : v2 = .int .i64 ((E : Int) - r')) (o : Obj) :
    TurnMem w ((((wr.setCell ⟨bs, 0, none⟩ v0).setCell ⟨bs, 1, none⟩ (.int .i64 E)).setCell ⟨bs, 2, none⟩ v2).alloc o) bs bn L E q' r' := by
  have hne : bn ≠ bs := fun e => h.ne e.symm
  refine ⟨belowAlloc (((h.bel.setCell (p := ⟨bs, 0, none⟩) h.hbs _).setCell (p := ⟨bs, 1, none⟩) h.hbs _).setCell (p := ⟨bs, 2, none⟩) h.hbs _) _, h.ne, h.hbs, h.hbn, ?_, ?_⟩
  · refine World.rowIs.alloc ((((h.s0.set 0 v0).set 1 _).set 2 v2).congr ?_) _
    intro i hi
    subst h0 h2
    have : i = 0 ∨ i = 1 ∨ i = 2 := by omega
    rcases this with rfl | rfl | rfl <;> simp
  · exact World.rowIs.alloc (((hn.setOther (a := ⟨bs, 0, none⟩) hne _).setOther (a := ⟨bs, 1, none⟩) hne _).setOther (a := ⟨bs, 2, none⟩) hne _) _
theorem turn_count {wr : World} {bn L q : Nat} (h : wr.rowIs bn 3 L (fun j => .int .i64 (if j < q then 1 else 0))) : (wr.setCell ⟨bn, q, none⟩ (.int .i64 1)).rowIs bn 3 L (fun j => .int .i64 (if j < q + 1 then 1 else 0)) := by
  refine (h.set q _).congr ?_
  intro i hi
  by_cases e : i = q
  · subst e; simp
  · by_cases l : i < q
    · simp [e, l, show i < q + 1 by omega]
    · simp [e, l, show ¬ i < q + 1 by omega]
theorem TurnMem.setS' {w wr : World} {bs bn L E q r : Nat} (h : TurnMem w wr bs bn L E q r) (q' r' : Nat) (hq : q' = q + 1) (v0 v2 : Value) (h0 : v0 = .int .i64 (nextOf L q')) (h2 : v2 = .int .i64 ((E : Int) - r')) (o : Obj) :
    TurnMem w (((((wr.setCell ⟨bn, q, none⟩ (.int .i64 1)).setCell ⟨bs, 0, none⟩ v0).setCell ⟨bs, 1, none⟩ (.int .i64 E)).setCell ⟨bs, 2, none⟩ v2).alloc o) bs bn L E q' r' := by
  have hne : bn ≠ bs := fun e => h.ne e.symm
  have hs : (wr.setCell ⟨bn, q, none⟩ (.int .i64 1)).rowIs bs 23 3 (fun j => if j = 0 then .int .i64 (nextOf L q) else if j = 1 then .int .i64 E else .int .i64 ((E : Int) - r)) := h.s0.setOther (a := ⟨bn, q, none⟩) h.ne _
  have hn := turn_count h.n0
  refine ⟨belowAlloc ((((h.bel.setCell (p := ⟨bn, q, none⟩) h.hbn _).setCell (p := ⟨bs, 0, none⟩) h.hbs _).setCell (p := ⟨bs, 1, none⟩) h.hbs _).setCell (p := ⟨bs, 2, none⟩) h.hbs _) _, h.ne, h.hbs, h.hbn, ?_, ?_⟩
  · refine World.rowIs.alloc ((((hs.set 0 v0).set 1 _).set 2 v2).congr ?_) _
    intro i hi
    subst h0 h2
    have : i = 0 ∨ i = 1 ∨ i = 2 := by omega
    rcases this with rfl | rfl | rfl <;> simp
  · rw [hq]
    exact World.rowIs.alloc (((hn.setOther (a := ⟨bs, 0, none⟩) hne _).setOther (a := ⟨bs, 1, none⟩) hne _).setOther (a := ⟨bs, 2, none⟩) hne _) _

set_option maxHeartbeats 4000000 in
set_option maxRecDepth 100000 in
theorem walk_FnScrubTurn (ao : Option Addr) (len cap : Nat) (w : World) (h : Has w (.slice .u8) [.slice ao len cap]) :
    Calls Try.prog 6 #[.slice ao len cap] w fun e w' => e = .returned (.bool true) ∧ Below w.heap.size w w' := by
  by_cases hl : len ≤ 1048576
  · have Hd := Lib.hid (cod_of_has h hl)
    have Hb := Lib.hid (show decide ((1048576 : Int) < (len : Int)) = false by simp; omega)
    clear h hl
    go_enter Try.func6, Try.ntmps6
    go_wp2_with fail
    refine (big_any _ _ _ _ false Hb.out).mono ?_
    rintro e w' ⟨rfl, rfl⟩
    go_wp2_with fail
    refine (drawPlaces_any Hd.out (Below.refl _ _)).mono ?_
    rintro e w2 ⟨g, cp, ps, rfl, hpl, hpb, hg, hgw3, hcell, hb2, _⟩
    have Hb2 := Lib.hid hb2
    obtain ⟨p0, p1, d0, d1, b0, b1⟩ : ∃ p0 p1 : Int, w2.cell? ⟨g, 0, none⟩ = some (.int .i64 p0) ∧ w2.cell? ⟨g, 1, none⟩ = some (.int .i64 p1) ∧ (0 ≤ p0 ∧ p0 ≤ 9999) ∧ (0 ≤ p1 ∧ p1 ≤ 9999) := by
      have hm : ∀ j, j < 12 → 0 ≤ ps.getD j 0 ∧ ps.getD j 0 ≤ 9999 := fun j hj => hpb _ (by simp only [List.getD, List.getElem?_eq_getElem (show j < ps.length by omega), Option.getD_some]; exact List.getElem_mem _)
      exact ⟨_, _, hcell 0 (by omega), hcell 1 (by omega), hm 0 (by omega), hm 1 (by omega)⟩
    clear hb2 hcell hpb hpl
    obtain ⟨L, hL⟩ : ∃ L : Nat, 1 + p0 % 9 = (L : Int) := ⟨(1 + p0 % 9).toNat, by omega⟩
    obtain ⟨E, hE⟩ : ∃ E : Nat, 1 + p1 % 5 = (E : Int) := ⟨(1 + p1 % 5).toNat, by omega⟩
    have hL1 : 1 ≤ L := by omega
    have hL9 : L ≤ 9 := by omega
    have hE1 : 1 ≤ E := by omega
    have hE5 : E ≤ 5 := by omega
    have b00 := b0.1
    have b10 := b1.1
    clear b0 b1
    go_wp2_with fail
    refine (scrubberNew_yes _ _ (by omega) (by omega)).mono ?_
    rintro e w3 ⟨rfl, hb3⟩
    have Hb3 := Lib.hid hb3
    clear hb3
    obtain ⟨M, hM⟩ : ∃ M, M = L * E := ⟨_, rfl⟩
    have hM45 : M ≤ 45 := by rw [hM]; exact Nat.mul_le_mul hL9 hE5
    have hmm : wrap64 ((L : Int) * (E : Int)) = (M : Int) := by
      rw [show ((L : Int) * (E : Int)) = (M : Int) by rw [hM]; simp]
      unfold wrap64; omega
    have HM := Lib.hid hM
    clear hM
    have hmk := run_make_row' (P := Try.prog) 41 3 (.int .i64 0) 8 Try.underlying41 infoInt' rfl .i64 .i64 L (by omega) (by omega)
    go_wp2_with fail
    clear hL hE b00 b10 d0 d1 hg hgw3 hmk
    go_loopw [9] (fun i wr => ∃ k q r : Nat, i = .int .i64 k ∧ k ≤ M ∧ TurnAt L E k q r ∧ TurnMem w wr w3.heap.size (w3.heap.size + 1) L E q r) (fun i _ => M - (intOf i).toNat)
    case atStart =>
      have hb2 := Hb2.out
      have hb3 := Hb3.out
      have hs : w.heap.size ≤ w3.heap.size := Nat.le_trans hb2.size hb3.size
      refine ⟨0, 0, 0, rfl, Nat.zero_le _, TurnAt.start hL1 hE1, ⟨(by repeat (first | exact Below.refl _ _ | exact belowNew _ _ | assumption | refine belowAlloc ?_ _ | refine belowDrew ?_ | refine belowDrewN ?_ _ | refine belowNext ?_ (by assumption))), Nat.ne_of_lt (Nat.lt_succ_self _), hs, Nat.le_succ_of_le hs, ?_, ?_⟩⟩
      · refine World.rowIs.alloc (World.rowIs_alloc _ _ _ _ ?_) _
        intro i hi
        have : i = 0 ∨ i = 1 ∨ i = 2 := by simp at hi; omega
        rcases this with rfl | rfl | rfl
        · simp [nextOf]
        · simp
        · simp
      · have := World.rowIs_made (w3.alloc (Obj.cells #[.int .i64 0, .int .i64 (E : Int), .int .i64 (E : Int)] 23)) (.int .i64 0) L 3
        simp only [World.size_alloc] at this
        exact this.congr (fun i _ => by simp)
    case round =>
      obtain ⟨k, q, r, rfl, hk, hat, hm⟩ := hrel
      have hs0 := hm.s0
      have hn0 := hm.n0
      have cs0 : wr.cell? ⟨w3.heap.size, 0, none⟩ = some (.int .i64 (nextOf L q)) := hs0.cell (by omega)
      have cs1 : wr.cell? ⟨w3.heap.size, 1, none⟩ = some (.int .i64 E) := hs0.cell (by omega)
      have cs2 : wr.cell? ⟨w3.heap.size, 2, none⟩ = some (.int .i64 ((E : Int) - r)) := hs0.cell (by omega)
      have ls := hs0.lt
      have ln := hn0.lt
      have Hat := Lib.hid hat
      have Hm := Lib.hid hm
      clear hat hm hs0 hn0
      by_cases hkm : k < M
      · have hq := Hat.out.lt (by rw [← HM.out]; exact hkm)
        have hr := Hat.out.hr
        have hnx := Lib.hid (nextOf_lt hq)
        rw [hnx.out] at cs0
        by_cases hre : r + 1 < E
        · go_wp2_with fail
          refine (scrubberTick_wait _ _ _ _ _ (by omega) (by omega) (by omega) (by omega) (by omega) (by omega) (by omega) (by omega) (by omega)).mono ?_
          rintro e w4 ⟨rfl, hb4⟩
          have hz4 := Nat.lt_of_lt_of_le ls hb4.size
          have fs0 : w4.frozen? ⟨w3.heap.size, 0, none⟩ = false := (hb4.frozen (p := ⟨w3.heap.size, 0, none⟩) ls).trans (Hm.out.s0.frozen 0)
          have fs1 : w4.frozen? ⟨w3.heap.size, 1, none⟩ = false := (hb4.frozen (p := ⟨w3.heap.size, 1, none⟩) ls).trans (Hm.out.s0.frozen 1)
          have fs2 : w4.frozen? ⟨w3.heap.size, 2, none⟩ = false := (hb4.frozen (p := ⟨w3.heap.size, 2, none⟩) ls).trans (Hm.out.s0.frozen 2)
          have cs0' := (hb4.cell (p := ⟨w3.heap.size, 0, none⟩) ls).trans cs0
          have cs1' := (hb4.cell (p := ⟨w3.heap.size, 1, none⟩) ls).trans cs1
          have cs2' := (hb4.cell (p := ⟨w3.heap.size, 2, none⟩) ls).trans cs2
          have Hb4 := Lib.hid hb4
          clear hb4
          have Hat' := Lib.hid (Hat.out.wait (by rw [← HM.out]; exact hkm) hre)
          have Hf := Lib.hid (fun (o : Obj) => (Hm.out.below Hb4.out).setS q (r + 1) (Hm.out.below Hb4.out).n0 (.int .i64 q) (.int .i64 ((E : Int) - r - 1)) (by rw [hnx.out]) (by congr 1; omega) o)
          go_wp2_with fail
          go_roundw
          case rel => exact ⟨k + 1, q, r + 1, by go_num, by omega, Hat'.out, Hf.out _⟩
          case measure => simp [intOf]; omega
        · have hre' : r + 1 = E := by omega
          have Hre' := Lib.hid hre'
          clear hre' hre
          have hr9 : E ≤ r + 1 := by have := Hre'.out; omega
          go_wp2_with fail
          refine (scrubberTick_turn _ _ _ _ _ (by omega) (by omega) (by omega) (by omega) (by omega) (by omega) (by omega) (by omega) (by omega)).mono ?_
          rintro e w4 ⟨rfl, hb4⟩
          have hz4 := Nat.lt_of_lt_of_le ls hb4.size
          have hz5 := Nat.lt_of_lt_of_le ln hb4.size
          have fs0 : w4.frozen? ⟨w3.heap.size, 0, none⟩ = false := (hb4.frozen (p := ⟨w3.heap.size, 0, none⟩) ls).trans (Hm.out.s0.frozen 0)
          have fs1 : w4.frozen? ⟨w3.heap.size, 1, none⟩ = false := (hb4.frozen (p := ⟨w3.heap.size, 1, none⟩) ls).trans (Hm.out.s0.frozen 1)
          have fs2 : w4.frozen? ⟨w3.heap.size, 2, none⟩ = false := (hb4.frozen (p := ⟨w3.heap.size, 2, none⟩) ls).trans (Hm.out.s0.frozen 2)
          have fn0 : w4.frozen? ⟨w3.heap.size + 1, q, none⟩ = false := (hb4.frozen (p := ⟨w3.heap.size + 1, q, none⟩) ln).trans (Hm.out.n0.frozen q)
          have cn0 : w4.cell? ⟨w3.heap.size + 1, q, none⟩ = some (.int .i64 0) := ((hb4.cell (p := ⟨w3.heap.size + 1, q, none⟩) ln).trans (Hm.out.n0.cell hq)).trans (by simp)
          have cs0' := (hb4.cell (p := ⟨w3.heap.size, 0, none⟩) ls).trans cs0
          have cs1' := (hb4.cell (p := ⟨w3.heap.size, 1, none⟩) ls).trans cs1
          have cs2' := (hb4.cell (p := ⟨w3.heap.size, 2, none⟩) ls).trans cs2
          have Hb4 := Lib.hid hb4
          clear hb4
          have Hat' := Lib.hid (Hat.out.turn (by rw [← HM.out]; exact hkm) Hre'.out)
          have Hf := Lib.hid (fun (o : Obj) => (Hm.out.below Hb4.out).setS' (q + 1) 0 rfl (.int .i64 (((q : Int) + 1) % (L : Int))) (.int .i64 (E : Int)) (by rw [nextOf_step hq]) (by simp) o)
          have q0 : (0 : Int) ≤ (q : Int) := by omega
          have q1 : (q : Int) < (L : Int) := by omega
          go_wp2_with fail
          go_roundw
          case rel => exact ⟨k + 1, q + 1, 0, by go_num, by omega, Hat'.out, Hf.out _⟩
          case measure => simp [intOf]; omega
      · have hend := Hat.out.fin (by rw [← HM.out]; omega)
        obtain ⟨rfl, rfl⟩ := hend
        have hmm' := Hm.out
        have cn : ∀ j, j < q → wr.cell? ⟨w3.heap.size + 1, j, none⟩ = some (.int .i64 1) := fun j hj => (hmm'.n0.cell hj).trans (by simp [hj])
        rw [nextOf_end] at cs0
        have cs2' : wr.cell? ⟨w3.heap.size, 2, none⟩ = some (.int .i64 (E : Int)) := by simpa using cs2
        have Hbel := Lib.hid hmm'.bel
        have Hcn := Lib.hid cn
        clear hmm' cn cs2
        go_wp2_with fail
        go_loop [12] (fun j => ∃ n : Nat, n ≤ q ∧ j = .int .i64 n) (fun j => q - (intOf j).toNat)
        case atStart => exact ⟨0, Nat.zero_le _, rfl⟩
        case round =>
          obtain ⟨n, hn, rfl⟩ := hrel
          by_cases hnq : n < q
          · have hc := Hcn.out n hnq
            go_wp2_with fail
            go_round
            case rel => exact ⟨n + 1, by omega, by go_num⟩
            case measure => simp [intOf]; omega
          · go_wp2_with fail
            go_ret
            exact ⟨rfl, Hbel.out⟩
  · have Hb := Lib.hid (show decide ((1048576 : Int) < (len : Int)) = true by simp; omega)
    clear h hl
    go_enter Try.func6, Try.ntmps6
    go_wp2_with fail
    refine (big_any _ _ _ _ true Hb.out).mono ?_
    rintro e w' ⟨rfl, rfl⟩
    go_wp2_with fail
    go_ret
    exact ⟨rfl, Below.refl _ _⟩
end Go.Proofs.Ytlkklplnomecgaa
