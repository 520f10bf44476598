/-
  The drawing functions: whatever the bytes, a number in its range; nothing that was there before the law has turned.
-/
import Derived.Test.YtlkklplnomecgaaRows
import Derived.Test.YtlkklplnomecgaaBase
import Derived.OneCell
namespace Go.Proofs.Ytlkklplnomecgaa
open Go.RowKit

/-- The cursor lies in block P of the law's own, over the bytes that came in with the world w0. -/
structure Cur (w0 w : World) (P : Nat) (ao : Option Addr) (len cap : Nat) : Prop where
  bel : Below w0.heap.size w0 w
  pb : w0.heap.size ≤ P
  row : ∃ i h : Int, 0 ≤ i ∧ i ≤ len ∧ w.heap[P]? = some (.cells #[.slice ao len cap, .int .i64 i, .int .i64 h] 132 (0, 0))
  small : len ≤ 1048576
  bytes : ∀ i, i < len → ∃ (b off : Nat) (n : Int), ao = some ⟨b, off, none⟩ ∧ b < w0.heap.size ∧ w0.cell? ⟨b, off + i, none⟩ = some (.int .u8 n) ∧ 0 ≤ n ∧ n ≤ 255

/-- A number between lo and hi, and R of the world behind. -/
def Num (lo hi : Int) (R : World → Prop) (e : Ending) (w' : World) : Prop := ∃ x : Int, lo ≤ x ∧ x ≤ hi ∧ e = .returned (.int .i64 x) ∧ R w'

theorem and255 (x : Int) : 0 ≤ bits .and .i64 x 255 ∧ bits .and .i64 x 255 ≤ 255 := by
  have h2 : (BitVec.ofInt 64 (255 : Int)).toNat = 255 := by decide
  have : bits .and .i64 x 255 = IntKind.i64.wrap (((BitVec.ofInt 64 x) &&& (BitVec.ofInt 64 (255 : Int))).toNat : Int) := rfl
  rw [this, BitVec.toNat_and, h2, IntKind.wrap_i64]
  have h3 : (BitVec.ofInt 64 x).toNat &&& 255 ≤ 255 := Nat.and_le_right
  generalize (BitVec.ofInt 64 x).toNat &&& 255 = y at *
  omega
theorem only_refl (w : World) (r : Option Nat) : w.grownBy w r := ⟨rfl, rfl, rfl, Nat.le_refl _, fun _ _ _ => rfl⟩
theorem only_trans {a b c : World} {r : Option Nat} (h : a.grownBy b r) (k : b.grownBy c r) : a.grownBy c r :=
  ⟨k.os.trans h.os, k.tape.trans h.tape, k.output.trans h.output, Nat.le_trans h.size k.size, fun i hi hne => (k.block i (Nat.lt_of_lt_of_le hi h.size) hne).trans (h.block i hi hne)⟩
theorem only_drewN {a w : World} {row : Option Nat} (h : a.grownBy w row) (n : Nat) : a.grownBy (w.drewN n) row := ⟨h.os, h.tape, h.output, h.size, h.block⟩
theorem only_setCell {a w : World} {g : Nat} (h : a.grownBy w (some g)) (o : Nat) (u : Value) : a.grownBy (w.setCell ⟨g, o, none⟩ u) (some g) :=
  ⟨h.os, h.tape, h.output, by simpa using h.size, fun i hi hne => (Below.heap_setCell w _ u i (by rintro rfl; exact hne rfl)).trans (h.block i hi hne)⟩
theorem below_of_only {w0 a w : World} {g : Nat} (h : Below w0.heap.size w0 a) (k : a.grownBy w (some g)) (hg : w0.heap.size ≤ g) : Below w0.heap.size w0 w :=
  h.trans ⟨k.os, k.tape, k.output, k.size, fun i hi => k.block i (Nat.lt_of_lt_of_le hi h.size) (by rintro e; cases e; omega)⟩

theorem heap_setCell_row {w : World} {P : Nat} {cs : Array Value} {t : TypeId} (h : w.heap[P]? = some (.cells cs t (0, 0))) (o : Nat) (v : Value) : (w.setCell ⟨P, o, none⟩ v).heap[P]? = some (.cells (cs.setIfInBounds o v) t (0, 0)) := by
  simp [World.setCell, Array.getElem?_modify, h]

theorem heap_drewN_row {w : World} {P : Nat} {o : Obj} (h : w.heap[P]? = some o) (n : Nat) : (w.drewN n).heap[P]? = some o := h
theorem cur_two {w0 w : World} {P : Nat} {ao : Option Addr} {len cap : Nat} {i h : Int} (bel : Below w0.heap.size w0 w) (pb : w0.heap.size ≤ P) (hrow : w.heap[P]? = some (.cells #[.slice ao len cap, .int .i64 i, .int .i64 h] 132 (0, 0))) (small : len ≤ 1048576)
    (bytes : ∀ i, i < len → ∃ (b off : Nat) (n : Int), ao = some ⟨b, off, none⟩ ∧ b < w0.heap.size ∧ w0.cell? ⟨b, off + i, none⟩ = some (.int .u8 n) ∧ 0 ≤ n ∧ n ≤ 255)
    (h' i' : Int) (n : Nat) (h0 : 0 ≤ i') (h1 : i' ≤ len) : Cur w0 (((w.setCell ⟨P, 2, none⟩ (.int .i64 h')).drewN n).setCell ⟨P, 1, none⟩ (.int .i64 i')) P ao len cap ∧ w.grownBy (((w.setCell ⟨P, 2, none⟩ (.int .i64 h')).drewN n).setCell ⟨P, 1, none⟩ (.int .i64 i')) (some P) := by
  have g : w.grownBy (((w.setCell ⟨P, 2, none⟩ (.int .i64 h')).drewN n).setCell ⟨P, 1, none⟩ (.int .i64 i')) (some P) := only_setCell (only_drewN (only_setCell (only_refl _ _) _ _) _) _ _
  refine ⟨⟨below_of_only bel g pb, pb, ⟨i', h', h0, h1, ?_⟩, small, bytes⟩, g⟩
  exact heap_setCell_row (heap_drewN_row (heap_setCell_row hrow 2 _) n) 1 _
theorem cur_one {w0 w : World} {P : Nat} {ao : Option Addr} {len cap : Nat} {i h : Int} (bel : Below w0.heap.size w0 w) (pb : w0.heap.size ≤ P) (hrow : w.heap[P]? = some (.cells #[.slice ao len cap, .int .i64 i, .int .i64 h] 132 (0, 0))) (small : len ≤ 1048576)
    (bytes : ∀ i, i < len → ∃ (b off : Nat) (n : Int), ao = some ⟨b, off, none⟩ ∧ b < w0.heap.size ∧ w0.cell? ⟨b, off + i, none⟩ = some (.int .u8 n) ∧ 0 ≤ n ∧ n ≤ 255)
    (h' : Int) (n : Nat) (h0 : 0 ≤ i) (h1 : i ≤ len) : Cur w0 ((w.setCell ⟨P, 2, none⟩ (.int .i64 h')).drewN n) P ao len cap ∧ w.grownBy ((w.setCell ⟨P, 2, none⟩ (.int .i64 h')).drewN n) (some P) := by
  have g : w.grownBy ((w.setCell ⟨P, 2, none⟩ (.int .i64 h')).drewN n) (some P) := only_drewN (only_setCell (only_refl _ _) _ _) _
  refine ⟨⟨below_of_only bel g pb, pb, ⟨i, h', h0, h1, ?_⟩, small, bytes⟩, g⟩
  exact heap_drewN_row (heap_setCell_row hrow 2 _) n

set_option maxHeartbeats 1000000 in
theorem l01Byte_any {w0 w : World} {P : Nat} {ao : Option Addr} {len cap : Nat} (hc : Cur w0 w P ao len cap) :
    Calls Try.prog 94 #[.pointer (some ⟨P, 0, none⟩)] w (Num 0 255 fun w' => Cur w0 w' P ao len cap ∧ w.grownBy w' (some P)) := by
  obtain ⟨bel, pb, ⟨i, h, hi0, hil, hrow⟩, small, bytes⟩ := hc
  have c0 : w.cell? ⟨P, 0, none⟩ = some (.slice ao len cap) := by simp [World.cell?, hrow]
  have c1 : w.cell? ⟨P, 1, none⟩ = some (.int .i64 i) := by simp [World.cell?, hrow]
  have c2 : w.cell? ⟨P, 2, none⟩ = some (.int .i64 h) := by simp [World.cell?, hrow]
  have f1 : w.frozen? ⟨P, 1, none⟩ = false := by simp [World.frozen?, hrow]
  have f2 : w.frozen? ⟨P, 2, none⟩ = false := by simp [World.frozen?, hrow]
  have Hrow := Lib.hid hrow
  have Hbel := Lib.hid bel
  have Hby := Lib.hid bytes
  clear hrow bel bytes
  by_cases hlt : i < len
  · obtain ⟨b, off, n, rfl, hb, hcell, hn0, hn1⟩ := Hby.out i.toNat (by omega)
    obtain ⟨k, rfl⟩ := Int.eq_ofNat_of_zero_le hi0
    simp only [Int.toNat_natCast] at hcell
    have hcb : w.cell? ⟨b, off + k, none⟩ = some (.int .u8 n) := (Hbel.out.cell (p := ⟨b, off + k, none⟩) hb).trans hcell
    have hbP : b ≠ P := by omega
    clear hcell
    have k0 : (0 : Int) ≤ (k : Int) := hi0
    have k1 : (k : Int) < (len : Int) := hlt
    have k2 : k < len := by omega
    go_enter Try.func94, Try.ntmps94
    go_wp2_with fail
    go_quiet (fail)
    go_wp2_with fail
    go_quiet (fail)
    go_wp2_with fail
    go_quiet (fail)
    go_wp2_with fail
    go_ret
    exact ⟨_, (and255 _).1, (and255 _).2, rfl, cur_two Hbel.out pb Hrow.out small Hby.out _ _ _ (by omega) (by omega)⟩
  · have k1 : (len : Int) ≤ i := by omega
    clear hlt
    go_enter Try.func94, Try.ntmps94
    go_wp2_with fail
    go_quiet (fail)
    go_wp2_with fail
    go_quiet (fail)
    go_wp2_with fail
    go_ret
    refine ⟨_, (and255 _).1, (and255 _).2, rfl, ?_⟩
    simp only [World.drewN_drewN]
    exact cur_one Hbel.out pb Hrow.out small Hby.out _ _ hi0 hil

theorem cur_grown {w0 w : World} {P : Nat} {ao : Option Addr} {len cap : Nat} (hc : Cur w0 w P ao len cap) {w' : World} {row : Option Nat} (g : w.grownBy w' row) (hr : ∀ q, row = some q → P < q) : Cur w0 w' P ao len cap := by
  obtain ⟨bel, pb, ⟨i, h, hi0, hil, hrow⟩, small, bytes⟩ := hc
  have hlt := (Array.getElem?_eq_some_iff.1 hrow).1
  exact ⟨bel.grown g bel.size (fun q hq => by have := hr q hq; omega), pb, ⟨i, h, hi0, hil, (g.block P hlt (fun e => by have := hr P e.symm; omega)).trans hrow⟩, small, bytes⟩
theorem cur_cells {w0 w : World} {P : Nat} {ao : Option Addr} {len cap : Nat} (hc : Cur w0 w P ao len cap) {w' : World} (g : w.grownBy w' none) : Cur w0 w' P ao len cap := cur_grown hc g (fun _ h => by cases h)
theorem own_ne {w : World} {base : Nat} {e : TypeId} {size : Nat} {v : Value} {n : Nat} {xs : List Value} (h : w.ownsRow base e size v n xs) {P : Nat} (hP : P < base) : v.ownBlock = none ∨ v.ownBlock ≠ some P := by
  cases hv : v.ownBlock with
  | none => exact .inl rfl
  | some q => exact .inr (by intro h'; cases h'; have := (h.lt P hv).1; omega)
theorem own_ge {w : World} {base : Nat} {e : TypeId} {size : Nat} {v : Value} {n : Nat} {xs : List Value} (h : w.ownsRow base e size v n xs) : ∀ q, v.ownBlock = some q → base ≤ q := fun q hq => (h.lt q hq).1

theorem l01Below_zero {w0 w : World} {P : Nat} {ao : Option Addr} {len cap : Nat} {n : Int} (hc : Cur w0 w P ao len cap) (hn : n ≤ 0) :
    Calls Try.prog 64 #[.pointer (some ⟨P, 0, none⟩), .int .i64 n] w (Num 0 0 fun w' => Cur w0 w' P ao len cap ∧ w.grownBy w' (some P)) := by
  have Hc := Lib.hid hc
  clear hc
  go_enter Try.func64, Try.ntmps64
  go_wp2
  go_ret
  exact ⟨0, by omega, by omega, rfl, Hc.out, only_refl _ _⟩
theorem l01Below_small {w0 w : World} {P : Nat} {ao : Option Addr} {len cap : Nat} {n : Int} (hc : Cur w0 w P ao len cap) (h0 : 1 ≤ n) (h1 : n ≤ 256) :
    Calls Try.prog 64 #[.pointer (some ⟨P, 0, none⟩), .int .i64 n] w (Num 0 (n - 1) fun w' => Cur w0 w' P ao len cap ∧ w.grownBy w' (some P)) := by
  have Hc := Lib.hid hc
  clear hc
  go_enter Try.func64, Try.ntmps64
  go_wp2_with (first | (go_at_call 94; refine (l01Byte_any Hc.out).mono ?_; rintro e w1 ⟨x, hx0, hx1, rfl, hc1, hg1⟩))
  go_ret
  refine ⟨x % n, Int.emod_nonneg _ (by omega), ?_, rfl, hc1, hg1⟩
  have := Int.emod_lt_of_pos x (show 0 < n by omega)
  omega
theorem l01Below_great {w0 w : World} {P : Nat} {ao : Option Addr} {len cap : Nat} {n : Int} (hc : Cur w0 w P ao len cap) (h0 : 257 ≤ n) (h1 : n ≤ 4294967296) :
    Calls Try.prog 64 #[.pointer (some ⟨P, 0, none⟩), .int .i64 n] w (Num 0 (n - 1) fun w' => Cur w0 w' P ao len cap ∧ w.grownBy w' (some P)) := by
  have Hc := Lib.hid hc
  clear hc
  go_enter Try.func64, Try.ntmps64
  go_wp2_with fail
  refine (l01Byte_any Hc.out).mono ?_
  rintro e w1 ⟨x1, hx10, hx11, rfl, hc1, hg1⟩
  go_wp2_with fail
  refine (l01Byte_any hc1).mono ?_
  rintro e w2 ⟨x2, hx20, hx21, rfl, hc2, hg2⟩
  go_wp2_with fail
  refine (l01Byte_any hc2).mono ?_
  rintro e w3 ⟨x3, hx30, hx31, rfl, hc3, hg3⟩
  go_wp2_with fail
  refine (l01Byte_any hc3).mono ?_
  rintro e w4 ⟨x4, hx40, hx41, rfl, hc4, hg4⟩
  go_wp2
  go_ret
  have := Int.emod_lt_of_pos (x1 * 16777216 + x2 * 65536 + x3 * 256 + x4) (show 0 < n by omega)
  exact ⟨_, Int.emod_nonneg _ (by omega), by omega, rfl, hc4, only_trans (only_trans (only_trans hg1 hg2) hg3) hg4⟩
/-- One contract for every bound that the drawing functions hand on. -/
theorem l01Below_any {w0 w : World} {P : Nat} {ao : Option Addr} {len cap : Nat} {n : Int} (hc : Cur w0 w P ao len cap) (h0 : 1 ≤ n) (h1 : n ≤ 4294967296) :
    Calls Try.prog 64 #[.pointer (some ⟨P, 0, none⟩), .int .i64 n] w (Num 0 (n - 1) fun w' => Cur w0 w' P ao len cap ∧ w.grownBy w' (some P)) := by
  by_cases h : n ≤ 256
  · exact l01Below_small hc h0 h
  · exact l01Below_great hc (by omega) h1

/-- The bytes that came in with the world w0. -/
structure Cod (w0 : World) (ao : Option Addr) (len : Nat) : Prop where
  small : len ≤ 1048576
  bytes : ∀ i, i < len → ∃ (b off : Nat) (n : Int), ao = some ⟨b, off, none⟩ ∧ b < w0.heap.size ∧ w0.cell? ⟨b, off + i, none⟩ = some (.int .u8 n) ∧ 0 ≤ n ∧ n ≤ 255

theorem cur_new {w0 w : World} {ao : Option Addr} {len : Nat} (cap : Nat) (hd : Cod w0 ao len) (bel : Below w0.heap.size w0 w) (h : Int) : Cur w0 (w.alloc (.cells #[.slice ao len cap, .int .i64 0, .int .i64 h] 132)) w.heap.size ao len cap :=
  ⟨belowAlloc bel _, bel.size, ⟨0, h, by omega, by omega, heap_alloc_new w _⟩, hd.small, hd.bytes⟩

/-- What l01New leaves: a cursor over the bytes. -/
def CurOut (w0 w : World) (ao : Option Addr) (len cap : Nat) (e : Ending) (w' : World) : Prop := ∃ P, w.heap.size ≤ P ∧ e = .returned (.pointer (some ⟨P, 0, none⟩)) ∧ Cur w0 w' P ao len cap ∧ Below w.heap.size w w'

set_option maxHeartbeats 1000000 in
set_option maxRecDepth 100000 in
theorem l01New_any {w0 w : World} {ao : Option Addr} {len cap : Nat} (hd : Cod w0 ao len) (bel : Below w0.heap.size w0 w) :
    Calls Try.prog 63 #[.slice ao len cap] w (CurOut w0 w ao len cap) := by
  have Hd := Lib.hid hd
  have Hb := Lib.hid bel
  have hs := hd.small
  by_cases h0 : len = 0
  · subst h0
    clear hd bel
    go_enter Try.func63, Try.ntmps63
    go_wp2
    refine wp_loop_rounds 1 ?_
    rw [rounds_succ]
    go_wp2
    go_ret
    exact ⟨w.heap.size, Nat.le_refl _, rfl, cur_new cap Hd.out Hb.out _, belowNew _ _⟩
  · obtain ⟨b, off, n, rfl, hbb, _⟩ := hd.bytes 0 (by omega)
    clear hd bel h0
    go_enter Try.func63, Try.ntmps63
    go_wp2
    go_loop [3, 4] (fun h i => ∃ (k : Nat) (hv : Int), k ≤ len ∧ i = .int .i64 k ∧ h = .int .i64 hv) (fun _ i => len - (intOf i).toNat)
    case atStart => exact ⟨0, _, by omega, rfl, rfl⟩
    case round =>
      obtain ⟨k, hv, hk, rfl, rfl⟩ := hrel
      by_cases hlt : k < len
      · obtain ⟨b', off', n', he, hb', hcell, hn0, hn1⟩ := Hd.out.bytes k hlt
        have he1 : b' = b := by injection he with he; injection he with he1 he2; exact he1.symm
        have he2 : off' = off := by injection he with he; injection he with he1 he2; exact he2.symm
        subst he1 he2
        clear he
        have hc := (Hb.out.cell (p := ⟨b', off' + k, none⟩) hb').trans hcell
        clear hcell
        by_cases h4 : k < 4000
        · go_wp2
          go_round
          case rel => exact ⟨k + 1, _, by omega, by go_num, rfl⟩
          case measure => simp [intOf]; omega
        · go_wp2
          go_ret
          exact ⟨w.heap.size, Nat.le_refl _, rfl, cur_new cap Hd.out Hb.out _, belowNew _ _⟩
      · go_wp2
        go_ret
        exact ⟨w.heap.size, Nat.le_refl _, rfl, cur_new cap Hd.out Hb.out _, belowNew _ _⟩

theorem infoInt : (Try.prog.info? 3).map (fun i => (i.zero, i.size, i.bytes)) = some (some (.int .i64 0), 1, 8) := by kernel_rfl

/-- k numbers from 0 to 9999 in a row of the call's own. -/
def PlacesAt (base : Nat) (w : World) (v : Value) (k : Nat) : Prop := ∃ xs : List Int, xs.length = k ∧ (∀ x ∈ xs, 0 ≤ x ∧ x ≤ 9999) ∧ w.ownsRow base 3 1 v k (xs.map (.int .i64))
theorem PlacesAt.start (w : World) : PlacesAt w.heap.size (w.alloc (.cells #[] 3)) (.slice (some ⟨w.heap.size, 0, none⟩) 0 0) 0 :=
  ⟨[], rfl, by simp, World.ownsRow_made w #[] 0 (Nat.le_refl _) (Nat.zero_le _) rfl⟩

/-- What DrawPlaces leaves: twelve numbers from 0 to 9999. -/
def PlacesOut (w0 w : World) (e : Ending) (w' : World) : Prop := ∃ (g cap : Nat) (xs : List Int), e = .returned (.slice (some ⟨g, 0, none⟩) 12 cap) ∧ xs.length = 12 ∧ (∀ x ∈ xs, 0 ≤ x ∧ x ≤ 9999) ∧ w.heap.size ≤ g ∧ g < w'.heap.size ∧ (∀ j, j < 12 → w'.cell? ⟨g, j, none⟩ = some (.int .i64 (xs.getD j 0))) ∧ Below w0.heap.size w0 w' ∧ Below w.heap.size w w'

set_option maxHeartbeats 2000000 in
set_option maxRecDepth 100000 in
theorem drawPlaces_any {w0 w : World} {ao : Option Addr} {len cap : Nat} (hd : Cod w0 ao len) (bel : Below w0.heap.size w0 w) :
    Calls Try.prog 26 #[.slice ao len cap] w (PlacesOut w0 w) := by
  obtain ⟨i0, hi, hz0, hz1, hz2⟩ := info_parts infoInt
  have Hd := Lib.hid hd
  have Hb := Lib.hid bel
  clear hd bel
  go_enter Try.func26, Try.ntmps26
  go_wp2_with fail
  refine (l01New_any Hd.out Hb.out).mono ?_
  rintro e w1 ⟨P, hP, rfl, hc1, hb1⟩
  have hP1 : P < w1.heap.size := by obtain ⟨_, _, h⟩ := hc1.row; exact (Array.getElem?_eq_some_iff.1 h.2.2).1
  have Hc1 := Lib.hid hc1
  have Hb1 := Lib.hid hb1
  clear hc1 hb1
  go_wp2_with fail
  go_loopw [4, 5] (fun v i wr => ∃ k : Nat, k ≤ 12 ∧ i = .int .i64 k ∧ PlacesAt w1.heap.size wr v k ∧ Cur w0 wr P ao len cap ∧ w1.heap.size ≤ wr.heap.size ∧ Below w.heap.size w wr) (fun _ i _ => 12 - (intOf i).toNat)
  case atStart => exact ⟨0, by omega, rfl, PlacesAt.start w1, cur_cells Hc1.out (World.grownBy_alloc _ _ _), by simp, belowNext Hb1.out (belowNew _ _)⟩
  case round =>
    obtain ⟨k, hk, rfl, hpl, hcr, hsz, hbr⟩ := hrel
    obtain ⟨xs, hxl, hxb, hown⟩ := hpl
    by_cases hlt : k < 12
    · have Hcr := Lib.hid hcr
      have Hxl := Lib.hid hxl
      have Hxb := Lib.hid hxb
      have Hbr := Lib.hid hbr
      have Hown := Lib.hid hown
      clear hcr hxl hxb hbr hown
      go_wp2_with fail
      refine (l01Below_any Hcr.out (by omega) (by omega)).mono ?_
      rintro e w2 ⟨x, hx0, hx1, rfl, hc2, hg2⟩
      have hown2 := Hown.out.kept hg2 (own_ne Hown.out hP1)
      have hs2 := hg2.size
      have Hc2 := Lib.hid hc2
      have Hg2 := Lib.hid hg2
      clear hc2 hg2
      go_wp2_with (first | (at_builtin; refine wpList_append_own _ rfl _ _ 41 rfl w1.heap.size 3 i0 (.int .i64 0) 1 8 Try.underlying41 hi hz0 hz1 hz2 rfl (by decide) _ _ _ rfl (hown2.alloc _) ⟨w2.heap.size, 0, none⟩ 1 1 [.int .i64 x] rfl rfl ?c1 ?c2 ?c3 ?c4 ?c5 ?_))
      case c1 =>
        intro j u hj
        match j, hj with
        | 0, hj => simp at hj; subst hj; simp [Addr.add]
      case c2 => intro u hu; simp at hu; subst hu; rfl
      case c3 => unfold maxLen; omega
      case c4 => omega
      case c5 => simp; omega
      intro v' w3 hown3 hg3 _
      have hge := own_ge Hown.out
      have hc3 : Cur w0 w3 P ao len cap := cur_grown (cur_cells Hc2.out (World.grownBy_alloc _ _ _)) hg3 (fun q hq => by have := hge q hq; omega)
      have hb3 : Below w.heap.size w w3 := by
        refine Below.grown (row := _) (belowAlloc (Below.grown Hbr.out Hg2.out (by have := Hbr.out.size; omega) (fun q hq => by cases hq; omega)) _) hg3 (by simp; have := Hbr.out.size; omega) (fun q hq => by have := hge q hq; omega)
      have hs3 := hg3.size
      simp only [World.size_alloc] at hs3
      have hp3 : PlacesAt w1.heap.size w3 v' (k + 1) := by
        refine ⟨xs ++ [x], by rw [List.length_append, Hxl.out]; rfl, ?_, by rw [List.map_append]; exact hown3⟩
        intro y hy
        rcases List.mem_append.1 hy with h | h
        · exact Hxb.out y h
        · rw [List.mem_singleton.1 h]; omega
      have Hc3 := Lib.hid hc3
      have Hb3 := Lib.hid hb3
      have Hp3 := Lib.hid hp3
      clear hown3 hg3 hown2 hge hc3 hb3 hp3
      go_wp2
      go_roundw
      case rel => exact ⟨k + 1, by omega, by go_num, Hp3.out, Hc3.out, by omega, Hb3.out⟩
      case measure => simp [intOf]; omega
    · have hk12 : k = 12 := by omega
      have Hf := Lib.hid (show PlacesOut w0 w (.returned u4) wr by
        subst hk12
        have hlt4 := hown.lt
        obtain ⟨_, h2⟩ := hown
        rcases h2 with ⟨_, h2⟩ | ⟨g, cap', cur, rfl, hg, hh, hn, hcm, hcs, htk⟩
        · omega
        · refine ⟨g, cap', xs, rfl, hxl, hxb, by omega, (hlt4 g rfl).2, fun j hj => ?_, hcr.bel, hbr⟩
          have e : (xs.map (Value.int .i64))[j]? = some (.int .i64 (xs.getD j 0)) := by
            rw [List.getElem?_map, List.getElem?_eq_getElem (by omega)]
            simp [List.getD, hxl, hj]
          rw [← htk, List.getElem?_take] at e
          rw [if_pos (by omega)] at e
          simp only [World.cell?, hh]
          simpa using e)
      clear hcr hbr hown hxb hxl
      go_wp2
      go_ret
      exact Hf.out
end Go.Proofs.Ytlkklplnomecgaa
