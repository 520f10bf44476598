/-
  Stores whose lines are right, whole.
-/
import Derived.Test.YtppeocfcdeiemaaSxBmp
import Derived.Test.YtppeocfcdeiemaaSxSec3
import Derived.Test.YtppeocfcdeiemaaSxSec5
import Derived.Test.YtppeocfcdeiemaaSxSec6
namespace Go.Proofs.Ytppeocfcdeiemaa
set_option linter.unusedVariables false
set_option linter.unusedSimpArgs false
open Go.RowKit
set_option maxRecDepth 100000
set_option maxHeartbeats 8000000

structure SecX where
  t : TrX
  (w da ta : Nat → Int)
def GoodS (key : Int) (s : SecX) : Prop := GoodX key s.t ∧ ∀ i : Nat, i < 8 → isW (s.w i) = true ∧ s.da i = sealW key i (s.t.lc i) (s.w i) ∧ s.ta i = tagW key i (s.t.lc i) (s.da i)
def WriteX (s : SecX) (line x : Int) (s' : SecX) : Prop := BumpX s.t line s'.t ∧ ∀ i : Nat, s'.w i = if i = line.toNat then x else s.w i
theorem isW_facts {x : Int} (h : isW x = true) : 0 ≤ x ∧ x ≤ 4294967295 := btw_facts h
theorem GoodS.line {key : Int} {s : SecX} (h : GoodS key s) (hb : s.t.root ≤ 1000) {n : Nat} (hn : n < 8) : okW4 key n (s.t.lc n) (s.w n) = true ∧ isW (s.da n) = true ∧ okW4 key n (s.t.lc n) (s.da n) = true ∧ sealW key n (s.t.lc n) (s.da n) = s.w n := by
  obtain ⟨hw, hd, ht⟩ := h.2 n hn
  have hc := h.1.cnt hn
  have hok4 : okW4 key n (s.t.lc n) (s.w n) = true := okW4_small h.1.key (by omega) (by omega) (isW_facts hw)
  have hs := sealW_seal hok4
  rw [← hd] at hs
  exact ⟨hok4, hs.2, okW4_small h.1.key (by omega) (by omega) (isW_facts hs.2), hs.1⟩
theorem GoodS.rd {key : Int} {s : SecX} (h : GoodS key s) (hb : s.t.root ≤ 1000) {j : Int} (hj : 0 ≤ j ∧ j ≤ 7) : rdOk key s.t.root 2 8 s.t.mc s.t.mt s.t.lc s.t.lt 8 8 s.da s.ta j = true ∧ rdV key s.t.root 2 8 s.t.mc s.t.mt s.t.lc s.t.lt 8 8 s.da s.ta j = s.w j.toNat := by
  obtain ⟨n, rfl⟩ : ∃ n : Nat, j = n := ⟨j.toNat, by omega⟩
  have hl := h.1.lc hb hj
  have hn := h.line hb (n := n) (by omega)
  have ht := (h.2 n (by omega)).2.2
  have r : rdOk key s.t.root 2 8 s.t.mc s.t.mt s.t.lc s.t.lt 8 8 s.da s.ta (n : Int) = true := by
    simp [rdOk, hl, fitsB, Int.toNat_natCast, hn.2.1, ← ht]
  exact ⟨r, by simp only [rdV, r, if_true, Int.toNat_natCast, hn.2.2.2]⟩
theorem GoodS.sec {key : Int} {s : SecX} (h : GoodS key s) (hb : s.t.root ≤ 1000) : secB key s.t.root 2 8 s.t.mc s.t.mt s.t.lc s.t.lt 8 8 s.da s.ta = true := by
  have g : ∀ j : Int, 0 ≤ j ∧ j ≤ 7 → rdOk key s.t.root 2 8 s.t.mc s.t.mt s.t.lc s.t.lt 8 8 s.da s.ta j = true := fun j hj => (h.rd hb hj).1
  simp only [secB, g 0 (by omega), g 1 (by omega), g 2 (by omega), g 3 (by omega), g 4 (by omega), g 5 (by omega), g 6 (by omega), g 7 (by omega), Bool.and_self]
theorem goodS_new {key : Int} (h : isW key = true) : GoodS key ⟨⟨0, fun _ => 0, newMT key, fun _ => 0, newLT key⟩, fun _ => 0, newDa key, newTa key⟩ :=
  ⟨good_new h, fun i hi => ⟨rfl, rfl, rfl⟩⟩
def bumpT (key : Int) (t : TrX) (line : Int) : TrX := ⟨bR key t.root 2 8 t.mc t.mt t.lc t.lt line, bMc key t.root 2 8 t.mc t.mt t.lc t.lt line, bMt key t.root 2 8 t.mc t.mt t.lc t.lt line, bLc key t.root 2 8 t.mc t.mt t.lc t.lt line, bLt key t.root 2 8 t.mc t.mt t.lc t.lt line⟩
def writeS (key : Int) (s : SecX) (line x : Int) : SecX := ⟨bumpT key s.t line, fun i => if i = line.toNat then x else s.w i, wDa key s.t.root 2 8 s.t.mc s.t.mt s.t.lc s.t.lt 8 8 s.da s.ta line x, wTa key s.t.root 2 8 s.t.mc s.t.mt s.t.lc s.t.lt 8 8 s.da s.ta line x⟩
theorem GoodS.write {key : Int} {s : SecX} (h : GoodS key s) (hb : s.t.root ≤ 1000) {line x : Int} (hk : 0 ≤ line ∧ line ≤ 7) (hx : isW x = true) :
    wOk key s.t.root 2 8 s.t.mc s.t.mt s.t.lc s.t.lt 8 8 s.da s.ta line x = true ∧ GoodS key (writeS key s line x) ∧ WriteX s line x (writeS key s line x) := by
  have hB := GoodT.bump h.1 (by omega) hk
  have hok : wOk key s.t.root 2 8 s.t.mc s.t.mt s.t.lc s.t.lt 8 8 s.da s.ta line x = true := by simp [wOk, hB.1, fitsB, hx]
  have hlc : ∀ j : Nat, bLc key s.t.root 2 8 s.t.mc s.t.mt s.t.lc s.t.lt line j = if j = line.toNat then s.t.lc j + 1 else s.t.lc j := fun j => by simp only [bLc, hB.1, true_and]
  refine ⟨hok, ⟨?_, fun i hi => ?_⟩, ⟨hB.2.1, hlc⟩, fun i => rfl⟩
  · show GoodT _ _ _ _ _ _ _
    simp only [writeS, bumpT]
    rw [hB.2.1]
    exact hB.2.2
  · simp only [writeS, bumpT, wDa, wTa, hok, true_and]
    by_cases e : i = line.toNat
    · have e2 : (i : Int) = line := by omega
      simp only [if_pos e, e2]
      rw [e]
      exact ⟨hx, rfl, rfl⟩
    · simp only [if_neg e]
      rw [hlc i, if_neg e]
      exact h.2 i hi
def pD (line : Int) (da d2 : Nat → Int) (i : Nat) : Int := if i = line.toNat then d2 i else da i
theorem GoodS.replay {key : Int} {s : SecX} (h : GoodS key s) (hb : s.t.root ≤ 1000) {da ta : Nat → Int} {j : Int} (hj : 0 ≤ j ∧ j ≤ 7) : rdOk key (s.t.root + 1) 2 8 s.t.mc s.t.mt s.t.lc s.t.lt 8 8 da ta j = false := by
  have := GoodT.oldNodes h.1 (by omega) hj
  simp [rdOk, this]
theorem GoodS.replay' {key : Int} {s : SecX} (h : GoodS key s) (hb : s.t.root ≤ 1000) {da ta : Nat → Int} : secB key (s.t.root + 1) 2 8 s.t.mc s.t.mt s.t.lc s.t.lt 8 8 da ta = false := by
  simp [secB, h.replay hb (j := 0) (by omega)]
theorem xor_word {d m : Nat} (hd : d < 4294967296) (hm : m < 4294967296) : d ^^^ m < 4294967296 := Nat.xor_lt_two_pow (n := 32) hd hm
theorem GoodS.tamper {key : Int} {s : SecX} (h : GoodS key s) (hb : s.t.root ≤ 1000) {k m : Int} (hk : 0 ≤ k ∧ k ≤ 7) (hm : 1 ≤ m ∧ m ≤ 4294967295) :
    rdOk key s.t.root 2 8 s.t.mc s.t.mt s.t.lc s.t.lt 8 8 (tDa 8 s.da k m) s.ta k = false ∧ (∀ j : Int, 0 ≤ j ∧ j ≤ 7 → j ≠ k → rdOk key s.t.root 2 8 s.t.mc s.t.mt s.t.lc s.t.lt 8 8 (tDa 8 s.da k m) s.ta j = true) ∧
    rdOk key s.t.root 2 8 s.t.mc s.t.mt s.t.lc s.t.lt 8 8 (tDa 8 (tDa 8 s.da k m) k m) s.ta k = true := by
  obtain ⟨n, rfl⟩ : ∃ n : Nat, k = n := ⟨k.toNat, by omega⟩
  obtain ⟨q, rfl⟩ : ∃ q : Nat, m = q := ⟨m.toNat, by omega⟩
  obtain ⟨_, hdw, hok, _⟩ := h.line hb (n := n) (by omega)
  obtain ⟨d, hd, hde⟩ := isW_of hdw
  have hq : q < 4294967296 := by omega
  have hx := xor_word hd hq
  have hqw : isW (q : Int) = true := isW_nat hq
  have hbt : btw (n : Int) 0 7 = true := btw_yes hk
  have ht := (h.2 n (by omega)).2.2
  have e1 : tOk 8 s.da (n : Int) (q : Int) = true := by simp [tOk, hbt, hdw, hqw]
  have v1 : tDa 8 s.da (n : Int) (q : Int) n = ((d ^^^ q : Nat) : Int) := by
    simp only [tDa, e1, Int.toNat_natCast, and_self, if_true]
    rw [hde, bits_xor_i64 d q hd hq]
  have hne : d ≠ d ^^^ q := fun e => by
    have : d ^^^ 0 = d ^^^ q := by rw [Nat.xor_zero]; exact e
    have := xor_cancel this
    omega
  have e2 : tOk 8 (tDa 8 s.da (n : Int) (q : Int)) (n : Int) (q : Int) = true := by simp [tOk, hbt, hqw, v1, isW_nat hx]
  have v2 : tDa 8 (tDa 8 s.da (n : Int) (q : Int)) (n : Int) (q : Int) n = s.da n := by
    have : tDa 8 (tDa 8 s.da (n : Int) (q : Int)) (n : Int) (q : Int) n = bits .xor .i64 (tDa 8 s.da (n : Int) (q : Int) n) (q : Int) := by
      simp only [tDa, e1, e2, Int.toNat_natCast, and_self, if_true]
    rw [this, v1, bits_xor_i64 _ q hx hq, hde]
    rw [Nat.xor_assoc, Nat.xor_self, Nat.xor_zero]
  refine ⟨?_, fun j hj hjk => ?_, ?_⟩
  · cases hr : rdOk key s.t.root 2 8 s.t.mc s.t.mt s.t.lc s.t.lt 8 8 (tDa 8 s.da (n : Int) (q : Int)) s.ta (n : Int)
    · rfl
    · exfalso
      simp only [rdOk, Bool.and_eq_true, Int.toNat_natCast] at hr
      have he := eq_of_beq hr.2
      rw [v1, ht, hde] at he
      rw [hde] at hok
      exact tagW_word hok (isW_nat hx) (by omega) he
  · have hr := (h.rd hb hj).1
    have hv : tDa 8 s.da (n : Int) (q : Int) j.toNat = s.da j.toNat := by
      have : ¬ j.toNat = n := by omega
      simp only [tDa, Int.toNat_natCast, this, and_false, if_false]
    simp only [rdOk, hv] at hr ⊢
    exact hr
  · have hr := (h.rd hb hk).1
    simp only [rdOk, Int.toNat_natCast, v2] at hr ⊢
    exact hr
def sSNewX : Sm := fun args ch kk =>
  match args with
  | [.a (.c c0)] =>
    match ints [c0] with
    | some [key] => isW key = true ∧ ∀ (s : SecX) (ro0 : Option Addr) (rc0 : Nat) (ro1 : Option Addr) (rc1 : Nat) (ro2 : Option Addr) (rc2 : Nat) (ro3 : Option Addr) (rc3 : Nat), (GoodS key s ∧ s.t.root = 0) → kk (.tup [.agg [.int key, .int (s.t.root), .sl (ch.length) ro0 2 rc0, .sl (ch.length + 1) ro1 8 rc1, .sl (ch.length + 2) ro2 8 rc2, .sl (ch.length + 3) ro3 8 rc3], .c (.lit true)]) (ch ++ [.row ⟨true, ro0, 37, 2, 2, rc0, [fun i => .int (s.t.mc i), fun i => .int (s.t.mt i)]⟩, .row ⟨true, ro1, 37, 2, 8, rc1, [fun i => .int (s.t.lc i), fun i => .int (s.t.lt i)]⟩, .row ⟨true, ro2, 3, 1, 8, rc2, [fun i => .int (s.da i)]⟩, .row ⟨true, ro3, 3, 1, 8, rc3, [fun i => .int (s.ta i)]⟩]) []
    | _ => False
  | _ => False
theorem sSNewX_S : SmOK Try.prog 56 sSNewX := by
  refine smOf sSNew_ok_snewS fun args ch kk h => ?_
  unfold sSNewX at h
  unfold sSNew
  split at h
  · split at h
    · rename_i c0 key hi
      obtain ⟨hk, h⟩ := h
      simp only [hi]
      intro ro0 rc0 ro1 rc1 ro2 rc2 ro3 rc3
      simp only [hk, ifN, ifZ, if_true]
      refine ⟨_, ?_, h ⟨⟨0, fun _ => 0, newMT key, fun _ => 0, newLT key⟩, fun _ => 0, newDa key, newTa key⟩ ro0 rc0 ro1 rc1 ro2 rc2 ro3 rc3 ⟨goodS_new hk, rfl⟩⟩
      rfl
    · exact h.elim
  · exact h.elim
def sSWriteX : Sm := fun args ch kk =>
  match args with
  | [.a (.agg [c0, c1, .sl i0 a0 n0 d0, .sl i1 a1 n1 d1, .sl i2 a2 n2 d2, .sl i3 a3 n3 d3]), .a (.c c2), .a (.c c3)] =>
    match ch[i0]?, ch[i1]?, ch[i2]?, ch[i3]?, ints [c0, c1, c2, c3] with
    | some (.row r0), some (.row r1), some (.row r2), some (.row r3), some [key, root, line, x] => ∃ s : SecX, (a0 = r0.ao ∧ n0 = r0.n ∧ r0.fld = [fun i => .int (s.t.mc i), fun i => .int (s.t.mt i)] ∧ a1 = r1.ao ∧ n1 = r1.n ∧ r1.fld = [fun i => .int (s.t.lc i), fun i => .int (s.t.lt i)] ∧ a2 = r2.ao ∧ n2 = r2.n ∧ r2.fld = [fun i => .int (s.da i)] ∧ a3 = r3.ao ∧ n3 = r3.n ∧ r3.fld = [fun i => .int (s.ta i)] ∧ r0.n = 2 ∧ r1.n = 8 ∧ r2.n = 8 ∧ r3.n = 8 ∧ root = s.t.root ∧ GoodS key s ∧ leZ s.t.root 1000 ∧ inR line 0 7 ∧ inR x 0 4294967295) ∧
        ∀ (s' : SecX) (ro0 : Option Addr) (rc0 : Nat) (ro1 : Option Addr) (rc1 : Nat) (ro2 : Option Addr) (rc2 : Nat) (ro3 : Option Addr) (rc3 : Nat), (GoodS key s' ∧ WriteX s line x s') → kk (.tup [.agg [.int key, .int (s'.t.root), .sl (ch.length) ro0 2 rc0, .sl (ch.length + 1) ro1 8 rc1, .sl (ch.length + 2) ro2 8 rc2, .sl (ch.length + 3) ro3 8 rc3], .c (.lit true)]) (ch ++ [.row ⟨true, ro0, 37, 2, 2, rc0, [fun i => .int (s'.t.mc i), fun i => .int (s'.t.mt i)]⟩, .row ⟨true, ro1, 37, 2, 8, rc1, [fun i => .int (s'.t.lc i), fun i => .int (s'.t.lt i)]⟩, .row ⟨true, ro2, 3, 1, 8, rc2, [fun i => .int (s'.da i)]⟩, .row ⟨true, ro3, 3, 1, 8, rc3, [fun i => .int (s'.ta i)]⟩]) []
    | _, _, _, _, _ => False
  | _ => False
theorem sSWriteX_I : SmOK Try.prog 25 sSWriteX := by
  refine smOf sSWrite_ok_swriteI fun args ch kk h => ?_
  unfold sSWriteX at h
  unfold sSWrite
  split at h
  · split at h
    · rename_i r0 r1 r2 r3 key root line x hr0 hr1 hr2 hr3 hi
      obtain ⟨s, ⟨ha0, rfl, hf0, ha1, rfl, hf1, ha2, rfl, hf2, ha3, rfl, hf3, hn0, hn1, hn2, hn3, rfl, hg, hb, hl, hx⟩, h⟩ := h
      simp only [hr0, hr1, hr2, hr3, hi]
      refine ⟨s.t.mc, s.t.mt, s.t.lc, s.t.lt, s.da, s.ta, ⟨ha0, (by first | rfl | exact True.intro), hf0, ha1, (by first | rfl | exact True.intro), hf1, ha2, (by first | rfl | exact True.intro), hf2, ha3, (by first | rfl | exact True.intro), hf3, by rw [hn0]; decide, by rw [hn1]; decide, by rw [hn2]; decide, by rw [hn3]; decide⟩, fun ro0 rc0 ro1 rc1 ro2 rc2 ro3 rc3 => ?_⟩
      rw [hn0, hn1, hn2, hn3]
      have hW := GoodS.write hg hb hl (x := x) (isW_small hx)
      simp only [hW.1, selZ, if_true]
      refine ⟨_, ?_, h (writeS key s line x) ro0 rc0 ro1 rc1 ro2 rc2 ro3 rc3 hW.2⟩
      rfl
    · exact h.elim
  · exact h.elim
theorem sSWriteX_S : SmOK Try.prog 22 sSWriteX := by
  refine smOf sSWrite_ok_swriteS fun args ch kk h => ?_
  unfold sSWriteX at h
  unfold sSWrite
  split at h
  · split at h
    · rename_i r0 r1 r2 r3 key root line x hr0 hr1 hr2 hr3 hi
      obtain ⟨s, ⟨ha0, rfl, hf0, ha1, rfl, hf1, ha2, rfl, hf2, ha3, rfl, hf3, hn0, hn1, hn2, hn3, rfl, hg, hb, hl, hx⟩, h⟩ := h
      simp only [hr0, hr1, hr2, hr3, hi]
      refine ⟨s.t.mc, s.t.mt, s.t.lc, s.t.lt, s.da, s.ta, ⟨ha0, (by first | rfl | exact True.intro), hf0, ha1, (by first | rfl | exact True.intro), hf1, ha2, (by first | rfl | exact True.intro), hf2, ha3, (by first | rfl | exact True.intro), hf3, by rw [hn0]; decide, by rw [hn1]; decide, by rw [hn2]; decide, by rw [hn3]; decide⟩, fun ro0 rc0 ro1 rc1 ro2 rc2 ro3 rc3 => ?_⟩
      rw [hn0, hn1, hn2, hn3]
      have hW := GoodS.write hg hb hl (x := x) (isW_small hx)
      simp only [hW.1, selZ, if_true]
      refine ⟨_, ?_, h (writeS key s line x) ro0 rc0 ro1 rc1 ro2 rc2 ro3 rc3 hW.2⟩
      rfl
    · exact h.elim
  · exact h.elim
def sSRepX : Sm := fun args ch kk =>
  match args with
  | [.a (.agg [c0, c1, .sl i0 a0 n0 d0, .sl i1 a1 n1 d1, .sl i2 a2 n2 d2, .sl i3 a3 n3 d3]), .a (.agg [c2, c3, .sl i4 a4 n4 d4, .sl i5 a5 n5 d5, .sl i6 a6 n6 d6, .sl i7 a7 n7 d7]), .a (.c c4)] =>
    match ch[i0]?, ch[i1]?, ch[i2]?, ch[i3]?, ch[i4]?, ch[i5]?, ch[i6]?, ch[i7]?, ints [c0, c1, c2, c3, c4] with
    | some (.row r0), some (.row r1), some (.row r2), some (.row r3), some (.row r4), some (.row r5), some (.row r6), some (.row r7), some [key, root, oldKey, oldRoot, line] => ∃ gMid0 gMid1 gLeaf0 gLeaf1 gDa gTa hMid0 hMid1 hLeaf0 hLeaf1 hDa hTa : Nat → Int, (a0 = r0.ao ∧ n0 = r0.n ∧ r0.fld = [fun i => .int (gMid0 i), fun i => .int (gMid1 i)] ∧ a1 = r1.ao ∧ n1 = r1.n ∧ r1.fld = [fun i => .int (gLeaf0 i), fun i => .int (gLeaf1 i)] ∧ a2 = r2.ao ∧ n2 = r2.n ∧ r2.fld = [fun i => .int (gDa i)] ∧ a3 = r3.ao ∧ n3 = r3.n ∧ r3.fld = [fun i => .int (gTa i)] ∧ a4 = r4.ao ∧ n4 = r4.n ∧ r4.fld = [fun i => .int (hMid0 i), fun i => .int (hMid1 i)] ∧ a5 = r5.ao ∧ n5 = r5.n ∧ r5.fld = [fun i => .int (hLeaf0 i), fun i => .int (hLeaf1 i)] ∧ a6 = r6.ao ∧ n6 = r6.n ∧ r6.fld = [fun i => .int (hDa i)] ∧ a7 = r7.ao ∧ n7 = r7.n ∧ r7.fld = [fun i => .int (hTa i)] ∧ r0.n = 2 ∧ r1.n = 8 ∧ r2.n = 8 ∧ r3.n = 8 ∧ r4.n = 2 ∧ r5.n = 8 ∧ r6.n = 8 ∧ r7.n = 8 ∧ inR line 0 7) ∧
        ∀ (ro0 : Option Addr) (rc0 : Nat) (ro1 : Option Addr) (rc1 : Nat) (ro2 : Option Addr) (rc2 : Nat) (ro3 : Option Addr) (rc3 : Nat), kk (.a (.agg [.int key, .int (root), .sl (ch.length) ro0 2 rc0, .sl (ch.length + 1) ro1 8 rc1, .sl (ch.length + 2) ro2 8 rc2, .sl (ch.length + 3) ro3 8 rc3])) (ch ++ [.row ⟨true, ro0, 37, 2, 2, rc0, [fun i => .int (hMid0 i), fun i => .int (hMid1 i)]⟩, .row ⟨true, ro1, 37, 2, 8, rc1, [fun i => .int (hLeaf0 i), fun i => .int (hLeaf1 i)]⟩, .row ⟨true, ro2, 3, 1, 8, rc2, [fun i => .int (pD line gDa hDa i)]⟩, .row ⟨true, ro3, 3, 1, 8, rc3, [fun i => .int (pD line gTa hTa i)]⟩]) []
    | _, _, _, _, _, _, _, _, _ => False
  | _ => False
theorem sSRepX_I : SmOK Try.prog 23 sSRepX := by
  refine smOf sSRep_ok_srepI fun args ch kk h => ?_
  unfold sSRepX at h
  unfold sSRep
  split at h
  · split at h
    · rename_i r0 r1 r2 r3 r4 r5 r6 r7 key root oldKey oldRoot line hr0 hr1 hr2 hr3 hr4 hr5 hr6 hr7 hi
      obtain ⟨gMid0, gMid1, gLeaf0, gLeaf1, gDa, gTa, hMid0, hMid1, hLeaf0, hLeaf1, hDa, hTa, ⟨ha0, rfl, hf0, ha1, rfl, hf1, ha2, rfl, hf2, ha3, rfl, hf3, ha4, rfl, hf4, ha5, rfl, hf5, ha6, rfl, hf6, ha7, rfl, hf7, hn0, hn1, hn2, hn3, hn4, hn5, hn6, hn7, hl⟩, h⟩ := h
      simp only [hr0, hr1, hr2, hr3, hr4, hr5, hr6, hr7, hi]
      refine ⟨gMid0, gMid1, gLeaf0, gLeaf1, gDa, gTa, hMid0, hMid1, hLeaf0, hLeaf1, hDa, hTa, ⟨ha0, (by first | rfl | exact True.intro), hf0, ha1, (by first | rfl | exact True.intro), hf1, ha2, (by first | rfl | exact True.intro), hf2, ha3, (by first | rfl | exact True.intro), hf3, ha4, (by first | rfl | exact True.intro), hf4, ha5, (by first | rfl | exact True.intro), hf5, ha6, (by first | rfl | exact True.intro), hf6, ha7, (by first | rfl | exact True.intro), hf7, by rw [hn0]; decide, by rw [hn1]; decide, by rw [hn2]; decide, by rw [hn3]; decide, by rw [hn4]; decide, by rw [hn5]; decide, by rw [hn6]; decide, by rw [hn7]; decide⟩, fun ro0 rc0 ro1 rc1 ro2 rc2 ro3 rc3 => ?_⟩
      rw [hn0, hn1, hn2, hn3, hn4, hn5, hn6, hn7]
      have hp : pOk 8 8 8 8 line = true := by simp [pOk, fitsB, btw_yes hl]
      simp only [hp, selZ, selN, pDa, if_true, true_and]
      refine ⟨_, ?_, h ro0 rc0 ro1 rc1 ro2 rc2 ro3 rc3⟩
      rfl
    · exact h.elim
  · exact h.elim
end Go.Proofs.Ytppeocfcdeiemaa
