/-
  Parity of small numbers.
-/
import Derived.Test.YtkfinkolllpcgaaSxOnes
namespace Go.Proofs.Ytkfinkolllpcgaa
set_option linter.unusedVariables false
set_option linter.unusedSimpArgs false
open Go.RowKit
set_option maxRecDepth 100000
set_option maxHeartbeats 8000000

def parV (x : Int) : Int := onesV x % 2
abbrev parC (x : Int) : Prop := 0 ≤ x ∧ x ≤ 16383
def bitV (x i : Int) : Int := bits .and .i64 (shrI x i) 1
theorem wrapU_low {x : Int} (h : 0 ≤ x ∧ x ≤ 4294967295) : wrapU x = x := by
  simp [wrapU, IntKind.wrap, IntKind.bits, IntKind.signed]; omega
theorem bit_le (x i : Int) : 0 ≤ bitV x i ∧ bitV x i ≤ 1 := by
  have h2 : (BitVec.ofInt 64 (1 : Int)).toNat = 1 := by decide
  have : bitV x i = IntKind.i64.wrap (((BitVec.ofInt 64 (shrI x i)) &&& (BitVec.ofInt 64 (1 : Int))).toNat : Int) := rfl
  rw [this, BitVec.toNat_and, h2, IntKind.wrap_i64]
  have h3 : (BitVec.ofInt 64 (shrI x i)).toNat &&& 1 ≤ 1 := Nat.and_le_right
  generalize (BitVec.ofInt 64 (shrI x i)).toNat &&& 1 = y at *
  omega
theorem bit_nat (n i : Nat) (hn : n < 9223372036854775808) : bitV (n : Int) (i : Int) = ((n / 2 ^ i % 2 : Nat) : Int) := by
  have h2 : (BitVec.ofInt 64 (1 : Int)).toNat = 1 := by decide
  have e : shrI (n : Int) (i : Int) = ((n / 2 ^ i : Nat) : Int) := by
    simp [shrI]
  have hle : n / 2 ^ i ≤ n := Nat.div_le_self _ _
  have h1 : ∀ m : Nat, m < 9223372036854775808 → (BitVec.ofInt 64 (m : Int)).toNat = m := fun m hm => by simp; omega
  have : bitV (n : Int) (i : Int) = IntKind.i64.wrap (((BitVec.ofInt 64 (shrI (n : Int) (i : Int))) &&& (BitVec.ofInt 64 (1 : Int))).toNat : Int) := rfl
  rw [this, e, BitVec.toNat_and, h1 _ (by omega), h2, IntKind.wrap_i64, Nat.and_one_is_mod]
  omega
theorem cnt_zero : ∀ k, cntN k 0 = 0 := by
  intro k
  induction k with
  | zero => rfl
  | succ k ih => simp [cntN, ih]
theorem cnt_more : ∀ (k m x : Nat), x < 2 ^ k → cntN (k + m) x = cntN k x := by
  intro k
  induction k with
  | zero => intro m x hx; have : x = 0 := by omega
            subst this; simp [cnt_zero, cntN]
  | succ k ih =>
    intro m x hx
    rw [show k + 1 + m = (k + m) + 1 by omega]
    simp only [cntN]
    rw [ih m (x / 2) (by omega)]
def sIsWI : Sm := inlM Try.prog {tb := [(50, sBtw)]} 300 Try.f84
theorem sIsWI_ok : SmOK Try.prog 84 sIsWI := inlM_ok mixed (E := {tb := [(50, sBtw)]}) ⟨sBtwI_ok, trivial⟩ Try.func84 Try.call84 (fun _ _ _ => loopsOK_nil _ _ _)
def sIsWS : Sm := inlM Try.prog {tb := [(48, sBtw)]} 300 Try.f89
theorem sIsWS_ok : SmOK Try.prog 89 sIsWS := inlM_ok mixed (E := {tb := [(48, sBtw)]}) ⟨sBtwS_ok, trivial⟩ Try.func89 Try.call89 (fun _ _ _ => loopsOK_nil _ _ _)
def sOnesC : Sm := inlM Try.prog {tb := [(88, sOnes)]} 300 Try.f85
theorem sOnesC_ok : SmOK Try.prog 85 sOnesC := inlM_ok mixed (E := {tb := [(88, sOnes)]}) ⟨sOnes_ok, trivial⟩ Try.func85 Try.call85 (fun _ _ _ => loopsOK_nil _ _ _)
def sCntI : Sm := inlM Try.prog {tb := [(84, sIsWI), (85, sOnesC)]} 300 Try.f77
theorem sCntI_ok : SmOK Try.prog 77 sCntI := inlM_ok mixed (E := {tb := [(84, sIsWI), (85, sOnesC)]}) ⟨sIsWI_ok, sOnesC_ok, trivial⟩ Try.func77 Try.call77 (fun _ _ _ => loopsOK_nil _ _ _)
abbrev bitC (x i : Int) : Prop := (0 ≤ x ∧ x ≤ 4294967295) ∧ 0 ≤ i ∧ i ≤ 31
abbrev bit1 (z : Int) : Prop := 0 ≤ z ∧ z ≤ 1
theorem bitS_T (x : Int) (i : Int) : (exFn Try.prog {tb := [(89, sIsWS), (48, sBtw)]} 400 Try.f86 ([.a (.c (.int x)), .a (.c (.int i))]) ([]) (fun v _ => v.den = .int .i64 (bitV x i))) = (
  (((!(btw x (0 : Int) (4294967295 : Int))) = Bool.false →
  (((!(btw i (0 : Int) (31 : Int))) = Bool.true →
   (Value.int IntKind.i64 (0 : Int)) = (Value.int IntKind.i64 (bitV x i))) ∧
   ((!(btw i (0 : Int) (31 : Int))) = Bool.false →
   ((shC (wrapU i)) ∧
    (Value.int IntKind.i64 (bits BinOp.and .i64 (shrI x (wrapU i)) (1 : Int))) = (Value.int IntKind.i64 (bitV x i)))))) ∧
  ((!(btw x (0 : Int) (4294967295 : Int))) = Bool.true →
  (Value.int IntKind.i64 (0 : Int)) = (Value.int IntKind.i64 (bitV x i))))) := by kernel_rfl
theorem bitS_any (x : Int) (i : Int) (w : World) (hpre : bitC x i) : Calls Try.prog 86 #[.int .i64 x, .int .i64 i] w fun e w' => e = .returned (.int .i64 (bitV x i)) ∧ Below w.heap.size w w' := by
  refine fnB (tb := [(89, sIsWS), (48, sBtw)]) ⟨sIsWS_ok, sBtwS_ok, trivial⟩ Try.func86 (@Eq.mpr _ _ (bitS_T x i) ?_) (HS.start w (fun _ => False)) (fun v ch' w' hk hs => ⟨by rw [hk], hs.below⟩)
  have hb : btw x 0 4294967295 = true := btw_mk' (by omega)
  have hc : btw i 0 31 = true := btw_mk' (by omega)
  have hw : wrapU i = i := wrapU_low (by omega)
  simp only [hw, hb, hc]
  simp [bitV]
  omega
def sBit : Sm := fun args ch kk =>
  match args with
  | [.a (.c c0), .a (.c c1)] =>
    match ints [c0, c1] with
    | some [x, i] => (bitC x i) ∧ ∀ z : Int, z = bitV x i → bit1 z → kk (.a (.c (.int z))) ch []
    | _ => False
  | _ => False
theorem sBit_ok {f : FuncId} (hc : ∀ args w, (callFunc f args).run Try.prog w = .ok (.enter f args) w) (h : ∀ (x : Int) (i : Int) (w : World), bitC x i → Calls Try.prog f #[.int .i64 x, .int .i64 i] w fun e w' => e = .returned (.int .i64 (bitV x i)) ∧ Below w.heap.size w w') : SmOK Try.prog f sBit := by
  refine smB hc fun args ch kk w X h0 hs => ?_
  unfold sBit at h0
  split at h0
  · rename_i c0 c1
    split at h0
    · rename_i x i hi
      obtain ⟨hpre, h0⟩ := h0
      obtain ⟨ec0, hi⟩ := ints_cons hi
      obtain ⟨ec1, hi⟩ := ints_cons hi
      refine ⟨_, h0 _ rfl (bit_le x i), ?_⟩
      simp only [List.map_cons, List.map_nil, den_a, den_c, SA.den, den_sl, ec0, ec1]
      exact h x i w hpre
    · exact h0.elim
  · exact h0.elim
theorem sBit_ok_bitS : SmOK Try.prog 86 sBit := sBit_ok Try.call86 (fun x i w hp => bitS_any x i w hp)
def sCntS : Sm := inlM Try.prog {tb := [(86, sBit)]} 300 Try.f79
theorem sCntS_ok : SmOK Try.prog 79 sCntS := inlM_ok mixed (E := {tb := [(86, sBit)]}) ⟨sBit_ok_bitS, trivial⟩ Try.func79 Try.call79 (fun _ _ _ => loopsOK_nil _ _ _)
def sumB : Nat → Int → Int
  | 0, _ => 0
  | k + 1, x => sumB k x + bitV x (k : Int)
theorem cnt_next : ∀ (k n : Nat), cntN (k + 1) n = cntN k n + n / 2 ^ k % 2 := by
  intro k
  induction k with
  | zero => intro n; simp [cntN]
  | succ k ih =>
    intro n
    rw [show cntN (k + 1 + 1) n = n % 2 + cntN (k + 1) (n / 2) from rfl, ih (n / 2), show cntN (k + 1) n = n % 2 + cntN k (n / 2) from rfl, Nat.div_div_eq_div_mul, show 2 * 2 ^ k = 2 ^ (k + 1) by omega]
    omega
theorem sumB_cnt (n : Nat) (hn : n < 9223372036854775808) : ∀ k, sumB k (n : Int) = (cntN k n : Int) := by
  intro k
  induction k with
  | zero => rfl
  | succ k ih => rw [sumB, ih, bit_nat n k hn, cnt_next]; omega
theorem par_sum {x : Int} (h : 0 ≤ x ∧ x ≤ 16383) : sumB 32 x % 2 = parV x := by
  obtain ⟨n, rfl⟩ : ∃ n : Nat, x = n := ⟨x.toNat, by omega⟩
  rw [sumB_cnt n (by omega), parV, ones_low h]
  have := cnt_more 14 18 n (by omega)
  rw [this]
  rfl
theorem parI_T (x : Int) : (exFn Try.prog {tb := [(77, sCntI)]} 400 Try.f68 ([.a (.c (.int x))]) ([]) (fun v _ => v.den = .int .i64 (parV x))) = (
  (((!(btw x (0 : Int) (4294967295 : Int))) = Bool.true →
  (Value.int IntKind.i64 (0 : Int)) = (Value.int IntKind.i64 (parV x))) ∧
  ((!(btw x (0 : Int) (4294967295 : Int))) = Bool.false →
  ((divC (onesV (wrapU x)) (2 : Int)) ∧
   (Value.int IntKind.i64 ((onesV (wrapU x)) % (2 : Int))) = (Value.int IntKind.i64 (parV x)))))) := by kernel_rfl
theorem parI_any (x : Int) (w : World) (hpre : parC x) : Calls Try.prog 68 #[.int .i64 x] w fun e w' => e = .returned (.int .i64 (parV x)) ∧ Below w.heap.size w w' := by
  refine fnB (tb := [(77, sCntI)]) ⟨sCntI_ok, trivial⟩ Try.func68 (@Eq.mpr _ _ (parI_T x) ?_) (HS.start w (fun _ => False)) (fun v ch' w' hk hs => ⟨by rw [hk], hs.below⟩)
  have hb : btw x 0 4294967295 = true := btw_mk' (by omega)
  have hw : wrapU x = x := wrapU_low (by omega)
  have ho := ones_low hpre
  have hl := cnt_le 14 x.toNat
  simp only [hw, hb]
  simp [parV]
  omega
theorem parS_T (x : Int) : (exFn Try.prog {tb := [(79, sCntS)]} 400 Try.f73 ([.a (.c (.int x))]) ([]) (fun v _ => v.den = .int .i64 (parV x))) = (
  ((bitC x (0 : Int)) ∧
  (∀ z0 : Int,
  (z0 = (bitV x (0 : Int)) →
  ((bit1 z0) →
   ((rng ((0 : Int) + z0)) ∧
    ((bitC x (1 : Int)) ∧
    (∀ z1 : Int,
    (z1 = (bitV x (1 : Int)) →
    ((bit1 z1) →
     ((rng (((0 : Int) + z0) + z1)) ∧
      ((bitC x (2 : Int)) ∧
      (∀ z2 : Int,
      (z2 = (bitV x (2 : Int)) →
      ((bit1 z2) →
       ((rng ((((0 : Int) + z0) + z1) + z2)) ∧
        ((bitC x (3 : Int)) ∧
        (∀ z3 : Int,
        (z3 = (bitV x (3 : Int)) →
        ((bit1 z3) →
         ((rng (((((0 : Int) + z0) + z1) + z2) + z3)) ∧
          ((bitC x (4 : Int)) ∧
          (∀ z4 : Int,
          (z4 = (bitV x (4 : Int)) →
          ((bit1 z4) →
           ((rng ((((((0 : Int) + z0) + z1) + z2) + z3) + z4)) ∧
            ((bitC x (5 : Int)) ∧
            (∀ z5 : Int,
            (z5 = (bitV x (5 : Int)) →
            ((bit1 z5) →
             ((rng (((((((0 : Int) + z0) + z1) + z2) + z3) + z4) + z5)) ∧
              ((bitC x (6 : Int)) ∧
              (∀ z6 : Int,
              (z6 = (bitV x (6 : Int)) →
              ((bit1 z6) →
               ((rng ((((((((0 : Int) + z0) + z1) + z2) + z3) + z4) + z5) + z6)) ∧
                ((bitC x (7 : Int)) ∧
                (∀ z7 : Int,
                (z7 = (bitV x (7 : Int)) →
                ((bit1 z7) →
                 ((rng (((((((((0 : Int) + z0) + z1) + z2) + z3) + z4) + z5) + z6) + z7)) ∧
                  ((bitC x (8 : Int)) ∧
                  (∀ z8 : Int,
                  (z8 = (bitV x (8 : Int)) →
                  ((bit1 z8) →
                   ((rng ((((((((((0 : Int) + z0) + z1) + z2) + z3) + z4) + z5) + z6) + z7) + z8)) ∧
                    ((bitC x (9 : Int)) ∧
                    (∀ z9 : Int,
                    (z9 = (bitV x (9 : Int)) →
                    ((bit1 z9) →
                     ((rng (((((((((((0 : Int) + z0) + z1) + z2) + z3) + z4) + z5) + z6) + z7) + z8) + z9)) ∧
                      ((bitC x (10 : Int)) ∧
                      (∀ z10 : Int,
                      (z10 = (bitV x (10 : Int)) →
                      ((bit1 z10) →
                       ((rng ((((((((((((0 : Int) + z0) + z1) + z2) + z3) + z4) + z5) + z6) + z7) + z8) + z9) + z10)) ∧
                        ((bitC x (11 : Int)) ∧
                        (∀ z11 : Int,
                        (z11 = (bitV x (11 : Int)) →
                        ((bit1 z11) →
                         ((rng (((((((((((((0 : Int) + z0) + z1) + z2) + z3) + z4) + z5) + z6) + z7) + z8) + z9) + z10) + z11)) ∧
                          ((bitC x (12 : Int)) ∧
                          (∀ z12 : Int,
                          (z12 = (bitV x (12 : Int)) →
                          ((bit1 z12) →
                           ((rng ((((((((((((((0 : Int) + z0) + z1) + z2) + z3) + z4) + z5) + z6) + z7) + z8) + z9) + z10) + z11) + z12)) ∧
                            ((bitC x (13 : Int)) ∧
                            (∀ z13 : Int,
                            (z13 = (bitV x (13 : Int)) →
                            ((bit1 z13) →
                             ((rng (((((((((((((((0 : Int) + z0) + z1) + z2) + z3) + z4) + z5) + z6) + z7) + z8) + z9) + z10) + z11) + z12) + z13)) ∧
                              ((bitC x (14 : Int)) ∧
                              (∀ z14 : Int,
                              (z14 = (bitV x (14 : Int)) →
                              ((bit1 z14) →
                               ((rng ((((((((((((((((0 : Int) + z0) + z1) + z2) + z3) + z4) + z5) + z6) + z7) + z8) + z9) + z10) + z11) + z12) + z13) + z14)) ∧
                                ((bitC x (15 : Int)) ∧
                                (∀ z15 : Int,
                                (z15 = (bitV x (15 : Int)) →
                                ((bit1 z15) →
                                 ((rng (((((((((((((((((0 : Int) + z0) + z1) + z2) + z3) + z4) + z5) + z6) + z7) + z8) + z9) + z10) + z11) + z12) + z13) + z14) + z15)) ∧
                                  ((bitC x (16 : Int)) ∧
                                  (∀ z16 : Int,
                                  (z16 = (bitV x (16 : Int)) →
                                  ((bit1 z16) →
                                   ((rng ((((((((((((((((((0 : Int) + z0) + z1) + z2) + z3) + z4) + z5) + z6) + z7) + z8) + z9) + z10) + z11) + z12) + z13) + z14) + z15) + z16)) ∧
                                    ((bitC x (17 : Int)) ∧
                                    (∀ z17 : Int,
                                    (z17 = (bitV x (17 : Int)) →
                                    ((bit1 z17) →
                                     ((rng (((((((((((((((((((0 : Int) + z0) + z1) + z2) + z3) + z4) + z5) + z6) + z7) + z8) + z9) + z10) + z11) + z12) + z13) + z14) + z15) + z16) + z17)) ∧
                                      ((bitC x (18 : Int)) ∧
                                      (∀ z18 : Int,
                                      (z18 = (bitV x (18 : Int)) →
                                      ((bit1 z18) →
                                       ((rng ((((((((((((((((((((0 : Int) + z0) + z1) + z2) + z3) + z4) + z5) + z6) + z7) + z8) + z9) + z10) + z11) + z12) + z13) + z14) + z15) + z16) + z17) + z18)) ∧
                                        ((bitC x (19 : Int)) ∧
                                        (∀ z19 : Int,
                                        (z19 = (bitV x (19 : Int)) →
                                        ((bit1 z19) →
                                         ((rng (((((((((((((((((((((0 : Int) + z0) + z1) + z2) + z3) + z4) + z5) + z6) + z7) + z8) + z9) + z10) + z11) + z12) + z13) + z14) + z15) + z16) + z17) + z18) + z19)) ∧
                                          ((bitC x (20 : Int)) ∧
                                          (∀ z20 : Int,
                                          (z20 = (bitV x (20 : Int)) →
                                          ((bit1 z20) →
                                           ((rng ((((((((((((((((((((((0 : Int) + z0) + z1) + z2) + z3) + z4) + z5) + z6) + z7) + z8) + z9) + z10) + z11) + z12) + z13) + z14) + z15) + z16) + z17) + z18) + z19) + z20)) ∧
                                            ((bitC x (21 : Int)) ∧
                                            (∀ z21 : Int,
                                            (z21 = (bitV x (21 : Int)) →
                                            ((bit1 z21) →
                                             ((rng (((((((((((((((((((((((0 : Int) + z0) + z1) + z2) + z3) + z4) + z5) + z6) + z7) + z8) + z9) + z10) + z11) + z12) + z13) + z14) + z15) + z16) + z17) + z18) + z19) + z20) + z21)) ∧
                                              ((bitC x (22 : Int)) ∧
                                              (∀ z22 : Int,
                                              (z22 = (bitV x (22 : Int)) →
                                              ((bit1 z22) →
                                               ((rng ((((((((((((((((((((((((0 : Int) + z0) + z1) + z2) + z3) + z4) + z5) + z6) + z7) + z8) + z9) + z10) + z11) + z12) + z13) + z14) + z15) + z16) + z17) + z18) + z19) + z20) + z21) + z22)) ∧
                                                ((bitC x (23 : Int)) ∧
                                                (∀ z23 : Int,
                                                (z23 = (bitV x (23 : Int)) →
                                                ((bit1 z23) →
                                                 ((rng (((((((((((((((((((((((((0 : Int) + z0) + z1) + z2) + z3) + z4) + z5) + z6) + z7) + z8) + z9) + z10) + z11) + z12) + z13) + z14) + z15) + z16) + z17) + z18) + z19) + z20) + z21) + z22) + z23)) ∧
                                                  ((bitC x (24 : Int)) ∧
                                                  (∀ z24 : Int,
                                                  (z24 = (bitV x (24 : Int)) →
                                                  ((bit1 z24) →
                                                   ((rng ((((((((((((((((((((((((((0 : Int) + z0) + z1) + z2) + z3) + z4) + z5) + z6) + z7) + z8) + z9) + z10) + z11) + z12) + z13) + z14) + z15) + z16) + z17) + z18) + z19) + z20) + z21) + z22) + z23) + z24)) ∧
                                                    ((bitC x (25 : Int)) ∧
                                                    (∀ z25 : Int,
                                                    (z25 = (bitV x (25 : Int)) →
                                                    ((bit1 z25) →
                                                     ((rng (((((((((((((((((((((((((((0 : Int) + z0) + z1) + z2) + z3) + z4) + z5) + z6) + z7) + z8) + z9) + z10) + z11) + z12) + z13) + z14) + z15) + z16) + z17) + z18) + z19) + z20) + z21) + z22) + z23) + z24) + z25)) ∧
                                                      ((bitC x (26 : Int)) ∧
                                                      (∀ z26 : Int,
                                                      (z26 = (bitV x (26 : Int)) →
                                                      ((bit1 z26) →
                                                       ((rng ((((((((((((((((((((((((((((0 : Int) + z0) + z1) + z2) + z3) + z4) + z5) + z6) + z7) + z8) + z9) + z10) + z11) + z12) + z13) + z14) + z15) + z16) + z17) + z18) + z19) + z20) + z21) + z22) + z23) + z24) + z25) + z26)) ∧
                                                        ((bitC x (27 : Int)) ∧
                                                        (∀ z27 : Int,
                                                        (z27 = (bitV x (27 : Int)) →
                                                        ((bit1 z27) →
                                                         ((rng (((((((((((((((((((((((((((((0 : Int) + z0) + z1) + z2) + z3) + z4) + z5) + z6) + z7) + z8) + z9) + z10) + z11) + z12) + z13) + z14) + z15) + z16) + z17) + z18) + z19) + z20) + z21) + z22) + z23) + z24) + z25) + z26) + z27)) ∧
                                                          ((bitC x (28 : Int)) ∧
                                                          (∀ z28 : Int,
                                                          (z28 = (bitV x (28 : Int)) →
                                                          ((bit1 z28) →
                                                           ((rng ((((((((((((((((((((((((((((((0 : Int) + z0) + z1) + z2) + z3) + z4) + z5) + z6) + z7) + z8) + z9) + z10) + z11) + z12) + z13) + z14) + z15) + z16) + z17) + z18) + z19) + z20) + z21) + z22) + z23) + z24) + z25) + z26) + z27) + z28)) ∧
                                                            ((bitC x (29 : Int)) ∧
                                                            (∀ z29 : Int,
                                                            (z29 = (bitV x (29 : Int)) →
                                                            ((bit1 z29) →
                                                             ((rng (((((((((((((((((((((((((((((((0 : Int) + z0) + z1) + z2) + z3) + z4) + z5) + z6) + z7) + z8) + z9) + z10) + z11) + z12) + z13) + z14) + z15) + z16) + z17) + z18) + z19) + z20) + z21) + z22) + z23) + z24) + z25) + z26) + z27) + z28) + z29)) ∧
                                                              ((bitC x (30 : Int)) ∧
                                                              (∀ z30 : Int,
                                                              (z30 = (bitV x (30 : Int)) →
                                                              ((bit1 z30) →
                                                               ((rng ((((((((((((((((((((((((((((((((0 : Int) + z0) + z1) + z2) + z3) + z4) + z5) + z6) + z7) + z8) + z9) + z10) + z11) + z12) + z13) + z14) + z15) + z16) + z17) + z18) + z19) + z20) + z21) + z22) + z23) + z24) + z25) + z26) + z27) + z28) + z29) + z30)) ∧
                                                                ((bitC x (31 : Int)) ∧
                                                                (∀ z31 : Int,
                                                                (z31 = (bitV x (31 : Int)) →
                                                                ((bit1 z31) →
                                                                 ((rng (((((((((((((((((((((((((((((((((0 : Int) + z0) + z1) + z2) + z3) + z4) + z5) + z6) + z7) + z8) + z9) + z10) + z11) + z12) + z13) + z14) + z15) + z16) + z17) + z18) + z19) + z20) + z21) + z22) + z23) + z24) + z25) + z26) + z27) + z28) + z29) + z30) + z31)) ∧
                                                                  ((divC (((((((((((((((((((((((((((((((((0 : Int) + z0) + z1) + z2) + z3) + z4) + z5) + z6) + z7) + z8) + z9) + z10) + z11) + z12) + z13) + z14) + z15) + z16) + z17) + z18) + z19) + z20) + z21) + z22) + z23) + z24) + z25) + z26) + z27) + z28) + z29) + z30) + z31) (2 : Int)) ∧
                                                                  (Value.int IntKind.i64 ((((((((((((((((((((((((((((((((((0 : Int) + z0) + z1) + z2) + z3) + z4) + z5) + z6) + z7) + z8) + z9) + z10) + z11) + z12) + z13) + z14) + z15) + z16) + z17) + z18) + z19) + z20) + z21) + z22) + z23) + z24) + z25) + z26) + z27) + z28) + z29) + z30) + z31) % (2 : Int))) = (Value.int IntKind.i64 (parV x)))))))))))))))))))))))))))))))))))))))))))))))))))))))))))))))))))))))))))))))))))))))))))))))))))))))))))))))))))))))))))))))))))))))))))))))))))))))))))))))))))) := by kernel_rfl
theorem parS_any (x : Int) (w : World) (hpre : parC x) : Calls Try.prog 73 #[.int .i64 x] w fun e w' => e = .returned (.int .i64 (parV x)) ∧ Below w.heap.size w w' := by
  refine fnB (tb := [(79, sCntS)]) ⟨sCntS_ok, trivial⟩ Try.func73 (@Eq.mpr _ _ (parS_T x) ?_) (HS.start w (fun _ => False)) (fun v ch' w' hk hs => ⟨by rw [hk], hs.below⟩)
  have e : ∀ i : Int, 0 ≤ i → i ≤ 31 → bitC x i := fun i h0 h1 => ⟨⟨by omega, by omega⟩, h0, h1⟩
  refine ⟨e 0 (by omega) (by omega), ?_⟩
  intro z0 h0 l0
  refine ⟨⟨by omega, by omega⟩, ?_⟩
  refine ⟨e 1 (by omega) (by omega), ?_⟩
  intro z1 h1 l1
  refine ⟨⟨by omega, by omega⟩, ?_⟩
  refine ⟨e 2 (by omega) (by omega), ?_⟩
  intro z2 h2 l2
  refine ⟨⟨by omega, by omega⟩, ?_⟩
  refine ⟨e 3 (by omega) (by omega), ?_⟩
  intro z3 h3 l3
  refine ⟨⟨by omega, by omega⟩, ?_⟩
  refine ⟨e 4 (by omega) (by omega), ?_⟩
  intro z4 h4 l4
  refine ⟨⟨by omega, by omega⟩, ?_⟩
  refine ⟨e 5 (by omega) (by omega), ?_⟩
  intro z5 h5 l5
  refine ⟨⟨by omega, by omega⟩, ?_⟩
  refine ⟨e 6 (by omega) (by omega), ?_⟩
  intro z6 h6 l6
  refine ⟨⟨by omega, by omega⟩, ?_⟩
  refine ⟨e 7 (by omega) (by omega), ?_⟩
  intro z7 h7 l7
  refine ⟨⟨by omega, by omega⟩, ?_⟩
  refine ⟨e 8 (by omega) (by omega), ?_⟩
  intro z8 h8 l8
  refine ⟨⟨by omega, by omega⟩, ?_⟩
  refine ⟨e 9 (by omega) (by omega), ?_⟩
  intro z9 h9 l9
  refine ⟨⟨by omega, by omega⟩, ?_⟩
  refine ⟨e 10 (by omega) (by omega), ?_⟩
  intro z10 h10 l10
  refine ⟨⟨by omega, by omega⟩, ?_⟩
  refine ⟨e 11 (by omega) (by omega), ?_⟩
  intro z11 h11 l11
  refine ⟨⟨by omega, by omega⟩, ?_⟩
  refine ⟨e 12 (by omega) (by omega), ?_⟩
  intro z12 h12 l12
  refine ⟨⟨by omega, by omega⟩, ?_⟩
  refine ⟨e 13 (by omega) (by omega), ?_⟩
  intro z13 h13 l13
  refine ⟨⟨by omega, by omega⟩, ?_⟩
  refine ⟨e 14 (by omega) (by omega), ?_⟩
  intro z14 h14 l14
  refine ⟨⟨by omega, by omega⟩, ?_⟩
  refine ⟨e 15 (by omega) (by omega), ?_⟩
  intro z15 h15 l15
  refine ⟨⟨by omega, by omega⟩, ?_⟩
  refine ⟨e 16 (by omega) (by omega), ?_⟩
  intro z16 h16 l16
  refine ⟨⟨by omega, by omega⟩, ?_⟩
  refine ⟨e 17 (by omega) (by omega), ?_⟩
  intro z17 h17 l17
  refine ⟨⟨by omega, by omega⟩, ?_⟩
  refine ⟨e 18 (by omega) (by omega), ?_⟩
  intro z18 h18 l18
  refine ⟨⟨by omega, by omega⟩, ?_⟩
  refine ⟨e 19 (by omega) (by omega), ?_⟩
  intro z19 h19 l19
  refine ⟨⟨by omega, by omega⟩, ?_⟩
  refine ⟨e 20 (by omega) (by omega), ?_⟩
  intro z20 h20 l20
  refine ⟨⟨by omega, by omega⟩, ?_⟩
  refine ⟨e 21 (by omega) (by omega), ?_⟩
  intro z21 h21 l21
  refine ⟨⟨by omega, by omega⟩, ?_⟩
  refine ⟨e 22 (by omega) (by omega), ?_⟩
  intro z22 h22 l22
  refine ⟨⟨by omega, by omega⟩, ?_⟩
  refine ⟨e 23 (by omega) (by omega), ?_⟩
  intro z23 h23 l23
  refine ⟨⟨by omega, by omega⟩, ?_⟩
  refine ⟨e 24 (by omega) (by omega), ?_⟩
  intro z24 h24 l24
  refine ⟨⟨by omega, by omega⟩, ?_⟩
  refine ⟨e 25 (by omega) (by omega), ?_⟩
  intro z25 h25 l25
  refine ⟨⟨by omega, by omega⟩, ?_⟩
  refine ⟨e 26 (by omega) (by omega), ?_⟩
  intro z26 h26 l26
  refine ⟨⟨by omega, by omega⟩, ?_⟩
  refine ⟨e 27 (by omega) (by omega), ?_⟩
  intro z27 h27 l27
  refine ⟨⟨by omega, by omega⟩, ?_⟩
  refine ⟨e 28 (by omega) (by omega), ?_⟩
  intro z28 h28 l28
  refine ⟨⟨by omega, by omega⟩, ?_⟩
  refine ⟨e 29 (by omega) (by omega), ?_⟩
  intro z29 h29 l29
  refine ⟨⟨by omega, by omega⟩, ?_⟩
  refine ⟨e 30 (by omega) (by omega), ?_⟩
  intro z30 h30 l30
  refine ⟨⟨by omega, by omega⟩, ?_⟩
  refine ⟨e 31 (by omega) (by omega), ?_⟩
  intro z31 h31 l31
  refine ⟨⟨by omega, by omega⟩, ?_⟩
  refine ⟨⟨by omega, by omega, by omega⟩, ?_⟩
  subst h0 h1 h2 h3 h4 h5 h6 h7 h8 h9 h10 h11 h12 h13 h14 h15 h16 h17 h18 h19 h20 h21 h22 h23 h24 h25 h26 h27 h28 h29 h30 h31
  rw [← par_sum hpre]
  rfl
def sPar : Sm := fun args ch kk =>
  match args with
  | [.a (.c c0)] =>
    match ints [c0] with
    | some [x] => (parC x) ∧ kk (.a (.c (.int (parV x)))) ch []
    | _ => False
  | _ => False
theorem sPar_ok {f : FuncId} (hc : ∀ args w, (callFunc f args).run Try.prog w = .ok (.enter f args) w) (h : ∀ (x : Int) (w : World), parC x → Calls Try.prog f #[.int .i64 x] w fun e w' => e = .returned (.int .i64 (parV x)) ∧ Below w.heap.size w w') : SmOK Try.prog f sPar := by
  refine smB hc fun args ch kk w X h0 hs => ?_
  unfold sPar at h0
  split at h0
  · rename_i c0
    split at h0
    · rename_i x hi
      obtain ⟨hpre, h0⟩ := h0
      obtain ⟨ec0, hi⟩ := ints_cons hi
      refine ⟨_, h0, ?_⟩
      simp only [List.map_cons, List.map_nil, den_a, den_c, SA.den, den_sl, ec0]
      exact h x w hpre
    · exact h0.elim
  · exact h0.elim
theorem sPar_ok_parI : SmOK Try.prog 68 sPar := sPar_ok Try.call68 (fun x w hp => parI_any x w hp)
theorem sPar_ok_parS : SmOK Try.prog 73 sPar := sPar_ok Try.call73 (fun x w hp => parS_any x w hp)
end Go.Proofs.Ytkfinkolllpcgaa
