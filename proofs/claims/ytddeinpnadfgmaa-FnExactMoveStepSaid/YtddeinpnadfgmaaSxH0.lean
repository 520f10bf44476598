/-
  Cells alone.
-/
import Derived.Test.YtddeinpnadfgmaaSxSlA
import Derived.Test.YtddeinpnadfgmaaSxA3
namespace Go.Proofs.Ytddeinpnadfgmaa
set_option linter.unusedVariables false
set_option linter.unusedSimpArgs false
open Go.RowKit
set_option maxRecDepth 100000
set_option maxHeartbeats 8000000

/-! Cells alone. -/
structure SeenC (w : World) (x : CD) (O : Option Addr) (so : Nat → Option Addr) (sc : Nat → Nat) : Prop where
  h0 : ∀ id, Row.sat w ⟨false, O, 0, 2, x.n, 0, cellFld id x so sc⟩
  h3 : ∀ r ∈ symRows false 0 x so (fun _ => 0), r.own = false ∧ r.sat w
theorem SeenC.all {w : World} {x : CD} {O : Option Addr} {so : Nat → Option Addr} {sc : Nat → Nat} (h : SeenC w x O so sc) (b : Nat) {cs : List Ch} (hc : ∀ c ∈ cs, c.own = false ∧ c.sat w) : ∀ c ∈ [Ch.row ⟨false, O, 0, 2, x.n, 0, cellFld b x so sc⟩, .obj false (symRows false 0 x so (fun _ => 0))] ++ cs, c.own = false ∧ c.sat w :=
  seenC_row rfl (h.h0 _) (seenC_obj h.h3 hc)
def rdK (ch : List Ch) (c : SC) (K : CD → Prop) : Prop :=
  match c with
  | .sl i0 a0 n0 _ =>
    match ch[i0]? with
    | some (.row r0) =>
      match ch[nidOf r0.fld]? with
      | some (.obj o rs) => ∃ (t : Nat) (y : CD) (so : Nat → Option Addr) (sc sd : Nat → Nat), (rs = symRows o t y so sd ∧ r0.fld = cellFld (nidOf r0.fld) y so sc ∧ a0 = r0.ao ∧ n0 = r0.n ∧ n0 = y.n) ∧ K y
      | _ => False
    | _ => False
  | _ => False
theorem rdK_ok {ch : List Ch} {c : SC} {K : CD → Prop} (h : rdK ch c K) {X : Cx} {w : World} (hs : HS X ch w) : ∃ (x : CD) (O : Option Addr) (C : Nat) (so : Nat → Option Addr) (sc : Nat → Nat), c.den = .slice O x.n C ∧ SeenC w x O so sc ∧ K x := by
  unfold rdK at h
  split at h
  · rename_i i0 a0 n0 c0
    split at h
    · rename_i r0 h0
      split at h
      · rename_i o rs h3
        obtain ⟨t, y, so, sc, sd, ⟨rfl, f0, rfl, rfl, hn⟩, hk⟩ := h
        refine ⟨y, r0.ao, c0, so, sc, by rw [← hn]; rfl, ⟨fun id' => ?_, symRows_seen fun r hr => (hs.seeObj h3 r hr).2⟩, hk⟩
        have := seenAs' (hs.sat i0 _ h0) f0 rfl
        rw [hn] at this
        exact Row.reF this ⟨fun i hi => rfl, fun i hi => rfl, trivial⟩
      · exact h.elim
    · exact h.elim
  · exact h.elim
def totN (sn : Nat → Nat) : Nat → Nat
  | 0 => 0
  | i + 1 => totN sn i + sn i + 1
def kAt (k : Int) (sn : Nat → Nat) (i : Nat) : Int := k + (totN sn i : Int)
def mkPo (k : Int) (sn : Nat → Nat) (i : Nat) : Bool := ieq (imod (mk (kAt k sn i) 1 0 (sn i)) 3) 0
def markCD (k : Int) (x : CD) : CD := ⟨x.n, x.sn, fun i q => mk (kAt k x.sn i) 1 0 q, mkPo k x.sn⟩
abbrev capK (x : CD) : Prop := totN x.sn x.n ≤ 2097152
theorem totN_le {sn : Nat → Nat} {i j : Nat} (h : i ≤ j) : totN sn i ≤ totN sn j := by
  induction j with
  | zero => have : i = 0 := by omega
            subst this; exact Nat.le_refl _
  | succ j ih =>
    by_cases e : i = j + 1
    · subst e; exact Nat.le_refl _
    · have := ih (by omega)
      simp only [totN]
      omega
theorem totN_n {sn : Nat → Nat} : ∀ n : Nat, n ≤ totN sn n := fun n => by
  induction n with
  | zero => exact Nat.zero_le _
  | succ n ih => simp only [totN]; omega
theorem totN_sn {sn : Nat → Nat} {i n : Nat} (h : i < n) : totN sn i + sn i + 1 ≤ totN sn n := totN_le (i := i + 1) h
theorem kAt_next {k : Int} {sn : Nat → Nat} {j : Nat} : mk (kAt k sn j) 1 0 (sn j) + 1 = kAt k sn (j + 1) := by
  simp only [mk, kAt, totN]
  omega
theorem kAt_in {k : Int} {sn : Nat → Nat} {j n : Nat} (hj : j ≤ n) (h : totN sn n ≤ 2097152) (h0 : 0 ≤ k ∧ k ≤ 1099509530624) : 0 ≤ kAt k sn j ∧ kAt k sn j ≤ 1099511627776 := by
  have := totN_le (sn := sn) hj
  simp only [kAt]
  omega
end Go.Proofs.Ytddeinpnadfgmaa
