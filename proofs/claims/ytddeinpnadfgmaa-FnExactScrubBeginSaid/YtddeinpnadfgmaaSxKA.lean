/-
  Arrays checked: the loops. Arrays checked. Arrays checked: the summary.
-/
import Derived.Test.YtddeinpnadfgmaaSxK1
import Derived.Test.YtddeinpnadfgmaaSxA0
namespace Go.Proofs.Ytddeinpnadfgmaa
set_option linter.unusedVariables false
set_option linter.unusedSimpArgs false
open Go.RowKit
set_option maxRecDepth 100000
set_option maxHeartbeats 8000000

def arrOk (G B R K : Int) (x : AD) : Bool := geoB G B R K && ieq (x.c.n : Int) (lineN G B R K) && ieq (x.aN : Int) (bankN G B R K * R) && ieq (x.hN : Int) (x.aN : Int) && allB x.c.n (fun j => symB (x.c.sn j) (x.c.sy j) 11) && allB x.aN (fun j => btw (x.ag j) 0 100000 && btw (x.hg j) 0 100000)
abbrev lenA (x : AD) : Prop := x.c.n ≤ 9223372036854775807 ∧ x.aN ≤ 9223372036854775807 ∧ x.hN ≤ 9223372036854775807 ∧ ∀ i, i < x.c.n → x.c.sn i ≤ 9223372036854775807
def akIH (x : AD) (O A H : Option Addr) (C D E : Nat) (so : Nat → Option Addr) (sc : Nat → Nat) (G B R K : Int) (bg ba : Nat) (i : SC) (g : Nat → Value) : List SV := [.a (.c (.val (g 0))), .a (.c (.val (g 1))), .a (.c (.ptr 4 bg 0)), .a (.c (.ptr 5 ba 0)), .a (.c (.val (g 4))), .a (.c (.val (g 5))), .a (.c (.val (g 6))), .a (.c (.val (g 7))), .a (.c (.val (g 8))), .a (.c (.val (g 9))), .a (.c (.val (g 10))), .a (.c (.val (g 11))), .a (.c (.val (g 12))), .a (.c (.val (g 13))), .a (.c (.val (g 14))), .a (.c (.val (g 15))), .a (.c (.val (g 16))), .a (.c (.val (g 17))), .a (.c (.val (g 18))), .a (.c (.val (g 19))), .a (.c (.val (g 20))), .a (.c (.val (g 21))), .a (.c (.val (g 22))), .a (.c (.val (g 23))), .a (.c (.val (g 24))), .a (.c (.val (g 25))), .a (.c (.val (g 26))), .a (.c (.val (g 27))), .a (.c (.val (g 28))), .a (.c (.val (g 29))), .a (.c (.val (g 30))), .a (.c (.val (g 31))), .a (.c (.val (g 32))), .a (.c (.val (g 33))), .a (.c (.val (g 34))), .a (.c (.val (g 35))), .a (.c (.val (g 36))), .a (.c (.val (g 37))), .a (.c (.val (g 38))), .a (.c (.val (g 39))), .a (.c (.sl 0 O x.c.n C)), .a (.c (.int (x.c.n : Int))), .a (.c i), .a (.c (.val (g 43))), .a (.c (.val (g 44))), .a (.c (.val (g 45))), .a (.c (.val (g 46))), .a (.c (.val (g 47))), .a (.c (.val (g 48))), .a (.c (.val (g 49))), .a (.c (.val (g 50))), .a (.c (.val (g 51))), .a (.c (.val (g 52))), .a (.c (.val (g 53))), .a (.c (.val (g 54))), .a (.c (.val (g 55))), .a (.c (.val (g 56))), .a (.c (.val (g 57))), .a (.c (.val (g 58))), .a (.c (.val (g 59))), .a (.c (.val (g 60))), .a (.c (.val (g 61))), .a (.c (.val (g 62))), .a (.c (.val (g 63))), .a (.c (.val (g 64))), .a (.c (.val (g 65))), .a (.c (.val (g 66))), .a (.c (.val (g 67))), .a (.c (.val (g 68))), .a (.c (.val (g 69))), .a (.c (.val (g 70))), .a (.c (.val (g 71))), .a (.c (.val (g 72))), .a (.c (.val (g 73)))]
def akIR (x : AD) (O A H : Option Addr) (C D E : Nat) (so : Nat → Option Addr) (sc : Nat → Nat) (G B R K : Int) (bg ba : Nat) (g : Nat → Value) : List SV := [.a (.c (.val (g 0))), .a (.c (.val (g 1))), .a (.c (.val (g 2))), .a (.c (.val (g 3))), .a (.c (.lit false)), .a (.c (.val (g 5))), .a (.c (.val (g 6))), .a (.c (.val (g 7))), .a (.c (.val (g 8))), .a (.c (.val (g 9))), .a (.c (.val (g 10))), .a (.c (.val (g 11))), .a (.c (.val (g 12))), .a (.c (.val (g 13))), .a (.c (.val (g 14))), .a (.c (.val (g 15))), .a (.c (.val (g 16))), .a (.c (.val (g 17))), .a (.c (.val (g 18))), .a (.c (.val (g 19))), .a (.c (.val (g 20))), .a (.c (.val (g 21))), .a (.c (.val (g 22))), .a (.c (.val (g 23))), .a (.c (.val (g 24))), .a (.c (.val (g 25))), .a (.c (.val (g 26))), .a (.c (.val (g 27))), .a (.c (.val (g 28))), .a (.c (.val (g 29))), .a (.c (.val (g 30))), .a (.c (.val (g 31))), .a (.c (.val (g 32))), .a (.c (.val (g 33))), .a (.c (.val (g 34))), .a (.c (.val (g 35))), .a (.c (.val (g 36))), .a (.c (.val (g 37))), .a (.c (.val (g 38))), .a (.c (.val (g 39))), .a (.c (.val (g 40))), .a (.c (.val (g 41))), .a (.c (.val (g 42))), .a (.c (.val (g 43))), .a (.c (.val (g 44))), .a (.c (.val (g 45))), .a (.c (.val (g 46))), .a (.c (.val (g 47))), .a (.c (.val (g 48))), .a (.c (.val (g 49))), .a (.c (.val (g 50))), .a (.c (.val (g 51))), .a (.c (.val (g 52))), .a (.c (.val (g 53))), .a (.c (.val (g 54))), .a (.c (.val (g 55))), .a (.c (.val (g 56))), .a (.c (.val (g 57))), .a (.c (.val (g 58))), .a (.c (.val (g 59))), .a (.c (.val (g 60))), .a (.c (.val (g 61))), .a (.c (.val (g 62))), .a (.c (.val (g 63))), .a (.c (.val (g 64))), .a (.c (.val (g 65))), .a (.c (.val (g 66))), .a (.c (.val (g 67))), .a (.c (.val (g 68))), .a (.c (.val (g 69))), .a (.c (.val (g 70))), .a (.c (.val (g 71))), .a (.c (.val (g 72))), .a (.c (.val (g 73)))]
def akIT (x : AD) (O A H : Option Addr) (C D E : Nat) (so : Nat → Option Addr) (sc : Nat → Nat) (G B R K : Int) (bg ba : Nat) : List Ch := [.row ⟨false, O, 0, 2, x.c.n, 0, cellFld 3 x.c so sc⟩, .row ⟨false, A, 0, 1, x.aN, 0, [fun i => .int (x.ag i)]⟩, .row ⟨false, H, 0, 1, x.hN, 0, [fun i => .int (x.hg i)]⟩, .obj false (symRows false 0 x.c so (fun _ => 0)), .cells bg 37 [.int G, .int B, .int R, .int K], .cells ba 33 [.sl 0 O x.c.n C, .sl 1 A x.aN D, .sl 2 H x.hN E]]
def akIP (x : AD) (O A H : Option Addr) (C D E : Nat) (so : Nat → Option Addr) (sc : Nat → Nat) (G B R K : Int) (bg ba : Nat) (j : Nat) : Bool := symB (x.c.sn j) (x.c.sy j) 11
def sakI (x : AD) (O A H : Option Addr) (C D E : Nat) (so : Nat → Option Addr) (sc : Nat → Nat) (G B R K : Int) (bg ba : Nat) : LSm := fun ts ch k =>
  (ts.map SV.den = (akIH x O A H C D E so sc G B R K bg ba (.il 0) (fun d => (ts.getD d .undef).den)).map SV.den ∧ selC ch [0, 1, 2, 3, 4, 5] = akIT x O A H C D E so sc G B R K bg ba) ∧
    (∀ g, allB x.c.n (akIP x O A H C D E so sc G B R K bg ba) = true → k (.exit 0) (akIH x O A H C D E so sc G B R K bg ba (.int (x.c.n : Int)) g) (akIT x O A H C D E so sc G B R K bg ba)) ∧ (∀ g, allB x.c.n (akIP x O A H C D E so sc G B R K bg ba) = false → k .ret (akIR x O A H C D E so sc G B R K bg ba g) (akIT x O A H C D E so sc G B R K bg ba))
theorem akIB (x : AD) (O A H : Option Addr) (C D E : Nat) (so : Nat → Option Addr) (sc : Nat → Nat) (G B R K : Int) (bg ba : Nat) (j : Nat) (g : Nat → Value) (NX : List SV → List Ch → Prop) (kx : Exit → List SV → List Ch → Prop) : (exCode Try.prog { tb := [(68, sSym)] } 400 (theLoop Try.f52 0) (akIH x O A H C D E so sc G B R K bg ba (.int (j : Int)) g) (akIT x O A H C D E so sc G B R K bg ba) (loopK NX kx)) = (
  (((decide (((j : Nat) : Int) < ((x.1.1 : Nat) : Int))) = true →
 (O = O ∧
 (x.1.1 = x.1.1 ∧
 ((0 ≤ ((j : Nat) : Int) ∧ ((j : Nat) : Int) < ((x.1.1 : Nat) : Int)) ∧
 (O = O ∧
 (j < x.1.1 ∧
 (∀ b0 : Nat,
 (b0 = b0 ∧
 (b0 = b0 ∧
 (∃ t1 : Nat, (∃ y2 : CD, (∃ so3 : (Nat →
 (Option Addr)), (∃ sc4 : (Nat →
 Nat), (∃ i5 : Nat, (((symRows false 0 x.1 so (fun x6 => 0)) = (symRows false t1 y2 so3 sc4) ∧
 ((so j) = (so3 i5) ∧
 ((x.1.2 j) = (y2.2 i5) ∧
 i5 < y2.1))) ∧
 ((lenC (x.1.2 j)) ∧
 (((!(symB (x.1.2 j) (y2.3 i5) (11 : Int))) = true →
 (kx Exit.ret [(vV (g 0)), (vV (g 1)), (pV 4 bg 0), (pV 5 ba 0), fV, (vV (g 5)), (vV (g 6)), (pV 6 b0 0), (vV (g 8)), (vV (g 9)), (vV (g 10)), (vV (g 11)), (vV (g 12)), (vV (g 13)), (vV (g 14)), (vV (g 15)), (vV (g 16)), (vV (g 17)), (vV (g 18)), (vV (g 19)), (vV (g 20)), (vV (g 21)), (vV (g 22)), (vV (g 23)), (vV (g 24)), (vV (g 25)), (vV (g 26)), (vV (g 27)), (vV (g 28)), (vV (g 29)), (vV (g 30)), (vV (g 31)), (vV (g 32)), (vV (g 33)), (vV (g 34)), (vV (g 35)), (vV (g 36)), (vV (g 37)), (vV (g 38)), (vV (g 39)), (sV 0 O x.1.1 C), (iV ((x.1.1 : Nat) : Int)), (iV ((j : Nat) : Int)), tV, (rV 0 O 2 j 0), (aV [(Cs 3 (so j) (x.1.2 j) (sc j)), (Cb (x.1.4 j))]), (pV 6 b0 0), (sV 3 (so j) (x.1.2 j) (sc j)), (bV (symB (x.1.2 j) (y2.3 i5) (11 : Int))), tV, (vV (g 50)), (vV (g 51)), (vV (g 52)), (vV (g 53)), (vV (g 54)), (vV (g 55)), (vV (g 56)), (vV (g 57)), (vV (g 58)), (vV (g 59)), (vV (g 60)), (vV (g 61)), (vV (g 62)), (vV (g 63)), (vV (g 64)), (vV (g 65)), (vV (g 66)), (vV (g 67)), (vV (g 68)), (vV (g 69)), (vV (g 70)), (vV (g 71)), (vV (g 72)), (vV (g 73))] [(Hr false O 0 2 x.1.1 0 [(fun i7 => (Cs 3 (so i7) (x.1.2 i7) (sc i7))), (fun i8 => (Cb (x.1.4 i8)))]), (Hr false A 0 1 x.2 0 [(fun i9 => (Ci (x.3 i9)))]), (Hr false H 0 1 x.4 0 [(fun i10 => (Ci (x.5 i10)))]), (Ho false (symRows false 0 x.1 so (fun x11 => 0))), (Hc bg 37 [(Ci G), (Ci B), (Ci R), (Ci K)]), (Hc ba 33 [(Cs 0 O x.1.1 C), (Cs 1 A x.2 D), (Cs 2 H x.4 E)]), (Hc b0 52 [(Cs 3 (so j) (x.1.2 j) (sc j)), (Cb (x.1.4 j))])])) ∧
 ((!(symB (x.1.2 j) (y2.3 i5) (11 : Int))) = false →
 ((rng (((j : Nat) : Int) + (1 : Int))) ∧
 (NX [(vV (g 0)), (vV (g 1)), (pV 4 bg 0), (pV 5 ba 0), (vV (g 4)), (vV (g 5)), (vV (g 6)), (pV 6 b0 0), (vV (g 8)), (vV (g 9)), (vV (g 10)), (vV (g 11)), (vV (g 12)), (vV (g 13)), (vV (g 14)), (vV (g 15)), (vV (g 16)), (vV (g 17)), (vV (g 18)), (vV (g 19)), (vV (g 20)), (vV (g 21)), (vV (g 22)), (vV (g 23)), (vV (g 24)), (vV (g 25)), (vV (g 26)), (vV (g 27)), (vV (g 28)), (vV (g 29)), (vV (g 30)), (vV (g 31)), (vV (g 32)), (vV (g 33)), (vV (g 34)), (vV (g 35)), (vV (g 36)), (vV (g 37)), (vV (g 38)), (vV (g 39)), (sV 0 O x.1.1 C), (iV ((x.1.1 : Nat) : Int)), (iV (((j : Nat) : Int) + (1 : Int))), tV, (rV 0 O 2 j 0), (aV [(Cs 3 (so j) (x.1.2 j) (sc j)), (Cb (x.1.4 j))]), (pV 6 b0 0), (sV 3 (so j) (x.1.2 j) (sc j)), (bV (symB (x.1.2 j) (y2.3 i5) (11 : Int))), fV, (iV (((j : Nat) : Int) + (1 : Int))), (vV (g 51)), (vV (g 52)), (vV (g 53)), (vV (g 54)), (vV (g 55)), (vV (g 56)), (vV (g 57)), (vV (g 58)), (vV (g 59)), (vV (g 60)), (vV (g 61)), (vV (g 62)), (vV (g 63)), (vV (g 64)), (vV (g 65)), (vV (g 66)), (vV (g 67)), (vV (g 68)), (vV (g 69)), (vV (g 70)), (vV (g 71)), (vV (g 72)), (vV (g 73))] [(Hr false O 0 2 x.1.1 0 [(fun i12 => (Cs 3 (so i12) (x.1.2 i12) (sc i12))), (fun i13 => (Cb (x.1.4 i13)))]), (Hr false A 0 1 x.2 0 [(fun i14 => (Ci (x.3 i14)))]), (Hr false H 0 1 x.4 0 [(fun i15 => (Ci (x.5 i15)))]), (Ho false (symRows false 0 x.1 so (fun x16 => 0))), (Hc bg 37 [(Ci G), (Ci B), (Ci R), (Ci K)]), (Hc ba 33 [(Cs 0 O x.1.1 C), (Cs 1 A x.2 D), (Cs 2 H x.4 E)]), (Hc b0 52 [(Cs 3 (so j) (x.1.2 j) (sc j)), (Cb (x.1.4 j))])])))))))))))))))))))) ∧
 ((decide (((j : Nat) : Int) < ((x.1.1 : Nat) : Int))) = false →
 (kx (Exit.exit 0) [(vV (g 0)), (vV (g 1)), (pV 4 bg 0), (pV 5 ba 0), (vV (g 4)), (vV (g 5)), (vV (g 6)), (vV (g 7)), (vV (g 8)), (vV (g 9)), (vV (g 10)), (vV (g 11)), (vV (g 12)), (vV (g 13)), (vV (g 14)), (vV (g 15)), (vV (g 16)), (vV (g 17)), (vV (g 18)), (vV (g 19)), (vV (g 20)), (vV (g 21)), (vV (g 22)), (vV (g 23)), (vV (g 24)), (vV (g 25)), (vV (g 26)), (vV (g 27)), (vV (g 28)), (vV (g 29)), (vV (g 30)), (vV (g 31)), (vV (g 32)), (vV (g 33)), (vV (g 34)), (vV (g 35)), (vV (g 36)), (vV (g 37)), (vV (g 38)), (vV (g 39)), (sV 0 O x.1.1 C), (iV ((x.1.1 : Nat) : Int)), (iV ((j : Nat) : Int)), fV, (vV (g 44)), (vV (g 45)), (vV (g 46)), (vV (g 47)), (vV (g 48)), (vV (g 49)), (vV (g 50)), (vV (g 51)), (vV (g 52)), (vV (g 53)), (vV (g 54)), (vV (g 55)), (vV (g 56)), (vV (g 57)), (vV (g 58)), (vV (g 59)), (vV (g 60)), (vV (g 61)), (vV (g 62)), (vV (g 63)), (vV (g 64)), (vV (g 65)), (vV (g 66)), (vV (g 67)), (vV (g 68)), (vV (g 69)), (vV (g 70)), (vV (g 71)), (vV (g 72)), (vV (g 73))] [(Hr false O 0 2 x.1.1 0 [(fun i17 => (Cs 3 (so i17) (x.1.2 i17) (sc i17))), (fun i18 => (Cb (x.1.4 i18)))]), (Hr false A 0 1 x.2 0 [(fun i19 => (Ci (x.3 i19)))]), (Hr false H 0 1 x.4 0 [(fun i20 => (Ci (x.5 i20)))]), (Ho false (symRows false 0 x.1 so (fun x21 => 0))), (Hc bg 37 [(Ci G), (Ci B), (Ci R), (Ci K)]), (Hc ba 33 [(Cs 0 O x.1.1 C), (Cs 1 A x.2 D), (Cs 2 H x.4 E)])])))) := by kernel_rfl
theorem akI_ok (x : AD) (O A H : Option Addr) (C D E : Nat) (so : Nat → Option Addr) (sc : Nat → Nat) (G B R K : Int) (bg ba : Nat) (hl : lenA x) (X : Cx) : LoopOK Try.prog X (theLoop Try.f52 0) (sakI x O A H C D E so sc G B R K bg ba) := by
  intro ts ch k a w hS hT hd hs
  obtain ⟨⟨h1, hch⟩, hk, hr⟩ := hS
  refine loop_ok mixed (E := { tb := [(68, sSym)] }) ⟨sSym_I, trivial⟩ (loopsOK_nil _ _ _) 400 x.c.n (fun j ts ch => ∃ g, allB j (akIP x O A H C D E so sc G B R K bg ba) = true ∧ ts = akIH x O A H C D E so sc G B R K bg ba (.int (j : Int)) g ∧ ch = akIT x O A H C D E so sc G B R K bg ba) ?_ ?_ hT hd hs
  · rintro j _ _ ⟨g, hall, rfl, rfl⟩ hj
    refine (@Eq.mpr _ _ (akIB x O A H C D E so sc G B R K bg ba j g _ _) ?_)
    by_cases hlt : j < x.c.n
    · have hn := hl.1
      have hjn : (0 : Int) ≤ (j : Int) ∧ (j : Int) < (x.c.n : Int) := ⟨by omega, by omega⟩
      have hsj := hl.2.2.2 j hlt
      cases hp : akIP x O A H C D E so sc G B R K bg ba j
      all_goals simp only [akIP] at hp
      all_goals
        repeat' (first
          | with_reducible exact rfl
          | exact True.intro
          | with_reducible assumption
          | (refine ⟨hlt, ?_⟩; show Next _ _ _ _; refine Next.mk (fun g => akIH x O A H C D E so sc G B R K bg ba (.int ((j + 1 : Nat) : Int)) g) _ ⟨_, allB_succ hall (by simp only [akIP]; exact hp), rfl, rfl⟩ rfl fun w hw => hw.sel [0, 1, 2, 3, 4, 5] (by simp))
          | (refine Next.mk (fun g => akIR x O A H C D E so sc G B R K bg ba g) _ (hr _ (allB_no hlt (by simp only [akIP]; exact hp))) rfl fun w hw => hw.sel [0, 1, 2, 3, 4, 5] (by simp))
          | refine And.intro ?_ ?_
          | (intro h; exfalso; simp at h; omega)
          | (intro h; exfalso; simp [h] at hp; done)
          | (refine ⟨_, _, _, _, _, ⟨rfl, rfl, rfl, ?_⟩, ?_⟩)
          | (intro h; exfalso; rw [hp] at h; simp at h; done)
          | intro _
          | omega)
        all_goals (exfalso; simp_all; done)
    · have hjn : x.c.n = j := by omega
      subst hjn
      repeat' (first
        | with_reducible exact rfl
        | exact True.intro
        | (refine Next.mk (fun g => akIH x O A H C D E so sc G B R K bg ba (.int (x.c.n : Int)) g) _ (hk _ hall) rfl fun w hw => hw.sel [0, 1, 2, 3, 4, 5] (by simp))
        | refine And.intro ?_ ?_
        | (intro h; exfalso; simp at h; done)
        | (intro h; exfalso; simp at h; omega)
        | intro _)
  · refine Next.mk (fun g => akIH x O A H C D E so sc G B R K bg ba (.int ((0 : Nat) : Int)) g) _ ⟨_, allB_zero _, rfl, rfl⟩ h1 fun w hw => ?_
    rw [← hch]
    exact hw.sel [0, 1, 2, 3, 4, 5] (by simp)
def alIH (x : AD) (O A H : Option Addr) (C D E : Nat) (so : Nat → Option Addr) (sc : Nat → Nat) (G B R K : Int) (bg ba : Nat) (i : SC) (g : Nat → Value) : List SV := [.a (.c (.val (g 0))), .a (.c (.val (g 1))), .a (.c (.ptr 4 bg 0)), .a (.c (.ptr 5 ba 0)), .a (.c (.val (g 4))), .a (.c (.val (g 5))), .a (.c (.val (g 6))), .a (.c (.val (g 7))), .a (.c (.val (g 8))), .a (.c (.val (g 9))), .a (.c (.val (g 10))), .a (.c (.val (g 11))), .a (.c (.val (g 12))), .a (.c (.val (g 13))), .a (.c (.val (g 14))), .a (.c (.val (g 15))), .a (.c (.val (g 16))), .a (.c (.val (g 17))), .a (.c (.val (g 18))), .a (.c (.val (g 19))), .a (.c (.val (g 20))), .a (.c (.val (g 21))), .a (.c (.val (g 22))), .a (.c (.val (g 23))), .a (.c (.val (g 24))), .a (.c (.val (g 25))), .a (.c (.val (g 26))), .a (.c (.val (g 27))), .a (.c (.val (g 28))), .a (.c (.val (g 29))), .a (.c (.val (g 30))), .a (.c (.val (g 31))), .a (.c (.val (g 32))), .a (.c (.val (g 33))), .a (.c (.val (g 34))), .a (.c (.val (g 35))), .a (.c (.val (g 36))), .a (.c (.val (g 37))), .a (.c (.val (g 38))), .a (.c (.val (g 39))), .a (.c (.val (g 40))), .a (.c (.val (g 41))), .a (.c (.val (g 42))), .a (.c (.val (g 43))), .a (.c (.val (g 44))), .a (.c (.val (g 45))), .a (.c (.val (g 46))), .a (.c (.val (g 47))), .a (.c (.val (g 48))), .a (.c (.val (g 49))), .a (.c (.val (g 50))), .a (.c (.val (g 51))), .a (.c (.sl 1 A x.aN D)), .a (.c (.int (x.aN : Int))), .a (.c i), .a (.c (.val (g 55))), .a (.c (.val (g 56))), .a (.c (.val (g 57))), .a (.c (.val (g 58))), .a (.c (.val (g 59))), .a (.c (.val (g 60))), .a (.c (.val (g 61))), .a (.c (.val (g 62))), .a (.c (.val (g 63))), .a (.c (.val (g 64))), .a (.c (.val (g 65))), .a (.c (.val (g 66))), .a (.c (.val (g 67))), .a (.c (.val (g 68))), .a (.c (.val (g 69))), .a (.c (.val (g 70))), .a (.c (.val (g 71))), .a (.c (.val (g 72))), .a (.c (.val (g 73)))]
def alIR (x : AD) (O A H : Option Addr) (C D E : Nat) (so : Nat → Option Addr) (sc : Nat → Nat) (G B R K : Int) (bg ba : Nat) (g : Nat → Value) : List SV := [.a (.c (.val (g 0))), .a (.c (.val (g 1))), .a (.c (.val (g 2))), .a (.c (.val (g 3))), .a (.c (.lit false)), .a (.c (.val (g 5))), .a (.c (.val (g 6))), .a (.c (.val (g 7))), .a (.c (.val (g 8))), .a (.c (.val (g 9))), .a (.c (.val (g 10))), .a (.c (.val (g 11))), .a (.c (.val (g 12))), .a (.c (.val (g 13))), .a (.c (.val (g 14))), .a (.c (.val (g 15))), .a (.c (.val (g 16))), .a (.c (.val (g 17))), .a (.c (.val (g 18))), .a (.c (.val (g 19))), .a (.c (.val (g 20))), .a (.c (.val (g 21))), .a (.c (.val (g 22))), .a (.c (.val (g 23))), .a (.c (.val (g 24))), .a (.c (.val (g 25))), .a (.c (.val (g 26))), .a (.c (.val (g 27))), .a (.c (.val (g 28))), .a (.c (.val (g 29))), .a (.c (.val (g 30))), .a (.c (.val (g 31))), .a (.c (.val (g 32))), .a (.c (.val (g 33))), .a (.c (.val (g 34))), .a (.c (.val (g 35))), .a (.c (.val (g 36))), .a (.c (.val (g 37))), .a (.c (.val (g 38))), .a (.c (.val (g 39))), .a (.c (.val (g 40))), .a (.c (.val (g 41))), .a (.c (.val (g 42))), .a (.c (.val (g 43))), .a (.c (.val (g 44))), .a (.c (.val (g 45))), .a (.c (.val (g 46))), .a (.c (.val (g 47))), .a (.c (.val (g 48))), .a (.c (.val (g 49))), .a (.c (.val (g 50))), .a (.c (.val (g 51))), .a (.c (.val (g 52))), .a (.c (.val (g 53))), .a (.c (.val (g 54))), .a (.c (.val (g 55))), .a (.c (.val (g 56))), .a (.c (.val (g 57))), .a (.c (.val (g 58))), .a (.c (.val (g 59))), .a (.c (.val (g 60))), .a (.c (.val (g 61))), .a (.c (.val (g 62))), .a (.c (.val (g 63))), .a (.c (.val (g 64))), .a (.c (.val (g 65))), .a (.c (.val (g 66))), .a (.c (.val (g 67))), .a (.c (.val (g 68))), .a (.c (.val (g 69))), .a (.c (.val (g 70))), .a (.c (.val (g 71))), .a (.c (.val (g 72))), .a (.c (.val (g 73)))]
def alIT (x : AD) (O A H : Option Addr) (C D E : Nat) (so : Nat → Option Addr) (sc : Nat → Nat) (G B R K : Int) (bg ba : Nat) : List Ch := [.row ⟨false, O, 0, 2, x.c.n, 0, cellFld 3 x.c so sc⟩, .row ⟨false, A, 0, 1, x.aN, 0, [fun i => .int (x.ag i)]⟩, .row ⟨false, H, 0, 1, x.hN, 0, [fun i => .int (x.hg i)]⟩, .obj false (symRows false 0 x.c so (fun _ => 0)), .cells bg 37 [.int G, .int B, .int R, .int K], .cells ba 33 [.sl 0 O x.c.n C, .sl 1 A x.aN D, .sl 2 H x.hN E]]
def alIP (x : AD) (O A H : Option Addr) (C D E : Nat) (so : Nat → Option Addr) (sc : Nat → Nat) (G B R K : Int) (bg ba : Nat) (j : Nat) : Bool := btw (x.ag j) 0 100000 && btw (x.hg j) 0 100000
def salI (x : AD) (O A H : Option Addr) (C D E : Nat) (so : Nat → Option Addr) (sc : Nat → Nat) (G B R K : Int) (bg ba : Nat) : LSm := fun ts ch k =>
  (ts.map SV.den = (alIH x O A H C D E so sc G B R K bg ba (.il 0) (fun d => (ts.getD d .undef).den)).map SV.den ∧ selC ch [0, 1, 2, 3, 4, 5] = alIT x O A H C D E so sc G B R K bg ba) ∧
    (∀ g, allB x.aN (alIP x O A H C D E so sc G B R K bg ba) = true → k (.exit 2) (alIH x O A H C D E so sc G B R K bg ba (.int (x.aN : Int)) g) (alIT x O A H C D E so sc G B R K bg ba)) ∧ (∀ g, allB x.aN (alIP x O A H C D E so sc G B R K bg ba) = false → k .ret (alIR x O A H C D E so sc G B R K bg ba g) (alIT x O A H C D E so sc G B R K bg ba))
theorem alIB (x : AD) (O A H : Option Addr) (C D E : Nat) (so : Nat → Option Addr) (sc : Nat → Nat) (G B R K : Int) (bg ba : Nat) (j : Nat) (g : Nat → Value) (NX : List SV → List Ch → Prop) (kx : Exit → List SV → List Ch → Prop) : (exCode Try.prog { tb := [(75, sBtw)] } 400 (theLoop Try.f52 1) (alIH x O A H C D E so sc G B R K bg ba (.int (j : Int)) g) (alIT x O A H C D E so sc G B R K bg ba) (loopK NX kx)) = (
  (((decide (((j : Nat) : Int) < ((x.2 : Nat) : Int))) = true →
 (ba = ba ∧
 (A = A ∧
 (x.2 = x.2 ∧
 ((0 ≤ ((j : Nat) : Int) ∧ ((j : Nat) : Int) < ((x.2 : Nat) : Int)) ∧
 (A = A ∧
 (j < x.2 ∧
 (((!(btw (x.3 j) (0 : Int) (100000 : Int))) = false →
 (ba = ba ∧
 (H = H ∧
 (x.4 = x.4 ∧
 ((0 ≤ ((j : Nat) : Int) ∧ ((j : Nat) : Int) < ((x.4 : Nat) : Int)) ∧
 (H = H ∧
 (j < x.4 ∧
 (((!(btw (x.5 j) (0 : Int) (100000 : Int))) = true →
 (kx Exit.ret [(vV (g 0)), (vV (g 1)), (pV 4 bg 0), (pV 5 ba 0), fV, (vV (g 5)), (vV (g 6)), (vV (g 7)), (iV ((j : Nat) : Int)), (vV (g 9)), (vV (g 10)), (vV (g 11)), (vV (g 12)), (vV (g 13)), (vV (g 14)), (vV (g 15)), (vV (g 16)), (vV (g 17)), (vV (g 18)), (vV (g 19)), (vV (g 20)), (vV (g 21)), (vV (g 22)), (vV (g 23)), (vV (g 24)), (vV (g 25)), (vV (g 26)), (vV (g 27)), (vV (g 28)), (vV (g 29)), (vV (g 30)), (vV (g 31)), (vV (g 32)), (vV (g 33)), (vV (g 34)), (vV (g 35)), (vV (g 36)), (vV (g 37)), (vV (g 38)), (vV (g 39)), (vV (g 40)), (vV (g 41)), (vV (g 42)), (vV (g 43)), (vV (g 44)), (vV (g 45)), (vV (g 46)), (vV (g 47)), (vV (g 48)), (vV (g 49)), (vV (g 50)), (vV (g 51)), (sV 1 A x.2 D), (iV ((x.2 : Nat) : Int)), (iV ((j : Nat) : Int)), tV, (iV ((j : Nat) : Int)), (pV 5 ba 1), (sV 1 A x.2 D), (iV ((j : Nat) : Int)), (rV 1 A 1 j 0), (iV (x.3 j)), (bV (btw (x.3 j) (0 : Int) (100000 : Int))), (bV (!(btw (x.3 j) (0 : Int) (100000 : Int)))), fV, (pV 5 ba 2), (sV 2 H x.4 E), (iV ((j : Nat) : Int)), (rV 2 H 1 j 0), (iV (x.5 j)), (bV (btw (x.5 j) (0 : Int) (100000 : Int))), (bV (!(btw (x.5 j) (0 : Int) (100000 : Int)))), tV, (vV (g 73))] [(Hr false O 0 2 x.1.1 0 [(fun i0 => (Cs 3 (so i0) (x.1.2 i0) (sc i0))), (fun i1 => (Cb (x.1.4 i1)))]), (Hr false A 0 1 x.2 0 [(fun i2 => (Ci (x.3 i2)))]), (Hr false H 0 1 x.4 0 [(fun i3 => (Ci (x.5 i3)))]), (Ho false (symRows false 0 x.1 so (fun x4 => 0))), (Hc bg 37 [(Ci G), (Ci B), (Ci R), (Ci K)]), (Hc ba 33 [(Cs 0 O x.1.1 C), (Cs 1 A x.2 D), (Cs 2 H x.4 E)])])) ∧
 ((!(btw (x.5 j) (0 : Int) (100000 : Int))) = false →
 ((rng (((j : Nat) : Int) + (1 : Int))) ∧
 (NX [(vV (g 0)), (vV (g 1)), (pV 4 bg 0), (pV 5 ba 0), (vV (g 4)), (vV (g 5)), (vV (g 6)), (vV (g 7)), (iV ((j : Nat) : Int)), (vV (g 9)), (vV (g 10)), (vV (g 11)), (vV (g 12)), (vV (g 13)), (vV (g 14)), (vV (g 15)), (vV (g 16)), (vV (g 17)), (vV (g 18)), (vV (g 19)), (vV (g 20)), (vV (g 21)), (vV (g 22)), (vV (g 23)), (vV (g 24)), (vV (g 25)), (vV (g 26)), (vV (g 27)), (vV (g 28)), (vV (g 29)), (vV (g 30)), (vV (g 31)), (vV (g 32)), (vV (g 33)), (vV (g 34)), (vV (g 35)), (vV (g 36)), (vV (g 37)), (vV (g 38)), (vV (g 39)), (vV (g 40)), (vV (g 41)), (vV (g 42)), (vV (g 43)), (vV (g 44)), (vV (g 45)), (vV (g 46)), (vV (g 47)), (vV (g 48)), (vV (g 49)), (vV (g 50)), (vV (g 51)), (sV 1 A x.2 D), (iV ((x.2 : Nat) : Int)), (iV (((j : Nat) : Int) + (1 : Int))), tV, (iV ((j : Nat) : Int)), (pV 5 ba 1), (sV 1 A x.2 D), (iV ((j : Nat) : Int)), (rV 1 A 1 j 0), (iV (x.3 j)), (bV (btw (x.3 j) (0 : Int) (100000 : Int))), (bV (!(btw (x.3 j) (0 : Int) (100000 : Int)))), fV, (pV 5 ba 2), (sV 2 H x.4 E), (iV ((j : Nat) : Int)), (rV 2 H 1 j 0), (iV (x.5 j)), (bV (btw (x.5 j) (0 : Int) (100000 : Int))), (bV (!(btw (x.5 j) (0 : Int) (100000 : Int)))), fV, (iV (((j : Nat) : Int) + (1 : Int)))] [(Hr false O 0 2 x.1.1 0 [(fun i5 => (Cs 3 (so i5) (x.1.2 i5) (sc i5))), (fun i6 => (Cb (x.1.4 i6)))]), (Hr false A 0 1 x.2 0 [(fun i7 => (Ci (x.3 i7)))]), (Hr false H 0 1 x.4 0 [(fun i8 => (Ci (x.5 i8)))]), (Ho false (symRows false 0 x.1 so (fun x9 => 0))), (Hc bg 37 [(Ci G), (Ci B), (Ci R), (Ci K)]), (Hc ba 33 [(Cs 0 O x.1.1 C), (Cs 1 A x.2 D), (Cs 2 H x.4 E)])]))))))))))) ∧
 ((!(btw (x.3 j) (0 : Int) (100000 : Int))) = true →
 (kx Exit.ret [(vV (g 0)), (vV (g 1)), (pV 4 bg 0), (pV 5 ba 0), fV, (vV (g 5)), (vV (g 6)), (vV (g 7)), (iV ((j : Nat) : Int)), (vV (g 9)), (vV (g 10)), (vV (g 11)), (vV (g 12)), (vV (g 13)), (vV (g 14)), (vV (g 15)), (vV (g 16)), (vV (g 17)), (vV (g 18)), (vV (g 19)), (vV (g 20)), (vV (g 21)), (vV (g 22)), (vV (g 23)), (vV (g 24)), (vV (g 25)), (vV (g 26)), (vV (g 27)), (vV (g 28)), (vV (g 29)), (vV (g 30)), (vV (g 31)), (vV (g 32)), (vV (g 33)), (vV (g 34)), (vV (g 35)), (vV (g 36)), (vV (g 37)), (vV (g 38)), (vV (g 39)), (vV (g 40)), (vV (g 41)), (vV (g 42)), (vV (g 43)), (vV (g 44)), (vV (g 45)), (vV (g 46)), (vV (g 47)), (vV (g 48)), (vV (g 49)), (vV (g 50)), (vV (g 51)), (sV 1 A x.2 D), (iV ((x.2 : Nat) : Int)), (iV ((j : Nat) : Int)), tV, (iV ((j : Nat) : Int)), (pV 5 ba 1), (sV 1 A x.2 D), (iV ((j : Nat) : Int)), (rV 1 A 1 j 0), (iV (x.3 j)), (bV (btw (x.3 j) (0 : Int) (100000 : Int))), (bV (!(btw (x.3 j) (0 : Int) (100000 : Int)))), tV, xV, xV, xV, xV, xV, xV, xV, tV, (vV (g 73))] [(Hr false O 0 2 x.1.1 0 [(fun i10 => (Cs 3 (so i10) (x.1.2 i10) (sc i10))), (fun i11 => (Cb (x.1.4 i11)))]), (Hr false A 0 1 x.2 0 [(fun i12 => (Ci (x.3 i12)))]), (Hr false H 0 1 x.4 0 [(fun i13 => (Ci (x.5 i13)))]), (Ho false (symRows false 0 x.1 so (fun x14 => 0))), (Hc bg 37 [(Ci G), (Ci B), (Ci R), (Ci K)]), (Hc ba 33 [(Cs 0 O x.1.1 C), (Cs 1 A x.2 D), (Cs 2 H x.4 E)])])))))))))) ∧
 ((decide (((j : Nat) : Int) < ((x.2 : Nat) : Int))) = false →
 (kx (Exit.exit 2) [(vV (g 0)), (vV (g 1)), (pV 4 bg 0), (pV 5 ba 0), (vV (g 4)), (vV (g 5)), (vV (g 6)), (vV (g 7)), (vV (g 8)), (vV (g 9)), (vV (g 10)), (vV (g 11)), (vV (g 12)), (vV (g 13)), (vV (g 14)), (vV (g 15)), (vV (g 16)), (vV (g 17)), (vV (g 18)), (vV (g 19)), (vV (g 20)), (vV (g 21)), (vV (g 22)), (vV (g 23)), (vV (g 24)), (vV (g 25)), (vV (g 26)), (vV (g 27)), (vV (g 28)), (vV (g 29)), (vV (g 30)), (vV (g 31)), (vV (g 32)), (vV (g 33)), (vV (g 34)), (vV (g 35)), (vV (g 36)), (vV (g 37)), (vV (g 38)), (vV (g 39)), (vV (g 40)), (vV (g 41)), (vV (g 42)), (vV (g 43)), (vV (g 44)), (vV (g 45)), (vV (g 46)), (vV (g 47)), (vV (g 48)), (vV (g 49)), (vV (g 50)), (vV (g 51)), (sV 1 A x.2 D), (iV ((x.2 : Nat) : Int)), (iV ((j : Nat) : Int)), fV, (vV (g 56)), (vV (g 57)), (vV (g 58)), (vV (g 59)), (vV (g 60)), (vV (g 61)), (vV (g 62)), (vV (g 63)), (vV (g 64)), (vV (g 65)), (vV (g 66)), (vV (g 67)), (vV (g 68)), (vV (g 69)), (vV (g 70)), (vV (g 71)), (vV (g 72)), (vV (g 73))] [(Hr false O 0 2 x.1.1 0 [(fun i15 => (Cs 3 (so i15) (x.1.2 i15) (sc i15))), (fun i16 => (Cb (x.1.4 i16)))]), (Hr false A 0 1 x.2 0 [(fun i17 => (Ci (x.3 i17)))]), (Hr false H 0 1 x.4 0 [(fun i18 => (Ci (x.5 i18)))]), (Ho false (symRows false 0 x.1 so (fun x19 => 0))), (Hc bg 37 [(Ci G), (Ci B), (Ci R), (Ci K)]), (Hc ba 33 [(Cs 0 O x.1.1 C), (Cs 1 A x.2 D), (Cs 2 H x.4 E)])])))) := by kernel_rfl
theorem alI_ok (x : AD) (O A H : Option Addr) (C D E : Nat) (so : Nat → Option Addr) (sc : Nat → Nat) (G B R K : Int) (bg ba : Nat) (hl : lenA x) (hh : x.hN = x.aN) (X : Cx) : LoopOK Try.prog X (theLoop Try.f52 1) (salI x O A H C D E so sc G B R K bg ba) := by
  intro ts ch k a w hS hT hd hs
  obtain ⟨⟨h1, hch⟩, hk, hr⟩ := hS
  refine loop_ok mixed (E := { tb := [(75, sBtw)] }) ⟨sBtwI_ok, trivial⟩ (loopsOK_nil _ _ _) 400 x.aN (fun j ts ch => ∃ g, allB j (alIP x O A H C D E so sc G B R K bg ba) = true ∧ ts = alIH x O A H C D E so sc G B R K bg ba (.int (j : Int)) g ∧ ch = alIT x O A H C D E so sc G B R K bg ba) ?_ ?_ hT hd hs
  · rintro j _ _ ⟨g, hall, rfl, rfl⟩ hj
    refine (@Eq.mpr _ _ (alIB x O A H C D E so sc G B R K bg ba j g _ _) ?_)
    by_cases hlt : j < x.aN
    · have hn := hl.2.1
      have hjn : (0 : Int) ≤ (j : Int) ∧ (j : Int) < (x.aN : Int) := ⟨by omega, by omega⟩
      have hjh : j < x.hN := by omega
      have hjh2 : (0 : Int) ≤ (j : Int) ∧ (j : Int) < (x.hN : Int) := ⟨by omega, by omega⟩
      cases hp1 : btw (x.ag j) 0 100000 <;> cases hp2 : btw (x.hg j) 0 100000
      all_goals
      cases hp : alIP x O A H C D E so sc G B R K bg ba j
      all_goals simp only [alIP] at hp
      all_goals
        repeat' (first
          | with_reducible exact rfl
          | exact True.intro
          | with_reducible assumption
          | (refine ⟨hlt, ?_⟩; show Next _ _ _ _; refine Next.mk (fun g => alIH x O A H C D E so sc G B R K bg ba (.int ((j + 1 : Nat) : Int)) g) _ ⟨_, allB_succ hall (by simp only [alIP]; exact hp), rfl, rfl⟩ rfl fun w hw => hw.sel [0, 1, 2, 3, 4, 5] (by simp))
          | (refine Next.mk (fun g => alIR x O A H C D E so sc G B R K bg ba g) _ (hr _ (allB_no hlt (by simp only [alIP]; exact hp))) rfl fun w hw => hw.sel [0, 1, 2, 3, 4, 5] (by simp))
          | refine And.intro ?_ ?_
          | (intro h; exfalso; simp at h; omega)
          | (intro h; exfalso; simp [h] at hp; done)
          | (intro h; exfalso; simp at h; done)
          | intro _
          | omega)
        all_goals (exfalso; simp_all; done)
    · have hjn : x.aN = j := by omega
      subst hjn
      repeat' (first
        | with_reducible exact rfl
        | exact True.intro
        | (refine Next.mk (fun g => alIH x O A H C D E so sc G B R K bg ba (.int (x.aN : Int)) g) _ (hk _ hall) rfl fun w hw => hw.sel [0, 1, 2, 3, 4, 5] (by simp))
        | refine And.intro ?_ ?_
        | (intro h; exfalso; simp at h; done)
        | (intro h; exfalso; simp at h; omega)
        | intro _)
  · refine Next.mk (fun g => alIH x O A H C D E so sc G B R K bg ba (.int ((0 : Nat) : Int)) g) _ ⟨_, allB_zero _, rfl, rfl⟩ h1 fun w hw => ?_
    rw [← hch]
    exact hw.sel [0, 1, 2, 3, 4, 5] (by simp)
def akSH (x : AD) (O A H : Option Addr) (C D E : Nat) (so : Nat → Option Addr) (sc : Nat → Nat) (G B R K : Int) (bg ba : Nat) (i : SC) (g : Nat → Value) : List SV := [.a (.c (.val (g 0))), .a (.c (.val (g 1))), .a (.c (.ptr 4 bg 0)), .a (.c (.ptr 5 ba 0)), .a (.c (.val (g 4))), .a (.c i), .a (.c (.val (g 6))), .a (.c (.val (g 7))), .a (.c (.val (g 8))), .a (.c (.val (g 9))), .a (.c (.val (g 10))), .a (.c (.val (g 11))), .a (.c (.val (g 12))), .a (.c (.val (g 13))), .a (.c (.val (g 14))), .a (.c (.val (g 15))), .a (.c (.val (g 16))), .a (.c (.val (g 17))), .a (.c (.val (g 18))), .a (.c (.val (g 19))), .a (.c (.val (g 20))), .a (.c (.val (g 21))), .a (.c (.val (g 22))), .a (.c (.val (g 23))), .a (.c (.val (g 24))), .a (.c (.val (g 25))), .a (.c (.val (g 26))), .a (.c (.val (g 27))), .a (.c (.val (g 28))), .a (.c (.val (g 29))), .a (.c (.val (g 30))), .a (.c (.val (g 31))), .a (.c (.val (g 32))), .a (.c (.val (g 33))), .a (.c (.val (g 34))), .a (.c (.val (g 35))), .a (.c (.val (g 36))), .a (.c (.val (g 37))), .a (.c (.val (g 38))), .a (.c (.val (g 39))), .a (.c (.val (g 40))), .a (.c (.val (g 41))), .a (.c (.val (g 42))), .a (.c (.val (g 43))), .a (.c (.val (g 44))), .a (.c (.val (g 45))), .a (.c (.val (g 46))), .a (.c (.val (g 47))), .a (.c (.val (g 48))), .a (.c (.val (g 49))), .a (.c (.val (g 50))), .a (.c (.val (g 51))), .a (.c (.val (g 52))), .a (.c (.val (g 53))), .a (.c (.val (g 54))), .a (.c (.val (g 55))), .a (.c (.val (g 56))), .a (.c (.val (g 57))), .a (.c (.val (g 58))), .a (.c (.val (g 59))), .a (.c (.val (g 60))), .a (.c (.val (g 61))), .a (.c (.val (g 62))), .a (.c (.val (g 63))), .a (.c (.val (g 64))), .a (.c (.val (g 65))), .a (.c (.val (g 66))), .a (.c (.val (g 67))), .a (.c (.val (g 68))), .a (.c (.val (g 69))), .a (.c (.val (g 70))), .a (.c (.val (g 71))), .a (.c (.val (g 72))), .a (.c (.val (g 73))), .a (.c (.val (g 74))), .a (.c (.val (g 75)))]
def akSR (x : AD) (O A H : Option Addr) (C D E : Nat) (so : Nat → Option Addr) (sc : Nat → Nat) (G B R K : Int) (bg ba : Nat) (g : Nat → Value) : List SV := [.a (.c (.val (g 0))), .a (.c (.val (g 1))), .a (.c (.val (g 2))), .a (.c (.val (g 3))), .a (.c (.lit false)), .a (.c (.val (g 5))), .a (.c (.val (g 6))), .a (.c (.val (g 7))), .a (.c (.val (g 8))), .a (.c (.val (g 9))), .a (.c (.val (g 10))), .a (.c (.val (g 11))), .a (.c (.val (g 12))), .a (.c (.val (g 13))), .a (.c (.val (g 14))), .a (.c (.val (g 15))), .a (.c (.val (g 16))), .a (.c (.val (g 17))), .a (.c (.val (g 18))), .a (.c (.val (g 19))), .a (.c (.val (g 20))), .a (.c (.val (g 21))), .a (.c (.val (g 22))), .a (.c (.val (g 23))), .a (.c (.val (g 24))), .a (.c (.val (g 25))), .a (.c (.val (g 26))), .a (.c (.val (g 27))), .a (.c (.val (g 28))), .a (.c (.val (g 29))), .a (.c (.val (g 30))), .a (.c (.val (g 31))), .a (.c (.val (g 32))), .a (.c (.val (g 33))), .a (.c (.val (g 34))), .a (.c (.val (g 35))), .a (.c (.val (g 36))), .a (.c (.val (g 37))), .a (.c (.val (g 38))), .a (.c (.val (g 39))), .a (.c (.val (g 40))), .a (.c (.val (g 41))), .a (.c (.val (g 42))), .a (.c (.val (g 43))), .a (.c (.val (g 44))), .a (.c (.val (g 45))), .a (.c (.val (g 46))), .a (.c (.val (g 47))), .a (.c (.val (g 48))), .a (.c (.val (g 49))), .a (.c (.val (g 50))), .a (.c (.val (g 51))), .a (.c (.val (g 52))), .a (.c (.val (g 53))), .a (.c (.val (g 54))), .a (.c (.val (g 55))), .a (.c (.val (g 56))), .a (.c (.val (g 57))), .a (.c (.val (g 58))), .a (.c (.val (g 59))), .a (.c (.val (g 60))), .a (.c (.val (g 61))), .a (.c (.val (g 62))), .a (.c (.val (g 63))), .a (.c (.val (g 64))), .a (.c (.val (g 65))), .a (.c (.val (g 66))), .a (.c (.val (g 67))), .a (.c (.val (g 68))), .a (.c (.val (g 69))), .a (.c (.val (g 70))), .a (.c (.val (g 71))), .a (.c (.val (g 72))), .a (.c (.val (g 73))), .a (.c (.val (g 74))), .a (.c (.val (g 75)))]
def akST (x : AD) (O A H : Option Addr) (C D E : Nat) (so : Nat → Option Addr) (sc : Nat → Nat) (G B R K : Int) (bg ba : Nat) : List Ch := [.row ⟨false, O, 0, 2, x.c.n, 0, cellFld 3 x.c so sc⟩, .row ⟨false, A, 0, 1, x.aN, 0, [fun i => .int (x.ag i)]⟩, .row ⟨false, H, 0, 1, x.hN, 0, [fun i => .int (x.hg i)]⟩, .obj false (symRows false 0 x.c so (fun _ => 0)), .cells bg 37 [.int G, .int B, .int R, .int K], .cells ba 33 [.sl 0 O x.c.n C, .sl 1 A x.aN D, .sl 2 H x.hN E]]
def akSP (x : AD) (O A H : Option Addr) (C D E : Nat) (so : Nat → Option Addr) (sc : Nat → Nat) (G B R K : Int) (bg ba : Nat) (j : Nat) : Bool := symB (x.c.sn j) (x.c.sy j) 11
def sakS (x : AD) (O A H : Option Addr) (C D E : Nat) (so : Nat → Option Addr) (sc : Nat → Nat) (G B R K : Int) (bg ba : Nat) : LSm := fun ts ch k =>
  (ts.map SV.den = (akSH x O A H C D E so sc G B R K bg ba (.il 0) (fun d => (ts.getD d .undef).den)).map SV.den ∧ selC ch [0, 1, 2, 3, 4, 5] = akST x O A H C D E so sc G B R K bg ba) ∧
    (∀ g, allB x.c.n (akSP x O A H C D E so sc G B R K bg ba) = true → k (.exit 0) (akSH x O A H C D E so sc G B R K bg ba (.int (x.c.n : Int)) g) (akST x O A H C D E so sc G B R K bg ba)) ∧ (∀ g, allB x.c.n (akSP x O A H C D E so sc G B R K bg ba) = false → k .ret (akSR x O A H C D E so sc G B R K bg ba g) (akST x O A H C D E so sc G B R K bg ba))
theorem akSB (x : AD) (O A H : Option Addr) (C D E : Nat) (so : Nat → Option Addr) (sc : Nat → Nat) (G B R K : Int) (bg ba : Nat) (j : Nat) (g : Nat → Value) (NX : List SV → List Ch → Prop) (kx : Exit → List SV → List Ch → Prop) : (exCode Try.prog { tb := [(64, sSym)] } 400 (theLoop Try.f46 0) (akSH x O A H C D E so sc G B R K bg ba (.int (j : Int)) g) (akST x O A H C D E so sc G B R K bg ba) (loopK NX kx)) = (
  (ba = ba ∧
 (((decide (((j : Nat) : Int) < ((x.1.1 : Nat) : Int))) = true →
 (ba = ba ∧
 (O = O ∧
 (x.1.1 = x.1.1 ∧
 ((0 ≤ ((j : Nat) : Int) ∧ ((j : Nat) : Int) < ((x.1.1 : Nat) : Int)) ∧
 (O = O ∧
 (j < x.1.1 ∧
 (O = O ∧
 (j < x.1.1 ∧
 (∃ t0 : Nat, (∃ y1 : CD, (∃ so2 : (Nat →
 (Option Addr)), (∃ sc3 : (Nat →
 Nat), (∃ i4 : Nat, (((symRows false 0 x.1 so (fun x5 => 0)) = (symRows false t0 y1 so2 sc3) ∧
 ((so j) = (so2 i4) ∧
 ((x.1.2 j) = (y1.2 i4) ∧
 i4 < y1.1))) ∧
 ((lenC (x.1.2 j)) ∧
 (((!(symB (x.1.2 j) (y1.3 i4) (11 : Int))) = true →
 (kx Exit.ret [(vV (g 0)), (vV (g 1)), (pV 4 bg 0), (pV 5 ba 0), fV, (iV ((j : Nat) : Int)), (vV (g 6)), (vV (g 7)), (vV (g 8)), (vV (g 9)), (vV (g 10)), (vV (g 11)), (vV (g 12)), (vV (g 13)), (vV (g 14)), (vV (g 15)), (vV (g 16)), (vV (g 17)), (vV (g 18)), (vV (g 19)), (vV (g 20)), (vV (g 21)), (vV (g 22)), (vV (g 23)), (vV (g 24)), (vV (g 25)), (vV (g 26)), (vV (g 27)), (vV (g 28)), (vV (g 29)), (vV (g 30)), (vV (g 31)), (vV (g 32)), (vV (g 33)), (vV (g 34)), (vV (g 35)), (vV (g 36)), (vV (g 37)), (iV ((j : Nat) : Int)), (pV 5 ba 0), (sV 0 O x.1.1 C), (iV ((x.1.1 : Nat) : Int)), tV, (vV (g 43)), (vV (g 44)), (pV 5 ba 0), (sV 0 O x.1.1 C), (iV ((j : Nat) : Int)), (rV 0 O 2 j 0), (rV 0 O 2 j 0), (sV 3 (so j) (x.1.2 j) (sc j)), (bV (symB (x.1.2 j) (y1.3 i4) (11 : Int))), tV, (vV (g 53)), (vV (g 54)), (vV (g 55)), (vV (g 56)), (vV (g 57)), (vV (g 58)), (vV (g 59)), (vV (g 60)), (vV (g 61)), (vV (g 62)), (vV (g 63)), (vV (g 64)), (vV (g 65)), (vV (g 66)), (vV (g 67)), (vV (g 68)), (vV (g 69)), (vV (g 70)), (vV (g 71)), (vV (g 72)), (vV (g 73)), (vV (g 74)), (vV (g 75))] [(Hr false O 0 2 x.1.1 0 [(fun i6 => (Cs 3 (so i6) (x.1.2 i6) (sc i6))), (fun i7 => (Cb (x.1.4 i7)))]), (Hr false A 0 1 x.2 0 [(fun i8 => (Ci (x.3 i8)))]), (Hr false H 0 1 x.4 0 [(fun i9 => (Ci (x.5 i9)))]), (Ho false (symRows false 0 x.1 so (fun x10 => 0))), (Hc bg 37 [(Ci G), (Ci B), (Ci R), (Ci K)]), (Hc ba 33 [(Cs 0 O x.1.1 C), (Cs 1 A x.2 D), (Cs 2 H x.4 E)])])) ∧
 ((!(symB (x.1.2 j) (y1.3 i4) (11 : Int))) = false →
 ((rng (((j : Nat) : Int) + (1 : Int))) ∧
 (NX [(vV (g 0)), (vV (g 1)), (pV 4 bg 0), (pV 5 ba 0), (vV (g 4)), (iV (((j : Nat) : Int) + (1 : Int))), (vV (g 6)), (vV (g 7)), (vV (g 8)), (vV (g 9)), (vV (g 10)), (vV (g 11)), (vV (g 12)), (vV (g 13)), (vV (g 14)), (vV (g 15)), (vV (g 16)), (vV (g 17)), (vV (g 18)), (vV (g 19)), (vV (g 20)), (vV (g 21)), (vV (g 22)), (vV (g 23)), (vV (g 24)), (vV (g 25)), (vV (g 26)), (vV (g 27)), (vV (g 28)), (vV (g 29)), (vV (g 30)), (vV (g 31)), (vV (g 32)), (vV (g 33)), (vV (g 34)), (vV (g 35)), (vV (g 36)), (vV (g 37)), (iV ((j : Nat) : Int)), (pV 5 ba 0), (sV 0 O x.1.1 C), (iV ((x.1.1 : Nat) : Int)), tV, (iV ((j : Nat) : Int)), (iV (((j : Nat) : Int) + (1 : Int))), (pV 5 ba 0), (sV 0 O x.1.1 C), (iV ((j : Nat) : Int)), (rV 0 O 2 j 0), (rV 0 O 2 j 0), (sV 3 (so j) (x.1.2 j) (sc j)), (bV (symB (x.1.2 j) (y1.3 i4) (11 : Int))), fV, (vV (g 53)), (vV (g 54)), (vV (g 55)), (vV (g 56)), (vV (g 57)), (vV (g 58)), (vV (g 59)), (vV (g 60)), (vV (g 61)), (vV (g 62)), (vV (g 63)), (vV (g 64)), (vV (g 65)), (vV (g 66)), (vV (g 67)), (vV (g 68)), (vV (g 69)), (vV (g 70)), (vV (g 71)), (vV (g 72)), (vV (g 73)), (vV (g 74)), (vV (g 75))] [(Hr false O 0 2 x.1.1 0 [(fun i11 => (Cs 3 (so i11) (x.1.2 i11) (sc i11))), (fun i12 => (Cb (x.1.4 i12)))]), (Hr false A 0 1 x.2 0 [(fun i13 => (Ci (x.3 i13)))]), (Hr false H 0 1 x.4 0 [(fun i14 => (Ci (x.5 i14)))]), (Ho false (symRows false 0 x.1 so (fun x15 => 0))), (Hc bg 37 [(Ci G), (Ci B), (Ci R), (Ci K)]), (Hc ba 33 [(Cs 0 O x.1.1 C), (Cs 1 A x.2 D), (Cs 2 H x.4 E)])])))))))))))))))))))) ∧
 ((decide (((j : Nat) : Int) < ((x.1.1 : Nat) : Int))) = false →
 (kx (Exit.exit 0) [(vV (g 0)), (vV (g 1)), (pV 4 bg 0), (pV 5 ba 0), (vV (g 4)), (iV ((j : Nat) : Int)), (vV (g 6)), (vV (g 7)), (vV (g 8)), (vV (g 9)), (vV (g 10)), (vV (g 11)), (vV (g 12)), (vV (g 13)), (vV (g 14)), (vV (g 15)), (vV (g 16)), (vV (g 17)), (vV (g 18)), (vV (g 19)), (vV (g 20)), (vV (g 21)), (vV (g 22)), (vV (g 23)), (vV (g 24)), (vV (g 25)), (vV (g 26)), (vV (g 27)), (vV (g 28)), (vV (g 29)), (vV (g 30)), (vV (g 31)), (vV (g 32)), (vV (g 33)), (vV (g 34)), (vV (g 35)), (vV (g 36)), (vV (g 37)), (iV ((j : Nat) : Int)), (pV 5 ba 0), (sV 0 O x.1.1 C), (iV ((x.1.1 : Nat) : Int)), fV, (vV (g 43)), (vV (g 44)), (vV (g 45)), (vV (g 46)), (vV (g 47)), (vV (g 48)), (vV (g 49)), (vV (g 50)), (vV (g 51)), (vV (g 52)), (vV (g 53)), (vV (g 54)), (vV (g 55)), (vV (g 56)), (vV (g 57)), (vV (g 58)), (vV (g 59)), (vV (g 60)), (vV (g 61)), (vV (g 62)), (vV (g 63)), (vV (g 64)), (vV (g 65)), (vV (g 66)), (vV (g 67)), (vV (g 68)), (vV (g 69)), (vV (g 70)), (vV (g 71)), (vV (g 72)), (vV (g 73)), (vV (g 74)), (vV (g 75))] [(Hr false O 0 2 x.1.1 0 [(fun i16 => (Cs 3 (so i16) (x.1.2 i16) (sc i16))), (fun i17 => (Cb (x.1.4 i17)))]), (Hr false A 0 1 x.2 0 [(fun i18 => (Ci (x.3 i18)))]), (Hr false H 0 1 x.4 0 [(fun i19 => (Ci (x.5 i19)))]), (Ho false (symRows false 0 x.1 so (fun x20 => 0))), (Hc bg 37 [(Ci G), (Ci B), (Ci R), (Ci K)]), (Hc ba 33 [(Cs 0 O x.1.1 C), (Cs 1 A x.2 D), (Cs 2 H x.4 E)])]))))) := by kernel_rfl
theorem akS_ok (x : AD) (O A H : Option Addr) (C D E : Nat) (so : Nat → Option Addr) (sc : Nat → Nat) (G B R K : Int) (bg ba : Nat) (hl : lenA x) (X : Cx) : LoopOK Try.prog X (theLoop Try.f46 0) (sakS x O A H C D E so sc G B R K bg ba) := by
  intro ts ch k a w hS hT hd hs
  obtain ⟨⟨h1, hch⟩, hk, hr⟩ := hS
  refine loop_ok mixed (E := { tb := [(64, sSym)] }) ⟨sSym_S, trivial⟩ (loopsOK_nil _ _ _) 400 x.c.n (fun j ts ch => ∃ g, allB j (akSP x O A H C D E so sc G B R K bg ba) = true ∧ ts = akSH x O A H C D E so sc G B R K bg ba (.int (j : Int)) g ∧ ch = akST x O A H C D E so sc G B R K bg ba) ?_ ?_ hT hd hs
  · rintro j _ _ ⟨g, hall, rfl, rfl⟩ hj
    refine (@Eq.mpr _ _ (akSB x O A H C D E so sc G B R K bg ba j g _ _) ?_)
    by_cases hlt : j < x.c.n
    · have hn := hl.1
      have hjn : (0 : Int) ≤ (j : Int) ∧ (j : Int) < (x.c.n : Int) := ⟨by omega, by omega⟩
      have hsj := hl.2.2.2 j hlt
      cases hp : akSP x O A H C D E so sc G B R K bg ba j
      all_goals simp only [akSP] at hp
      all_goals
        repeat' (first
          | with_reducible exact rfl
          | exact True.intro
          | with_reducible assumption
          | (refine ⟨hlt, ?_⟩; show Next _ _ _ _; refine Next.mk (fun g => akSH x O A H C D E so sc G B R K bg ba (.int ((j + 1 : Nat) : Int)) g) _ ⟨_, allB_succ hall (by simp only [akSP]; exact hp), rfl, rfl⟩ rfl fun w hw => hw.sel [0, 1, 2, 3, 4, 5] (by simp))
          | (refine Next.mk (fun g => akSR x O A H C D E so sc G B R K bg ba g) _ (hr _ (allB_no hlt (by simp only [akSP]; exact hp))) rfl fun w hw => hw.sel [0, 1, 2, 3, 4, 5] (by simp))
          | refine And.intro ?_ ?_
          | (intro h; exfalso; simp at h; omega)
          | (intro h; exfalso; simp [h] at hp; done)
          | (refine ⟨_, _, _, _, _, ⟨rfl, rfl, rfl, ?_⟩, ?_⟩)
          | (intro h; exfalso; rw [hp] at h; simp at h; done)
          | intro _
          | omega)
        all_goals (exfalso; simp_all; done)
    · have hjn : x.c.n = j := by omega
      subst hjn
      repeat' (first
        | with_reducible exact rfl
        | exact True.intro
        | (refine Next.mk (fun g => akSH x O A H C D E so sc G B R K bg ba (.int (x.c.n : Int)) g) _ (hk _ hall) rfl fun w hw => hw.sel [0, 1, 2, 3, 4, 5] (by simp))
        | refine And.intro ?_ ?_
        | (intro h; exfalso; simp at h; done)
        | (intro h; exfalso; simp at h; omega)
        | intro _)
  · refine Next.mk (fun g => akSH x O A H C D E so sc G B R K bg ba (.int ((0 : Nat) : Int)) g) _ ⟨_, allB_zero _, rfl, rfl⟩ h1 fun w hw => ?_
    rw [← hch]
    exact hw.sel [0, 1, 2, 3, 4, 5] (by simp)
def alSH (x : AD) (O A H : Option Addr) (C D E : Nat) (so : Nat → Option Addr) (sc : Nat → Nat) (G B R K : Int) (bg ba : Nat) (i : SC) (g : Nat → Value) : List SV := [.a (.c (.val (g 0))), .a (.c (.val (g 1))), .a (.c (.ptr 4 bg 0)), .a (.c (.ptr 5 ba 0)), .a (.c (.val (g 4))), .a (.c (.val (g 5))), .a (.c i), .a (.c (.val (g 7))), .a (.c (.val (g 8))), .a (.c (.val (g 9))), .a (.c (.val (g 10))), .a (.c (.val (g 11))), .a (.c (.val (g 12))), .a (.c (.val (g 13))), .a (.c (.val (g 14))), .a (.c (.val (g 15))), .a (.c (.val (g 16))), .a (.c (.val (g 17))), .a (.c (.val (g 18))), .a (.c (.val (g 19))), .a (.c (.val (g 20))), .a (.c (.val (g 21))), .a (.c (.val (g 22))), .a (.c (.val (g 23))), .a (.c (.val (g 24))), .a (.c (.val (g 25))), .a (.c (.val (g 26))), .a (.c (.val (g 27))), .a (.c (.val (g 28))), .a (.c (.val (g 29))), .a (.c (.val (g 30))), .a (.c (.val (g 31))), .a (.c (.val (g 32))), .a (.c (.val (g 33))), .a (.c (.val (g 34))), .a (.c (.val (g 35))), .a (.c (.val (g 36))), .a (.c (.val (g 37))), .a (.c (.val (g 38))), .a (.c (.val (g 39))), .a (.c (.val (g 40))), .a (.c (.val (g 41))), .a (.c (.val (g 42))), .a (.c (.val (g 43))), .a (.c (.val (g 44))), .a (.c (.val (g 45))), .a (.c (.val (g 46))), .a (.c (.val (g 47))), .a (.c (.val (g 48))), .a (.c (.val (g 49))), .a (.c (.val (g 50))), .a (.c (.val (g 51))), .a (.c (.val (g 52))), .a (.c (.val (g 53))), .a (.c (.val (g 54))), .a (.c (.val (g 55))), .a (.c (.val (g 56))), .a (.c (.val (g 57))), .a (.c (.val (g 58))), .a (.c (.val (g 59))), .a (.c (.val (g 60))), .a (.c (.val (g 61))), .a (.c (.val (g 62))), .a (.c (.val (g 63))), .a (.c (.val (g 64))), .a (.c (.val (g 65))), .a (.c (.val (g 66))), .a (.c (.val (g 67))), .a (.c (.val (g 68))), .a (.c (.val (g 69))), .a (.c (.val (g 70))), .a (.c (.val (g 71))), .a (.c (.val (g 72))), .a (.c (.val (g 73))), .a (.c (.val (g 74))), .a (.c (.val (g 75)))]
def alSR (x : AD) (O A H : Option Addr) (C D E : Nat) (so : Nat → Option Addr) (sc : Nat → Nat) (G B R K : Int) (bg ba : Nat) (g : Nat → Value) : List SV := [.a (.c (.val (g 0))), .a (.c (.val (g 1))), .a (.c (.val (g 2))), .a (.c (.val (g 3))), .a (.c (.lit false)), .a (.c (.val (g 5))), .a (.c (.val (g 6))), .a (.c (.val (g 7))), .a (.c (.val (g 8))), .a (.c (.val (g 9))), .a (.c (.val (g 10))), .a (.c (.val (g 11))), .a (.c (.val (g 12))), .a (.c (.val (g 13))), .a (.c (.val (g 14))), .a (.c (.val (g 15))), .a (.c (.val (g 16))), .a (.c (.val (g 17))), .a (.c (.val (g 18))), .a (.c (.val (g 19))), .a (.c (.val (g 20))), .a (.c (.val (g 21))), .a (.c (.val (g 22))), .a (.c (.val (g 23))), .a (.c (.val (g 24))), .a (.c (.val (g 25))), .a (.c (.val (g 26))), .a (.c (.val (g 27))), .a (.c (.val (g 28))), .a (.c (.val (g 29))), .a (.c (.val (g 30))), .a (.c (.val (g 31))), .a (.c (.val (g 32))), .a (.c (.val (g 33))), .a (.c (.val (g 34))), .a (.c (.val (g 35))), .a (.c (.val (g 36))), .a (.c (.val (g 37))), .a (.c (.val (g 38))), .a (.c (.val (g 39))), .a (.c (.val (g 40))), .a (.c (.val (g 41))), .a (.c (.val (g 42))), .a (.c (.val (g 43))), .a (.c (.val (g 44))), .a (.c (.val (g 45))), .a (.c (.val (g 46))), .a (.c (.val (g 47))), .a (.c (.val (g 48))), .a (.c (.val (g 49))), .a (.c (.val (g 50))), .a (.c (.val (g 51))), .a (.c (.val (g 52))), .a (.c (.val (g 53))), .a (.c (.val (g 54))), .a (.c (.val (g 55))), .a (.c (.val (g 56))), .a (.c (.val (g 57))), .a (.c (.val (g 58))), .a (.c (.val (g 59))), .a (.c (.val (g 60))), .a (.c (.val (g 61))), .a (.c (.val (g 62))), .a (.c (.val (g 63))), .a (.c (.val (g 64))), .a (.c (.val (g 65))), .a (.c (.val (g 66))), .a (.c (.val (g 67))), .a (.c (.val (g 68))), .a (.c (.val (g 69))), .a (.c (.val (g 70))), .a (.c (.val (g 71))), .a (.c (.val (g 72))), .a (.c (.val (g 73))), .a (.c (.val (g 74))), .a (.c (.val (g 75)))]
def alST (x : AD) (O A H : Option Addr) (C D E : Nat) (so : Nat → Option Addr) (sc : Nat → Nat) (G B R K : Int) (bg ba : Nat) : List Ch := [.row ⟨false, O, 0, 2, x.c.n, 0, cellFld 3 x.c so sc⟩, .row ⟨false, A, 0, 1, x.aN, 0, [fun i => .int (x.ag i)]⟩, .row ⟨false, H, 0, 1, x.hN, 0, [fun i => .int (x.hg i)]⟩, .obj false (symRows false 0 x.c so (fun _ => 0)), .cells bg 37 [.int G, .int B, .int R, .int K], .cells ba 33 [.sl 0 O x.c.n C, .sl 1 A x.aN D, .sl 2 H x.hN E]]
def alSP (x : AD) (O A H : Option Addr) (C D E : Nat) (so : Nat → Option Addr) (sc : Nat → Nat) (G B R K : Int) (bg ba : Nat) (j : Nat) : Bool := btw (x.ag j) 0 100000 && btw (x.hg j) 0 100000
def salS (x : AD) (O A H : Option Addr) (C D E : Nat) (so : Nat → Option Addr) (sc : Nat → Nat) (G B R K : Int) (bg ba : Nat) : LSm := fun ts ch k =>
  (ts.map SV.den = (alSH x O A H C D E so sc G B R K bg ba (.il 0) (fun d => (ts.getD d .undef).den)).map SV.den ∧ selC ch [0, 1, 2, 3, 4, 5] = alST x O A H C D E so sc G B R K bg ba) ∧
    (∀ g, allB x.aN (alSP x O A H C D E so sc G B R K bg ba) = true → k (.exit 2) (alSH x O A H C D E so sc G B R K bg ba (.int (x.aN : Int)) g) (alST x O A H C D E so sc G B R K bg ba)) ∧ (∀ g, allB x.aN (alSP x O A H C D E so sc G B R K bg ba) = false → k .ret (alSR x O A H C D E so sc G B R K bg ba g) (alST x O A H C D E so sc G B R K bg ba))
theorem alSB (x : AD) (O A H : Option Addr) (C D E : Nat) (so : Nat → Option Addr) (sc : Nat → Nat) (G B R K : Int) (bg ba : Nat) (j : Nat) (g : Nat → Value) (NX : List SV → List Ch → Prop) (kx : Exit → List SV → List Ch → Prop) : (exCode Try.prog { tb := [(63, sBtw)] } 400 (theLoop Try.f46 1) (alSH x O A H C D E so sc G B R K bg ba (.int (j : Int)) g) (alST x O A H C D E so sc G B R K bg ba) (loopK NX kx)) = (
  (ba = ba ∧
 (((decide (((j : Nat) : Int) < ((x.2 : Nat) : Int))) = true →
 (ba = ba ∧
 (A = A ∧
 (x.2 = x.2 ∧
 ((0 ≤ ((j : Nat) : Int) ∧ ((j : Nat) : Int) < ((x.2 : Nat) : Int)) ∧
 (A = A ∧
 (j < x.2 ∧
 (((!(btw (x.3 j) (0 : Int) (100000 : Int))) = false →
 (ba = ba ∧
 (H = H ∧
 (x.4 = x.4 ∧
 ((0 ≤ ((j : Nat) : Int) ∧ ((j : Nat) : Int) < ((x.4 : Nat) : Int)) ∧
 (H = H ∧
 (j < x.4 ∧
 (((!(btw (x.5 j) (0 : Int) (100000 : Int))) = true →
 (kx Exit.ret [(vV (g 0)), (vV (g 1)), (pV 4 bg 0), (pV 5 ba 0), fV, (vV (g 5)), (iV ((j : Nat) : Int)), (vV (g 7)), (vV (g 8)), (vV (g 9)), (vV (g 10)), (vV (g 11)), (vV (g 12)), (vV (g 13)), (vV (g 14)), (vV (g 15)), (vV (g 16)), (vV (g 17)), (vV (g 18)), (vV (g 19)), (vV (g 20)), (vV (g 21)), (vV (g 22)), (vV (g 23)), (vV (g 24)), (vV (g 25)), (vV (g 26)), (vV (g 27)), (vV (g 28)), (vV (g 29)), (vV (g 30)), (vV (g 31)), (vV (g 32)), (vV (g 33)), (vV (g 34)), (vV (g 35)), (vV (g 36)), (vV (g 37)), (vV (g 38)), (vV (g 39)), (vV (g 40)), (vV (g 41)), (vV (g 42)), (vV (g 43)), (vV (g 44)), (vV (g 45)), (vV (g 46)), (vV (g 47)), (vV (g 48)), (vV (g 49)), (vV (g 50)), (vV (g 51)), (vV (g 52)), (iV ((j : Nat) : Int)), (pV 5 ba 1), (sV 1 A x.2 D), (iV ((x.2 : Nat) : Int)), tV, (vV (g 58)), (vV (g 59)), (pV 5 ba 1), (sV 1 A x.2 D), (iV ((j : Nat) : Int)), (rV 1 A 1 j 0), (iV (x.3 j)), (bV (btw (x.3 j) (0 : Int) (100000 : Int))), (bV (!(btw (x.3 j) (0 : Int) (100000 : Int)))), fV, (pV 5 ba 2), (sV 2 H x.4 E), (iV ((j : Nat) : Int)), (rV 2 H 1 j 0), (iV (x.5 j)), (bV (btw (x.5 j) (0 : Int) (100000 : Int))), (bV (!(btw (x.5 j) (0 : Int) (100000 : Int)))), tV] [(Hr false O 0 2 x.1.1 0 [(fun i0 => (Cs 3 (so i0) (x.1.2 i0) (sc i0))), (fun i1 => (Cb (x.1.4 i1)))]), (Hr false A 0 1 x.2 0 [(fun i2 => (Ci (x.3 i2)))]), (Hr false H 0 1 x.4 0 [(fun i3 => (Ci (x.5 i3)))]), (Ho false (symRows false 0 x.1 so (fun x4 => 0))), (Hc bg 37 [(Ci G), (Ci B), (Ci R), (Ci K)]), (Hc ba 33 [(Cs 0 O x.1.1 C), (Cs 1 A x.2 D), (Cs 2 H x.4 E)])])) ∧
 ((!(btw (x.5 j) (0 : Int) (100000 : Int))) = false →
 ((rng (((j : Nat) : Int) + (1 : Int))) ∧
 (NX [(vV (g 0)), (vV (g 1)), (pV 4 bg 0), (pV 5 ba 0), (vV (g 4)), (vV (g 5)), (iV (((j : Nat) : Int) + (1 : Int))), (vV (g 7)), (vV (g 8)), (vV (g 9)), (vV (g 10)), (vV (g 11)), (vV (g 12)), (vV (g 13)), (vV (g 14)), (vV (g 15)), (vV (g 16)), (vV (g 17)), (vV (g 18)), (vV (g 19)), (vV (g 20)), (vV (g 21)), (vV (g 22)), (vV (g 23)), (vV (g 24)), (vV (g 25)), (vV (g 26)), (vV (g 27)), (vV (g 28)), (vV (g 29)), (vV (g 30)), (vV (g 31)), (vV (g 32)), (vV (g 33)), (vV (g 34)), (vV (g 35)), (vV (g 36)), (vV (g 37)), (vV (g 38)), (vV (g 39)), (vV (g 40)), (vV (g 41)), (vV (g 42)), (vV (g 43)), (vV (g 44)), (vV (g 45)), (vV (g 46)), (vV (g 47)), (vV (g 48)), (vV (g 49)), (vV (g 50)), (vV (g 51)), (vV (g 52)), (iV ((j : Nat) : Int)), (pV 5 ba 1), (sV 1 A x.2 D), (iV ((x.2 : Nat) : Int)), tV, (iV ((j : Nat) : Int)), (iV (((j : Nat) : Int) + (1 : Int))), (pV 5 ba 1), (sV 1 A x.2 D), (iV ((j : Nat) : Int)), (rV 1 A 1 j 0), (iV (x.3 j)), (bV (btw (x.3 j) (0 : Int) (100000 : Int))), (bV (!(btw (x.3 j) (0 : Int) (100000 : Int)))), fV, (pV 5 ba 2), (sV 2 H x.4 E), (iV ((j : Nat) : Int)), (rV 2 H 1 j 0), (iV (x.5 j)), (bV (btw (x.5 j) (0 : Int) (100000 : Int))), (bV (!(btw (x.5 j) (0 : Int) (100000 : Int)))), fV] [(Hr false O 0 2 x.1.1 0 [(fun i5 => (Cs 3 (so i5) (x.1.2 i5) (sc i5))), (fun i6 => (Cb (x.1.4 i6)))]), (Hr false A 0 1 x.2 0 [(fun i7 => (Ci (x.3 i7)))]), (Hr false H 0 1 x.4 0 [(fun i8 => (Ci (x.5 i8)))]), (Ho false (symRows false 0 x.1 so (fun x9 => 0))), (Hc bg 37 [(Ci G), (Ci B), (Ci R), (Ci K)]), (Hc ba 33 [(Cs 0 O x.1.1 C), (Cs 1 A x.2 D), (Cs 2 H x.4 E)])]))))))))))) ∧
 ((!(btw (x.3 j) (0 : Int) (100000 : Int))) = true →
 (kx Exit.ret [(vV (g 0)), (vV (g 1)), (pV 4 bg 0), (pV 5 ba 0), fV, (vV (g 5)), (iV ((j : Nat) : Int)), (vV (g 7)), (vV (g 8)), (vV (g 9)), (vV (g 10)), (vV (g 11)), (vV (g 12)), (vV (g 13)), (vV (g 14)), (vV (g 15)), (vV (g 16)), (vV (g 17)), (vV (g 18)), (vV (g 19)), (vV (g 20)), (vV (g 21)), (vV (g 22)), (vV (g 23)), (vV (g 24)), (vV (g 25)), (vV (g 26)), (vV (g 27)), (vV (g 28)), (vV (g 29)), (vV (g 30)), (vV (g 31)), (vV (g 32)), (vV (g 33)), (vV (g 34)), (vV (g 35)), (vV (g 36)), (vV (g 37)), (vV (g 38)), (vV (g 39)), (vV (g 40)), (vV (g 41)), (vV (g 42)), (vV (g 43)), (vV (g 44)), (vV (g 45)), (vV (g 46)), (vV (g 47)), (vV (g 48)), (vV (g 49)), (vV (g 50)), (vV (g 51)), (vV (g 52)), (iV ((j : Nat) : Int)), (pV 5 ba 1), (sV 1 A x.2 D), (iV ((x.2 : Nat) : Int)), tV, (vV (g 58)), (vV (g 59)), (pV 5 ba 1), (sV 1 A x.2 D), (iV ((j : Nat) : Int)), (rV 1 A 1 j 0), (iV (x.3 j)), (bV (btw (x.3 j) (0 : Int) (100000 : Int))), (bV (!(btw (x.3 j) (0 : Int) (100000 : Int)))), tV, xV, xV, xV, xV, xV, xV, xV, tV] [(Hr false O 0 2 x.1.1 0 [(fun i10 => (Cs 3 (so i10) (x.1.2 i10) (sc i10))), (fun i11 => (Cb (x.1.4 i11)))]), (Hr false A 0 1 x.2 0 [(fun i12 => (Ci (x.3 i12)))]), (Hr false H 0 1 x.4 0 [(fun i13 => (Ci (x.5 i13)))]), (Ho false (symRows false 0 x.1 so (fun x14 => 0))), (Hc bg 37 [(Ci G), (Ci B), (Ci R), (Ci K)]), (Hc ba 33 [(Cs 0 O x.1.1 C), (Cs 1 A x.2 D), (Cs 2 H x.4 E)])])))))))))) ∧
 ((decide (((j : Nat) : Int) < ((x.2 : Nat) : Int))) = false →
 (kx (Exit.exit 2) [(vV (g 0)), (vV (g 1)), (pV 4 bg 0), (pV 5 ba 0), (vV (g 4)), (vV (g 5)), (iV ((j : Nat) : Int)), (vV (g 7)), (vV (g 8)), (vV (g 9)), (vV (g 10)), (vV (g 11)), (vV (g 12)), (vV (g 13)), (vV (g 14)), (vV (g 15)), (vV (g 16)), (vV (g 17)), (vV (g 18)), (vV (g 19)), (vV (g 20)), (vV (g 21)), (vV (g 22)), (vV (g 23)), (vV (g 24)), (vV (g 25)), (vV (g 26)), (vV (g 27)), (vV (g 28)), (vV (g 29)), (vV (g 30)), (vV (g 31)), (vV (g 32)), (vV (g 33)), (vV (g 34)), (vV (g 35)), (vV (g 36)), (vV (g 37)), (vV (g 38)), (vV (g 39)), (vV (g 40)), (vV (g 41)), (vV (g 42)), (vV (g 43)), (vV (g 44)), (vV (g 45)), (vV (g 46)), (vV (g 47)), (vV (g 48)), (vV (g 49)), (vV (g 50)), (vV (g 51)), (vV (g 52)), (iV ((j : Nat) : Int)), (pV 5 ba 1), (sV 1 A x.2 D), (iV ((x.2 : Nat) : Int)), fV, (vV (g 58)), (vV (g 59)), (vV (g 60)), (vV (g 61)), (vV (g 62)), (vV (g 63)), (vV (g 64)), (vV (g 65)), (vV (g 66)), (vV (g 67)), (vV (g 68)), (vV (g 69)), (vV (g 70)), (vV (g 71)), (vV (g 72)), (vV (g 73)), (vV (g 74)), (vV (g 75))] [(Hr false O 0 2 x.1.1 0 [(fun i15 => (Cs 3 (so i15) (x.1.2 i15) (sc i15))), (fun i16 => (Cb (x.1.4 i16)))]), (Hr false A 0 1 x.2 0 [(fun i17 => (Ci (x.3 i17)))]), (Hr false H 0 1 x.4 0 [(fun i18 => (Ci (x.5 i18)))]), (Ho false (symRows false 0 x.1 so (fun x19 => 0))), (Hc bg 37 [(Ci G), (Ci B), (Ci R), (Ci K)]), (Hc ba 33 [(Cs 0 O x.1.1 C), (Cs 1 A x.2 D), (Cs 2 H x.4 E)])]))))) := by kernel_rfl
theorem alS_ok (x : AD) (O A H : Option Addr) (C D E : Nat) (so : Nat → Option Addr) (sc : Nat → Nat) (G B R K : Int) (bg ba : Nat) (hl : lenA x) (hh : x.hN = x.aN) (X : Cx) : LoopOK Try.prog X (theLoop Try.f46 1) (salS x O A H C D E so sc G B R K bg ba) := by
  intro ts ch k a w hS hT hd hs
  obtain ⟨⟨h1, hch⟩, hk, hr⟩ := hS
  refine loop_ok mixed (E := { tb := [(63, sBtw)] }) ⟨sBtwS_ok, trivial⟩ (loopsOK_nil _ _ _) 400 x.aN (fun j ts ch => ∃ g, allB j (alSP x O A H C D E so sc G B R K bg ba) = true ∧ ts = alSH x O A H C D E so sc G B R K bg ba (.int (j : Int)) g ∧ ch = alST x O A H C D E so sc G B R K bg ba) ?_ ?_ hT hd hs
  · rintro j _ _ ⟨g, hall, rfl, rfl⟩ hj
    refine (@Eq.mpr _ _ (alSB x O A H C D E so sc G B R K bg ba j g _ _) ?_)
    by_cases hlt : j < x.aN
    · have hn := hl.2.1
      have hjn : (0 : Int) ≤ (j : Int) ∧ (j : Int) < (x.aN : Int) := ⟨by omega, by omega⟩
      have hjh : j < x.hN := by omega
      have hjh2 : (0 : Int) ≤ (j : Int) ∧ (j : Int) < (x.hN : Int) := ⟨by omega, by omega⟩
      cases hp1 : btw (x.ag j) 0 100000 <;> cases hp2 : btw (x.hg j) 0 100000
      all_goals
      cases hp : alSP x O A H C D E so sc G B R K bg ba j
      all_goals simp only [alSP] at hp
      all_goals
        repeat' (first
          | with_reducible exact rfl
          | exact True.intro
          | with_reducible assumption
          | (refine ⟨hlt, ?_⟩; show Next _ _ _ _; refine Next.mk (fun g => alSH x O A H C D E so sc G B R K bg ba (.int ((j + 1 : Nat) : Int)) g) _ ⟨_, allB_succ hall (by simp only [alSP]; exact hp), rfl, rfl⟩ rfl fun w hw => hw.sel [0, 1, 2, 3, 4, 5] (by simp))
          | (refine Next.mk (fun g => alSR x O A H C D E so sc G B R K bg ba g) _ (hr _ (allB_no hlt (by simp only [alSP]; exact hp))) rfl fun w hw => hw.sel [0, 1, 2, 3, 4, 5] (by simp))
          | refine And.intro ?_ ?_
          | (intro h; exfalso; simp at h; omega)
          | (intro h; exfalso; simp [h] at hp; done)
          | (intro h; exfalso; simp at h; done)
          | intro _
          | omega)
        all_goals (exfalso; simp_all; done)
    · have hjn : x.aN = j := by omega
      subst hjn
      repeat' (first
        | with_reducible exact rfl
        | exact True.intro
        | (refine Next.mk (fun g => alSH x O A H C D E so sc G B R K bg ba (.int (x.aN : Int)) g) _ (hk _ hall) rfl fun w hw => hw.sel [0, 1, 2, 3, 4, 5] (by simp))
        | refine And.intro ?_ ?_
        | (intro h; exfalso; simp at h; done)
        | (intro h; exfalso; simp at h; omega)
        | intro _)
  · refine Next.mk (fun g => alSH x O A H C D E so sc G B R K bg ba (.int ((0 : Nat) : Int)) g) _ ⟨_, allB_zero _, rfl, rfl⟩ h1 fun w hw => ?_
    rw [← hch]
    exact hw.sel [0, 1, 2, 3, 4, 5] (by simp)

def sakkI (x : AD) (O A H : Option Addr) (C D E : Nat) (so : Nat → Option Addr) (sc : Nat → Nat) (G B R K : Int) : LSm := fun ts ch kk => lenA x ∧ ∃ bg ba, sakI x O A H C D E so sc G B R K bg ba ts ch kk
def sallI (x : AD) (O A H : Option Addr) (C D E : Nat) (so : Nat → Option Addr) (sc : Nat → Nat) (G B R K : Int) : LSm := fun ts ch kk => (lenA x ∧ x.hN = x.aN) ∧ ∃ bg ba, salI x O A H C D E so sc G B R K bg ba ts ch kk
theorem akkI_ok (x : AD) (O A H : Option Addr) (C D E : Nat) (so : Nat → Option Addr) (sc : Nat → Nat) (G B R K : Int) (X : Cx) : LoopOK Try.prog X (theLoop Try.f52 0) (sakkI x O A H C D E so sc G B R K) := by
  rintro ts ch kk a w ⟨h1, bg, ba, hS⟩ hT hd hs
  exact akI_ok x O A H C D E so sc G B R K bg ba h1 X ts ch kk a w hS hT hd hs
theorem allI_ok (x : AD) (O A H : Option Addr) (C D E : Nat) (so : Nat → Option Addr) (sc : Nat → Nat) (G B R K : Int) (X : Cx) : LoopOK Try.prog X (theLoop Try.f52 1) (sallI x O A H C D E so sc G B R K) := by
  rintro ts ch kk a w ⟨⟨h1, h2⟩, bg, ba, hS⟩ hT hd hs
  exact alI_ok x O A H C D E so sc G B R K bg ba h1 h2 X ts ch kk a w hS hT hd hs
theorem arrokI_T (x : AD) (O A H : Option Addr) (C D E : Nat) (so : Nat → Option Addr) (sc : Nat → Nat) (G B R K : Int) : (exFn Try.prog { tb := [(93, sGeo), (92, sBank), (94, sLine)], L := [(5, sakkI x O A H C D E so sc G B R K), (11, sallI x O A H C D E so sc G B R K)] } 400 Try.f52 ([.a (.agg [.int G, .int B, .int R, .int K]), .a (arrS 0 x O A H C D E)]) (arrR 0 x O A H so sc) (fun v _ => v.den = .bool (arrOk G B R K x))) = (
  (∀ b0 : Nat,
 (∀ b1 : Nat,
 (b0 = b0 ∧
 (b0 = b0 ∧
 (True ∧
 ((rng ((bankN G B R K) * R)) ∧
 (b0 = b0 ∧
 (True ∧
 (((!(geoB G B R K)) = false →
 (b1 = b1 ∧
 (b0 = b0 ∧
 (True ∧
 (((((x.1.1 : Nat) : Int) != (lineN G B R K)) = false →
 (b1 = b1 ∧
 (((((x.2 : Nat) : Int) != ((bankN G B R K) * R)) = false →
 (b1 = b1 ∧
 (((((x.4 : Nat) : Int) != ((bankN G B R K) * R)) = true →
 (Wb false) = (Wb (arrOk G B R K x))) ∧
 ((((x.4 : Nat) : Int) != ((bankN G B R K) * R)) = false →
 (b1 = b1 ∧
 ((lenA x) ∧
 (∃ bg2 : Nat, (∃ ba3 : Nat, (([(Wa [(Wi G), (Wi B), (Wi R), (Wi K)]), (Wa [(Ws O x.1.1 C), (Ws A x.2 D), (Ws H x.4 E)]), (Wp b0 0), (Wp b1 0), (Wb false), (Wi ((bankN G B R K) * R)), (Wu []), (Wu []), (Wu []), (Wa [(Wi G), (Wi B), (Wi R), (Wi K)]), (Wi (bankN G B R K)), (Wp b0 2), (Wi R), (Wi ((bankN G B R K) * R)), (Wa [(Wi G), (Wi B), (Wi R), (Wi K)]), (Wb (geoB G B R K)), (Wb (!(geoB G B R K))), (Wb false), (Wp b1 0), (Ws O x.1.1 C), (Wi ((x.1.1 : Nat) : Int)), (Wa [(Wi G), (Wi B), (Wi R), (Wi K)]), (Wi (lineN G B R K)), (Wb (((x.1.1 : Nat) : Int) != (lineN G B R K))), (Wb (((x.1.1 : Nat) : Int) != (lineN G B R K))), (Wb false), (Wp b1 1), (Ws A x.2 D), (Wi ((x.2 : Nat) : Int)), (Wi ((bankN G B R K) * R)), (Wb (((x.2 : Nat) : Int) != ((bankN G B R K) * R))), (Wb (((x.2 : Nat) : Int) != ((bankN G B R K) * R))), (Wb false), (Wp b1 2), (Ws H x.4 E), (Wi ((x.4 : Nat) : Int)), (Wi ((bankN G B R K) * R)), (Wb (((x.4 : Nat) : Int) != ((bankN G B R K) * R))), (Wb false), (Wp b1 0), (Ws O x.1.1 C), (Wi ((x.1.1 : Nat) : Int)), (Wi 0), (Wu []), (Wu []), (Wu []), (Wu []), (Wu []), (Wu []), (Wu []), (Wu []), (Wu []), (Wu []), (Wu []), (Wu []), (Wu []), (Wu []), (Wu []), (Wu []), (Wu []), (Wu []), (Wu []), (Wu []), (Wu []), (Wu []), (Wu []), (Wu []), (Wu []), (Wu []), (Wu []), (Wu []), (Wu []), (Wu []), (Wu [])] = [(Wa [(Wi G), (Wi B), (Wi R), (Wi K)]), (Wa [(Ws O x.1.1 C), (Ws A x.2 D), (Ws H x.4 E)]), (Wp bg2 0), (Wp ba3 0), (Wb false), (Wi ((bankN G B R K) * R)), (Wu []), (Wu []), (Wu []), (Wa [(Wi G), (Wi B), (Wi R), (Wi K)]), (Wi (bankN G B R K)), (Wp b0 2), (Wi R), (Wi ((bankN G B R K) * R)), (Wa [(Wi G), (Wi B), (Wi R), (Wi K)]), (Wb (geoB G B R K)), (Wb (!(geoB G B R K))), (Wb false), (Wp b1 0), (Ws O x.1.1 C), (Wi ((x.1.1 : Nat) : Int)), (Wa [(Wi G), (Wi B), (Wi R), (Wi K)]), (Wi (lineN G B R K)), (Wb (((x.1.1 : Nat) : Int) != (lineN G B R K))), (Wb (((x.1.1 : Nat) : Int) != (lineN G B R K))), (Wb false), (Wp b1 1), (Ws A x.2 D), (Wi ((x.2 : Nat) : Int)), (Wi ((bankN G B R K) * R)), (Wb (((x.2 : Nat) : Int) != ((bankN G B R K) * R))), (Wb (((x.2 : Nat) : Int) != ((bankN G B R K) * R))), (Wb false), (Wp b1 2), (Ws H x.4 E), (Wi ((x.4 : Nat) : Int)), (Wi ((bankN G B R K) * R)), (Wb (((x.4 : Nat) : Int) != ((bankN G B R K) * R))), (Wb false), (Wp b1 0), (Ws O x.1.1 C), (Wi ((x.1.1 : Nat) : Int)), (Wi 0), (Wu []), (Wu []), (Wu []), (Wu []), (Wu []), (Wu []), (Wu []), (Wu []), (Wu []), (Wu []), (Wu []), (Wu []), (Wu []), (Wu []), (Wu []), (Wu []), (Wu []), (Wu []), (Wu []), (Wu []), (Wu []), (Wu []), (Wu []), (Wu []), (Wu []), (Wu []), (Wu []), (Wu []), (Wu []), (Wu []), (Wu [])] ∧
 [(Hr false O 0 2 x.1.1 0 [(fun i4 => (Cs 3 (so i4) (x.1.2 i4) (sc i4))), (fun i5 => (Cb (x.1.4 i5)))]), (Hr false A 0 1 x.2 0 [(fun i6 => (Ci (x.3 i6)))]), (Hr false H 0 1 x.4 0 [(fun i7 => (Ci (x.5 i7)))]), (Ho false (symRows false 0 x.1 so (fun x8 => 0))), (Hc b0 37 [(Ci G), (Ci B), (Ci R), (Ci K)]), (Hc b1 33 [(Cs 0 O x.1.1 C), (Cs 1 A x.2 D), (Cs 2 H x.4 E)])] = [(Hr false O 0 2 x.1.1 0 [(fun i9 => (Cs 3 (so i9) (x.1.2 i9) (sc i9))), (fun i10 => (Cb (x.1.4 i10)))]), (Hr false A 0 1 x.2 0 [(fun i11 => (Ci (x.3 i11)))]), (Hr false H 0 1 x.4 0 [(fun i12 => (Ci (x.5 i12)))]), (Ho false (symRows false 0 x.1 so (fun x13 => 0))), (Hc bg2 37 [(Ci G), (Ci B), (Ci R), (Ci K)]), (Hc ba3 33 [(Cs 0 O x.1.1 C), (Cs 1 A x.2 D), (Cs 2 H x.4 E)])]) ∧
 ((∀ g14 : (Nat →
 Value),
 ((allB x.1.1 (akIP x O A H C D E so sc G B R K bg2 ba3)) = true →
 (ba3 = ba3 ∧
 (((lenA x) ∧
 x.4 = x.2) ∧
 (∃ bg15 : Nat, (∃ ba16 : Nat, (([(g14 0), (g14 1), (Wp bg2 0), (Wp ba3 0), (g14 4), (g14 5), (g14 6), (g14 7), (g14 8), (g14 9), (g14 10), (g14 11), (g14 12), (g14 13), (g14 14), (g14 15), (g14 16), (g14 17), (g14 18), (g14 19), (g14 20), (g14 21), (g14 22), (g14 23), (g14 24), (g14 25), (g14 26), (g14 27), (g14 28), (g14 29), (g14 30), (g14 31), (g14 32), (g14 33), (g14 34), (g14 35), (g14 36), (g14 37), (g14 38), (g14 39), (Ws O x.1.1 C), (Wi ((x.1.1 : Nat) : Int)), (Wi ((x.1.1 : Nat) : Int)), (g14 43), (g14 44), (g14 45), (g14 46), (g14 47), (g14 48), (g14 49), (g14 50), (Wp ba3 1), (Ws A x.2 D), (Wi ((x.2 : Nat) : Int)), (Wi 0), (g14 55), (g14 56), (g14 57), (g14 58), (g14 59), (g14 60), (g14 61), (g14 62), (g14 63), (g14 64), (g14 65), (g14 66), (g14 67), (g14 68), (g14 69), (g14 70), (g14 71), (g14 72), (g14 73)] = [(g14 0), (g14 1), (Wp bg15 0), (Wp ba16 0), (g14 4), (g14 5), (g14 6), (g14 7), (g14 8), (g14 9), (g14 10), (g14 11), (g14 12), (g14 13), (g14 14), (g14 15), (g14 16), (g14 17), (g14 18), (g14 19), (g14 20), (g14 21), (g14 22), (g14 23), (g14 24), (g14 25), (g14 26), (g14 27), (g14 28), (g14 29), (g14 30), (g14 31), (g14 32), (g14 33), (g14 34), (g14 35), (g14 36), (g14 37), (g14 38), (g14 39), (Ws O x.1.1 C), (Wi ((x.1.1 : Nat) : Int)), (Wi ((x.1.1 : Nat) : Int)), (g14 43), (g14 44), (g14 45), (g14 46), (g14 47), (g14 48), (g14 49), (g14 50), (Wp ba3 1), (Ws A x.2 D), (Wi ((x.2 : Nat) : Int)), (Wi 0), (g14 55), (g14 56), (g14 57), (g14 58), (g14 59), (g14 60), (g14 61), (g14 62), (g14 63), (g14 64), (g14 65), (g14 66), (g14 67), (g14 68), (g14 69), (g14 70), (g14 71), (g14 72), (g14 73)] ∧
 [(Hr false O 0 2 x.1.1 0 [(fun i17 => (Cs 3 (so i17) (x.1.2 i17) (sc i17))), (fun i18 => (Cb (x.1.4 i18)))]), (Hr false A 0 1 x.2 0 [(fun i19 => (Ci (x.3 i19)))]), (Hr false H 0 1 x.4 0 [(fun i20 => (Ci (x.5 i20)))]), (Ho false (symRows false 0 x.1 so (fun x21 => 0))), (Hc bg2 37 [(Ci G), (Ci B), (Ci R), (Ci K)]), (Hc ba3 33 [(Cs 0 O x.1.1 C), (Cs 1 A x.2 D), (Cs 2 H x.4 E)])] = [(Hr false O 0 2 x.1.1 0 [(fun i22 => (Cs 3 (so i22) (x.1.2 i22) (sc i22))), (fun i23 => (Cb (x.1.4 i23)))]), (Hr false A 0 1 x.2 0 [(fun i24 => (Ci (x.3 i24)))]), (Hr false H 0 1 x.4 0 [(fun i25 => (Ci (x.5 i25)))]), (Ho false (symRows false 0 x.1 so (fun x26 => 0))), (Hc bg15 37 [(Ci G), (Ci B), (Ci R), (Ci K)]), (Hc ba16 33 [(Cs 0 O x.1.1 C), (Cs 1 A x.2 D), (Cs 2 H x.4 E)])]) ∧
 ((∀ g27 : (Nat →
 Value),
 ((allB x.2 (alIP x O A H C D E so sc G B R K bg15 ba16)) = true →
 (Wb true) = (Wb (arrOk G B R K x)))) ∧
 (∀ g28 : (Nat →
 Value),
 ((allB x.2 (alIP x O A H C D E so sc G B R K bg15 ba16)) = false →
 (Wb false) = (Wb (arrOk G B R K x)))))))))))) ∧
 (∀ g29 : (Nat →
 Value),
 ((allB x.1.1 (akIP x O A H C D E so sc G B R K bg2 ba3)) = false →
 (Wb false) = (Wb (arrOk G B R K x)))))))))))))) ∧
 ((((x.2 : Nat) : Int) != ((bankN G B R K) * R)) = true →
 (Wb false) = (Wb (arrOk G B R K x)))))) ∧
 ((((x.1.1 : Nat) : Int) != (lineN G B R K)) = true →
 (Wb false) = (Wb (arrOk G B R K x)))))))) ∧
 ((!(geoB G B R K)) = true →
 (Wb false) = (Wb (arrOk G B R K x))))))))))))) := by kernel_rfl
theorem arrokI_any (x : AD) (O A H : Option Addr) (C D E : Nat) (so : Nat → Option Addr) (sc : Nat → Nat) (G B R K : Int) (w : World) (hA : SeenA w x O A H so sc) (hl : lenA x) : Calls Try.prog 52 #[.agg #[.int .i64 G, .int .i64 B, .int .i64 R, .int .i64 K], arrV x O A H C D E] w fun e w' => e = .returned (.bool (arrOk G B R K x)) ∧ Below w.heap.size w w' := by
  refine fn_ok mixed (E := { tb := [(93, sGeo), (92, sBank), (94, sLine)], L := [(5, sakkI x O A H C D E so sc G B R K), (11, sallI x O A H C D E so sc G B R K)] }) ⟨sGeo_I, sBank_I, sLine_I, trivial⟩ Try.func52 (two_loops (by kernel_rfl) (by decide) (akkI_ok x O A H C D E so sc G B R K _) (allI_ok x O A H C D E so sc G B R K _)) (@Eq.mpr _ _ (arrokI_T x O A H C D E so sc G B R K) ?_) (HS.seenAll (fun _ => False) _ (hA.all 0 seenC_nil)) (fun v ch' w' hv hs => ⟨by rw [hv], hs.below⟩)
  clear hA
  have l1 := hl.1
  have l2 := hl.2.1
  have l3 := hl.2.2.1
  have eS : ∀ bg ba, allB x.c.n (akIP x O A H C D E so sc G B R K bg ba) = allB x.c.n (fun j => symB (x.c.sn j) (x.c.sy j) 11) := fun _ _ => rfl
  have eA : ∀ bg ba, allB x.aN (alIP x O A H C D E so sc G B R K bg ba) = allB x.aN (fun j => btw (x.ag j) 0 100000 && btw (x.hg j) 0 100000) := fun _ _ => rfl
  simp only [eS, eA]
  cases hg : geoB G B R K
  · have hb := (line_not hg).2
    have hok : arrOk G B R K x = false := by simp [arrOk, hg]
    have hz : rng (imul (bankN G B R K) R) := by rw [hb]; simp [imul, rng]
    repeat' (first
      | with_reducible exact rfl
      | exact True.intro
      | with_reducible assumption
      | (rw [hok]; done)
      | refine And.intro ?_ ?_
      | apply Exists.intro
      | exact hl
      | (intro h; exfalso; simp at h; done)
      | (intro h; exfalso; simp [hg] at h; done)
      | (intro h; exfalso; simp [h1] at h; done)
      | (intro h; exfalso; simp [h2] at h; done)
      | (intro h; exfalso; simp [h3] at h; done)
      | (intro h; exfalso; simp [h3'] at h; done)
      | (intro h; exfalso; simp [bne, h1] at h; done)
      | (intro h; exfalso; simp only [bne, h2] at h; simp at h; done)
      | (intro h; exfalso; simp only [bne, h3] at h; simp at h; done)
      | (intro h; exfalso; simp only [bne, h3'] at h; simp at h; done)
      | (intro h; exfalso; rw [h4] at h; cases h; done)
      | (intro h; exfalso; rw [h5] at h; cases h; done)
      | intro _
      | omega
      | exact rfl)
  · have hf := geo_facts hg
    have hr := geo_bank hg
    have hq := geo_row hg
    have hb : bankN G B R K = G * B := by simp [bankN, hg]
    have hz : rng (imul (bankN G B R K) R) := by rw [hb]; exact ⟨by show _ ≤ G * B * R; omega, by show G * B * R ≤ _; omega⟩
    cases h1 : ((x.c.n : Int) == lineN G B R K)
    · have hok : arrOk G B R K x = false := by simp [arrOk, hg, ieq, h1]
      repeat' (first
        | with_reducible exact rfl
        | exact True.intro
        | with_reducible assumption
        | (rw [hok]; done)
        | refine And.intro ?_ ?_
        | apply Exists.intro
        | exact hl
        | (intro h; exfalso; simp at h; done)
        | (intro h; exfalso; simp [hg] at h; done)
        | (intro h; exfalso; simp [h1] at h; done)
        | (intro h; exfalso; simp [h2] at h; done)
        | (intro h; exfalso; simp [h3] at h; done)
        | (intro h; exfalso; simp [h3'] at h; done)
        | (intro h; exfalso; simp [bne, h1] at h; done)
        | (intro h; exfalso; simp only [bne, h2] at h; simp at h; done)
        | (intro h; exfalso; simp only [bne, h3] at h; simp at h; done)
        | (intro h; exfalso; simp only [bne, h3'] at h; simp at h; done)
        | (intro h; exfalso; rw [h4] at h; cases h; done)
        | (intro h; exfalso; rw [h5] at h; cases h; done)
        | intro _
        | omega
        | exact rfl)
    · cases h2 : ((x.aN : Int) == bankN G B R K * R)
      · have hok : arrOk G B R K x = false := by simp [arrOk, hg, ieq, h2]
        repeat' (first
          | with_reducible exact rfl
          | exact True.intro
          | with_reducible assumption
          | (rw [hok]; done)
          | refine And.intro ?_ ?_
          | apply Exists.intro
          | exact hl
          | (intro h; exfalso; simp at h; done)
          | (intro h; exfalso; simp [hg] at h; done)
          | (intro h; exfalso; simp [h1] at h; done)
          | (intro h; exfalso; simp [h2] at h; done)
          | (intro h; exfalso; simp [h3] at h; done)
          | (intro h; exfalso; simp [h3'] at h; done)
          | (intro h; exfalso; simp [bne, h1] at h; done)
          | (intro h; exfalso; simp only [bne, h2] at h; simp at h; done)
          | (intro h; exfalso; simp only [bne, h3] at h; simp at h; done)
          | (intro h; exfalso; simp only [bne, h3'] at h; simp at h; done)
          | (intro h; exfalso; rw [h4] at h; cases h; done)
          | (intro h; exfalso; rw [h5] at h; cases h; done)
          | intro _
          | omega
          | exact rfl)
      · cases h3 : ((x.hN : Int) == (x.aN : Int))
        · have hok : arrOk G B R K x = false := by simp [arrOk, hg, ieq, h3]
          have h2' := eq_of_beq h2
          have h3' : ((x.hN : Int) == bankN G B R K * R) = false := by rw [← h2']; exact h3
          repeat' (first
            | with_reducible exact rfl
            | exact True.intro
            | with_reducible assumption
            | (rw [hok]; done)
            | refine And.intro ?_ ?_
            | apply Exists.intro
            | exact hl
            | (intro h; exfalso; simp at h; done)
            | (intro h; exfalso; simp [hg] at h; done)
            | (intro h; exfalso; simp [h1] at h; done)
            | (intro h; exfalso; simp [h2] at h; done)
            | (intro h; exfalso; simp [h3] at h; done)
            | (intro h; exfalso; simp [h3'] at h; done)
            | (intro h; exfalso; simp [bne, h1] at h; done)
            | (intro h; exfalso; simp only [bne, h2] at h; simp at h; done)
            | (intro h; exfalso; simp only [bne, h3] at h; simp at h; done)
            | (intro h; exfalso; simp only [bne, h3'] at h; simp at h; done)
            | (intro h; exfalso; rw [h4] at h; cases h; done)
            | (intro h; exfalso; rw [h5] at h; cases h; done)
            | intro _
            | omega
            | exact rfl)
        · have hh : x.hN = x.aN := by have := eq_of_beq h3; omega
          have h2' := eq_of_beq h2
          have h3' : ((x.hN : Int) == bankN G B R K * R) = true := by rw [← h2']; exact h3
          cases h4 : allB x.c.n (fun j => symB (x.c.sn j) (x.c.sy j) 11)
          · have hok : arrOk G B R K x = false := by simp [arrOk, h4]
            repeat' (first
              | with_reducible exact rfl
              | exact True.intro
              | with_reducible assumption
              | (rw [hok]; done)
              | refine And.intro ?_ ?_
              | apply Exists.intro
              | exact hl
              | (intro h; exfalso; simp at h; done)
              | (intro h; exfalso; simp [hg] at h; done)
              | (intro h; exfalso; simp [h1] at h; done)
              | (intro h; exfalso; simp [h2] at h; done)
              | (intro h; exfalso; simp [h3] at h; done)
              | (intro h; exfalso; simp [h3'] at h; done)
              | (intro h; exfalso; simp [bne, h1] at h; done)
              | (intro h; exfalso; simp only [bne, h2] at h; simp at h; done)
              | (intro h; exfalso; simp only [bne, h3] at h; simp at h; done)
              | (intro h; exfalso; simp only [bne, h3'] at h; simp at h; done)
              | (intro h; exfalso; rw [h4] at h; cases h; done)
              | (intro h; exfalso; rw [h5] at h; cases h; done)
              | intro _
              | omega
              | exact rfl)
          · cases h5 : allB x.aN (fun j => btw (x.ag j) 0 100000 && btw (x.hg j) 0 100000)
            · have hok : arrOk G B R K x = false := by simp [arrOk, h5]
              repeat' (first
                | with_reducible exact rfl
                | exact True.intro
                | with_reducible assumption
                | (rw [hok]; done)
                | refine And.intro ?_ ?_
                | apply Exists.intro
                | exact hl
                | (intro h; exfalso; simp at h; done)
                | (intro h; exfalso; simp [hg] at h; done)
                | (intro h; exfalso; simp [h1] at h; done)
                | (intro h; exfalso; simp [h2] at h; done)
                | (intro h; exfalso; simp [h3] at h; done)
                | (intro h; exfalso; simp [h3'] at h; done)
                | (intro h; exfalso; simp [bne, h1] at h; done)
                | (intro h; exfalso; simp only [bne, h2] at h; simp at h; done)
                | (intro h; exfalso; simp only [bne, h3] at h; simp at h; done)
                | (intro h; exfalso; simp only [bne, h3'] at h; simp at h; done)
                | (intro h; exfalso; rw [h4] at h; cases h; done)
                | (intro h; exfalso; rw [h5] at h; cases h; done)
                | intro _
                | omega
                | exact rfl)
            · have hok : arrOk G B R K x = true := by simp [arrOk, hg, ieq, h1, h2, h3, h4, h5]
              repeat' (first
                | with_reducible exact rfl
                | exact True.intro
                | with_reducible assumption
                | (rw [hok]; done)
                | refine And.intro ?_ ?_
                | apply Exists.intro
                | exact hl
                | (intro h; exfalso; simp at h; done)
                | (intro h; exfalso; simp [hg] at h; done)
                | (intro h; exfalso; simp [h1] at h; done)
                | (intro h; exfalso; simp [h2] at h; done)
                | (intro h; exfalso; simp [h3] at h; done)
                | (intro h; exfalso; simp [h3'] at h; done)
                | (intro h; exfalso; simp [bne, h1] at h; done)
                | (intro h; exfalso; simp only [bne, h2] at h; simp at h; done)
                | (intro h; exfalso; simp only [bne, h3] at h; simp at h; done)
                | (intro h; exfalso; simp only [bne, h3'] at h; simp at h; done)
                | (intro h; exfalso; rw [h4] at h; cases h; done)
                | (intro h; exfalso; rw [h5] at h; cases h; done)
                | intro _
                | omega
                | exact rfl)
def sakkS (x : AD) (O A H : Option Addr) (C D E : Nat) (so : Nat → Option Addr) (sc : Nat → Nat) (G B R K : Int) : LSm := fun ts ch kk => lenA x ∧ ∃ bg ba, sakS x O A H C D E so sc G B R K bg ba ts ch kk
def sallS (x : AD) (O A H : Option Addr) (C D E : Nat) (so : Nat → Option Addr) (sc : Nat → Nat) (G B R K : Int) : LSm := fun ts ch kk => (lenA x ∧ x.hN = x.aN) ∧ ∃ bg ba, salS x O A H C D E so sc G B R K bg ba ts ch kk
theorem akkS_ok (x : AD) (O A H : Option Addr) (C D E : Nat) (so : Nat → Option Addr) (sc : Nat → Nat) (G B R K : Int) (X : Cx) : LoopOK Try.prog X (theLoop Try.f46 0) (sakkS x O A H C D E so sc G B R K) := by
  rintro ts ch kk a w ⟨h1, bg, ba, hS⟩ hT hd hs
  exact akS_ok x O A H C D E so sc G B R K bg ba h1 X ts ch kk a w hS hT hd hs
theorem allS_ok (x : AD) (O A H : Option Addr) (C D E : Nat) (so : Nat → Option Addr) (sc : Nat → Nat) (G B R K : Int) (X : Cx) : LoopOK Try.prog X (theLoop Try.f46 1) (sallS x O A H C D E so sc G B R K) := by
  rintro ts ch kk a w ⟨⟨h1, h2⟩, bg, ba, hS⟩ hT hd hs
  exact alS_ok x O A H C D E so sc G B R K bg ba h1 h2 X ts ch kk a w hS hT hd hs
theorem arrokS_T (x : AD) (O A H : Option Addr) (C D E : Nat) (so : Nat → Option Addr) (sc : Nat → Nat) (G B R K : Int) : (exFn Try.prog { tb := [(81, sGeo), (82, sBank), (31, sLine)], L := [(4, sakkS x O A H C D E so sc G B R K), (9, sallS x O A H C D E so sc G B R K)] } 400 Try.f46 ([.a (.agg [.int G, .int B, .int R, .int K]), .a (arrS 0 x O A H C D E)]) (arrR 0 x O A H so sc) (fun v _ => v.den = .bool (arrOk G B R K x))) = (
  (∀ b0 : Nat,
 (∀ b1 : Nat,
 (b0 = b0 ∧
 (True ∧
 (((!(geoB G B R K)) = false →
 (b1 = b1 ∧
 (b0 = b0 ∧
 (True ∧
 (((((x.1.1 : Nat) : Int) != (lineN G B R K)) = false →
 (b1 = b1 ∧
 (b0 = b0 ∧
 (b0 = b0 ∧
 (True ∧
 ((rng ((bankN G B R K) * R)) ∧
 (((((x.2 : Nat) : Int) != ((bankN G B R K) * R)) = false →
 (b1 = b1 ∧
 (b1 = b1 ∧
 (((((x.4 : Nat) : Int) != ((x.2 : Nat) : Int)) = true →
 (Wb false) = (Wb (arrOk G B R K x))) ∧
 ((((x.4 : Nat) : Int) != ((x.2 : Nat) : Int)) = false →
 ((lenA x) ∧
 (∃ bg2 : Nat, (∃ ba3 : Nat, (([(Wa [(Wi G), (Wi B), (Wi R), (Wi K)]), (Wa [(Ws O x.1.1 C), (Ws A x.2 D), (Ws H x.4 E)]), (Wp b0 0), (Wp b1 0), (Wb false), (Wi 0), (Wu []), (Wa [(Wi G), (Wi B), (Wi R), (Wi K)]), (Wb (geoB G B R K)), (Wb (!(geoB G B R K))), (Wb false), (Wp b1 0), (Ws O x.1.1 C), (Wi ((x.1.1 : Nat) : Int)), (Wa [(Wi G), (Wi B), (Wi R), (Wi K)]), (Wi (lineN G B R K)), (Wb (((x.1.1 : Nat) : Int) != (lineN G B R K))), (Wb (((x.1.1 : Nat) : Int) != (lineN G B R K))), (Wb false), (Wp b1 1), (Ws A x.2 D), (Wi ((x.2 : Nat) : Int)), (Wa [(Wi G), (Wi B), (Wi R), (Wi K)]), (Wi (bankN G B R K)), (Wp b0 2), (Wi R), (Wi ((bankN G B R K) * R)), (Wb (((x.2 : Nat) : Int) != ((bankN G B R K) * R))), (Wb (((x.2 : Nat) : Int) != ((bankN G B R K) * R))), (Wb false), (Wp b1 2), (Ws H x.4 E), (Wi ((x.4 : Nat) : Int)), (Wp b1 1), (Ws A x.2 D), (Wi ((x.2 : Nat) : Int)), (Wb (((x.4 : Nat) : Int) != ((x.2 : Nat) : Int))), (Wb false), (Wu []), (Wu []), (Wu []), (Wu []), (Wu []), (Wu []), (Wu []), (Wu []), (Wu []), (Wu []), (Wu []), (Wu []), (Wu []), (Wu []), (Wu []), (Wu []), (Wu []), (Wu []), (Wu []), (Wu []), (Wu []), (Wu []), (Wu []), (Wu []), (Wu []), (Wu []), (Wu []), (Wu []), (Wu []), (Wu []), (Wu []), (Wu []), (Wu []), (Wu []), (Wu []), (Wu []), (Wu []), (Wu [])] = [(Wa [(Wi G), (Wi B), (Wi R), (Wi K)]), (Wa [(Ws O x.1.1 C), (Ws A x.2 D), (Ws H x.4 E)]), (Wp bg2 0), (Wp ba3 0), (Wb false), (Wi 0), (Wu []), (Wa [(Wi G), (Wi B), (Wi R), (Wi K)]), (Wb (geoB G B R K)), (Wb (!(geoB G B R K))), (Wb false), (Wp b1 0), (Ws O x.1.1 C), (Wi ((x.1.1 : Nat) : Int)), (Wa [(Wi G), (Wi B), (Wi R), (Wi K)]), (Wi (lineN G B R K)), (Wb (((x.1.1 : Nat) : Int) != (lineN G B R K))), (Wb (((x.1.1 : Nat) : Int) != (lineN G B R K))), (Wb false), (Wp b1 1), (Ws A x.2 D), (Wi ((x.2 : Nat) : Int)), (Wa [(Wi G), (Wi B), (Wi R), (Wi K)]), (Wi (bankN G B R K)), (Wp b0 2), (Wi R), (Wi ((bankN G B R K) * R)), (Wb (((x.2 : Nat) : Int) != ((bankN G B R K) * R))), (Wb (((x.2 : Nat) : Int) != ((bankN G B R K) * R))), (Wb false), (Wp b1 2), (Ws H x.4 E), (Wi ((x.4 : Nat) : Int)), (Wp b1 1), (Ws A x.2 D), (Wi ((x.2 : Nat) : Int)), (Wb (((x.4 : Nat) : Int) != ((x.2 : Nat) : Int))), (Wb false), (Wu []), (Wu []), (Wu []), (Wu []), (Wu []), (Wu []), (Wu []), (Wu []), (Wu []), (Wu []), (Wu []), (Wu []), (Wu []), (Wu []), (Wu []), (Wu []), (Wu []), (Wu []), (Wu []), (Wu []), (Wu []), (Wu []), (Wu []), (Wu []), (Wu []), (Wu []), (Wu []), (Wu []), (Wu []), (Wu []), (Wu []), (Wu []), (Wu []), (Wu []), (Wu []), (Wu []), (Wu []), (Wu [])] ∧
 [(Hr false O 0 2 x.1.1 0 [(fun i4 => (Cs 3 (so i4) (x.1.2 i4) (sc i4))), (fun i5 => (Cb (x.1.4 i5)))]), (Hr false A 0 1 x.2 0 [(fun i6 => (Ci (x.3 i6)))]), (Hr false H 0 1 x.4 0 [(fun i7 => (Ci (x.5 i7)))]), (Ho false (symRows false 0 x.1 so (fun x8 => 0))), (Hc b0 37 [(Ci G), (Ci B), (Ci R), (Ci K)]), (Hc b1 33 [(Cs 0 O x.1.1 C), (Cs 1 A x.2 D), (Cs 2 H x.4 E)])] = [(Hr false O 0 2 x.1.1 0 [(fun i9 => (Cs 3 (so i9) (x.1.2 i9) (sc i9))), (fun i10 => (Cb (x.1.4 i10)))]), (Hr false A 0 1 x.2 0 [(fun i11 => (Ci (x.3 i11)))]), (Hr false H 0 1 x.4 0 [(fun i12 => (Ci (x.5 i12)))]), (Ho false (symRows false 0 x.1 so (fun x13 => 0))), (Hc bg2 37 [(Ci G), (Ci B), (Ci R), (Ci K)]), (Hc ba3 33 [(Cs 0 O x.1.1 C), (Cs 1 A x.2 D), (Cs 2 H x.4 E)])]) ∧
 ((∀ g14 : (Nat →
 Value),
 ((allB x.1.1 (akSP x O A H C D E so sc G B R K bg2 ba3)) = true →
 (((lenA x) ∧
 x.4 = x.2) ∧
 (∃ bg15 : Nat, (∃ ba16 : Nat, (([(g14 0), (g14 1), (Wp bg2 0), (Wp ba3 0), (g14 4), (Wi ((x.1.1 : Nat) : Int)), (Wi 0), (g14 7), (g14 8), (g14 9), (g14 10), (g14 11), (g14 12), (g14 13), (g14 14), (g14 15), (g14 16), (g14 17), (g14 18), (g14 19), (g14 20), (g14 21), (g14 22), (g14 23), (g14 24), (g14 25), (g14 26), (g14 27), (g14 28), (g14 29), (g14 30), (g14 31), (g14 32), (g14 33), (g14 34), (g14 35), (g14 36), (g14 37), (g14 38), (g14 39), (g14 40), (g14 41), (g14 42), (g14 43), (g14 44), (g14 45), (g14 46), (g14 47), (g14 48), (g14 49), (g14 50), (g14 51), (g14 52), (g14 53), (g14 54), (g14 55), (g14 56), (g14 57), (g14 58), (g14 59), (g14 60), (g14 61), (g14 62), (g14 63), (g14 64), (g14 65), (g14 66), (g14 67), (g14 68), (g14 69), (g14 70), (g14 71), (g14 72), (g14 73), (g14 74), (g14 75)] = [(g14 0), (g14 1), (Wp bg15 0), (Wp ba16 0), (g14 4), (Wi ((x.1.1 : Nat) : Int)), (Wi 0), (g14 7), (g14 8), (g14 9), (g14 10), (g14 11), (g14 12), (g14 13), (g14 14), (g14 15), (g14 16), (g14 17), (g14 18), (g14 19), (g14 20), (g14 21), (g14 22), (g14 23), (g14 24), (g14 25), (g14 26), (g14 27), (g14 28), (g14 29), (g14 30), (g14 31), (g14 32), (g14 33), (g14 34), (g14 35), (g14 36), (g14 37), (g14 38), (g14 39), (g14 40), (g14 41), (g14 42), (g14 43), (g14 44), (g14 45), (g14 46), (g14 47), (g14 48), (g14 49), (g14 50), (g14 51), (g14 52), (g14 53), (g14 54), (g14 55), (g14 56), (g14 57), (g14 58), (g14 59), (g14 60), (g14 61), (g14 62), (g14 63), (g14 64), (g14 65), (g14 66), (g14 67), (g14 68), (g14 69), (g14 70), (g14 71), (g14 72), (g14 73), (g14 74), (g14 75)] ∧
 [(Hr false O 0 2 x.1.1 0 [(fun i17 => (Cs 3 (so i17) (x.1.2 i17) (sc i17))), (fun i18 => (Cb (x.1.4 i18)))]), (Hr false A 0 1 x.2 0 [(fun i19 => (Ci (x.3 i19)))]), (Hr false H 0 1 x.4 0 [(fun i20 => (Ci (x.5 i20)))]), (Ho false (symRows false 0 x.1 so (fun x21 => 0))), (Hc bg2 37 [(Ci G), (Ci B), (Ci R), (Ci K)]), (Hc ba3 33 [(Cs 0 O x.1.1 C), (Cs 1 A x.2 D), (Cs 2 H x.4 E)])] = [(Hr false O 0 2 x.1.1 0 [(fun i22 => (Cs 3 (so i22) (x.1.2 i22) (sc i22))), (fun i23 => (Cb (x.1.4 i23)))]), (Hr false A 0 1 x.2 0 [(fun i24 => (Ci (x.3 i24)))]), (Hr false H 0 1 x.4 0 [(fun i25 => (Ci (x.5 i25)))]), (Ho false (symRows false 0 x.1 so (fun x26 => 0))), (Hc bg15 37 [(Ci G), (Ci B), (Ci R), (Ci K)]), (Hc ba16 33 [(Cs 0 O x.1.1 C), (Cs 1 A x.2 D), (Cs 2 H x.4 E)])]) ∧
 ((∀ g27 : (Nat →
 Value),
 ((allB x.2 (alSP x O A H C D E so sc G B R K bg15 ba16)) = true →
 (Wb true) = (Wb (arrOk G B R K x)))) ∧
 (∀ g28 : (Nat →
 Value),
 ((allB x.2 (alSP x O A H C D E so sc G B R K bg15 ba16)) = false →
 (Wb false) = (Wb (arrOk G B R K x))))))))))) ∧
 (∀ g29 : (Nat →
 Value),
 ((allB x.1.1 (akSP x O A H C D E so sc G B R K bg2 ba3)) = false →
 (Wb false) = (Wb (arrOk G B R K x)))))))))))))) ∧
 ((((x.2 : Nat) : Int) != ((bankN G B R K) * R)) = true →
 (Wb false) = (Wb (arrOk G B R K x)))))))))) ∧
 ((((x.1.1 : Nat) : Int) != (lineN G B R K)) = true →
 (Wb false) = (Wb (arrOk G B R K x)))))))) ∧
 ((!(geoB G B R K)) = true →
 (Wb false) = (Wb (arrOk G B R K x))))))))) := by kernel_rfl
theorem arrokS_any (x : AD) (O A H : Option Addr) (C D E : Nat) (so : Nat → Option Addr) (sc : Nat → Nat) (G B R K : Int) (w : World) (hA : SeenA w x O A H so sc) (hl : lenA x) : Calls Try.prog 46 #[.agg #[.int .i64 G, .int .i64 B, .int .i64 R, .int .i64 K], arrV x O A H C D E] w fun e w' => e = .returned (.bool (arrOk G B R K x)) ∧ Below w.heap.size w w' := by
  refine fn_ok mixed (E := { tb := [(81, sGeo), (82, sBank), (31, sLine)], L := [(4, sakkS x O A H C D E so sc G B R K), (9, sallS x O A H C D E so sc G B R K)] }) ⟨sGeo_S, sBank_S, sLine_S, trivial⟩ Try.func46 (two_loops (by kernel_rfl) (by decide) (akkS_ok x O A H C D E so sc G B R K _) (allS_ok x O A H C D E so sc G B R K _)) (@Eq.mpr _ _ (arrokS_T x O A H C D E so sc G B R K) ?_) (HS.seenAll (fun _ => False) _ (hA.all 0 seenC_nil)) (fun v ch' w' hv hs => ⟨by rw [hv], hs.below⟩)
  clear hA
  have l1 := hl.1
  have l2 := hl.2.1
  have l3 := hl.2.2.1
  have eS : ∀ bg ba, allB x.c.n (akSP x O A H C D E so sc G B R K bg ba) = allB x.c.n (fun j => symB (x.c.sn j) (x.c.sy j) 11) := fun _ _ => rfl
  have eA : ∀ bg ba, allB x.aN (alSP x O A H C D E so sc G B R K bg ba) = allB x.aN (fun j => btw (x.ag j) 0 100000 && btw (x.hg j) 0 100000) := fun _ _ => rfl
  simp only [eS, eA]
  cases hg : geoB G B R K
  · have hb := (line_not hg).2
    have hok : arrOk G B R K x = false := by simp [arrOk, hg]
    have hz : rng (imul (bankN G B R K) R) := by rw [hb]; simp [imul, rng]
    repeat' (first
      | with_reducible exact rfl
      | exact True.intro
      | with_reducible assumption
      | (rw [hok]; done)
      | refine And.intro ?_ ?_
      | apply Exists.intro
      | exact hl
      | (intro h; exfalso; simp at h; done)
      | (intro h; exfalso; simp [hg] at h; done)
      | (intro h; exfalso; simp [h1] at h; done)
      | (intro h; exfalso; simp [h2] at h; done)
      | (intro h; exfalso; simp [h3] at h; done)
      | (intro h; exfalso; simp [h3'] at h; done)
      | (intro h; exfalso; simp [bne, h1] at h; done)
      | (intro h; exfalso; simp only [bne, h2] at h; simp at h; done)
      | (intro h; exfalso; simp only [bne, h3] at h; simp at h; done)
      | (intro h; exfalso; simp only [bne, h3'] at h; simp at h; done)
      | (intro h; exfalso; rw [h4] at h; cases h; done)
      | (intro h; exfalso; rw [h5] at h; cases h; done)
      | intro _
      | omega
      | exact rfl)
  · have hf := geo_facts hg
    have hr := geo_bank hg
    have hq := geo_row hg
    have hb : bankN G B R K = G * B := by simp [bankN, hg]
    have hz : rng (imul (bankN G B R K) R) := by rw [hb]; exact ⟨by show _ ≤ G * B * R; omega, by show G * B * R ≤ _; omega⟩
    cases h1 : ((x.c.n : Int) == lineN G B R K)
    · have hok : arrOk G B R K x = false := by simp [arrOk, hg, ieq, h1]
      repeat' (first
        | with_reducible exact rfl
        | exact True.intro
        | with_reducible assumption
        | (rw [hok]; done)
        | refine And.intro ?_ ?_
        | apply Exists.intro
        | exact hl
        | (intro h; exfalso; simp at h; done)
        | (intro h; exfalso; simp [hg] at h; done)
        | (intro h; exfalso; simp [h1] at h; done)
        | (intro h; exfalso; simp [h2] at h; done)
        | (intro h; exfalso; simp [h3] at h; done)
        | (intro h; exfalso; simp [h3'] at h; done)
        | (intro h; exfalso; simp [bne, h1] at h; done)
        | (intro h; exfalso; simp only [bne, h2] at h; simp at h; done)
        | (intro h; exfalso; simp only [bne, h3] at h; simp at h; done)
        | (intro h; exfalso; simp only [bne, h3'] at h; simp at h; done)
        | (intro h; exfalso; rw [h4] at h; cases h; done)
        | (intro h; exfalso; rw [h5] at h; cases h; done)
        | intro _
        | omega
        | exact rfl)
    · cases h2 : ((x.aN : Int) == bankN G B R K * R)
      · have hok : arrOk G B R K x = false := by simp [arrOk, hg, ieq, h2]
        repeat' (first
          | with_reducible exact rfl
          | exact True.intro
          | with_reducible assumption
          | (rw [hok]; done)
          | refine And.intro ?_ ?_
          | apply Exists.intro
          | exact hl
          | (intro h; exfalso; simp at h; done)
          | (intro h; exfalso; simp [hg] at h; done)
          | (intro h; exfalso; simp [h1] at h; done)
          | (intro h; exfalso; simp [h2] at h; done)
          | (intro h; exfalso; simp [h3] at h; done)
          | (intro h; exfalso; simp [h3'] at h; done)
          | (intro h; exfalso; simp [bne, h1] at h; done)
          | (intro h; exfalso; simp only [bne, h2] at h; simp at h; done)
          | (intro h; exfalso; simp only [bne, h3] at h; simp at h; done)
          | (intro h; exfalso; simp only [bne, h3'] at h; simp at h; done)
          | (intro h; exfalso; rw [h4] at h; cases h; done)
          | (intro h; exfalso; rw [h5] at h; cases h; done)
          | intro _
          | omega
          | exact rfl)
      · cases h3 : ((x.hN : Int) == (x.aN : Int))
        · have hok : arrOk G B R K x = false := by simp [arrOk, hg, ieq, h3]
          have h2' := eq_of_beq h2
          have h3' : ((x.hN : Int) == bankN G B R K * R) = false := by rw [← h2']; exact h3
          repeat' (first
            | with_reducible exact rfl
            | exact True.intro
            | with_reducible assumption
            | (rw [hok]; done)
            | refine And.intro ?_ ?_
            | apply Exists.intro
            | exact hl
            | (intro h; exfalso; simp at h; done)
            | (intro h; exfalso; simp [hg] at h; done)
            | (intro h; exfalso; simp [h1] at h; done)
            | (intro h; exfalso; simp [h2] at h; done)
            | (intro h; exfalso; simp [h3] at h; done)
            | (intro h; exfalso; simp [h3'] at h; done)
            | (intro h; exfalso; simp [bne, h1] at h; done)
            | (intro h; exfalso; simp only [bne, h2] at h; simp at h; done)
            | (intro h; exfalso; simp only [bne, h3] at h; simp at h; done)
            | (intro h; exfalso; simp only [bne, h3'] at h; simp at h; done)
            | (intro h; exfalso; rw [h4] at h; cases h; done)
            | (intro h; exfalso; rw [h5] at h; cases h; done)
            | intro _
            | omega
            | exact rfl)
        · have hh : x.hN = x.aN := by have := eq_of_beq h3; omega
          have h2' := eq_of_beq h2
          have h3' : ((x.hN : Int) == bankN G B R K * R) = true := by rw [← h2']; exact h3
          cases h4 : allB x.c.n (fun j => symB (x.c.sn j) (x.c.sy j) 11)
          · have hok : arrOk G B R K x = false := by simp [arrOk, h4]
            repeat' (first
              | with_reducible exact rfl
              | exact True.intro
              | with_reducible assumption
              | (rw [hok]; done)
              | refine And.intro ?_ ?_
              | apply Exists.intro
              | exact hl
              | (intro h; exfalso; simp at h; done)
              | (intro h; exfalso; simp [hg] at h; done)
              | (intro h; exfalso; simp [h1] at h; done)
              | (intro h; exfalso; simp [h2] at h; done)
              | (intro h; exfalso; simp [h3] at h; done)
              | (intro h; exfalso; simp [h3'] at h; done)
              | (intro h; exfalso; simp [bne, h1] at h; done)
              | (intro h; exfalso; simp only [bne, h2] at h; simp at h; done)
              | (intro h; exfalso; simp only [bne, h3] at h; simp at h; done)
              | (intro h; exfalso; simp only [bne, h3'] at h; simp at h; done)
              | (intro h; exfalso; rw [h4] at h; cases h; done)
              | (intro h; exfalso; rw [h5] at h; cases h; done)
              | intro _
              | omega
              | exact rfl)
          · cases h5 : allB x.aN (fun j => btw (x.ag j) 0 100000 && btw (x.hg j) 0 100000)
            · have hok : arrOk G B R K x = false := by simp [arrOk, h5]
              repeat' (first
                | with_reducible exact rfl
                | exact True.intro
                | with_reducible assumption
                | (rw [hok]; done)
                | refine And.intro ?_ ?_
                | apply Exists.intro
                | exact hl
                | (intro h; exfalso; simp at h; done)
                | (intro h; exfalso; simp [hg] at h; done)
                | (intro h; exfalso; simp [h1] at h; done)
                | (intro h; exfalso; simp [h2] at h; done)
                | (intro h; exfalso; simp [h3] at h; done)
                | (intro h; exfalso; simp [h3'] at h; done)
                | (intro h; exfalso; simp [bne, h1] at h; done)
                | (intro h; exfalso; simp only [bne, h2] at h; simp at h; done)
                | (intro h; exfalso; simp only [bne, h3] at h; simp at h; done)
                | (intro h; exfalso; simp only [bne, h3'] at h; simp at h; done)
                | (intro h; exfalso; rw [h4] at h; cases h; done)
                | (intro h; exfalso; rw [h5] at h; cases h; done)
                | intro _
                | omega
                | exact rfl)
            · have hok : arrOk G B R K x = true := by simp [arrOk, hg, ieq, h1, h2, h3, h4, h5]
              repeat' (first
                | with_reducible exact rfl
                | exact True.intro
                | with_reducible assumption
                | (rw [hok]; done)
                | refine And.intro ?_ ?_
                | apply Exists.intro
                | exact hl
                | (intro h; exfalso; simp at h; done)
                | (intro h; exfalso; simp [hg] at h; done)
                | (intro h; exfalso; simp [h1] at h; done)
                | (intro h; exfalso; simp [h2] at h; done)
                | (intro h; exfalso; simp [h3] at h; done)
                | (intro h; exfalso; simp [h3'] at h; done)
                | (intro h; exfalso; simp [bne, h1] at h; done)
                | (intro h; exfalso; simp only [bne, h2] at h; simp at h; done)
                | (intro h; exfalso; simp only [bne, h3] at h; simp at h; done)
                | (intro h; exfalso; simp only [bne, h3'] at h; simp at h; done)
                | (intro h; exfalso; rw [h4] at h; cases h; done)
                | (intro h; exfalso; rw [h5] at h; cases h; done)
                | intro _
                | omega
                | exact rfl)

set_option maxHeartbeats 400000

def sArrOk : Sm := fun args ch kk =>
  match args with
  | [.a (.agg [c0, c1, c2, c3]), .a c] =>
    match ints [c0, c1, c2, c3] with
    | some [G, B, R, K] => rdA ch c fun x => lenA x ∧ kk (.a (.c (.bool (arrOk G B R K x)))) ch []
    | _ => False
  | _ => False
theorem sArrOk_I : SmOK Try.prog 52 sArrOk := by
  refine smB Try.call52 fun args ch kk w X h0 hs => ?_
  unfold sArrOk at h0
  split at h0
  · rename_i c0 c1 c2 c3 c
    split at h0
    · rename_i G B R K hi
      obtain ⟨e0, hi⟩ := ints_cons hi
      obtain ⟨e1, hi⟩ := ints_cons hi
      obtain ⟨e2, hi⟩ := ints_cons hi
      obtain ⟨e3, hi⟩ := ints_cons hi
      obtain ⟨x, O, A, H, C, D, E, so, sc, e, hA, hl, h1⟩ := rdA_ok h0 hs
      refine ⟨_, h1, ?_⟩
      have e9 : SA.den (.agg [c0, c1, c2, c3]) = .agg #[.int .i64 G, .int .i64 B, .int .i64 R, .int .i64 K] := by simp only [SA.den, List.map_cons, List.map_nil, e0, e1, e2, e3]
      simp only [List.map_cons, List.map_nil, den_a, e, e9]
      exact arrokI_any x O A H C D E so sc G B R K w hA hl
    · exact h0.elim
  · exact h0.elim
theorem sArrOk_S : SmOK Try.prog 46 sArrOk := by
  refine smB Try.call46 fun args ch kk w X h0 hs => ?_
  unfold sArrOk at h0
  split at h0
  · rename_i c0 c1 c2 c3 c
    split at h0
    · rename_i G B R K hi
      obtain ⟨e0, hi⟩ := ints_cons hi
      obtain ⟨e1, hi⟩ := ints_cons hi
      obtain ⟨e2, hi⟩ := ints_cons hi
      obtain ⟨e3, hi⟩ := ints_cons hi
      obtain ⟨x, O, A, H, C, D, E, so, sc, e, hA, hl, h1⟩ := rdA_ok h0 hs
      refine ⟨_, h1, ?_⟩
      have e9 : SA.den (.agg [c0, c1, c2, c3]) = .agg #[.int .i64 G, .int .i64 B, .int .i64 R, .int .i64 K] := by simp only [SA.den, List.map_cons, List.map_nil, e0, e1, e2, e3]
      simp only [List.map_cons, List.map_nil, den_a, e, e9]
      exact arrokS_any x O A H C D E so sc G B R K w hA hl
    · exact h0.elim
  · exact h0.elim
end Go.Proofs.Ytddeinpnadfgmaa
