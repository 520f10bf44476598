/-
  Arrays marked, held, sized.
-/
import Derived.Test.YtddeinpnadfgmaaSxH4
namespace Go.Proofs.Ytddeinpnadfgmaa
set_option linter.unusedVariables false
set_option linter.unusedSimpArgs false
open Go.RowKit
set_option maxRecDepth 100000
set_option maxHeartbeats 8000000

def hcH (x : CD) (O : Option Addr) (C : Nat) (so : Nat → Option Addr) (sc : Nat → Nat) (k0 : Int) (k i : SC) (g : Nat → Value) : List SV := [.a (.c (.sl 0 O x.n C)), .a (.c k), .a (.c (.val (g 2))), .a (.c (.val (g 3))), .a (.c (.il 0)), .a (.c i), .a (.c (.val (g 6))), .a (.c (.val (g 7))), .a (.c (.val (g 8))), .a (.c (.val (g 9))), .a (.c (.val (g 10))), .a (.c (.val (g 11))), .a (.c (.val (g 12))), .a (.c (.val (g 13))), .a (.c (.val (g 14))), .a (.c (.val (g 15))), .a (.c (.val (g 16))), .a (.c (.val (g 17))), .a (.c (.val (g 18))), .a (.c (.val (g 19))), .a (.c (.val (g 20))), .a (.c (.val (g 21))), .a (.c (.val (g 22))), .a (.c (.val (g 23))), .a (.c (.val (g 24))), .a (.c (.val (g 25))), .a (.c (.val (g 26))), .a (.c (.val (g 27))), .a (.c (.val (g 28))), .a (.c (.val (g 29))), .a (.c (.val (g 30))), .a (.c (.val (g 31))), .a (.c (.val (g 32)))]
def hcT (x : CD) (O : Option Addr) (C : Nat) (so : Nat → Option Addr) (sc : Nat → Nat) (k0 : Int) : List Ch := [.row ⟨false, O, 0, 2, (markCD k0 x).n, 0, cellFld 1 (markCD k0 x) so sc⟩, .obj false (symRows false 0 (markCD k0 x) so (fun _ => 0))]
def shc : LSm := fun ts ch kk => ∃ (x : CD) (O : Option Addr) (C : Nat) (so : Nat → Option Addr) (sc : Nat → Nat) (k0 : Int), (ts.map SV.den = (hcH x O C so sc k0 (.int k0) (.il 0) (fun d => (ts.getD d .undef).den)).map SV.den ∧ ch = hcT x O C so sc k0 ∧ capK x ∧ mrkC k0) ∧ ∀ (g : Nat → Value) (kx : Int), kk (.exit 0) (hcH x O C so sc k0 (.int (kAt k0 x.sn x.n)) (.int kx) g) (hcT x O C so sc k0)
theorem hcB (x : CD) (O : Option Addr) (C : Nat) (so : Nat → Option Addr) (sc : Nat → Nat) (k0 : Int) (j : Nat) (g : Nat → Value) (NX : List SV → List Ch → Prop) (kx : Exit → List SV → List Ch → Prop) : (exCode Try.prog {tb := [(61, sHeldN)]} 400 (theLoop Try.f60 0) (hcH x O C so sc k0 (.int (kAt k0 x.sn j)) (.int ((j : Nat) : Int)) g) (hcT x O C so sc k0) (loopK NX kx)) = (
  (((decide (((j : Nat) : Int) < ((x.1 : Nat) : Int))) = true →
 (O = O ∧
 (x.1 = ((markCD k0 x)).1 ∧
 ((0 ≤ ((j : Nat) : Int) ∧ ((j : Nat) : Int) < ((x.1 : Nat) : Int)) ∧
 (O = O ∧
 (j < ((markCD k0 x)).1 ∧
 (O = O ∧
 (j < ((markCD k0 x)).1 ∧
 (∃ t0 : Nat, (∃ y1 : CD, (∃ so2 : (Nat →
 (Option Addr)), (∃ sc3 : (Nat →
 Nat), (∃ i4 : Nat, (((symRows false 0 (markCD k0 x) so (fun x5 => 0)) = (symRows false t0 y1 so2 sc3) ∧
 ((so j) = (so2 i4) ∧
 ((((markCD k0 x)).2 j) = (y1.2 i4) ∧
 i4 < y1.1))) ∧
 (((markC (((markCD k0 x)).2 j) (kAt k0 x.2 j)) ∧
 (allEq (((markCD k0 x)).2 j) (y1.3 i4) (fun q6 => (mk (kAt k0 x.2 j) 1 0 q6)))) ∧
 (((decide ((mk (kAt k0 x.2 j) 1 0 (((markCD k0 x)).2 j)) < (0 : Int))) = true →
 (kx Exit.ret [(sV 0 O x.1 C), (iV (mk (kAt k0 x.2 j) 1 0 (((markCD k0 x)).2 j))), (vV (g 2)), (vV (g 3)), (lV (-1)), (iV ((j : Nat) : Int)), (iV ((j : Nat) : Int)), (sV 0 O x.1 C), (iV ((x.1 : Nat) : Int)), tV, (vV (g 10)), (vV (g 11)), (sV 0 O x.1 C), (iV ((j : Nat) : Int)), (rV 0 O 2 j 0), (rV 0 O 2 j 0), (sV 1 (so j) (((markCD k0 x)).2 j) (sc j)), (iV (kAt k0 x.2 j)), (iV (mk (kAt k0 x.2 j) 1 0 (((markCD k0 x)).2 j))), (iV (mk (kAt k0 x.2 j) 1 0 (((markCD k0 x)).2 j))), tV, (vV (g 21)), (vV (g 22)), (vV (g 23)), (vV (g 24)), (vV (g 25)), (vV (g 26)), (vV (g 27)), (vV (g 28)), (vV (g 29)), (vV (g 30)), (vV (g 31)), (vV (g 32))] [(Hr false O 0 2 ((markCD k0 x)).1 0 [(fun i7 => (Cs 1 (so i7) (((markCD k0 x)).2 i7) (sc i7))), (fun i8 => (Cb (((markCD k0 x)).4 i8)))]), (Ho false (symRows false 0 (markCD k0 x) so (fun x9 => 0)))])) ∧
 ((decide ((mk (kAt k0 x.2 j) 1 0 (((markCD k0 x)).2 j)) < (0 : Int))) = false →
 (O = O ∧
 (x.1 = ((markCD k0 x)).1 ∧
 ((0 ≤ ((j : Nat) : Int) ∧ ((j : Nat) : Int) < ((x.1 : Nat) : Int)) ∧
 (O = O ∧
 (j < ((markCD k0 x)).1 ∧
 (O = O ∧
 (j < ((markCD k0 x)).1 ∧
 ((divC (mk (kAt k0 x.2 j) 1 0 (((markCD k0 x)).2 j)) (3 : Int)) ∧
 ((((((markCD k0 x)).4 j) != (((mk (kAt k0 x.2 j) 1 0 (((markCD k0 x)).2 j)) % (3 : Int)) == (0 : Int))) = true →
 (kx Exit.ret [(sV 0 O x.1 C), (iV (mk (kAt k0 x.2 j) 1 0 (((markCD k0 x)).2 j))), (vV (g 2)), (vV (g 3)), (lV (-1)), (iV ((j : Nat) : Int)), (iV ((j : Nat) : Int)), (sV 0 O x.1 C), (iV ((x.1 : Nat) : Int)), tV, (vV (g 10)), (vV (g 11)), (sV 0 O x.1 C), (iV ((j : Nat) : Int)), (rV 0 O 2 j 0), (rV 0 O 2 j 0), (sV 1 (so j) (((markCD k0 x)).2 j) (sc j)), (iV (kAt k0 x.2 j)), (iV (mk (kAt k0 x.2 j) 1 0 (((markCD k0 x)).2 j))), (iV (mk (kAt k0 x.2 j) 1 0 (((markCD k0 x)).2 j))), fV, (sV 0 O x.1 C), (iV ((j : Nat) : Int)), (rV 0 O 2 j 0), (rV 0 O 2 j 1), (bV (((markCD k0 x)).4 j)), (iV (mk (kAt k0 x.2 j) 1 0 (((markCD k0 x)).2 j))), (iV ((mk (kAt k0 x.2 j) 1 0 (((markCD k0 x)).2 j)) % (3 : Int))), (bV (((mk (kAt k0 x.2 j) 1 0 (((markCD k0 x)).2 j)) % (3 : Int)) == (0 : Int))), tV, (vV (g 30)), (vV (g 31)), (vV (g 32))] [(Hr false O 0 2 ((markCD k0 x)).1 0 [(fun i10 => (Cs 1 (so i10) (((markCD k0 x)).2 i10) (sc i10))), (fun i11 => (Cb (((markCD k0 x)).4 i11)))]), (Ho false (symRows false 0 (markCD k0 x) so (fun x12 => 0)))])) ∧
 (((((markCD k0 x)).4 j) != (((mk (kAt k0 x.2 j) 1 0 (((markCD k0 x)).2 j)) % (3 : Int)) == (0 : Int))) = false →
 ((rng ((mk (kAt k0 x.2 j) 1 0 (((markCD k0 x)).2 j)) + (1 : Int))) ∧
 ((rng (((j : Nat) : Int) + (1 : Int))) ∧
 (NX [(sV 0 O x.1 C), (iV ((mk (kAt k0 x.2 j) 1 0 (((markCD k0 x)).2 j)) + (1 : Int))), (vV (g 2)), (vV (g 3)), (lV 0), (iV (((j : Nat) : Int) + (1 : Int))), (iV ((j : Nat) : Int)), (sV 0 O x.1 C), (iV ((x.1 : Nat) : Int)), tV, (iV ((j : Nat) : Int)), (iV (((j : Nat) : Int) + (1 : Int))), (sV 0 O x.1 C), (iV ((j : Nat) : Int)), (rV 0 O 2 j 0), (rV 0 O 2 j 0), (sV 1 (so j) (((markCD k0 x)).2 j) (sc j)), (iV (kAt k0 x.2 j)), (iV (mk (kAt k0 x.2 j) 1 0 (((markCD k0 x)).2 j))), (iV (mk (kAt k0 x.2 j) 1 0 (((markCD k0 x)).2 j))), fV, (sV 0 O x.1 C), (iV ((j : Nat) : Int)), (rV 0 O 2 j 0), (rV 0 O 2 j 1), (bV (((markCD k0 x)).4 j)), (iV (mk (kAt k0 x.2 j) 1 0 (((markCD k0 x)).2 j))), (iV ((mk (kAt k0 x.2 j) 1 0 (((markCD k0 x)).2 j)) % (3 : Int))), (bV (((mk (kAt k0 x.2 j) 1 0 (((markCD k0 x)).2 j)) % (3 : Int)) == (0 : Int))), fV, (iV (mk (kAt k0 x.2 j) 1 0 (((markCD k0 x)).2 j))), (iV ((mk (kAt k0 x.2 j) 1 0 (((markCD k0 x)).2 j)) + (1 : Int))), (vV (g 32))] [(Hr false O 0 2 ((markCD k0 x)).1 0 [(fun i13 => (Cs 1 (so i13) (((markCD k0 x)).2 i13) (sc i13))), (fun i14 => (Cb (((markCD k0 x)).4 i14)))]), (Ho false (symRows false 0 (markCD k0 x) so (fun x15 => 0)))])))))))))))))))))))))))))))))) ∧
 ((decide (((j : Nat) : Int) < ((x.1 : Nat) : Int))) = false →
 (kx (Exit.exit 0) [(sV 0 O x.1 C), (iV (kAt k0 x.2 j)), (vV (g 2)), (vV (g 3)), (lV 0), (iV ((j : Nat) : Int)), (iV ((j : Nat) : Int)), (sV 0 O x.1 C), (iV ((x.1 : Nat) : Int)), fV, (vV (g 10)), (vV (g 11)), (vV (g 12)), (vV (g 13)), (vV (g 14)), (vV (g 15)), (vV (g 16)), (vV (g 17)), (vV (g 18)), (vV (g 19)), (vV (g 20)), (vV (g 21)), (vV (g 22)), (vV (g 23)), (vV (g 24)), (vV (g 25)), (vV (g 26)), (vV (g 27)), (vV (g 28)), (vV (g 29)), (vV (g 30)), (vV (g 31)), (vV (g 32))] [(Hr false O 0 2 ((markCD k0 x)).1 0 [(fun i16 => (Cs 1 (so i16) (((markCD k0 x)).2 i16) (sc i16))), (fun i17 => (Cb (((markCD k0 x)).4 i17)))]), (Ho false (symRows false 0 (markCD k0 x) so (fun x18 => 0)))])))) := by kernel_rfl
theorem hc_ok (X : Cx) : LoopOK Try.prog X (theLoop Try.f60 0) shc := by
  intro ts ch kk a w hS hT hd hs
  obtain ⟨x, O, C, so, sc, k0, ⟨h1, rfl, hcap, hk0⟩, hk⟩ := hS
  have hn0 := totN_n (sn := x.sn) x.n
  have hcap' : totN x.sn x.n ≤ 2097152 := hcap
  have hk1 := hk0.1
  have hk2 := hk0.2
  refine loop_ok mixed (E := {tb := [(61, sHeldN)]}) ⟨sHeldN_ok, trivial⟩ (loopsOK_nil _ _ _) 400 x.n (fun j ts ch => ∃ g, ts = hcH x O C so sc k0 (.int (kAt k0 x.sn j)) (.int ((j : Nat) : Int)) g ∧ ch = hcT x O C so sc k0) ?_ ?_ hT hd hs
  · rintro j _ _ ⟨g, rfl, rfl⟩ hj
    refine (@Eq.mpr _ _ (hcB x O C so sc k0 j g _ _) ?_)
    have hb := kAt_in (k := k0) hj hcap' (by omega)
    by_cases hlt : j < x.n
    · have hsn : x.sn j ≤ 2097152 := by have := totN_sn (sn := x.sn) hlt; omega
      have hmc : markC (x.sn j) (kAt k0 x.sn j) := ⟨hsn, hb.1, hb.2⟩
      have hlt2 : j < (markCD k0 x).n := hlt
      have hm : 0 ≤ mk (kAt k0 x.sn j) 1 0 (x.sn j) ∧ mk (kAt k0 x.sn j) 1 0 (x.sn j) ≤ 1099513724928 := by simp only [mk]; omega
      have e1 : (markCD k0 x).sn j = x.sn j := rfl
      have e2 : (markCD k0 x).n = x.n := rfl
      simp only [e1, e2]
      repeat' (first
        | with_reducible exact rfl
        | exact True.intro
        | with_reducible assumption
        | (refine ⟨_, _, _, _, j, ⟨rfl, rfl, rfl, ?_⟩, ⟨hmc, fun q hq => rfl⟩, ?_⟩)
        | exact ⟨_, _, _, _, j, ⟨rfl, rfl, rfl, hlt2⟩, ⟨hmc, fun q hq => rfl⟩, ?_⟩
        | (intro h; exfalso; simp [markCD, mkPo, imod, ieq] at h; done)
        | (refine ⟨hlt, ?_⟩; show Next _ _ _ _; refine Next.mk (fun g => hcH x O C so sc k0 (.int (kAt k0 x.sn (j + 1))) (.int (((j + 1) : Nat) : Int)) g) _ ⟨_, rfl, rfl⟩ (by rw [← kAt_next]; rfl) fun w hw => hw)
        | refine And.intro ?_ ?_
        | apply Exists.intro
        | (intro h; replace h := of_decide_eq_true h; first | (exfalso; omega) | skip)
        | (intro h; replace h := of_decide_eq_false h; first | (exfalso; omega) | skip)
        | intro _
        | omega
        | (simp; omega))
    · have hjn : j = x.n := by omega
      subst hjn
      repeat' (first
        | with_reducible exact rfl
        | exact True.intro
        | with_reducible assumption
        | (refine Next.mk (fun g => hcH x O C so sc k0 (.int (kAt k0 x.sn x.n)) (.int (x.n : Int)) g) _ (hk _ _) rfl fun w hw => hw)
        | (intro h; exfalso; have e2 : (markCD k0 x).n = x.n := rfl; rw [e2] at h; simp at h; done)
        | refine And.intro ?_ ?_
        | apply Exists.intro
        | (intro h; replace h := of_decide_eq_true h; first | (exfalso; omega) | skip)
        | (intro h; replace h := of_decide_eq_false h; first | (exfalso; omega) | skip)
        | intro _
        | omega
        | (simp; omega))
  · refine Next.mk (fun g => hcH x O C so sc k0 (.int (kAt k0 x.sn 0)) (.int ((0 : Nat) : Int)) g) _ ⟨_, rfl, rfl⟩ (by rw [h1]; simp [hcH, SV.den, SA.den, SC.den, kAt, totN]) fun w hw => hw
theorem heldCs_T (x : CD) (O : Option Addr) (C : Nat) (so : Nat → Option Addr) (sc : Nat → Nat) (k0 : Int) : (exFn Try.prog { L := [(2, shc)] } 400 Try.f60 ([.a (.c (.sl 0 O x.n C)), .a (.c (.int k0))]) (hcT x O C so sc k0) (fun v ch => v.den = .int .i64 (kAt k0 x.sn x.n))) = (
  (∃ x0 : CD, (∃ O1 : (Option Addr), (∃ C2 : Nat, (∃ so3 : (Nat →
 (Option Addr)), (∃ sc4 : (Nat →
 Nat), (∃ k05 : Int, (([(Ws O x.1 C), (Wi k0), (Wu []), (Wu []), (Wi 0), (Wi 0), (Wu []), (Wu []), (Wu []), (Wu []), (Wu []), (Wu []), (Wu []), (Wu []), (Wu []), (Wu []), (Wu []), (Wu []), (Wu []), (Wu []), (Wu []), (Wu []), (Wu []), (Wu []), (Wu []), (Wu []), (Wu []), (Wu []), (Wu []), (Wu []), (Wu []), (Wu []), (Wu [])] = [(Ws O1 x0.1 C2), (Wi k05), (Wu []), (Wu []), (Wi 0), (Wi 0), (Wu []), (Wu []), (Wu []), (Wu []), (Wu []), (Wu []), (Wu []), (Wu []), (Wu []), (Wu []), (Wu []), (Wu []), (Wu []), (Wu []), (Wu []), (Wu []), (Wu []), (Wu []), (Wu []), (Wu []), (Wu []), (Wu []), (Wu []), (Wu []), (Wu []), (Wu []), (Wu [])] ∧
 ([(Hr false O 0 2 ((markCD k0 x)).1 0 [(fun i6 => (Cs 1 (so i6) (((markCD k0 x)).2 i6) (sc i6))), (fun i7 => (Cb (((markCD k0 x)).4 i7)))]), (Ho false (symRows false 0 (markCD k0 x) so (fun x8 => 0)))] = [(Hr false O1 0 2 ((markCD k05 x0)).1 0 [(fun i9 => (Cs 1 (so3 i9) (((markCD k05 x0)).2 i9) (sc4 i9))), (fun i10 => (Cb (((markCD k05 x0)).4 i10)))]), (Ho false (symRows false 0 (markCD k05 x0) so3 (fun x11 => 0)))] ∧
 ((capK x0) ∧
 (mrkC k05)))) ∧
 (∀ g12 : (Nat →
 Value),
 (∀ kx13 : Int,
 (Wi (kAt k05 x0.2 x0.1)) = (Wi (kAt k0 x.2 x.1)))))))))))) := by kernel_rfl
theorem heldCs_any (x : CD) (O : Option Addr) (C : Nat) (so : Nat → Option Addr) (sc : Nat → Nat) (k0 : Int) (w : World) (hA : SeenC w (markCD k0 x) O so sc) (hcap : capK x) (hk0 : mrkC k0) : Calls Try.prog 60 #[.slice O x.n C, .int .i64 k0] w fun e w' => e = .returned (.int .i64 (kAt k0 x.sn x.n)) ∧ Below w.heap.size w w' := by
  refine fn_ok mixed (E := { L := [(2, shc)] }) trivial Try.func60 (one_loop (by kernel_rfl) (by kernel_rfl) (hc_ok _)) (@Eq.mpr _ _ (heldCs_T x O C so sc k0) ?_) (HS.seenAll (fun _ => False) _ (hA.all 1 seenC_nil)) (fun v ch' w' hv hs => ⟨by rw [hv], hs.below⟩)
  clear hA
  repeat' (first
    | with_reducible exact rfl
    | exact True.intro
    | with_reducible assumption
    | exact hcap
    | exact hk0
    | refine And.intro ?_ ?_
    | apply Exists.intro
    | intro _
    | omega)
def sHeldCs : Sm := fun args ch kk =>
  match args with
  | [.a (.c c), .a (.c kc)] =>
    match asI kc with
    | some k0 => rdK ch c fun y => ∃ x : CD, (y = markCD k0 x ∧ capK x ∧ mrkC k0) ∧ kk (.a (.c (.int (kAt k0 x.sn x.n)))) ch []
    | none => False
  | _ => False
theorem sHeldCs_ok : SmOK Try.prog 60 sHeldCs := by
  refine smB Try.call60 fun args ch kk w X h0 hs => ?_
  unfold sHeldCs at h0
  split at h0
  · split at h0
    · rename_i k0 hkc
      obtain ⟨y, O, C, so, sc, e, hA, x, ⟨rfl, hc, hk⟩, h1⟩ := rdK_ok h0 hs
      refine ⟨_, h1, ?_⟩
      simp only [List.map_cons, List.map_nil, den_a, den_c, e, asI_den hkc]
      exact heldCs_any x O C so sc k0 w hA hc hk
    · exact h0.elim
  · exact h0.elim
def endArray (k : Int) (x : AD) : Int := mk (mk (kAt k x.c.sn x.c.n) 1 0 x.aN) 1 0 x.hN
def markArrayD (k : Int) (x : AD) : AD := ⟨markCD k x.c, x.aN, fun i => mk (kAt k x.c.sn x.c.n) 1 0 i, x.hN, fun i => mk (mk (kAt k x.c.sn x.c.n) 1 0 x.aN) 1 0 i⟩
theorem markA_T (x : AD) (O A H : Option Addr) (C D E : Nat) (so : Nat → Option Addr) (sc : Nat → Nat) (tA tB tC tD kA kB kC : Nat) (k0 : Int) : (exFn Try.prog {tb := [(58, sMarkCs), (59, sMarkIntS)]} 400 Try.f18 ([.a (arrS 0 x O A H C D E), .a (.c (.int k0))]) ([.row ⟨true, O, tA, 2, x.c.n, kA, cellFld 3 x.c so sc⟩, .row ⟨true, A, tB, 1, x.aN, kB, [fun i => .int (x.ag i)]⟩, .row ⟨true, H, tC, 1, x.hN, kC, [fun i => .int (x.hg i)]⟩, .obj true (symRows true tD x.c so sc)]) (fun v ch => v.den = .int .i64 (endArray k0 x) ∧ SelS ch [0, 1, 2, 3] [.row ⟨true, O, tA, 2, (markArrayD k0 x).c.n, kA, cellFld 3 (markArrayD k0 x).c so sc⟩, .row ⟨true, A, tB, 1, (markArrayD k0 x).aN, kB, [fun i => .int ((markArrayD k0 x).ag i)]⟩, .row ⟨true, H, tC, 1, (markArrayD k0 x).hN, kC, [fun i => .int ((markArrayD k0 x).hg i)]⟩, .obj true (symRows true tD (markArrayD k0 x).c so sc)])) = (
  (∀ b0 : Nat,
 (b0 = b0 ∧
 (∃ t1 : Nat, (∃ y2 : CD, (∃ so3 : (Nat →
 (Option Addr)), (∃ sc4 : (Nat →
 Nat), (((symRows true tD x.1 so sc) = (symRows true t1 y2 so3 sc4) ∧
 ([(fun i5 => (Cs 3 (so i5) (x.1.2 i5) (sc i5))), (fun i6 => (Cb (x.1.4 i6)))] = [(fun i7 => (Cs 3 (so3 i7) (y2.2 i7) (sc4 i7))), (fun i8 => (Cb (y2.4 i8)))] ∧
 (O = O ∧
 (x.1.1 = x.1.1 ∧
 (x.1.1 = y2.1 ∧
 (true = true ∧
 ((capK y2) ∧
 (mrkC k0)))))))) ∧
 (b0 = b0 ∧
 (∃ g09 : (Nat →
 Int), ((A = A ∧
 (x.2 = x.2 ∧
 ([(fun i10 => (Ci (x.3 i10)))] = [(fun i11 => (Ci (g09 i11)))] ∧
 (markC x.2 (kAt k0 y2.2 y2.1))))) ∧
 (b0 = b0 ∧
 (∃ g012 : (Nat →
 Int), ((H = H ∧
 (x.4 = x.4 ∧
 ([(fun i13 => (Ci (x.5 i13)))] = [(fun i14 => (Ci (g012 i14)))] ∧
 (markC x.4 (mk (kAt k0 y2.2 y2.1) 1 0 x.2))))) ∧
 ((Wi (mk (mk (kAt k0 y2.2 y2.1) 1 0 x.2) 1 0 x.4)) = (Wi (endArray k0 x)) ∧
 (SelS [(Hr true O tA 2 x.1.1 kA [(fun i15 => (Cs 3 (so3 i15) (((markCD k0 y2)).2 i15) (sc4 i15))), (fun i16 => (Cb (((markCD k0 y2)).4 i16)))]), (Hr true A tB 1 x.2 kB [(fun i17 => (Ci (mk (kAt k0 y2.2 y2.1) 1 0 i17)))]), (Hr true H tC 1 x.4 kC [(fun i18 => (Ci (mk (mk (kAt k0 y2.2 y2.1) 1 0 x.2) 1 0 i18)))]), (Ho true (symRows true t1 (markCD k0 y2) so3 sc4)), (Hc b0 33 [(Cs 0 O x.1.1 C), (Cs 1 A x.2 D), (Cs 2 H x.4 E)])] [0, 1, 2, 3] [(Hr true O tA 2 ((markArrayD k0 x)).1.1 kA [(fun i19 => (Cs 3 (so i19) (((markArrayD k0 x)).1.2 i19) (sc i19))), (fun i20 => (Cb (((markArrayD k0 x)).1.4 i20)))]), (Hr true A tB 1 ((markArrayD k0 x)).2 kB [(fun i21 => (Ci (((markArrayD k0 x)).3 i21)))]), (Hr true H tC 1 ((markArrayD k0 x)).4 kC [(fun i22 => (Ci (((markArrayD k0 x)).5 i22)))]), (Ho true (symRows true tD ((markArrayD k0 x)).1 so sc))])))))))))))))))) := by kernel_rfl
theorem markA_any (x : AD) (O A H : Option Addr) (C D E : Nat) (so : Nat → Option Addr) (sc : Nat → Nat) (tA tB tC tD kA kB kC : Nat) (k0 : Int) (w : World) (M : Nat → Prop) (hs : HS ⟨w, M⟩ [.row ⟨true, O, tA, 2, x.c.n, kA, cellFld 3 x.c so sc⟩, .row ⟨true, A, tB, 1, x.aN, kB, [fun i => .int (x.ag i)]⟩, .row ⟨true, H, tC, 1, x.hN, kC, [fun i => .int (x.hg i)]⟩, .obj true (symRows true tD x.c so sc)] w) (hcap : capAx x) (hk0 : mrkC k0) : Calls Try.prog 18 #[arrV x O A H C D E, .int .i64 k0] w fun e w' => e = .returned (.int .i64 (endArray k0 x)) ∧ HS ⟨w, M⟩ [.row ⟨true, O, tA, 2, (markArrayD k0 x).c.n, kA, cellFld 3 (markArrayD k0 x).c so sc⟩, .row ⟨true, A, tB, 1, (markArrayD k0 x).aN, kB, [fun i => .int ((markArrayD k0 x).ag i)]⟩, .row ⟨true, H, tC, 1, (markArrayD k0 x).hN, kC, [fun i => .int ((markArrayD k0 x).hg i)]⟩, .obj true (symRows true tD (markArrayD k0 x).c so sc)] w' := by
  refine fnB (tb := [(58, sMarkCs), (59, sMarkIntS)]) ⟨sMarkCs_ok, sMarkIntS_ok, trivial⟩ Try.func18 (@Eq.mpr _ _ (markA_T x O A H C D E so sc tA tB tC tD kA kB kC k0) ?_) hs (fun v ch' w' ⟨hv, hc⟩ hs => ⟨by rw [hv], hc.hs hs⟩)
  clear hs
  obtain ⟨c1, c2, c3⟩ := hcap
  have hc1 : totN x.c.sn x.c.n ≤ 2097152 := c1
  have hk1 := hk0.1
  have hk2 := hk0.2
  have b1 : 0 ≤ kAt k0 x.c.sn x.c.n ∧ kAt k0 x.c.sn x.c.n ≤ 549757911040 := by simp only [kAt]; omega
  have b2 : 0 ≤ mk (kAt k0 x.c.sn x.c.n) 1 0 x.aN ∧ mk (kAt k0 x.c.sn x.c.n) 1 0 x.aN ≤ 549760008192 := by simp only [mk]; omega
  have b3 : 0 ≤ mk (mk (kAt k0 x.c.sn x.c.n) 1 0 x.aN) 1 0 x.hN := by simp only [mk] at b2 ⊢; omega
  repeat' (first
    | with_reducible exact rfl
    | exact True.intro
    | with_reducible assumption
    | exact hk0
    | exact (by refine ⟨?_, rfl⟩; repeat' (first | exact True.intro | exact symRows_push | exact rfl | refine And.intro ?_ ?_ | (intro i hi; show _ = _; with_reducible rfl) | (intro i hi; show _ = _; rfl) | (intro i hi; show _ = _; simp only [SC.den]; split <;> rfl)))
    | refine And.intro ?_ ?_
    | apply Exists.intro
    | (intro h; replace h := of_decide_eq_true h; first | (exfalso; omega) | skip)
    | (intro h; replace h := of_decide_eq_false h; first | (exfalso; omega) | skip)
    | (intro i hi; with_reducible exact rfl)
    | intro _
    | omega
    | exact rfl)
theorem heldA_T (x : AD) (O A H : Option Addr) (C D E : Nat) (so : Nat → Option Addr) (sc : Nat → Nat) (k0 : Int) : (exFn Try.prog {tb := [(60, sHeldCs), (61, sHeldIntS)]} 400 Try.f19 ([.a (arrS 0 (markArrayD k0 x) O A H C D E), .a (.c (.int k0))]) (arrR 0 (markArrayD k0 x) O A H so sc) (fun v _ => v.den = .int .i64 (endArray k0 x))) = (
  (∀ b0 : Nat,
 (b0 = b0 ∧
 (∃ t1 : Nat, (∃ y2 : CD, (∃ so3 : (Nat →
 (Option Addr)), (∃ sc4 : (Nat →
 Nat), (∃ sd5 : (Nat →
 Nat), (((symRows false 0 ((markArrayD k0 x)).1 so (fun x6 => 0)) = (symRows false t1 y2 so3 sd5) ∧
 ([(fun i7 => (Cs 3 (so i7) (((markArrayD k0 x)).1.2 i7) (sc i7))), (fun i8 => (Cb (((markArrayD k0 x)).1.4 i8)))] = [(fun i9 => (Cs 3 (so3 i9) (y2.2 i9) (sc4 i9))), (fun i10 => (Cb (y2.4 i10)))] ∧
 (O = O ∧
 (((markArrayD k0 x)).1.1 = ((markArrayD k0 x)).1.1 ∧
 ((markArrayD k0 x)).1.1 = y2.1)))) ∧
 (∃ x11 : CD, ((y2 = (markCD k0 x11) ∧
 ((capK x11) ∧
 (mrkC k0))) ∧
 (((decide ((kAt k0 x11.2 x11.1) < (0 : Int))) = true →
 (Wi (-1)) = (Wi (endArray k0 x))) ∧
 ((decide ((kAt k0 x11.2 x11.1) < (0 : Int))) = false →
 (b0 = b0 ∧
 ((A = A ∧
 (((markArrayD k0 x)).2 = ((markArrayD k0 x)).2 ∧
 ([(fun i12 => (Ci (((markArrayD k0 x)).3 i12)))] = [(fun i13 => (Ci (mk (kAt k0 x11.2 x11.1) 1 0 i13)))] ∧
 (markC ((markArrayD k0 x)).2 (kAt k0 x11.2 x11.1))))) ∧
 (((decide ((mk (kAt k0 x11.2 x11.1) 1 0 ((markArrayD k0 x)).2) < (0 : Int))) = true →
 (Wi (-1)) = (Wi (endArray k0 x))) ∧
 ((decide ((mk (kAt k0 x11.2 x11.1) 1 0 ((markArrayD k0 x)).2) < (0 : Int))) = false →
 (b0 = b0 ∧
 ((H = H ∧
 (((markArrayD k0 x)).4 = ((markArrayD k0 x)).4 ∧
 ([(fun i14 => (Ci (((markArrayD k0 x)).5 i14)))] = [(fun i15 => (Ci (mk (mk (kAt k0 x11.2 x11.1) 1 0 ((markArrayD k0 x)).2) 1 0 i15)))] ∧
 (markC ((markArrayD k0 x)).4 (mk (kAt k0 x11.2 x11.1) 1 0 ((markArrayD k0 x)).2))))) ∧
 (((decide ((mk (mk (kAt k0 x11.2 x11.1) 1 0 ((markArrayD k0 x)).2) 1 0 ((markArrayD k0 x)).4) < (0 : Int))) = true →
 (Wi (-1)) = (Wi (endArray k0 x))) ∧
 ((decide ((mk (mk (kAt k0 x11.2 x11.1) 1 0 ((markArrayD k0 x)).2) 1 0 ((markArrayD k0 x)).4) < (0 : Int))) = false →
 (Wi (mk (mk (kAt k0 x11.2 x11.1) 1 0 ((markArrayD k0 x)).2) 1 0 ((markArrayD k0 x)).4)) = (Wi (endArray k0 x))))))))))))))))))))))) := by kernel_rfl
theorem heldA_any (x : AD) (O A H : Option Addr) (C D E : Nat) (so : Nat → Option Addr) (sc : Nat → Nat) (k0 : Int) (w : World) (hA : SeenA w (markArrayD k0 x) O A H so sc) (hcap : capAx x) (hk0 : mrkC k0) : Calls Try.prog 19 #[arrV (markArrayD k0 x) O A H C D E, .int .i64 k0] w fun e w' => e = .returned (.int .i64 (endArray k0 x)) ∧ Below w.heap.size w w' := by
  refine fnB (tb := [(60, sHeldCs), (61, sHeldIntS)]) ⟨sHeldCs_ok, sHeldIntS_ok, trivial⟩ Try.func19 (@Eq.mpr _ _ (heldA_T x O A H C D E so sc k0) ?_) (HS.seenAll (fun _ => False) _ (hA.all 0 seenC_nil)) (fun v ch' w' hv hs => ⟨by rw [hv], hs.below⟩)
  clear hA
  obtain ⟨c1, c2, c3⟩ := hcap
  have hc1 : totN x.c.sn x.c.n ≤ 2097152 := c1
  have hk1 := hk0.1
  have hk2 := hk0.2
  have b1 : 0 ≤ kAt k0 x.c.sn x.c.n ∧ kAt k0 x.c.sn x.c.n ≤ 549757911040 := by simp only [kAt]; omega
  have b2 : 0 ≤ mk (kAt k0 x.c.sn x.c.n) 1 0 x.aN ∧ mk (kAt k0 x.c.sn x.c.n) 1 0 x.aN ≤ 549760008192 := by simp only [mk]; omega
  have b3 : 0 ≤ mk (mk (kAt k0 x.c.sn x.c.n) 1 0 x.aN) 1 0 x.hN := by simp only [mk] at b2 ⊢; omega
  have e1 : (markArrayD k0 x).aN = x.aN := rfl
  have e2 : (markArrayD k0 x).hN = x.hN := rfl
  simp only [e1, e2]
  repeat' (first
    | with_reducible exact rfl
    | exact True.intro
    | with_reducible assumption
    | exact hk0
    | (refine ⟨x.c, ⟨rfl, c1, hk0⟩, ?_⟩)
    | (intro h; exfalso; replace h := of_decide_eq_true h; omega)
    | refine And.intro ?_ ?_
    | apply Exists.intro
    | (intro h; replace h := of_decide_eq_true h; first | (exfalso; omega) | skip)
    | (intro h; replace h := of_decide_eq_false h; first | (exfalso; omega) | skip)
    | (intro i hi; with_reducible exact rfl)
    | intro _
    | omega
    | exact rfl)
def sSzC : Sm := inlM Try.prog {tb := [(44, sSzIntS)]} 300 Try.f62
theorem sSzC_ok : SmOK Try.prog 62 sSzC := inlM_ok mixed (E := {tb := [(44, sSzIntS)]}) ⟨sSzIntS_ok, trivial⟩ Try.func62 Try.call62 (fun _ _ _ => loopsOK_nil _ _ _)
def scH (x : CD) (O : Option Addr) (C : Nat) (so : Nat → Option Addr) (sc : Nat → Nat) (k0 : Int) (k i : SC) (g : Nat → Value) : List SV := [.a (.c (.sl 0 O x.n C)), .a (.c k), .a (.c (.val (g 2))), .a (.c (.val (g 3))), .a (.c (.val (g 4))), .a (.c i), .a (.c (.val (g 6))), .a (.c (.val (g 7))), .a (.c (.val (g 8))), .a (.c (.val (g 9))), .a (.c (.val (g 10))), .a (.c (.val (g 11))), .a (.c (.val (g 12))), .a (.c (.val (g 13))), .a (.c (.val (g 14))), .a (.c (.val (g 15))), .a (.c (.val (g 16))), .a (.c (.val (g 17))), .a (.c (.val (g 18))), .a (.c (.val (g 19))), .a (.c (.val (g 20))), .a (.c (.val (g 21))), .a (.c (.val (g 22))), .a (.c (.val (g 23))), .a (.c (.val (g 24))), .a (.c (.val (g 25))), .a (.c (.val (g 26)))]
def scR (x : CD) (O : Option Addr) (C : Nat) (so : Nat → Option Addr) (sc : Nat → Nat) (k0 : Int) (g : Nat → Value) : List SV := [.a (.c (.val (g 0))), .a (.c (.val (g 1))), .a (.c (.val (g 2))), .a (.c (.val (g 3))), .a (.c (.il (-1))), .a (.c (.val (g 5))), .a (.c (.val (g 6))), .a (.c (.val (g 7))), .a (.c (.val (g 8))), .a (.c (.val (g 9))), .a (.c (.val (g 10))), .a (.c (.val (g 11))), .a (.c (.val (g 12))), .a (.c (.val (g 13))), .a (.c (.val (g 14))), .a (.c (.val (g 15))), .a (.c (.val (g 16))), .a (.c (.val (g 17))), .a (.c (.val (g 18))), .a (.c (.val (g 19))), .a (.c (.val (g 20))), .a (.c (.val (g 21))), .a (.c (.val (g 22))), .a (.c (.val (g 23))), .a (.c (.val (g 24))), .a (.c (.val (g 25))), .a (.c (.val (g 26)))]
abbrev leZ2 (a b : Int) : Prop := a ≤ b
def leftC (k : Int) (x : CD) (j : Nat) : Int := k - (x.n : Int) - (totN x.sn j : Int) + (j : Int)
def scT (x : CD) (O : Option Addr) (C : Nat) (so : Nat → Option Addr) (sc : Nat → Nat) (k0 : Int) : List Ch := [.row ⟨false, O, 0, 2, x.n, 0, cellFld 1 x so sc⟩, .obj false (symRows false 0 x so (fun _ => 0))]
abbrev szK2 (k : Int) (x : CD) : Prop := 0 ≤ k ∧ k ≤ 1048576 ∧ x.n ≤ 9223372036854775807 ∧ ∀ i, i < x.n → x.sn i ≤ 9223372036854775807
def ssc : LSm := fun ts ch kk => ∃ (x : CD) (O : Option Addr) (C : Nat) (so : Nat → Option Addr) (sc : Nat → Nat) (k0 : Int), (ts.map SV.den = (scH x O C so sc k0 (.int (isub k0 (x.n : Int))) (.il 0) (fun d => (ts.getD d .undef).den)).map SV.den ∧ ch = scT x O C so sc k0 ∧ szK2 k0 x ∧ leZ2 0 (isub k0 (x.n : Int))) ∧
    (∀ (g : Nat → Value) (kx : Int), leZ2 0 (leftC k0 x x.n) → kk (.exit 0) (scH x O C so sc k0 (.int (leftC k0 x x.n)) (.int kx) g) (scT x O C so sc k0)) ∧ (∀ (g : Nat → Value), kk .ret (scR x O C so sc k0 g) (scT x O C so sc k0))
theorem scB (x : CD) (O : Option Addr) (C : Nat) (so : Nat → Option Addr) (sc : Nat → Nat) (k0 : Int) (j : Nat) (g : Nat → Value) (NX : List SV → List Ch → Prop) (kx : Exit → List SV → List Ch → Prop) : (exCode Try.prog {tb := [(62, sSzC)]} 400 (theLoop Try.f43 0) (scH x O C so sc k0 (.int (leftC k0 x j)) (.int (j : Int)) g) (scT x O C so sc k0) (loopK NX kx)) = (
  (((decide (((j : Nat) : Int) < ((x.1 : Nat) : Int))) = true →
 (O = O ∧
 (x.1 = x.1 ∧
 ((0 ≤ ((j : Nat) : Int) ∧ ((j : Nat) : Int) < ((x.1 : Nat) : Int)) ∧
 (O = O ∧
 (j < x.1 ∧
 (∀ b0 : Nat,
 (b0 = b0 ∧
 ((szC (x.2 j) (leftC k0 x j)) ∧
 ((((leftC k0 x j) < (((x.2 j) : Nat) : Int)) →
 (kx Exit.ret [(sV 0 O x.1 C), (lV (-1)), (vV (g 2)), (vV (g 3)), (lV (-1)), (iV ((j : Nat) : Int)), (vV (g 6)), (vV (g 7)), (vV (g 8)), (vV (g 9)), (vV (g 10)), (vV (g 11)), (iV ((j : Nat) : Int)), (sV 0 O x.1 C), (iV ((x.1 : Nat) : Int)), tV, (vV (g 16)), (vV (g 17)), (sV 0 O x.1 C), (iV ((j : Nat) : Int)), (rV 0 O 2 j 0), (aV [(Cs 1 (so j) (x.2 j) (sc j)), (Cb (x.4 j))]), (iV (leftC k0 x j)), (lV (-1)), (lV (-1)), tV, (vV (g 26))] [(Hr false O 0 2 x.1 0 [(fun i1 => (Cs 1 (so i1) (x.2 i1) (sc i1))), (fun i2 => (Cb (x.4 i2)))]), (Ho false (symRows false 0 x so (fun x3 => 0))), (Hc b0 46 [(Cs 1 (so j) (x.2 j) (sc j)), (Cb (x.4 j))])])) ∧
 (((((x.2 j) : Nat) : Int) ≤ (leftC k0 x j)) →
 (((decide (((leftC k0 x j) - (((x.2 j) : Nat) : Int)) < (0 : Int))) = true →
 (kx Exit.ret [(sV 0 O x.1 C), (lV (-1)), (vV (g 2)), (vV (g 3)), (lV (-1)), (iV ((j : Nat) : Int)), (vV (g 6)), (vV (g 7)), (vV (g 8)), (vV (g 9)), (vV (g 10)), (vV (g 11)), (iV ((j : Nat) : Int)), (sV 0 O x.1 C), (iV ((x.1 : Nat) : Int)), tV, (vV (g 16)), (vV (g 17)), (sV 0 O x.1 C), (iV ((j : Nat) : Int)), (rV 0 O 2 j 0), (aV [(Cs 1 (so j) (x.2 j) (sc j)), (Cb (x.4 j))]), (iV (leftC k0 x j)), (lV (-1)), (lV (-1)), tV, (vV (g 26))] [(Hr false O 0 2 x.1 0 [(fun i4 => (Cs 1 (so i4) (x.2 i4) (sc i4))), (fun i5 => (Cb (x.4 i5)))]), (Ho false (symRows false 0 x so (fun x6 => 0))), (Hc b0 46 [(Cs 1 (so j) (x.2 j) (sc j)), (Cb (x.4 j))])])) ∧
 ((decide (((leftC k0 x j) - (((x.2 j) : Nat) : Int)) < (0 : Int))) = false →
 (((decide (((leftC k0 x j) - (((x.2 j) : Nat) : Int)) < (0 : Int))) = true →
 (kx Exit.ret [(sV 0 O x.1 C), (iV ((leftC k0 x j) - (((x.2 j) : Nat) : Int))), (vV (g 2)), (vV (g 3)), (lV (-1)), (iV ((j : Nat) : Int)), (vV (g 6)), (vV (g 7)), (vV (g 8)), (vV (g 9)), (vV (g 10)), (vV (g 11)), (iV ((j : Nat) : Int)), (sV 0 O x.1 C), (iV ((x.1 : Nat) : Int)), tV, (vV (g 16)), (vV (g 17)), (sV 0 O x.1 C), (iV ((j : Nat) : Int)), (rV 0 O 2 j 0), (aV [(Cs 1 (so j) (x.2 j) (sc j)), (Cb (x.4 j))]), (iV (leftC k0 x j)), (iV ((leftC k0 x j) - (((x.2 j) : Nat) : Int))), (iV ((leftC k0 x j) - (((x.2 j) : Nat) : Int))), tV, (vV (g 26))] [(Hr false O 0 2 x.1 0 [(fun i7 => (Cs 1 (so i7) (x.2 i7) (sc i7))), (fun i8 => (Cb (x.4 i8)))]), (Ho false (symRows false 0 x so (fun x9 => 0))), (Hc b0 46 [(Cs 1 (so j) (x.2 j) (sc j)), (Cb (x.4 j))])])) ∧
 ((decide (((leftC k0 x j) - (((x.2 j) : Nat) : Int)) < (0 : Int))) = false →
 ((rng (((j : Nat) : Int) + (1 : Int))) ∧
 (NX [(sV 0 O x.1 C), (iV ((leftC k0 x j) - (((x.2 j) : Nat) : Int))), (vV (g 2)), (vV (g 3)), (vV (g 4)), (iV (((j : Nat) : Int) + (1 : Int))), (vV (g 6)), (vV (g 7)), (vV (g 8)), (vV (g 9)), (vV (g 10)), (vV (g 11)), (iV ((j : Nat) : Int)), (sV 0 O x.1 C), (iV ((x.1 : Nat) : Int)), tV, (iV ((j : Nat) : Int)), (iV (((j : Nat) : Int) + (1 : Int))), (sV 0 O x.1 C), (iV ((j : Nat) : Int)), (rV 0 O 2 j 0), (aV [(Cs 1 (so j) (x.2 j) (sc j)), (Cb (x.4 j))]), (iV (leftC k0 x j)), (iV ((leftC k0 x j) - (((x.2 j) : Nat) : Int))), (iV ((leftC k0 x j) - (((x.2 j) : Nat) : Int))), fV, (vV (g 26))] [(Hr false O 0 2 x.1 0 [(fun i10 => (Cs 1 (so i10) (x.2 i10) (sc i10))), (fun i11 => (Cb (x.4 i11)))]), (Ho false (symRows false 0 x so (fun x12 => 0))), (Hc b0 46 [(Cs 1 (so j) (x.2 j) (sc j)), (Cb (x.4 j))])]))))))))))))))))) ∧
 ((decide (((j : Nat) : Int) < ((x.1 : Nat) : Int))) = false →
 (kx (Exit.exit 0) [(sV 0 O x.1 C), (iV (leftC k0 x j)), (vV (g 2)), (vV (g 3)), (vV (g 4)), (iV ((j : Nat) : Int)), (vV (g 6)), (vV (g 7)), (vV (g 8)), (vV (g 9)), (vV (g 10)), (vV (g 11)), (iV ((j : Nat) : Int)), (sV 0 O x.1 C), (iV ((x.1 : Nat) : Int)), fV, (vV (g 16)), (vV (g 17)), (vV (g 18)), (vV (g 19)), (vV (g 20)), (vV (g 21)), (vV (g 22)), (vV (g 23)), (vV (g 24)), (vV (g 25)), (vV (g 26))] [(Hr false O 0 2 x.1 0 [(fun i13 => (Cs 1 (so i13) (x.2 i13) (sc i13))), (fun i14 => (Cb (x.4 i14)))]), (Ho false (symRows false 0 x so (fun x15 => 0)))])))) := by kernel_rfl
theorem left_next {k : Int} {x : CD} {j : Nat} : leftC k x j - (x.sn j : Int) = leftC k x (j + 1) := by
  simp only [leftC, totN]
  omega
theorem sc_ok (X : Cx) : LoopOK Try.prog X (theLoop Try.f43 0) ssc := by
  intro ts ch kk a w hS hT hd hs
  obtain ⟨x, O, C, so, sc, k0, ⟨h1, rfl, hk0, hl0⟩, hk, hr⟩ := hS
  have hl1 : 0 ≤ k0 - (x.n : Int) := hl0
  have hk1 := hk0.1
  have hk2 := hk0.2.1
  refine loop_ok mixed (E := {tb := [(62, sSzC)]}) ⟨sSzC_ok, trivial⟩ (loopsOK_nil _ _ _) 400 x.n (fun j ts ch => ∃ g, (0 ≤ leftC k0 x j ∧ leftC k0 x j ≤ 1048576) ∧ ts = scH x O C so sc k0 (.int (leftC k0 x j)) (.int (j : Int)) g ∧ ch = scT x O C so sc k0) ?_ ?_ hT hd hs
  · rintro j _ _ ⟨g, hlj, rfl, rfl⟩ hj
    refine (@Eq.mpr _ _ (scB x O C so sc k0 j g _ _) ?_)
    have hl := hlj.1
    have hl2 := hlj.2
    by_cases hlt : j < x.n
    · have hnx := left_next (k := k0) (x := x) (j := j)
      have hsn := hk0.2.2.2 j hlt
      repeat' (first
        | with_reducible exact rfl
        | exact True.intro
        | with_reducible assumption
        | (refine ⟨hlt, ?_⟩; show Next _ _ _ _; refine Next.mk (fun g => scH x O C so sc k0 (.int (leftC k0 x (j + 1))) (.int ((j + 1 : Nat) : Int)) g) _ ⟨_, ⟨by omega, by omega⟩, rfl, rfl⟩ (by rw [← hnx]; rfl) fun w hw => hw.sel [0, 1] (by simp))
        | (refine Next.mk (fun g => scR x O C so sc k0 g) _ (hr _) rfl fun w hw => hw.sel [0, 1] (by simp))
        | refine And.intro ?_ ?_
        | apply Exists.intro
        | (intro h; replace h := of_decide_eq_true h; first | (exfalso; omega) | skip)
        | (intro h; replace h := of_decide_eq_false h; first | (exfalso; omega) | skip)
        | intro _
        | omega
        | (simp; omega))
    · have hjn : j = x.n := by omega
      subst hjn
      repeat' (first
        | with_reducible exact rfl
        | exact True.intro
        | with_reducible assumption
        | (refine Next.mk (fun g => scH x O C so sc k0 (.int (leftC k0 x x.n)) (.int (x.n : Int)) g) _ (hk _ _ hlj.1) rfl fun w hw => hw)
        | refine And.intro ?_ ?_
        | apply Exists.intro
        | (intro h; replace h := of_decide_eq_true h; first | (exfalso; omega) | skip)
        | (intro h; replace h := of_decide_eq_false h; first | (exfalso; omega) | skip)
        | intro _
        | omega
        | (simp; omega))
  · refine Next.mk (fun g => scH x O C so sc k0 (.int (leftC k0 x 0)) (.int ((0 : Nat) : Int)) g) _ ⟨_, ⟨by simp only [leftC, totN]; omega, by simp only [leftC, totN]; omega⟩, rfl, rfl⟩ (by rw [h1]; simp [scH, SV.den, SA.den, SC.den, leftC, totN]) fun w hw => hw
abbrev szPC (z k : Int) (x : CD) : Prop := z = -1 ∨ (0 ≤ z ∧ z = leftC k x x.n)
theorem szCs_T (x : CD) (O : Option Addr) (C : Nat) (so : Nat → Option Addr) (sc : Nat → Nat) (k0 : Int) : (exFn Try.prog { L := [(5, ssc)] } 400 Try.f43 ([.a (.c (.sl 0 O x.n C)), .a (.c (.int k0))]) (scT x O C so sc k0) (fun v ch => ∃ z : Int, v.den = .int .i64 z ∧ szPC z k0 x)) = (
  ((rng (k0 - ((x.1 : Nat) : Int))) ∧
 (((decide ((k0 - ((x.1 : Nat) : Int)) < (0 : Int))) = true →
 (∃ z0 : Int, ((Wi (-1)) = (Wi z0) ∧
 (szPC z0 k0 x)))) ∧
 ((decide ((k0 - ((x.1 : Nat) : Int)) < (0 : Int))) = false →
 (∃ x1 : CD, (∃ O2 : (Option Addr), (∃ C3 : Nat, (∃ so4 : (Nat →
 (Option Addr)), (∃ sc5 : (Nat →
 Nat), (∃ k06 : Int, (([(Ws O x.1 C), (Wi (k0 - ((x.1 : Nat) : Int))), (Wu []), (Wu []), (Wi 0), (Wi 0), (Wi k0), (Ws O x.1 C), (Wi ((x.1 : Nat) : Int)), (Wi (k0 - ((x.1 : Nat) : Int))), (Wi (k0 - ((x.1 : Nat) : Int))), (Wb false), (Wu []), (Wu []), (Wu []), (Wu []), (Wu []), (Wu []), (Wu []), (Wu []), (Wu []), (Wu []), (Wu []), (Wu []), (Wu []), (Wu []), (Wu [])] = [(Ws O2 x1.1 C3), (Wi (k06 - ((x1.1 : Nat) : Int))), (Wu []), (Wu []), (Wi 0), (Wi 0), (Wi k0), (Ws O x.1 C), (Wi ((x.1 : Nat) : Int)), (Wi (k0 - ((x.1 : Nat) : Int))), (Wi (k0 - ((x.1 : Nat) : Int))), (Wb false), (Wu []), (Wu []), (Wu []), (Wu []), (Wu []), (Wu []), (Wu []), (Wu []), (Wu []), (Wu []), (Wu []), (Wu []), (Wu []), (Wu []), (Wu [])] ∧
 ([(Hr false O 0 2 x.1 0 [(fun i7 => (Cs 1 (so i7) (x.2 i7) (sc i7))), (fun i8 => (Cb (x.4 i8)))]), (Ho false (symRows false 0 x so (fun x9 => 0)))] = [(Hr false O2 0 2 x1.1 0 [(fun i10 => (Cs 1 (so4 i10) (x1.2 i10) (sc5 i10))), (fun i11 => (Cb (x1.4 i11)))]), (Ho false (symRows false 0 x1 so4 (fun x12 => 0)))] ∧
 ((szK2 k06 x1) ∧
 (leZ2 (0 : Int) (k06 - ((x1.1 : Nat) : Int)))))) ∧
 ((∀ g13 : (Nat →
 Value),
 (∀ kx14 : Int,
 ((leZ2 (0 : Int) (leftC k06 x1 x1.1)) →
 (∃ z15 : Int, ((Wi (leftC k06 x1 x1.1)) = (Wi z15) ∧
 (szPC z15 k0 x)))))) ∧
 (∀ g16 : (Nat →
 Value),
 (∃ z17 : Int, ((Wi (-1)) = (Wi z17) ∧
 (szPC z17 k0 x)))))))))))))))) := by kernel_rfl
theorem szCs_any (x : CD) (O : Option Addr) (C : Nat) (so : Nat → Option Addr) (sc : Nat → Nat) (k0 : Int) (w : World) (hA : SeenC w x O so sc) (hk0 : szK2 k0 x) : Calls Try.prog 43 #[.slice O x.n C, .int .i64 k0] w fun e w' => ∃ z : Int, szPC z k0 x ∧ e = .returned (.int .i64 z) ∧ Below w.heap.size w w' := by
  refine fn_ok mixed (E := { L := [(5, ssc)] }) trivial Try.func43 (one_loop (by kernel_rfl) (by kernel_rfl) (sc_ok _)) (@Eq.mpr _ _ (szCs_T x O C so sc k0) ?_) (HS.seenAll (fun _ => False) _ (hA.all 1 seenC_nil)) (fun v ch' w' ⟨z, hv, hz⟩ hs => ⟨z, hz, by rw [hv], hs.below⟩)
  clear hA
  have hk1 := hk0.1
  have hk2 := hk0.2.1
  have hk3 := hk0.2.2.1
  repeat' (first
    | with_reducible exact rfl
    | exact True.intro
    | with_reducible assumption
    | exact hk0
    | (refine ⟨_, rfl, ?_⟩; first | exact .inl rfl | exact .inr ⟨by with_reducible assumption, rfl⟩)
    | refine And.intro ?_ ?_
    | apply Exists.intro
    | (intro h; replace h := of_decide_eq_true h; first | (exfalso; omega) | skip)
    | (intro h; replace h := of_decide_eq_false h; first | (exfalso; omega) | skip)
    | intro _
    | omega
    | (show _ ≤ _; simp only [isub]; omega))
def sSzCs : Sm := fun args ch kk =>
  match args with
  | [.a (.c c), .a (.c kc)] =>
    match asI kc with
    | some k0 => rdK ch c fun x => szK2 k0 x ∧ ∀ z : Int, szPC z k0 x → kk (.a (.c (.int z))) ch []
    | none => False
  | _ => False
theorem sSzCs_ok : SmOK Try.prog 43 sSzCs := by
  refine smV Try.call43 fun args ch kk w X h0 hs => ?_
  unfold sSzCs at h0
  split at h0
  · split at h0
    · rename_i k0 hkc
      obtain ⟨x, O, C, so, sc, e, hA, hk, h1⟩ := rdK_ok h0 hs
      simp only [List.map_cons, List.map_nil, den_a, den_c, e, asI_den hkc]
      exact Calls.mono (szCs_any x O C so sc k0 w hA hk) fun e w' ⟨z, hz, he, hb⟩ => ⟨.a (.c (.int z)), he, hb, h1 z hz⟩
    · exact h0.elim
  · exact h0.elim
abbrev szPA (z k : Int) (x : AD) : Prop := z = -1 ∨ (0 ≤ z ∧ z ≤ k ∧ totN x.c.sn x.c.n ≤ 1048576 ∧ x.aN ≤ 1048576 ∧ x.hN ≤ 1048576)
theorem szA_T (x : AD) (O A H : Option Addr) (C D E : Nat) (so : Nat → Option Addr) (sc : Nat → Nat) (k0 : Int) : (exFn Try.prog {tb := [(43, sSzCs), (44, sSzIntS)]} 400 Try.f10 ([.a (arrS 0 x O A H C D E), .a (.c (.int k0))]) (arrR 0 x O A H so sc) (fun v _ => ∃ z : Int, v.den = .int .i64 z ∧ szPA z k0 x)) = (
  (∀ b0 : Nat,
 (b0 = b0 ∧
 (∃ t1 : Nat, (∃ y2 : CD, (∃ so3 : (Nat →
 (Option Addr)), (∃ sc4 : (Nat →
 Nat), (∃ sd5 : (Nat →
 Nat), (((symRows false 0 x.1 so (fun x6 => 0)) = (symRows false t1 y2 so3 sd5) ∧
 ([(fun i7 => (Cs 3 (so i7) (x.1.2 i7) (sc i7))), (fun i8 => (Cb (x.1.4 i8)))] = [(fun i9 => (Cs 3 (so3 i9) (y2.2 i9) (sc4 i9))), (fun i10 => (Cb (y2.4 i10)))] ∧
 (O = O ∧
 (x.1.1 = x.1.1 ∧
 x.1.1 = y2.1)))) ∧
 ((szK2 k0 y2) ∧
 (∀ z11 : Int,
 ((szPC z11 k0 y2) →
 (((decide (z11 < (0 : Int))) = true →
 (∃ z12 : Int, ((Wi (-1)) = (Wi z12) ∧
 (szPA z12 k0 x)))) ∧
 ((decide (z11 < (0 : Int))) = false →
 (b0 = b0 ∧
 ((szC x.2 z11) ∧
 (((z11 < ((x.2 : Nat) : Int)) →
 (∃ z13 : Int, ((Wi (-1)) = (Wi z13) ∧
 (szPA z13 k0 x)))) ∧
 ((((x.2 : Nat) : Int) ≤ z11) →
 (((decide ((z11 - ((x.2 : Nat) : Int)) < (0 : Int))) = true →
 (∃ z14 : Int, ((Wi (-1)) = (Wi z14) ∧
 (szPA z14 k0 x)))) ∧
 ((decide ((z11 - ((x.2 : Nat) : Int)) < (0 : Int))) = false →
 (b0 = b0 ∧
 ((szC x.4 (z11 - ((x.2 : Nat) : Int))) ∧
 ((((z11 - ((x.2 : Nat) : Int)) < ((x.4 : Nat) : Int)) →
 (∃ z15 : Int, ((Wi (-1)) = (Wi z15) ∧
 (szPA z15 k0 x)))) ∧
 ((((x.4 : Nat) : Int) ≤ (z11 - ((x.2 : Nat) : Int))) →
 (((decide (((z11 - ((x.2 : Nat) : Int)) - ((x.4 : Nat) : Int)) < (0 : Int))) = true →
 (∃ z16 : Int, ((Wi (-1)) = (Wi z16) ∧
 (szPA z16 k0 x)))) ∧
 ((decide (((z11 - ((x.2 : Nat) : Int)) - ((x.4 : Nat) : Int)) < (0 : Int))) = false →
 (∃ z17 : Int, ((Wi ((z11 - ((x.2 : Nat) : Int)) - ((x.4 : Nat) : Int))) = (Wi z17) ∧
 (szPA z17 k0 x))))))))))))))))))))))))))))) := by kernel_rfl
theorem szA_any (x : AD) (O A H : Option Addr) (C D E : Nat) (so : Nat → Option Addr) (sc : Nat → Nat) (k0 : Int) (w : World) (hA : SeenA w x O A H so sc) (hn : x.c.n ≤ 9223372036854775807 ∧ x.aN ≤ 9223372036854775807 ∧ x.hN ≤ 9223372036854775807 ∧ ∀ i, i < x.c.n → x.c.sn i ≤ 9223372036854775807) (hk0 : 0 ≤ k0 ∧ k0 ≤ 1048576) : Calls Try.prog 10 #[arrV x O A H C D E, .int .i64 k0] w fun e w' => ∃ z : Int, szPA z k0 x ∧ e = .returned (.int .i64 z) ∧ Below w.heap.size w w' := by
  refine fnB (tb := [(43, sSzCs), (44, sSzIntS)]) ⟨sSzCs_ok, sSzIntS_ok, trivial⟩ Try.func10 (@Eq.mpr _ _ (szA_T x O A H C D E so sc k0) ?_) (HS.seenAll (fun _ => False) _ (hA.all 0 seenC_nil)) (fun v ch' w' ⟨z, hv, hz⟩ hs => ⟨z, hz, by rw [hv], hs.below⟩)
  clear hA
  obtain ⟨n1, n2, n3, n4⟩ := hn
  obtain ⟨k1, k2⟩ := hk0
  repeat' (first
    | with_reducible exact rfl
    | exact True.intro
    | with_reducible assumption
    | exact ⟨k1, k2, n1, n4⟩
    | (refine ⟨_, rfl, ?_⟩; first | exact .inl rfl | (refine .inr ?_; simp only [leftC] at *; omega))
    | refine And.intro ?_ ?_
    | apply Exists.intro
    | (intro (hz : szPC _ _ _); rcases hz with rfl | ⟨hz1, hz2⟩ <;> (try simp only [leftC] at hz2))
    | (intro h; exfalso; simp at h; done)
    | (intro h; replace h := of_decide_eq_true h; first | (exfalso; omega) | skip)
    | (intro h; replace h := of_decide_eq_false h; first | (exfalso; omega) | skip)
    | intro _
    | omega)
end Go.Proofs.Ytddeinpnadfgmaa
