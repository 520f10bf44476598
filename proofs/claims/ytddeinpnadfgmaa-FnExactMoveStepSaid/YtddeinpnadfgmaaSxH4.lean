/-
  Cells marked.
-/
import Derived.Test.YtddeinpnadfgmaaSxH2
namespace Go.Proofs.Ytddeinpnadfgmaa
set_option linter.unusedVariables false
set_option linter.unusedSimpArgs false
open Go.RowKit
set_option maxRecDepth 100000
set_option maxHeartbeats 8000000

def mcH (x : CD) (O : Option Addr) (C : Nat) (so : Nat → Option Addr) (sc : Nat → Nat) (tt t cap : Nat) (k0 : Int) (k i : SC) (g : Nat → Value) : List SV := [.a (.c (.sl 0 O x.n C)), .a (.c k), .a (.c (.val (g 2))), .a (.c (.val (g 3))), .a (.c (.val (g 4))), .a (.c i), .a (.c (.val (g 6))), .a (.c (.val (g 7))), .a (.c (.val (g 8))), .a (.c (.val (g 9))), .a (.c (.val (g 10))), .a (.c (.val (g 11))), .a (.c (.val (g 12))), .a (.c (.val (g 13))), .a (.c (.val (g 14))), .a (.c (.val (g 15))), .a (.c (.val (g 16))), .a (.c (.val (g 17))), .a (.c (.val (g 18))), .a (.c (.val (g 19))), .a (.c (.val (g 20))), .a (.c (.val (g 21))), .a (.c (.val (g 22))), .a (.c (.val (g 23))), .a (.c (.val (g 24))), .a (.c (.val (g 25))), .a (.c (.val (g 26))), .a (.c (.val (g 27))), .a (.c (.val (g 28)))]
def mcT (x : CD) (O : Option Addr) (C : Nat) (so : Nat → Option Addr) (sc : Nat → Nat) (tt t cap : Nat) (k0 : Int) (j : Nat) : List Ch := [.row ⟨true, O, tt, 2, x.n, cap, [fun i => .sl 1 (so i) (x.sn i) (sc i), fun i => .bool (lowB i j (mkPo k0 x.sn i) (x.po i))]⟩, .obj true (symRows true t ⟨x.n, x.sn, fun a q => lowI a j (mk (kAt k0 x.sn a) 1 0 q) (x.sy a q), x.po⟩ so sc)]
def mcE (x : CD) (O : Option Addr) (C : Nat) (so : Nat → Option Addr) (sc : Nat → Nat) (tt t cap : Nat) (k0 : Int) : List Ch := [.row ⟨true, O, tt, 2, x.n, cap, cellFld 1 (markCD k0 x) so sc⟩, .obj true (symRows true t (markCD k0 x) so sc)]
theorem mk_po {j n : Nat} {k : Int} {sn : Nat → Nat} {po : Nat → Bool} : ∀ i, ltN i n → (SC.bool (if i = j then (mk (kAt k sn j) 1 0 (sn j) % 3 == 0) else if i < j then mkPo k sn i else po i)).den = (SC.bool (if i < j + 1 then mkPo k sn i else po i)).den := fun i hi => by
  by_cases h1 : i < j
  · have h2 : ¬ i = j := by omega
    have h3 : i < j + 1 := by omega
    simp [SC.den, h1, h2, h3]
  · by_cases h2 : i = j
    · subst h2
      simp [SC.den, mkPo, imod, ieq]
    · have h3 : ¬ i < j + 1 := by omega
      simp [SC.den, h1, h2, h3]
theorem mk_rows {o : Bool} {t n j : Nat} {k : Int} {sn : Nat → Nat} {sy : Nat → Nat → Int} {po po2 : Nat → Bool} {so : Nat → Option Addr} {sc : Nat → Nat} : symRows o t ⟨n, sn, fun a q => if a = j then mk (kAt k sn j) 1 0 q else if a < j then mk (kAt k sn a) 1 0 q else sy a q, po⟩ so sc = symRows o t ⟨n, sn, fun a q => if a < j + 1 then mk (kAt k sn a) 1 0 q else sy a q, po2⟩ so sc :=
  symRows_congr rfl fun i hi => by
    simp only [symRow]
    congr 1
    congr 1
    funext q
    by_cases h1 : i < j
    · have h2 : ¬ i = j := by omega
      have h3 : i < j + 1 := by omega
      simp [h1, h2, h3]
    · by_cases h2 : i = j
      · subst h2
        simp
      · have h3 : ¬ i < j + 1 := by omega
        simp [h1, h2, h3]
theorem mk_all {o : Bool} {t : Nat} {k : Int} {x : CD} {po : Nat → Bool} {so : Nat → Option Addr} {sc : Nat → Nat} : symRows o t ⟨x.n, x.sn, fun a q => if a < x.n then mk (kAt k x.sn a) 1 0 q else x.sy a q, po⟩ so sc = symRows o t (markCD k x) so sc :=
  symRows_congr rfl fun i hi => by
    have hi : i < x.n := hi
    simp [symRow, markCD, hi]
theorem mk_none {o : Bool} {t : Nat} {k : Int} {x : CD} {so : Nat → Option Addr} {sc : Nat → Nat} : symRows o t x so sc = symRows o t ⟨x.n, x.sn, fun a q => if a < 0 then mk (kAt k x.sn a) 1 0 q else x.sy a q, x.po⟩ so sc :=
  symRows_congr rfl fun i hi => by simp [symRow]
theorem mk_poE {n : Nat} {k : Int} {sn : Nat → Nat} {po : Nat → Bool} : ∀ i, ltN i n → (SC.bool (if i < n then mkPo k sn i else po i)).den = (SC.bool (mkPo k sn i)).den := fun i hi => by
  have h1 : i < n := hi
  simp [SC.den, h1]
def smc : LSm := fun ts ch kk => ∃ (x : CD) (O : Option Addr) (C : Nat) (so : Nat → Option Addr) (sc : Nat → Nat) (tt t cap : Nat) (k0 : Int), (ts.map SV.den = (mcH x O C so sc tt t cap k0 (.int k0) (.il 0) (fun d => (ts.getD d .undef).den)).map SV.den ∧ ch = [.row ⟨true, O, tt, 2, x.n, cap, cellFld 1 x so sc⟩, .obj true (symRows true t x so sc)] ∧ capK x ∧ mrkC k0) ∧ ∀ (g : Nat → Value) (kx : Int), kk (.exit 0) (mcH x O C so sc tt t cap k0 (.int (kAt k0 x.sn x.n)) (.int kx) g) (mcE x O C so sc tt t cap k0)
theorem mcB (x : CD) (O : Option Addr) (C : Nat) (so : Nat → Option Addr) (sc : Nat → Nat) (tt t cap : Nat) (k0 : Int) (j : Nat) (g : Nat → Value) (NX : List SV → List Ch → Prop) (kx : Exit → List SV → List Ch → Prop) : (exCode Try.prog {tb := [(59, sMarkN)], D := fun _ => [1]} 400 (theLoop Try.f58 0) (mcH x O C so sc tt t cap k0 (.int (kAt k0 x.sn j)) (.int ((j : Nat) : Int)) g) (mcT x O C so sc tt t cap k0 j) (loopK NX kx)) = (
  (((decide (((j : Nat) : Int) < ((x.1 : Nat) : Int))) = true →
 (O = O ∧
 (x.1 = x.1 ∧
 ((0 ≤ ((j : Nat) : Int) ∧ ((j : Nat) : Int) < ((x.1 : Nat) : Int)) ∧
 (O = O ∧
 (j < x.1 ∧
 (O = O ∧
 (j < x.1 ∧
 (∃ t0 : Nat, (∃ y1 : CD, (∃ so2 : (Nat →
 (Option Addr)), (∃ sc3 : (Nat →
 Nat), (∃ i4 : Nat, (((symRows true t (CD.mk x.1 x.2 (fun a5 => (fun q6 => (if a5 < j then (mk (kAt k0 x.2 a5) 1 0 q6) else (x.3 a5 q6)))) x.4) so sc) = (symRows true t0 y1 so2 sc3) ∧
 ((so j) = (so2 i4) ∧
 ((x.2 j) = (y1.2 i4) ∧
 (i4 < y1.1 ∧
 (markC (x.2 j) (kAt k0 x.2 j)))))) ∧
 ((divC (mk (kAt k0 x.2 j) 1 0 (x.2 j)) (3 : Int)) ∧
 (O = O ∧
 (x.1 = x.1 ∧
 ((0 ≤ ((j : Nat) : Int) ∧ ((j : Nat) : Int) < ((x.1 : Nat) : Int)) ∧
 (O = O ∧
 (j < x.1 ∧
 (O = O ∧
 (j < x.1 ∧
 ((rng ((mk (kAt k0 x.2 j) 1 0 (x.2 j)) + (1 : Int))) ∧
 ((rng (((j : Nat) : Int) + (1 : Int))) ∧
 (NX [(sV 0 O x.1 C), (iV ((mk (kAt k0 x.2 j) 1 0 (x.2 j)) + (1 : Int))), (vV (g 2)), (vV (g 3)), (vV (g 4)), (iV (((j : Nat) : Int) + (1 : Int))), (iV ((j : Nat) : Int)), (sV 0 O x.1 C), (iV ((x.1 : Nat) : Int)), tV, (iV ((j : Nat) : Int)), (iV (((j : Nat) : Int) + (1 : Int))), (sV 0 O x.1 C), (iV ((j : Nat) : Int)), (rV 0 O 2 j 0), (rV 0 O 2 j 0), (sV 1 (so j) (x.2 j) (sc j)), (iV (kAt k0 x.2 j)), (iV (mk (kAt k0 x.2 j) 1 0 (x.2 j))), (sV 0 O x.1 C), (iV ((j : Nat) : Int)), (iV (mk (kAt k0 x.2 j) 1 0 (x.2 j))), (iV ((mk (kAt k0 x.2 j) 1 0 (x.2 j)) % (3 : Int))), (bV (((mk (kAt k0 x.2 j) 1 0 (x.2 j)) % (3 : Int)) == (0 : Int))), (rV 0 O 2 j 0), (rV 0 O 2 j 1), (iV (mk (kAt k0 x.2 j) 1 0 (x.2 j))), (iV ((mk (kAt k0 x.2 j) 1 0 (x.2 j)) + (1 : Int))), (vV (g 28))] [(Hr true O tt 2 x.1 cap [(fun i7 => (Cs 1 (so i7) (x.2 i7) (sc i7))), (fun j8 => (Cb (if j8 = j then (((mk (kAt k0 x.2 j) 1 0 (x.2 j)) % (3 : Int)) == (0 : Int)) else (if j8 < j then (mkPo k0 x.2 j8) else (x.4 j8)))))]), (Ho true (symRows true t0 (CD.mk y1.1 y1.2 (fun a9 => (fun q10 => (if a9 = i4 then (mk (kAt k0 x.2 j) 1 0 q10) else (y1.3 a9 q10)))) y1.4) so2 sc3))]))))))))))))))))))))))))) ∧
 ((decide (((j : Nat) : Int) < ((x.1 : Nat) : Int))) = false →
 (kx (Exit.exit 0) [(sV 0 O x.1 C), (iV (kAt k0 x.2 j)), (vV (g 2)), (vV (g 3)), (vV (g 4)), (iV ((j : Nat) : Int)), (iV ((j : Nat) : Int)), (sV 0 O x.1 C), (iV ((x.1 : Nat) : Int)), fV, (vV (g 10)), (vV (g 11)), (vV (g 12)), (vV (g 13)), (vV (g 14)), (vV (g 15)), (vV (g 16)), (vV (g 17)), (vV (g 18)), (vV (g 19)), (vV (g 20)), (vV (g 21)), (vV (g 22)), (vV (g 23)), (vV (g 24)), (vV (g 25)), (vV (g 26)), (vV (g 27)), (vV (g 28))] [(Hr true O tt 2 x.1 cap [(fun i11 => (Cs 1 (so i11) (x.2 i11) (sc i11))), (fun i12 => (Cb (if i12 < j then (mkPo k0 x.2 i12) else (x.4 i12))))]), (Ho true (symRows true t (CD.mk x.1 x.2 (fun a13 => (fun q14 => (if a13 < j then (mk (kAt k0 x.2 a13) 1 0 q14) else (x.3 a13 q14)))) x.4) so sc))])))) := by kernel_rfl
theorem mc_ok (X : Cx) : LoopOK Try.prog X (theLoop Try.f58 0) smc := by
  intro ts ch kk a w hS hT hd hs
  obtain ⟨x, O, C, so, sc, tt, t, cap, k0, ⟨h1, rfl, hcap, hk0⟩, hk⟩ := hS
  have hn0 := totN_n (sn := x.sn) x.n
  have hcap' : totN x.sn x.n ≤ 2097152 := hcap
  have hk1 := hk0.1
  have hk2 := hk0.2
  refine loop_ok mixed (E := {tb := [(59, sMarkN)], D := fun _ => [1]}) ⟨sMarkN_ok, trivial⟩ (loopsOK_nil _ _ _) 400 x.n (fun j ts ch => ∃ g, ts = mcH x O C so sc tt t cap k0 (.int (kAt k0 x.sn j)) (.int ((j : Nat) : Int)) g ∧ ch = mcT x O C so sc tt t cap k0 j) ?_ ?_ hT hd hs
  · rintro j _ _ ⟨g, rfl, rfl⟩ hj
    refine (@Eq.mpr _ _ (mcB x O C so sc tt t cap k0 j g _ _) ?_)
    have hb := kAt_in (k := k0) hj hcap' (by omega)
    by_cases hlt : j < x.n
    · have hsn : x.sn j ≤ 2097152 := by have := totN_sn (sn := x.sn) hlt; omega
      have hmc : markC (x.sn j) (kAt k0 x.sn j) := ⟨hsn, hb.1, hb.2⟩
      have hm : 0 ≤ mk (kAt k0 x.sn j) 1 0 (x.sn j) ∧ mk (kAt k0 x.sn j) 1 0 (x.sn j) ≤ 1099513724928 := by simp only [mk]; omega
      repeat' (first
        | with_reducible exact rfl
        | exact True.intro
        | with_reducible assumption
        | (refine ⟨_, _, _, _, _, ⟨rfl, rfl, rfl, ?_, hmc⟩, ?_⟩)
        | (refine ⟨hlt, ?_⟩; show Next _ _ _ _; refine Next.mk (fun g => mcH x O C so sc tt t cap k0 (.int (kAt k0 x.sn (j + 1))) (.int (((j + 1) : Nat) : Int)) g) (mcT x O C so sc tt t cap k0 (j + 1)) ⟨_, rfl, rfl⟩ (by rw [← kAt_next]; rfl) fun w hw => SelS.hs (l := [0, 1]) (by refine ⟨?_, rfl⟩; repeat' (first | exact True.intro | exact symRows_push | exact rfl | refine And.intro ?_ ?_ | (intro i hi; show _ = _; with_reducible rfl) | (intro i hi; show _ = _; rfl) | exact mk_po | exact mk_rows | (intro i hi; show _ = _; simp only [SC.den]; split <;> rfl))) hw)
        | refine And.intro ?_ ?_
        | apply Exists.intro
        | (intro h; replace h := of_decide_eq_true h; first | (exfalso; omega) | skip)
        | (intro h; replace h := of_decide_eq_false h; first | (exfalso; omega) | skip)
        | intro _
        | omega
        | (simp; omega))
    · have hjn : j = x.n := by omega
      subst hjn
      repeat' (first
        | with_reducible exact rfl
        | exact True.intro
        | with_reducible assumption
        | (refine Next.mk (fun g => mcH x O C so sc tt t cap k0 (.int (kAt k0 x.sn x.n)) (.int (x.n : Int)) g) _ (hk _ _) rfl fun w hw => SelS.hs (l := [0, 1]) (by refine ⟨?_, rfl⟩; repeat' (first | exact True.intro | exact symRows_push | exact rfl | refine And.intro ?_ ?_ | (intro i hi; show _ = _; with_reducible rfl) | (intro i hi; show _ = _; rfl) | exact mk_all | exact mk_poE | (intro i hi; show _ = _; simp only [SC.den]; split <;> rfl))) hw)
        | refine And.intro ?_ ?_
        | apply Exists.intro
        | (intro h; replace h := of_decide_eq_true h; first | (exfalso; omega) | skip)
        | (intro h; replace h := of_decide_eq_false h; first | (exfalso; omega) | skip)
        | intro _
        | omega
        | (simp; omega))
  · refine Next.mk (fun g => mcH x O C so sc tt t cap k0 (.int (kAt k0 x.sn 0)) (.int ((0 : Nat) : Int)) g) _ ⟨_, rfl, rfl⟩ (by rw [h1]; simp [mcH, SV.den, SA.den, SC.den, kAt, totN]) fun w hw => SelS.hs (l := [0, 1]) (by refine ⟨?_, rfl⟩; repeat' (first | exact True.intro | exact symRows_push | exact rfl | refine And.intro ?_ ?_ | (intro i hi; show _ = _; with_reducible rfl) | (intro i hi; show _ = _; rfl) | exact mk_none | (intro i hi; simp [SC.den]; done) | (intro i hi; show _ = _; simp only [SC.den]; split <;> rfl))) hw
theorem markCs_T (x : CD) (O : Option Addr) (C : Nat) (so : Nat → Option Addr) (sc : Nat → Nat) (tt t cap : Nat) (k0 : Int) : (exFn Try.prog { L := [(2, smc)] } 400 Try.f58 ([.a (.c (.sl 0 O x.n C)), .a (.c (.int k0))]) ([.row ⟨true, O, tt, 2, x.n, cap, cellFld 1 x so sc⟩, .obj true (symRows true t x so sc)]) (fun v ch => v.den = .int .i64 (kAt k0 x.sn x.n) ∧ SelS ch [0, 1] (mcE x O C so sc tt t cap k0))) = (
  (∃ x0 : CD, (∃ O1 : (Option Addr), (∃ C2 : Nat, (∃ so3 : (Nat →
 (Option Addr)), (∃ sc4 : (Nat →
 Nat), (∃ tt5 : Nat, (∃ t6 : Nat, (∃ cap7 : Nat, (∃ k08 : Int, (([(Ws O x.1 C), (Wi k0), (Wu []), (Wu []), (Wi 0), (Wi 0), (Wu []), (Wu []), (Wu []), (Wu []), (Wu []), (Wu []), (Wu []), (Wu []), (Wu []), (Wu []), (Wu []), (Wu []), (Wu []), (Wu []), (Wu []), (Wu []), (Wu []), (Wu []), (Wu []), (Wu []), (Wu []), (Wu []), (Wu [])] = [(Ws O1 x0.1 C2), (Wi k08), (Wu []), (Wu []), (Wi 0), (Wi 0), (Wu []), (Wu []), (Wu []), (Wu []), (Wu []), (Wu []), (Wu []), (Wu []), (Wu []), (Wu []), (Wu []), (Wu []), (Wu []), (Wu []), (Wu []), (Wu []), (Wu []), (Wu []), (Wu []), (Wu []), (Wu []), (Wu []), (Wu [])] ∧
 ([(Hr true O tt 2 x.1 cap [(fun i9 => (Cs 1 (so i9) (x.2 i9) (sc i9))), (fun i10 => (Cb (x.4 i10)))]), (Ho true (symRows true t x so sc))] = [(Hr true O1 tt5 2 x0.1 cap7 [(fun i11 => (Cs 1 (so3 i11) (x0.2 i11) (sc4 i11))), (fun i12 => (Cb (x0.4 i12)))]), (Ho true (symRows true t6 x0 so3 sc4))] ∧
 ((capK x0) ∧
 (mrkC k08)))) ∧
 (∀ g13 : (Nat →
 Value),
 (∀ kx14 : Int,
 ((Wi (kAt k08 x0.2 x0.1)) = (Wi (kAt k0 x.2 x.1)) ∧
 (SelS [(Hr true O1 tt5 2 x0.1 cap7 [(fun i15 => (Cs 1 (so3 i15) (((markCD k08 x0)).2 i15) (sc4 i15))), (fun i16 => (Cb (((markCD k08 x0)).4 i16)))]), (Ho true (symRows true t6 (markCD k08 x0) so3 sc4))] [0, 1] [(Hr true O tt 2 x.1 cap [(fun i17 => (Cs 1 (so i17) (((markCD k0 x)).2 i17) (sc i17))), (fun i18 => (Cb (((markCD k0 x)).4 i18)))]), (Ho true (symRows true t (markCD k0 x) so sc))]))))))))))))))) := by kernel_rfl
theorem markCs_any (x : CD) (O : Option Addr) (C : Nat) (so : Nat → Option Addr) (sc : Nat → Nat) (tt t cap : Nat) (k0 : Int) (w : World) (M : Nat → Prop) (hs : HS ⟨w, M⟩ [.row ⟨true, O, tt, 2, x.n, cap, cellFld 1 x so sc⟩, .obj true (symRows true t x so sc)] w) (hcap : capK x) (hk0 : mrkC k0) : Calls Try.prog 58 #[.slice O x.n C, .int .i64 k0] w fun e w' => e = .returned (.int .i64 (kAt k0 x.sn x.n)) ∧ HS ⟨w, M⟩ (mcE x O C so sc tt t cap k0) w' := by
  refine fn_ok mixed (E := { L := [(2, smc)] }) trivial Try.func58 (one_loop (by kernel_rfl) (by kernel_rfl) (mc_ok _)) (@Eq.mpr _ _ (markCs_T x O C so sc tt t cap k0) ?_) hs (fun v ch' w' ⟨hv, hc⟩ hs => ⟨by rw [hv], hc.hs hs⟩)
  clear hs
  repeat' (first
    | with_reducible exact rfl
    | exact True.intro
    | with_reducible assumption
    | exact hcap
    | exact hk0
    | exact (by refine ⟨?_, rfl⟩; repeat' (first | exact True.intro | exact symRows_push | exact rfl | refine And.intro ?_ ?_ | (intro i hi; show _ = _; with_reducible rfl) | (intro i hi; show _ = _; rfl) | (intro i hi; show _ = _; simp only [SC.den]; split <;> rfl)))
    | refine And.intro ?_ ?_
    | apply Exists.intro
    | intro _
    | omega)
def sMarkCs : Sm := fun args ch kk =>
  match args with
  | [.a (.c (.sl i0 a0 n0 _)), .a (.c kc)] =>
    match ch[i0]?, asI kc with
    | some (.row r0), some k0 =>
      match ch[nidOf r0.fld]? with
      | some (.obj true rs) => ∃ (t : Nat) (y : CD) (so : Nat → Option Addr) (sc : Nat → Nat), (rs = symRows true t y so sc ∧ r0.fld = cellFld (nidOf r0.fld) y so sc ∧ a0 = r0.ao ∧ n0 = r0.n ∧ n0 = y.n ∧ r0.own = true ∧ capK y ∧ mrkC k0) ∧
          kk (.a (.c (.int (kAt k0 y.sn y.n)))) ((ch.set i0 (.row { r0 with fld := cellFld (nidOf r0.fld) (markCD k0 y) so sc })).set (nidOf r0.fld) (.obj true (symRows true t (markCD k0 y) so sc))) [i0, nidOf r0.fld]
      | _ => False
    | _, _ => False
  | _ => False
theorem row_obj_ne {ch : List Ch} {i j : Nat} {r : Row} {o : Bool} {rs : List Row} (h1 : ch[i]? = some (.row r)) (h2 : ch[j]? = some (.obj o rs)) : i ≠ j := fun e => by
  rw [e, h2] at h1
  cases h1
theorem sym_at {o : Bool} {t : Nat} {x y : CD} {so : Nat → Option Addr} {sc : Nat → Nat} (hn : y.n = x.n) (hs : ∀ i, i < x.n → y.sn i = x.sn i) : ∀ b, (Ch.obj o (symRows o t y so sc)).at b → (Ch.obj o (symRows o t x so sc)).at b := fun b ⟨r, hr, ha⟩ => by
  obtain ⟨i, hi, rfl⟩ := List.mem_map.1 hr
  have hi : i < x.n := by have := List.mem_range.1 hi; omega
  refine ⟨_, symRows_mem hi, ?_⟩
  obtain ⟨h1, off, h2⟩ := ha
  refine ⟨?_, off, h2⟩
  rcases h1 with h1 | h1
  · exact .inl h1
  · right
    simp only [symRow] at h1 ⊢
    rw [← hs i hi]
    exact h1
theorem sMarkCs_ok : SmOK Try.prog 58 sMarkCs := by
  refine ⟨Try.call58, fun X args ch kk w h0 hs => ?_⟩
  unfold sMarkCs at h0
  split at h0
  · rename_i i0 a0 n0 c0 kc
    split at h0
    · rename_i r0 k0 hi0 hkc
      split at h0
      · rename_i rs hid
        obtain ⟨t, y, so, sc, ⟨rfl, f0, rfl, rfl, hn, ho, hc, hk⟩, h1⟩ := h0
        have hne := row_obj_ne hi0 hid
        have hr : r0.sat w := hs.sat i0 _ hi0
        have h2 : r0.s = 2 := by have := hr.1; rw [f0] at this; exact this.symm
        have hsel := hs.owns [i0, nidOf r0.fld] (by simp [hne]) (fun b => (Ch.row r0).at b ∨ (Ch.obj true (symRows true t y so sc)).at b) (fun i c b hi _ hb => by
          have e : selC ch [i0, nidOf r0.fld] = [.row r0, .obj true (symRows true t y so sc)] := by simp [selC, hi0, hid]
          rw [e] at hi
          match i with
          | 0 => simp at hi; subst hi; exact .inl hb
          | 1 => simp at hi; subst hi; exact .inr hb
          | i + 2 => simp at hi)
        have e : selC ch [i0, nidOf r0.fld] = [.row r0, .obj true (symRows true t y so sc)] := by simp [selC, hi0, hid]
        rw [e] at hsel
        obtain ⟨ow, O, tt, s', n, cap, fs⟩ := r0
        simp only at f0 hn ho h2 hr h1 hid hi0 hne hsel ⊢
        subst ho
        subst h2
        subst hn
        simp only [List.map_cons, List.map_nil, den_a, den_c, asI_den hkc]
        have hst : HS ⟨w, fun b => (Ch.row ⟨true, O, tt, 2, y.n, cap, fs⟩).at b ∨ (Ch.obj true (symRows true t y so sc)).at b⟩ [.row ⟨true, O, tt, 2, y.n, cap, cellFld 1 y so sc⟩, .obj true (symRows true t y so sc)] w := by
          refine hsel.reS ⟨⟨rfl, rfl, rfl, rfl, rfl, rfl, ?_⟩, ⟨rfl, rfl⟩, trivial⟩
          rw [f0]
          exact ⟨fun i hi => rfl, fun i hi => rfl, trivial⟩
        refine Calls.mono (markCs_any y O c0 so sc tt t cap k0 w _ hst hc hk) fun e w' ⟨he, hs'⟩ => ⟨.a (.c (.int (kAt k0 y.sn y.n))), _, [i0, nidOf fs], he, ?_, ?_, h1⟩
        · refine hs.swap2 hi0 hid hne rfl rfl hs' ?_ (hs'.sat 1 _ rfl) (fun b hb => ⟨.inl rfl, hb.2⟩) (sym_at rfl fun _ _ => rfl)
          exact Row.reF (hs'.sat 0 _ rfl) ⟨fun i hi => rfl, fun i hi => rfl, trivial⟩
        · intro i c hi hm
          have h3 : i ≠ i0 := fun q => hm (by simp [q])
          have h4 : i ≠ nidOf fs := fun q => hm (by simp [q])
          rw [List.getElem?_set_ne (fun q => h4 q.symm), List.getElem?_set_ne (fun q => h3 q.symm)]
          exact hi
      · exact h0.elim
    · exact h0.elim
  · exact h0.elim
end Go.Proofs.Ytddeinpnadfgmaa
