/-
  Arrays made.
-/
import Derived.Test.YtddeinpnadfgmaaSxH1
namespace Go.Proofs.Ytddeinpnadfgmaa
set_option linter.unusedVariables false
set_option linter.unusedSimpArgs false
open Go.RowKit
set_option maxRecDepth 100000
set_option maxHeartbeats 8000000

def tcH (x : CD) (O : Option Addr) (C : Nat) (so : Nat → Option Addr) (sc : Nat → Nat) (bm : Nat) (i : SC) (g : Nat → Value) : List SV := [.a (.c (.sl 0 O x.n C)), .a (.c (.val (g 1))), .a (.c (.val (g 2))), .a (.c (.sl 2 (some ⟨bm, 0, none⟩) x.n x.n)), .a (.c i), .a (.c (.val (g 5))), .a (.c (.val (g 6))), .a (.c (.val (g 7))), .a (.c (.val (g 8))), .a (.c (.val (g 9))), .a (.c (.val (g 10))), .a (.c (.val (g 11))), .a (.c (.val (g 12))), .a (.c (.val (g 13))), .a (.c (.val (g 14))), .a (.c (.val (g 15))), .a (.c (.val (g 16))), .a (.c (.val (g 17))), .a (.c (.val (g 18))), .a (.c (.val (g 19))), .a (.c (.val (g 20))), .a (.c (.val (g 21))), .a (.c (.val (g 22)))]
def tcT (x : CD) (O : Option Addr) (C : Nat) (so : Nat → Option Addr) (sc : Nat → Nat) (bm : Nat) (j : Nat) (soq : Nat → Option Addr) (scq : Nat → Nat) : List Ch := [.row ⟨false, O, 0, 2, x.n, 0, cellFld 1 x so sc⟩, .obj false (symRows false 0 x so (fun _ => 0)), .row ⟨true, some ⟨bm, 0, none⟩, 52, 2, x.n, x.n, [fun i => .val (lowV i j (.slice (soq i) (x.sn i) (scq i)) (.slice none 0 0)), fun i => .bool (lowB i j (x.po i) false)]⟩, .obj true (symRows true 3 ⟨j, x.sn, x.sy, x.po⟩ soq scq)]
def tcE (x : CD) (O : Option Addr) (C : Nat) (so : Nat → Option Addr) (sc : Nat → Nat) (bm : Nat) (soq : Nat → Option Addr) (scq : Nat → Nat) : List Ch := [.row ⟨false, O, 0, 2, x.n, 0, cellFld 1 x so sc⟩, .obj false (symRows false 0 x so (fun _ => 0)), .row ⟨true, some ⟨bm, 0, none⟩, 52, 2, x.n, x.n, cellFld 3 x soq scq⟩, .obj true (symRows true 3 x soq scq)]
theorem st_hd {j : Nat} {sn scq : Nat → Nat} {soq : Nat → Option Addr} {ro : Option Addr} {rc n : Nat} : ∀ i, ltN i n → (SC.val (if i = j then Value.slice ro (sn j) rc else if i < j then Value.slice (soq i) (sn i) (scq i) else Value.slice none 0 0)).den = (SC.val (if i < j + 1 then Value.slice (if i < j then soq i else ro) (sn i) (if i < j then scq i else rc) else Value.slice none 0 0)).den := fun i hi => by
  by_cases h1 : i < j
  · have h2 : ¬ i = j := by omega
    have h3 : i < j + 1 := by omega
    simp [SC.den, h1, h2, h3]
  · by_cases h2 : i = j
    · subst h2
      simp [SC.den]
    · have h3 : ¬ i < j + 1 := by omega
      simp [SC.den, h1, h2, h3]
theorem st_po {j : Nat} {po : Nat → Bool} {n : Nat} : ∀ i, ltN i n → (SC.bool (if i = j then po j else if i < j then po i else false)).den = (SC.bool (if i < j + 1 then po i else false)).den := fun i hi => by
  by_cases h1 : i < j
  · have h2 : ¬ i = j := by omega
    have h3 : i < j + 1 := by omega
    simp [SC.den, h1, h2, h3]
  · by_cases h2 : i = j
    · subst h2
      simp [SC.den]
    · have h3 : ¬ i < j + 1 := by omega
      simp [SC.den, h1, h2, h3]
theorem low_hd {sn scq : Nat → Nat} {soq : Nat → Option Addr} {n id : Nat} : ∀ i, ltN i n → (SC.val (if i < n then Value.slice (soq i) (sn i) (scq i) else Value.slice none 0 0)).den = (SC.sl id (soq i) (sn i) (scq i)).den := fun i hi => by
  have h1 : i < n := hi
  simp [SC.den, h1]
theorem low_po {po : Nat → Bool} {n : Nat} : ∀ i, ltN i n → (SC.bool (if i < n then po i else false)).den = (SC.bool (po i)).den := fun i hi => by
  have h1 : i < n := hi
  simp [SC.den, h1]
def stc : LSm := fun ts ch kk => ∃ (x : CD) (O : Option Addr) (C : Nat) (so : Nat → Option Addr) (sc : Nat → Nat) (bm : Nat), (ts.map SV.den = (tcH x O C so sc bm (.il 0) (fun d => (ts.getD d .undef).den)).map SV.den ∧ SelS ch [0, 1, 2, 1000000] (tcT x O C so sc bm 0 (fun _ => none) (fun _ => 0)) ∧ capK x) ∧
    ∀ (g : Nat → Value) (kx : Int) (soq : Nat → Option Addr) (scq : Nat → Nat), kk (.exit 0) (tcH x O C so sc bm (.int kx) g) (tcE x O C so sc bm soq scq)
theorem tcB (x : CD) (O : Option Addr) (C : Nat) (so : Nat → Option Addr) (sc : Nat → Nat) (bm : Nat) (soq : Nat → Option Addr) (scq : Nat → Nat) (j : Nat) (g : Nat → Value) (NX : List SV → List Ch → Prop) (kx : Exit → List SV → List Ch → Prop) : (exCode Try.prog {tb := [(66, sToC)], D := fun _ => [2]} 400 (theLoop Try.f50 0) (tcH x O C so sc bm (.int (j : Int)) g) (tcT x O C so sc bm j soq scq) (loopK NX kx)) = (
  (((decide (((j : Nat) : Int) < (((x).1 : Nat) : Int))) = Bool.true →
 (O = O ∧
 ((x).1 = (x).1 ∧
 ((0 ≤ ((j : Nat) : Int) ∧ ((j : Nat) : Int) < (((x).1 : Nat) : Int)) ∧
 (O = O ∧
 (j < (x).1 ∧
 (Exists (fun (t0 : Nat) => (Exists (fun (y1 : CD) => (Exists (fun (so2 : (Nat →
 (Option Addr))) => (Exists (fun (sc3 : (Nat →
 Nat)) => (Exists (fun (i4 : Nat) => (((symRows Bool.false 0 x so (fun (x5 : Nat) => 0)) = (symRows Bool.false t0 y1 so2 sc3) ∧
 ((so j) = (so2 i4) ∧
 (((x).2 j) = ((y1).2 i4) ∧
 i4 < (y1).1))) ∧
 ((capC ((x).2 j)) ∧
 (∀ ro6 : (Option Addr),
 (∀ rc7 : Nat,
 ((Option.some (Addr.mk bm 0 (none : Option (Nat)))) = (Option.some (Addr.mk bm 0 (none : Option (Nat)))) ∧
 ((x).1 = (x).1 ∧
 ((0 ≤ ((j : Nat) : Int) ∧ ((j : Nat) : Int) < (((x).1 : Nat) : Int)) ∧
 ((Option.some (Addr.mk bm 0 (none : Option (Nat)))) = (Option.some (Addr.mk bm 0 (none : Option (Nat)))) ∧
 (j < (x).1 ∧
 ((rng (((j : Nat) : Int) + (1 : Int))) ∧
 (NX [(SV.a (SA.c (SC.sl 0 O (x).1 C))), (SV.a (SA.c (SC.val (g 1)))), (SV.a (SA.c (SC.val (g 2)))), (SV.a (SA.c (SC.sl 2 (Option.some (Addr.mk bm 0 (none : Option (Nat)))) (x).1 (x).1))), (SV.a (SA.c (SC.int (((j : Nat) : Int) + (1 : Int))))), (SV.a (SA.c (SC.val (g 5)))), (SV.a (SA.c (SC.val (g 6)))), (SV.a (SA.c (SC.val (g 7)))), (SV.a (SA.c (SC.int ((j : Nat) : Int)))), (SV.a (SA.c (SC.sl 0 O (x).1 C))), (SV.a (SA.c (SC.int (((x).1 : Nat) : Int)))), (SV.a (SA.c (SC.lit Bool.true))), (SV.a (SA.c (SC.int ((j : Nat) : Int)))), (SV.a (SA.c (SC.int (((j : Nat) : Int) + (1 : Int))))), (SV.a (SA.c (SC.sl 2 (Option.some (Addr.mk bm 0 (none : Option (Nat)))) (x).1 (x).1))), (SV.a (SA.c (SC.int ((j : Nat) : Int)))), (SV.a (SA.c (SC.sl 0 O (x).1 C))), (SV.a (SA.c (SC.int ((j : Nat) : Int)))), (SV.a (SA.c (SC.rptr 0 O 2 j 0))), (SV.a (SA.agg [(SC.sl 1 (so j) ((x).2 j) (sc j)), (SC.bool ((x).4 j))])), (SV.a (SA.agg [(SC.sl 4 ro6 ((x).2 j) rc7), (SC.bool ((x).4 j))])), (SV.a (SA.c (SC.rptr 2 (Option.some (Addr.mk bm 0 (none : Option (Nat)))) 2 j 0))), (SV.a (SA.c (SC.val (g 22))))] [(Ch.row (Row.mk Bool.false O 0 2 (x).1 0 [(fun (i8 : Nat) => (SC.sl 1 (so i8) ((x).2 i8) (sc i8))), (fun (i9 : Nat) => (SC.bool ((x).4 i9)))])), (Ch.obj Bool.false (symRows Bool.false 0 x so (fun (x10 : Nat) => 0))), (Ch.row (Row.mk Bool.true (Option.some (Addr.mk bm 0 (none : Option (Nat)))) 52 2 (x).1 (x).1 [(fun (j11 : Nat) => (SC.val (if j11 = j then (Value.slice ro6 ((x).2 j) rc7) else (if j11 < j then (Value.slice (soq j11) ((x).2 j11) (scq j11)) else (Value.slice (none : Option (Addr)) 0 0))))), (fun (j12 : Nat) => (SC.bool (if j12 = j then ((x).4 j) else (if j12 < j then ((x).4 j12) else Bool.false))))])), (Ch.obj Bool.true (symRows Bool.true 3 (CD.mk j (x).2 (x).3 (x).4) soq scq)), (Ch.row (Row.mk Bool.true ro6 3 1 ((x).2 j) rc7 [(fun (i13 : Nat) => (SC.int ((y1).3 i4 i13)))]))]))))))))))))))))))))))))))) ∧
 ((decide (((j : Nat) : Int) < (((x).1 : Nat) : Int))) = Bool.false →
 (kx (Exit.exit 0) [(SV.a (SA.c (SC.sl 0 O (x).1 C))), (SV.a (SA.c (SC.val (g 1)))), (SV.a (SA.c (SC.val (g 2)))), (SV.a (SA.c (SC.sl 2 (Option.some (Addr.mk bm 0 (none : Option (Nat)))) (x).1 (x).1))), (SV.a (SA.c (SC.int ((j : Nat) : Int)))), (SV.a (SA.c (SC.val (g 5)))), (SV.a (SA.c (SC.val (g 6)))), (SV.a (SA.c (SC.val (g 7)))), (SV.a (SA.c (SC.int ((j : Nat) : Int)))), (SV.a (SA.c (SC.sl 0 O (x).1 C))), (SV.a (SA.c (SC.int (((x).1 : Nat) : Int)))), (SV.a (SA.c (SC.lit Bool.false))), (SV.a (SA.c (SC.val (g 12)))), (SV.a (SA.c (SC.val (g 13)))), (SV.a (SA.c (SC.val (g 14)))), (SV.a (SA.c (SC.val (g 15)))), (SV.a (SA.c (SC.val (g 16)))), (SV.a (SA.c (SC.val (g 17)))), (SV.a (SA.c (SC.val (g 18)))), (SV.a (SA.c (SC.val (g 19)))), (SV.a (SA.c (SC.val (g 20)))), (SV.a (SA.c (SC.val (g 21)))), (SV.a (SA.c (SC.val (g 22))))] [(Ch.row (Row.mk Bool.false O 0 2 (x).1 0 [(fun (i14 : Nat) => (SC.sl 1 (so i14) ((x).2 i14) (sc i14))), (fun (i15 : Nat) => (SC.bool ((x).4 i15)))])), (Ch.obj Bool.false (symRows Bool.false 0 x so (fun (x16 : Nat) => 0))), (Ch.row (Row.mk Bool.true (Option.some (Addr.mk bm 0 (none : Option (Nat)))) 52 2 (x).1 (x).1 [(fun (i17 : Nat) => (SC.val (if i17 < j then (Value.slice (soq i17) ((x).2 i17) (scq i17)) else (Value.slice (none : Option (Addr)) 0 0)))), (fun (i18 : Nat) => (SC.bool (if i18 < j then ((x).4 i18) else Bool.false)))])), (Ch.obj Bool.true (symRows Bool.true 3 (CD.mk j (x).2 (x).3 (x).4) soq scq))])))) := by kernel_rfl
theorem tc_ok (X : Cx) : LoopOK Try.prog X (theLoop Try.f50 0) stc := by
  intro ts ch kk a w hS hT hd hs
  obtain ⟨x, O, C, so, sc, bm, ⟨h1, hch, hcap⟩, hk⟩ := hS
  have hn0 := totN_n (sn := x.sn) x.n
  have hcap' : totN x.sn x.n ≤ 2097152 := hcap
  refine loop_ok mixed (E := {tb := [(66, sToC)], D := fun _ => [2]}) ⟨sToC_ok, trivial⟩ (loopsOK_nil _ _ _) 400 x.n (fun j ts ch => ∃ g soq scq, ts = tcH x O C so sc bm (.int (j : Int)) g ∧ ch = tcT x O C so sc bm j soq scq) ?_ ?_ hT hd hs
  · rintro j _ _ ⟨g, soq, scq, rfl, rfl⟩ hj
    refine (@Eq.mpr _ _ (tcB x O C so sc bm soq scq j g _ _) ?_)
    by_cases hlt : j < x.n
    · have hsn : capC (x.sn j) := by have := totN_sn (sn := x.sn) hlt; show _ ≤ _; omega
      repeat' (first
        | with_reducible exact rfl
        | exact True.intro
        | with_reducible assumption
        | (refine ⟨hlt, ?_⟩; show Next _ _ _ _; rename_i ro rc; refine Next.mk (fun g => tcH x O C so sc bm (.int ((j + 1 : Nat) : Int)) g) (tcT x O C so sc bm (j + 1) (fun i => if i < j then soq i else ro) (fun i => if i < j then scq i else rc)) ⟨_, _, _, rfl, rfl⟩ rfl fun w hw => SelS.hs (l := [0, 1, 2, 3]) (by refine ⟨?_, rfl⟩; repeat' (first | exact True.intro | exact symRows_push | exact rfl | refine And.intro ?_ ?_ | (intro i hi; show _ = _; with_reducible rfl) | (intro i hi; show _ = _; rfl) | exact st_hd | exact st_po | (intro i hi; show _ = _; simp only [SC.den]; split <;> rfl))) (hw.nestApp 3 4 rfl rfl rfl (by decide)))
        | refine And.intro ?_ ?_
        | apply Exists.intro
        | (intro h; replace h := of_decide_eq_true h; first | (exfalso; omega) | skip)
        | (intro h; replace h := of_decide_eq_false h; first | (exfalso; omega) | skip)
        | intro _
        | omega
        | (simp; omega))
    · have hjn : j = x.n := by omega
      subst hjn
      repeat' (first
        | with_reducible exact rfl
        | exact True.intro
        | with_reducible assumption
        | (refine Next.mk (fun g => tcH x O C so sc bm (.int (x.n : Int)) g) _ (hk _ _ soq scq) rfl fun w hw => SelS.hs (l := [0, 1, 2, 3]) (by refine ⟨?_, rfl⟩; repeat' (first | exact True.intro | exact symRows_push | exact rfl | refine And.intro ?_ ?_ | (intro i hi; show _ = _; with_reducible rfl) | (intro i hi; show _ = _; rfl) | exact low_hd | exact low_po | (intro i hi; show _ = _; simp only [SC.den]; split <;> rfl))) hw)
        | refine And.intro ?_ ?_
        | (intro h; replace h := of_decide_eq_true h; first | (exfalso; omega) | skip)
        | (intro h; replace h := of_decide_eq_false h; first | (exfalso; omega) | skip)
        | intro _
        | omega)
  · exact Next.mk (fun g => tcH x O C so sc bm (.int ((0 : Nat) : Int)) g) _ ⟨_, _, _, rfl, rfl⟩ h1 fun w hw => hch.hs hw
theorem toCs_T (x : CD) (O : Option Addr) (C : Nat) (so : Nat → Option Addr) (sc : Nat → Nat) : (exFn Try.prog { L := [(3, stc)] } 400 Try.f50 ([.a (.c (.sl 0 O x.n C))]) ([.row ⟨false, O, 0, 2, x.n, 0, cellFld 1 x so sc⟩, .obj false (symRows false 0 x so (fun _ => 0))]) (fun v ch => ∃ (bm : Nat) (soq : Nat → Option Addr) (scq : Nat → Nat), v.den = .slice (some ⟨bm, 0, none⟩) x.n x.n ∧ SelS ch [2, 3] [.row ⟨true, some ⟨bm, 0, none⟩, 52, 2, x.n, x.n, cellFld 1 x soq scq⟩, .obj true (symRows true 3 x soq scq)])) = (
  ((((x).1 : Nat) : Int) = (((x).1 : Nat) : Int) ∧
 ((mkC 32 (((x).1 : Nat) : Int)) ∧
 (∀ b0 : Nat,
 (Exists (fun (x1 : CD) => (Exists (fun (O2 : (Option Addr)) => (Exists (fun (C3 : Nat) => (Exists (fun (so4 : (Nat →
 (Option Addr))) => (Exists (fun (sc5 : (Nat →
 Nat)) => (Exists (fun (bm6 : Nat) => (([(Value.slice O (x).1 C), (Value.tuple (List.toArray [])), (Value.slice (none : Option (Addr)) 0 0), (Value.slice (Option.some (Addr.mk b0 0 (none : Option (Nat)))) (x).1 (x).1), (Value.int IntKind.i64 (0 : Int)), (Value.slice O (x).1 C), (Value.int IntKind.i64 (((x).1 : Nat) : Int)), (Value.slice (Option.some (Addr.mk b0 0 (none : Option (Nat)))) (x).1 (x).1), (Value.tuple (List.toArray [])), (Value.tuple (List.toArray [])), (Value.tuple (List.toArray [])), (Value.tuple (List.toArray [])), (Value.tuple (List.toArray [])), (Value.tuple (List.toArray [])), (Value.tuple (List.toArray [])), (Value.tuple (List.toArray [])), (Value.tuple (List.toArray [])), (Value.tuple (List.toArray [])), (Value.tuple (List.toArray [])), (Value.tuple (List.toArray [])), (Value.tuple (List.toArray [])), (Value.tuple (List.toArray [])), (Value.tuple (List.toArray []))] = [(Value.slice O2 (x1).1 C3), (Value.tuple (List.toArray [])), (Value.slice (none : Option (Addr)) 0 0), (Value.slice (Option.some (Addr.mk bm6 0 (none : Option (Nat)))) (x1).1 (x1).1), (Value.int IntKind.i64 (0 : Int)), (Value.slice O (x).1 C), (Value.int IntKind.i64 (((x).1 : Nat) : Int)), (Value.slice (Option.some (Addr.mk b0 0 (none : Option (Nat)))) (x).1 (x).1), (Value.tuple (List.toArray [])), (Value.tuple (List.toArray [])), (Value.tuple (List.toArray [])), (Value.tuple (List.toArray [])), (Value.tuple (List.toArray [])), (Value.tuple (List.toArray [])), (Value.tuple (List.toArray [])), (Value.tuple (List.toArray [])), (Value.tuple (List.toArray [])), (Value.tuple (List.toArray [])), (Value.tuple (List.toArray [])), (Value.tuple (List.toArray [])), (Value.tuple (List.toArray [])), (Value.tuple (List.toArray [])), (Value.tuple (List.toArray []))] ∧
 ((SelS [(Ch.row (Row.mk Bool.false O 0 2 (x).1 0 [(fun (i7 : Nat) => (SC.sl 1 (so i7) ((x).2 i7) (sc i7))), (fun (i8 : Nat) => (SC.bool ((x).4 i8)))])), (Ch.obj Bool.false (symRows Bool.false 0 x so (fun (x9 : Nat) => 0))), (Ch.row (Row.mk Bool.true (Option.some (Addr.mk b0 0 (none : Option (Nat)))) 52 2 (x).1 (x).1 [(fun (x10 : Nat) => SC.nil), (fun (x11 : Nat) => (SC.lit Bool.false))]))] [0, 1, 2, 1000000] [(Ch.row (Row.mk Bool.false O2 0 2 (x1).1 0 [(fun (i12 : Nat) => (SC.sl 1 (so4 i12) ((x1).2 i12) (sc5 i12))), (fun (i13 : Nat) => (SC.bool ((x1).4 i13)))])), (Ch.obj Bool.false (symRows Bool.false 0 x1 so4 (fun (x14 : Nat) => 0))), (Ch.row (Row.mk Bool.true (Option.some (Addr.mk bm6 0 (none : Option (Nat)))) 52 2 (x1).1 (x1).1 [(fun (i15 : Nat) => (SC.val (if i15 < 0 then (Value.slice (none : Option (Addr)) ((x1).2 i15) 0) else (Value.slice (none : Option (Addr)) 0 0)))), (fun (i16 : Nat) => (SC.bool (if i16 < 0 then ((x1).4 i16) else Bool.false)))])), (Ch.obj Bool.true (symRows Bool.true 3 (CD.mk 0 (x1).2 (x1).3 (x1).4) (fun (x17 : Nat) => (none : Option (Addr))) (fun (x18 : Nat) => 0)))]) ∧
 (capK x1))) ∧
 (∀ g19 : (Nat →
 Value),
 (∀ kx20 : Int,
 (∀ soq21 : (Nat →
 (Option Addr)),
 (∀ scq22 : (Nat →
 Nat),
 (Exists (fun (bm23 : Nat) => (Exists (fun (soq24 : (Nat →
 (Option Addr))) => (Exists (fun (scq25 : (Nat →
 Nat)) => ((Value.slice (Option.some (Addr.mk bm6 0 (none : Option (Nat)))) (x1).1 (x1).1) = (Value.slice (Option.some (Addr.mk bm23 0 (none : Option (Nat)))) (x).1 (x).1) ∧
 (SelS [(Ch.row (Row.mk Bool.false O2 0 2 (x1).1 0 [(fun (i26 : Nat) => (SC.sl 1 (so4 i26) ((x1).2 i26) (sc5 i26))), (fun (i27 : Nat) => (SC.bool ((x1).4 i27)))])), (Ch.obj Bool.false (symRows Bool.false 0 x1 so4 (fun (x28 : Nat) => 0))), (Ch.row (Row.mk Bool.true (Option.some (Addr.mk bm6 0 (none : Option (Nat)))) 52 2 (x1).1 (x1).1 [(fun (i29 : Nat) => (SC.sl 3 (soq21 i29) ((x1).2 i29) (scq22 i29))), (fun (i30 : Nat) => (SC.bool ((x1).4 i30)))])), (Ch.obj Bool.true (symRows Bool.true 3 x1 soq21 scq22))] [2, 3] [(Ch.row (Row.mk Bool.true (Option.some (Addr.mk bm23 0 (none : Option (Nat)))) 52 2 (x).1 (x).1 [(fun (i31 : Nat) => (SC.sl 1 (soq24 i31) ((x).2 i31) (scq25 i31))), (fun (i32 : Nat) => (SC.bool ((x).4 i32)))])), (Ch.obj Bool.true (symRows Bool.true 3 x soq24 scq25))]))))))))))))))))))))))))))))) := by kernel_rfl
theorem toCs_any (x : CD) (O : Option Addr) (C : Nat) (so : Nat → Option Addr) (sc : Nat → Nat) (w : World) (hA : SeenC w x O so sc) (hcap : capK x) : Calls Try.prog 50 #[.slice O x.n C] w fun e w' => ∃ (bm : Nat) (soq : Nat → Option Addr) (scq : Nat → Nat), e = .returned (.slice (some ⟨bm, 0, none⟩) x.n x.n) ∧ HS ⟨w, fun _ => False⟩ [.row ⟨true, some ⟨bm, 0, none⟩, 52, 2, x.n, x.n, cellFld 1 x soq scq⟩, .obj true (symRows true 3 x soq scq)] w' := by
  refine fn_ok mixed (E := { L := [(3, stc)] }) trivial Try.func50 (one_loop (by kernel_rfl) (by kernel_rfl) (tc_ok _)) (@Eq.mpr _ _ (toCs_T x O C so sc) ?_) (HS.seenAll (fun _ => False) _ (hA.all 1 seenC_nil)) (fun v ch' w' ⟨bm, soq, scq, hv, hc⟩ hs => ⟨bm, soq, scq, by rw [hv], hc.hs hs⟩)
  clear hA
  have hn0 := totN_n (sn := x.sn) x.n
  have hcap' : totN x.sn x.n ≤ 2097152 := hcap
  repeat' (first
    | with_reducible exact rfl
    | exact True.intro
    | with_reducible assumption
    | exact hcap
    | exact (by refine ⟨?_, rfl⟩; repeat' (first | exact True.intro | exact symRows_push | exact rfl | refine And.intro ?_ ?_ | (intro i hi; show _ = _; with_reducible rfl) | (intro i hi; show _ = _; rfl) | exact symRows_nil | (intro i hi; simp [SC.den]; done) | (intro i hi; show _ = _; simp only [SC.den]; split <;> rfl)))
    | refine And.intro ?_ ?_
    | apply Exists.intro
    | (intro h; replace h := of_decide_eq_true h; first | (exfalso; omega) | skip)
    | (intro h; replace h := of_decide_eq_false h; first | (exfalso; omega) | skip)
    | (intro i hi; with_reducible exact rfl)
    | intro _
    | omega
    | exact rfl)
def sToCs : Sm := fun args ch kk =>
  match args with
  | [.a (.c c)] => rdK ch c fun x => capK x ∧ ∀ (bm : Nat) (soq : Nat → Option Addr) (scq : Nat → Nat), kk (.a (.c (.sl ch.length (some ⟨bm, 0, none⟩) x.n x.n))) (ch ++ [.row ⟨true, some ⟨bm, 0, none⟩, 52, 2, x.n, x.n, cellFld (ch.length + 1) x soq scq⟩, .obj true (symRows true 3 x soq scq)]) []
  | _ => False
theorem cells_at {b id : Nat} {x : CD} {O : Option Addr} {C t t2 : Nat} {so : Nat → Option Addr} {sc : Nat → Nat} {X : Cx} {w : World} (h : HS X [.row ⟨true, O, t, 2, x.n, C, cellFld id x so sc⟩, .obj true (symRows true t2 x so sc)] w) : HS X [.row ⟨true, O, t, 2, x.n, C, cellFld b x so sc⟩, .obj true (symRows true t2 x so sc)] w :=
  h.reS ⟨⟨rfl, rfl, rfl, rfl, rfl, rfl, fun i hi => rfl, fun i hi => rfl, trivial⟩, ⟨rfl, rfl⟩, trivial⟩
theorem sToCs_ok : SmOK Try.prog 50 sToCs := by
  refine smN Try.call50 fun args ch kk w X h0 hs => ?_
  unfold sToCs at h0
  split at h0
  · obtain ⟨x, O, C, so, sc, e, hA, hc, h0⟩ := rdK_ok h0 hs
    simp only [List.map_cons, List.map_nil, den_a, den_c, e]
    exact Calls.mono (toCs_any x O C so sc w hA hc) fun e w' ⟨bm, soq, scq, he, hs'⟩ => ⟨.a (.c (.sl ch.length (some ⟨bm, 0, none⟩) x.n x.n)), _, he, cells_at hs', rfl, h0 bm soq scq⟩
  · exact h0.elim
abbrev capAx (x : AD) : Prop := capK x.c ∧ x.aN ≤ 2097152 ∧ x.hN ≤ 2097152
theorem toA_T (x : AD) (O A H : Option Addr) (C D E : Nat) (so : Nat → Option Addr) (sc : Nat → Nat) : (exFn Try.prog {tb := [(50, sToCs), (51, sToIntS)]} 400 Try.f13 ([.a (arrS 0 x O A H C D E)]) (arrR 0 x O A H so sc) (fun v ch => ∃ (Oq Aq Hq : Option Addr) (Cq Dq Ee : Nat) (soq : Nat → Option Addr) (scq : Nat → Nat), v.den = arrV x Oq Aq Hq Cq Dq Ee ∧ SelS ch (idsArr v ch) (arrO 0 x Oq Aq Hq Cq Dq Ee soq scq))) = (
  (∀ b0 : Nat,
 (∀ b1 : Nat,
 (∀ b2 : Nat,
 (b0 = b0 ∧
 (Exists (fun (t3 : Nat) => (Exists (fun (y4 : CD) => (Exists (fun (so5 : (Nat →
 (Option Addr))) => (Exists (fun (sc6 : (Nat →
 Nat)) => (Exists (fun (sd7 : (Nat →
 Nat)) => (((symRows Bool.false 0 (x).1 so (fun (x8 : Nat) => 0)) = (symRows Bool.false t3 y4 so5 sd7) ∧
 ([(fun (i9 : Nat) => (SC.sl 3 (so i9) (((x).1).2 i9) (sc i9))), (fun (i10 : Nat) => (SC.bool (((x).1).4 i10)))] = [(fun (i11 : Nat) => (SC.sl 3 (so5 i11) ((y4).2 i11) (sc6 i11))), (fun (i12 : Nat) => (SC.bool ((y4).4 i12)))] ∧
 (O = O ∧
 (((x).1).1 = ((x).1).1 ∧
 ((x).1).1 = (y4).1)))) ∧
 ((capK y4) ∧
 (∀ bm13 : Nat,
 (∀ soq14 : (Nat →
 (Option Addr)),
 (∀ scq15 : (Nat →
 Nat),
 (b2 = b2 ∧
 (b0 = b0 ∧
 (Exists (fun (g016 : (Nat →
 Int)) => ((A = A ∧
 ((x).2 = (x).2 ∧
 ([(fun (i17 : Nat) => (SC.int ((x).3 i17)))] = [(fun (i18 : Nat) => (SC.int (g016 i18)))] ∧
 (capC (x).2)))) ∧
 (∀ b19 : Nat,
 (b2 = b2 ∧
 (b0 = b0 ∧
 (Exists (fun (g020 : (Nat →
 Int)) => ((H = H ∧
 ((x).4 = (x).4 ∧
 ([(fun (i21 : Nat) => (SC.int ((x).5 i21)))] = [(fun (i22 : Nat) => (SC.int (g020 i22)))] ∧
 (capC (x).4)))) ∧
 (∀ b23 : Nat,
 (b2 = b2 ∧
 (b2 = b2 ∧
 (b1 = b1 ∧
 (b1 = b1 ∧
 (Exists (fun (Oq24 : (Option Addr)) => (Exists (fun (Aq25 : (Option Addr)) => (Exists (fun (Hq26 : (Option Addr)) => (Exists (fun (Cq27 : Nat) => (Exists (fun (Dq28 : Nat) => (Exists (fun (Ee29 : Nat) => (Exists (fun (soq30 : (Nat →
 (Option Addr))) => (Exists (fun (scq31 : (Nat →
 Nat)) => ((Value.agg (List.toArray [(Value.slice (Option.some (Addr.mk bm13 0 (none : Option (Nat)))) (y4).1 (y4).1), (Value.slice (Option.some (Addr.mk b19 0 (none : Option (Nat)))) (x).2 (x).2), (Value.slice (Option.some (Addr.mk b23 0 (none : Option (Nat)))) (x).4 (x).4)])) = (Value.agg (List.toArray [(Value.slice Oq24 ((x).1).1 Cq27), (Value.slice Aq25 (x).2 Dq28), (Value.slice Hq26 (x).4 Ee29)])) ∧
 (SelS [(Ch.row (Row.mk Bool.false O 0 2 ((x).1).1 0 [(fun (i32 : Nat) => (SC.sl 3 (so i32) (((x).1).2 i32) (sc i32))), (fun (i33 : Nat) => (SC.bool (((x).1).4 i33)))])), (Ch.row (Row.mk Bool.false A 0 1 (x).2 0 [(fun (i34 : Nat) => (SC.int ((x).3 i34)))])), (Ch.row (Row.mk Bool.false H 0 1 (x).4 0 [(fun (i35 : Nat) => (SC.int ((x).5 i35)))])), (Ch.obj Bool.false (symRows Bool.false 0 (x).1 so (fun (x36 : Nat) => 0))), (Ch.cells b0 27 [(SC.sl 0 O ((x).1).1 C), (SC.sl 1 A (x).2 D), (SC.sl 2 H (x).4 E)]), (Ch.cells b1 33 [(SC.sl 7 (Option.some (Addr.mk bm13 0 (none : Option (Nat)))) (y4).1 (y4).1), (SC.sl 9 (Option.some (Addr.mk b19 0 (none : Option (Nat)))) (x).2 (x).2), (SC.sl 10 (Option.some (Addr.mk b23 0 (none : Option (Nat)))) (x).4 (x).4)]), (Ch.cells b2 33 [(SC.sl 7 (Option.some (Addr.mk bm13 0 (none : Option (Nat)))) (y4).1 (y4).1), (SC.sl 9 (Option.some (Addr.mk b19 0 (none : Option (Nat)))) (x).2 (x).2), (SC.sl 10 (Option.some (Addr.mk b23 0 (none : Option (Nat)))) (x).4 (x).4)]), (Ch.row (Row.mk Bool.true (Option.some (Addr.mk bm13 0 (none : Option (Nat)))) 52 2 (y4).1 (y4).1 [(fun (i37 : Nat) => (SC.sl 8 (soq14 i37) ((y4).2 i37) (scq15 i37))), (fun (i38 : Nat) => (SC.bool ((y4).4 i38)))])), (Ch.obj Bool.true (symRows Bool.true 3 y4 soq14 scq15)), (Ch.row (Row.mk Bool.true (Option.some (Addr.mk b19 0 (none : Option (Nat)))) 3 1 (x).2 (x).2 [(fun (i39 : Nat) => (SC.int (g016 i39)))])), (Ch.row (Row.mk Bool.true (Option.some (Addr.mk b23 0 (none : Option (Nat)))) 3 1 (x).4 (x).4 [(fun (i40 : Nat) => (SC.int (g020 i40)))]))] [7, 9, 10, 8] [(Ch.row (Row.mk Bool.true Oq24 52 2 ((x).1).1 Cq27 [(fun (i41 : Nat) => (SC.sl 3 (soq30 i41) (((x).1).2 i41) (scq31 i41))), (fun (i42 : Nat) => (SC.bool (((x).1).4 i42)))])), (Ch.row (Row.mk Bool.true Aq25 3 1 (x).2 Dq28 [(fun (i43 : Nat) => (SC.int ((x).3 i43)))])), (Ch.row (Row.mk Bool.true Hq26 3 1 (x).4 Ee29 [(fun (i44 : Nat) => (SC.int ((x).5 i44)))])), (Ch.obj Bool.true (symRows Bool.true 3 (x).1 soq30 scq31))])))))))))))))))))))))))))))))))))))))))))))))))))))))) := by kernel_rfl
theorem toA_any (x : AD) (O A H : Option Addr) (C D E : Nat) (so : Nat → Option Addr) (sc : Nat → Nat) (w : World) (hA : SeenA w x O A H so sc) (hcap : capAx x) : Calls Try.prog 13 #[arrV x O A H C D E] w fun e w' => ∃ (Oq Aq Hq : Option Addr) (Cq Dq Ee : Nat) (soq : Nat → Option Addr) (scq : Nat → Nat), e = .returned (arrV x Oq Aq Hq Cq Dq Ee) ∧ HS ⟨w, fun _ => False⟩ (arrO 0 x Oq Aq Hq Cq Dq Ee soq scq) w' := by
  refine fnB (tb := [(50, sToCs), (51, sToIntS)]) ⟨sToCs_ok, sToIntS_ok, trivial⟩ Try.func13 (@Eq.mpr _ _ (toA_T x O A H C D E so sc) ?_) (HS.seenAll (fun _ => False) _ (hA.all 0 seenC_nil)) (fun v ch' w' ⟨Oq, Aq, Hq, Cq, Dq, Ee, soq, scq, hv, hc⟩ hs => ⟨Oq, Aq, Hq, Cq, Dq, Ee, soq, scq, by rw [hv], hc.hs hs⟩)
  clear hA
  obtain ⟨c1, c2, c3⟩ := hcap
  repeat' (first
    | with_reducible exact rfl
    | exact True.intro
    | with_reducible assumption
    | exact (by refine ⟨?_, rfl⟩; repeat' (first | exact True.intro | exact symRows_push | exact rfl | refine And.intro ?_ ?_ | (intro i hi; show _ = _; with_reducible rfl) | (intro i hi; show _ = _; rfl) | (intro i hi; show _ = _; simp only [SC.den]; split <;> rfl)))
    | refine And.intro ?_ ?_
    | apply Exists.intro
    | (intro h; replace h := of_decide_eq_true h; first | (exfalso; omega) | skip)
    | (intro h; replace h := of_decide_eq_false h; first | (exfalso; omega) | skip)
    | (intro i hi; with_reducible exact rfl)
    | intro _
    | omega
    | exact rfl)
end Go.Proofs.Ytddeinpnadfgmaa
