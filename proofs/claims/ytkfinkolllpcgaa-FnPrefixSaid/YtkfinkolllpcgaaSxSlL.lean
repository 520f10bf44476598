/-
  Slices of flat elements: copied, compared, marked, held, counted. Written by program.
-/
import Derived.Test.YtkfinkolllpcgaaSxBtw
namespace Go.Proofs.Ytkfinkolllpcgaa
set_option linter.unusedVariables false
set_option linter.unusedSimpArgs false
open Go.RowKit
set_option maxRecDepth 100000

/-! laws.toIntS -/
def toIntH (ao : Option Addr) (n cap b : Nat) (i : SC) (g : Nat → Value) : List SV := [.a (.c (.sl 0 ao n cap)), .a (.c (.val (g 1))), .a (.c (.val (g 2))), .a (.c (.sl 1 (some ⟨b, 0, none⟩) n n)), .a (.c i), .a (.c (.val (g 5))), .a (.c (.val (g 6))), .a (.c (.val (g 7))), .a (.c (.val (g 8))), .a (.c (.val (g 9))), .a (.c (.val (g 10))), .a (.c (.val (g 11))), .a (.c (.val (g 12))), .a (.c (.val (g 13))), .a (.c (.val (g 14))), .a (.c (.val (g 15))), .a (.c (.val (g 16))), .a (.c (.val (g 17))), .a (.c (.val (g 18))), .a (.c (.val (g 19))), .a (.c (.val (g 20))), .a (.c (.val (g 21)))]
def toIntT (ao : Option Addr) (n b : Nat) (g0 : Nat → Int) (fs : List (Nat → SC)) : List Ch := [.row ⟨false, ao, 0, 1, n, 0, [fun i => .int (g0 i)]⟩, .row ⟨true, some ⟨b, 0, none⟩, 3, 1, n, n, fs⟩]
def sToIntL (ao : Option Addr) (n cap : Nat) (g0 : Nat → Int) : LSm := fun ts ch k =>
  ∃ b, (ts.map SV.den = (toIntH ao n cap b (.il 0) (fun d => (ts.getD d .undef).den)).map SV.den ∧ ch = toIntT ao n b g0 [fun _ => .il 0]) ∧
    ∀ g, k (.exit 0) (toIntH ao n cap b (.int (n : Int)) g) (toIntT ao n b g0 [fun i => .int (g0 i)])
theorem toIntB (ao : Option Addr) (n cap b j : Nat) (g0 : Nat → Int) (g : Nat → Value) (NX : List SV → List Ch → Prop) (kx : Exit → List SV → List Ch → Prop) : (exCode Try.prog {} 400 (theLoop Try.f41 0) (toIntH ao n cap b (.int (j : Int)) g) (toIntT ao n b g0 [fun i => .int (lowI i j (g0 i) 0)]) (loopK NX kx)) = (
  (((decide (((j : Nat) : Int) < ((n : Nat) : Int))) = Bool.true →
  (ao = ao ∧
   (n = n ∧
   ((0 ≤ ((j : Nat) : Int) ∧ ((j : Nat) : Int) < ((n : Nat) : Int)) ∧
   (ao = ao ∧
   (j < n ∧
   ((Option.some (Addr.mk b 0 Option.none)) = (Option.some (Addr.mk b 0 Option.none)) ∧
   (n = n ∧
   ((0 ≤ ((j : Nat) : Int) ∧ ((j : Nat) : Int) < ((n : Nat) : Int)) ∧
   ((Option.some (Addr.mk b 0 Option.none)) = (Option.some (Addr.mk b 0 Option.none)) ∧
   (j < n ∧
   ((rng (((j : Nat) : Int) + (1 : Int))) ∧
   (NX [(SV.a (SA.c (SC.sl 0 ao n cap))), (SV.a (SA.c (SC.val (g 1)))), (SV.a (SA.c (SC.val (g 2)))), (SV.a (SA.c (SC.sl 1 (Option.some (Addr.mk b 0 Option.none)) n n))), (SV.a (SA.c (SC.int (((j : Nat) : Int) + (1 : Int))))), (SV.a (SA.c (SC.val (g 5)))), (SV.a (SA.c (SC.val (g 6)))), (SV.a (SA.c (SC.val (g 7)))), (SV.a (SA.c (SC.int ((j : Nat) : Int)))), (SV.a (SA.c (SC.sl 0 ao n cap))), (SV.a (SA.c (SC.int ((n : Nat) : Int)))), (SV.a (SA.c (SC.lit Bool.true))), (SV.a (SA.c (SC.int ((j : Nat) : Int)))), (SV.a (SA.c (SC.int (((j : Nat) : Int) + (1 : Int))))), (SV.a (SA.c (SC.sl 1 (Option.some (Addr.mk b 0 Option.none)) n n))), (SV.a (SA.c (SC.int ((j : Nat) : Int)))), (SV.a (SA.c (SC.sl 0 ao n cap))), (SV.a (SA.c (SC.int ((j : Nat) : Int)))), (SV.a (SA.c (SC.rptr 0 ao 1 j 0))), (SV.a (SA.c (SC.int (g0 j)))), (SV.a (SA.c (SC.rptr 1 (Option.some (Addr.mk b 0 Option.none)) 1 j 0))), (SV.a (SA.c (SC.val (g 21))))] [(Ch.row (Row.mk Bool.false ao 0 1 n 0 [(fun (i0 : Nat) => (SC.int (g0 i0)))])), (Ch.row (Row.mk Bool.true (Option.some (Addr.mk b 0 Option.none)) 3 1 n n [(fun (j1 : Nat) => (SC.int (if j1 = j then (g0 j) else (if j1 < j then (g0 j1) else (0 : Int)))))]))]))))))))))))) ∧
  ((decide (((j : Nat) : Int) < ((n : Nat) : Int))) = Bool.false →
  (kx (Exit.exit 0) [(SV.a (SA.c (SC.sl 0 ao n cap))), (SV.a (SA.c (SC.val (g 1)))), (SV.a (SA.c (SC.val (g 2)))), (SV.a (SA.c (SC.sl 1 (Option.some (Addr.mk b 0 Option.none)) n n))), (SV.a (SA.c (SC.int ((j : Nat) : Int)))), (SV.a (SA.c (SC.val (g 5)))), (SV.a (SA.c (SC.val (g 6)))), (SV.a (SA.c (SC.val (g 7)))), (SV.a (SA.c (SC.int ((j : Nat) : Int)))), (SV.a (SA.c (SC.sl 0 ao n cap))), (SV.a (SA.c (SC.int ((n : Nat) : Int)))), (SV.a (SA.c (SC.lit Bool.false))), (SV.a (SA.c (SC.val (g 12)))), (SV.a (SA.c (SC.val (g 13)))), (SV.a (SA.c (SC.val (g 14)))), (SV.a (SA.c (SC.val (g 15)))), (SV.a (SA.c (SC.val (g 16)))), (SV.a (SA.c (SC.val (g 17)))), (SV.a (SA.c (SC.val (g 18)))), (SV.a (SA.c (SC.val (g 19)))), (SV.a (SA.c (SC.val (g 20)))), (SV.a (SA.c (SC.val (g 21))))] [(Ch.row (Row.mk Bool.false ao 0 1 n 0 [(fun (i2 : Nat) => (SC.int (g0 i2)))])), (Ch.row (Row.mk Bool.true (Option.some (Addr.mk b 0 Option.none)) 3 1 n n [(fun (i3 : Nat) => (SC.int (if i3 < j then (g0 i3) else (0 : Int))))]))])))) := by kernel_rfl
theorem toIntL_ok (ao : Option Addr) (n cap : Nat) (g0 : Nat → Int) (hn : n ≤ 2097152) (X : Cx) : LoopOK Try.prog X (theLoop Try.f41 0) (sToIntL ao n cap g0) := by
  intro ts ch k a w hS hT hd hs
  obtain ⟨b, ⟨h1, rfl⟩, hk⟩ := hS
  refine loop_ok mixed (E := {}) trivial (loopsOK_nil _ _ _) 400 n (fun j ts ch => ∃ g, ts = toIntH ao n cap b (.int (j : Int)) g ∧ ch = toIntT ao n b g0 [fun i => .int (lowI i j (g0 i) 0)]) ?_ ?_ hT hd hs
  · rintro j _ _ ⟨g, rfl, rfl⟩ hj
    refine (@Eq.mpr _ _ (toIntB ao n cap b j g0 g _ _) ?_)
    refine ⟨fun hlt => ?_, fun hge => ?_⟩
    · have hlt' : j < n := by simpa using hlt
      have hjn : (0 : Int) ≤ (j : Int) ∧ (j : Int) < (n : Int) := ⟨by omega, by omega⟩
      repeat' (first | exact rfl | exact True.intro | assumption | refine And.intro ?_ ?_ | omega)
      refine Next.mk (fun g => toIntH ao n cap b (.int ((j + 1 : Nat) : Int)) g) _ ⟨_, rfl, rfl⟩ rfl fun w hw => hw.re 1 _ rfl [fun i => .int (lowI i (j + 1) (g0 i) 0)] ?_
      exact ⟨fun i _ => congrArg (Value.int .i64) (sel_low g0 i j), trivial⟩
    · have hjn : j = n := by have : ¬ (j < n) := by simpa using hge
                             omega
      subst hjn
      exact Next.mk (fun g => toIntH ao j cap b (.int (j : Int)) g) _ (hk _) rfl fun w hw => hw.re 1 _ rfl [fun i => .int (g0 i)] ⟨fun i hi => by simp only [SC.den, lowI]; rw [if_pos hi], trivial⟩
  · exact Next.mk (fun g => toIntH ao n cap b (.int ((0 : Nat) : Int)) g) _ ⟨_, rfl, rfl⟩ h1 fun w hw => hw.re 1 _ rfl [fun i => .int (lowI i 0 (g0 i) 0)] ⟨fun i hi => by simp [SC.den, lowI], trivial⟩
theorem toIntS_T (ao : Option Addr) (n cap : Nat) (g0 : Nat → Int) : (exFn Try.prog {L := [(3, sToIntL ao n cap g0)]} 400 Try.f41 ([.a (.c (.sl 0 ao n cap))]) ([.row ⟨false, ao, 0, 1, n, 0, [fun i => .int (g0 i)]⟩]) (fun v ch => ∃ b, v.den = .slice (some ⟨b, 0, none⟩) n n ∧ ch[1]? = some (.row ⟨true, some ⟨b, 0, none⟩, 3, 1, n, n, [fun i => .int (g0 i)]⟩))) = (
  (((n : Nat) : Int) = ((n : Nat) : Int) ∧
  ((mkC 8 ((n : Nat) : Int)) ∧
  (∀ b0 : Nat,
  (Exists (fun (b1 : Nat) => (([(Value.slice ao n cap), (Value.tuple (List.toArray [])), (Value.slice Option.none 0 0), (Value.slice (Option.some (Addr.mk b0 0 Option.none)) n n), (Value.int IntKind.i64 (0 : Int)), (Value.slice ao n cap), (Value.int IntKind.i64 ((n : Nat) : Int)), (Value.slice (Option.some (Addr.mk b0 0 Option.none)) n n), (Value.tuple (List.toArray [])), (Value.tuple (List.toArray [])), (Value.tuple (List.toArray [])), (Value.tuple (List.toArray [])), (Value.tuple (List.toArray [])), (Value.tuple (List.toArray [])), (Value.tuple (List.toArray [])), (Value.tuple (List.toArray [])), (Value.tuple (List.toArray [])), (Value.tuple (List.toArray [])), (Value.tuple (List.toArray [])), (Value.tuple (List.toArray [])), (Value.tuple (List.toArray [])), (Value.tuple (List.toArray []))] = [(Value.slice ao n cap), (Value.tuple (List.toArray [])), (Value.slice Option.none 0 0), (Value.slice (Option.some (Addr.mk b1 0 Option.none)) n n), (Value.int IntKind.i64 (0 : Int)), (Value.slice ao n cap), (Value.int IntKind.i64 ((n : Nat) : Int)), (Value.slice (Option.some (Addr.mk b0 0 Option.none)) n n), (Value.tuple (List.toArray [])), (Value.tuple (List.toArray [])), (Value.tuple (List.toArray [])), (Value.tuple (List.toArray [])), (Value.tuple (List.toArray [])), (Value.tuple (List.toArray [])), (Value.tuple (List.toArray [])), (Value.tuple (List.toArray [])), (Value.tuple (List.toArray [])), (Value.tuple (List.toArray [])), (Value.tuple (List.toArray [])), (Value.tuple (List.toArray [])), (Value.tuple (List.toArray [])), (Value.tuple (List.toArray []))] ∧
  [(Ch.row (Row.mk Bool.false ao 0 1 n 0 [(fun (i2 : Nat) => (SC.int (g0 i2)))])), (Ch.row (Row.mk Bool.true (Option.some (Addr.mk b0 0 Option.none)) 3 1 n n [(fun (x3 : Nat) => (SC.il (0 : Int)))]))] = [(Ch.row (Row.mk Bool.false ao 0 1 n 0 [(fun (i4 : Nat) => (SC.int (g0 i4)))])), (Ch.row (Row.mk Bool.true (Option.some (Addr.mk b1 0 Option.none)) 3 1 n n [(fun (x5 : Nat) => (SC.il (0 : Int)))]))]) ∧
  (∀ g6 : (Nat →
  Value),
  (Exists (fun (b7 : Nat) => ((Value.slice (Option.some (Addr.mk b1 0 Option.none)) n n) = (Value.slice (Option.some (Addr.mk b7 0 Option.none)) n n) ∧
  (Option.some (Ch.row (Row.mk Bool.true (Option.some (Addr.mk b1 0 Option.none)) 3 1 n n [(fun (i8 : Nat) => (SC.int (g0 i8)))]))) = (Option.some (Ch.row (Row.mk Bool.true (Option.some (Addr.mk b7 0 Option.none)) 3 1 n n [(fun (i9 : Nat) => (SC.int (g0 i9)))])))))))))))))) := by kernel_rfl
theorem toIntS_any (ao : Option Addr) (n cap : Nat) (g0 : Nat → Int) (w : World) (hn : n ≤ 2097152) (h : Row.sat w ⟨false, ao, 0, 1, n, 0, [fun i => .int (g0 i)]⟩) :
    Calls Try.prog 41 #[.slice ao n cap] w fun e w' => ∃ b, e = .returned (.slice (some ⟨b, 0, none⟩) n n) ∧ HS ⟨w, fun _ => False⟩ [.row ⟨true, some ⟨b, 0, none⟩, 3, 1, n, n, [fun i => .int (g0 i)]⟩] w' := by
  refine fn_ok mixed (E := { L := [(3, sToIntL ao n cap g0)] }) trivial Try.func41 (one_loop (by kernel_rfl) (by kernel_rfl) (toIntL_ok ao n cap g0 hn _)) (@Eq.mpr _ _ (toIntS_T ao n cap g0) ?_) (HS.rows (fun _ => False) [⟨false, ao, 0, 1, n, 0, [fun i => .int (g0 i)]⟩] (by simpa using h)) (fun v ch' w' ⟨b, hv, hc⟩ hs => ⟨b, by rw [hv], ?_⟩)
  · repeat' (first | exact True.intro | exact rfl | (refine ⟨by omega, by omega, by omega⟩) | (refine fun b => ⟨b, ⟨rfl, rfl⟩, fun g => ⟨b, rfl, rfl⟩⟩) | refine And.intro ?_ ?_)
  · have := hs.sel [1] (by simp)
    simpa [selC, hc] using this
def sToIntS : Sm := fun args ch k =>
  match args with
  | [.a (.c (.sl id ao n _))] =>
    match ch[id]? with
    | some (.row r) => ∃ g0 : Nat → Int, (ao = r.ao ∧ n = r.n ∧ r.fld = [fun i => .int (g0 i)] ∧ capC n) ∧
        ∀ b, k (.a (.c (.sl ch.length (some ⟨b, 0, none⟩) n n))) (ch ++ [.row ⟨true, some ⟨b, 0, none⟩, 3, 1, n, n, [fun i => .int (g0 i)]⟩]) []
    | _ => False
  | _ => False
theorem sToIntS_ok : SmOK Try.prog 41 sToIntS := by
  refine smN Try.call41 fun args ch k w X h0 hs => ?_
  unfold sToIntS at h0
  split at h0
  · rename_i id ao n cap
    split at h0
    · rename_i r hid
      obtain ⟨g0, ⟨rfl, rfl, hf, hn⟩, h0⟩ := h0
      exact Calls.mono (toIntS_any r.ao r.n cap g0 w hn (Row.seenAs (hs.sat id _ hid) hf rfl)) fun e w' ⟨b, he, hs'⟩ => ⟨.a (.c (.sl ch.length (some ⟨b, 0, none⟩) r.n r.n)), _, he, hs', rfl, h0 b⟩
    · exact h0.elim
  · exact h0.elim

/-! laws.eqIntS: where both read the same -/
def eqIntH (ao bo : Option Addr) (n c d : Nat) (i : SC) (g : Nat → Value) : List SV := [.a (.c (.sl 0 ao n c)), .a (.c (.sl 1 bo n d)), .a (.c (.val (g 2))), .a (.c (.val (g 3))), .a (.c (.lit false)), .a (.c i), .a (.c (.val (g 6))), .a (.c (.val (g 7))), .a (.c (.val (g 8))), .a (.c (.val (g 9))), .a (.c (.val (g 10))), .a (.c (.val (g 11))), .a (.c (.val (g 12))), .a (.c (.val (g 13))), .a (.c (.val (g 14))), .a (.c (.val (g 15))), .a (.c (.val (g 16))), .a (.c (.val (g 17))), .a (.c (.val (g 18))), .a (.c (.val (g 19))), .a (.c (.val (g 20))), .a (.c (.val (g 21))), .a (.c (.val (g 22))), .a (.c (.val (g 23))), .a (.c (.val (g 24))), .a (.c (.val (g 25)))]
def eqIntT (ao bo : Option Addr) (n : Nat) (g0 q0 : Nat → Int) : List Ch := [.row ⟨false, ao, 0, 1, n, 0, [fun i => .int (g0 i)]⟩, .row ⟨false, bo, 0, 1, n, 0, [fun i => .int (q0 i)]⟩]
def sEqIntL (ao bo : Option Addr) (n c d : Nat) (g0 q0 : Nat → Int) : LSm := fun ts ch k =>
  (ts.map SV.den = (eqIntH ao bo n c d (.il 0) (fun d => (ts.getD d .undef).den)).map SV.den ∧ ch = eqIntT ao bo n g0 q0) ∧
    ∀ g, k (.exit 0) (eqIntH ao bo n c d (.int (n : Int)) g) (eqIntT ao bo n g0 q0)
theorem eqIntB (ao bo : Option Addr) (n c d j : Nat) (g0 q0 : Nat → Int) (g : Nat → Value) (NX : List SV → List Ch → Prop) (kx : Exit → List SV → List Ch → Prop) : (exCode Try.prog {} 400 (theLoop Try.f42 0) (eqIntH ao bo n c d (.int (j : Int)) g) (eqIntT ao bo n g0 q0) (loopK NX kx)) = (
  (((decide (((j : Nat) : Int) < ((n : Nat) : Int))) = Bool.true →
  (ao = ao ∧
   (n = n ∧
   ((0 ≤ ((j : Nat) : Int) ∧ ((j : Nat) : Int) < ((n : Nat) : Int)) ∧
   (ao = ao ∧
   (j < n ∧
   (bo = bo ∧
   (n = n ∧
   ((0 ≤ ((j : Nat) : Int) ∧ ((j : Nat) : Int) < ((n : Nat) : Int)) ∧
   (bo = bo ∧
   (j < n ∧
   ((((g0 j) != (q0 j)) = Bool.true →
   (kx Exit.ret [(SV.a (SA.c (SC.sl 0 ao n c))), (SV.a (SA.c (SC.sl 1 bo n d))), (SV.a (SA.c (SC.val (g 2)))), (SV.a (SA.c (SC.val (g 3)))), (SV.a (SA.c (SC.lit Bool.false))), (SV.a (SA.c (SC.int ((j : Nat) : Int)))), (SV.a (SA.c (SC.val (g 6)))), (SV.a (SA.c (SC.val (g 7)))), (SV.a (SA.c (SC.val (g 8)))), (SV.a (SA.c (SC.val (g 9)))), (SV.a (SA.c (SC.val (g 10)))), (SV.a (SA.c (SC.int ((j : Nat) : Int)))), (SV.a (SA.c (SC.sl 0 ao n c))), (SV.a (SA.c (SC.int ((n : Nat) : Int)))), (SV.a (SA.c (SC.lit Bool.true))), (SV.a (SA.c (SC.val (g 15)))), (SV.a (SA.c (SC.val (g 16)))), (SV.a (SA.c (SC.sl 0 ao n c))), (SV.a (SA.c (SC.int ((j : Nat) : Int)))), (SV.a (SA.c (SC.rptr 0 ao 1 j 0))), (SV.a (SA.c (SC.int (g0 j)))), (SV.a (SA.c (SC.sl 1 bo n d))), (SV.a (SA.c (SC.int ((j : Nat) : Int)))), (SV.a (SA.c (SC.rptr 1 bo 1 j 0))), (SV.a (SA.c (SC.int (q0 j)))), (SV.a (SA.c (SC.lit Bool.true)))] [(Ch.row (Row.mk Bool.false ao 0 1 n 0 [(fun (i0 : Nat) => (SC.int (g0 i0)))])), (Ch.row (Row.mk Bool.false bo 0 1 n 0 [(fun (i1 : Nat) => (SC.int (q0 i1)))]))])) ∧
   (((g0 j) != (q0 j)) = Bool.false →
   ((rng (((j : Nat) : Int) + (1 : Int))) ∧
    (NX [(SV.a (SA.c (SC.sl 0 ao n c))), (SV.a (SA.c (SC.sl 1 bo n d))), (SV.a (SA.c (SC.val (g 2)))), (SV.a (SA.c (SC.val (g 3)))), (SV.a (SA.c (SC.lit Bool.false))), (SV.a (SA.c (SC.int (((j : Nat) : Int) + (1 : Int))))), (SV.a (SA.c (SC.val (g 6)))), (SV.a (SA.c (SC.val (g 7)))), (SV.a (SA.c (SC.val (g 8)))), (SV.a (SA.c (SC.val (g 9)))), (SV.a (SA.c (SC.val (g 10)))), (SV.a (SA.c (SC.int ((j : Nat) : Int)))), (SV.a (SA.c (SC.sl 0 ao n c))), (SV.a (SA.c (SC.int ((n : Nat) : Int)))), (SV.a (SA.c (SC.lit Bool.true))), (SV.a (SA.c (SC.int ((j : Nat) : Int)))), (SV.a (SA.c (SC.int (((j : Nat) : Int) + (1 : Int))))), (SV.a (SA.c (SC.sl 0 ao n c))), (SV.a (SA.c (SC.int ((j : Nat) : Int)))), (SV.a (SA.c (SC.rptr 0 ao 1 j 0))), (SV.a (SA.c (SC.int (g0 j)))), (SV.a (SA.c (SC.sl 1 bo n d))), (SV.a (SA.c (SC.int ((j : Nat) : Int)))), (SV.a (SA.c (SC.rptr 1 bo 1 j 0))), (SV.a (SA.c (SC.int (q0 j)))), (SV.a (SA.c (SC.lit Bool.false)))] [(Ch.row (Row.mk Bool.false ao 0 1 n 0 [(fun (i2 : Nat) => (SC.int (g0 i2)))])), (Ch.row (Row.mk Bool.false bo 0 1 n 0 [(fun (i3 : Nat) => (SC.int (q0 i3)))]))]))))))))))))))) ∧
  ((decide (((j : Nat) : Int) < ((n : Nat) : Int))) = Bool.false →
  (kx (Exit.exit 0) [(SV.a (SA.c (SC.sl 0 ao n c))), (SV.a (SA.c (SC.sl 1 bo n d))), (SV.a (SA.c (SC.val (g 2)))), (SV.a (SA.c (SC.val (g 3)))), (SV.a (SA.c (SC.lit Bool.false))), (SV.a (SA.c (SC.int ((j : Nat) : Int)))), (SV.a (SA.c (SC.val (g 6)))), (SV.a (SA.c (SC.val (g 7)))), (SV.a (SA.c (SC.val (g 8)))), (SV.a (SA.c (SC.val (g 9)))), (SV.a (SA.c (SC.val (g 10)))), (SV.a (SA.c (SC.int ((j : Nat) : Int)))), (SV.a (SA.c (SC.sl 0 ao n c))), (SV.a (SA.c (SC.int ((n : Nat) : Int)))), (SV.a (SA.c (SC.lit Bool.false))), (SV.a (SA.c (SC.val (g 15)))), (SV.a (SA.c (SC.val (g 16)))), (SV.a (SA.c (SC.val (g 17)))), (SV.a (SA.c (SC.val (g 18)))), (SV.a (SA.c (SC.val (g 19)))), (SV.a (SA.c (SC.val (g 20)))), (SV.a (SA.c (SC.val (g 21)))), (SV.a (SA.c (SC.val (g 22)))), (SV.a (SA.c (SC.val (g 23)))), (SV.a (SA.c (SC.val (g 24)))), (SV.a (SA.c (SC.val (g 25))))] [(Ch.row (Row.mk Bool.false ao 0 1 n 0 [(fun (i4 : Nat) => (SC.int (g0 i4)))])), (Ch.row (Row.mk Bool.false bo 0 1 n 0 [(fun (i5 : Nat) => (SC.int (q0 i5)))]))])))) := by kernel_rfl
theorem eqIntL_ok (ao bo : Option Addr) (n c d : Nat) (g0 q0 : Nat → Int) (hn : n ≤ 9223372036854775807) (hgh : ∀ i, i < n → g0 i = q0 i) (X : Cx) : LoopOK Try.prog X (theLoop Try.f42 0) (sEqIntL ao bo n c d g0 q0) := by
  intro ts ch k a w hS hT hd hs
  obtain ⟨⟨h1, rfl⟩, hk⟩ := hS
  refine loop_ok mixed (E := {}) trivial (loopsOK_nil _ _ _) 400 n (fun j ts ch => ∃ g, ts = eqIntH ao bo n c d (.int (j : Int)) g ∧ ch = eqIntT ao bo n g0 q0) ?_ ?_ hT hd hs
  · rintro j _ _ ⟨g, rfl, rfl⟩ hj
    refine (@Eq.mpr _ _ (eqIntB ao bo n c d j g0 q0 g _ _) ?_)
    refine ⟨fun hlt => ?_, fun hge => ?_⟩
    · have hlt' : j < n := by simpa using hlt
      have hjn : (0 : Int) ≤ (j : Int) ∧ (j : Int) < (n : Int) := ⟨by omega, by omega⟩
      have he := hgh j hlt'
      repeat' (first | exact rfl | exact True.intro | assumption | (refine And.intro ?_ ?_) | omega | (intro hne; exfalso; simp [he] at hne; done) | intro _)
      all_goals (refine Next.mk (fun g => eqIntH ao bo n c d (.int ((j + 1 : Nat) : Int)) g) _ ⟨_, rfl, rfl⟩ rfl fun w hw => hw)
    · have hjn : j = n := by have : ¬ (j < n) := by simpa using hge
                             omega
      subst hjn
      exact Next.mk (fun g => eqIntH ao bo j c d (.int (j : Int)) g) _ (hk _) rfl fun w hw => hw
  · exact Next.mk (fun g => eqIntH ao bo n c d (.int ((0 : Nat) : Int)) g) _ ⟨_, rfl, rfl⟩ h1 fun w hw => hw
theorem eqIntS_T (ao bo : Option Addr) (n c d : Nat) (g0 q0 : Nat → Int) : (exFn Try.prog {L := [(4, sEqIntL ao bo n c d g0 q0)]} 400 Try.f42 ([.a (.c (.sl 0 ao n c)), .a (.c (.sl 1 bo n d))]) (eqIntT ao bo n g0 q0) (fun v _ => v.den = .bool true)) = (
  (((((n : Nat) : Int) != ((n : Nat) : Int)) = Bool.true →
  (Value.bool Bool.false) = (Value.bool Bool.true)) ∧
  ((((n : Nat) : Int) != ((n : Nat) : Int)) = Bool.false →
  (([(Value.slice ao n c), (Value.slice bo n d), (Value.tuple (List.toArray [])), (Value.tuple (List.toArray [])), (Value.bool Bool.false), (Value.int IntKind.i64 (0 : Int)), (Value.slice ao n c), (Value.int IntKind.i64 ((n : Nat) : Int)), (Value.slice bo n d), (Value.int IntKind.i64 ((n : Nat) : Int)), (Value.bool Bool.false), (Value.tuple (List.toArray [])), (Value.tuple (List.toArray [])), (Value.tuple (List.toArray [])), (Value.tuple (List.toArray [])), (Value.tuple (List.toArray [])), (Value.tuple (List.toArray [])), (Value.tuple (List.toArray [])), (Value.tuple (List.toArray [])), (Value.tuple (List.toArray [])), (Value.tuple (List.toArray [])), (Value.tuple (List.toArray [])), (Value.tuple (List.toArray [])), (Value.tuple (List.toArray [])), (Value.tuple (List.toArray [])), (Value.tuple (List.toArray []))] = [(Value.slice ao n c), (Value.slice bo n d), (Value.tuple (List.toArray [])), (Value.tuple (List.toArray [])), (Value.bool Bool.false), (Value.int IntKind.i64 (0 : Int)), (Value.slice ao n c), (Value.int IntKind.i64 ((n : Nat) : Int)), (Value.slice bo n d), (Value.int IntKind.i64 ((n : Nat) : Int)), (Value.bool Bool.false), (Value.tuple (List.toArray [])), (Value.tuple (List.toArray [])), (Value.tuple (List.toArray [])), (Value.tuple (List.toArray [])), (Value.tuple (List.toArray [])), (Value.tuple (List.toArray [])), (Value.tuple (List.toArray [])), (Value.tuple (List.toArray [])), (Value.tuple (List.toArray [])), (Value.tuple (List.toArray [])), (Value.tuple (List.toArray [])), (Value.tuple (List.toArray [])), (Value.tuple (List.toArray [])), (Value.tuple (List.toArray [])), (Value.tuple (List.toArray []))] ∧
   [(Ch.row (Row.mk Bool.false ao 0 1 n 0 [(fun (i0 : Nat) => (SC.int (g0 i0)))])), (Ch.row (Row.mk Bool.false bo 0 1 n 0 [(fun (i1 : Nat) => (SC.int (q0 i1)))]))] = [(Ch.row (Row.mk Bool.false ao 0 1 n 0 [(fun (i2 : Nat) => (SC.int (g0 i2)))])), (Ch.row (Row.mk Bool.false bo 0 1 n 0 [(fun (i3 : Nat) => (SC.int (q0 i3)))]))]) ∧
   (∀ g4 : (Nat →
   Value),
   (Value.bool Bool.true) = (Value.bool Bool.true)))))) := by kernel_rfl
theorem eqIntS_any (ao bo : Option Addr) (n c d : Nat) (g0 q0 : Nat → Int) (w : World) (hn : n ≤ 9223372036854775807) (hgh : ∀ i, i < n → g0 i = q0 i)
    (h1 : Row.sat w ⟨false, ao, 0, 1, n, 0, [fun i => .int (g0 i)]⟩) (h2 : Row.sat w ⟨false, bo, 0, 1, n, 0, [fun i => .int (q0 i)]⟩) : Calls Try.prog 42 #[.slice ao n c, .slice bo n d] w fun e w' => e = .returned (.bool true) ∧ Below w.heap.size w w' := by
  refine fn_ok mixed (E := { L := [(4, sEqIntL ao bo n c d g0 q0)] }) trivial Try.func42 (one_loop (by kernel_rfl) (by kernel_rfl) (eqIntL_ok ao bo n c d g0 q0 hn hgh _)) (@Eq.mpr _ _ (eqIntS_T ao bo n c d g0 q0) ?_)
    (HS.rows (fun _ => False) [⟨false, ao, 0, 1, n, 0, [fun i => .int (g0 i)]⟩, ⟨false, bo, 0, 1, n, 0, [fun i => .int (q0 i)]⟩] (by simpa using ⟨h1, h2⟩)) (fun v ch' w' hv hs => ⟨by rw [hv], hs.below⟩)
  simp
  try (intros; rfl)
def sEqIntS : Sm := fun args ch k =>
  match args with
  | [.a (.c (.sl id ao n _)), .a (.c (.sl id' bo m _))] =>
    match ch[id]?, ch[id']? with
    | some (.row r), some (.row r') => ∃ g0 : Nat → Int, ∃ q0 : Nat → Int, (ao = r.ao ∧ n = r.n ∧ r.fld = [fun i => .int (g0 i)] ∧ bo = r'.ao ∧ m = r'.n ∧ r'.fld = [fun i => .int (q0 i)] ∧ n = m ∧ capC n) ∧ ((∀ i, ltN i n → g0 i = q0 i) ∧ k (.a (.c (.lit true))) ch [])
    | _, _ => False
  | _ => False
theorem sEqIntS_ok : SmOK Try.prog 42 sEqIntS := by
  refine smB Try.call42 fun args ch k w X h0 hs => ?_
  unfold sEqIntS at h0
  split at h0
  · rename_i id ao n c id' bo m d
    split at h0
    · rename_i r r' hid hid'
      obtain ⟨g0, q0, ⟨rfl, rfl, hf, rfl, rfl, hf', hnm, hn⟩, hgh, h0⟩ := h0
      have h2 := Row.seenAs (hs.sat id' _ hid') hf' rfl
      rw [← hnm] at h2
      refine ⟨_, h0, ?_⟩
      have := eqIntS_any r.ao r'.ao r.n c d g0 q0 w (by have := hn; omega) hgh (Row.seenAs (hs.sat id _ hid) hf rfl) h2
      simp only [List.map_cons, List.map_nil, den_a, den_c, SC.den, ← hnm]
      exact this
    · exact h0.elim
  · exact h0.elim

/-! laws.markIntS -/
def markIntH (ao : Option Addr) (n cap : Nat) (i kk : SC) (g : Nat → Value) : List SV := [.a (.c (.sl 0 ao n cap)), .a (.c kk), .a (.c (.val (g 2))), .a (.c (.val (g 3))), .a (.c (.val (g 4))), .a (.c i), .a (.c (.val (g 6))), .a (.c (.val (g 7))), .a (.c (.val (g 8))), .a (.c (.val (g 9))), .a (.c (.val (g 10))), .a (.c (.val (g 11))), .a (.c (.val (g 12))), .a (.c (.val (g 13))), .a (.c (.val (g 14))), .a (.c (.val (g 15))), .a (.c (.val (g 16))), .a (.c (.val (g 17))), .a (.c (.val (g 18)))]
def markIntT (ao : Option Addr) (t n rc : Nat) (fs : List (Nat → SC)) : List Ch := [.row ⟨true, ao, t, 1, n, rc, fs⟩]
def sMarkIntL (ao : Option Addr) (t n rc cap : Nat) (g0 : Nat → Int) (k0 : Int) : LSm := fun ts ch k =>
  (ts.map SV.den = (markIntH ao n cap (.il 0) (.int k0) (fun d => (ts.getD d .undef).den)).map SV.den ∧ ch = markIntT ao t n rc [fun i => .int (g0 i)]) ∧
    ∀ g, k (.exit 0) (markIntH ao n cap (.int (n : Int)) (.int (mk k0 1 0 n)) g) (markIntT ao t n rc [fun i => .int (mk k0 1 0 i)])
theorem markIntB (ao : Option Addr) (t n rc cap : Nat) (g0 : Nat → Int) (k0 : Int) (j : Nat) (g : Nat → Value) (NX : List SV → List Ch → Prop) (kx : Exit → List SV → List Ch → Prop) : (exCode Try.prog {} 400 (theLoop Try.f43 0) (markIntH ao n cap (.int (j : Int)) (.int (mk k0 1 0 j)) g) (markIntT ao t n rc [fun i => .int (lowI i j (mk k0 1 0 i) (g0 i))]) (loopK NX kx)) = (
  (((decide (((j : Nat) : Int) < ((n : Nat) : Int))) = Bool.true →
  (ao = ao ∧
   (n = n ∧
   ((0 ≤ ((j : Nat) : Int) ∧ ((j : Nat) : Int) < ((n : Nat) : Int)) ∧
   (ao = ao ∧
   (j < n ∧
   ((rng ((mk k0 1 0 j) + (1 : Int))) ∧
   ((rng (((j : Nat) : Int) + (1 : Int))) ∧
   (NX [(SV.a (SA.c (SC.sl 0 ao n cap))), (SV.a (SA.c (SC.int ((mk k0 1 0 j) + (1 : Int))))), (SV.a (SA.c (SC.val (g 2)))), (SV.a (SA.c (SC.val (g 3)))), (SV.a (SA.c (SC.val (g 4)))), (SV.a (SA.c (SC.int (((j : Nat) : Int) + (1 : Int))))), (SV.a (SA.c (SC.int ((j : Nat) : Int)))), (SV.a (SA.c (SC.sl 0 ao n cap))), (SV.a (SA.c (SC.int ((n : Nat) : Int)))), (SV.a (SA.c (SC.lit Bool.true))), (SV.a (SA.c (SC.int ((j : Nat) : Int)))), (SV.a (SA.c (SC.int (((j : Nat) : Int) + (1 : Int))))), (SV.a (SA.c (SC.sl 0 ao n cap))), (SV.a (SA.c (SC.int ((j : Nat) : Int)))), (SV.a (SA.c (SC.int (mk k0 1 0 j)))), (SV.a (SA.c (SC.rptr 0 ao 1 j 0))), (SV.a (SA.c (SC.int (mk k0 1 0 j)))), (SV.a (SA.c (SC.int ((mk k0 1 0 j) + (1 : Int))))), (SV.a (SA.c (SC.val (g 18))))] [(Ch.row (Row.mk Bool.true ao t 1 n rc [(fun (j0 : Nat) => (SC.int (if j0 = j then (mk k0 1 0 j) else (if j0 < j then (mk k0 1 0 j0) else (g0 j0)))))]))]))))))))) ∧
  ((decide (((j : Nat) : Int) < ((n : Nat) : Int))) = Bool.false →
  (kx (Exit.exit 0) [(SV.a (SA.c (SC.sl 0 ao n cap))), (SV.a (SA.c (SC.int (mk k0 1 0 j)))), (SV.a (SA.c (SC.val (g 2)))), (SV.a (SA.c (SC.val (g 3)))), (SV.a (SA.c (SC.val (g 4)))), (SV.a (SA.c (SC.int ((j : Nat) : Int)))), (SV.a (SA.c (SC.int ((j : Nat) : Int)))), (SV.a (SA.c (SC.sl 0 ao n cap))), (SV.a (SA.c (SC.int ((n : Nat) : Int)))), (SV.a (SA.c (SC.lit Bool.false))), (SV.a (SA.c (SC.val (g 10)))), (SV.a (SA.c (SC.val (g 11)))), (SV.a (SA.c (SC.val (g 12)))), (SV.a (SA.c (SC.val (g 13)))), (SV.a (SA.c (SC.val (g 14)))), (SV.a (SA.c (SC.val (g 15)))), (SV.a (SA.c (SC.val (g 16)))), (SV.a (SA.c (SC.val (g 17)))), (SV.a (SA.c (SC.val (g 18))))] [(Ch.row (Row.mk Bool.true ao t 1 n rc [(fun (i1 : Nat) => (SC.int (if i1 < j then (mk k0 1 0 i1) else (g0 i1))))]))])))) := by kernel_rfl
theorem markIntL_ok (ao : Option Addr) (t n rc cap : Nat) (g0 : Nat → Int) (k0 : Int) (hn : n ≤ 2097152 ∧ 0 ≤ k0 ∧ k0 ≤ 1099511627776) (X : Cx) : LoopOK Try.prog X (theLoop Try.f43 0) (sMarkIntL ao t n rc cap g0 k0) := by
  intro ts ch k a w hS hT hd hs
  obtain ⟨⟨h1, rfl⟩, hk⟩ := hS
  refine loop_ok mixed (E := {}) trivial (loopsOK_nil _ _ _) 400 n (fun j ts ch => ∃ g, ts = markIntH ao n cap (.int (j : Int)) (.int (mk k0 1 0 j)) g ∧ ch = markIntT ao t n rc [fun i => .int (lowI i j (mk k0 1 0 i) (g0 i))]) ?_ ?_ hT hd hs
  · rintro j _ _ ⟨g, rfl, rfl⟩ hj
    refine (@Eq.mpr _ _ (markIntB ao t n rc cap g0 k0 j g _ _) ?_)
    have hb := mk_bound (s := 1) (c := 0) hn hj (by omega) (by omega)
    refine ⟨fun hlt => ?_, fun hge => ?_⟩
    · have hlt' : j < n := by simpa using hlt
      have hjn : (0 : Int) ≤ (j : Int) ∧ (j : Int) < (n : Int) := ⟨by omega, by omega⟩
      have hnx := mk_next k0 1 j
      repeat' (first | exact rfl | exact True.intro | assumption | refine And.intro ?_ ?_ | omega)
      refine Next.mk (fun g => markIntH ao n cap (.int ((j + 1 : Nat) : Int)) (.int (mk k0 1 0 (j + 1))) g) _ ⟨_, rfl, rfl⟩ ?_ fun w hw => hw.re 0 _ rfl [fun i => .int (lowI i (j + 1) (mk k0 1 0 i) (g0 i))] ?_
      · rw [hnx]
        simp [markIntH, SV.den, SA.den, SC.den]
        try omega
      · exact ⟨fun i _ => congrArg (Value.int .i64) (mk_low k0 1 0 g0 i j _ (by first | rfl | (simp only [mk]; omega))), trivial⟩
    · have hjn : j = n := by have : ¬ (j < n) := by simpa using hge
                             omega
      subst hjn
      exact Next.mk (fun g => markIntH ao j cap (.int (j : Int)) (.int (mk k0 1 0 j)) g) _ (hk _) rfl fun w hw => hw.re 0 _ rfl [fun i => .int (mk k0 1 0 i)] ⟨fun i hi => by simp only [SC.den, lowI]; rw [if_pos hi], trivial⟩
  · refine Next.mk (fun g => markIntH ao n cap (.int ((0 : Nat) : Int)) (.int (mk k0 1 0 0)) g) _ ⟨_, rfl, rfl⟩ ?_ fun w hw => hw.re 0 _ rfl [fun i => .int (lowI i 0 (mk k0 1 0 i) (g0 i))] ⟨fun i hi => by simp [SC.den, lowI], trivial⟩
    rw [h1]
    simp [markIntH, SV.den, SA.den, SC.den, mk]
theorem markIntS_T (ao : Option Addr) (t n rc cap : Nat) (g0 : Nat → Int) (k0 : Int) : (exFn Try.prog {L := [(2, sMarkIntL ao t n rc cap g0 k0)]} 400 Try.f43 ([.a (.c (.sl 0 ao n cap)), .a (.c (.int k0))]) (markIntT ao t n rc [fun i => .int (g0 i)]) (fun v ch => v.den = .int .i64 (mk k0 1 0 n) ∧ ch[0]? = some (.row ⟨true, ao, t, 1, n, rc, [fun i => .int (mk k0 1 0 i)]⟩))) = (
  (([(Value.slice ao n cap), (Value.int IntKind.i64 k0), (Value.tuple (List.toArray [])), (Value.tuple (List.toArray [])), (Value.int IntKind.i64 (0 : Int)), (Value.int IntKind.i64 (0 : Int)), (Value.tuple (List.toArray [])), (Value.tuple (List.toArray [])), (Value.tuple (List.toArray [])), (Value.tuple (List.toArray [])), (Value.tuple (List.toArray [])), (Value.tuple (List.toArray [])), (Value.tuple (List.toArray [])), (Value.tuple (List.toArray [])), (Value.tuple (List.toArray [])), (Value.tuple (List.toArray [])), (Value.tuple (List.toArray [])), (Value.tuple (List.toArray [])), (Value.tuple (List.toArray []))] = [(Value.slice ao n cap), (Value.int IntKind.i64 k0), (Value.tuple (List.toArray [])), (Value.tuple (List.toArray [])), (Value.int IntKind.i64 (0 : Int)), (Value.int IntKind.i64 (0 : Int)), (Value.tuple (List.toArray [])), (Value.tuple (List.toArray [])), (Value.tuple (List.toArray [])), (Value.tuple (List.toArray [])), (Value.tuple (List.toArray [])), (Value.tuple (List.toArray [])), (Value.tuple (List.toArray [])), (Value.tuple (List.toArray [])), (Value.tuple (List.toArray [])), (Value.tuple (List.toArray [])), (Value.tuple (List.toArray [])), (Value.tuple (List.toArray [])), (Value.tuple (List.toArray []))] ∧
  [(Ch.row (Row.mk Bool.true ao t 1 n rc [(fun (i0 : Nat) => (SC.int (g0 i0)))]))] = [(Ch.row (Row.mk Bool.true ao t 1 n rc [(fun (i1 : Nat) => (SC.int (g0 i1)))]))]) ∧
  (∀ g2 : (Nat →
  Value),
  ((Value.int IntKind.i64 (mk k0 1 0 n)) = (Value.int IntKind.i64 (mk k0 1 0 n)) ∧
  (Option.some (Ch.row (Row.mk Bool.true ao t 1 n rc [(fun (i3 : Nat) => (SC.int (mk k0 1 0 i3)))]))) = (Option.some (Ch.row (Row.mk Bool.true ao t 1 n rc [(fun (i4 : Nat) => (SC.int (mk k0 1 0 i4)))]))))))) := by kernel_rfl
theorem markIntS_any (ao : Option Addr) (t n rc cap : Nat) (g0 : Nat → Int) (k0 : Int) (w : World) (hn : n ≤ 2097152 ∧ 0 ≤ k0 ∧ k0 ≤ 1099511627776) (h : Row.sat w ⟨true, ao, t, 1, n, rc, [fun i => .int (g0 i)]⟩) :
    Calls Try.prog 43 #[.slice ao n cap, .int .i64 k0] w fun e w' => e = .returned (.int .i64 (mk k0 1 0 n)) ∧ HS ⟨w, (Ch.row ⟨true, ao, t, 1, n, rc, [fun i => .int (g0 i)]⟩).at⟩ [.row ⟨true, ao, t, 1, n, rc, [fun i => .int (mk k0 1 0 i)]⟩] w' := by
  refine fn_ok mixed (E := { L := [(2, sMarkIntL ao t n rc cap g0 k0)] }) trivial Try.func43 (one_loop (by kernel_rfl) (by kernel_rfl) (markIntL_ok ao t n rc cap g0 k0 hn _)) (@Eq.mpr _ _ (markIntS_T ao t n rc cap g0 k0) ?_) (HS.one h) (fun v ch' w' ⟨hv, hc⟩ hs => ⟨by rw [hv], ?_⟩)
  · refine ⟨⟨rfl, rfl⟩, ?_⟩
    intros
    exact ⟨rfl, rfl⟩
  · have := hs.sel [0] (by simp)
    simpa [selC, hc] using this
def sMarkIntS : Sm := fun args ch k =>
  match args with
  | [.a (.c (.sl id ao n _)), .a (.c kc)] =>
    match ch[id]?, asI kc with
    | some (.row r), some k0 =>
      match r.own with
      | true => ∃ g0 : Nat → Int, (ao = r.ao ∧ n = r.n ∧ r.fld = [fun i => .int (g0 i)] ∧ markC n k0) ∧ k (.a (.c (.int (mk k0 1 0 n)))) (ch.set id (.row { r with fld := [fun i => .int (mk k0 1 0 i)] })) [id]
      | false => False
    | _, _ => False
  | _ => False
theorem sMarkIntS_ok : SmOK Try.prog 43 sMarkIntS := by
  refine smTurn Try.call43 fun args ch k w X h0 hs => ?_
  unfold sMarkIntS at h0
  split at h0
  · rename_i id ao n cap kc
    split at h0
    · rename_i r k0 hid hkc
      split at h0
      · rename_i ho
        obtain ⟨g0, ⟨rfl, rfl, hf, hn⟩, h0⟩ := h0
        have hr : r.sat w := hs.sat id _ hid
        have hs' : r.s = 1 := by have := hr.1; rw [hf] at this; exact this.symm
        obtain ⟨ow, ao, t, s', n, rc, fs⟩ := r
        simp only at hf ho hs' hr h0 hn
        subst hf
        subst ho
        subst hs'
        refine ⟨_, id, _, [fun i => .int (mk k0 1 0 i)], hid, rfl, h0, ?_⟩
        simp only [List.map_cons, List.map_nil, den_a, den_c, asI_den hkc]
        exact markIntS_any ao t n rc cap g0 k0 w hn hr
      · exact h0.elim
    · exact h0.elim
  · exact h0.elim

/-! laws.heldIntS: where it holds the marks -/
def heldIntH (ao : Option Addr) (n cap : Nat) (i kk : SC) (g : Nat → Value) : List SV := [.a (.c (.sl 0 ao n cap)), .a (.c kk), .a (.c (.val (g 2))), .a (.c (.val (g 3))), .a (.c (.il 0)), .a (.c i), .a (.c (.val (g 6))), .a (.c (.val (g 7))), .a (.c (.val (g 8))), .a (.c (.val (g 9))), .a (.c (.val (g 10))), .a (.c (.val (g 11))), .a (.c (.val (g 12))), .a (.c (.val (g 13))), .a (.c (.val (g 14))), .a (.c (.val (g 15))), .a (.c (.val (g 16))), .a (.c (.val (g 17))), .a (.c (.val (g 18))), .a (.c (.val (g 19))), .a (.c (.val (g 20)))]
def heldIntT (ao : Option Addr) (n : Nat) (k0 : Int) : List Ch := [.row ⟨false, ao, 0, 1, n, 0, [fun i => .int (mk k0 1 0 i)]⟩]
def sHeldIntL (ao : Option Addr) (n cap : Nat) (k0 : Int) : LSm := fun ts ch k =>
  (ts.map SV.den = (heldIntH ao n cap (.il 0) (.int k0) (fun d => (ts.getD d .undef).den)).map SV.den ∧ ch = heldIntT ao n k0) ∧
    ∀ g, k (.exit 0) (heldIntH ao n cap (.int (n : Int)) (.int (mk k0 1 0 n)) g) (heldIntT ao n k0)
theorem heldIntB (ao : Option Addr) (n cap : Nat) (k0 : Int) (j : Nat) (g : Nat → Value) (NX : List SV → List Ch → Prop) (kx : Exit → List SV → List Ch → Prop) : (exCode Try.prog {} 400 (theLoop Try.f51 0) (heldIntH ao n cap (.int (j : Int)) (.int (mk k0 1 0 j)) g) (heldIntT ao n k0) (loopK NX kx)) = (
  (((decide (((j : Nat) : Int) < ((n : Nat) : Int))) = Bool.true →
  (ao = ao ∧
   (n = n ∧
   ((0 ≤ ((j : Nat) : Int) ∧ ((j : Nat) : Int) < ((n : Nat) : Int)) ∧
   (ao = ao ∧
   (j < n ∧
   ((((mk k0 1 0 j) != (mk k0 1 0 j)) = Bool.true →
   (kx Exit.ret [(SV.a (SA.c (SC.sl 0 ao n cap))), (SV.a (SA.c (SC.int (mk k0 1 0 j)))), (SV.a (SA.c (SC.val (g 2)))), (SV.a (SA.c (SC.val (g 3)))), (SV.a (SA.c (SC.il (-1 : Int)))), (SV.a (SA.c (SC.int ((j : Nat) : Int)))), (SV.a (SA.c (SC.int ((j : Nat) : Int)))), (SV.a (SA.c (SC.sl 0 ao n cap))), (SV.a (SA.c (SC.int ((n : Nat) : Int)))), (SV.a (SA.c (SC.lit Bool.true))), (SV.a (SA.c (SC.val (g 10)))), (SV.a (SA.c (SC.val (g 11)))), (SV.a (SA.c (SC.sl 0 ao n cap))), (SV.a (SA.c (SC.int ((j : Nat) : Int)))), (SV.a (SA.c (SC.rptr 0 ao 1 j 0))), (SV.a (SA.c (SC.int (mk k0 1 0 j)))), (SV.a (SA.c (SC.int (mk k0 1 0 j)))), (SV.a (SA.c (SC.lit Bool.true))), (SV.a (SA.c (SC.val (g 18)))), (SV.a (SA.c (SC.val (g 19)))), (SV.a (SA.c (SC.val (g 20))))] [(Ch.row (Row.mk Bool.false ao 0 1 n 0 [(fun (i0 : Nat) => (SC.int (mk k0 1 0 i0)))]))])) ∧
   (((mk k0 1 0 j) != (mk k0 1 0 j)) = Bool.false →
   ((rng ((mk k0 1 0 j) + (1 : Int))) ∧
    ((rng (((j : Nat) : Int) + (1 : Int))) ∧
    (NX [(SV.a (SA.c (SC.sl 0 ao n cap))), (SV.a (SA.c (SC.int ((mk k0 1 0 j) + (1 : Int))))), (SV.a (SA.c (SC.val (g 2)))), (SV.a (SA.c (SC.val (g 3)))), (SV.a (SA.c (SC.il (0 : Int)))), (SV.a (SA.c (SC.int (((j : Nat) : Int) + (1 : Int))))), (SV.a (SA.c (SC.int ((j : Nat) : Int)))), (SV.a (SA.c (SC.sl 0 ao n cap))), (SV.a (SA.c (SC.int ((n : Nat) : Int)))), (SV.a (SA.c (SC.lit Bool.true))), (SV.a (SA.c (SC.int ((j : Nat) : Int)))), (SV.a (SA.c (SC.int (((j : Nat) : Int) + (1 : Int))))), (SV.a (SA.c (SC.sl 0 ao n cap))), (SV.a (SA.c (SC.int ((j : Nat) : Int)))), (SV.a (SA.c (SC.rptr 0 ao 1 j 0))), (SV.a (SA.c (SC.int (mk k0 1 0 j)))), (SV.a (SA.c (SC.int (mk k0 1 0 j)))), (SV.a (SA.c (SC.lit Bool.false))), (SV.a (SA.c (SC.int (mk k0 1 0 j)))), (SV.a (SA.c (SC.int ((mk k0 1 0 j) + (1 : Int))))), (SV.a (SA.c (SC.val (g 20))))] [(Ch.row (Row.mk Bool.false ao 0 1 n 0 [(fun (i1 : Nat) => (SC.int (mk k0 1 0 i1)))]))]))))))))))) ∧
  ((decide (((j : Nat) : Int) < ((n : Nat) : Int))) = Bool.false →
  (kx (Exit.exit 0) [(SV.a (SA.c (SC.sl 0 ao n cap))), (SV.a (SA.c (SC.int (mk k0 1 0 j)))), (SV.a (SA.c (SC.val (g 2)))), (SV.a (SA.c (SC.val (g 3)))), (SV.a (SA.c (SC.il (0 : Int)))), (SV.a (SA.c (SC.int ((j : Nat) : Int)))), (SV.a (SA.c (SC.int ((j : Nat) : Int)))), (SV.a (SA.c (SC.sl 0 ao n cap))), (SV.a (SA.c (SC.int ((n : Nat) : Int)))), (SV.a (SA.c (SC.lit Bool.false))), (SV.a (SA.c (SC.val (g 10)))), (SV.a (SA.c (SC.val (g 11)))), (SV.a (SA.c (SC.val (g 12)))), (SV.a (SA.c (SC.val (g 13)))), (SV.a (SA.c (SC.val (g 14)))), (SV.a (SA.c (SC.val (g 15)))), (SV.a (SA.c (SC.val (g 16)))), (SV.a (SA.c (SC.val (g 17)))), (SV.a (SA.c (SC.val (g 18)))), (SV.a (SA.c (SC.val (g 19)))), (SV.a (SA.c (SC.val (g 20))))] [(Ch.row (Row.mk Bool.false ao 0 1 n 0 [(fun (i2 : Nat) => (SC.int (mk k0 1 0 i2)))]))])))) := by kernel_rfl
theorem heldIntL_ok (ao : Option Addr) (n cap : Nat) (k0 : Int) (hn : n ≤ 2097152 ∧ 0 ≤ k0 ∧ k0 ≤ 1099511627776) (X : Cx) : LoopOK Try.prog X (theLoop Try.f51 0) (sHeldIntL ao n cap k0) := by
  intro ts ch k a w hS hT hd hs
  obtain ⟨⟨h1, rfl⟩, hk⟩ := hS
  refine loop_ok mixed (E := {}) trivial (loopsOK_nil _ _ _) 400 n (fun j ts ch => ∃ g, ts = heldIntH ao n cap (.int (j : Int)) (.int (mk k0 1 0 j)) g ∧ ch = heldIntT ao n k0) ?_ ?_ hT hd hs
  · rintro j _ _ ⟨g, rfl, rfl⟩ hj
    refine (@Eq.mpr _ _ (heldIntB ao n cap k0 j g _ _) ?_)
    have hb := mk_bound (s := 1) (c := 0) hn hj (by omega) (by omega)
    refine ⟨fun hlt => ?_, fun hge => ?_⟩
    · have hlt' : j < n := by simpa using hlt
      have hjn : (0 : Int) ≤ (j : Int) ∧ (j : Int) < (n : Int) := ⟨by omega, by omega⟩
      have hnx := mk_next k0 1 j
      repeat' (first | exact rfl | exact True.intro | assumption | refine And.intro ?_ ?_ | omega | (intro hne; exfalso; simp [mk] at hne; omega) | (intro hne; exfalso; simp [mk] at hne; done) | intro _)
      refine Next.mk (fun g => heldIntH ao n cap (.int ((j + 1 : Nat) : Int)) (.int (mk k0 1 0 (j + 1))) g) _ ⟨_, rfl, rfl⟩ ?_ fun w hw => hw
      rw [hnx]
      simp [heldIntH, SV.den, SA.den, SC.den]
      try omega
    · have hjn : j = n := by have : ¬ (j < n) := by simpa using hge
                             omega
      subst hjn
      exact Next.mk (fun g => heldIntH ao j cap (.int (j : Int)) (.int (mk k0 1 0 j)) g) _ (hk _) rfl fun w hw => hw
  · refine Next.mk (fun g => heldIntH ao n cap (.int ((0 : Nat) : Int)) (.int (mk k0 1 0 0)) g) _ ⟨_, rfl, rfl⟩ ?_ fun w hw => hw
    rw [h1]
    simp [heldIntH, SV.den, SA.den, SC.den, mk]
theorem heldIntS_T (ao : Option Addr) (n cap : Nat) (k0 : Int) : (exFn Try.prog {L := [(2, sHeldIntL ao n cap k0)]} 400 Try.f51 ([.a (.c (.sl 0 ao n cap)), .a (.c (.int k0))]) (heldIntT ao n k0) (fun v _ => v.den = .int .i64 (mk k0 1 0 n))) = (
  (([(Value.slice ao n cap), (Value.int IntKind.i64 k0), (Value.tuple (List.toArray [])), (Value.tuple (List.toArray [])), (Value.int IntKind.i64 (0 : Int)), (Value.int IntKind.i64 (0 : Int)), (Value.tuple (List.toArray [])), (Value.tuple (List.toArray [])), (Value.tuple (List.toArray [])), (Value.tuple (List.toArray [])), (Value.tuple (List.toArray [])), (Value.tuple (List.toArray [])), (Value.tuple (List.toArray [])), (Value.tuple (List.toArray [])), (Value.tuple (List.toArray [])), (Value.tuple (List.toArray [])), (Value.tuple (List.toArray [])), (Value.tuple (List.toArray [])), (Value.tuple (List.toArray [])), (Value.tuple (List.toArray [])), (Value.tuple (List.toArray []))] = [(Value.slice ao n cap), (Value.int IntKind.i64 k0), (Value.tuple (List.toArray [])), (Value.tuple (List.toArray [])), (Value.int IntKind.i64 (0 : Int)), (Value.int IntKind.i64 (0 : Int)), (Value.tuple (List.toArray [])), (Value.tuple (List.toArray [])), (Value.tuple (List.toArray [])), (Value.tuple (List.toArray [])), (Value.tuple (List.toArray [])), (Value.tuple (List.toArray [])), (Value.tuple (List.toArray [])), (Value.tuple (List.toArray [])), (Value.tuple (List.toArray [])), (Value.tuple (List.toArray [])), (Value.tuple (List.toArray [])), (Value.tuple (List.toArray [])), (Value.tuple (List.toArray [])), (Value.tuple (List.toArray [])), (Value.tuple (List.toArray []))] ∧
  [(Ch.row (Row.mk Bool.false ao 0 1 n 0 [(fun (i0 : Nat) => (SC.int (mk k0 1 0 i0)))]))] = [(Ch.row (Row.mk Bool.false ao 0 1 n 0 [(fun (i1 : Nat) => (SC.int (mk k0 1 0 i1)))]))]) ∧
  (∀ g2 : (Nat →
  Value),
  (Value.int IntKind.i64 (mk k0 1 0 n)) = (Value.int IntKind.i64 (mk k0 1 0 n))))) := by kernel_rfl
theorem heldIntS_any (ao : Option Addr) (n cap : Nat) (k0 : Int) (w : World) (hn : n ≤ 2097152 ∧ 0 ≤ k0 ∧ k0 ≤ 1099511627776) (h : Row.sat w ⟨false, ao, 0, 1, n, 0, [fun i => .int (mk k0 1 0 i)]⟩) :
    Calls Try.prog 51 #[.slice ao n cap, .int .i64 k0] w fun e w' => e = .returned (.int .i64 (mk k0 1 0 n)) ∧ Below w.heap.size w w' := by
  refine fn_ok mixed (E := { L := [(2, sHeldIntL ao n cap k0)] }) trivial Try.func51 (one_loop (by kernel_rfl) (by kernel_rfl) (heldIntL_ok ao n cap k0 hn _)) (@Eq.mpr _ _ (heldIntS_T ao n cap k0) ?_) (HS.rows (fun _ => False) [⟨false, ao, 0, 1, n, 0, [fun i => .int (mk k0 1 0 i)]⟩] (by simpa using h)) (fun v ch' w' hv hs => ⟨by rw [hv], hs.below⟩)
  refine ⟨⟨rfl, rfl⟩, ?_⟩
  intros
  rfl
def sHeldIntS : Sm := fun args ch k =>
  match args with
  | [.a (.c (.sl id ao n _)), .a (.c kc)] =>
    match ch[id]?, asI kc with
    | some (.row r), some k0 => (ao = r.ao ∧ n = r.n ∧ r.fld = [fun i => .int (mk k0 1 0 i)] ∧ markC n k0) ∧ k (.a (.c (.int (mk k0 1 0 n)))) ch []
    | _, _ => False
  | _ => False
theorem sHeldIntS_ok : SmOK Try.prog 51 sHeldIntS := by
  refine smB Try.call51 fun args ch k w X h0 hs => ?_
  unfold sHeldIntS at h0
  split at h0
  · rename_i id ao n cap kc
    split at h0
    · rename_i r k0 hid hkc
      obtain ⟨⟨rfl, rfl, hf, hn⟩, h0⟩ := h0
      refine ⟨_, h0, ?_⟩
      simp only [List.map_cons, List.map_nil, den_a, den_c, asI_den hkc]
      exact heldIntS_any r.ao r.n cap k0 w hn (Row.seenAs (hs.sat id _ hid) hf rfl)
    · exact h0.elim
  · exact h0.elim

/-! laws.szIntS -/
theorem szIntS_T (ao : Option Addr) (n cap : Nat) (k0 : Int) : (exFn Try.prog {} 400 Try.f46 ([.a (.c (.sl 0 ao n cap)), .a (.c (.int k0))]) ([]) (fun v _ => v.den = .int .i64 (szI k0 n))) = (
  ((rng (k0 - ((n : Nat) : Int))) ∧
  (((decide ((k0 - ((n : Nat) : Int)) < (0 : Int))) = Bool.true →
  (Value.int IntKind.i64 (-1 : Int)) = (Value.int IntKind.i64 (szI k0 n))) ∧
  ((decide ((k0 - ((n : Nat) : Int)) < (0 : Int))) = Bool.false →
  (Value.int IntKind.i64 (k0 - ((n : Nat) : Int))) = (Value.int IntKind.i64 (szI k0 n)))))) := by kernel_rfl
theorem szIntS_any (ao : Option Addr) (n cap : Nat) (k0 : Int) (w : World) (hn : n ≤ 9223372036854775807 ∧ 0 ≤ k0 ∧ k0 ≤ 1048576) : Calls Try.prog 46 #[.slice ao n cap, .int .i64 k0] w fun e w' => e = .returned (.int .i64 (szI k0 n)) ∧ Below w.heap.size w w' := by
  refine fnB (tb := []) trivial Try.func46 (@Eq.mpr _ _ (szIntS_T ao n cap k0) ?_) (HS.start w (fun _ => False)) (fun v ch' w' hk hs => ⟨by rw [hk], hs.below⟩)
  refine ⟨⟨by omega, by omega⟩, fun h => ?_, fun h => ?_⟩
  · have h' : k0 - (n : Int) < 0 := by simpa using h
    simp only [szI, if_pos h']
  · have h' : ¬ k0 - (n : Int) < 0 := by simpa using h
    simp only [szI, if_neg h']
def sSzIntS : Sm := fun args ch k =>
  match args with
  | [.a (.c (.sl _ _ n _)), .a (.c kc)] =>
    match asI kc with
    | some k0 => szC n k0 ∧ (szLt k0 n → k (.a (.c (.il (-1)))) ch []) ∧ (szGe k0 n → k (.a (.c (.int (szSub k0 n)))) ch [])
    | none => False
  | _ => False
theorem sSzIntS_ok : SmOK Try.prog 46 sSzIntS := by
  refine smB Try.call46 fun args ch k w X h0 hs => ?_
  unfold sSzIntS at h0
  split at h0
  · rename_i id ao n cap kc
    split at h0
    · rename_i k0 hkc
      obtain ⟨hn, h1, h2⟩ := h0
      simp only [List.map_cons, List.map_nil, den_a, den_c, asI_den hkc]
      by_cases hlt : k0 - (n : Int) < 0
      · refine ⟨_, h1 (by omega), ?_⟩
        have := szIntS_any ao n cap k0 w hn
        simp only [szI, if_pos hlt] at this
        exact this
      · refine ⟨_, h2 (by omega), ?_⟩
        have := szIntS_any ao n cap k0 w hn
        simp only [szI, if_neg hlt] at this
        exact this
    · exact h0.elim
  · exact h0.elim

/-! laws.toCommandS -/
def toCommandH (ao : Option Addr) (n cap b : Nat) (i : SC) (g : Nat → Value) : List SV := [.a (.c (.sl 0 ao n cap)), .a (.c (.val (g 1))), .a (.c (.val (g 2))), .a (.c (.sl 1 (some ⟨b, 0, none⟩) n n)), .a (.c i), .a (.c (.val (g 5))), .a (.c (.val (g 6))), .a (.c (.val (g 7))), .a (.c (.val (g 8))), .a (.c (.val (g 9))), .a (.c (.val (g 10))), .a (.c (.val (g 11))), .a (.c (.val (g 12))), .a (.c (.val (g 13))), .a (.c (.val (g 14))), .a (.c (.val (g 15))), .a (.c (.val (g 16))), .a (.c (.val (g 17))), .a (.c (.val (g 18))), .a (.c (.val (g 19))), .a (.c (.val (g 20))), .a (.c (.val (g 21))), .a (.c (.val (g 22)))]
def toCommandT (ao : Option Addr) (n b : Nat) (g0 g1 g2 g3 : Nat → Int) (fs : List (Nat → SC)) : List Ch := [.row ⟨false, ao, 0, 4, n, 0, [fun i => .int (g0 i), fun i => .int (g1 i), fun i => .int (g2 i), fun i => .int (g3 i)]⟩, .row ⟨true, some ⟨b, 0, none⟩, 41, 4, n, n, fs⟩]
def sToCommandL (ao : Option Addr) (n cap : Nat) (g0 g1 g2 g3 : Nat → Int) : LSm := fun ts ch k =>
  ∃ b, (ts.map SV.den = (toCommandH ao n cap b (.il 0) (fun d => (ts.getD d .undef).den)).map SV.den ∧ ch = toCommandT ao n b g0 g1 g2 g3 [fun _ => .il 0, fun _ => .il 0, fun _ => .il 0, fun _ => .il 0]) ∧
    ∀ g, k (.exit 0) (toCommandH ao n cap b (.int (n : Int)) g) (toCommandT ao n b g0 g1 g2 g3 [fun i => .int (g0 i), fun i => .int (g1 i), fun i => .int (g2 i), fun i => .int (g3 i)])
theorem toCommand_T (aKind aBank aRow aCol : Int) : (exFn Try.prog {tb := []} 400 Try.f58 ([.a (.agg [.int aKind, .int aBank, .int aRow, .int aCol])]) ([]) (fun v _ => v.den = .agg #[.int .i64 (aKind), .int .i64 (aBank), .int .i64 (aRow), .int .i64 (aCol)])) = (
  (∀ b0 : Nat,
  (∀ b1 : Nat,
  (∀ b2 : Nat,
  (b0 = b0 ∧
  (b2 = b2 ∧
  (b0 = b0 ∧
  (b2 = b2 ∧
  (b0 = b0 ∧
  (b2 = b2 ∧
  (b0 = b0 ∧
  (b2 = b2 ∧
  (b2 = b2 ∧
  (b1 = b1 ∧
  (b1 = b1 ∧
  (Value.agg (List.toArray [(Value.int IntKind.i64 aKind), (Value.int IntKind.i64 aBank), (Value.int IntKind.i64 aRow), (Value.int IntKind.i64 aCol)])) = (Value.agg (List.toArray [(Value.int IntKind.i64 aKind), (Value.int IntKind.i64 aBank), (Value.int IntKind.i64 aRow), (Value.int IntKind.i64 aCol)]))))))))))))))))) := by kernel_rfl
theorem toCommand_any (aKind aBank aRow aCol : Int) (w : World) : Calls Try.prog 58 #[.agg #[.int .i64 aKind, .int .i64 aBank, .int .i64 aRow, .int .i64 aCol]] w fun e w' => e = .returned (.agg #[.int .i64 (aKind), .int .i64 (aBank), .int .i64 (aRow), .int .i64 (aCol)]) ∧ Below w.heap.size w w' := by
  refine fnB (tb := []) trivial Try.func58 (@Eq.mpr _ _ (toCommand_T aKind aBank aRow aCol) ?_) (HS.start w (fun _ => False)) (fun v ch' w' hk hs => ⟨by rw [hk], hs.below⟩)
  intros
  simp
def sToCommand : Sm := fun args ch k =>
  match args with
  | [.a (.agg [c0, c1, c2, c3])] =>
    match ints [c0, c1, c2, c3], bools [] with
    | some [aKind, aBank, aRow, aCol], some [] => k (.a (.agg [.int (aKind), .int (aBank), .int (aRow), .int (aCol)])) ch []
    | _, _ => False
  | _ => False
theorem sToCommand_ok_ {f : FuncId} (hc : ∀ args w, (callFunc f args).run Try.prog w = .ok (.enter f args) w) (h : ∀ (aKind aBank aRow aCol : Int) (w : World), Calls Try.prog f #[.agg #[.int .i64 aKind, .int .i64 aBank, .int .i64 aRow, .int .i64 aCol]] w fun e w' => e = .returned (.agg #[.int .i64 (aKind), .int .i64 (aBank), .int .i64 (aRow), .int .i64 (aCol)]) ∧ Below w.heap.size w w') : SmOK Try.prog f sToCommand := by
  refine smB hc fun args ch k w X h0 hs => ?_
  unfold sToCommand at h0
  split at h0
  · split at h0
    · rename_i aKind aBank aRow aCol hi hb
      obtain ⟨e0, hi1⟩ := ints_cons hi
      obtain ⟨e1, hi2⟩ := ints_cons hi1
      obtain ⟨e2, hi3⟩ := ints_cons hi2
      obtain ⟨e3, hi4⟩ := ints_cons hi3
      refine ⟨_, h0, ?_⟩
      simp only [List.map_cons, List.map_nil, den_a, den_c, SA.den, e0, e1, e2, e3]
      exact h aKind aBank aRow aCol w
    · exact h0.elim
  · exact h0.elim
theorem sToCommand_ok : SmOK Try.prog 58 sToCommand := sToCommand_ok_ Try.call58 toCommand_any
theorem toCommandB (ao : Option Addr) (n cap b j : Nat) (g0 g1 g2 g3 : Nat → Int) (g : Nat → Value) (NX : List SV → List Ch → Prop) (kx : Exit → List SV → List Ch → Prop) : (exCode Try.prog {tb := [(58, sToCommand)]} 400 (theLoop Try.f28 0) (toCommandH ao n cap b (.int (j : Int)) g) (toCommandT ao n b g0 g1 g2 g3 [fun i => .int (lowI i j (g0 i) 0), fun i => .int (lowI i j (g1 i) 0), fun i => .int (lowI i j (g2 i) 0), fun i => .int (lowI i j (g3 i) 0)]) (loopK NX kx)) = (
  (((decide (((j : Nat) : Int) < ((n : Nat) : Int))) = Bool.true →
  (ao = ao ∧
   (n = n ∧
   ((0 ≤ ((j : Nat) : Int) ∧ ((j : Nat) : Int) < ((n : Nat) : Int)) ∧
   (ao = ao ∧
   (j < n ∧
   ((Option.some (Addr.mk b 0 Option.none)) = (Option.some (Addr.mk b 0 Option.none)) ∧
   (n = n ∧
   ((0 ≤ ((j : Nat) : Int) ∧ ((j : Nat) : Int) < ((n : Nat) : Int)) ∧
   ((Option.some (Addr.mk b 0 Option.none)) = (Option.some (Addr.mk b 0 Option.none)) ∧
   (j < n ∧
   ((rng (((j : Nat) : Int) + (1 : Int))) ∧
   (NX [(SV.a (SA.c (SC.sl 0 ao n cap))), (SV.a (SA.c (SC.val (g 1)))), (SV.a (SA.c (SC.val (g 2)))), (SV.a (SA.c (SC.sl 1 (Option.some (Addr.mk b 0 Option.none)) n n))), (SV.a (SA.c (SC.int (((j : Nat) : Int) + (1 : Int))))), (SV.a (SA.c (SC.val (g 5)))), (SV.a (SA.c (SC.val (g 6)))), (SV.a (SA.c (SC.val (g 7)))), (SV.a (SA.c (SC.int ((j : Nat) : Int)))), (SV.a (SA.c (SC.sl 0 ao n cap))), (SV.a (SA.c (SC.int ((n : Nat) : Int)))), (SV.a (SA.c (SC.lit Bool.true))), (SV.a (SA.c (SC.int ((j : Nat) : Int)))), (SV.a (SA.c (SC.int (((j : Nat) : Int) + (1 : Int))))), (SV.a (SA.c (SC.sl 1 (Option.some (Addr.mk b 0 Option.none)) n n))), (SV.a (SA.c (SC.int ((j : Nat) : Int)))), (SV.a (SA.c (SC.sl 0 ao n cap))), (SV.a (SA.c (SC.int ((j : Nat) : Int)))), (SV.a (SA.c (SC.rptr 0 ao 4 j 0))), (SV.a (SA.agg [(SC.int (g0 j)), (SC.int (g1 j)), (SC.int (g2 j)), (SC.int (g3 j))])), (SV.a (SA.agg [(SC.int (g0 j)), (SC.int (g1 j)), (SC.int (g2 j)), (SC.int (g3 j))])), (SV.a (SA.c (SC.rptr 1 (Option.some (Addr.mk b 0 Option.none)) 4 j 0))), (SV.a (SA.c (SC.val (g 22))))] [(Ch.row (Row.mk Bool.false ao 0 4 n 0 [(fun (i0 : Nat) => (SC.int (g0 i0))), (fun (i1 : Nat) => (SC.int (g1 i1))), (fun (i2 : Nat) => (SC.int (g2 i2))), (fun (i3 : Nat) => (SC.int (g3 i3)))])), (Ch.row (Row.mk Bool.true (Option.some (Addr.mk b 0 Option.none)) 41 4 n n [(fun (j4 : Nat) => (SC.int (if j4 = j then (g0 j) else (if j4 < j then (g0 j4) else (0 : Int))))), (fun (j5 : Nat) => (SC.int (if j5 = j then (g1 j) else (if j5 < j then (g1 j5) else (0 : Int))))), (fun (j6 : Nat) => (SC.int (if j6 = j then (g2 j) else (if j6 < j then (g2 j6) else (0 : Int))))), (fun (j7 : Nat) => (SC.int (if j7 = j then (g3 j) else (if j7 < j then (g3 j7) else (0 : Int)))))]))]))))))))))))) ∧
  ((decide (((j : Nat) : Int) < ((n : Nat) : Int))) = Bool.false →
  (kx (Exit.exit 0) [(SV.a (SA.c (SC.sl 0 ao n cap))), (SV.a (SA.c (SC.val (g 1)))), (SV.a (SA.c (SC.val (g 2)))), (SV.a (SA.c (SC.sl 1 (Option.some (Addr.mk b 0 Option.none)) n n))), (SV.a (SA.c (SC.int ((j : Nat) : Int)))), (SV.a (SA.c (SC.val (g 5)))), (SV.a (SA.c (SC.val (g 6)))), (SV.a (SA.c (SC.val (g 7)))), (SV.a (SA.c (SC.int ((j : Nat) : Int)))), (SV.a (SA.c (SC.sl 0 ao n cap))), (SV.a (SA.c (SC.int ((n : Nat) : Int)))), (SV.a (SA.c (SC.lit Bool.false))), (SV.a (SA.c (SC.val (g 12)))), (SV.a (SA.c (SC.val (g 13)))), (SV.a (SA.c (SC.val (g 14)))), (SV.a (SA.c (SC.val (g 15)))), (SV.a (SA.c (SC.val (g 16)))), (SV.a (SA.c (SC.val (g 17)))), (SV.a (SA.c (SC.val (g 18)))), (SV.a (SA.c (SC.val (g 19)))), (SV.a (SA.c (SC.val (g 20)))), (SV.a (SA.c (SC.val (g 21)))), (SV.a (SA.c (SC.val (g 22))))] [(Ch.row (Row.mk Bool.false ao 0 4 n 0 [(fun (i8 : Nat) => (SC.int (g0 i8))), (fun (i9 : Nat) => (SC.int (g1 i9))), (fun (i10 : Nat) => (SC.int (g2 i10))), (fun (i11 : Nat) => (SC.int (g3 i11)))])), (Ch.row (Row.mk Bool.true (Option.some (Addr.mk b 0 Option.none)) 41 4 n n [(fun (i12 : Nat) => (SC.int (if i12 < j then (g0 i12) else (0 : Int)))), (fun (i13 : Nat) => (SC.int (if i13 < j then (g1 i13) else (0 : Int)))), (fun (i14 : Nat) => (SC.int (if i14 < j then (g2 i14) else (0 : Int)))), (fun (i15 : Nat) => (SC.int (if i15 < j then (g3 i15) else (0 : Int))))]))])))) := by kernel_rfl
theorem toCommandL_ok (ao : Option Addr) (n cap : Nat) (g0 g1 g2 g3 : Nat → Int) (hn : n ≤ 2097152) (X : Cx) : LoopOK Try.prog X (theLoop Try.f28 0) (sToCommandL ao n cap g0 g1 g2 g3) := by
  intro ts ch k a w hS hT hd hs
  obtain ⟨b, ⟨h1, rfl⟩, hk⟩ := hS
  refine loop_ok mixed (E := {tb := [(58, sToCommand)]}) ⟨sToCommand_ok, trivial⟩ (loopsOK_nil _ _ _) 400 n (fun j ts ch => ∃ g, ts = toCommandH ao n cap b (.int (j : Int)) g ∧ ch = toCommandT ao n b g0 g1 g2 g3 [fun i => .int (lowI i j (g0 i) 0), fun i => .int (lowI i j (g1 i) 0), fun i => .int (lowI i j (g2 i) 0), fun i => .int (lowI i j (g3 i) 0)]) ?_ ?_ hT hd hs
  · rintro j _ _ ⟨g, rfl, rfl⟩ hj
    refine (@Eq.mpr _ _ (toCommandB ao n cap b j g0 g1 g2 g3 g _ _) ?_)
    refine ⟨fun hlt => ?_, fun hge => ?_⟩
    · have hlt' : j < n := by simpa using hlt
      have hjn : (0 : Int) ≤ (j : Int) ∧ (j : Int) < (n : Int) := ⟨by omega, by omega⟩
      repeat' (first | exact rfl | exact True.intro | assumption | refine And.intro ?_ ?_ | omega)
      refine Next.mk (fun g => toCommandH ao n cap b (.int ((j + 1 : Nat) : Int)) g) _ ⟨_, rfl, rfl⟩ rfl fun w hw => hw.re 1 _ rfl [fun i => .int (lowI i (j + 1) (g0 i) 0), fun i => .int (lowI i (j + 1) (g1 i) 0), fun i => .int (lowI i (j + 1) (g2 i) 0), fun i => .int (lowI i (j + 1) (g3 i) 0)] ?_
      exact ⟨fun i _ => congrArg (Value.int .i64) (sel_low g0 i j), fun i _ => congrArg (Value.int .i64) (sel_low g1 i j), fun i _ => congrArg (Value.int .i64) (sel_low g2 i j), fun i _ => congrArg (Value.int .i64) (sel_low g3 i j), trivial⟩
    · have hjn : j = n := by have : ¬ (j < n) := by simpa using hge
                             omega
      subst hjn
      exact Next.mk (fun g => toCommandH ao j cap b (.int (j : Int)) g) _ (hk _) rfl fun w hw => hw.re 1 _ rfl [fun i => .int (g0 i), fun i => .int (g1 i), fun i => .int (g2 i), fun i => .int (g3 i)] ⟨fun i hi => by simp only [SC.den, lowI]; rw [if_pos hi], fun i hi => by simp only [SC.den, lowI]; rw [if_pos hi], fun i hi => by simp only [SC.den, lowI]; rw [if_pos hi], fun i hi => by simp only [SC.den, lowI]; rw [if_pos hi], trivial⟩
  · exact Next.mk (fun g => toCommandH ao n cap b (.int ((0 : Nat) : Int)) g) _ ⟨_, rfl, rfl⟩ h1 fun w hw => hw.re 1 _ rfl [fun i => .int (lowI i 0 (g0 i) 0), fun i => .int (lowI i 0 (g1 i) 0), fun i => .int (lowI i 0 (g2 i) 0), fun i => .int (lowI i 0 (g3 i) 0)] ⟨fun i hi => by simp [SC.den, lowI], fun i hi => by simp [SC.den, lowI], fun i hi => by simp [SC.den, lowI], fun i hi => by simp [SC.den, lowI], trivial⟩
theorem toCommandS_T (ao : Option Addr) (n cap : Nat) (g0 g1 g2 g3 : Nat → Int) : (exFn Try.prog {L := [(3, sToCommandL ao n cap g0 g1 g2 g3)]} 400 Try.f28 ([.a (.c (.sl 0 ao n cap))]) ([.row ⟨false, ao, 0, 4, n, 0, [fun i => .int (g0 i), fun i => .int (g1 i), fun i => .int (g2 i), fun i => .int (g3 i)]⟩]) (fun v ch => ∃ b, v.den = .slice (some ⟨b, 0, none⟩) n n ∧ ch[1]? = some (.row ⟨true, some ⟨b, 0, none⟩, 41, 4, n, n, [fun i => .int (g0 i), fun i => .int (g1 i), fun i => .int (g2 i), fun i => .int (g3 i)]⟩))) = (
  (((n : Nat) : Int) = ((n : Nat) : Int) ∧
  ((mkC 32 ((n : Nat) : Int)) ∧
  (∀ b0 : Nat,
  (Exists (fun (b1 : Nat) => (([(Value.slice ao n cap), (Value.tuple (List.toArray [])), (Value.slice Option.none 0 0), (Value.slice (Option.some (Addr.mk b0 0 Option.none)) n n), (Value.int IntKind.i64 (0 : Int)), (Value.slice ao n cap), (Value.int IntKind.i64 ((n : Nat) : Int)), (Value.slice (Option.some (Addr.mk b0 0 Option.none)) n n), (Value.tuple (List.toArray [])), (Value.tuple (List.toArray [])), (Value.tuple (List.toArray [])), (Value.tuple (List.toArray [])), (Value.tuple (List.toArray [])), (Value.tuple (List.toArray [])), (Value.tuple (List.toArray [])), (Value.tuple (List.toArray [])), (Value.tuple (List.toArray [])), (Value.tuple (List.toArray [])), (Value.tuple (List.toArray [])), (Value.tuple (List.toArray [])), (Value.tuple (List.toArray [])), (Value.tuple (List.toArray [])), (Value.tuple (List.toArray []))] = [(Value.slice ao n cap), (Value.tuple (List.toArray [])), (Value.slice Option.none 0 0), (Value.slice (Option.some (Addr.mk b1 0 Option.none)) n n), (Value.int IntKind.i64 (0 : Int)), (Value.slice ao n cap), (Value.int IntKind.i64 ((n : Nat) : Int)), (Value.slice (Option.some (Addr.mk b0 0 Option.none)) n n), (Value.tuple (List.toArray [])), (Value.tuple (List.toArray [])), (Value.tuple (List.toArray [])), (Value.tuple (List.toArray [])), (Value.tuple (List.toArray [])), (Value.tuple (List.toArray [])), (Value.tuple (List.toArray [])), (Value.tuple (List.toArray [])), (Value.tuple (List.toArray [])), (Value.tuple (List.toArray [])), (Value.tuple (List.toArray [])), (Value.tuple (List.toArray [])), (Value.tuple (List.toArray [])), (Value.tuple (List.toArray [])), (Value.tuple (List.toArray []))] ∧
  [(Ch.row (Row.mk Bool.false ao 0 4 n 0 [(fun (i2 : Nat) => (SC.int (g0 i2))), (fun (i3 : Nat) => (SC.int (g1 i3))), (fun (i4 : Nat) => (SC.int (g2 i4))), (fun (i5 : Nat) => (SC.int (g3 i5)))])), (Ch.row (Row.mk Bool.true (Option.some (Addr.mk b0 0 Option.none)) 41 4 n n [(fun (x6 : Nat) => (SC.il (0 : Int))), (fun (x7 : Nat) => (SC.il (0 : Int))), (fun (x8 : Nat) => (SC.il (0 : Int))), (fun (x9 : Nat) => (SC.il (0 : Int)))]))] = [(Ch.row (Row.mk Bool.false ao 0 4 n 0 [(fun (i10 : Nat) => (SC.int (g0 i10))), (fun (i11 : Nat) => (SC.int (g1 i11))), (fun (i12 : Nat) => (SC.int (g2 i12))), (fun (i13 : Nat) => (SC.int (g3 i13)))])), (Ch.row (Row.mk Bool.true (Option.some (Addr.mk b1 0 Option.none)) 41 4 n n [(fun (x14 : Nat) => (SC.il (0 : Int))), (fun (x15 : Nat) => (SC.il (0 : Int))), (fun (x16 : Nat) => (SC.il (0 : Int))), (fun (x17 : Nat) => (SC.il (0 : Int)))]))]) ∧
  (∀ g18 : (Nat →
  Value),
  (Exists (fun (b19 : Nat) => ((Value.slice (Option.some (Addr.mk b1 0 Option.none)) n n) = (Value.slice (Option.some (Addr.mk b19 0 Option.none)) n n) ∧
  (Option.some (Ch.row (Row.mk Bool.true (Option.some (Addr.mk b1 0 Option.none)) 41 4 n n [(fun (i20 : Nat) => (SC.int (g0 i20))), (fun (i21 : Nat) => (SC.int (g1 i21))), (fun (i22 : Nat) => (SC.int (g2 i22))), (fun (i23 : Nat) => (SC.int (g3 i23)))]))) = (Option.some (Ch.row (Row.mk Bool.true (Option.some (Addr.mk b19 0 Option.none)) 41 4 n n [(fun (i24 : Nat) => (SC.int (g0 i24))), (fun (i25 : Nat) => (SC.int (g1 i25))), (fun (i26 : Nat) => (SC.int (g2 i26))), (fun (i27 : Nat) => (SC.int (g3 i27)))])))))))))))))) := by kernel_rfl
theorem toCommandS_any (ao : Option Addr) (n cap : Nat) (g0 g1 g2 g3 : Nat → Int) (w : World) (hn : n ≤ 2097152) (h : Row.sat w ⟨false, ao, 0, 4, n, 0, [fun i => .int (g0 i), fun i => .int (g1 i), fun i => .int (g2 i), fun i => .int (g3 i)]⟩) :
    Calls Try.prog 28 #[.slice ao n cap] w fun e w' => ∃ b, e = .returned (.slice (some ⟨b, 0, none⟩) n n) ∧ HS ⟨w, fun _ => False⟩ [.row ⟨true, some ⟨b, 0, none⟩, 41, 4, n, n, [fun i => .int (g0 i), fun i => .int (g1 i), fun i => .int (g2 i), fun i => .int (g3 i)]⟩] w' := by
  refine fn_ok mixed (E := { L := [(3, sToCommandL ao n cap g0 g1 g2 g3)] }) trivial Try.func28 (one_loop (by kernel_rfl) (by kernel_rfl) (toCommandL_ok ao n cap g0 g1 g2 g3 hn _)) (@Eq.mpr _ _ (toCommandS_T ao n cap g0 g1 g2 g3) ?_) (HS.rows (fun _ => False) [⟨false, ao, 0, 4, n, 0, [fun i => .int (g0 i), fun i => .int (g1 i), fun i => .int (g2 i), fun i => .int (g3 i)]⟩] (by simpa using h)) (fun v ch' w' ⟨b, hv, hc⟩ hs => ⟨b, by rw [hv], ?_⟩)
  · repeat' (first | exact True.intro | exact rfl | (refine ⟨by omega, by omega, by omega⟩) | (refine fun b => ⟨b, ⟨rfl, rfl⟩, fun g => ⟨b, rfl, rfl⟩⟩) | refine And.intro ?_ ?_)
  · have := hs.sel [1] (by simp)
    simpa [selC, hc] using this
def sToCommandS : Sm := fun args ch k =>
  match args with
  | [.a (.c (.sl id ao n _))] =>
    match ch[id]? with
    | some (.row r) => ∃ g0 : Nat → Int, ∃ g1 : Nat → Int, ∃ g2 : Nat → Int, ∃ g3 : Nat → Int, (ao = r.ao ∧ n = r.n ∧ r.fld = [fun i => .int (g0 i), fun i => .int (g1 i), fun i => .int (g2 i), fun i => .int (g3 i)] ∧ capC n) ∧
        ∀ b, k (.a (.c (.sl ch.length (some ⟨b, 0, none⟩) n n))) (ch ++ [.row ⟨true, some ⟨b, 0, none⟩, 41, 4, n, n, [fun i => .int (g0 i), fun i => .int (g1 i), fun i => .int (g2 i), fun i => .int (g3 i)]⟩]) []
    | _ => False
  | _ => False
theorem sToCommandS_ok : SmOK Try.prog 28 sToCommandS := by
  refine smN Try.call28 fun args ch k w X h0 hs => ?_
  unfold sToCommandS at h0
  split at h0
  · rename_i id ao n cap
    split at h0
    · rename_i r hid
      obtain ⟨g0, g1, g2, g3, ⟨rfl, rfl, hf, hn⟩, h0⟩ := h0
      exact Calls.mono (toCommandS_any r.ao r.n cap g0 g1 g2 g3 w hn (Row.seenAs (hs.sat id _ hid) hf rfl)) fun e w' ⟨b, he, hs'⟩ => ⟨.a (.c (.sl ch.length (some ⟨b, 0, none⟩) r.n r.n)), _, he, hs', rfl, h0 b⟩
    · exact h0.elim
  · exact h0.elim

def eqCommandE (aKind aBank aRow aCol bKind bBank bRow bCol : Int) : Bool := aKind == bKind && aBank == bBank && aRow == bRow && aCol == bCol
theorem eqCommand_T (aKind aBank aRow aCol bKind bBank bRow bCol : Int) : (exFn Try.prog {tb := []} 400 Try.f59 ([.a (.agg [.int aKind, .int aBank, .int aRow, .int aCol]), .a (.agg [.int bKind, .int bBank, .int bRow, .int bCol])]) ([]) (fun v _ => v.den = .bool (eqCommandE aKind aBank aRow aCol bKind bBank bRow bCol))) = (
  (∀ b0 : Nat,
  (∀ b1 : Nat,
  (b0 = b0 ∧
  (b1 = b1 ∧
  (((aKind != bKind) = Bool.true →
  (Value.bool Bool.false) = (Value.bool (eqCommandE aKind aBank aRow aCol bKind bBank bRow bCol))) ∧
  ((aKind != bKind) = Bool.false →
  (b0 = b0 ∧
   (b1 = b1 ∧
   (((aBank != bBank) = Bool.true →
   (Value.bool Bool.false) = (Value.bool (eqCommandE aKind aBank aRow aCol bKind bBank bRow bCol))) ∧
   ((aBank != bBank) = Bool.false →
   (b0 = b0 ∧
    (b1 = b1 ∧
    (((aRow != bRow) = Bool.true →
    (Value.bool Bool.false) = (Value.bool (eqCommandE aKind aBank aRow aCol bKind bBank bRow bCol))) ∧
    ((aRow != bRow) = Bool.false →
    (b0 = b0 ∧
     (b1 = b1 ∧
     (((aCol != bCol) = Bool.true →
     (Value.bool Bool.false) = (Value.bool (eqCommandE aKind aBank aRow aCol bKind bBank bRow bCol))) ∧
     ((aCol != bCol) = Bool.false →
     (Value.bool Bool.true) = (Value.bool (eqCommandE aKind aBank aRow aCol bKind bBank bRow bCol))))))))))))))))))))) := by kernel_rfl
theorem eqCommand_any (aKind aBank aRow aCol bKind bBank bRow bCol : Int) (w : World) : Calls Try.prog 59 #[.agg #[.int .i64 aKind, .int .i64 aBank, .int .i64 aRow, .int .i64 aCol], .agg #[.int .i64 bKind, .int .i64 bBank, .int .i64 bRow, .int .i64 bCol]] w fun e w' => e = .returned (.bool (eqCommandE aKind aBank aRow aCol bKind bBank bRow bCol)) ∧ Below w.heap.size w w' := by
  refine fnB (tb := []) trivial Try.func59 (@Eq.mpr _ _ (eqCommand_T aKind aBank aRow aCol bKind bBank bRow bCol) ?_) (HS.start w (fun _ => False)) (fun v ch' w' hk hs => ⟨by rw [hk], hs.below⟩)
  simp only [eqCommandE]
  repeat' (first | exact rfl | exact True.intro | refine And.intro ?_ ?_ | intro _)
  all_goals (try (simp_all; done))
  all_goals (try (simp_all; omega))
def sEqCommand : Sm := fun args ch k =>
  match args with
  | [.a (.agg [c0, c1, c2, c3]), .a (.agg [c4, c5, c6, c7])] =>
    match ints [c0, c1, c2, c3, c4, c5, c6, c7], bools [] with
    | some [aKind, aBank, aRow, aCol, bKind, bBank, bRow, bCol], some [] => k (.a (.c (.bool (eqCommandE aKind aBank aRow aCol bKind bBank bRow bCol)))) ch []
    | _, _ => False
  | _ => False
theorem sEqCommand_ok_ {f : FuncId} (hc : ∀ args w, (callFunc f args).run Try.prog w = .ok (.enter f args) w) (h : ∀ (aKind aBank aRow aCol bKind bBank bRow bCol : Int) (w : World), Calls Try.prog f #[.agg #[.int .i64 aKind, .int .i64 aBank, .int .i64 aRow, .int .i64 aCol], .agg #[.int .i64 bKind, .int .i64 bBank, .int .i64 bRow, .int .i64 bCol]] w fun e w' => e = .returned (.bool (eqCommandE aKind aBank aRow aCol bKind bBank bRow bCol)) ∧ Below w.heap.size w w') : SmOK Try.prog f sEqCommand := by
  refine smB hc fun args ch k w X h0 hs => ?_
  unfold sEqCommand at h0
  split at h0
  · split at h0
    · rename_i aKind aBank aRow aCol bKind bBank bRow bCol hi hb
      obtain ⟨e0, hi1⟩ := ints_cons hi
      obtain ⟨e1, hi2⟩ := ints_cons hi1
      obtain ⟨e2, hi3⟩ := ints_cons hi2
      obtain ⟨e3, hi4⟩ := ints_cons hi3
      obtain ⟨e4, hi5⟩ := ints_cons hi4
      obtain ⟨e5, hi6⟩ := ints_cons hi5
      obtain ⟨e6, hi7⟩ := ints_cons hi6
      obtain ⟨e7, hi8⟩ := ints_cons hi7
      refine ⟨_, h0, ?_⟩
      simp only [List.map_cons, List.map_nil, den_a, den_c, SA.den, e0, e1, e2, e3, e4, e5, e6, e7]
      exact h aKind aBank aRow aCol bKind bBank bRow bCol w
    · exact h0.elim
  · exact h0.elim
theorem sEqCommand_ok : SmOK Try.prog 59 sEqCommand := sEqCommand_ok_ Try.call59 eqCommand_any
/-! laws.eqCommandS: where both read the same -/
def eqCommandH (ao bo : Option Addr) (n c d : Nat) (i : SC) (g : Nat → Value) : List SV := [.a (.c (.sl 0 ao n c)), .a (.c (.sl 1 bo n d)), .a (.c (.val (g 2))), .a (.c (.val (g 3))), .a (.c (.lit false)), .a (.c i), .a (.c (.val (g 6))), .a (.c (.val (g 7))), .a (.c (.val (g 8))), .a (.c (.val (g 9))), .a (.c (.val (g 10))), .a (.c (.val (g 11))), .a (.c (.val (g 12))), .a (.c (.val (g 13))), .a (.c (.val (g 14))), .a (.c (.val (g 15))), .a (.c (.val (g 16))), .a (.c (.val (g 17))), .a (.c (.val (g 18))), .a (.c (.val (g 19))), .a (.c (.val (g 20))), .a (.c (.val (g 21))), .a (.c (.val (g 22))), .a (.c (.val (g 23))), .a (.c (.val (g 24))), .a (.c (.val (g 25))), .a (.c (.val (g 26)))]
def eqCommandT (ao bo : Option Addr) (n : Nat) (g0 g1 g2 g3 q0 q1 q2 q3 : Nat → Int) : List Ch := [.row ⟨false, ao, 0, 4, n, 0, [fun i => .int (g0 i), fun i => .int (g1 i), fun i => .int (g2 i), fun i => .int (g3 i)]⟩, .row ⟨false, bo, 0, 4, n, 0, [fun i => .int (q0 i), fun i => .int (q1 i), fun i => .int (q2 i), fun i => .int (q3 i)]⟩]
def sEqCommandL (ao bo : Option Addr) (n c d : Nat) (g0 g1 g2 g3 q0 q1 q2 q3 : Nat → Int) : LSm := fun ts ch k =>
  (ts.map SV.den = (eqCommandH ao bo n c d (.il 0) (fun d => (ts.getD d .undef).den)).map SV.den ∧ ch = eqCommandT ao bo n g0 g1 g2 g3 q0 q1 q2 q3) ∧
    ∀ g, k (.exit 0) (eqCommandH ao bo n c d (.int (n : Int)) g) (eqCommandT ao bo n g0 g1 g2 g3 q0 q1 q2 q3)
theorem eqCommandB (ao bo : Option Addr) (n c d j : Nat) (g0 g1 g2 g3 q0 q1 q2 q3 : Nat → Int) (g : Nat → Value) (NX : List SV → List Ch → Prop) (kx : Exit → List SV → List Ch → Prop) : (exCode Try.prog {tb := [(59, sEqCommand)]} 400 (theLoop Try.f29 0) (eqCommandH ao bo n c d (.int (j : Int)) g) (eqCommandT ao bo n g0 g1 g2 g3 q0 q1 q2 q3) (loopK NX kx)) = (
  (((decide (((j : Nat) : Int) < ((n : Nat) : Int))) = Bool.true →
  (ao = ao ∧
   (n = n ∧
   ((0 ≤ ((j : Nat) : Int) ∧ ((j : Nat) : Int) < ((n : Nat) : Int)) ∧
   (ao = ao ∧
   (j < n ∧
   (bo = bo ∧
   (n = n ∧
   ((0 ≤ ((j : Nat) : Int) ∧ ((j : Nat) : Int) < ((n : Nat) : Int)) ∧
   (bo = bo ∧
   (j < n ∧
   (True ∧
   (((!(eqCommandE (g0 j) (g1 j) (g2 j) (g3 j) (q0 j) (q1 j) (q2 j) (q3 j))) = Bool.true →
   (kx Exit.ret [(SV.a (SA.c (SC.sl 0 ao n c))), (SV.a (SA.c (SC.sl 1 bo n d))), (SV.a (SA.c (SC.val (g 2)))), (SV.a (SA.c (SC.val (g 3)))), (SV.a (SA.c (SC.lit Bool.false))), (SV.a (SA.c (SC.int ((j : Nat) : Int)))), (SV.a (SA.c (SC.val (g 6)))), (SV.a (SA.c (SC.val (g 7)))), (SV.a (SA.c (SC.val (g 8)))), (SV.a (SA.c (SC.val (g 9)))), (SV.a (SA.c (SC.val (g 10)))), (SV.a (SA.c (SC.int ((j : Nat) : Int)))), (SV.a (SA.c (SC.sl 0 ao n c))), (SV.a (SA.c (SC.int ((n : Nat) : Int)))), (SV.a (SA.c (SC.lit Bool.true))), (SV.a (SA.c (SC.val (g 15)))), (SV.a (SA.c (SC.val (g 16)))), (SV.a (SA.c (SC.sl 0 ao n c))), (SV.a (SA.c (SC.int ((j : Nat) : Int)))), (SV.a (SA.c (SC.rptr 0 ao 4 j 0))), (SV.a (SA.agg [(SC.int (g0 j)), (SC.int (g1 j)), (SC.int (g2 j)), (SC.int (g3 j))])), (SV.a (SA.c (SC.sl 1 bo n d))), (SV.a (SA.c (SC.int ((j : Nat) : Int)))), (SV.a (SA.c (SC.rptr 1 bo 4 j 0))), (SV.a (SA.agg [(SC.int (q0 j)), (SC.int (q1 j)), (SC.int (q2 j)), (SC.int (q3 j))])), (SV.a (SA.c (SC.bool (eqCommandE (g0 j) (g1 j) (g2 j) (g3 j) (q0 j) (q1 j) (q2 j) (q3 j))))), (SV.a (SA.c (SC.lit Bool.true)))] [(Ch.row (Row.mk Bool.false ao 0 4 n 0 [(fun (i0 : Nat) => (SC.int (g0 i0))), (fun (i1 : Nat) => (SC.int (g1 i1))), (fun (i2 : Nat) => (SC.int (g2 i2))), (fun (i3 : Nat) => (SC.int (g3 i3)))])), (Ch.row (Row.mk Bool.false bo 0 4 n 0 [(fun (i4 : Nat) => (SC.int (q0 i4))), (fun (i5 : Nat) => (SC.int (q1 i5))), (fun (i6 : Nat) => (SC.int (q2 i6))), (fun (i7 : Nat) => (SC.int (q3 i7)))]))])) ∧
   ((!(eqCommandE (g0 j) (g1 j) (g2 j) (g3 j) (q0 j) (q1 j) (q2 j) (q3 j))) = Bool.false →
   ((rng (((j : Nat) : Int) + (1 : Int))) ∧
    (NX [(SV.a (SA.c (SC.sl 0 ao n c))), (SV.a (SA.c (SC.sl 1 bo n d))), (SV.a (SA.c (SC.val (g 2)))), (SV.a (SA.c (SC.val (g 3)))), (SV.a (SA.c (SC.lit Bool.false))), (SV.a (SA.c (SC.int (((j : Nat) : Int) + (1 : Int))))), (SV.a (SA.c (SC.val (g 6)))), (SV.a (SA.c (SC.val (g 7)))), (SV.a (SA.c (SC.val (g 8)))), (SV.a (SA.c (SC.val (g 9)))), (SV.a (SA.c (SC.val (g 10)))), (SV.a (SA.c (SC.int ((j : Nat) : Int)))), (SV.a (SA.c (SC.sl 0 ao n c))), (SV.a (SA.c (SC.int ((n : Nat) : Int)))), (SV.a (SA.c (SC.lit Bool.true))), (SV.a (SA.c (SC.int ((j : Nat) : Int)))), (SV.a (SA.c (SC.int (((j : Nat) : Int) + (1 : Int))))), (SV.a (SA.c (SC.sl 0 ao n c))), (SV.a (SA.c (SC.int ((j : Nat) : Int)))), (SV.a (SA.c (SC.rptr 0 ao 4 j 0))), (SV.a (SA.agg [(SC.int (g0 j)), (SC.int (g1 j)), (SC.int (g2 j)), (SC.int (g3 j))])), (SV.a (SA.c (SC.sl 1 bo n d))), (SV.a (SA.c (SC.int ((j : Nat) : Int)))), (SV.a (SA.c (SC.rptr 1 bo 4 j 0))), (SV.a (SA.agg [(SC.int (q0 j)), (SC.int (q1 j)), (SC.int (q2 j)), (SC.int (q3 j))])), (SV.a (SA.c (SC.bool (eqCommandE (g0 j) (g1 j) (g2 j) (g3 j) (q0 j) (q1 j) (q2 j) (q3 j))))), (SV.a (SA.c (SC.lit Bool.false)))] [(Ch.row (Row.mk Bool.false ao 0 4 n 0 [(fun (i8 : Nat) => (SC.int (g0 i8))), (fun (i9 : Nat) => (SC.int (g1 i9))), (fun (i10 : Nat) => (SC.int (g2 i10))), (fun (i11 : Nat) => (SC.int (g3 i11)))])), (Ch.row (Row.mk Bool.false bo 0 4 n 0 [(fun (i12 : Nat) => (SC.int (q0 i12))), (fun (i13 : Nat) => (SC.int (q1 i13))), (fun (i14 : Nat) => (SC.int (q2 i14))), (fun (i15 : Nat) => (SC.int (q3 i15)))]))])))))))))))))))) ∧
  ((decide (((j : Nat) : Int) < ((n : Nat) : Int))) = Bool.false →
  (kx (Exit.exit 0) [(SV.a (SA.c (SC.sl 0 ao n c))), (SV.a (SA.c (SC.sl 1 bo n d))), (SV.a (SA.c (SC.val (g 2)))), (SV.a (SA.c (SC.val (g 3)))), (SV.a (SA.c (SC.lit Bool.false))), (SV.a (SA.c (SC.int ((j : Nat) : Int)))), (SV.a (SA.c (SC.val (g 6)))), (SV.a (SA.c (SC.val (g 7)))), (SV.a (SA.c (SC.val (g 8)))), (SV.a (SA.c (SC.val (g 9)))), (SV.a (SA.c (SC.val (g 10)))), (SV.a (SA.c (SC.int ((j : Nat) : Int)))), (SV.a (SA.c (SC.sl 0 ao n c))), (SV.a (SA.c (SC.int ((n : Nat) : Int)))), (SV.a (SA.c (SC.lit Bool.false))), (SV.a (SA.c (SC.val (g 15)))), (SV.a (SA.c (SC.val (g 16)))), (SV.a (SA.c (SC.val (g 17)))), (SV.a (SA.c (SC.val (g 18)))), (SV.a (SA.c (SC.val (g 19)))), (SV.a (SA.c (SC.val (g 20)))), (SV.a (SA.c (SC.val (g 21)))), (SV.a (SA.c (SC.val (g 22)))), (SV.a (SA.c (SC.val (g 23)))), (SV.a (SA.c (SC.val (g 24)))), (SV.a (SA.c (SC.val (g 25)))), (SV.a (SA.c (SC.val (g 26))))] [(Ch.row (Row.mk Bool.false ao 0 4 n 0 [(fun (i16 : Nat) => (SC.int (g0 i16))), (fun (i17 : Nat) => (SC.int (g1 i17))), (fun (i18 : Nat) => (SC.int (g2 i18))), (fun (i19 : Nat) => (SC.int (g3 i19)))])), (Ch.row (Row.mk Bool.false bo 0 4 n 0 [(fun (i20 : Nat) => (SC.int (q0 i20))), (fun (i21 : Nat) => (SC.int (q1 i21))), (fun (i22 : Nat) => (SC.int (q2 i22))), (fun (i23 : Nat) => (SC.int (q3 i23)))]))])))) := by kernel_rfl
theorem eqCommandL_ok (ao bo : Option Addr) (n c d : Nat) (g0 g1 g2 g3 q0 q1 q2 q3 : Nat → Int) (hn : n ≤ 9223372036854775807) (hgh : ∀ i, i < n → g0 i = q0 i ∧ g1 i = q1 i ∧ g2 i = q2 i ∧ g3 i = q3 i) (X : Cx) : LoopOK Try.prog X (theLoop Try.f29 0) (sEqCommandL ao bo n c d g0 g1 g2 g3 q0 q1 q2 q3) := by
  intro ts ch k a w hS hT hd hs
  obtain ⟨⟨h1, rfl⟩, hk⟩ := hS
  refine loop_ok mixed (E := {tb := [(59, sEqCommand)]}) ⟨sEqCommand_ok, trivial⟩ (loopsOK_nil _ _ _) 400 n (fun j ts ch => ∃ g, ts = eqCommandH ao bo n c d (.int (j : Int)) g ∧ ch = eqCommandT ao bo n g0 g1 g2 g3 q0 q1 q2 q3) ?_ ?_ hT hd hs
  · rintro j _ _ ⟨g, rfl, rfl⟩ hj
    refine (@Eq.mpr _ _ (eqCommandB ao bo n c d j g0 g1 g2 g3 q0 q1 q2 q3 g _ _) ?_)
    refine ⟨fun hlt => ?_, fun hge => ?_⟩
    · have hlt' : j < n := by simpa using hlt
      have hjn : (0 : Int) ≤ (j : Int) ∧ (j : Int) < (n : Int) := ⟨by omega, by omega⟩
      have he := hgh j hlt'
      repeat' (first | exact rfl | exact True.intro | assumption | (refine And.intro ?_ ?_) | omega | (intro hne; exfalso; simp [he, eqCommandE] at hne; done) | intro _)
      all_goals (refine Next.mk (fun g => eqCommandH ao bo n c d (.int ((j + 1 : Nat) : Int)) g) _ ⟨_, rfl, rfl⟩ rfl fun w hw => hw)
    · have hjn : j = n := by have : ¬ (j < n) := by simpa using hge
                             omega
      subst hjn
      exact Next.mk (fun g => eqCommandH ao bo j c d (.int (j : Int)) g) _ (hk _) rfl fun w hw => hw
  · exact Next.mk (fun g => eqCommandH ao bo n c d (.int ((0 : Nat) : Int)) g) _ ⟨_, rfl, rfl⟩ h1 fun w hw => hw
theorem eqCommandS_T (ao bo : Option Addr) (n c d : Nat) (g0 g1 g2 g3 q0 q1 q2 q3 : Nat → Int) : (exFn Try.prog {L := [(4, sEqCommandL ao bo n c d g0 g1 g2 g3 q0 q1 q2 q3)]} 400 Try.f29 ([.a (.c (.sl 0 ao n c)), .a (.c (.sl 1 bo n d))]) (eqCommandT ao bo n g0 g1 g2 g3 q0 q1 q2 q3) (fun v _ => v.den = .bool true)) = (
  (((((n : Nat) : Int) != ((n : Nat) : Int)) = Bool.true →
  (Value.bool Bool.false) = (Value.bool Bool.true)) ∧
  ((((n : Nat) : Int) != ((n : Nat) : Int)) = Bool.false →
  (([(Value.slice ao n c), (Value.slice bo n d), (Value.tuple (List.toArray [])), (Value.tuple (List.toArray [])), (Value.bool Bool.false), (Value.int IntKind.i64 (0 : Int)), (Value.slice ao n c), (Value.int IntKind.i64 ((n : Nat) : Int)), (Value.slice bo n d), (Value.int IntKind.i64 ((n : Nat) : Int)), (Value.bool Bool.false), (Value.tuple (List.toArray [])), (Value.tuple (List.toArray [])), (Value.tuple (List.toArray [])), (Value.tuple (List.toArray [])), (Value.tuple (List.toArray [])), (Value.tuple (List.toArray [])), (Value.tuple (List.toArray [])), (Value.tuple (List.toArray [])), (Value.tuple (List.toArray [])), (Value.tuple (List.toArray [])), (Value.tuple (List.toArray [])), (Value.tuple (List.toArray [])), (Value.tuple (List.toArray [])), (Value.tuple (List.toArray [])), (Value.tuple (List.toArray [])), (Value.tuple (List.toArray []))] = [(Value.slice ao n c), (Value.slice bo n d), (Value.tuple (List.toArray [])), (Value.tuple (List.toArray [])), (Value.bool Bool.false), (Value.int IntKind.i64 (0 : Int)), (Value.slice ao n c), (Value.int IntKind.i64 ((n : Nat) : Int)), (Value.slice bo n d), (Value.int IntKind.i64 ((n : Nat) : Int)), (Value.bool Bool.false), (Value.tuple (List.toArray [])), (Value.tuple (List.toArray [])), (Value.tuple (List.toArray [])), (Value.tuple (List.toArray [])), (Value.tuple (List.toArray [])), (Value.tuple (List.toArray [])), (Value.tuple (List.toArray [])), (Value.tuple (List.toArray [])), (Value.tuple (List.toArray [])), (Value.tuple (List.toArray [])), (Value.tuple (List.toArray [])), (Value.tuple (List.toArray [])), (Value.tuple (List.toArray [])), (Value.tuple (List.toArray [])), (Value.tuple (List.toArray [])), (Value.tuple (List.toArray []))] ∧
   [(Ch.row (Row.mk Bool.false ao 0 4 n 0 [(fun (i0 : Nat) => (SC.int (g0 i0))), (fun (i1 : Nat) => (SC.int (g1 i1))), (fun (i2 : Nat) => (SC.int (g2 i2))), (fun (i3 : Nat) => (SC.int (g3 i3)))])), (Ch.row (Row.mk Bool.false bo 0 4 n 0 [(fun (i4 : Nat) => (SC.int (q0 i4))), (fun (i5 : Nat) => (SC.int (q1 i5))), (fun (i6 : Nat) => (SC.int (q2 i6))), (fun (i7 : Nat) => (SC.int (q3 i7)))]))] = [(Ch.row (Row.mk Bool.false ao 0 4 n 0 [(fun (i8 : Nat) => (SC.int (g0 i8))), (fun (i9 : Nat) => (SC.int (g1 i9))), (fun (i10 : Nat) => (SC.int (g2 i10))), (fun (i11 : Nat) => (SC.int (g3 i11)))])), (Ch.row (Row.mk Bool.false bo 0 4 n 0 [(fun (i12 : Nat) => (SC.int (q0 i12))), (fun (i13 : Nat) => (SC.int (q1 i13))), (fun (i14 : Nat) => (SC.int (q2 i14))), (fun (i15 : Nat) => (SC.int (q3 i15)))]))]) ∧
   (∀ g16 : (Nat →
   Value),
   (Value.bool Bool.true) = (Value.bool Bool.true)))))) := by kernel_rfl
theorem eqCommandS_any (ao bo : Option Addr) (n c d : Nat) (g0 g1 g2 g3 q0 q1 q2 q3 : Nat → Int) (w : World) (hn : n ≤ 9223372036854775807) (hgh : ∀ i, i < n → g0 i = q0 i ∧ g1 i = q1 i ∧ g2 i = q2 i ∧ g3 i = q3 i)
    (h1 : Row.sat w ⟨false, ao, 0, 4, n, 0, [fun i => .int (g0 i), fun i => .int (g1 i), fun i => .int (g2 i), fun i => .int (g3 i)]⟩) (h2 : Row.sat w ⟨false, bo, 0, 4, n, 0, [fun i => .int (q0 i), fun i => .int (q1 i), fun i => .int (q2 i), fun i => .int (q3 i)]⟩) : Calls Try.prog 29 #[.slice ao n c, .slice bo n d] w fun e w' => e = .returned (.bool true) ∧ Below w.heap.size w w' := by
  refine fn_ok mixed (E := { L := [(4, sEqCommandL ao bo n c d g0 g1 g2 g3 q0 q1 q2 q3)] }) trivial Try.func29 (one_loop (by kernel_rfl) (by kernel_rfl) (eqCommandL_ok ao bo n c d g0 g1 g2 g3 q0 q1 q2 q3 hn hgh _)) (@Eq.mpr _ _ (eqCommandS_T ao bo n c d g0 g1 g2 g3 q0 q1 q2 q3) ?_)
    (HS.rows (fun _ => False) [⟨false, ao, 0, 4, n, 0, [fun i => .int (g0 i), fun i => .int (g1 i), fun i => .int (g2 i), fun i => .int (g3 i)]⟩, ⟨false, bo, 0, 4, n, 0, [fun i => .int (q0 i), fun i => .int (q1 i), fun i => .int (q2 i), fun i => .int (q3 i)]⟩] (by simpa using ⟨h1, h2⟩)) (fun v ch' w' hv hs => ⟨by rw [hv], hs.below⟩)
  simp
  try (intros; rfl)
def sEqCommandS : Sm := fun args ch k =>
  match args with
  | [.a (.c (.sl id ao n _)), .a (.c (.sl id' bo m _))] =>
    match ch[id]?, ch[id']? with
    | some (.row r), some (.row r') => ∃ g0 : Nat → Int, ∃ g1 : Nat → Int, ∃ g2 : Nat → Int, ∃ g3 : Nat → Int, ∃ q0 : Nat → Int, ∃ q1 : Nat → Int, ∃ q2 : Nat → Int, ∃ q3 : Nat → Int, (ao = r.ao ∧ n = r.n ∧ r.fld = [fun i => .int (g0 i), fun i => .int (g1 i), fun i => .int (g2 i), fun i => .int (g3 i)] ∧ bo = r'.ao ∧ m = r'.n ∧ r'.fld = [fun i => .int (q0 i), fun i => .int (q1 i), fun i => .int (q2 i), fun i => .int (q3 i)] ∧ n = m ∧ capC n) ∧ ((∀ i, ltN i n → g0 i = q0 i ∧ g1 i = q1 i ∧ g2 i = q2 i ∧ g3 i = q3 i) ∧ k (.a (.c (.lit true))) ch [])
    | _, _ => False
  | _ => False
theorem sEqCommandS_ok : SmOK Try.prog 29 sEqCommandS := by
  refine smB Try.call29 fun args ch k w X h0 hs => ?_
  unfold sEqCommandS at h0
  split at h0
  · rename_i id ao n c id' bo m d
    split at h0
    · rename_i r r' hid hid'
      obtain ⟨g0, g1, g2, g3, q0, q1, q2, q3, ⟨rfl, rfl, hf, rfl, rfl, hf', hnm, hn⟩, hgh, h0⟩ := h0
      have h2 := Row.seenAs (hs.sat id' _ hid') hf' rfl
      rw [← hnm] at h2
      refine ⟨_, h0, ?_⟩
      have := eqCommandS_any r.ao r'.ao r.n c d g0 g1 g2 g3 q0 q1 q2 q3 w (by have := hn; omega) hgh (Row.seenAs (hs.sat id _ hid) hf rfl) h2
      simp only [List.map_cons, List.map_nil, den_a, den_c, SC.den, ← hnm]
      exact this
    · exact h0.elim
  · exact h0.elim

/-! laws.markCommandS -/
def markCommandH (ao : Option Addr) (n cap : Nat) (i kk : SC) (g : Nat → Value) : List SV := [.a (.c (.sl 0 ao n cap)), .a (.c kk), .a (.c (.val (g 2))), .a (.c (.val (g 3))), .a (.c (.val (g 4))), .a (.c i), .a (.c (.val (g 6))), .a (.c (.val (g 7))), .a (.c (.val (g 8))), .a (.c (.val (g 9))), .a (.c (.val (g 10))), .a (.c (.val (g 11))), .a (.c (.val (g 12))), .a (.c (.val (g 13))), .a (.c (.val (g 14))), .a (.c (.val (g 15))), .a (.c (.val (g 16))), .a (.c (.val (g 17))), .a (.c (.val (g 18))), .a (.c (.val (g 19))), .a (.c (.val (g 20))), .a (.c (.val (g 21))), .a (.c (.val (g 22))), .a (.c (.val (g 23))), .a (.c (.val (g 24))), .a (.c (.val (g 25))), .a (.c (.val (g 26))), .a (.c (.val (g 27))), .a (.c (.val (g 28))), .a (.c (.val (g 29))), .a (.c (.val (g 30))), .a (.c (.val (g 31))), .a (.c (.val (g 32))), .a (.c (.val (g 33))), .a (.c (.val (g 34))), .a (.c (.val (g 35))), .a (.c (.val (g 36))), .a (.c (.val (g 37))), .a (.c (.val (g 38))), .a (.c (.val (g 39))), .a (.c (.val (g 40)))]
def markCommandT (ao : Option Addr) (t n rc : Nat) (fs : List (Nat → SC)) : List Ch := [.row ⟨true, ao, t, 4, n, rc, fs⟩]
def sMarkCommandL (ao : Option Addr) (t n rc cap : Nat) (g0 g1 g2 g3 : Nat → Int) (k0 : Int) : LSm := fun ts ch k =>
  (ts.map SV.den = (markCommandH ao n cap (.il 0) (.int k0) (fun d => (ts.getD d .undef).den)).map SV.den ∧ ch = markCommandT ao t n rc [fun i => .int (g0 i), fun i => .int (g1 i), fun i => .int (g2 i), fun i => .int (g3 i)]) ∧
    ∀ g, k (.exit 0) (markCommandH ao n cap (.int (n : Int)) (.int (mk k0 4 0 n)) g) (markCommandT ao t n rc [fun i => .int (mk k0 4 0 i), fun i => .int (mk k0 4 1 i), fun i => .int (mk k0 4 2 i), fun i => .int (mk k0 4 3 i)])
theorem markCommandB (ao : Option Addr) (t n rc cap : Nat) (g0 g1 g2 g3 : Nat → Int) (k0 : Int) (j : Nat) (g : Nat → Value) (NX : List SV → List Ch → Prop) (kx : Exit → List SV → List Ch → Prop) : (exCode Try.prog {} 400 (theLoop Try.f30 0) (markCommandH ao n cap (.int (j : Int)) (.int (mk k0 4 0 j)) g) (markCommandT ao t n rc [fun i => .int (lowI i j (mk k0 4 0 i) (g0 i)), fun i => .int (lowI i j (mk k0 4 1 i) (g1 i)), fun i => .int (lowI i j (mk k0 4 2 i) (g2 i)), fun i => .int (lowI i j (mk k0 4 3 i) (g3 i))]) (loopK NX kx)) = (
  (((decide (((j : Nat) : Int) < ((n : Nat) : Int))) = Bool.true →
  (ao = ao ∧
   (n = n ∧
   ((0 ≤ ((j : Nat) : Int) ∧ ((j : Nat) : Int) < ((n : Nat) : Int)) ∧
   (ao = ao ∧
   (j < n ∧
   (ao = ao ∧
   (j < n ∧
   ((rng ((mk k0 4 0 j) + (1 : Int))) ∧
   (ao = ao ∧
   (n = n ∧
   ((0 ≤ ((j : Nat) : Int) ∧ ((j : Nat) : Int) < ((n : Nat) : Int)) ∧
   (ao = ao ∧
   (j < n ∧
   (ao = ao ∧
   (j < n ∧
   ((rng (((mk k0 4 0 j) + (1 : Int)) + (1 : Int))) ∧
   (ao = ao ∧
   (n = n ∧
   ((0 ≤ ((j : Nat) : Int) ∧ ((j : Nat) : Int) < ((n : Nat) : Int)) ∧
   (ao = ao ∧
   (j < n ∧
   (ao = ao ∧
   (j < n ∧
   ((rng ((((mk k0 4 0 j) + (1 : Int)) + (1 : Int)) + (1 : Int))) ∧
   (ao = ao ∧
   (n = n ∧
   ((0 ≤ ((j : Nat) : Int) ∧ ((j : Nat) : Int) < ((n : Nat) : Int)) ∧
   (ao = ao ∧
   (j < n ∧
   (ao = ao ∧
   (j < n ∧
   ((rng (((((mk k0 4 0 j) + (1 : Int)) + (1 : Int)) + (1 : Int)) + (1 : Int))) ∧
   ((rng (((j : Nat) : Int) + (1 : Int))) ∧
   (NX [(SV.a (SA.c (SC.sl 0 ao n cap))), (SV.a (SA.c (SC.int (((((mk k0 4 0 j) + (1 : Int)) + (1 : Int)) + (1 : Int)) + (1 : Int))))), (SV.a (SA.c (SC.val (g 2)))), (SV.a (SA.c (SC.val (g 3)))), (SV.a (SA.c (SC.val (g 4)))), (SV.a (SA.c (SC.int (((j : Nat) : Int) + (1 : Int))))), (SV.a (SA.c (SC.int ((j : Nat) : Int)))), (SV.a (SA.c (SC.sl 0 ao n cap))), (SV.a (SA.c (SC.int ((n : Nat) : Int)))), (SV.a (SA.c (SC.lit Bool.true))), (SV.a (SA.c (SC.int ((j : Nat) : Int)))), (SV.a (SA.c (SC.int (((j : Nat) : Int) + (1 : Int))))), (SV.a (SA.c (SC.sl 0 ao n cap))), (SV.a (SA.c (SC.int ((j : Nat) : Int)))), (SV.a (SA.c (SC.int (mk k0 4 0 j)))), (SV.a (SA.c (SC.rptr 0 ao 4 j 0))), (SV.a (SA.c (SC.rptr 0 ao 4 j 0))), (SV.a (SA.c (SC.int (mk k0 4 0 j)))), (SV.a (SA.c (SC.int ((mk k0 4 0 j) + (1 : Int))))), (SV.a (SA.c (SC.sl 0 ao n cap))), (SV.a (SA.c (SC.int ((j : Nat) : Int)))), (SV.a (SA.c (SC.int ((mk k0 4 0 j) + (1 : Int))))), (SV.a (SA.c (SC.rptr 0 ao 4 j 0))), (SV.a (SA.c (SC.rptr 0 ao 4 j 1))), (SV.a (SA.c (SC.int ((mk k0 4 0 j) + (1 : Int))))), (SV.a (SA.c (SC.int (((mk k0 4 0 j) + (1 : Int)) + (1 : Int))))), (SV.a (SA.c (SC.sl 0 ao n cap))), (SV.a (SA.c (SC.int ((j : Nat) : Int)))), (SV.a (SA.c (SC.int (((mk k0 4 0 j) + (1 : Int)) + (1 : Int))))), (SV.a (SA.c (SC.rptr 0 ao 4 j 0))), (SV.a (SA.c (SC.rptr 0 ao 4 j 2))), (SV.a (SA.c (SC.int (((mk k0 4 0 j) + (1 : Int)) + (1 : Int))))), (SV.a (SA.c (SC.int ((((mk k0 4 0 j) + (1 : Int)) + (1 : Int)) + (1 : Int))))), (SV.a (SA.c (SC.sl 0 ao n cap))), (SV.a (SA.c (SC.int ((j : Nat) : Int)))), (SV.a (SA.c (SC.int ((((mk k0 4 0 j) + (1 : Int)) + (1 : Int)) + (1 : Int))))), (SV.a (SA.c (SC.rptr 0 ao 4 j 0))), (SV.a (SA.c (SC.rptr 0 ao 4 j 3))), (SV.a (SA.c (SC.int ((((mk k0 4 0 j) + (1 : Int)) + (1 : Int)) + (1 : Int))))), (SV.a (SA.c (SC.int (((((mk k0 4 0 j) + (1 : Int)) + (1 : Int)) + (1 : Int)) + (1 : Int))))), (SV.a (SA.c (SC.val (g 40))))] [(Ch.row (Row.mk Bool.true ao t 4 n rc [(fun (j0 : Nat) => (SC.int (if j0 = j then (mk k0 4 0 j) else (if j0 < j then (mk k0 4 0 j0) else (g0 j0))))), (fun (j1 : Nat) => (SC.int (if j1 = j then ((mk k0 4 0 j) + (1 : Int)) else (if j1 < j then (mk k0 4 1 j1) else (g1 j1))))), (fun (j2 : Nat) => (SC.int (if j2 = j then (((mk k0 4 0 j) + (1 : Int)) + (1 : Int)) else (if j2 < j then (mk k0 4 2 j2) else (g2 j2))))), (fun (j3 : Nat) => (SC.int (if j3 = j then ((((mk k0 4 0 j) + (1 : Int)) + (1 : Int)) + (1 : Int)) else (if j3 < j then (mk k0 4 3 j3) else (g3 j3)))))]))]))))))))))))))))))))))))))))))))))) ∧
  ((decide (((j : Nat) : Int) < ((n : Nat) : Int))) = Bool.false →
  (kx (Exit.exit 0) [(SV.a (SA.c (SC.sl 0 ao n cap))), (SV.a (SA.c (SC.int (mk k0 4 0 j)))), (SV.a (SA.c (SC.val (g 2)))), (SV.a (SA.c (SC.val (g 3)))), (SV.a (SA.c (SC.val (g 4)))), (SV.a (SA.c (SC.int ((j : Nat) : Int)))), (SV.a (SA.c (SC.int ((j : Nat) : Int)))), (SV.a (SA.c (SC.sl 0 ao n cap))), (SV.a (SA.c (SC.int ((n : Nat) : Int)))), (SV.a (SA.c (SC.lit Bool.false))), (SV.a (SA.c (SC.val (g 10)))), (SV.a (SA.c (SC.val (g 11)))), (SV.a (SA.c (SC.val (g 12)))), (SV.a (SA.c (SC.val (g 13)))), (SV.a (SA.c (SC.val (g 14)))), (SV.a (SA.c (SC.val (g 15)))), (SV.a (SA.c (SC.val (g 16)))), (SV.a (SA.c (SC.val (g 17)))), (SV.a (SA.c (SC.val (g 18)))), (SV.a (SA.c (SC.val (g 19)))), (SV.a (SA.c (SC.val (g 20)))), (SV.a (SA.c (SC.val (g 21)))), (SV.a (SA.c (SC.val (g 22)))), (SV.a (SA.c (SC.val (g 23)))), (SV.a (SA.c (SC.val (g 24)))), (SV.a (SA.c (SC.val (g 25)))), (SV.a (SA.c (SC.val (g 26)))), (SV.a (SA.c (SC.val (g 27)))), (SV.a (SA.c (SC.val (g 28)))), (SV.a (SA.c (SC.val (g 29)))), (SV.a (SA.c (SC.val (g 30)))), (SV.a (SA.c (SC.val (g 31)))), (SV.a (SA.c (SC.val (g 32)))), (SV.a (SA.c (SC.val (g 33)))), (SV.a (SA.c (SC.val (g 34)))), (SV.a (SA.c (SC.val (g 35)))), (SV.a (SA.c (SC.val (g 36)))), (SV.a (SA.c (SC.val (g 37)))), (SV.a (SA.c (SC.val (g 38)))), (SV.a (SA.c (SC.val (g 39)))), (SV.a (SA.c (SC.val (g 40))))] [(Ch.row (Row.mk Bool.true ao t 4 n rc [(fun (i4 : Nat) => (SC.int (if i4 < j then (mk k0 4 0 i4) else (g0 i4)))), (fun (i5 : Nat) => (SC.int (if i5 < j then (mk k0 4 1 i5) else (g1 i5)))), (fun (i6 : Nat) => (SC.int (if i6 < j then (mk k0 4 2 i6) else (g2 i6)))), (fun (i7 : Nat) => (SC.int (if i7 < j then (mk k0 4 3 i7) else (g3 i7))))]))])))) := by kernel_rfl
theorem markCommandL_ok (ao : Option Addr) (t n rc cap : Nat) (g0 g1 g2 g3 : Nat → Int) (k0 : Int) (hn : n ≤ 2097152 ∧ 0 ≤ k0 ∧ k0 ≤ 1099511627776) (X : Cx) : LoopOK Try.prog X (theLoop Try.f30 0) (sMarkCommandL ao t n rc cap g0 g1 g2 g3 k0) := by
  intro ts ch k a w hS hT hd hs
  obtain ⟨⟨h1, rfl⟩, hk⟩ := hS
  refine loop_ok mixed (E := {}) trivial (loopsOK_nil _ _ _) 400 n (fun j ts ch => ∃ g, ts = markCommandH ao n cap (.int (j : Int)) (.int (mk k0 4 0 j)) g ∧ ch = markCommandT ao t n rc [fun i => .int (lowI i j (mk k0 4 0 i) (g0 i)), fun i => .int (lowI i j (mk k0 4 1 i) (g1 i)), fun i => .int (lowI i j (mk k0 4 2 i) (g2 i)), fun i => .int (lowI i j (mk k0 4 3 i) (g3 i))]) ?_ ?_ hT hd hs
  · rintro j _ _ ⟨g, rfl, rfl⟩ hj
    refine (@Eq.mpr _ _ (markCommandB ao t n rc cap g0 g1 g2 g3 k0 j g _ _) ?_)
    have hb := mk_bound (s := 4) (c := 0) hn hj (by omega) (by omega)
    refine ⟨fun hlt => ?_, fun hge => ?_⟩
    · have hlt' : j < n := by simpa using hlt
      have hjn : (0 : Int) ≤ (j : Int) ∧ (j : Int) < (n : Int) := ⟨by omega, by omega⟩
      have hnx := mk_next k0 4 j
      repeat' (first | exact rfl | exact True.intro | assumption | refine And.intro ?_ ?_ | omega)
      refine Next.mk (fun g => markCommandH ao n cap (.int ((j + 1 : Nat) : Int)) (.int (mk k0 4 0 (j + 1))) g) _ ⟨_, rfl, rfl⟩ ?_ fun w hw => hw.re 0 _ rfl [fun i => .int (lowI i (j + 1) (mk k0 4 0 i) (g0 i)), fun i => .int (lowI i (j + 1) (mk k0 4 1 i) (g1 i)), fun i => .int (lowI i (j + 1) (mk k0 4 2 i) (g2 i)), fun i => .int (lowI i (j + 1) (mk k0 4 3 i) (g3 i))] ?_
      · rw [hnx]
        simp [markCommandH, SV.den, SA.den, SC.den]
        try omega
      · exact ⟨fun i _ => congrArg (Value.int .i64) (mk_low k0 4 0 g0 i j _ (by first | rfl | (simp only [mk]; omega))), fun i _ => congrArg (Value.int .i64) (mk_low k0 4 1 g1 i j _ (by first | rfl | (simp only [mk]; omega))), fun i _ => congrArg (Value.int .i64) (mk_low k0 4 2 g2 i j _ (by first | rfl | (simp only [mk]; omega))), fun i _ => congrArg (Value.int .i64) (mk_low k0 4 3 g3 i j _ (by first | rfl | (simp only [mk]; omega))), trivial⟩
    · have hjn : j = n := by have : ¬ (j < n) := by simpa using hge
                             omega
      subst hjn
      exact Next.mk (fun g => markCommandH ao j cap (.int (j : Int)) (.int (mk k0 4 0 j)) g) _ (hk _) rfl fun w hw => hw.re 0 _ rfl [fun i => .int (mk k0 4 0 i), fun i => .int (mk k0 4 1 i), fun i => .int (mk k0 4 2 i), fun i => .int (mk k0 4 3 i)] ⟨fun i hi => by simp only [SC.den, lowI]; rw [if_pos hi], fun i hi => by simp only [SC.den, lowI]; rw [if_pos hi], fun i hi => by simp only [SC.den, lowI]; rw [if_pos hi], fun i hi => by simp only [SC.den, lowI]; rw [if_pos hi], trivial⟩
  · refine Next.mk (fun g => markCommandH ao n cap (.int ((0 : Nat) : Int)) (.int (mk k0 4 0 0)) g) _ ⟨_, rfl, rfl⟩ ?_ fun w hw => hw.re 0 _ rfl [fun i => .int (lowI i 0 (mk k0 4 0 i) (g0 i)), fun i => .int (lowI i 0 (mk k0 4 1 i) (g1 i)), fun i => .int (lowI i 0 (mk k0 4 2 i) (g2 i)), fun i => .int (lowI i 0 (mk k0 4 3 i) (g3 i))] ⟨fun i hi => by simp [SC.den, lowI], fun i hi => by simp [SC.den, lowI], fun i hi => by simp [SC.den, lowI], fun i hi => by simp [SC.den, lowI], trivial⟩
    rw [h1]
    simp [markCommandH, SV.den, SA.den, SC.den, mk]
theorem markCommandS_T (ao : Option Addr) (t n rc cap : Nat) (g0 g1 g2 g3 : Nat → Int) (k0 : Int) : (exFn Try.prog {L := [(2, sMarkCommandL ao t n rc cap g0 g1 g2 g3 k0)]} 400 Try.f30 ([.a (.c (.sl 0 ao n cap)), .a (.c (.int k0))]) (markCommandT ao t n rc [fun i => .int (g0 i), fun i => .int (g1 i), fun i => .int (g2 i), fun i => .int (g3 i)]) (fun v ch => v.den = .int .i64 (mk k0 4 0 n) ∧ ch[0]? = some (.row ⟨true, ao, t, 4, n, rc, [fun i => .int (mk k0 4 0 i), fun i => .int (mk k0 4 1 i), fun i => .int (mk k0 4 2 i), fun i => .int (mk k0 4 3 i)]⟩))) = (
  (([(Value.slice ao n cap), (Value.int IntKind.i64 k0), (Value.tuple (List.toArray [])), (Value.tuple (List.toArray [])), (Value.int IntKind.i64 (0 : Int)), (Value.int IntKind.i64 (0 : Int)), (Value.tuple (List.toArray [])), (Value.tuple (List.toArray [])), (Value.tuple (List.toArray [])), (Value.tuple (List.toArray [])), (Value.tuple (List.toArray [])), (Value.tuple (List.toArray [])), (Value.tuple (List.toArray [])), (Value.tuple (List.toArray [])), (Value.tuple (List.toArray [])), (Value.tuple (List.toArray [])), (Value.tuple (List.toArray [])), (Value.tuple (List.toArray [])), (Value.tuple (List.toArray [])), (Value.tuple (List.toArray [])), (Value.tuple (List.toArray [])), (Value.tuple (List.toArray [])), (Value.tuple (List.toArray [])), (Value.tuple (List.toArray [])), (Value.tuple (List.toArray [])), (Value.tuple (List.toArray [])), (Value.tuple (List.toArray [])), (Value.tuple (List.toArray [])), (Value.tuple (List.toArray [])), (Value.tuple (List.toArray [])), (Value.tuple (List.toArray [])), (Value.tuple (List.toArray [])), (Value.tuple (List.toArray [])), (Value.tuple (List.toArray [])), (Value.tuple (List.toArray [])), (Value.tuple (List.toArray [])), (Value.tuple (List.toArray [])), (Value.tuple (List.toArray [])), (Value.tuple (List.toArray [])), (Value.tuple (List.toArray [])), (Value.tuple (List.toArray []))] = [(Value.slice ao n cap), (Value.int IntKind.i64 k0), (Value.tuple (List.toArray [])), (Value.tuple (List.toArray [])), (Value.int IntKind.i64 (0 : Int)), (Value.int IntKind.i64 (0 : Int)), (Value.tuple (List.toArray [])), (Value.tuple (List.toArray [])), (Value.tuple (List.toArray [])), (Value.tuple (List.toArray [])), (Value.tuple (List.toArray [])), (Value.tuple (List.toArray [])), (Value.tuple (List.toArray [])), (Value.tuple (List.toArray [])), (Value.tuple (List.toArray [])), (Value.tuple (List.toArray [])), (Value.tuple (List.toArray [])), (Value.tuple (List.toArray [])), (Value.tuple (List.toArray [])), (Value.tuple (List.toArray [])), (Value.tuple (List.toArray [])), (Value.tuple (List.toArray [])), (Value.tuple (List.toArray [])), (Value.tuple (List.toArray [])), (Value.tuple (List.toArray [])), (Value.tuple (List.toArray [])), (Value.tuple (List.toArray [])), (Value.tuple (List.toArray [])), (Value.tuple (List.toArray [])), (Value.tuple (List.toArray [])), (Value.tuple (List.toArray [])), (Value.tuple (List.toArray [])), (Value.tuple (List.toArray [])), (Value.tuple (List.toArray [])), (Value.tuple (List.toArray [])), (Value.tuple (List.toArray [])), (Value.tuple (List.toArray [])), (Value.tuple (List.toArray [])), (Value.tuple (List.toArray [])), (Value.tuple (List.toArray [])), (Value.tuple (List.toArray []))] ∧
  [(Ch.row (Row.mk Bool.true ao t 4 n rc [(fun (i0 : Nat) => (SC.int (g0 i0))), (fun (i1 : Nat) => (SC.int (g1 i1))), (fun (i2 : Nat) => (SC.int (g2 i2))), (fun (i3 : Nat) => (SC.int (g3 i3)))]))] = [(Ch.row (Row.mk Bool.true ao t 4 n rc [(fun (i4 : Nat) => (SC.int (g0 i4))), (fun (i5 : Nat) => (SC.int (g1 i5))), (fun (i6 : Nat) => (SC.int (g2 i6))), (fun (i7 : Nat) => (SC.int (g3 i7)))]))]) ∧
  (∀ g8 : (Nat →
  Value),
  ((Value.int IntKind.i64 (mk k0 4 0 n)) = (Value.int IntKind.i64 (mk k0 4 0 n)) ∧
  (Option.some (Ch.row (Row.mk Bool.true ao t 4 n rc [(fun (i9 : Nat) => (SC.int (mk k0 4 0 i9))), (fun (i10 : Nat) => (SC.int (mk k0 4 1 i10))), (fun (i11 : Nat) => (SC.int (mk k0 4 2 i11))), (fun (i12 : Nat) => (SC.int (mk k0 4 3 i12)))]))) = (Option.some (Ch.row (Row.mk Bool.true ao t 4 n rc [(fun (i13 : Nat) => (SC.int (mk k0 4 0 i13))), (fun (i14 : Nat) => (SC.int (mk k0 4 1 i14))), (fun (i15 : Nat) => (SC.int (mk k0 4 2 i15))), (fun (i16 : Nat) => (SC.int (mk k0 4 3 i16)))]))))))) := by kernel_rfl
theorem markCommandS_any (ao : Option Addr) (t n rc cap : Nat) (g0 g1 g2 g3 : Nat → Int) (k0 : Int) (w : World) (hn : n ≤ 2097152 ∧ 0 ≤ k0 ∧ k0 ≤ 1099511627776) (h : Row.sat w ⟨true, ao, t, 4, n, rc, [fun i => .int (g0 i), fun i => .int (g1 i), fun i => .int (g2 i), fun i => .int (g3 i)]⟩) :
    Calls Try.prog 30 #[.slice ao n cap, .int .i64 k0] w fun e w' => e = .returned (.int .i64 (mk k0 4 0 n)) ∧ HS ⟨w, (Ch.row ⟨true, ao, t, 4, n, rc, [fun i => .int (g0 i), fun i => .int (g1 i), fun i => .int (g2 i), fun i => .int (g3 i)]⟩).at⟩ [.row ⟨true, ao, t, 4, n, rc, [fun i => .int (mk k0 4 0 i), fun i => .int (mk k0 4 1 i), fun i => .int (mk k0 4 2 i), fun i => .int (mk k0 4 3 i)]⟩] w' := by
  refine fn_ok mixed (E := { L := [(2, sMarkCommandL ao t n rc cap g0 g1 g2 g3 k0)] }) trivial Try.func30 (one_loop (by kernel_rfl) (by kernel_rfl) (markCommandL_ok ao t n rc cap g0 g1 g2 g3 k0 hn _)) (@Eq.mpr _ _ (markCommandS_T ao t n rc cap g0 g1 g2 g3 k0) ?_) (HS.one h) (fun v ch' w' ⟨hv, hc⟩ hs => ⟨by rw [hv], ?_⟩)
  · refine ⟨⟨rfl, rfl⟩, ?_⟩
    intros
    exact ⟨rfl, rfl⟩
  · have := hs.sel [0] (by simp)
    simpa [selC, hc] using this
def sMarkCommandS : Sm := fun args ch k =>
  match args with
  | [.a (.c (.sl id ao n _)), .a (.c kc)] =>
    match ch[id]?, asI kc with
    | some (.row r), some k0 =>
      match r.own with
      | true => ∃ g0 : Nat → Int, ∃ g1 : Nat → Int, ∃ g2 : Nat → Int, ∃ g3 : Nat → Int, (ao = r.ao ∧ n = r.n ∧ r.fld = [fun i => .int (g0 i), fun i => .int (g1 i), fun i => .int (g2 i), fun i => .int (g3 i)] ∧ markC n k0) ∧ k (.a (.c (.int (mk k0 4 0 n)))) (ch.set id (.row { r with fld := [fun i => .int (mk k0 4 0 i), fun i => .int (mk k0 4 1 i), fun i => .int (mk k0 4 2 i), fun i => .int (mk k0 4 3 i)] })) [id]
      | false => False
    | _, _ => False
  | _ => False
theorem sMarkCommandS_ok : SmOK Try.prog 30 sMarkCommandS := by
  refine smTurn Try.call30 fun args ch k w X h0 hs => ?_
  unfold sMarkCommandS at h0
  split at h0
  · rename_i id ao n cap kc
    split at h0
    · rename_i r k0 hid hkc
      split at h0
      · rename_i ho
        obtain ⟨g0, g1, g2, g3, ⟨rfl, rfl, hf, hn⟩, h0⟩ := h0
        have hr : r.sat w := hs.sat id _ hid
        have hs' : r.s = 4 := by have := hr.1; rw [hf] at this; exact this.symm
        obtain ⟨ow, ao, t, s', n, rc, fs⟩ := r
        simp only at hf ho hs' hr h0 hn
        subst hf
        subst ho
        subst hs'
        refine ⟨_, id, _, [fun i => .int (mk k0 4 0 i), fun i => .int (mk k0 4 1 i), fun i => .int (mk k0 4 2 i), fun i => .int (mk k0 4 3 i)], hid, rfl, h0, ?_⟩
        simp only [List.map_cons, List.map_nil, den_a, den_c, asI_den hkc]
        exact markCommandS_any ao t n rc cap g0 g1 g2 g3 k0 w hn hr
      · exact h0.elim
    · exact h0.elim
  · exact h0.elim

/-! laws.heldCommandS: where it holds the marks -/
def heldCommandH (ao : Option Addr) (n cap : Nat) (i kk : SC) (g : Nat → Value) : List SV := [.a (.c (.sl 0 ao n cap)), .a (.c kk), .a (.c (.val (g 2))), .a (.c (.val (g 3))), .a (.c (.il 0)), .a (.c i), .a (.c (.val (g 6))), .a (.c (.val (g 7))), .a (.c (.val (g 8))), .a (.c (.val (g 9))), .a (.c (.val (g 10))), .a (.c (.val (g 11))), .a (.c (.val (g 12))), .a (.c (.val (g 13))), .a (.c (.val (g 14))), .a (.c (.val (g 15))), .a (.c (.val (g 16))), .a (.c (.val (g 17))), .a (.c (.val (g 18))), .a (.c (.val (g 19))), .a (.c (.val (g 20))), .a (.c (.val (g 21))), .a (.c (.val (g 22))), .a (.c (.val (g 23))), .a (.c (.val (g 24))), .a (.c (.val (g 25))), .a (.c (.val (g 26))), .a (.c (.val (g 27))), .a (.c (.val (g 28))), .a (.c (.val (g 29))), .a (.c (.val (g 30))), .a (.c (.val (g 31))), .a (.c (.val (g 32))), .a (.c (.val (g 33))), .a (.c (.val (g 34))), .a (.c (.val (g 35))), .a (.c (.val (g 36))), .a (.c (.val (g 37))), .a (.c (.val (g 38))), .a (.c (.val (g 39))), .a (.c (.val (g 40))), .a (.c (.val (g 41))), .a (.c (.val (g 42))), .a (.c (.val (g 43))), .a (.c (.val (g 44))), .a (.c (.val (g 45))), .a (.c (.val (g 46))), .a (.c (.val (g 47))), .a (.c (.val (g 48)))]
def heldCommandT (ao : Option Addr) (n : Nat) (k0 : Int) : List Ch := [.row ⟨false, ao, 0, 4, n, 0, [fun i => .int (mk k0 4 0 i), fun i => .int (mk k0 4 1 i), fun i => .int (mk k0 4 2 i), fun i => .int (mk k0 4 3 i)]⟩]
def sHeldCommandL (ao : Option Addr) (n cap : Nat) (k0 : Int) : LSm := fun ts ch k =>
  (ts.map SV.den = (heldCommandH ao n cap (.il 0) (.int k0) (fun d => (ts.getD d .undef).den)).map SV.den ∧ ch = heldCommandT ao n k0) ∧
    ∀ g, k (.exit 0) (heldCommandH ao n cap (.int (n : Int)) (.int (mk k0 4 0 n)) g) (heldCommandT ao n k0)
theorem heldCommandB (ao : Option Addr) (n cap : Nat) (k0 : Int) (j : Nat) (g : Nat → Value) (NX : List SV → List Ch → Prop) (kx : Exit → List SV → List Ch → Prop) : (exCode Try.prog {} 400 (theLoop Try.f63 0) (heldCommandH ao n cap (.int (j : Int)) (.int (mk k0 4 0 j)) g) (heldCommandT ao n k0) (loopK NX kx)) = (
  (((decide (((j : Nat) : Int) < ((n : Nat) : Int))) = Bool.true →
  (ao = ao ∧
   (n = n ∧
   ((0 ≤ ((j : Nat) : Int) ∧ ((j : Nat) : Int) < ((n : Nat) : Int)) ∧
   (ao = ao ∧
   (j < n ∧
   (ao = ao ∧
   (j < n ∧
   ((((mk k0 4 0 j) != (mk k0 4 0 j)) = Bool.true →
   (kx Exit.ret [(SV.a (SA.c (SC.sl 0 ao n cap))), (SV.a (SA.c (SC.int (mk k0 4 0 j)))), (SV.a (SA.c (SC.val (g 2)))), (SV.a (SA.c (SC.val (g 3)))), (SV.a (SA.c (SC.il (-1 : Int)))), (SV.a (SA.c (SC.int ((j : Nat) : Int)))), (SV.a (SA.c (SC.int ((j : Nat) : Int)))), (SV.a (SA.c (SC.sl 0 ao n cap))), (SV.a (SA.c (SC.int ((n : Nat) : Int)))), (SV.a (SA.c (SC.lit Bool.true))), (SV.a (SA.c (SC.val (g 10)))), (SV.a (SA.c (SC.val (g 11)))), (SV.a (SA.c (SC.sl 0 ao n cap))), (SV.a (SA.c (SC.int ((j : Nat) : Int)))), (SV.a (SA.c (SC.rptr 0 ao 4 j 0))), (SV.a (SA.c (SC.rptr 0 ao 4 j 0))), (SV.a (SA.c (SC.int (mk k0 4 0 j)))), (SV.a (SA.c (SC.int (mk k0 4 0 j)))), (SV.a (SA.c (SC.lit Bool.true))), (SV.a (SA.c (SC.val (g 19)))), (SV.a (SA.c (SC.val (g 20)))), (SV.a (SA.c (SC.val (g 21)))), (SV.a (SA.c (SC.val (g 22)))), (SV.a (SA.c (SC.val (g 23)))), (SV.a (SA.c (SC.val (g 24)))), (SV.a (SA.c (SC.val (g 25)))), (SV.a (SA.c (SC.val (g 26)))), (SV.a (SA.c (SC.val (g 27)))), (SV.a (SA.c (SC.val (g 28)))), (SV.a (SA.c (SC.val (g 29)))), (SV.a (SA.c (SC.val (g 30)))), (SV.a (SA.c (SC.val (g 31)))), (SV.a (SA.c (SC.val (g 32)))), (SV.a (SA.c (SC.val (g 33)))), (SV.a (SA.c (SC.val (g 34)))), (SV.a (SA.c (SC.val (g 35)))), (SV.a (SA.c (SC.val (g 36)))), (SV.a (SA.c (SC.val (g 37)))), (SV.a (SA.c (SC.val (g 38)))), (SV.a (SA.c (SC.val (g 39)))), (SV.a (SA.c (SC.val (g 40)))), (SV.a (SA.c (SC.val (g 41)))), (SV.a (SA.c (SC.val (g 42)))), (SV.a (SA.c (SC.val (g 43)))), (SV.a (SA.c (SC.val (g 44)))), (SV.a (SA.c (SC.val (g 45)))), (SV.a (SA.c (SC.val (g 46)))), (SV.a (SA.c (SC.val (g 47)))), (SV.a (SA.c (SC.val (g 48))))] [(Ch.row (Row.mk Bool.false ao 0 4 n 0 [(fun (i0 : Nat) => (SC.int (mk k0 4 0 i0))), (fun (i1 : Nat) => (SC.int (mk k0 4 1 i1))), (fun (i2 : Nat) => (SC.int (mk k0 4 2 i2))), (fun (i3 : Nat) => (SC.int (mk k0 4 3 i3)))]))])) ∧
   (((mk k0 4 0 j) != (mk k0 4 0 j)) = Bool.false →
   ((rng ((mk k0 4 0 j) + (1 : Int))) ∧
    (ao = ao ∧
    (n = n ∧
    ((0 ≤ ((j : Nat) : Int) ∧ ((j : Nat) : Int) < ((n : Nat) : Int)) ∧
    (ao = ao ∧
    (j < n ∧
    (ao = ao ∧
    (j < n ∧
    ((((mk k0 4 1 j) != ((mk k0 4 0 j) + (1 : Int))) = Bool.true →
    (kx Exit.ret [(SV.a (SA.c (SC.sl 0 ao n cap))), (SV.a (SA.c (SC.int ((mk k0 4 0 j) + (1 : Int))))), (SV.a (SA.c (SC.val (g 2)))), (SV.a (SA.c (SC.val (g 3)))), (SV.a (SA.c (SC.il (-1 : Int)))), (SV.a (SA.c (SC.int ((j : Nat) : Int)))), (SV.a (SA.c (SC.int ((j : Nat) : Int)))), (SV.a (SA.c (SC.sl 0 ao n cap))), (SV.a (SA.c (SC.int ((n : Nat) : Int)))), (SV.a (SA.c (SC.lit Bool.true))), (SV.a (SA.c (SC.val (g 10)))), (SV.a (SA.c (SC.val (g 11)))), (SV.a (SA.c (SC.sl 0 ao n cap))), (SV.a (SA.c (SC.int ((j : Nat) : Int)))), (SV.a (SA.c (SC.rptr 0 ao 4 j 0))), (SV.a (SA.c (SC.rptr 0 ao 4 j 0))), (SV.a (SA.c (SC.int (mk k0 4 0 j)))), (SV.a (SA.c (SC.int (mk k0 4 0 j)))), (SV.a (SA.c (SC.lit Bool.false))), (SV.a (SA.c (SC.int (mk k0 4 0 j)))), (SV.a (SA.c (SC.int ((mk k0 4 0 j) + (1 : Int))))), (SV.a (SA.c (SC.sl 0 ao n cap))), (SV.a (SA.c (SC.int ((j : Nat) : Int)))), (SV.a (SA.c (SC.rptr 0 ao 4 j 0))), (SV.a (SA.c (SC.rptr 0 ao 4 j 1))), (SV.a (SA.c (SC.int (mk k0 4 1 j)))), (SV.a (SA.c (SC.int ((mk k0 4 0 j) + (1 : Int))))), (SV.a (SA.c (SC.lit Bool.true))), (SV.a (SA.c (SC.val (g 28)))), (SV.a (SA.c (SC.val (g 29)))), (SV.a (SA.c (SC.val (g 30)))), (SV.a (SA.c (SC.val (g 31)))), (SV.a (SA.c (SC.val (g 32)))), (SV.a (SA.c (SC.val (g 33)))), (SV.a (SA.c (SC.val (g 34)))), (SV.a (SA.c (SC.val (g 35)))), (SV.a (SA.c (SC.val (g 36)))), (SV.a (SA.c (SC.val (g 37)))), (SV.a (SA.c (SC.val (g 38)))), (SV.a (SA.c (SC.val (g 39)))), (SV.a (SA.c (SC.val (g 40)))), (SV.a (SA.c (SC.val (g 41)))), (SV.a (SA.c (SC.val (g 42)))), (SV.a (SA.c (SC.val (g 43)))), (SV.a (SA.c (SC.val (g 44)))), (SV.a (SA.c (SC.val (g 45)))), (SV.a (SA.c (SC.val (g 46)))), (SV.a (SA.c (SC.val (g 47)))), (SV.a (SA.c (SC.val (g 48))))] [(Ch.row (Row.mk Bool.false ao 0 4 n 0 [(fun (i4 : Nat) => (SC.int (mk k0 4 0 i4))), (fun (i5 : Nat) => (SC.int (mk k0 4 1 i5))), (fun (i6 : Nat) => (SC.int (mk k0 4 2 i6))), (fun (i7 : Nat) => (SC.int (mk k0 4 3 i7)))]))])) ∧
    (((mk k0 4 1 j) != ((mk k0 4 0 j) + (1 : Int))) = Bool.false →
    ((rng (((mk k0 4 0 j) + (1 : Int)) + (1 : Int))) ∧
     (ao = ao ∧
     (n = n ∧
     ((0 ≤ ((j : Nat) : Int) ∧ ((j : Nat) : Int) < ((n : Nat) : Int)) ∧
     (ao = ao ∧
     (j < n ∧
     (ao = ao ∧
     (j < n ∧
     ((((mk k0 4 2 j) != (((mk k0 4 0 j) + (1 : Int)) + (1 : Int))) = Bool.true →
     (kx Exit.ret [(SV.a (SA.c (SC.sl 0 ao n cap))), (SV.a (SA.c (SC.int (((mk k0 4 0 j) + (1 : Int)) + (1 : Int))))), (SV.a (SA.c (SC.val (g 2)))), (SV.a (SA.c (SC.val (g 3)))), (SV.a (SA.c (SC.il (-1 : Int)))), (SV.a (SA.c (SC.int ((j : Nat) : Int)))), (SV.a (SA.c (SC.int ((j : Nat) : Int)))), (SV.a (SA.c (SC.sl 0 ao n cap))), (SV.a (SA.c (SC.int ((n : Nat) : Int)))), (SV.a (SA.c (SC.lit Bool.true))), (SV.a (SA.c (SC.val (g 10)))), (SV.a (SA.c (SC.val (g 11)))), (SV.a (SA.c (SC.sl 0 ao n cap))), (SV.a (SA.c (SC.int ((j : Nat) : Int)))), (SV.a (SA.c (SC.rptr 0 ao 4 j 0))), (SV.a (SA.c (SC.rptr 0 ao 4 j 0))), (SV.a (SA.c (SC.int (mk k0 4 0 j)))), (SV.a (SA.c (SC.int (mk k0 4 0 j)))), (SV.a (SA.c (SC.lit Bool.false))), (SV.a (SA.c (SC.int (mk k0 4 0 j)))), (SV.a (SA.c (SC.int ((mk k0 4 0 j) + (1 : Int))))), (SV.a (SA.c (SC.sl 0 ao n cap))), (SV.a (SA.c (SC.int ((j : Nat) : Int)))), (SV.a (SA.c (SC.rptr 0 ao 4 j 0))), (SV.a (SA.c (SC.rptr 0 ao 4 j 1))), (SV.a (SA.c (SC.int (mk k0 4 1 j)))), (SV.a (SA.c (SC.int ((mk k0 4 0 j) + (1 : Int))))), (SV.a (SA.c (SC.lit Bool.false))), (SV.a (SA.c (SC.int ((mk k0 4 0 j) + (1 : Int))))), (SV.a (SA.c (SC.int (((mk k0 4 0 j) + (1 : Int)) + (1 : Int))))), (SV.a (SA.c (SC.sl 0 ao n cap))), (SV.a (SA.c (SC.int ((j : Nat) : Int)))), (SV.a (SA.c (SC.rptr 0 ao 4 j 0))), (SV.a (SA.c (SC.rptr 0 ao 4 j 2))), (SV.a (SA.c (SC.int (mk k0 4 2 j)))), (SV.a (SA.c (SC.int (((mk k0 4 0 j) + (1 : Int)) + (1 : Int))))), (SV.a (SA.c (SC.lit Bool.true))), (SV.a (SA.c (SC.val (g 37)))), (SV.a (SA.c (SC.val (g 38)))), (SV.a (SA.c (SC.val (g 39)))), (SV.a (SA.c (SC.val (g 40)))), (SV.a (SA.c (SC.val (g 41)))), (SV.a (SA.c (SC.val (g 42)))), (SV.a (SA.c (SC.val (g 43)))), (SV.a (SA.c (SC.val (g 44)))), (SV.a (SA.c (SC.val (g 45)))), (SV.a (SA.c (SC.val (g 46)))), (SV.a (SA.c (SC.val (g 47)))), (SV.a (SA.c (SC.val (g 48))))] [(Ch.row (Row.mk Bool.false ao 0 4 n 0 [(fun (i8 : Nat) => (SC.int (mk k0 4 0 i8))), (fun (i9 : Nat) => (SC.int (mk k0 4 1 i9))), (fun (i10 : Nat) => (SC.int (mk k0 4 2 i10))), (fun (i11 : Nat) => (SC.int (mk k0 4 3 i11)))]))])) ∧
     (((mk k0 4 2 j) != (((mk k0 4 0 j) + (1 : Int)) + (1 : Int))) = Bool.false →
     ((rng ((((mk k0 4 0 j) + (1 : Int)) + (1 : Int)) + (1 : Int))) ∧
      (ao = ao ∧
      (n = n ∧
      ((0 ≤ ((j : Nat) : Int) ∧ ((j : Nat) : Int) < ((n : Nat) : Int)) ∧
      (ao = ao ∧
      (j < n ∧
      (ao = ao ∧
      (j < n ∧
      ((((mk k0 4 3 j) != ((((mk k0 4 0 j) + (1 : Int)) + (1 : Int)) + (1 : Int))) = Bool.true →
      (kx Exit.ret [(SV.a (SA.c (SC.sl 0 ao n cap))), (SV.a (SA.c (SC.int ((((mk k0 4 0 j) + (1 : Int)) + (1 : Int)) + (1 : Int))))), (SV.a (SA.c (SC.val (g 2)))), (SV.a (SA.c (SC.val (g 3)))), (SV.a (SA.c (SC.il (-1 : Int)))), (SV.a (SA.c (SC.int ((j : Nat) : Int)))), (SV.a (SA.c (SC.int ((j : Nat) : Int)))), (SV.a (SA.c (SC.sl 0 ao n cap))), (SV.a (SA.c (SC.int ((n : Nat) : Int)))), (SV.a (SA.c (SC.lit Bool.true))), (SV.a (SA.c (SC.val (g 10)))), (SV.a (SA.c (SC.val (g 11)))), (SV.a (SA.c (SC.sl 0 ao n cap))), (SV.a (SA.c (SC.int ((j : Nat) : Int)))), (SV.a (SA.c (SC.rptr 0 ao 4 j 0))), (SV.a (SA.c (SC.rptr 0 ao 4 j 0))), (SV.a (SA.c (SC.int (mk k0 4 0 j)))), (SV.a (SA.c (SC.int (mk k0 4 0 j)))), (SV.a (SA.c (SC.lit Bool.false))), (SV.a (SA.c (SC.int (mk k0 4 0 j)))), (SV.a (SA.c (SC.int ((mk k0 4 0 j) + (1 : Int))))), (SV.a (SA.c (SC.sl 0 ao n cap))), (SV.a (SA.c (SC.int ((j : Nat) : Int)))), (SV.a (SA.c (SC.rptr 0 ao 4 j 0))), (SV.a (SA.c (SC.rptr 0 ao 4 j 1))), (SV.a (SA.c (SC.int (mk k0 4 1 j)))), (SV.a (SA.c (SC.int ((mk k0 4 0 j) + (1 : Int))))), (SV.a (SA.c (SC.lit Bool.false))), (SV.a (SA.c (SC.int ((mk k0 4 0 j) + (1 : Int))))), (SV.a (SA.c (SC.int (((mk k0 4 0 j) + (1 : Int)) + (1 : Int))))), (SV.a (SA.c (SC.sl 0 ao n cap))), (SV.a (SA.c (SC.int ((j : Nat) : Int)))), (SV.a (SA.c (SC.rptr 0 ao 4 j 0))), (SV.a (SA.c (SC.rptr 0 ao 4 j 2))), (SV.a (SA.c (SC.int (mk k0 4 2 j)))), (SV.a (SA.c (SC.int (((mk k0 4 0 j) + (1 : Int)) + (1 : Int))))), (SV.a (SA.c (SC.lit Bool.false))), (SV.a (SA.c (SC.int (((mk k0 4 0 j) + (1 : Int)) + (1 : Int))))), (SV.a (SA.c (SC.int ((((mk k0 4 0 j) + (1 : Int)) + (1 : Int)) + (1 : Int))))), (SV.a (SA.c (SC.sl 0 ao n cap))), (SV.a (SA.c (SC.int ((j : Nat) : Int)))), (SV.a (SA.c (SC.rptr 0 ao 4 j 0))), (SV.a (SA.c (SC.rptr 0 ao 4 j 3))), (SV.a (SA.c (SC.int (mk k0 4 3 j)))), (SV.a (SA.c (SC.int ((((mk k0 4 0 j) + (1 : Int)) + (1 : Int)) + (1 : Int))))), (SV.a (SA.c (SC.lit Bool.true))), (SV.a (SA.c (SC.val (g 46)))), (SV.a (SA.c (SC.val (g 47)))), (SV.a (SA.c (SC.val (g 48))))] [(Ch.row (Row.mk Bool.false ao 0 4 n 0 [(fun (i12 : Nat) => (SC.int (mk k0 4 0 i12))), (fun (i13 : Nat) => (SC.int (mk k0 4 1 i13))), (fun (i14 : Nat) => (SC.int (mk k0 4 2 i14))), (fun (i15 : Nat) => (SC.int (mk k0 4 3 i15)))]))])) ∧
      (((mk k0 4 3 j) != ((((mk k0 4 0 j) + (1 : Int)) + (1 : Int)) + (1 : Int))) = Bool.false →
      ((rng (((((mk k0 4 0 j) + (1 : Int)) + (1 : Int)) + (1 : Int)) + (1 : Int))) ∧
       ((rng (((j : Nat) : Int) + (1 : Int))) ∧
       (NX [(SV.a (SA.c (SC.sl 0 ao n cap))), (SV.a (SA.c (SC.int (((((mk k0 4 0 j) + (1 : Int)) + (1 : Int)) + (1 : Int)) + (1 : Int))))), (SV.a (SA.c (SC.val (g 2)))), (SV.a (SA.c (SC.val (g 3)))), (SV.a (SA.c (SC.il (0 : Int)))), (SV.a (SA.c (SC.int (((j : Nat) : Int) + (1 : Int))))), (SV.a (SA.c (SC.int ((j : Nat) : Int)))), (SV.a (SA.c (SC.sl 0 ao n cap))), (SV.a (SA.c (SC.int ((n : Nat) : Int)))), (SV.a (SA.c (SC.lit Bool.true))), (SV.a (SA.c (SC.int ((j : Nat) : Int)))), (SV.a (SA.c (SC.int (((j : Nat) : Int) + (1 : Int))))), (SV.a (SA.c (SC.sl 0 ao n cap))), (SV.a (SA.c (SC.int ((j : Nat) : Int)))), (SV.a (SA.c (SC.rptr 0 ao 4 j 0))), (SV.a (SA.c (SC.rptr 0 ao 4 j 0))), (SV.a (SA.c (SC.int (mk k0 4 0 j)))), (SV.a (SA.c (SC.int (mk k0 4 0 j)))), (SV.a (SA.c (SC.lit Bool.false))), (SV.a (SA.c (SC.int (mk k0 4 0 j)))), (SV.a (SA.c (SC.int ((mk k0 4 0 j) + (1 : Int))))), (SV.a (SA.c (SC.sl 0 ao n cap))), (SV.a (SA.c (SC.int ((j : Nat) : Int)))), (SV.a (SA.c (SC.rptr 0 ao 4 j 0))), (SV.a (SA.c (SC.rptr 0 ao 4 j 1))), (SV.a (SA.c (SC.int (mk k0 4 1 j)))), (SV.a (SA.c (SC.int ((mk k0 4 0 j) + (1 : Int))))), (SV.a (SA.c (SC.lit Bool.false))), (SV.a (SA.c (SC.int ((mk k0 4 0 j) + (1 : Int))))), (SV.a (SA.c (SC.int (((mk k0 4 0 j) + (1 : Int)) + (1 : Int))))), (SV.a (SA.c (SC.sl 0 ao n cap))), (SV.a (SA.c (SC.int ((j : Nat) : Int)))), (SV.a (SA.c (SC.rptr 0 ao 4 j 0))), (SV.a (SA.c (SC.rptr 0 ao 4 j 2))), (SV.a (SA.c (SC.int (mk k0 4 2 j)))), (SV.a (SA.c (SC.int (((mk k0 4 0 j) + (1 : Int)) + (1 : Int))))), (SV.a (SA.c (SC.lit Bool.false))), (SV.a (SA.c (SC.int (((mk k0 4 0 j) + (1 : Int)) + (1 : Int))))), (SV.a (SA.c (SC.int ((((mk k0 4 0 j) + (1 : Int)) + (1 : Int)) + (1 : Int))))), (SV.a (SA.c (SC.sl 0 ao n cap))), (SV.a (SA.c (SC.int ((j : Nat) : Int)))), (SV.a (SA.c (SC.rptr 0 ao 4 j 0))), (SV.a (SA.c (SC.rptr 0 ao 4 j 3))), (SV.a (SA.c (SC.int (mk k0 4 3 j)))), (SV.a (SA.c (SC.int ((((mk k0 4 0 j) + (1 : Int)) + (1 : Int)) + (1 : Int))))), (SV.a (SA.c (SC.lit Bool.false))), (SV.a (SA.c (SC.int ((((mk k0 4 0 j) + (1 : Int)) + (1 : Int)) + (1 : Int))))), (SV.a (SA.c (SC.int (((((mk k0 4 0 j) + (1 : Int)) + (1 : Int)) + (1 : Int)) + (1 : Int))))), (SV.a (SA.c (SC.val (g 48))))] [(Ch.row (Row.mk Bool.false ao 0 4 n 0 [(fun (i16 : Nat) => (SC.int (mk k0 4 0 i16))), (fun (i17 : Nat) => (SC.int (mk k0 4 1 i17))), (fun (i18 : Nat) => (SC.int (mk k0 4 2 i18))), (fun (i19 : Nat) => (SC.int (mk k0 4 3 i19)))]))]))))))))))))))))))))))))))))))))))))))))))) ∧
  ((decide (((j : Nat) : Int) < ((n : Nat) : Int))) = Bool.false →
  (kx (Exit.exit 0) [(SV.a (SA.c (SC.sl 0 ao n cap))), (SV.a (SA.c (SC.int (mk k0 4 0 j)))), (SV.a (SA.c (SC.val (g 2)))), (SV.a (SA.c (SC.val (g 3)))), (SV.a (SA.c (SC.il (0 : Int)))), (SV.a (SA.c (SC.int ((j : Nat) : Int)))), (SV.a (SA.c (SC.int ((j : Nat) : Int)))), (SV.a (SA.c (SC.sl 0 ao n cap))), (SV.a (SA.c (SC.int ((n : Nat) : Int)))), (SV.a (SA.c (SC.lit Bool.false))), (SV.a (SA.c (SC.val (g 10)))), (SV.a (SA.c (SC.val (g 11)))), (SV.a (SA.c (SC.val (g 12)))), (SV.a (SA.c (SC.val (g 13)))), (SV.a (SA.c (SC.val (g 14)))), (SV.a (SA.c (SC.val (g 15)))), (SV.a (SA.c (SC.val (g 16)))), (SV.a (SA.c (SC.val (g 17)))), (SV.a (SA.c (SC.val (g 18)))), (SV.a (SA.c (SC.val (g 19)))), (SV.a (SA.c (SC.val (g 20)))), (SV.a (SA.c (SC.val (g 21)))), (SV.a (SA.c (SC.val (g 22)))), (SV.a (SA.c (SC.val (g 23)))), (SV.a (SA.c (SC.val (g 24)))), (SV.a (SA.c (SC.val (g 25)))), (SV.a (SA.c (SC.val (g 26)))), (SV.a (SA.c (SC.val (g 27)))), (SV.a (SA.c (SC.val (g 28)))), (SV.a (SA.c (SC.val (g 29)))), (SV.a (SA.c (SC.val (g 30)))), (SV.a (SA.c (SC.val (g 31)))), (SV.a (SA.c (SC.val (g 32)))), (SV.a (SA.c (SC.val (g 33)))), (SV.a (SA.c (SC.val (g 34)))), (SV.a (SA.c (SC.val (g 35)))), (SV.a (SA.c (SC.val (g 36)))), (SV.a (SA.c (SC.val (g 37)))), (SV.a (SA.c (SC.val (g 38)))), (SV.a (SA.c (SC.val (g 39)))), (SV.a (SA.c (SC.val (g 40)))), (SV.a (SA.c (SC.val (g 41)))), (SV.a (SA.c (SC.val (g 42)))), (SV.a (SA.c (SC.val (g 43)))), (SV.a (SA.c (SC.val (g 44)))), (SV.a (SA.c (SC.val (g 45)))), (SV.a (SA.c (SC.val (g 46)))), (SV.a (SA.c (SC.val (g 47)))), (SV.a (SA.c (SC.val (g 48))))] [(Ch.row (Row.mk Bool.false ao 0 4 n 0 [(fun (i20 : Nat) => (SC.int (mk k0 4 0 i20))), (fun (i21 : Nat) => (SC.int (mk k0 4 1 i21))), (fun (i22 : Nat) => (SC.int (mk k0 4 2 i22))), (fun (i23 : Nat) => (SC.int (mk k0 4 3 i23)))]))])))) := by kernel_rfl
theorem heldCommandL_ok (ao : Option Addr) (n cap : Nat) (k0 : Int) (hn : n ≤ 2097152 ∧ 0 ≤ k0 ∧ k0 ≤ 1099511627776) (X : Cx) : LoopOK Try.prog X (theLoop Try.f63 0) (sHeldCommandL ao n cap k0) := by
  intro ts ch k a w hS hT hd hs
  obtain ⟨⟨h1, rfl⟩, hk⟩ := hS
  refine loop_ok mixed (E := {}) trivial (loopsOK_nil _ _ _) 400 n (fun j ts ch => ∃ g, ts = heldCommandH ao n cap (.int (j : Int)) (.int (mk k0 4 0 j)) g ∧ ch = heldCommandT ao n k0) ?_ ?_ hT hd hs
  · rintro j _ _ ⟨g, rfl, rfl⟩ hj
    refine (@Eq.mpr _ _ (heldCommandB ao n cap k0 j g _ _) ?_)
    have hb := mk_bound (s := 4) (c := 0) hn hj (by omega) (by omega)
    refine ⟨fun hlt => ?_, fun hge => ?_⟩
    · have hlt' : j < n := by simpa using hlt
      have hjn : (0 : Int) ≤ (j : Int) ∧ (j : Int) < (n : Int) := ⟨by omega, by omega⟩
      have hnx := mk_next k0 4 j
      repeat' (first | exact rfl | exact True.intro | assumption | refine And.intro ?_ ?_ | omega | (intro hne; exfalso; simp [mk] at hne; omega) | (intro hne; exfalso; simp [mk] at hne; done) | intro _)
      refine Next.mk (fun g => heldCommandH ao n cap (.int ((j + 1 : Nat) : Int)) (.int (mk k0 4 0 (j + 1))) g) _ ⟨_, rfl, rfl⟩ ?_ fun w hw => hw
      rw [hnx]
      simp [heldCommandH, SV.den, SA.den, SC.den]
      try omega
    · have hjn : j = n := by have : ¬ (j < n) := by simpa using hge
                             omega
      subst hjn
      exact Next.mk (fun g => heldCommandH ao j cap (.int (j : Int)) (.int (mk k0 4 0 j)) g) _ (hk _) rfl fun w hw => hw
  · refine Next.mk (fun g => heldCommandH ao n cap (.int ((0 : Nat) : Int)) (.int (mk k0 4 0 0)) g) _ ⟨_, rfl, rfl⟩ ?_ fun w hw => hw
    rw [h1]
    simp [heldCommandH, SV.den, SA.den, SC.den, mk]
theorem heldCommandS_T (ao : Option Addr) (n cap : Nat) (k0 : Int) : (exFn Try.prog {L := [(2, sHeldCommandL ao n cap k0)]} 400 Try.f63 ([.a (.c (.sl 0 ao n cap)), .a (.c (.int k0))]) (heldCommandT ao n k0) (fun v _ => v.den = .int .i64 (mk k0 4 0 n))) = (
  (([(Value.slice ao n cap), (Value.int IntKind.i64 k0), (Value.tuple (List.toArray [])), (Value.tuple (List.toArray [])), (Value.int IntKind.i64 (0 : Int)), (Value.int IntKind.i64 (0 : Int)), (Value.tuple (List.toArray [])), (Value.tuple (List.toArray [])), (Value.tuple (List.toArray [])), (Value.tuple (List.toArray [])), (Value.tuple (List.toArray [])), (Value.tuple (List.toArray [])), (Value.tuple (List.toArray [])), (Value.tuple (List.toArray [])), (Value.tuple (List.toArray [])), (Value.tuple (List.toArray [])), (Value.tuple (List.toArray [])), (Value.tuple (List.toArray [])), (Value.tuple (List.toArray [])), (Value.tuple (List.toArray [])), (Value.tuple (List.toArray [])), (Value.tuple (List.toArray [])), (Value.tuple (List.toArray [])), (Value.tuple (List.toArray [])), (Value.tuple (List.toArray [])), (Value.tuple (List.toArray [])), (Value.tuple (List.toArray [])), (Value.tuple (List.toArray [])), (Value.tuple (List.toArray [])), (Value.tuple (List.toArray [])), (Value.tuple (List.toArray [])), (Value.tuple (List.toArray [])), (Value.tuple (List.toArray [])), (Value.tuple (List.toArray [])), (Value.tuple (List.toArray [])), (Value.tuple (List.toArray [])), (Value.tuple (List.toArray [])), (Value.tuple (List.toArray [])), (Value.tuple (List.toArray [])), (Value.tuple (List.toArray [])), (Value.tuple (List.toArray [])), (Value.tuple (List.toArray [])), (Value.tuple (List.toArray [])), (Value.tuple (List.toArray [])), (Value.tuple (List.toArray [])), (Value.tuple (List.toArray [])), (Value.tuple (List.toArray [])), (Value.tuple (List.toArray [])), (Value.tuple (List.toArray []))] = [(Value.slice ao n cap), (Value.int IntKind.i64 k0), (Value.tuple (List.toArray [])), (Value.tuple (List.toArray [])), (Value.int IntKind.i64 (0 : Int)), (Value.int IntKind.i64 (0 : Int)), (Value.tuple (List.toArray [])), (Value.tuple (List.toArray [])), (Value.tuple (List.toArray [])), (Value.tuple (List.toArray [])), (Value.tuple (List.toArray [])), (Value.tuple (List.toArray [])), (Value.tuple (List.toArray [])), (Value.tuple (List.toArray [])), (Value.tuple (List.toArray [])), (Value.tuple (List.toArray [])), (Value.tuple (List.toArray [])), (Value.tuple (List.toArray [])), (Value.tuple (List.toArray [])), (Value.tuple (List.toArray [])), (Value.tuple (List.toArray [])), (Value.tuple (List.toArray [])), (Value.tuple (List.toArray [])), (Value.tuple (List.toArray [])), (Value.tuple (List.toArray [])), (Value.tuple (List.toArray [])), (Value.tuple (List.toArray [])), (Value.tuple (List.toArray [])), (Value.tuple (List.toArray [])), (Value.tuple (List.toArray [])), (Value.tuple (List.toArray [])), (Value.tuple (List.toArray [])), (Value.tuple (List.toArray [])), (Value.tuple (List.toArray [])), (Value.tuple (List.toArray [])), (Value.tuple (List.toArray [])), (Value.tuple (List.toArray [])), (Value.tuple (List.toArray [])), (Value.tuple (List.toArray [])), (Value.tuple (List.toArray [])), (Value.tuple (List.toArray [])), (Value.tuple (List.toArray [])), (Value.tuple (List.toArray [])), (Value.tuple (List.toArray [])), (Value.tuple (List.toArray [])), (Value.tuple (List.toArray [])), (Value.tuple (List.toArray [])), (Value.tuple (List.toArray [])), (Value.tuple (List.toArray []))] ∧
  [(Ch.row (Row.mk Bool.false ao 0 4 n 0 [(fun (i0 : Nat) => (SC.int (mk k0 4 0 i0))), (fun (i1 : Nat) => (SC.int (mk k0 4 1 i1))), (fun (i2 : Nat) => (SC.int (mk k0 4 2 i2))), (fun (i3 : Nat) => (SC.int (mk k0 4 3 i3)))]))] = [(Ch.row (Row.mk Bool.false ao 0 4 n 0 [(fun (i4 : Nat) => (SC.int (mk k0 4 0 i4))), (fun (i5 : Nat) => (SC.int (mk k0 4 1 i5))), (fun (i6 : Nat) => (SC.int (mk k0 4 2 i6))), (fun (i7 : Nat) => (SC.int (mk k0 4 3 i7)))]))]) ∧
  (∀ g8 : (Nat →
  Value),
  (Value.int IntKind.i64 (mk k0 4 0 n)) = (Value.int IntKind.i64 (mk k0 4 0 n))))) := by kernel_rfl
theorem heldCommandS_any (ao : Option Addr) (n cap : Nat) (k0 : Int) (w : World) (hn : n ≤ 2097152 ∧ 0 ≤ k0 ∧ k0 ≤ 1099511627776) (h : Row.sat w ⟨false, ao, 0, 4, n, 0, [fun i => .int (mk k0 4 0 i), fun i => .int (mk k0 4 1 i), fun i => .int (mk k0 4 2 i), fun i => .int (mk k0 4 3 i)]⟩) :
    Calls Try.prog 63 #[.slice ao n cap, .int .i64 k0] w fun e w' => e = .returned (.int .i64 (mk k0 4 0 n)) ∧ Below w.heap.size w w' := by
  refine fn_ok mixed (E := { L := [(2, sHeldCommandL ao n cap k0)] }) trivial Try.func63 (one_loop (by kernel_rfl) (by kernel_rfl) (heldCommandL_ok ao n cap k0 hn _)) (@Eq.mpr _ _ (heldCommandS_T ao n cap k0) ?_) (HS.rows (fun _ => False) [⟨false, ao, 0, 4, n, 0, [fun i => .int (mk k0 4 0 i), fun i => .int (mk k0 4 1 i), fun i => .int (mk k0 4 2 i), fun i => .int (mk k0 4 3 i)]⟩] (by simpa using h)) (fun v ch' w' hv hs => ⟨by rw [hv], hs.below⟩)
  refine ⟨⟨rfl, rfl⟩, ?_⟩
  intros
  rfl
def sHeldCommandS : Sm := fun args ch k =>
  match args with
  | [.a (.c (.sl id ao n _)), .a (.c kc)] =>
    match ch[id]?, asI kc with
    | some (.row r), some k0 => (ao = r.ao ∧ n = r.n ∧ r.fld = [fun i => .int (mk k0 4 0 i), fun i => .int (mk k0 4 1 i), fun i => .int (mk k0 4 2 i), fun i => .int (mk k0 4 3 i)] ∧ markC n k0) ∧ k (.a (.c (.int (mk k0 4 0 n)))) ch []
    | _, _ => False
  | _ => False
theorem sHeldCommandS_ok : SmOK Try.prog 63 sHeldCommandS := by
  refine smB Try.call63 fun args ch k w X h0 hs => ?_
  unfold sHeldCommandS at h0
  split at h0
  · rename_i id ao n cap kc
    split at h0
    · rename_i r k0 hid hkc
      obtain ⟨⟨rfl, rfl, hf, hn⟩, h0⟩ := h0
      refine ⟨_, h0, ?_⟩
      simp only [List.map_cons, List.map_nil, den_a, den_c, asI_den hkc]
      exact heldCommandS_any r.ao r.n cap k0 w hn (Row.seenAs (hs.sat id _ hid) hf rfl)
    · exact h0.elim
  · exact h0.elim

/-! laws.szCommandS -/
theorem szCommandS_T (ao : Option Addr) (n cap : Nat) (k0 : Int) : (exFn Try.prog {} 400 Try.f26 ([.a (.c (.sl 0 ao n cap)), .a (.c (.int k0))]) ([]) (fun v _ => v.den = .int .i64 (szI k0 n))) = (
  ((rng (k0 - ((n : Nat) : Int))) ∧
  (((decide ((k0 - ((n : Nat) : Int)) < (0 : Int))) = Bool.true →
  (Value.int IntKind.i64 (-1 : Int)) = (Value.int IntKind.i64 (szI k0 n))) ∧
  ((decide ((k0 - ((n : Nat) : Int)) < (0 : Int))) = Bool.false →
  (Value.int IntKind.i64 (k0 - ((n : Nat) : Int))) = (Value.int IntKind.i64 (szI k0 n)))))) := by kernel_rfl
theorem szCommandS_any (ao : Option Addr) (n cap : Nat) (k0 : Int) (w : World) (hn : n ≤ 9223372036854775807 ∧ 0 ≤ k0 ∧ k0 ≤ 1048576) : Calls Try.prog 26 #[.slice ao n cap, .int .i64 k0] w fun e w' => e = .returned (.int .i64 (szI k0 n)) ∧ Below w.heap.size w w' := by
  refine fnB (tb := []) trivial Try.func26 (@Eq.mpr _ _ (szCommandS_T ao n cap k0) ?_) (HS.start w (fun _ => False)) (fun v ch' w' hk hs => ⟨by rw [hk], hs.below⟩)
  refine ⟨⟨by omega, by omega⟩, fun h => ?_, fun h => ?_⟩
  · have h' : k0 - (n : Int) < 0 := by simpa using h
    simp only [szI, if_pos h']
  · have h' : ¬ k0 - (n : Int) < 0 := by simpa using h
    simp only [szI, if_neg h']
def sSzCommandS : Sm := fun args ch k =>
  match args with
  | [.a (.c (.sl _ _ n _)), .a (.c kc)] =>
    match asI kc with
    | some k0 => szC n k0 ∧ (szLt k0 n → k (.a (.c (.il (-1)))) ch []) ∧ (szGe k0 n → k (.a (.c (.int (szSub k0 n)))) ch [])
    | none => False
  | _ => False
theorem sSzCommandS_ok : SmOK Try.prog 26 sSzCommandS := by
  refine smB Try.call26 fun args ch k w X h0 hs => ?_
  unfold sSzCommandS at h0
  split at h0
  · rename_i id ao n cap kc
    split at h0
    · rename_i k0 hkc
      obtain ⟨hn, h1, h2⟩ := h0
      simp only [List.map_cons, List.map_nil, den_a, den_c, asI_den hkc]
      by_cases hlt : k0 - (n : Int) < 0
      · refine ⟨_, h1 (by omega), ?_⟩
        have := szCommandS_any ao n cap k0 w hn
        simp only [szI, if_pos hlt] at this
        exact this
      · refine ⟨_, h2 (by omega), ?_⟩
        have := szCommandS_any ao n cap k0 w hn
        simp only [szI, if_neg hlt] at this
        exact this
    · exact h0.elim
  · exact h0.elim

end Go.Proofs.Ytkfinkolllpcgaa
