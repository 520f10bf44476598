/-
  Symbols checked.
-/
import Derived.Test.YtmgjmglmjfjliabSxG2
namespace Go.Proofs.Ytmgjmglmjfjliab
set_option linter.unusedVariables false
set_option linter.unusedSimpArgs false
open Go.RowKit
set_option maxRecDepth 100000
set_option maxHeartbeats 8000000

theorem dT {p q : Prop} [Decidable p] (h : p → q) : decide p = true → q := fun e => h (of_decide_eq_true e)
theorem dF {p q : Prop} [Decidable p] (h : ¬ p → q) : decide p = false → q := fun e => h (of_decide_eq_false e)
def allB (n : Nat) (p : Nat → Bool) : Bool := (List.range n).all p
theorem allB_zero (p : Nat → Bool) : allB 0 p = true := rfl
theorem allB_succ {n : Nat} {p : Nat → Bool} (h : allB n p = true) (hp : p n = true) : allB (n + 1) p = true := by
  simp only [allB, List.all_eq_true, List.mem_range] at h ⊢
  intro i hi
  by_cases e : i = n
  · rw [e]; exact hp
  · exact h i (by omega)
theorem allB_no {n j : Nat} {p : Nat → Bool} (hj : j < n) (hp : p j = false) : allB n p = false := by
  cases h : allB n p
  · rfl
  · simp only [allB, List.all_eq_true, List.mem_range] at h
    rw [h j hj] at hp
    cases hp
theorem allB_get {n : Nat} {p : Nat → Bool} (h : allB n p = true) {j : Nat} (hj : j < n) : p j = true := by
  simp only [allB, List.all_eq_true, List.mem_range] at h
  exact h j hj
def sIsI : Sm := inlM Try.prog {tb := [(25, sBtw)]} 300 Try.f66
theorem sIsI_ok : SmOK Try.prog 66 sIsI := inlM_ok mixed (E := {tb := [(25, sBtw)]}) ⟨sBtwI_ok, trivial⟩ Try.func66 Try.call66 (fun _ _ _ => loopsOK_nil _ _ _)
def sIsS : Sm := inlM Try.prog {tb := [(48, sBtw)]} 300 Try.f63
theorem sIsS_ok : SmOK Try.prog 63 sIsS := inlM_ok mixed (E := {tb := [(48, sBtw)]}) ⟨sBtwS_ok, trivial⟩ Try.func63 Try.call63 (fun _ _ _ => loopsOK_nil _ _ _)
def symB (n : Nat) (g : Nat → Int) (m : Int) : Bool := allB n (fun j => btw (g j) 0 15) && ieq (n : Int) m
def syIH (ao : Option Addr) (n c : Nat) (f : Nat → Int) (m : Int) (i : SC) (g : Nat → Value) : List SV := [.a (.c (.sl 0 ao n c)), .a (.c (.int m)), .a (.c (.val (g 2))), .a (.c (.val (g 3))), .a (.c (.val (g 4))), .a (.c (.val (g 5))), .a (.c (.val (g 6))), .a (.c (.sl 0 ao n c)), .a (.c (.int (n : Int))), .a (.c i), .a (.c (.val (g 10))), .a (.c (.val (g 11))), .a (.c (.val (g 12))), .a (.c (.val (g 13))), .a (.c (.val (g 14))), .a (.c (.val (g 15))), .a (.c (.val (g 16))), .a (.c (.val (g 17))), .a (.c (.val (g 18))), .a (.c (.val (g 19))), .a (.c (.val (g 20)))]
def syIR (ao : Option Addr) (n c : Nat) (f : Nat → Int) (m : Int) (g : Nat → Value) : List SV := [.a (.c (.val (g 0))), .a (.c (.val (g 1))), .a (.c (.val (g 2))), .a (.c (.val (g 3))), .a (.c (.lit false)), .a (.c (.val (g 5))), .a (.c (.val (g 6))), .a (.c (.val (g 7))), .a (.c (.val (g 8))), .a (.c (.val (g 9))), .a (.c (.val (g 10))), .a (.c (.val (g 11))), .a (.c (.val (g 12))), .a (.c (.val (g 13))), .a (.c (.val (g 14))), .a (.c (.val (g 15))), .a (.c (.val (g 16))), .a (.c (.val (g 17))), .a (.c (.val (g 18))), .a (.c (.val (g 19))), .a (.c (.val (g 20)))]
def syIT (ao : Option Addr) (n c : Nat) (f : Nat → Int) (m : Int) : List Ch := [.row ⟨false, ao, 0, 1, n, 0, [fun i => .int (f i)]⟩]
def syIP (ao : Option Addr) (n c : Nat) (f : Nat → Int) (m : Int) (j : Nat) : Bool := btw (f j) 0 15
def ssyI (ao : Option Addr) (n c : Nat) (f : Nat → Int) (m : Int) : LSm := fun ts ch k =>
  (ts.map SV.den = (syIH ao n c f m (.il 0) (fun d => (ts.getD d .undef).den)).map SV.den ∧ selC ch [0] = syIT ao n c f m) ∧
    (∀ g, allB n (syIP ao n c f m) = true → k (.exit 0) (syIH ao n c f m (.int (n : Int)) g) (syIT ao n c f m)) ∧ (∀ g, allB n (syIP ao n c f m) = false → k .ret (syIR ao n c f m g) (syIT ao n c f m))
theorem syIB (ao : Option Addr) (n c : Nat) (f : Nat → Int) (m : Int) (j : Nat) (g : Nat → Value) (NX : List SV → List Ch → Prop) (kx : Exit → List SV → List Ch → Prop) : (exCode Try.prog { tb := [(66, sIsI)] } 400 (theLoop Try.f54 0) (syIH ao n c f m (.int (j : Int)) g) (syIT ao n c f m) (loopK NX kx)) = (
  ((decide (((j : Nat) : Int) < ((n : Nat) : Int))) = true→ao = ao∧n = n∧(0 ≤ ((j : Nat) : Int)∧((j : Nat) : Int) < ((n : Nat) : Int))∧ao = ao∧j < n∧((! (btw (f j) (0 : Int) (15 : Int))) = true→kx Exit.ret [sV 0 ao n c, iV m, vV (g 2), vV (g 3), fV, vV (g 5), iV (f j), sV 0 ao n c, iV ((n : Nat) : Int), iV ((j : Nat) : Int), tV, rV 0 ao 1 j 0, iV (f j), iV (f j), bV (btw (f j) (0 : Int) (15 : Int)), tV, vV (g 16), vV (g 17), vV (g 18), vV (g 19), vV (g 20)] [Hr false ao 0 1 n 0 [fun a => Ci (f a)]])∧((! (btw (f j) (0 : Int) (15 : Int))) = false→rng (((j : Nat) : Int) + (1 : Int))∧NX [sV 0 ao n c, iV m, vV (g 2), vV (g 3), vV (g 4), vV (g 5), iV (f j), sV 0 ao n c, iV ((n : Nat) : Int), iV (((j : Nat) : Int) + (1 : Int)), tV, rV 0 ao 1 j 0, iV (f j), iV (f j), bV (btw (f j) (0 : Int) (15 : Int)), fV, iV (((j : Nat) : Int) + (1 : Int)), vV (g 17), vV (g 18), vV (g 19), vV (g 20)] [Hr false ao 0 1 n 0 [fun a => Ci (f a)]]))∧((decide (((j : Nat) : Int) < ((n : Nat) : Int))) = false→kx (Exit.exit 0) [sV 0 ao n c, iV m, vV (g 2), vV (g 3), vV (g 4), vV (g 5), vV (g 6), sV 0 ao n c, iV ((n : Nat) : Int), iV ((j : Nat) : Int), fV, vV (g 11), vV (g 12), vV (g 13), vV (g 14), vV (g 15), vV (g 16), vV (g 17), vV (g 18), vV (g 19), vV (g 20)] [Hr false ao 0 1 n 0 [fun a => Ci (f a)]])) := by kernel_rfl
theorem syI_ok (ao : Option Addr) (n c : Nat) (f : Nat → Int) (m : Int) (hn : n ≤ 9223372036854775807) (X : Cx) : LoopOK Try.prog X (theLoop Try.f54 0) (ssyI ao n c f m) := by
  intro ts ch k a w hS hT hd hs
  obtain ⟨⟨h1, hch⟩, hk, hr⟩ := hS
  refine loop_ok mixed (E := { tb := [(66, sIsI)] }) ⟨sIsI_ok, trivial⟩ (loopsOK_nil _ _ _) 400 n (fun j ts ch => ∃ g, allB j (syIP ao n c f m) = true ∧ ts = syIH ao n c f m (.int (j : Int)) g ∧ ch = syIT ao n c f m) ?_ ?_ hT hd hs
  · rintro j _ _ ⟨g, hall, rfl, rfl⟩ hj
    refine (@Eq.mpr _ _ (syIB ao n c f m j g _ _) ?_)
    by_cases hlt : j < n
    · have hjn : (0 : Int) ≤ (j : Int) ∧ (j : Int) < (n : Int) := ⟨by omega, by omega⟩
      cases hp : syIP ao n c f m j
      all_goals simp only [syIP] at hp
      all_goals
        repeat' (first
          | with_reducible exact rfl
          | exact True.intro
          | with_reducible assumption
          | (refine ⟨hlt, ?_⟩; show Next _ _ _ _; refine Next.mk (fun g => syIH ao n c f m (.int ((j + 1 : Nat) : Int)) g) _ ⟨_, allB_succ hall (by simp only [syIP]; exact hp), rfl, rfl⟩ rfl fun w hw => hw.sel [0] (by simp))
          | (refine Next.mk (fun g => syIR ao n c f m g) _ (hr _ (allB_no hlt (by simp only [syIP]; exact hp))) rfl fun w hw => hw.sel [0] (by simp))
          | refine And.intro ?_ ?_
          | (intro h; exfalso; simp at h; omega)
          | (intro h; exfalso; simp [h] at hp; done)
          | (intro h; exfalso; rw [hp] at h; simp at h; done)
          | intro _
          | omega)
        all_goals (exfalso; simp_all; done)
    · have hjn : n = j := by omega
      subst hjn
      repeat' (first
        | with_reducible exact rfl
        | exact True.intro
        | (refine Next.mk (fun g => syIH ao n c f m (.int (n : Int)) g) _ (hk _ hall) rfl fun w hw => hw.sel [0] (by simp))
        | refine And.intro ?_ ?_
        | (intro h; exfalso; simp at h; done)
        | (intro h; exfalso; simp at h; omega)
        | intro _)
  · refine Next.mk (fun g => syIH ao n c f m (.int ((0 : Nat) : Int)) g) _ ⟨_, allB_zero _, rfl, rfl⟩ h1 fun w hw => ?_
    rw [← hch]
    exact hw.sel [0] (by simp)
theorem symI_T (ao : Option Addr) (n c : Nat) (f : Nat → Int) (m : Int) : (exFn Try.prog { tb := [(66, sIsI)], L := [(2, ssyI ao n c f m)] } 400 Try.f54 ([.a (.c (.sl 0 ao n c)), .a (.c (.int m))]) ([.row ⟨false, ao, 0, 1, n, 0, [fun i => .int (f i)]⟩]) (fun v _ => v.den = .bool (symB n f m))) = (
  ([Ws ao n c, Wi m, Wu [], Wu [], Wb false, Wu [], Wu [], Ws ao n c, Wi ((n : Nat) : Int), Wi 0, Wu [], Wu [], Wu [], Wu [], Wu [], Wu [], Wu [], Wu [], Wu [], Wu [], Wu []] = [Ws ao n c, Wi m, Wu [], Wu [], Wb false, Wu [], Wu [], Ws ao n c, Wi ((n : Nat) : Int), Wi 0, Wu [], Wu [], Wu [], Wu [], Wu [], Wu [], Wu [], Wu [], Wu [], Wu [], Wu []]∧[Hr false ao 0 1 n 0 [fun b => Ci (f b)]] = [Hr false ao 0 1 n 0 [fun b => Ci (f b)]])∧(∀ b : Nat→Value, (allB n (syIP ao n c f m)) = true→(Wb (((n : Nat) : Int) == m)) = (Wb (symB n f m)))∧∀ b : Nat→Value, (allB n (syIP ao n c f m)) = false→(Wb false) = (Wb (symB n f m))) := by kernel_rfl
theorem symI_any (ao : Option Addr) (n c : Nat) (f : Nat → Int) (m : Int) (w : World) (h : Row.sat w ⟨false, ao, 0, 1, n, 0, [fun i => .int (f i)]⟩) (hn : n ≤ 9223372036854775807) : Calls Try.prog 54 #[.slice ao n c, .int .i64 m] w fun e w' => e = .returned (.bool (symB n f m)) ∧ Below w.heap.size w w' := by
  refine fn_ok mixed (E := { tb := [(66, sIsI)], L := [(2, ssyI ao n c f m)] }) ⟨sIsI_ok, trivial⟩ Try.func54 (one_loop (by kernel_rfl) (by kernel_rfl) (syI_ok ao n c f m hn _)) (@Eq.mpr _ _ (symI_T ao n c f m) ?_) (HS.rows (fun _ => False) [⟨false, ao, 0, 1, n, 0, [fun i => .int (f i)]⟩] (by simpa using h)) (fun v ch' w' hv hs => ⟨by rw [hv], hs.below⟩)
  clear h
  have e : symB n f m = (allB n (syIP ao n c f m) && ieq (n : Int) m) := rfl
  rw [e]
  repeat' (first
    | with_reducible exact rfl
    | exact True.intro
    | with_reducible assumption
    | refine And.intro ?_ ?_
    | (intro g h; rw [h])
    | intro _)
  all_goals simp
def sySH (ao : Option Addr) (n c : Nat) (f : Nat → Int) (m : Int) (i : SC) (g : Nat → Value) : List SV := [.a (.c (.sl 0 ao n c)), .a (.c (.int m)), .a (.c (.val (g 2))), .a (.c (.val (g 3))), .a (.c (.val (g 4))), .a (.c i), .a (.c (.val (g 6))), .a (.c (.val (g 7))), .a (.c (.val (g 8))), .a (.c (.val (g 9))), .a (.c (.val (g 10))), .a (.c (.val (g 11))), .a (.c (.val (g 12))), .a (.c (.val (g 13))), .a (.c (.val (g 14))), .a (.c (.val (g 15))), .a (.c (.val (g 16))), .a (.c (.val (g 17))), .a (.c (.val (g 18))), .a (.c (.val (g 19))), .a (.c (.val (g 20))), .a (.c (.val (g 21)))]
def sySR (ao : Option Addr) (n c : Nat) (f : Nat → Int) (m : Int) (g : Nat → Value) : List SV := [.a (.c (.val (g 0))), .a (.c (.val (g 1))), .a (.c (.val (g 2))), .a (.c (.val (g 3))), .a (.c (.lit false)), .a (.c (.val (g 5))), .a (.c (.val (g 6))), .a (.c (.val (g 7))), .a (.c (.val (g 8))), .a (.c (.val (g 9))), .a (.c (.val (g 10))), .a (.c (.val (g 11))), .a (.c (.val (g 12))), .a (.c (.val (g 13))), .a (.c (.val (g 14))), .a (.c (.val (g 15))), .a (.c (.val (g 16))), .a (.c (.val (g 17))), .a (.c (.val (g 18))), .a (.c (.val (g 19))), .a (.c (.val (g 20))), .a (.c (.val (g 21)))]
def syST (ao : Option Addr) (n c : Nat) (f : Nat → Int) (m : Int) : List Ch := [.row ⟨false, ao, 0, 1, n, 0, [fun i => .int (f i)]⟩]
def sySP (ao : Option Addr) (n c : Nat) (f : Nat → Int) (m : Int) (j : Nat) : Bool := btw (f j) 0 15
def ssyS (ao : Option Addr) (n c : Nat) (f : Nat → Int) (m : Int) : LSm := fun ts ch k =>
  (ts.map SV.den = (sySH ao n c f m (.il 0) (fun d => (ts.getD d .undef).den)).map SV.den ∧ selC ch [0] = syST ao n c f m) ∧
    (∀ g, allB n (sySP ao n c f m) = true → k (.exit 0) (sySH ao n c f m (.int (n : Int)) g) (syST ao n c f m)) ∧ (∀ g, allB n (sySP ao n c f m) = false → k .ret (sySR ao n c f m g) (syST ao n c f m))
theorem sySB (ao : Option Addr) (n c : Nat) (f : Nat → Int) (m : Int) (j : Nat) (g : Nat → Value) (NX : List SV → List Ch → Prop) (kx : Exit → List SV → List Ch → Prop) : (exCode Try.prog { tb := [(63, sIsS)] } 400 (theLoop Try.f47 0) (sySH ao n c f m (.int (j : Int)) g) (syST ao n c f m) (loopK NX kx)) = (
  ((decide (((j : Nat) : Int) < ((n : Nat) : Int))) = true→ao = ao∧n = n∧(0 ≤ ((j : Nat) : Int)∧((j : Nat) : Int) < ((n : Nat) : Int))∧ao = ao∧j < n∧((! (btw (f j) (0 : Int) (15 : Int))) = true→kx Exit.ret [sV 0 ao n c, iV m, vV (g 2), vV (g 3), fV, iV ((j : Nat) : Int), iV ((j : Nat) : Int), sV 0 ao n c, iV ((n : Nat) : Int), tV, vV (g 10), vV (g 11), sV 0 ao n c, iV ((j : Nat) : Int), rV 0 ao 1 j 0, iV (f j), bV (btw (f j) (0 : Int) (15 : Int)), tV, vV (g 18), vV (g 19), vV (g 20), vV (g 21)] [Hr false ao 0 1 n 0 [fun a => Ci (f a)]])∧((! (btw (f j) (0 : Int) (15 : Int))) = false→rng (((j : Nat) : Int) + (1 : Int))∧NX [sV 0 ao n c, iV m, vV (g 2), vV (g 3), vV (g 4), iV (((j : Nat) : Int) + (1 : Int)), iV ((j : Nat) : Int), sV 0 ao n c, iV ((n : Nat) : Int), tV, iV ((j : Nat) : Int), iV (((j : Nat) : Int) + (1 : Int)), sV 0 ao n c, iV ((j : Nat) : Int), rV 0 ao 1 j 0, iV (f j), bV (btw (f j) (0 : Int) (15 : Int)), fV, vV (g 18), vV (g 19), vV (g 20), vV (g 21)] [Hr false ao 0 1 n 0 [fun a => Ci (f a)]]))∧((decide (((j : Nat) : Int) < ((n : Nat) : Int))) = false→kx (Exit.exit 0) [sV 0 ao n c, iV m, vV (g 2), vV (g 3), vV (g 4), iV ((j : Nat) : Int), iV ((j : Nat) : Int), sV 0 ao n c, iV ((n : Nat) : Int), fV, vV (g 10), vV (g 11), vV (g 12), vV (g 13), vV (g 14), vV (g 15), vV (g 16), vV (g 17), vV (g 18), vV (g 19), vV (g 20), vV (g 21)] [Hr false ao 0 1 n 0 [fun a => Ci (f a)]])) := by kernel_rfl
theorem syS_ok (ao : Option Addr) (n c : Nat) (f : Nat → Int) (m : Int) (hn : n ≤ 9223372036854775807) (X : Cx) : LoopOK Try.prog X (theLoop Try.f47 0) (ssyS ao n c f m) := by
  intro ts ch k a w hS hT hd hs
  obtain ⟨⟨h1, hch⟩, hk, hr⟩ := hS
  refine loop_ok mixed (E := { tb := [(63, sIsS)] }) ⟨sIsS_ok, trivial⟩ (loopsOK_nil _ _ _) 400 n (fun j ts ch => ∃ g, allB j (sySP ao n c f m) = true ∧ ts = sySH ao n c f m (.int (j : Int)) g ∧ ch = syST ao n c f m) ?_ ?_ hT hd hs
  · rintro j _ _ ⟨g, hall, rfl, rfl⟩ hj
    refine (@Eq.mpr _ _ (sySB ao n c f m j g _ _) ?_)
    by_cases hlt : j < n
    · have hjn : (0 : Int) ≤ (j : Int) ∧ (j : Int) < (n : Int) := ⟨by omega, by omega⟩
      cases hp : sySP ao n c f m j
      all_goals simp only [sySP] at hp
      all_goals
        repeat' (first
          | with_reducible exact rfl
          | exact True.intro
          | with_reducible assumption
          | (refine ⟨hlt, ?_⟩; show Next _ _ _ _; refine Next.mk (fun g => sySH ao n c f m (.int ((j + 1 : Nat) : Int)) g) _ ⟨_, allB_succ hall (by simp only [sySP]; exact hp), rfl, rfl⟩ rfl fun w hw => hw.sel [0] (by simp))
          | (refine Next.mk (fun g => sySR ao n c f m g) _ (hr _ (allB_no hlt (by simp only [sySP]; exact hp))) rfl fun w hw => hw.sel [0] (by simp))
          | refine And.intro ?_ ?_
          | (intro h; exfalso; simp at h; omega)
          | (intro h; exfalso; simp [h] at hp; done)
          | (intro h; exfalso; rw [hp] at h; simp at h; done)
          | intro _
          | omega)
        all_goals (exfalso; simp_all; done)
    · have hjn : n = j := by omega
      subst hjn
      repeat' (first
        | with_reducible exact rfl
        | exact True.intro
        | (refine Next.mk (fun g => sySH ao n c f m (.int (n : Int)) g) _ (hk _ hall) rfl fun w hw => hw.sel [0] (by simp))
        | refine And.intro ?_ ?_
        | (intro h; exfalso; simp at h; done)
        | (intro h; exfalso; simp at h; omega)
        | intro _)
  · refine Next.mk (fun g => sySH ao n c f m (.int ((0 : Nat) : Int)) g) _ ⟨_, allB_zero _, rfl, rfl⟩ h1 fun w hw => ?_
    rw [← hch]
    exact hw.sel [0] (by simp)
theorem symS_T (ao : Option Addr) (n c : Nat) (f : Nat → Int) (m : Int) : (exFn Try.prog { tb := [(63, sIsS)], L := [(2, ssyS ao n c f m)] } 400 Try.f47 ([.a (.c (.sl 0 ao n c)), .a (.c (.int m))]) ([.row ⟨false, ao, 0, 1, n, 0, [fun i => .int (f i)]⟩]) (fun v _ => v.den = .bool (symB n f m))) = (
  ([Ws ao n c, Wi m, Wu [], Wu [], Wb false, Wi 0, Wu [], Wu [], Wu [], Wu [], Wu [], Wu [], Wu [], Wu [], Wu [], Wu [], Wu [], Wu [], Wu [], Wu [], Wu [], Wu []] = [Ws ao n c, Wi m, Wu [], Wu [], Wb false, Wi 0, Wu [], Wu [], Wu [], Wu [], Wu [], Wu [], Wu [], Wu [], Wu [], Wu [], Wu [], Wu [], Wu [], Wu [], Wu [], Wu []]∧[Hr false ao 0 1 n 0 [fun b => Ci (f b)]] = [Hr false ao 0 1 n 0 [fun b => Ci (f b)]])∧(∀ b : Nat→Value, (allB n (sySP ao n c f m)) = true→(Wb (((n : Nat) : Int) == m)) = (Wb (symB n f m)))∧∀ b : Nat→Value, (allB n (sySP ao n c f m)) = false→(Wb false) = (Wb (symB n f m))) := by kernel_rfl
theorem symS_any (ao : Option Addr) (n c : Nat) (f : Nat → Int) (m : Int) (w : World) (h : Row.sat w ⟨false, ao, 0, 1, n, 0, [fun i => .int (f i)]⟩) (hn : n ≤ 9223372036854775807) : Calls Try.prog 47 #[.slice ao n c, .int .i64 m] w fun e w' => e = .returned (.bool (symB n f m)) ∧ Below w.heap.size w w' := by
  refine fn_ok mixed (E := { tb := [(63, sIsS)], L := [(2, ssyS ao n c f m)] }) ⟨sIsS_ok, trivial⟩ Try.func47 (one_loop (by kernel_rfl) (by kernel_rfl) (syS_ok ao n c f m hn _)) (@Eq.mpr _ _ (symS_T ao n c f m) ?_) (HS.rows (fun _ => False) [⟨false, ao, 0, 1, n, 0, [fun i => .int (f i)]⟩] (by simpa using h)) (fun v ch' w' hv hs => ⟨by rw [hv], hs.below⟩)
  clear h
  have e : symB n f m = (allB n (sySP ao n c f m) && ieq (n : Int) m) := rfl
  rw [e]
  repeat' (first
    | with_reducible exact rfl
    | exact True.intro
    | with_reducible assumption
    | refine And.intro ?_ ?_
    | (intro g h; rw [h])
    | intro _)
  all_goals simp
def sSym : Sm := fun args ch kk =>
  match args with
  | [.a (.c c), .a (.c mc)] =>
    match asI mc with
    | some m => rdn ch c fun n g => lenC n ∧ kk (.a (.c (.bool (symB n g m)))) ch []
    | none => False
  | _ => False
theorem sSym_I : SmOK Try.prog 54 sSym := by
  refine smB Try.call54 fun args ch kk w X h0 hs => ?_
  unfold sSym at h0
  split at h0
  · split at h0
    · rename_i m hm
      obtain ⟨ao, n, c', g, e, hr, hn, h1⟩ := rdn_ok h0 hs
      refine ⟨_, h1, ?_⟩
      simp only [List.map_cons, List.map_nil, den_a, den_c, e, asI_den hm]
      exact symI_any ao n c' g m w hr hn
    · exact h0.elim
  · exact h0.elim
theorem sSym_S : SmOK Try.prog 47 sSym := by
  refine smB Try.call47 fun args ch kk w X h0 hs => ?_
  unfold sSym at h0
  split at h0
  · split at h0
    · rename_i m hm
      obtain ⟨ao, n, c', g, e, hr, hn, h1⟩ := rdn_ok h0 hs
      refine ⟨_, h1, ?_⟩
      simp only [List.map_cons, List.map_nil, den_a, den_c, e, asI_den hm]
      exact symS_any ao n c' g m w hr hn
    · exact h0.elim
  · exact h0.elim
end Go.Proofs.Ytmgjmglmjfjliab
