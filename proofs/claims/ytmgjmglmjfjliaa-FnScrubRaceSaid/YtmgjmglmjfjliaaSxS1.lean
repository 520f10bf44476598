/-
  Lists compared.
-/
import Derived.Test.YtmgjmglmjfjliaaSxM1
namespace Go.Proofs.Ytmgjmglmjfjliaa
set_option linter.unusedVariables false
set_option linter.unusedSimpArgs false
open Go.RowKit
set_option maxRecDepth 100000
set_option maxHeartbeats 8000000

def eqSB (n : Nat) (f : Nat → Int) (m : Nat) (h : Nat → Int) : Bool := ieq (n : Int) (m : Int) && allB n (fun j => ieq (f j) (h j))
def eqiH (ao bo : Option Addr) (n c d : Nat) (f h : Nat → Int) (i : SC) (g : Nat → Value) : List SV := [.a (.c (.sl 0 ao n c)), .a (.c (.sl 1 bo n d)), .a (.c (.val (g 2))), .a (.c (.val (g 3))), .a (.c (.val (g 4))), .a (.c (.val (g 5))), .a (.c (.val (g 6))), .a (.c (.val (g 7))), .a (.c (.val (g 8))), .a (.c (.val (g 9))), .a (.c (.val (g 10))), .a (.c (.val (g 11))), .a (.c (.int (n : Int))), .a (.c i), .a (.c (.val (g 14))), .a (.c (.val (g 15))), .a (.c (.val (g 16))), .a (.c (.val (g 17))), .a (.c (.val (g 18))), .a (.c (.val (g 19))), .a (.c (.val (g 20))), .a (.c (.val (g 21))), .a (.c (.val (g 22))), .a (.c (.val (g 23))), .a (.c (.val (g 24))), .a (.c (.val (g 25)))]
def eqiR (ao bo : Option Addr) (n c d : Nat) (f h : Nat → Int) (g : Nat → Value) : List SV := [.a (.c (.val (g 0))), .a (.c (.val (g 1))), .a (.c (.val (g 2))), .a (.c (.val (g 3))), .a (.c (.lit false)), .a (.c (.val (g 5))), .a (.c (.val (g 6))), .a (.c (.val (g 7))), .a (.c (.val (g 8))), .a (.c (.val (g 9))), .a (.c (.val (g 10))), .a (.c (.val (g 11))), .a (.c (.val (g 12))), .a (.c (.val (g 13))), .a (.c (.val (g 14))), .a (.c (.val (g 15))), .a (.c (.val (g 16))), .a (.c (.val (g 17))), .a (.c (.val (g 18))), .a (.c (.val (g 19))), .a (.c (.val (g 20))), .a (.c (.val (g 21))), .a (.c (.val (g 22))), .a (.c (.val (g 23))), .a (.c (.val (g 24))), .a (.c (.val (g 25)))]
def eqiT (ao bo : Option Addr) (n c d : Nat) (f h : Nat → Int) : List Ch := [.row ⟨false, ao, 0, 1, n, 0, [fun i => .int (f i)]⟩, .row ⟨false, bo, 0, 1, n, 0, [fun i => .int (h i)]⟩]
def eqiP (ao bo : Option Addr) (n c d : Nat) (f h : Nat → Int) (j : Nat) : Bool := ieq (f j) (h j)
def seqi (ao bo : Option Addr) (n c d : Nat) (f h : Nat → Int) : LSm := fun ts ch k =>
  (ts.map SV.den = (eqiH ao bo n c d f h (.il 0) (fun d => (ts.getD d .undef).den)).map SV.den ∧ selC ch [0, 1] = eqiT ao bo n c d f h) ∧
    (∀ g, allB n (eqiP ao bo n c d f h) = true → k (.exit 0) (eqiH ao bo n c d f h (.int (n : Int)) g) (eqiT ao bo n c d f h)) ∧ (∀ g, allB n (eqiP ao bo n c d f h) = false → k .ret (eqiR ao bo n c d f h g) (eqiT ao bo n c d f h))
theorem eqiB (ao bo : Option Addr) (n c d : Nat) (f h : Nat → Int) (j : Nat) (g : Nat → Value) (NX : List SV → List Ch → Prop) (kx : Exit → List SV → List Ch → Prop) : (exCode Try.prog {} 400 (theLoop Try.f34 0) (eqiH ao bo n c d f h (.int (j : Int)) g) (eqiT ao bo n c d f h) (loopK NX kx)) = (
  ((decide (((j : Nat) : Int) < ((n : Nat) : Int))) = true→ao = ao∧n = n∧(0 ≤ ((j : Nat) : Int)∧((j : Nat) : Int) < ((n : Nat) : Int))∧ao = ao∧j < n∧bo = bo∧n = n∧(0 ≤ ((j : Nat) : Int)∧((j : Nat) : Int) < ((n : Nat) : Int))∧bo = bo∧j < n∧(((f j) != (h j)) = true→kx Exit.ret [sV 0 ao n c, sV 1 bo n d, vV (g 2), vV (g 3), fV, iV ((j : Nat) : Int), vV (g 6), vV (g 7), vV (g 8), vV (g 9), vV (g 10), vV (g 11), iV ((n : Nat) : Int), iV ((j : Nat) : Int), tV, iV ((j : Nat) : Int), sV 0 ao n c, iV ((j : Nat) : Int), rV 0 ao 1 j 0, iV (f j), sV 1 bo n d, iV ((j : Nat) : Int), rV 1 bo 1 j 0, iV (h j), tV, vV (g 25)] [Hr false ao 0 1 n 0 [fun a => Ci (f a)], Hr false bo 0 1 n 0 [fun a => Ci (h a)]])∧(((f j) != (h j)) = false→rng (((j : Nat) : Int) + (1 : Int))∧NX [sV 0 ao n c, sV 1 bo n d, vV (g 2), vV (g 3), vV (g 4), iV ((j : Nat) : Int), vV (g 6), vV (g 7), vV (g 8), vV (g 9), vV (g 10), vV (g 11), iV ((n : Nat) : Int), iV (((j : Nat) : Int) + (1 : Int)), tV, iV ((j : Nat) : Int), sV 0 ao n c, iV ((j : Nat) : Int), rV 0 ao 1 j 0, iV (f j), sV 1 bo n d, iV ((j : Nat) : Int), rV 1 bo 1 j 0, iV (h j), fV, iV (((j : Nat) : Int) + (1 : Int))] [Hr false ao 0 1 n 0 [fun a => Ci (f a)], Hr false bo 0 1 n 0 [fun a => Ci (h a)]]))∧((decide (((j : Nat) : Int) < ((n : Nat) : Int))) = false→kx (Exit.exit 0) [sV 0 ao n c, sV 1 bo n d, vV (g 2), vV (g 3), vV (g 4), vV (g 5), vV (g 6), vV (g 7), vV (g 8), vV (g 9), vV (g 10), vV (g 11), iV ((n : Nat) : Int), iV ((j : Nat) : Int), fV, vV (g 15), vV (g 16), vV (g 17), vV (g 18), vV (g 19), vV (g 20), vV (g 21), vV (g 22), vV (g 23), vV (g 24), vV (g 25)] [Hr false ao 0 1 n 0 [fun a => Ci (f a)], Hr false bo 0 1 n 0 [fun a => Ci (h a)]])) := by kernel_rfl
theorem eqi_ok (ao bo : Option Addr) (n c d : Nat) (f h : Nat → Int) (hn : n ≤ 9223372036854775807) (X : Cx) : LoopOK Try.prog X (theLoop Try.f34 0) (seqi ao bo n c d f h) := by
  intro ts ch k a w hS hT hd hs
  obtain ⟨⟨h1, hch⟩, hk, hr⟩ := hS
  refine loop_ok mixed (E := {}) trivial (loopsOK_nil _ _ _) 400 n (fun j ts ch => ∃ g, allB j (eqiP ao bo n c d f h) = true ∧ ts = eqiH ao bo n c d f h (.int (j : Int)) g ∧ ch = eqiT ao bo n c d f h) ?_ ?_ hT hd hs
  · rintro j _ _ ⟨g, hall, rfl, rfl⟩ hj
    refine (@Eq.mpr _ _ (eqiB ao bo n c d f h j g _ _) ?_)
    by_cases hlt : j < n
    · have hjn : (0 : Int) ≤ (j : Int) ∧ (j : Int) < (n : Int) := ⟨by omega, by omega⟩
      cases hp : eqiP ao bo n c d f h j
      all_goals simp only [eqiP] at hp
      all_goals
        repeat' (first
          | with_reducible exact rfl
          | exact True.intro
          | with_reducible assumption
          | (refine ⟨hlt, ?_⟩; show Next _ _ _ _; refine Next.mk (fun g => eqiH ao bo n c d f h (.int ((j + 1 : Nat) : Int)) g) _ ⟨_, allB_succ hall (by simp only [eqiP]; exact hp), rfl, rfl⟩ rfl fun w hw => hw.sel [0, 1] (by simp))
          | (refine Next.mk (fun g => eqiR ao bo n c d f h g) _ (hr _ (allB_no hlt (by simp only [eqiP]; exact hp))) rfl fun w hw => hw.sel [0, 1] (by simp))
          | refine And.intro ?_ ?_
          | (intro h; exfalso; simp at h; omega)
          | (intro h; exfalso; simp [h] at hp; done)
          | (intro h; exfalso; simp [ieq] at hp; simp [hp] at h; done)
          | intro _
          | omega)
        all_goals (exfalso; simp_all; done)
    · have hjn : n = j := by omega
      subst hjn
      repeat' (first
        | with_reducible exact rfl
        | exact True.intro
        | (refine Next.mk (fun g => eqiH ao bo n c d f h (.int (n : Int)) g) _ (hk _ hall) rfl fun w hw => hw.sel [0, 1] (by simp))
        | refine And.intro ?_ ?_
        | (intro h; exfalso; simp at h; done)
        | (intro h; exfalso; simp at h; omega)
        | intro _)
  · refine Next.mk (fun g => eqiH ao bo n c d f h (.int ((0 : Nat) : Int)) g) _ ⟨_, allB_zero _, rfl, rfl⟩ h1 fun w hw => ?_
    rw [← hch]
    exact hw.sel [0, 1] (by simp)
theorem eqiY_T (ao bo : Option Addr) (n c d : Nat) (f h : Nat → Int) : (exFn Try.prog { L := [(4, seqi ao bo n c d f h)] } 400 Try.f34 ([.a (.c (.sl 0 ao n c)), .a (.c (.sl 1 bo n d))]) ([.row ⟨false, ao, 0, 1, n, 0, [fun i => .int (f i)]⟩, .row ⟨false, bo, 0, 1, n, 0, [fun i => .int (h i)]⟩]) (fun v _ => v.den = .bool (eqSB n f n h))) = (
  ((((n : Nat) : Int) != ((n : Nat) : Int)) = true→(Wb false) = (Wb (eqSB n f n h)))∧((((n : Nat) : Int) != ((n : Nat) : Int)) = false→([Ws ao n c, Ws bo n d, Wu [], Wu [], Wb false, Wu [], Ws ao n c, Wi ((n : Nat) : Int), Ws bo n d, Wi ((n : Nat) : Int), Wb false, Ws ao n c, Wi ((n : Nat) : Int), Wi 0, Wu [], Wu [], Wu [], Wu [], Wu [], Wu [], Wu [], Wu [], Wu [], Wu [], Wu [], Wu []] = [Ws ao n c, Ws bo n d, Wu [], Wu [], Wb false, Wu [], Ws ao n c, Wi ((n : Nat) : Int), Ws bo n d, Wi ((n : Nat) : Int), Wb false, Ws ao n c, Wi ((n : Nat) : Int), Wi 0, Wu [], Wu [], Wu [], Wu [], Wu [], Wu [], Wu [], Wu [], Wu [], Wu [], Wu [], Wu []]∧[Hr false ao 0 1 n 0 [fun b => Ci (f b)], Hr false bo 0 1 n 0 [fun b => Ci (h b)]] = [Hr false ao 0 1 n 0 [fun b => Ci (f b)], Hr false bo 0 1 n 0 [fun b => Ci (h b)]])∧(∀ b : Nat→Value, (allB n (eqiP ao bo n c d f h)) = true→(Wb true) = (Wb (eqSB n f n h)))∧∀ b : Nat→Value, (allB n (eqiP ao bo n c d f h)) = false→(Wb false) = (Wb (eqSB n f n h)))) := by kernel_rfl
theorem eqiY_any (ao bo : Option Addr) (n c d : Nat) (f h : Nat → Int) (w : World) (h1 : Row.sat w ⟨false, ao, 0, 1, n, 0, [fun i => .int (f i)]⟩) (h2 : Row.sat w ⟨false, bo, 0, 1, n, 0, [fun i => .int (h i)]⟩) (hn : n ≤ 9223372036854775807) : Calls Try.prog 34 #[.slice ao n c, .slice bo n d] w fun e w' => e = .returned (.bool (eqSB n f n h)) ∧ Below w.heap.size w w' := by
  refine fn_ok mixed (E := { L := [(4, seqi ao bo n c d f h)] }) trivial Try.func34 (one_loop (by kernel_rfl) (by kernel_rfl) (eqi_ok ao bo n c d f h hn _)) (@Eq.mpr _ _ (eqiY_T ao bo n c d f h) ?_) (HS.rows (fun _ => False) [⟨false, ao, 0, 1, n, 0, [fun i => .int (f i)]⟩, ⟨false, bo, 0, 1, n, 0, [fun i => .int (h i)]⟩] (by simp; exact ⟨h1, h2⟩)) (fun v ch' w' hv hs => ⟨by rw [hv], hs.below⟩)
  clear h1 h2
  have e : eqSB n f n h = allB n (eqiP ao bo n c d f h) := by simp [eqSB, ieq]; rfl
  rw [e]
  refine ⟨fun h => ?_, fun h => ?_⟩
  all_goals first | (exfalso; simp at h; done) | skip
  all_goals repeat' (first
    | with_reducible exact rfl
    | exact True.intro
    | with_reducible assumption
    | refine And.intro ?_ ?_
    | (intro g h; rw [h])
    | intro _)
theorem eqiN_T (ao bo : Option Addr) (n m c d : Nat) (f h : Nat → Int) : (exFn Try.prog { L := [(4, fun _ _ _ => False)] } 400 Try.f34 ([.a (.c (.sl 0 ao n c)), .a (.c (.sl 1 bo m d))]) ([.row ⟨false, ao, 0, 1, n, 0, [fun i => .int (f i)]⟩, .row ⟨false, bo, 0, 1, m, 0, [fun i => .int (h i)]⟩]) (fun v _ => v.den = .bool false)) = (
  ((((n : Nat) : Int) != ((m : Nat) : Int)) = true→(Wb false) = (Wb false))∧((((n : Nat) : Int) != ((m : Nat) : Int)) = false→False)) := by kernel_rfl
theorem eqiN_any (ao bo : Option Addr) (n m c d : Nat) (f h : Nat → Int) (w : World) (h1 : Row.sat w ⟨false, ao, 0, 1, n, 0, [fun i => .int (f i)]⟩) (h2 : Row.sat w ⟨false, bo, 0, 1, m, 0, [fun i => .int (h i)]⟩) (hne : n ≠ m) : Calls Try.prog 34 #[.slice ao n c, .slice bo m d] w fun e w' => e = .returned (.bool false) ∧ Below w.heap.size w w' := by
  refine fn_ok mixed (E := { L := [(4, fun _ _ _ => False)] }) trivial Try.func34 (one_loop (by kernel_rfl) (by kernel_rfl) (fun _ _ _ _ _ h => h.elim)) (@Eq.mpr _ _ (eqiN_T ao bo n m c d f h) ?_) (HS.rows (fun _ => False) [⟨false, ao, 0, 1, n, 0, [fun i => .int (f i)]⟩, ⟨false, bo, 0, 1, m, 0, [fun i => .int (h i)]⟩] (by simp; exact ⟨h1, h2⟩)) (fun v ch' w' hv hs => ⟨by rw [hv], hs.below⟩)
  clear h1 h2
  refine ⟨fun h => rfl, fun h => ?_⟩
  simp at h
  omega
def sEqL : Sm := fun args ch k =>
  match args with
  | [.a (.c x), .a (.c y)] => rdn ch x fun n f => rdn ch y fun m h => lenC n ∧ k (.a (.c (.bool (eqSB n f m h)))) ch []
  | _ => False
theorem sEqL_ok : SmOK Try.prog 34 sEqL := by
  refine smB Try.call34 fun args ch k w X h0 hs => ?_
  unfold sEqL at h0
  split at h0
  · obtain ⟨ao, n, c, f, em, hr, h1⟩ := rdn_ok h0 hs
    obtain ⟨bo, m, d, h, em2, hr2, hn, h2⟩ := rdn_ok h1 hs
    refine ⟨_, h2, ?_⟩
    simp only [List.map_cons, List.map_nil, den_a, den_c, em, em2]
    by_cases e : n = m
    · subst e
      exact eqiY_any ao bo n c d f h w hr hr2 hn
    · have e2 : eqSB n f m h = false := by simp [eqSB, ieq]; intro h3; omega
      simp only [e2]
      exact eqiN_any ao bo n m c d f h w hr hr2 e
  · exact h0.elim
def l32H (ao bo : Option Addr) (n c d : Nat) (f h : Nat → Int) (p q : Bool) (ba bb : Nat) (i : SC) (g : Nat → Value) : List SV := [.a (.c (.val (g 0))), .a (.c (.val (g 1))), .a (.c (.ptr 2 ba 0)), .a (.c (.ptr 3 bb 0)), .a (.c (.val (g 4))), .a (.c i), .a (.c (.val (g 6))), .a (.c (.val (g 7))), .a (.c (.val (g 8))), .a (.c (.val (g 9))), .a (.c (.val (g 10))), .a (.c (.val (g 11))), .a (.c (.val (g 12))), .a (.c (.val (g 13))), .a (.c (.val (g 14))), .a (.c (.val (g 15))), .a (.c (.val (g 16))), .a (.c (.val (g 17))), .a (.c (.val (g 18))), .a (.c (.val (g 19))), .a (.c (.val (g 20))), .a (.c (.val (g 21))), .a (.c (.val (g 22))), .a (.c (.val (g 23))), .a (.c (.val (g 24))), .a (.c (.val (g 25))), .a (.c (.val (g 26))), .a (.c (.val (g 27))), .a (.c (.val (g 28))), .a (.c (.val (g 29))), .a (.c (.val (g 30))), .a (.c (.val (g 31))), .a (.c (.val (g 32))), .a (.c (.val (g 33))), .a (.c (.val (g 34))), .a (.c (.val (g 35))), .a (.c (.val (g 36))), .a (.c (.val (g 37)))]
def l32R (ao bo : Option Addr) (n c d : Nat) (f h : Nat → Int) (p q : Bool) (ba bb : Nat) (g : Nat → Value) : List SV := [.a (.c (.val (g 0))), .a (.c (.val (g 1))), .a (.c (.val (g 2))), .a (.c (.val (g 3))), .a (.c (.lit false)), .a (.c (.val (g 5))), .a (.c (.val (g 6))), .a (.c (.val (g 7))), .a (.c (.val (g 8))), .a (.c (.val (g 9))), .a (.c (.val (g 10))), .a (.c (.val (g 11))), .a (.c (.val (g 12))), .a (.c (.val (g 13))), .a (.c (.val (g 14))), .a (.c (.val (g 15))), .a (.c (.val (g 16))), .a (.c (.val (g 17))), .a (.c (.val (g 18))), .a (.c (.val (g 19))), .a (.c (.val (g 20))), .a (.c (.val (g 21))), .a (.c (.val (g 22))), .a (.c (.val (g 23))), .a (.c (.val (g 24))), .a (.c (.val (g 25))), .a (.c (.val (g 26))), .a (.c (.val (g 27))), .a (.c (.val (g 28))), .a (.c (.val (g 29))), .a (.c (.val (g 30))), .a (.c (.val (g 31))), .a (.c (.val (g 32))), .a (.c (.val (g 33))), .a (.c (.val (g 34))), .a (.c (.val (g 35))), .a (.c (.val (g 36))), .a (.c (.val (g 37)))]
def l32T (ao bo : Option Addr) (n c d : Nat) (f h : Nat → Int) (p q : Bool) (ba bb : Nat) : List Ch := [.row ⟨false, ao, 0, 1, n, 0, [fun i => .int (f i)]⟩, .row ⟨false, bo, 0, 1, n, 0, [fun i => .int (h i)]⟩, .cells ba 43 [.sl 0 ao n c, .bool p], .cells bb 43 [.sl 1 bo n d, .bool q]]
def l32P (ao bo : Option Addr) (n c d : Nat) (f h : Nat → Int) (p q : Bool) (ba bb : Nat) (j : Nat) : Bool := ieq (f j) (h j)
def sl32 (ao bo : Option Addr) (n c d : Nat) (f h : Nat → Int) (p q : Bool) (ba bb : Nat) : LSm := fun ts ch k =>
  (ts.map SV.den = (l32H ao bo n c d f h p q ba bb (.il 0) (fun d => (ts.getD d .undef).den)).map SV.den ∧ selC ch [0, 1, 2, 3] = l32T ao bo n c d f h p q ba bb) ∧
    (∀ g, allB n (l32P ao bo n c d f h p q ba bb) = true → k (.exit 0) (l32H ao bo n c d f h p q ba bb (.int (n : Int)) g) (l32T ao bo n c d f h p q ba bb)) ∧ (∀ g, allB n (l32P ao bo n c d f h p q ba bb) = false → k .ret (l32R ao bo n c d f h p q ba bb g) (l32T ao bo n c d f h p q ba bb))
def sl32w (ao bo : Option Addr) (n c d : Nat) (f h : Nat → Int) (p q : Bool) : LSm := fun ts ch kk => ∃ ba bb, sl32 ao bo n c d f h p q ba bb ts ch kk
def sL32 : Sm := fun args ch k =>
  match args with
  | [.a x, .a y] => rdC ch x fun n f p => rdC ch y fun m h q => lenC n ∧ k (.a (.c (.bool (andB (beqb p q) (eqSB n f m h))))) ch []
  | _ => False
end Go.Proofs.Ytmgjmglmjfjliaa
