/-
  One cell: made, compared; inner lists marked, held.
-/
import Derived.Test.YtddeinpnadfgmaaSxH0
namespace Go.Proofs.Ytddeinpnadfgmaa
set_option linter.unusedVariables false
set_option linter.unusedSimpArgs false
open Go.RowKit
set_option maxRecDepth 100000
set_option maxHeartbeats 8000000

theorem toc_T (cSymbolsO : Option Addr) (cSymbolsN cSymbolsC : Nat) (cSymbolsg0 : Nat → Int) (cPoison : Bool) : (exFn Try.prog {tb := [(51, sToIntS)]} 400 Try.f66 ([.a (.agg [.sl 0 cSymbolsO cSymbolsN cSymbolsC, .bool cPoison])]) ([.row ⟨false, cSymbolsO, 0, 1, cSymbolsN, 0, [fun i => .int (cSymbolsg0 i)]⟩]) (fun v ch => ∃ (ro0 : Option Addr) (rc0 : Nat), OutR v ch (.agg #[.slice ro0 (cSymbolsN) rc0, .bool (cPoison)]) [.row ⟨true, ro0, 3, 1, cSymbolsN, rc0, [fun i => .int (cSymbolsg0 i)]⟩])) = (
  (∀ b0 : Nat,
 (∀ b1 : Nat,
 (∀ b2 : Nat,
 (b0 = b0 ∧
 (∃ g03 : (Nat →
 Int), ((cSymbolsO = cSymbolsO ∧
 (cSymbolsN = cSymbolsN ∧
 ([(fun i4 => (Ci (cSymbolsg0 i4)))] = [(fun i5 => (Ci (g03 i5)))] ∧
 (capC cSymbolsN)))) ∧
 (∀ b6 : Nat,
 (b2 = b2 ∧
 (b0 = b0 ∧
 (b2 = b2 ∧
 (b2 = b2 ∧
 (b1 = b1 ∧
 (b1 = b1 ∧
 (∃ ro07 : (Option Addr), (∃ rc08 : Nat, ((Wa [(Ws (Ad b6 0) cSymbolsN cSymbolsN), (Wb cPoison)]) = (Wa [(Ws ro07 cSymbolsN rc08), (Wb cPoison)]) ∧
 (((true = true ∧
 ((Ad b6 0) = ro07 ∧
 (3 = 3 ∧
 (1 = 1 ∧
 (cSymbolsN = cSymbolsN ∧
 (cSymbolsN = rc08 ∧
 ((∀ i9 : Nat,
 (i9 < cSymbolsN →
 (Wi (g03 i9)) = (Wi (cSymbolsg0 i9)))) ∧
 True))))))) ∧
 True) ∧
 true = true)))))))))))))))))) := by kernel_rfl
theorem toc_any (cSymbolsO : Option Addr) (cSymbolsN cSymbolsC : Nat) (cSymbolsg0 : Nat → Int) (cPoison : Bool) (w : World) (hrcSymbols : Row.sat w ⟨false, cSymbolsO, 0, 1, cSymbolsN, 0, [fun i => .int (cSymbolsg0 i)]⟩) (hpre : capC cSymbolsN) : Calls Try.prog 66 #[.agg #[.slice cSymbolsO cSymbolsN cSymbolsC, .bool cPoison]] w fun e w' => ∃ (ro0 : Option Addr) (rc0 : Nat), e = .returned (.agg #[.slice ro0 (cSymbolsN) rc0, .bool (cPoison)]) ∧ HS ⟨w, fun _ => False⟩ [.row ⟨true, ro0, 3, 1, cSymbolsN, rc0, [fun i => .int (cSymbolsg0 i)]⟩] w' := by
  refine fnB (tb := [(51, sToIntS)]) ⟨sToIntS_ok, trivial⟩ Try.func66 (@Eq.mpr _ _ (toc_T cSymbolsO cSymbolsN cSymbolsC cSymbolsg0 cPoison) ?_) (HS.rows (fun _ => False) [⟨false, cSymbolsO, 0, 1, cSymbolsN, 0, [fun i => .int (cSymbolsg0 i)]⟩] (by simp; exact hrcSymbols)) (fun v ch' w' ⟨ro0, rc0, hk⟩ hs => ⟨ro0, rc0, by rw [hk.1], hk.hs hs⟩)
  clear hrcSymbols
  repeat' (first
    | exact rfl
    | exact True.intro
    | refine And.intro ?_ ?_
    | apply Exists.intro
    | assumption
    | omega
    | intro _)
def sToC : Sm := fun args ch kk =>
  match args with
  | [.a c] => rdC ch c fun n g b => capC n ∧ ∀ (ro : Option Addr) (rc : Nat), kk (.a (.agg [.sl ch.length ro n rc, .bool b])) (ch ++ [.row ⟨true, ro, 3, 1, n, rc, [fun i => .int (g i)]⟩]) []
  | _ => False
theorem sToC_ok : SmOK Try.prog 66 sToC := by
  refine smN Try.call66 fun args ch kk w X h0 hs => ?_
  unfold sToC at h0
  split at h0
  · obtain ⟨ao, n, c', g, b, e, hr, hn, h0⟩ := rdC_ok h0 hs
    refine Calls.mono (?_ : Calls Try.prog 66 _ w (fun e w' => ∃ (ro0 : Option Addr) (rc0 : Nat), e = .returned (.agg #[.slice ro0 n rc0, .bool b]) ∧ HS ⟨w, fun _ => False⟩ [.row ⟨true, ro0, 3, 1, n, rc0, [fun i => .int (g i)]⟩] w')) (fun e w' ⟨ro0, rc0, he, hs'⟩ => ⟨_, _, ?_, hs', rfl, h0 ro0 rc0⟩)
    · simp only [List.map_cons, List.map_nil, den_a, e]
      exact toc_any ao n c' g b w hr hn
    · rw [he]
      rfl
  · exact h0.elim
theorem eqc_T (ao bo : Option Addr) (n c d : Nat) (g q : Nat → Int) (b : Bool) : (exFn Try.prog {tb := [(57, sEqIntS)]} 400 Try.f72 ([.a (.agg [.sl 0 ao n c, .bool b]), .a (.agg [.sl 1 bo n d, .bool b])]) ([.row ⟨false, ao, 0, 1, n, 0, [fun i => .int (g i)]⟩, .row ⟨false, bo, 0, 1, n, 0, [fun i => .int (q i)]⟩]) (fun v _ => v.den = .bool true)) = (
  (∀ b0 : Nat,
 (∀ b1 : Nat,
 (b0 = b0 ∧
 (b1 = b1 ∧
 (∃ g02 : (Nat →
 Int), (∃ q03 : (Nat →
 Int), ((ao = ao ∧
 (n = n ∧
 ([(fun i4 => (Ci (g i4)))] = [(fun i5 => (Ci (g02 i5)))] ∧
 (bo = bo ∧
 (n = n ∧
 ([(fun i6 => (Ci (q i6)))] = [(fun i7 => (Ci (q03 i7)))] ∧
 (n = n ∧
 (capC n)))))))) ∧
 ((∀ i8 : Nat,
 (i8 < n →
 (g02 i8) = (q03 i8))) ∧
 (b0 = b0 ∧
 (b1 = b1 ∧
 (((b != b) = true →
 (Wb false) = (Wb true)) ∧
 ((b != b) = false →
 (Wb true) = (Wb true)))))))))))))) := by kernel_rfl
theorem eqc_any (ao bo : Option Addr) (n c d : Nat) (g q : Nat → Int) (b : Bool) (w : World) (h1 : Row.sat w ⟨false, ao, 0, 1, n, 0, [fun i => .int (g i)]⟩) (h2 : Row.sat w ⟨false, bo, 0, 1, n, 0, [fun i => .int (q i)]⟩) (hn : n ≤ 2097152) (hgq : ∀ i, i < n → g i = q i) : Calls Try.prog 72 #[.agg #[.slice ao n c, .bool b], .agg #[.slice bo n d, .bool b]] w fun e w' => e = .returned (.bool true) ∧ Below w.heap.size w w' := by
  have e : Row.sat w ⟨false, bo, 0, 1, n, 0, [fun i => .int (g i)]⟩ := Row.reF h2 ⟨fun i hi => congrArg (Value.int .i64) (hgq i hi).symm, trivial⟩
  refine fnB (tb := [(57, sEqIntS)]) ⟨sEqIntS_ok, trivial⟩ Try.func72 (@Eq.mpr _ _ (eqc_T ao bo n c d g g b) ?_) (HS.rows (fun _ => False) [⟨false, ao, 0, 1, n, 0, [fun i => .int (g i)]⟩, ⟨false, bo, 0, 1, n, 0, [fun i => .int (g i)]⟩] (by simp; exact ⟨h1, e⟩)) (fun v ch' w' hk hs => ⟨by rw [hk], hs.below⟩)
  clear h1 h2 e
  repeat' (first
    | exact rfl
    | exact True.intro
    | assumption
    | refine And.intro ?_ ?_
    | apply Exists.intro
    | omega
    | (intro h; exfalso; simp at h; done)
    | (intro h; exfalso; simp at h; omega)
    | intro _)
abbrev allEq (n : Nat) (g q : Nat → Int) : Prop := ∀ i, i < n → g i = q i
def sEqC : Sm := fun args ch kk =>
  match args with
  | [.a c, .a d] => rdC ch c fun n g b => rdC ch d fun m q b' => (m = n ∧ b' = b ∧ capC n ∧ allEq n g q) ∧ kk (.a (.c (.lit true))) ch []
  | _ => False
theorem sEqC_ok : SmOK Try.prog 72 sEqC := by
  refine smB Try.call72 fun args ch kk w X h0 hs => ?_
  unfold sEqC at h0
  split at h0
  · obtain ⟨ao, n, c', g, b, e, hr, h0⟩ := rdC_ok h0 hs
    obtain ⟨bo, m, d', q, b', e2, hr2, ⟨rfl, rfl, hn, hgq⟩, h9⟩ := rdC_ok h0 hs
    refine ⟨_, h9, ?_⟩
    simp only [List.map_cons, List.map_nil, den_a, e, e2]
    exact eqc_any ao bo _ c' d' g q _ w hr hr2 hn hgq
  · exact h0.elim
/-! The inner lists: marked, held. -/
theorem symRows_mark {o : Bool} {t : Nat} {x : CD} {so : Nat → Option Addr} {sc : Nat → Nat} {k : Nat} {f : Nat → Int} :
    (symRows o t x so sc).set k ⟨o, so k, t, 1, x.sn k, sc k, [fun q => .int (f q)]⟩ = symRows o t ⟨x.n, x.sn, fun i q => if i = k then f q else x.sy i q, x.po⟩ so sc := by
  rw [symRows_set]
  refine symRows_congr rfl fun i _ => ?_
  simp only [symRow]
  congr 1
  · split <;> simp_all
  · split <;> simp_all
  · split <;> simp_all
def sMarkN : Sm := fun args ch kk =>
  match args with
  | [.a (.c (.sl id ao n _)), .a (.c kc)] =>
    match ch[id]?, asI kc with
    | some (.obj true rs), some k0 => ∃ (t : Nat) (y : CD) (so : Nat → Option Addr) (sc : Nat → Nat) (i : Nat), (rs = symRows true t y so sc ∧ ao = so i ∧ n = y.sn i ∧ ltN i y.n ∧ markC n k0) ∧ kk (.a (.c (.int (mk k0 1 0 n)))) (ch.set id (.obj true (symRows true t ⟨y.n, y.sn, fun a q => selI a i (mk k0 1 0 q) (y.sy a q), y.po⟩ so sc))) [id]
    | _, _ => False
  | _ => False
theorem sMarkN_ok : SmOK Try.prog 59 sMarkN := by
  refine ⟨Try.call59, fun X args ch kk w h0 hs => ?_⟩
  unfold sMarkN at h0
  split at h0
  · rename_i id ao n cap kc
    split at h0
    · rename_i rs k0 hid hkc
      obtain ⟨t, y, so, sc, i, ⟨rfl, rfl, rfl, hi, hn⟩, h0⟩ := h0
      have hr := (hs.seeObj hid _ (symRows_mem hi)).2
      simp only [List.map_cons, List.map_nil, den_a, den_c, asI_den hkc]
      refine Calls.mono (markIntS_any (so i) t (y.sn i) (sc i) cap (y.sy i) k0 w hn hr) fun e w' ⟨he, hs'⟩ => ⟨.a (.c (.int (mk k0 1 0 (y.sn i)))), _, [id], he, ?_, Agree.set _ _ _, h0⟩
      have := hs.nestTurn hid (symRows_get hi) hs' rfl (fun b hb => hb)
      rw [symRows_mark] at this
      exact this
    · exact h0.elim
  · exact h0.elim
def sHeldN : Sm := fun args ch kk =>
  match args with
  | [.a (.c c), .a (.c kc)] =>
    match asI kc with
    | some k0 => rdn ch c fun n g => (markC n k0 ∧ allEq n g (fun q => mk k0 1 0 q)) ∧ kk (.a (.c (.int (mk k0 1 0 n)))) ch []
    | none => False
  | _ => False
theorem sHeldN_ok : SmOK Try.prog 61 sHeldN := by
  refine smB Try.call61 fun args ch kk w X h0 hs => ?_
  unfold sHeldN at h0
  split at h0
  · split at h0
    · rename_i k0 hkc
      obtain ⟨ao, n, c', g, e, hr, ⟨hn, hg⟩, h0⟩ := rdn_ok h0 hs
      refine ⟨_, h0, ?_⟩
      simp only [List.map_cons, List.map_nil, den_a, den_c, e, asI_den hkc]
      exact heldIntS_any ao n c' k0 w hn (Row.reF hr ⟨fun i hi => congrArg (Value.int .i64) (hg i hi), trivial⟩)
    · exact h0.elim
  · exact h0.elim
end Go.Proofs.Ytddeinpnadfgmaa
