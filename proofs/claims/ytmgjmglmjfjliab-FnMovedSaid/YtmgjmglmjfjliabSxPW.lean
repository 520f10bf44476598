/-
  Words in an array: what is written is read, with one symbol turned too.
-/
import Derived.Test.YtmgjmglmjfjliabSxFR
import Derived.Test.YtmgjmglmjfjliabSxM4
import Derived.Test.YtmgjmglmjfjliabSxM6g
import Derived.Test.YtmgjmglmjfjliabSxWA
namespace Go.Proofs.Ytmgjmglmjfjliab
set_option linter.unusedVariables false
set_option linter.unusedSimpArgs false
open Go.RowKit
set_option maxRecDepth 100000
set_option maxHeartbeats 8000000

abbrev wrd (y : Int) : Prop := 0 ≤ y ∧ y ≤ 4294967295
theorem cw_dat {y : Int} {i : Nat} : cw y (i + 3) = wsym y i := by
  show (encE (i + 3)).ei (wsym y) = wsym y i
  have hb : Nat.blt (i + 3) 3 = false := by
    cases q : Nat.blt (i + 3) 3
    · rfl
    · exact absurd (bltN q) (by omega)
  unfold encE
  rw [hb]
  simp only [LE.ei]
  rw [show i + 3 - 3 = i by omega]
theorem cw_syn {y : Int} (h : wrd y) {f : Nat → Int} (hf : ∀ i, i < 11 → f i = cw y i) {j : Nat} (hj : j < 3) : syn f j = 0 := by
  rw [syn_congr hf hj]
  exact syn_enc (fun i _ => wsym_el h i) hj
theorem read_cw {y : Int} (h : wrd y) {f : Nat → Int} (hf : ∀ i, i < 11 → f i = cw y i) : corC f = 0 ∧ decX f = y := by
  have hs : ∀ j, j < 3 → syn f j = 0 := fun j hj => cw_syn h hf hj
  have hel : ∀ i, i < 11 → el (f i) := fun i hi => by rw [hf i hi]; exact word_el h hi
  have hc := clean_cor hs
  have hz : zerB f = true := by simp [zerB, hs 0 (by omega), hs 1 (by omega), hs 2 (by omega)]
  have hP := corP_zero hel hz
  refine ⟨hc, ?_⟩
  unfold decX
  rw [hc, if_neg (by decide)]
  rw [← wordOf_wsym h]
  refine wordOf_congr fun i hi => ?_
  show corW f (i + 3) = _
  rw [cor_none hP, hf _ (by omega), cw_dat]
theorem read_bent {y : Int} (h : wrd y) {f g : Nat → Int} (hf : ∀ i, i < 11 → f i = cw y i) {p : Nat} {e : Int} (hp : p < 11) (he : el e) (h0 : e ≠ 0) (hg : ∀ i, i < 11 → g i = if i = p then bits .xor .i64 (f i) e else f i) :
    corC g = 1 ∧ (∀ i, i < 11 → corW g i = cw y i) ∧ ∀ u : Int, wrd u → ¬ ∀ i, i < 11 → cw u i = g i := by
  have hs : ∀ j, j < 3 → syn f j = 0 := fun j hj => cw_syn h hf hj
  have hel : ∀ i, i < 11 → el (f i) := fun i hi => by rw [hf i hi]; exact word_el h hi
  obtain ⟨h1, h2⟩ := bent_cor hp hel hs he h0 hg
  refine ⟨h1, fun i hi => by rw [h2 i hi, hf i hi], fun u hu => ?_⟩
  exact bent_no hp hel hs he h0 hg (cw_syn hu (fun i _ => rfl) (by omega))

/-- A cell holds a word. -/
def Wd (x : AD) (k : Nat) (y : Int) : Prop := x.c.sn k = 11 ∧ x.c.po k = false ∧ ∀ i, i < 11 → x.c.sy k i = cw y i
theorem Wd.get {x : AD} {k : Nat} {y : Int} (h : Wd x k y) (hy : wrd y) : getX x k = y ∧ getC x k = 0 ∧ getN x k = x := by
  obtain ⟨h1, h2, h3⟩ := h
  obtain ⟨c1, c2⟩ := read_cw hy h3
  have hp : ¬ x.c.po k = true := by rw [h2]; decide
  simp only [getX, getC, getN, if_neg hp, c1, c2]
  exact ⟨trivial, trivial, by simp⟩
theorem Wd.set {x : AD} {k j m : Nat} {f : Nat → Int} {b : Bool} {y : Int} (h : Wd x j y) (hjk : j ≠ k) : Wd (setA x k m f b) j y := by
  obtain ⟨h1, h2, h3⟩ := h
  simp only [Wd, setA, if_neg hjk]
  exact ⟨h1, h2, h3⟩
theorem Wd.here {x : AD} {k : Nat} {f : Nat → Int} {y : Int} (hf : ∀ i, i < 11 → f i = cw y i) : Wd (setA x k 11 f false) k y := by
  simp only [Wd, setA, if_true]
  exact ⟨trivial, trivial, hf⟩
theorem put_ok {G B R K b r c y : Int} {x : AD} (h : arrOk G B R K x = true) (ha : adOk G B R K b r c = true) (hy : wrd y) : putA G B R K b r c x y = setA x (ixN G B R K b r c) 11 (fun i => cw y i) false ∧ arrOk G B R K (putA G B R K b r c x y) = true ∧ Wd (putA G B R K b r c x y) (ixN G B R K b r c) y ∧ ∀ (j : Nat) (u : Int), j ≠ ixN G B R K b r c → Wd x j u → Wd (putA G B R K b r c x y) j u := by
  have hp : putOk G B R K b r c x y = true := by
    simp only [putOk, h, ha, Bool.true_and]
    exact btw_mk hy.1 hy.2
  have e : putA G B R K b r c x y = setA x (ixN G B R K b r c) 11 (fun i => cw y i) false := by simp only [putA, hp, if_true]
  rw [e]
  exact ⟨rfl, arr_set h (symB_mk (fun i hi => word_el hy hi) rfl), Wd.here fun i _ => rfl, fun j u hj hw => hw.set hj⟩
theorem gw_ok {G B R K b r c y : Int} {x : AD} (h : arrOk G B R K x = true) (ha : adOk G B R K b r c = true) (hy : wrd y) (hw : Wd x (ixN G B R K b r c) y) : gwX G B R K b r c x = y ∧ gwC G B R K b r c x = 0 := by
  have hp : gwOk G B R K b r c x = true := by simp only [gwOk, h, ha, Bool.true_and]
  obtain ⟨h1, h2, _⟩ := hw.get hy
  simp only [gwX, gwC, hp, if_true, h1, h2]
  exact ⟨trivial, trivial⟩
end Go.Proofs.Ytmgjmglmjfjliab
