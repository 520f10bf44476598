/-
  A line read.
-/
import Derived.Test.YtmgjmglmjfjliabSxM1
import Derived.Test.YtmgjmglmjfjliabSxCA
namespace Go.Proofs.Ytmgjmglmjfjliab
set_option linter.unusedVariables false
set_option linter.unusedSimpArgs false
open Go.RowKit
set_option maxRecDepth 100000
set_option maxHeartbeats 8000000

def poA (x : AD) (p : Nat → Bool) : AD := ⟨⟨x.c.n, x.c.sn, x.c.sy, p⟩, x.aN, x.ag, x.hN, x.hg⟩
def getC (x : AD) (k : Nat) : Int := if x.c.po k = true then 2 else corC (x.c.sy k)
def getX (x : AD) (k : Nat) : Int := if x.c.po k = true then 0 else decX (x.c.sy k)
def getN (x : AD) (k : Nat) : AD := if x.c.po k = true then x else if corC (x.c.sy k) = 1 then setA x k 11 (fun i => corW (x.c.sy k) i) false else if corC (x.c.sy k) = 2 then poA x (fun i => if i = k then true else x.c.po i) else x
theorem corC_cases (f : Nat → Int) : corC f = 0 ∨ corC f = 1 ∨ corC f = 2 := by
  unfold corC
  split
  · exact .inl rfl
  · split
    · exact .inr (.inl rfl)
    · exact .inr (.inr rfl)
theorem corP_of {f : Nat → Int} (h : corC f = 1) : 0 ≤ corP f := by
  unfold corC at h
  split at h
  · cases h
  · split at h
    · assumption
    · cases h
theorem dec_word {f : Nat → Int} (hf : ∀ i, i < 11 → el (f i)) (h : corC f = 1) : btw (decX f) 0 4294967295 = true := by
  have e : decX f = wordOf (dat (corW f)) := by unfold decX; rw [if_neg (by rw [h]; decide)]
  have h2 := wordOf_rng (d := dat (corW f)) fun i hi => dat_el (fun i hi => cor_el hf hi) hi
  rw [e]
  exact btw_mk h2.1 h2.2
theorem dec_cw {f : Nat → Int} (hf : ∀ i, i < 11 → el (f i)) (h : corC f = 1) {i : Nat} (hi : i < 11) : cw (decX f) i = corW f i := by
  have e : decX f = wordOf (dat (corW f)) := by unfold decX; rw [if_neg (by rw [h]; decide)]
  rw [e]
  exact cw_cor hf (corP_of h) hi
def sFet : Sm := inlM Try.prog {tb := [(69, sCor), (70, sDec)]} 300 Try.f58
theorem sFet_ok : SmOK Try.prog 58 sFet := inlM_ok mixed (E := {tb := [(69, sCor), (70, sDec)]}) ⟨sCor_I, sDec_I, trivial⟩ Try.func58 Try.call58 (fun _ _ _ => loopsOK_nil _ _ _)
def sGet : Sm := inlM Try.prog {tb := [(59, sDec), (22, sEnl)]} 300 Try.f32
theorem sGet_ok : SmOK Try.prog 32 sGet := inlM_ok mixed (E := {tb := [(59, sDec), (22, sEnl)]}) ⟨sDec_S, sEnl_S, trivial⟩ Try.func32 Try.call32 (fun _ _ _ => loopsOK_nil _ _ _)
end Go.Proofs.Ytmgjmglmjfjliab
