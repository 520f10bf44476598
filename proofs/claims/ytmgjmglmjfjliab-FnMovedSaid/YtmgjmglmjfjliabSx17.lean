/-
  A walk by symbols, part 17: a piece said otherwise; a slice that begins with nothing.
-/
import Derived.Test.YtmgjmglmjfjliabSx16
namespace Go.Proofs.Ytmgjmglmjfjliab
set_option linter.unusedVariables false
set_option linter.unusedSimpArgs false
open Go.RowKit

/-- An address within a row. -/
abbrev rptrV (ao : Option Addr) (s i c : Nat) : Value := .pointer (ao.map (·.add (i * s + c)))
theorem HS.turnTo {X : Cx} {ch : List Ch} {w : World} (hw : HS X ch w) (id : Nat) {c d : Ch} (hid : ch[id]? = some c) (hs : Ch.sat w d) (ho : d.own = c.own) (hat : ∀ q, d.at q → c.at q) : HS X (ch.set id d) w := by
  have old : ∀ (m : Nat) (e : Ch), (ch.set id d)[m]? = some e → ∃ f, ch[m]? = some f ∧ e.own = f.own ∧ ∀ q, e.at q → f.at q := fun m e he => by
    rcases get_set he with ⟨rfl, rfl, _⟩ | ⟨_, he⟩
    · exact ⟨c, hid, ho, hat⟩
    · exact ⟨e, he, rfl, fun _ h => h⟩
  refine ⟨hw.fr, fun i e he => ?_, fun i j ci cj q hij hi hj hoi hai haj => ?_, fun i e q he hoe ha => ?_⟩
  · rcases get_set he with ⟨rfl, rfl, _⟩ | ⟨_, he⟩
    · exact hs
    · exact hw.sat i e he
  · obtain ⟨f, hf, hfo, hfa⟩ := old i ci hi
    obtain ⟨f', hf', _, hfa'⟩ := old j cj hj
    exact hw.dis i j f f' q hij hf hf' (hfo ▸ hoi) (hfa q hai) (hfa' q haj)
  · obtain ⟨f, hf, hfo, hfa⟩ := old i e he
    exact hw.new i f q hf (hfo ▸ hoe) (hfa q ha)
theorem HS.rowStart {X : Cx} {ch : List Ch} {w : World} (hw : HS X ch w) (id : Nat) {b : Nat} {t : TypeId} {s : Nat} {F : List (Nat → SC)} (hid : ch[id]? = some (.cells b t [])) (hF : F.length = s) : HS X (ch.set id (.row ⟨true, some ⟨b, 0, none⟩, t, s, 0, 0, F⟩)) w := by
  have hs : Ch.sat w (.cells b t []) := hw.sat id _ hid
  have hr : Ch.sat w (.row ⟨true, some ⟨b, 0, none⟩, t, s, 0, 0, F⟩) := ⟨hF, fun ho => (by cases ho), fun _ => .inr ⟨b, #[], rfl, hs, Nat.le_refl _, Nat.zero_le _, by simp, fun i hi => absurd hi (Nat.not_lt_zero i)⟩⟩
  refine hw.turnTo id hid hr rfl (fun q ha => ?_)
  obtain ⟨_, off, h⟩ := ha
  injection h with h
  injection h with h1
  exact h1.symm
end Go.Proofs.Ytmgjmglmjfjliab
