/-
  A walk by symbols, part 16: what a callee with a cursor hands back.
-/
import Derived.Test.YtmgjmglmjfjliabSx15
namespace Go.Proofs.Ytmgjmglmjfjliab
set_option linter.unusedVariables false
set_option linter.unusedSimpArgs false
open Go.RowKit

theorem HS.reTail {X : Cx} {c : Ch} {l m : List Ch} {w : World} (h : HS X (c :: l) w) (hr : ReL l m) : HS X (c :: m) w where
  fr := h.fr
  sat := fun i d hd => by
    cases i with
    | zero => exact h.sat 0 d hd
    | succ i =>
      obtain ⟨e, he, hed⟩ := hr.get i d hd
      exact (hed.ok (h.sat (i + 1) e he)).1
  dis := fun i j ci cj b hij hi hj ho hai haj => by
    cases i with
    | zero =>
      cases j with
      | zero => exact absurd rfl hij
      | succ j =>
        obtain ⟨e, he, hed⟩ := hr.get j cj hj
        have h2 := hed.ok (h.sat (j + 1) e he)
        exact h.dis 0 (j + 1) ci e b (by omega) hi he ho hai (h2.2.2 b haj)
    | succ i =>
      obtain ⟨e, he, hed⟩ := hr.get i ci hi
      have h1 := hed.ok (h.sat (i + 1) e he)
      cases j with
      | zero => exact h.dis (i + 1) 0 e cj b (by omega) he hj ((h1.2.1.resolve_right fun q => q b hai) ▸ ho) (h1.2.2 b hai) haj
      | succ j =>
        obtain ⟨e', he', hed'⟩ := hr.get j cj hj
        have h2 := hed'.ok (h.sat (j + 1) e' he')
        exact h.dis (i + 1) (j + 1) e e' b hij he he' ((h1.2.1.resolve_right fun q => q b hai) ▸ ho) (h1.2.2 b hai) (h2.2.2 b haj)
  new := fun i d b hd ho ha => by
    cases i with
    | zero => exact h.new 0 d b hd ho ha
    | succ i =>
      obtain ⟨e, he, hed⟩ := hr.get i d hd
      have h1 := hed.ok (h.sat (i + 1) e he)
      exact h.new (i + 1) e b he ((h1.2.1.resolve_right fun q => q b ha) ▸ ho) (h1.2.2 b ha)
/-- The same cells, said otherwise. -/
def CurRel : Ch → Ch → Prop
  | .cells b t cs, .cells b' t' cs' => b = b' ∧ t = t' ∧ cs.map SC.den = cs'.map SC.den
  | _, _ => False
theorem CurRel.ok {c d : Ch} (h : CurRel c d) {w : World} (hs : c.sat w) : d.sat w ∧ d.own = c.own ∧ ∀ b, d.at b → c.at b := by
  unfold CurRel at h
  split at h
  · obtain ⟨rfl, rfl, e⟩ := h
    exact ⟨by simp only [Ch.sat] at hs ⊢; rw [← e]; exact hs, rfl, fun b hb => hb⟩
  · exact h.elim
/-- What a callee with a cursor (piece 0) hands back: its value, the cursor, the pieces that the value names. -/
def OutC (v : SV) (ch : List Ch) (V : Value) (d : Ch) (rows : List Ch) : Prop := v.den = V ∧ CurRel (ch.getD 0 .dead) d ∧ ReL (selO ch (oidOf v)) rows ∧ nodupB (0 :: somesL (oidOf v)) = true
theorem OutC.hs {v : SV} {ch : List Ch} {V : Value} {d : Ch} {rows : List Ch} (h : OutC v ch V d rows) {X : Cx} {w : World} (hs : HS X ch w) : HS X (d :: rows) w := by
  have h1 : HS X (selO ch (some 0 :: oidOf v)) w := hs.selO _ (nodupB_ok h.2.2.2)
  have h2 : HS X (ch.getD 0 .dead :: rows) w := HS.reTail h1 h.2.2.1
  have h3 := h.2.1.ok (h2.sat 0 _ rfl)
  exact h2.head h3.1 h3.2.1 h3.2.2
theorem HS.cur' {X : Cx} {ch : List Ch} {w : World} (h : HS X ch w) {id j b : Nat} {t : TypeId} {a : Nat} {ao : Option Addr} {n cap : Nat} {ic hc : SC} {i z : Int} {r : Row} {g : Nat → Int}
    (hid : ch[id]? = some (.cells b t [.sl a ao n cap, ic, hc])) (hj : ch[j]? = some (.row r)) (hi : asI ic = some i) (hz : asI hc = some z) (hao : ao = r.ao) (hn : n = r.n) (hf : r.fld = [fun i => .u8 (g i)]) :
    HS ⟨w, (Ch.cells b t [.sl 1 ao n cap, .int i, .int z]).at⟩ [.cells b t [.sl 1 ao n cap, .int i, .int z], .row ⟨false, ao, 0, 1, n, 0, [fun i => .u8 (g i)]⟩] w := by
  have := h.cur hid hj hi hz hao hn hf
  exact this
/-- Bytes that are not too many. -/
abbrev codeC (n : Nat) (u : Nat → Int) : Prop := n ≤ 1048576 ∧ ∀ i, 0 ≤ u i ∧ u i ≤ 255
abbrev pos0 (i : Int) : Prop := 0 ≤ i
theorem at_cells {b : Nat} {t : TypeId} {cs cs' : List SC} : ∀ q, (Ch.cells b t cs).at q → (Ch.cells b t cs').at q := fun _ h => h
/-- A slice of bytes is the row of its bytes; below n each is a byte. -/
def fitU (n : Nat) (u : Nat → Int) (i : Nat) : Int := if i < n then u i else 0
end Go.Proofs.Ytmgjmglmjfjliab
