/-
  Cells loaded.
-/
import Derived.Test.YtmgjmglmjfjliaaSxKA
import Derived.Test.YtmgjmglmjfjliaaSxA3
namespace Go.Proofs.Ytmgjmglmjfjliaa
set_option linter.unusedVariables false
set_option linter.unusedSimpArgs false
open Go.RowKit
set_option maxRecDepth 100000
set_option maxHeartbeats 1000000

def setA (x : AD) (k m : Nat) (f : Nat → Int) (b : Bool) : AD := ⟨⟨x.c.n, fun i => if i = k then m else x.c.sn i, fun i q => if i = k then f q else x.c.sy i q, fun i => if i = k then b else x.c.po i⟩, x.aN, x.ag, x.hN, x.hg⟩
def storedCh (x : AD) (k m : Nat) (f : Nat → Int) (b : Bool) (O A H : Option Addr) (C D E : Nat) (so : Nat → Option Addr) (sc : Nat → Nat) (ro : Option Addr) (rc : Nat) : List Ch := [.row ⟨true, O, 43, 2, x.c.n, C, [fun i => .val (selV i k (.slice ro m rc) (.slice (so i) (x.c.sn i) (sc i))), fun i => .bool (selB i k b (x.c.po i))]⟩, .row ⟨true, A, 3, 1, x.aN, D, [fun i => .int (x.ag i)]⟩, .row ⟨true, H, 3, 1, x.hN, E, [fun i => .int (x.hg i)]⟩, .obj true (symRows true 3 x.c so sc), .row ⟨true, ro, 3, 1, m, rc, [fun i => .int (f i)]⟩]
theorem HS.stored {X : Cx} {w : World} {x : AD} {k m : Nat} {f : Nat → Int} {b : Bool} {O A H : Option Addr} {C D E : Nat} {so : Nat → Option Addr} {sc : Nat → Nat} {ro : Option Addr} {rc : Nat} (h : HS X (storedCh x k m f b O A H C D E so sc ro rc) w) :
    HS X (arrO 0 (setA x k m f b) O A H C D E (fun i => if i = k then ro else so i) (fun i => if i = k then rc else sc i)) w := by
  have h2 := (h.nestSet 3 4 k rfl rfl rfl (by decide)).sel [0, 1, 2, 3] (by simp)
  refine h2.reS ⟨⟨rfl, rfl, rfl, rfl, rfl, rfl, fun i hi => ?_, fun i hi => ?_, trivial⟩, ⟨rfl, rfl, rfl, rfl, rfl, rfl, fun i hi => rfl, trivial⟩, ⟨rfl, rfl, rfl, rfl, rfl, rfl, fun i hi => rfl, trivial⟩, ⟨rfl, ?_⟩, trivial⟩
  · simp only [SC.den, setA, selV]
    split <;> rfl
  · simp only [SC.den, setA, selB]
  · rw [symRows_set]
    exact symRows_congr rfl fun i hi => rfl
def idsSt (v : SV) (ch : List Ch) : List Nat :=
  match v with
  | .a (.agg [a, b, c]) => [idA a 1000000, idA b 1000001, idA c 1000002, idA c 1000002 + 1, ch.length - 1]
  | .tup (.agg [a, b, c] :: _) => [idA a 1000000, idA b 1000001, idA c 1000002, idA c 1000002 + 1, ch.length - 1]
  | _ => []
theorem arrOk_facts {G B R K : Int} {x : AD} (h : arrOk G B R K x = true) : geoB G B R K = true ∧ (x.c.n : Int) = lineN G B R K ∧ (x.aN : Int) = bankN G B R K * R ∧ x.hN = x.aN ∧ ∀ i, i < x.c.n → symB (x.c.sn i) (x.c.sy i) 11 = true := by
  simp only [arrOk, Bool.and_eq_true, ieq] at h
  obtain ⟨⟨⟨⟨⟨h1, h2⟩, h3⟩, h4⟩, h5⟩, h6⟩ := h
  exact ⟨h1, eq_of_beq h2, eq_of_beq h3, by have := eq_of_beq h4; omega, fun i hi => allB_get h5 hi⟩
theorem symB_n {n : Nat} {g : Nat → Int} {m : Int} (h : symB n g m = true) : (n : Int) = m := by
  simp only [symB, Bool.and_eq_true, ieq] at h
  exact eq_of_beq h.2
theorem arr_in {G B R K y z q : Int} {x : AD} (h : arrOk G B R K x = true) (h2 : adOk G B R K y z q = true) : 0 ≤ adIx G B R K y z q ∧ adIx G B R K y z q < (x.c.n : Int) ∧ (adIx G B R K y z q).toNat < x.c.n := by
  have h3 := (arrOk_facts h).2.1
  have h4 := adIx_lt h2
  omega
theorem lenA_of {x : AD} (h : capA x) : lenA x := ⟨by have := h.1; omega, by have := h.2.1; omega, by have := h.2.2.1; omega, fun i hi => by have := h.2.2.2 i hi; omega⟩
def ixN (gG gB gR gC : Int) (dB dR dC : Int) : Nat := (adIx gG gB gR gC dB dR dC).toNat
def sLd : Sm := fun args ch kk =>
  match args with
  | [.a (.agg [c0, c1, c2, c3]), .a c, .a (.agg [e0, e1, e2])] =>
    match ints [c0, c1, c2, c3, e0, e1, e2] with
    | some [gG, gB, gR, gC, dB, dR, dC] => rdA ch c fun x => (capA x ∧ arrOk gG gB gR gC x = true ∧ adOk gG gB gR gC dB dR dC = true) ∧ ∀ (ro : Option Addr) (rc : Nat), kk (.tup [.agg [.sl ch.length ro (x.c.sn (ixN gG gB gR gC dB dR dC)) rc, .bool (x.c.po (ixN gG gB gR gC dB dR dC))], .c (.lit true)]) (ch ++ [.row ⟨true, ro, 3, 1, x.c.sn (ixN gG gB gR gC dB dR dC), rc, [fun i => .int (x.c.sy (ixN gG gB gR gC dB dR dC) i)]⟩]) []
    | _ => False
  | _ => False
end Go.Proofs.Ytmgjmglmjfjliaa
