/-
  What an argument's reading gives: its cells, by the shape of its type. No program in sight (P is any program).
-/
import Derived.ProofKit
import Derived.OpenShut
import Derived.ShutString
import Derived.ChangeOld
import Derived.Below
import Derived.Deep.Slices
namespace Go.Proofs.YtbhfabaofhhkeaaGreat
set_option linter.unusedVariables false
set_option linter.unusedSimpArgs false
open Go.ChangeShapes Go.WideShapes Go.ChangeAt Go.RowKit Go.Deep

/-- Shapes of types: numbers, bools, slices, structs (a struct is its fields, one behind the other). -/
inductive Ty where
  | int | u8 | bool
  | slice (e : Ty)
  | nil
  | cons (a b : Ty)

def Ty.size : Ty → Nat
  | .int => 1 | .u8 => 1 | .bool => 1 | .slice _ => 1 | .nil => 0
  | .cons a b => a.size + b.size

/-- The cells cs read, in w, as a value of the shape. -/
def Has (w : World) : Ty → List Value → Prop
  | .int, cs => ∃ n : Int, cs = [.int .i64 n] ∧ -9223372036854775808 ≤ n ∧ n ≤ 9223372036854775807
  | .u8, cs => ∃ n : Int, cs = [.int .u8 n] ∧ 0 ≤ n ∧ n ≤ 255
  | .bool, cs => ∃ b, cs = [.bool b]
  | .slice e, cs => ∃ ao len cap, cs = [.slice ao len cap] ∧ len ≤ maxLen ∧
      ∀ i, i < len → ∃ b off es, ao = some ⟨b, off, none⟩ ∧ es.length = e.size ∧ (∀ j, j < e.size → w.cell? ⟨b, off + i * e.size + j, none⟩ = es[j]?) ∧ Has w e es
  | .nil, cs => cs = []
  | .cons a b, cs => ∃ ca cb, cs = ca ++ cb ∧ Has w a ca ∧ Has w b cb

/-- Does the shape fit the type, or a list of fields from an offset on? -/
def fitB (P : Program) : Ty → (TypeId → Bool) × (Nat → List Field → Bool)
  | .int => (fun t => match P.underlying t with | some (.int .i64) => true | _ => false, fun _ _ => false)
  | .u8 => (fun t => match P.underlying t with | some (.int .u8) => true | _ => false, fun _ _ => false)
  | .bool => (fun t => match P.underlying t with | some .bool => true | _ => false, fun _ _ => false)
  | .slice e => (fun t => match P.underlying t with | some (.slice te) => P.cellsOf te == e.size && decide (0 < e.size) && (fitB P e).1 te | _ => false, fun _ _ => false)
  | .nil => (fun _ => false, fun _ fs => fs.isEmpty)
  | .cons a b =>
    let go := fun off fs => match fs with | f :: r => f.offset == off && P.cellsOf f.type == a.size && (fitB P a).1 f.type && (fitB P b).2 (off + a.size) r | [] => false
    (fun t => match P.underlying t with | some (.struct fs) => P.cellsOf t == a.size + b.size && go 0 fs.toList | _ => false, go)

section
variable {H : Type} {enc : TypeId × Value → H} {P : Program} {w : World} {spare : Nat → Bool} {held : Bool}

theorem cells_spot {w : World} {a : Addr} {n : Nat} {cs : List Value} (hn : 0 < n) (h : w.cells? 0 a n = some cs) : a.spot = none ∧ cs.length = n ∧ ∀ j, j < n → w.cell? (a.add j) = cs[j]? := by
  obtain ⟨_, hl, hat⟩ := World.cells?_some h
  refine ⟨?_, hl, hat⟩
  have h0 := hat 0 hn
  have : (a.add 0).spot = none := World.cell?_spot (v := cs[0]'(by omega)) (h0.trans (List.getElem?_eq_getElem (by omega)))
  simpa [Addr.add] using this

theorem has_both (ty : Ty) : (∀ (t : TypeId) (fuel : Nat) (cs : List Value) (x : DataW H × List MemPlace), (fitB P ty).1 t = true → DataW.trod enc P w 0 spare held fuel t cs = some x → Has w ty cs) ∧
    (∀ (off : Nat) (fs : List Field) (cs : List Value), (fitB P ty).2 off fs = true → (∀ f ∈ fs, ∃ n x, DataW.trod enc P w 0 spare held n f.type ((cs.drop f.offset).take (P.cellsOf f.type)) = some x) → cs.length = off + ty.size → Has w ty (cs.drop off)) := by
  induction ty with
  | int =>
    refine ⟨fun t fuel cs x hf h => ?_, fun _ _ _ hf => by simp [fitB] at hf⟩
    simp only [fitB] at hf
    split at hf
    · rename_i hu
      obtain ⟨n, rfl, _, hw⟩ := DataW.trod_int hu h
      have := bounds_i64 hw
      exact ⟨n, rfl, this.1, this.2⟩
    · cases hf
  | u8 =>
    refine ⟨fun t fuel cs x hf h => ?_, fun _ _ _ hf => by simp [fitB] at hf⟩
    simp only [fitB] at hf
    split at hf
    · rename_i hu
      obtain ⟨n, rfl, _, hw⟩ := DataW.trod_int hu h
      have := bounds_u8 hw
      exact ⟨n, rfl, this.1, this.2⟩
    · cases hf
  | bool =>
    refine ⟨fun t fuel cs x hf h => ?_, fun _ _ _ hf => by simp [fitB] at hf⟩
    simp only [fitB] at hf
    split at hf
    · rename_i hu
      obtain ⟨b, rfl, _⟩ := DataW.trod_bool hu h
      exact ⟨b, rfl⟩
    · cases hf
  | slice e ih =>
    refine ⟨fun t fuel cs x hf h => ?_, fun _ _ _ hf => by simp [fitB] at hf⟩
    simp only [fitB] at hf
    split at hf
    · rename_i te hu
      simp only [Bool.and_eq_true, beq_iff_eq, decide_eq_true_eq] at hf
      obtain ⟨⟨hc, hp⟩, he⟩ := hf
      rcases open_slice hu h with ⟨rfl, _⟩ | ⟨a, len, cap, m, n, D, Pl, rfl, _, hl, hm, hmm, _, hi⟩
      · exact ⟨none, 0, 0, rfl, Nat.zero_le _, fun i hi => by omega⟩
      · refine ⟨some a, len, cap, rfl, by omega, fun i hil => ?_⟩
        have him : i < m := by rw [hmm]; split <;> omega
        have hs0 : a.spot = none := by
          obtain ⟨es0, hes0, _⟩ := hi 0 (by omega)
          rw [hc] at hes0
          have := (cells_spot hp hes0).1
          simpa [Addr.add] using this
        obtain ⟨es, hes, ht⟩ := hi i him
        rw [hc] at hes
        obtain ⟨_, hlen, hat⟩ := cells_spot hp hes
        obtain ⟨b, off, spot⟩ := a
        simp only at hs0
        subst hs0
        refine ⟨b, off, es, rfl, hlen, fun j hj => ?_, ih.1 te n es _ he ht⟩
        have := hat j hj
        rw [← this]
        congr 1
        simp only [Addr.add]
        split <;> split <;> simp_all [Nat.add_assoc]
    · cases hf
  | nil =>
    refine ⟨fun t fuel cs x hf => by simp [fitB] at hf, fun off fs cs hf _ hl => ?_⟩
    show cs.drop off = []
    exact List.drop_eq_nil_iff.2 (by simp [Ty.size] at hl; omega)
  | cons a b iha ihb =>
    have hF : ∀ (off : Nat) (fs : List Field) (cs : List Value), (fitB P (.cons a b)).2 off fs = true → (∀ f ∈ fs, ∃ n x, DataW.trod enc P w 0 spare held n f.type ((cs.drop f.offset).take (P.cellsOf f.type)) = some x) → cs.length = off + (Ty.cons a b).size → Has w (.cons a b) (cs.drop off) := by
      intro off fs cs hf hall hl
      simp only [fitB] at hf
      match fs, hf, hall with
      | [], hf, _ => simp at hf
      | f :: r, hf, hall =>
        simp only [Bool.and_eq_true, beq_iff_eq] at hf
        obtain ⟨⟨⟨ho, hc⟩, ha⟩, hb⟩ := hf
        obtain ⟨n, x, ht⟩ := hall f (by simp)
        have h1 := iha.1 _ _ _ _ ha ht
        have h2 := ihb.2 (off + a.size) r cs hb (fun g hg => hall g (by simp [hg])) (by simp [Ty.size] at hl; omega)
        rw [ho, hc] at h1
        refine ⟨_, _, ?_, h1, h2⟩
        rw [← List.drop_drop, List.take_append_drop]
    refine ⟨fun t fuel cs x hf h => ?_, hF⟩
    have hf' := hf
    simp only [fitB] at hf
    split at hf
    · rename_i fs hu
      rw [Bool.and_eq_true] at hf
      obtain ⟨hc, hgo⟩ := hf
      simp only [beq_iff_eq] at hc
      obtain ⟨xs, n, _, _, hlen, hxl, hg⟩ := DataW.trod_struct hu h
      have := hF 0 fs.toList cs hgo (fun f hfm => by
        obtain ⟨i, hi, hfi⟩ := List.getElem_of_mem hfm
        have hi' : i < fs.size := by simpa using hi
        have hget : fs[i]? = some f := by rw [Array.getElem?_eq_getElem hi']; simpa using hfi
        exact ⟨n, xs[i]'(by omega), (hg i f hget).trans (List.getElem?_eq_getElem (by omega))⟩) (by rw [hlen, hc]; simp [Ty.size])
      simpa using this
    · cases hf

theorem has_of_trod {ty : Ty} {t : TypeId} {v : Value} {d : DataW H} {p : List MemPlace} (hf : (fitB P ty).1 t = true) (h : DataW.Trod enc P w 0 spare held t v d p) : Has w ty v.cells.toList := by
  obtain ⟨fuel, hx⟩ := h
  exact (has_both ty).1 t fuel _ _ hf hx
theorem lt_of_trod {t : TypeId} {v : Value} {d : DataW H} {p : List MemPlace} (h : DataW.Trod enc P w 0 spare held t v d p) : ∀ x ∈ p, x.block < w.heap.size := by
  obtain ⟨m, hm⟩ := h
  exact DataW.trod_lt m _ _ _ hm
end
end Go.Proofs.YtbhfabaofhhkeaaGreat
