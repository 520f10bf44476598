/-
  A walk by symbols, part 7: slices that are made, appended to; calls; the operations that act, together.
-/
import Derived.Test.YtmgjmglmjfjliabSx6
namespace Go.Proofs.Ytmgjmglmjfjliab
set_option linter.unusedVariables false
set_option linter.unusedSimpArgs false
open Go.RowKit

def repL {α : Type} (zs : List α) : Nat → List α
  | 0 => []
  | m + 1 => zs ++ repL zs m
theorem repL_len {α : Type} (zs : List α) (m : Nat) : (repL zs m).length = m * zs.length := by
  induction m with
  | zero => simp [repL]
  | succ m ih => simp [repL, ih, Nat.add_mul, Nat.add_comm]
theorem repL_get {α : Type} (zs : List α) : ∀ (m k : Nat), k < m * zs.length → (repL zs m)[k]? = zs[k % zs.length]? := by
  intro m
  induction m with
  | zero => intro k h; simp at h
  | succ m ih =>
    intro k h
    have hz : 0 < zs.length := by
      rcases Nat.eq_zero_or_pos zs.length with h0 | h0
      · rw [h0] at h; simp at h
      · exact h0
    simp only [repL]
    by_cases hk : k < zs.length
    · rw [List.getElem?_append_left hk, Nat.mod_eq_of_lt hk]
    · have hk' : zs.length ≤ k := by omega
      rw [List.getElem?_append_right hk', ih (k - zs.length) (by rw [Nat.add_mul, Nat.one_mul] at h; omega), ← Nat.mod_eq_sub_mod hk']
theorem repL_map {α β : Type} (f : α → β) (zs : List α) (m : Nat) : (repL zs m).map f = repL (zs.map f) m := by
  induction m with
  | zero => rfl
  | succ m ih => simp [repL, ih]

theorem made_repL (z : Array Value) (m : Nat) : (madeCells z (m * z.size)).toList = repL z.toList m := by
  apply List.ext_getElem?
  intro k
  by_cases hk : k < m * z.size
  · rw [repL_get _ _ _ (by simpa using hk)]
    have hz : 0 < z.size := by
      rcases Nat.eq_zero_or_pos z.size with h0 | h0
      · rw [h0] at hk; simp at hk
      · exact h0
    have hm : k % z.size < z.size := Nat.mod_lt _ hz
    simp [madeCells, hk, hm]
  · rw [List.getElem?_eq_none (by simp [size_madeCells]; omega), List.getElem?_eq_none (by rw [repL_len]; simp; omega)]

def byOf (P : Program) (t : TypeId) : Option Nat := (P.info? t).map (·.bytes)

/-- What a slice's type says: its elements' type, cells, bytes, zero cells. -/
def elInfo (P : Program) (t : TypeId) : Option (TypeId × Nat × Nat × List SC) :=
  match elemOf' P t with
  | some e =>
    match szOf P e, byOf P e, zeroOf P e with
    | some s, some by', some zs =>
      match Nat.beq zs.length s with
      | true => some (e, s, by', zs)
      | false => none
    | _, _, _ => none
  | none => none
theorem elInfo_ok {P : Program} {t e : TypeId} {s by' : Nat} {zs : List SC} (h : elInfo P t = some (e, s, by', zs)) :
    P.underlying t = some (.slice e) ∧ ∃ (i : TypeInfo) (z : Value), P.info? e = some i ∧ i.size = s ∧ i.bytes = by' ∧ i.zero = some z ∧ z.cells.toList = zs.map SC.den ∧ z.cells.size = s ∧ zs.length = s := by
  unfold elInfo at h
  split at h
  · rename_i e' he
    split at h
    · rename_i s' b' zs' hs hb hz
      split at h
      · rename_i hl
        simp only [Option.some.injEq, Prod.mk.injEq] at h
        obtain ⟨rfl, rfl, rfl, rfl⟩ := h
        have hl' := Nat.eq_of_beq_eq_true hl
        obtain ⟨z, _, hzc, i, hi, hiz⟩ := run_zero' hz
        refine ⟨elemOf_ok he, i, z, hi, ?_, ?_, hiz, hzc, ?_, hl'⟩
        · simpa [szOf, hi] using hs
        · simpa [byOf, hi] using hb
        · rw [← Array.length_toList, hzc, List.length_map, hl']
      · cases h
    · cases h
  · cases h

abbrev mkC (by' : Nat) (n : Int) : Prop := 0 ≤ n ∧ (by' : Int) * n ≤ 281474976710656 ∧ n ≤ 9223372036854775807
abbrev apC (n m by' : Nat) : Prop := (n + m) * by' ≤ 140737488355328

def exMake (P : Program) (t : TypeId) (x y : SV) (ch : List Ch) (k : EK) : Prop :=
  match elInfo P t with
  | some (e, s, by', zs) =>
    match x, y with
    | .a (.c (.il (.ofNat m))), .a (.c (.il (.ofNat m'))) =>
      match Nat.beq m m', Nat.ble (by' * m) 281474976710656, Nat.ble m 1099511627776 with
      | true, true, true => ∀ b, k (.a (.c (.slc ch.length b m m))) (ch ++ [.cells b e (repL zs m)]) []
      | _, _, _ => False
    | .a (.c (.int n)), .a (.c (.int n')) =>
      n = n' ∧ mkC by' n ∧
        ∀ b, k (.a (.c (.sl ch.length (some ⟨b, 0, none⟩) (tn n) (tn n)))) (ch ++ [.row ⟨true, some ⟨b, 0, none⟩, e, s, tn n, tn n, zs.map fun z _ => z⟩]) []
    | _, _ => False
  | none => False

theorem exMake_ok {P : Program} {X : Cx} {o : Oper} {t : TypeId} {x y : Operand} {ts : List SV} {ch : List Ch} {k : EK} (ho : o.op = .makeSlice t x y) (h : exMake P t (ev ts x) (ev ts y) ch k) {a : Act} (hT : Ts ts a) {w : World} (hs : HS X ch w) : EffOk P X o a ch w k := by
  unfold exMake at h
  split at h
  · rename_i e s by' zs hel
    obtain ⟨hu, i, z, hi, hsz, hby, hz, hzc, hzs, hlen⟩ := elInfo_ok hel
    subst hsz
    subst hby
    split at h
    · rename_i m m' hx hy
      split at h
      · rename_i h1 h2 h3
        have h1' := Nat.eq_of_beq_eq_true h1
        have h2' := Nat.le_of_ble_eq_true h2
        have h3' := Nat.le_of_ble_eq_true h3
        subst h1'
        have ex : a.eval x = .int .i64 (m : Int) := by rw [ev_den hT, hx]; rfl
        have ey : a.eval y = .int .i64 (m : Int) := by rw [ev_den hT, hy]; rfl
        have hr := run_make (P := P) w t e i z hu hi hz .i64 .i64 (m : Int) (m : Int) (by omega) (Int.le_refl _) (by omega) (by omega)
        simp only [Int.toNat_natCast] at hr
        refine .inl ⟨_, _, _, w.alloc (.cells (madeCells z.cells (m * i.size)) e), ?_, hs.alloc e (repL zs m) _ ?_, Agree.app _ _, h w.heap.size⟩
        · simp only [execOp, ho, ex, ey, Sem.run_bind, hr, Result.andThen_ok, Sem.run_pure]
          rfl
        · rw [← hzs, made_repL, hzc, repL_map]
      · exact h.elim
    · rename_i n n' hx hy
      obtain ⟨rfl, ⟨h0, h1, h2⟩, h⟩ := h
      have ex : a.eval x = .int .i64 n := by rw [ev_den hT, hx]; rfl
      have ey : a.eval y = .int .i64 n := by rw [ev_den hT, hy]; rfl
      have hr := run_make (P := P) w t e i z hu hi hz .i64 .i64 n n h0 (Int.le_refl _) h1 h2
      refine .inl ⟨_, _, _, w.alloc (.cells (madeCells z.cells (n.toNat * i.size)) e), ?_, hs.add (belowAllocW w _) _ ?_ ?_, Agree.app _ _, h w.heap.size⟩
      · simp only [execOp, ho, ex, ey, Sem.run_bind, hr, Result.andThen_ok, Sem.run_pure]
        rfl
      · refine ⟨by simp [hlen], fun ho' => (by cases ho'), fun _ => .inr ⟨w.heap.size, _, rfl, heap_alloc_new w _, Nat.le_refl _, by simp only [maxLen, tn]; omega, by rw [size_madeCells], fun j hj c f hf => ?_⟩⟩
        have hm := made_repL z.cells n.toNat
        rw [hzs, hzc] at hm
        simp only [List.getElem?_map] at hf
        cases hc : zs[c]? with
        | none => simp [hc] at hf
        | some y =>
          simp only [hc, Option.map_some, Option.some.injEq] at hf
          subst hf
          have hcl : c < zs.length := (List.getElem?_eq_some_iff.1 hc).1
          have hj' : j < n.toNat := hj
          have hb : j * i.size + c < n.toNat * i.size := by
            have : (j + 1) * i.size ≤ n.toNat * i.size := Nat.mul_le_mul_right _ (by omega)
            rw [Nat.add_mul] at this
            omega
          rw [← Array.getElem?_toList, hm, repL_get _ _ _ (by simp [hlen]; exact hb)]
          simp only [List.length_map, hlen, Nat.mul_add_mod_self_right]
          rw [Nat.mod_eq_of_lt (by omega)]
          simp [hc]
      · intro b hb
        obtain ⟨_, off, hb⟩ := hb
        injection hb with hb
        injection hb with hb
        omega
    · exact h.elim
  · exact h.elim

def exBuildSlice (P : Program) (t : TypeId) (n : Nat) (ts : List SV) (ps : List (Nat × Operand)) (ch : List Ch) (k : EK) : Prop :=
  match elInfo P t with
  | some (e, s, _, zs) =>
    match Nat.ble (n * s) 16777216, partsAt s ts ps with
    | true, some qs =>
      match layParts qs (repL zs n) with
      | some out => ∀ b, k (.a (.c (.slc ch.length b n n))) (ch ++ [.cells b e out]) []
      | none => False
    | _, _ => False
  | none => False

theorem exBuildSlice_ok {P : Program} {X : Cx} {o : Oper} {t : TypeId} {n : Nat} {ps : Array (Nat × Operand)} {ts : List SV} {ch : List Ch} {k : EK} (ho : o.op = .buildSlice t n ps) (h : exBuildSlice P t n ts ps.toList ch k) {a : Act} (hT : Ts ts a) {w : World} (hs : HS X ch w) : EffOk P X o a ch w k := by
  unfold exBuildSlice at h
  split at h
  · rename_i e s by' zs hel
    obtain ⟨hu, i, z, hi, hsz, hby, hz, hzc, hzs, hlen⟩ := elInfo_ok hel
    subst hsz
    split at h
    · rename_i qs hle hqs
      split at h
      · rename_i out hout
        have hle' := Nat.le_of_ble_eq_true hle
        obtain ⟨h1, h2, h3⟩ := partsAt_ok ps.toList qs hqs
        have hfill := fill_ok (fun q => some (q * i.size, i.size)) (svs ts ps.toList) qs (repL zs n) out h1 h2 hout
        have hps : (Array.map (fun p => (p.1, a.eval p.2)) ps).toList = (svs ts ps.toList).map fun p => (p.1, p.2.den) := by
          rw [Array.toList_map]; exact svs_map hT _ h3
        have hm : ((repL zs n).map SC.den).toArray = madeCells z.cells (n * i.size) := by
          apply Array.ext'
          rw [← hzs, made_repL, hzc, repL_map]
        rw [hm] at hfill
        refine .inl ⟨_, _, _, w.alloc (.cells (out.map SC.den).toArray e), ?_, hs.alloc e out _ rfl, Agree.app _ _, h w.heap.size⟩
        have hsize := run_sizeOf' (P := P) (t := e) (z := i.size) (by simp [szOf, hi]) w
        have hzero : (zeroValue e).run P w = .ok z w := by simp [zeroValue, typeInfo, hi, hz]
        simp only [execOp, ho, Instr.buildSlice, Sem.run_bind, run_underlying hu, Result.andThen_ok, hsize]
        rw [if_neg (by simp; omega)]
        by_cases h0 : n * i.size = 0
        · rw [if_pos h0]
          have hm0 : (Array.range (n * i.size)).map (fun x => (#[] : Array Value)[x % (#[] : Array Value).size]!) = madeCells z.cells (n * i.size) := by
            rw [h0]; simp [madeCells]
          simp only [Sem.run_bind, Sem.run_pure, Result.andThen_ok, hm0, hps, hfill, newRow, run_newObj]
          rfl
        · rw [if_neg h0]
          have hm1 : (Array.range (n * i.size)).map (fun x => z.cells[x % z.cells.size]!) = madeCells z.cells (n * i.size) := rfl
          simp only [Sem.run_bind, Sem.run_pure, Result.andThen_ok, hzero, hm1, hps, hfill, newRow, run_newObj]
          rfl
      · exact h.elim
    · exact h.elim
  · exact h.elim
end Go.Proofs.Ytmgjmglmjfjliab
