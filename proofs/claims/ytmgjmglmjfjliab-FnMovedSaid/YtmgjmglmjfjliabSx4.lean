/-
  A walk by symbols, part 4: structs that are built; the calm operations together.
-/
import Derived.Test.YtmgjmglmjfjliabSx3
import Derived.Laws.StructEq
namespace Go.Proofs.Ytmgjmglmjfjliab
set_option linter.unusedVariables false
set_option linter.unusedSimpArgs false
open Go.RowKit

/-- Cells laid over a list from a place on. -/
def setL {α : Type} (l : List α) (o : Nat) : List α → List α
  | [] => l
  | v :: vs => setL (l.set o v) (o + 1) vs
theorem setL_len {α : Type} (vs : List α) : ∀ (l : List α) (o : Nat), (setL l o vs).length = l.length := by
  induction vs with
  | nil => intro l o; rfl
  | cons v vs ih => intro l o; simp [setL, ih]
theorem setL_map {α β : Type} (f : α → β) (vs : List α) : ∀ (l : List α) (o : Nat), (setL l o vs).map f = setL (l.map f) o (vs.map f) := by
  induction vs with
  | nil => intro l o; rfl
  | cons v vs ih => intro l o; simp [setL, ih, List.map_set]
theorem setL_take {α : Type} (vs : List α) : ∀ (l : List α) (o : Nat), o + vs.length ≤ l.length → setL l o vs = l.take o ++ vs ++ l.drop (o + vs.length) := by
  induction vs with
  | nil => intro l o _; simp [setL]
  | cons v vs ih =>
    intro l o h
    simp only [List.length_cons] at h
    rw [setL, ih _ _ (by simp; omega)]
    have h1 : (l.set o v).take (o + 1) = l.take o ++ [v] := by
      rw [List.take_succ_eq_append_getElem (by simp; omega), List.take_set_of_le (Nat.le_refl _)]
      simp
    have h2 : (l.set o v).drop (o + 1 + vs.length) = l.drop (o + (vs.length + 1)) := by
      rw [List.drop_set_of_lt (by omega)]
      congr 1
      omega
    rw [h1, h2]
    simp

/-- What 'fill' does with one part. -/
theorem fold_setL (vs : List Value) : ∀ (n : Nat) (cs : Array Value) (off : Nat), ((vs.zipIdx n).foldl (fun cs (p : Value × Nat) => cs.setIfInBounds (off + p.2) p.1) cs).toList = setL cs.toList (off + n) vs := by
  induction vs with
  | nil => intro n cs off; simp [setL]
  | cons v vs ih =>
    intro n cs off
    have h := ih (n + 1) (cs.setIfInBounds (off + n) v) off
    simp only [List.zipIdx_cons, List.foldl_cons, setL]
    rw [h]
    simp [Nat.add_assoc]
theorem fold_set (vs : Array Value) (cs : Array Value) (off : Nat) : (vs.zipIdx.foldl (fun cs (p : Value × Nat) => cs.setIfInBounds (off + p.2) p.1) cs).toList = setL cs.toList off vs.toList := by
  rw [← Array.foldl_toList, Array.toList_zipIdx, fold_setL]
  rfl

/-- The parts laid: (place, size, cells). -/
def layParts : List (Nat × Nat × List SC) → List SC → Option (List SC)
  | [], cs => some cs
  | (off, size, vs) :: rest, cs =>
    match Nat.beq vs.length size, Nat.ble (off + size) cs.length with
    | true, true => layParts rest (setL cs off vs)
    | _, _ => none

theorem fill_ok (place : Nat → Option (Nat × Nat)) : ∀ (ps : List (Nat × SA)) (qs : List (Nat × Nat × List SC)) (cs out : List SC),
    (∀ p ∈ ps, p.2.one = true) → ps.map (fun p => (place p.1).map (fun q => (q.1, q.2, p.2.cells))) = qs.map some → layParts qs cs = some out →
    Instr.fill place (cs.map SC.den).toArray (ps.map fun p => (p.1, p.2.den)) = some (out.map SC.den).toArray := by
  intro ps
  induction ps with
  | nil =>
    intro qs cs out _ hm h
    cases qs with
    | nil => simp [layParts] at h; subst h; rfl
    | cons q qs => simp at hm
  | cons p ps ih =>
    intro qs cs out h1 hm h
    cases qs with
    | nil => simp at hm
    | cons q qs =>
      simp only [List.map_cons, List.cons.injEq] at hm
      obtain ⟨hp, hm⟩ := hm
      cases hpl : place p.1 with
      | none => simp [hpl] at hp
      | some pl =>
        simp only [hpl, Option.map_some, Option.some.injEq] at hp
        subst hp
        simp only [layParts] at h
        split at h
        · rename_i hs hl
          have hs' := Nat.eq_of_beq_eq_true hs
          have hl' := Nat.le_of_ble_eq_true hl
          have hc := SA.cells_den (h1 p (by simp))
          have hcs : p.2.den.cells.size = pl.2 := by rw [← Array.length_toList, hc, List.length_map, hs']
          simp only [List.map_cons, Instr.fill, hpl, hcs]
          rw [if_neg (by simp; omega)]
          have hf := fold_set p.2.den.cells (cs.map SC.den).toArray pl.1
          have := ih qs (setL cs pl.1 p.2.cells) out (fun q hq => h1 q (by simp [hq])) hm h
          rw [← this]
          congr 1
          apply Array.ext'
          rw [hf, hc, setL_map]
        · cases h

/-- The cells of a type's zero value. -/
def zeroOf (P : Program) (t : TypeId) : Option (List SC) := ((P.info? t).bind (·.zero)).map fun z => z.cells.toList.map ofC
theorem run_zero' {P : Program} {t : TypeId} {zs : List SC} (h : zeroOf P t = some zs) : ∃ z : Value, (∀ w, (zeroValue t).run P w = .ok z w) ∧ z.cells.toList = zs.map SC.den ∧ ∃ i, P.info? t = some i ∧ i.zero = some z := by
  unfold zeroOf at h
  cases hi : P.info? t with
  | none => simp [hi] at h
  | some i =>
    cases hz : i.zero with
    | none => simp [hi, hz] at h
    | some z =>
      simp only [hi, Option.bind_some, hz, Option.map_some, Option.some.injEq] at h
      subst h
      refine ⟨z, fun w => by simp [zeroValue, typeInfo, hi, hz], by simp [Function.comp_def, ofC_den], i, rfl, hz⟩

def fieldsOf (P : Program) (t : TypeId) : Option (List Field) :=
  match P.underlying t with
  | some (.struct fs) => some fs.toList
  | _ => none
theorem fieldsOf_ok {P : Program} {t : TypeId} {fs : List Field} (h : fieldsOf P t = some fs) : P.underlying t = some (.struct fs.toArray) := by
  unfold fieldsOf at h
  split at h
  · rename_i gs hu; injection h with h; subst h; rw [hu]
  · cases h

/-- The parts of a composite: places by the fields. -/
def partsOf (P : Program) (fs : List Field) (ts : List SV) : List (Nat × Operand) → Option (List (Nat × Nat × List SC))
  | [] => some []
  | (i, x) :: rest =>
    match fs[i]?, ev ts x, partsOf P fs ts rest with
    | some f, .a v, some qs =>
      match v.one, szOf P f.type with
      | true, some z => some ((f.offset, z, v.cells) :: qs)
      | _, _ => none
    | _, _, _ => none
def partsAt (s : Nat) (ts : List SV) : List (Nat × Operand) → Option (List (Nat × Nat × List SC))
  | [] => some []
  | (i, x) :: rest =>
    match ev ts x, partsAt s ts rest with
    | .a v, some qs =>
      match v.one with
      | true => some ((i * s, s, v.cells) :: qs)
      | _ => none
    | _, _ => none
def svs (ts : List SV) (ps : List (Nat × Operand)) : List (Nat × SA) := ps.map fun p => (p.1, match ev ts p.2 with | .a v => v | _ => .agg [])

theorem partsOf_ok {P : Program} {fs : List Field} {ts : List SV} {pl : Nat → Option (Nat × Nat)} (hpl : ∀ (i : Nat) f z, fs[i]? = some f → szOf P f.type = some z → pl i = some (f.offset, z)) :
    ∀ (ps : List (Nat × Operand)) (qs : List (Nat × Nat × List SC)), partsOf P fs ts ps = some qs →
      (∀ p ∈ svs ts ps, p.2.one = true) ∧ (svs ts ps).map (fun p => (pl p.1).map (fun q => (q.1, q.2, p.2.cells))) = qs.map some ∧ (∀ p ∈ ps, (ev ts p.2).den = (match ev ts p.2 with | .a v => v | _ => SA.agg []).den) := by
  intro ps
  induction ps with
  | nil => intro qs h; simp only [partsOf, Option.some.injEq] at h; subst h; simp [svs]
  | cons p ps ih =>
    obtain ⟨i, x⟩ := p
    intro qs h
    simp only [partsOf] at h
    split at h
    · rename_i f v qs' hf hx hqs
      split at h
      · rename_i z ho hz
        injection h with h
        subst h
        obtain ⟨h1, h2, h3⟩ := ih qs' hqs
        refine ⟨fun q hq => ?_, ?_, fun q hq => ?_⟩
        · simp only [svs, List.map_cons, List.mem_cons] at hq
          rcases hq with rfl | hq
          · simp only [hx]; exact ho
          · exact h1 q hq
        · simp only [svs, List.map_cons] at h2 ⊢
          rw [h2]
          simp [hx, hpl i f z hf hz]
        · simp only [List.mem_cons] at hq
          rcases hq with rfl | hq
          · simp only [hx, SV.den]
          · exact h3 q hq
      · cases h
    · cases h
theorem partsAt_ok {s : Nat} {ts : List SV} :
    ∀ (ps : List (Nat × Operand)) (qs : List (Nat × Nat × List SC)), partsAt s ts ps = some qs →
      (∀ p ∈ svs ts ps, p.2.one = true) ∧ (svs ts ps).map (fun p => ((fun i => some (i * s, s) : Nat → Option (Nat × Nat)) p.1).map (fun q => (q.1, q.2, p.2.cells))) = qs.map some ∧ (∀ p ∈ ps, (ev ts p.2).den = (match ev ts p.2 with | .a v => v | _ => SA.agg []).den) := by
  intro ps
  induction ps with
  | nil => intro qs h; simp only [partsAt, Option.some.injEq] at h; subst h; simp [svs]
  | cons p ps ih =>
    obtain ⟨i, x⟩ := p
    intro qs h
    simp only [partsAt] at h
    split at h
    · rename_i v qs' hx hqs
      split at h
      · rename_i ho
        injection h with h
        subst h
        obtain ⟨h1, h2, h3⟩ := ih qs' hqs
        refine ⟨fun q hq => ?_, ?_, fun q hq => ?_⟩
        · simp only [svs, List.map_cons, List.mem_cons] at hq
          rcases hq with rfl | hq
          · simp only [hx]; exact ho
          · exact h1 q hq
        · simp only [svs, List.map_cons] at h2 ⊢
          rw [h2]
          simp [hx]
        · simp only [List.mem_cons] at hq
          rcases hq with rfl | hq
          · simp only [hx, SV.den]
          · exact h3 q hq
      · cases h
    · cases h
theorem svs_map {ts : List SV} {a : Act} (hT : Ts ts a) (ps : List (Nat × Operand)) (h : ∀ p ∈ ps, (ev ts p.2).den = (match ev ts p.2 with | .a v => v | _ => SA.agg []).den) :
    ps.map (fun p => (p.1, a.eval p.2)) = (svs ts ps).map fun p => (p.1, p.2.den) := by
  simp only [svs, List.map_map]
  refine List.map_congr_left fun p hp => ?_
  simp only [Function.comp_apply, ev_den hT, h p hp]

def exBuild (P : Program) (t : TypeId) (ts : List SV) (ps : List (Nat × Operand)) (k : SA → Prop) : Prop :=
  match fieldsOf P t, zeroOf P t with
  | some fs, some zs =>
    match partsOf P fs ts ps with
    | some qs =>
      match layParts qs zs with
      | some out => k (.agg out)
      | none => False
    | none => False
  | _, _ => False

theorem mapM_sizes {P : Program} (w : World) : ∀ (fs : List Field), (∀ f ∈ fs, ∃ z, szOf P f.type = some z) →
    (fs.mapM fun f => do pure (f.offset, ← sizeOf f.type) : Sem (List (Nat × Nat))).run P w = .ok (fs.map fun f => (f.offset, (szOf P f.type).getD 0)) w := by
  intro fs
  induction fs with
  | nil => intro _; rfl
  | cons f fs ih =>
    intro h
    obtain ⟨z, hz⟩ := h f (by simp)
    have hz' := run_sizeOf' hz w
    have h' := ih fun g hg => h g (by simp [hg])
    simp only [List.mapM_cons, Sem.run_bind, hz', Result.andThen_ok, Sem.run_pure, h', List.map_cons, hz, Option.getD_some]

def allSz (P : Program) (fs : List Field) : Bool := fs.all fun f => (szOf P f.type).isSome

def exBuild' (P : Program) (t : TypeId) (ts : List SV) (ps : List (Nat × Operand)) (k : SA → Prop) : Prop :=
  match fieldsOf P t with
  | some fs =>
    match allSz P fs with
    | true => exBuild P t ts ps k
    | false => False
  | none => False

theorem exBuild_ok {P : Program} {t : TypeId} {ts : List SV} {ps : Array (Nat × Operand)} {k : SA → Prop} (h : exBuild' P t ts ps.toList k) :
    ∃ v, k v ∧ ∀ (a : Act), Ts ts a → ∀ w : World, (Instr.build t (ps.map fun p => (p.1, a.eval p.2))).run P w = .ok v.den w := by
  unfold exBuild' at h
  split at h
  · rename_i fs hfs
    split at h
    · rename_i hall
      unfold exBuild at h
      split at h
      · rename_i fs' zs hfs' hzs
        rw [hfs] at hfs'
        injection hfs' with hfs'
        subst hfs'
        split at h
        · rename_i qs hqs
          split at h
          · rename_i out hout
            refine ⟨_, h, fun a hT w => ?_⟩
            obtain ⟨z, hz, hzc, _⟩ := run_zero' hzs
            have hsz : ∀ f ∈ fs, ∃ z, szOf P f.type = some z := fun f hf => Option.isSome_iff_exists.1 (List.all_eq_true.1 hall f hf)
            have hplace : ∀ (i : Nat) f z, fs[i]? = some f → szOf P f.type = some z → (fs.map fun f => (f.offset, (szOf P f.type).getD 0)).toArray[i]? = some (f.offset, z) := fun i f z hf hz => by
              simp [hf, hz]
            obtain ⟨h1, h2, h3⟩ := partsOf_ok hplace ps.toList qs hqs
            have hfill := fill_ok _ (svs ts ps.toList) qs zs out h1 h2 hout
            have hzc' : z.cells = (zs.map SC.den).toArray := by rw [← hzc]
            have hm := mapM_sizes (P := P) w fs hsz
            have hps : (Array.map (fun p => (p.1, a.eval p.2)) ps).toList = (svs ts ps.toList).map fun p => (p.1, p.2.den) := by
              rw [Array.toList_map]; exact svs_map hT _ h3
            simp only [Instr.build, Sem.run_bind, hz w, Result.andThen_ok, run_underlying (fieldsOf_ok hfs)]
            rw [List.mapM_toArray, Sem.run_map]
            simp only [hm, Result.andThen_ok, hps, hzc']
            rw [show (fun x => (List.map (fun f => (f.offset, (szOf P f.type).getD 0)) fs).toArray[x]?) = (fun x => (List.map (fun f => (f.offset, (szOf P f.type).getD 0)) fs).toArray[x]?) from rfl, hfill]
            rfl
          · exact h.elim
        · exact h.elim
      · exact h.elim
    · exact h.elim
  · exact h.elim

/-! structs compared -/
abbrev andB (a b : Bool) : Bool := a && b
def eqFs (P : Program) (xs ys : List SC) : List Field → Option Bool
  | [] => some true
  | f :: fs =>
    match f.name == "_", xs[f.offset]?, ys[f.offset]?, eqFs P xs ys fs with
    | false, some x, some y, some r =>
      match P.underlying f.type, asI x, asI y, asB x, asB y with
      | some (.int .i64), some a, some b, _, _ => some (andB (ieq a b) r)
      | some .bool, _, _, some a, some b => some (andB (beqb a b) r)
      | _, _, _, _, _ => none
    | _, _, _, _ => none
theorem run_part_one {P : Program} {t : TypeId} (ha : aggOf P t = some false) {cs : Array Value} {off : Nat} {v : Value} (h : cs[off]? = some v) (w : World) : (part t cs off).run P w = .ok v w := by
  simp [part, run_isAgg' ha, h]
theorem eqFs_ok {P : Program} {xs ys : List SC} (w : World) : ∀ (fs : List Field) (r : Bool), eqFs P xs ys fs = some r →
    (Op.eqFields 9999 (xs.map SC.den).toArray (ys.map SC.den).toArray fs).run P w = .ok r w := by
  intro fs
  induction fs with
  | nil => intro r h; simp only [eqFs, Option.some.injEq] at h; subst h; rfl
  | cons f fs ih =>
    intro r h
    simp only [eqFs] at h
    split at h
    · rename_i x y r' hn hx hy hr
      have hne : f.name ≠ "_" := by
        intro e
        rw [e] at hn
        simp at hn
      have gx : ((xs.map SC.den).toArray)[f.offset]? = some x.den := by simp [hx]
      have gy : ((ys.map SC.den).toArray)[f.offset]? = some y.den := by simp [hy]
      split at h
      · rename_i a b hu ha hb
        injection h with h
        have hag : aggOf P f.type = some false := by simp [aggOf, hu]
        have he := run_equalIn_int (P := P) w 9998 f.type .i64 .i64 a b hu
        simp only [Op.eqFields, if_pos hne, Sem.run_bind, run_part_one hag gx, run_part_one hag gy, Result.andThen_ok, asI_den ha, asI_den hb, he, Sem.run_ite, ih r' hr, Sem.run_pure]
        subst h
        cases hab : (a == b) <;> simp [andB, ieq, hab]
      · rename_i a b hu ha hb
        injection h with h
        have hag : aggOf P f.type = some false := by simp [aggOf, hu]
        have he := run_equalIn_bool' (P := P) w 9998 f.type a b hu
        simp only [Op.eqFields, if_pos hne, Sem.run_bind, run_part_one hag gx, run_part_one hag gy, Result.andThen_ok, asB_den ha, asB_den hb, he, Sem.run_ite, ih r' hr, Sem.run_pure]
        subst h
        cases hab : (a == b) <;> simp [andB, beqb, hab]
      · cases h
    · cases h
def exEqS (P : Program) (op : BinOp) (t : TypeId) (xs ys : List SC) (k : SC → Prop) : Prop :=
  match fieldsOf P t, P.eqGuardType P.depth t, P.stoodInHeld t with
  | some fs, false, false =>
    match eqFs P xs ys fs with
    | some r =>
      match op with
      | .eql => k (.bool r)
      | .neq => k (.bool (bnot r))
      | _ => False
    | none => False
  | _, _, _ => False
theorem exEqS_ok {P : Program} {op : BinOp} {t : TypeId} {xs ys : List SC} {k : SC → Prop} (h : exEqS P op t xs ys k) :
    ∃ v, k v ∧ ∀ (w : World) (p q : Operand), (do eqGuard op t p q (SA.agg xs).den (SA.agg ys).den; binOp op t (SA.agg xs).den (SA.agg ys).den : Sem Value).run P w = .ok v.den w := by
  unfold exEqS at h
  split at h
  · rename_i fs hfs hg hh
    have hu := fieldsOf_ok hfs
    have hpf : P.fieldsOf t = fs.toArray := by simp [Program.fieldsOf, hu]
    have ht : P.underlying t = some (.struct (P.fieldsOf t)) := by rw [hpf]; exact hu
    split at h
    · rename_i r hr
      have he : ∀ w : World, (Op.equalIn 10000 t (.agg (xs.map SC.den).toArray) (.agg (ys.map SC.den).toArray)).run P w = .ok r w := fun w => by
        have h1 := run_equalIn_agg (P := P) w 9999 t (xs.map SC.den).toArray (ys.map SC.den).toArray ht hh
        rw [hpf] at h1
        exact h1.trans (eqFs_ok w fs r hr)
      split at h
      · refine ⟨_, h, fun w p q => ?_⟩
        simp only [SA.den, Sem.run_bind, run_eqGuard_agg w _ t p q _ _ hg, Result.andThen_ok, run_eql_struct, he w]
        rfl
      · refine ⟨_, h, fun w p q => ?_⟩
        simp only [SA.den, Sem.run_bind, run_eqGuard_agg w _ t p q _ _ hg, Result.andThen_ok, run_neq_struct, he w]
        rfl
      · exact h.elim
    · exact h.elim
  · exact h.elim
end Go.Proofs.Ytmgjmglmjfjliab
