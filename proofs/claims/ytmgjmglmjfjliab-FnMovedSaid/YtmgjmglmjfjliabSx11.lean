/-
  A walk by symbols, part 11: code, loops, whole functions.
-/
import Derived.Test.YtmgjmglmjfjliabSx10
import Derived.LoopN
namespace Go.Proofs.Ytmgjmglmjfjliab
set_option linter.unusedVariables false
set_option linter.unusedSimpArgs false
open Go.RowKit

abbrev CK := Exit → List SV → List Ch → Prop
abbrev LSm := List SV → List Ch → CK → Prop

/-- What holds behind a piece of code. -/
def Kh (X : Cx) (k : CK) : Exit → Act → World → Prop := fun e a w =>
  match e with
  | .panic _ => False
  | .outgrown => False
  | .goto _ => False
  | e => ∃ ts ch, Ts ts a ∧ a.defers = [] ∧ HS X ch w ∧ k e ts ch

def firstReg : Code → Nat
  | .region id _ _ => id
  | .seq a _ => firstReg a
  | .cond _ a _ => firstReg a
  | .block _ b => firstReg b
  | .loop b => firstReg b
  | .scope b => firstReg b
  | _ => 0
def lookL : List (Nat × LSm) → Nat → Option LSm
  | [], _ => none
  | (f, S) :: r, g => match Nat.beq f g with | true => some S | false => lookL r g

/-- A loop's summary, proved beforehand. -/
def LoopOK (P : Program) (X : Cx) (b : Code) (S : LSm) : Prop := ∀ (ts : List SV) (ch : List Ch) (k : CK) (a : Act) (w : World), S ts ch k → Ts ts a → a.defers = [] → HS X ch w → (Code.loop b).wp P (Kh X k) a w
def LoopsOK (P : Program) (X : Cx) (L : List (Nat × LSm)) : Code → Prop
  | .loop b => (match lookL L (firstReg b) with | some S => LoopOK P X b S | none => True) ∧ LoopsOK P X L b
  | .seq a b => LoopsOK P X L a ∧ LoopsOK P X L b
  | .cond _ a b => LoopsOK P X L a ∧ LoopsOK P X L b
  | .block _ b => LoopsOK P X L b
  | _ => True
theorem loopsOK_nil (P : Program) (X : Cx) : ∀ c : Code, LoopsOK P X [] c := by
  intro c
  induction c with
  | loop b ih => exact ⟨trivial, ih⟩
  | seq a b iha ihb => exact ⟨iha, ihb⟩
  | cond c a b iha ihb => exact ⟨iha, ihb⟩
  | block id b ih => exact ih
  | _ => trivial

def rounds (F : List SV → List Ch → CK → Prop) : Nat → List SV → List Ch → CK → Prop
  | 0, _, _, _ => False
  | m + 1, ts, ch, k => F ts ch fun e ts' ch' => match e with
    | .normal => rounds F m ts' ch' k
    | e => k e ts' ch'

structure Env where
  tb : List (FuncId × Sm) := []
  L : List (Nat × LSm) := []
  D : Nat → List Nat := fun _ => []
  R : List (Nat × Nat) := []
  O : List (Nat × List Nat) := []
def lookO : List (Nat × List Nat) → Nat → Option (List Nat)
  | [], _ => none
  | (f, S) :: r, g => match Nat.beq f g with | true => some S | false => lookO r g
/-- How many rounds a loop is walked at most. -/
def rnd : List (Nat × Nat) → Nat → Nat → Nat
  | [], _, n => n
  | (k, m) :: r, key, n => match Nat.beq k key with
    | true => m
    | false => rnd r key n

/-- The slot of a condition, written out. -/
def litC (ts : List SV) (c : Operand) (b : Bool) : List SV :=
  match c with
  | .tmp d => litT ts d b
  | _ => ts
theorem litC_ok {ts : List SV} {a : Act} (h : Ts ts a) {c : Operand} {b : Bool} (hc : ev ts c = .a (.c (.bool b))) : Ts (litC ts c b) a := by
  cases c with
  | tmp d =>
    refine h.lit ?_
    simp only [ev, List.getD_eq_getElem?_getD] at hc
    cases hs : ts[d]? with
    | none => simp [hs] at hc
    | some v => simp only [hs, Option.getD_some] at hc; rw [hc]
  | _ => exact h

def exCode (P : Program) (E : Env) : Nat → Code → List SV → List Ch → CK → Prop
  | 0, _, _, _, _ => False
  | n + 1, c, ts, ch, k =>
    match c with
    | .skip => k .normal ts ch
    | .label _ => k .normal ts ch
    | .region id ops dr =>
      match dr with
      | false => exOps P E.tb ops.toList ops.toList ts ch fun ts' ch' => k .normal ts' ch'
      | true =>
        match noSelL ops.toList with
        | true =>
          match lookO E.O id with
          | none => exDraw P E.tb ops.toList (E.D id) (some (mask (E.D id) ch)) ops.toList.length (List.replicate ops.toList.length false) ts ch fun ts' ch' => k .normal ts' ch'
          | some ord => exDrawM P E.tb ops.toList (E.D id) (some (mask (E.D id) ch)) ops.toList.length (List.replicate ops.toList.length false) ord ts ch fun ts' ch' => k .normal ts' ch'
        | false => False
    | .seq a b => exCode P E n a ts ch fun e ts' ch' => match e with
      | .normal => exCode P E n b ts' ch' k
      | e => k e ts' ch'
    | .cond c a b =>
      match ev ts c with
      | .a (.c (.lit true)) => exCode P E n a ts ch k
      | .a (.c (.lit false)) => exCode P E n b ts ch k
      | .a (.c (.bool t)) => (t = true → exCode P E n a (litC ts c true) ch k) ∧ (t = false → exCode P E n b (litC ts c false) ch k)
      | _ => False
    | .block id b => exCode P E n b ts ch fun e ts' ch' => match e with
      | .exit id' => match Nat.beq id' id with
        | true => k .normal ts' ch'
        | false => k (.exit id') ts' ch'
      | e => k e ts' ch'
    | .exit id => k (.exit id) ts ch
    | .ret => k .ret ts ch
    | .loop b =>
      match lookL E.L (firstReg b) with
      | some S => S ts ch k
      | none => rounds (exCode P E n b) (rnd E.R (firstReg b) n) ts ch k
    | _ => False

theorem code_ok {P : Program} (hm : P.follows .mixedOrders = true) {X : Cx} {E : Env} (hb : TbOK P E.tb) : ∀ (n : Nat) (c : Code) (ts : List SV) (ch : List Ch) (k : CK) (a : Act) (w : World),
    LoopsOK P X E.L c → exCode P E n c ts ch k → Ts ts a → a.defers = [] → HS X ch w → c.wp P (Kh X k) a w := by
  intro n
  induction n with
  | zero => intro c ts ch k a w _ h; exact h.elim
  | succ n ih =>
    intro c ts ch k a w hL h hT hd hs
    cases c with
    | skip => exact wp_skip ⟨ts, ch, hT, hd, hs, h⟩
    | label l => exact wp_label ⟨ts, ch, hT, hd, hs, h⟩
    | region id ops dr =>
      cases dr with
      | false => exact wp_region_list (by
          have := ops_ok (P := P) (Q := Kh X k) hb ops.toList ts ch _ a w h hT hd hs (fun ts' ch' a' w' hk hT' hd' hs' => ⟨ts', ch', hT', hd', hs', hk⟩)
          simpa using this)
      | true =>
        simp only [exCode] at h
        split at h
        · rename_i hsel
          have main : ∀ kk : List SV → List Ch → Prop, exDraw P E.tb ops.toList (E.D id) (some (mask (E.D id) ch)) ops.toList.length (List.replicate ops.toList.length false) ts ch kk →
              (∀ ts' ch' a' w', kk ts' ch' → Ts ts' a' → a'.defers = [] → HS X ch' w' → Kh X k .normal a' w') → (Code.region id ops true).wp P (Kh X k) a w := fun kk h hq => by
            have := draw_ok (P := P) (Q := Kh X k) hb hsel (fun c a w hq => hq) ops.toList.length (List.replicate ops.toList.length false) ts ch _ a w.drew h hT hd
              (hs.keep ⟨rfl, rfl, rfl, Nat.le_refl _, fun _ _ => rfl⟩) (fun i c hc => mask_get hc) hq
            refine wp_region_any hm (wpAny_of_G (S := Sat (mask (E.D id) ch)) (N := waitsB ops.toList) _ _ _ _ ?_)
            have e : (Array.replicate ops.size false) = (List.replicate ops.toList.length false).toArray := by simp
            rw [e]
            simpa using this
          split at h
          · exact main _ h fun ts' ch' a' w' hk hT' hd' hs' => ⟨ts', ch', hT', hd', hs', hk⟩
          · obtain ⟨h1, h2⟩ := h
            rw [exDraw_out _ _ _ _ _ (Out.refl _ ts)] at h2
            rw [exOrd_out _ _ _ (Out.refl _ ts)] at h1
            refine main _ h2 fun ts' ch' a' w' ⟨⟨hnd, hq⟩, ho⟩ hT' hd' hs' => ⟨_, _, ?_, hd', (hs'.pickM _ (ndM_ok hnd)).ren _, hq (fun sl c => k .normal (putAll (dstsOf ops.toList) sl ts) c) h1⟩
            show a'.tmps = _
            rw [show a'.tmps = _ from hT', putAll_den (SV.ren_den _) ho]
        · exact h.elim
    | seq x y =>
      refine wp_seq (wp_mono (ih x ts ch _ a w hL.1 h hT hd hs) fun e a' w' hq => ?_)
      cases e with
      | normal =>
        obtain ⟨ts', ch', hT', hd', hs', hk⟩ := hq
        exact ih y ts' ch' k a' w' hL.2 hk hT' hd' hs'
      | exit id => exact hq
      | ret => exact hq
      | goto l => exact hq.elim
      | panic c => exact hq.elim
      | outgrown => exact hq.elim
    | cond c x y =>
      simp only [exCode] at h
      split at h
      · rename_i hc
        exact wp_cond (t := true) (by rw [ev_den hT, hc]; rfl) (ih x ts ch k a w hL.1 h hT hd hs)
      · rename_i hc
        exact wp_cond (t := false) (by rw [ev_den hT, hc]; rfl) (ih y ts ch k a w hL.2 h hT hd hs)
      · rename_i t hc
        refine wp_cond (t := t) (by rw [ev_den hT, hc]; rfl) ?_
        cases t with
        | true => exact ih x _ ch k a w hL.1 (h.1 rfl) (litC_ok hT hc) hd hs
        | false => exact ih y _ ch k a w hL.2 (h.2 rfl) (litC_ok hT hc) hd hs
      · exact h.elim
    | block id b =>
      refine wp_block (wp_mono (ih b ts ch _ a w hL h hT hd hs) fun e a' w' hq => ?_)
      cases e with
      | normal => exact hq
      | exit id' =>
        obtain ⟨ts', ch', hT', hd', hs', hk⟩ := hq
        simp only at hk
        split at hk
        · rename_i he
          have he' := Nat.eq_of_beq_eq_true he
          simp only [Exit.inBlock, he', if_true]
          exact ⟨ts', ch', hT', hd', hs', hk⟩
        · rename_i he
          have he' : ¬ id' = id := fun q => by rw [q, Nat.beq_refl] at he; cases he
          simp only [Exit.inBlock, he', if_false]
          exact ⟨ts', ch', hT', hd', hs', hk⟩
      | ret => exact hq
      | goto l => exact hq.elim
      | panic c => exact hq.elim
      | outgrown => exact hq.elim
    | exit id => exact wp_exit ⟨ts, ch, hT, hd, hs, h⟩
    | ret => exact wp_ret ⟨ts, ch, hT, hd, hs, h⟩
    | loop b =>
      simp only [exCode] at h
      split at h
      · rename_i S hl
        have h1 := hL.1
        rw [hl] at h1
        exact h1 ts ch k a w h hT hd hs
      · refine wp_loop_rounds (rnd E.R (firstReg b) n) ?_
        have hLb := hL.2
        clear hL
        have key : ∀ (m : Nat) (ts : List SV) (ch : List Ch) (a : Act) (w : World), rounds (exCode P E n b) m ts ch k → Ts ts a → a.defers = [] → HS X ch w → Code.rounds P b (Kh X k) m a w := by
          intro m
          induction m with
          | zero => intro ts ch a w h; exact h.elim
          | succ m ihm =>
            intro ts ch a w h hT hd hs
            rw [rounds_succ]
            refine wp_mono (ih b ts ch _ a w hLb h hT hd hs) fun e a' w' hq => ?_
            cases e with
            | normal =>
              obtain ⟨ts', ch', hT', hd', hs', hk⟩ := hq
              exact ihm ts' ch' a' w' hk hT' hd' hs'
            | exit id => exact hq
            | ret => exact hq
            | goto l => exact hq.elim
            | panic c => exact hq.elim
            | outgrown => exact hq.elim
        exact key _ ts ch a w h hT hd hs
    | rangeFunc f ps x y => exact h.elim
    | scope b => exact h.elim
    | goto l => exact h.elim
    | refuse s => exact h.elim

/-! whole functions -/
def exRes (P : Program) : List ResultVar → List SV → List Ch → (List SA → Prop) → Prop
  | [], _, _, k => k []
  | .tmp t :: r, ts, ch, k =>
    match ts.getD t .undef with
    | .a x => exRes P r ts ch fun xs => k (x :: xs)
    | _ => False
  | .cell t ty :: r, ts, ch, k => exLoad P ty (ts.getD t .undef) ch fun x => exRes P r ts ch fun xs => k (x :: xs)
def resV : List SA → SV
  | [x] => .a x
  | xs => .tup xs

def ResFn (a : Act) (g : ResultVar → Sem Value) : Prop := (∀ t, g (.tmp t) = pure (a.tmps.getD t Go.undef)) ∧ (∀ p t, g (.cell p t) = (do loadVar t (← asAddr (a.tmps.getD p Go.undef))))

theorem exRes_ok {P : Program} {ts : List SV} {ch : List Ch} {a : Act} (hT : Ts ts a) {w : World} (hw : Sat ch w) : ∀ (rs : List ResultVar) (k : List SA → Prop), exRes P rs ts ch k →
    ∃ xs, k xs ∧ ∀ g, ResFn a g → (rs.mapM g : Sem (List Value)).run P w = .ok (xs.map SA.den) w := by
  intro rs
  induction rs with
  | nil => intro k h; exact ⟨[], h, fun g _ => rfl⟩
  | cons r rs ih =>
    intro k h
    cases r with
    | tmp t =>
      simp only [exRes] at h
      split at h
      · rename_i x hx
        obtain ⟨xs, h, hr⟩ := ih _ h
        have e : a.tmps.getD t Go.undef = x.den := by
          have := ev_den hT (.tmp t)
          simp only [Act.eval, ev] at this
          rw [this, hx]
          rfl
        refine ⟨x :: xs, h, fun g hg => ?_⟩
        simp only [List.mapM_cons, hg.1, Sem.run_bind, Sem.run_pure, Result.andThen_ok, hr g hg, e, List.map_cons]
      · exact h.elim
    | cell t ty =>
      simp only [exRes] at h
      obtain ⟨x, h, hx⟩ := exLoad_ok h
      obtain ⟨xs, h, hr⟩ := ih _ h
      have e : a.tmps.getD t Go.undef = (ts.getD t .undef).den := ev_den hT (.tmp t)
      have hx' := hx w hw
      have h2 : (do loadVar ty (← asAddr (a.tmps.getD t Go.undef)) : Sem Value).run P w = .ok x.den w := by
        rw [e]
        generalize (ts.getD t .undef).den = v at hx'
        cases v with
        | pointer p =>
          cases p with
          | none => simp [Instr.loadAt, Instr.sureAddr] at hx'
          | some p => simpa [Instr.loadAt, Instr.sureAddr, asAddr] using hx'
        | _ => simp [Instr.loadAt, Instr.sureAddr] at hx'
      refine ⟨x :: xs, h, fun g hg => ?_⟩
      rw [List.mapM_cons, hg.2, Sem.run_bind, h2]
      simp only [Result.andThen_ok, Sem.run_bind, hr g hg, Sem.run_pure, List.map_cons]

/-- A whole function: from the table and the arguments to its result. -/
def exFn (P : Program) (E : Env) (n : Nat) (fn : Func) (ts : List SV) (ch : List Ch) (K : SV → List Ch → Prop) : Prop :=
  match fn.body with
  | some c => exCode P E n c (ts ++ List.replicate (fn.ntmps - ts.length) .undef) ch fun e ts' ch' => match e with
    | .normal => exRes P fn.results.toList ts' ch' fun xs => K (resV xs) ch'
    | .ret => exRes P fn.results.toList ts' ch' fun xs => K (resV xs) ch'
    | _ => False
  | none => False

theorem fn_ok {P : Program} (hm : P.follows .mixedOrders = true) {X : Cx} {E : Env} (hb : TbOK P E.tb) {n : Nat} {f : FuncId} {fn : Func} (hf : P.funcs[f]? = some fn) (hL : ∀ c, fn.body = some c → LoopsOK P X E.L c)
    {ts : List SV} {ch : List Ch} {K : SV → List Ch → Prop} (h : exFn P E n fn ts ch K) {w : World} (hs : HS X ch w) {R : Ending → World → Prop}
    (hR : ∀ v ch' w', K v ch' → HS X ch' w' → R (.returned v.den) w') : Calls P f (ts.map SV.den).toArray w R := by
  unfold exFn at h
  split at h
  · rename_i c hc
    refine calls_of_wp hf hc (wp_mono (code_ok hm hb n c _ ch _ _ w (hL c hc) h ?_ rfl hs) fun e a' w' hq => ?_)
    · show _ = ((ts ++ List.replicate (fn.ntmps - ts.length) SV.undef).map SV.den).toArray
      apply Array.ext'
      simp [SV.den]
    · have fin : ∀ {k : CK} {ts' ch'}, Ts ts' a' → HS X ch' w' → a'.defers = [] → exRes P fn.results.toList ts' ch' (fun xs => K (resV xs) ch') → a'.defers = [] ∧ ∃ v, (results fn a'.tmps).run P w' = .ok v w' ∧ R (.returned v) w' := by
        intro _ ts' ch' hT' hs' hd' hr
        obtain ⟨xs, hk, hg⟩ := exRes_ok hT' hs'.all _ _ hr
        refine ⟨hd', _, ?_, hR _ _ _ hk hs'⟩
        unfold results
        have e : fn.results = fn.results.toList.toArray := by simp
        rw [e, List.mapM_toArray, Sem.run_bind, Sem.run_map, hg _ ⟨fun _ => rfl, fun _ _ => rfl⟩]
        simp only [Result.andThen_ok, Sem.run_pure]
        congr 1
        cases xs with
        | nil => rfl
        | cons x xs =>
          cases xs with
          | nil => rfl
          | cons y ys => simp [resV, SV.den]
      cases e with
      | normal =>
        obtain ⟨ts', ch', hT', hd', hs', hk⟩ := hq
        exact fin (k := fun _ _ _ => True) hT' hs' hd' hk
      | ret =>
        obtain ⟨ts', ch', hT', hd', hs', hk⟩ := hq
        exact fin (k := fun _ _ _ => True) hT' hs' hd' hk
      | exit id => obtain ⟨ts', ch', _, _, _, hk⟩ := hq; exact hk.elim
      | goto l => exact hq.elim
      | panic c => exact hq.elim
      | outgrown => exact hq.elim
  · exact h.elim
end Go.Proofs.Ytmgjmglmjfjliab
