/-
  A walk by symbols, part 5: the calm operations together.
-/
import Derived.Test.YtmgjmglmjfjliabSx4
import Derived.Laws.Small
namespace Go.Proofs.Ytmgjmglmjfjliab
set_option linter.unusedVariables false
set_option linter.unusedSimpArgs false
open Go.RowKit

def exLen (P : Program) (t : TypeId) (x : SV) (k : SC → Prop) : Prop :=
  match elemOf' P t with
  | some _ =>
    match x with
    | .a (.c (.sl _ _ n _)) => k (.int (n : Int))
    | .a (.c (.slc _ _ n _)) => k (.il (n : Int))
    | .a (.c .nil) => k (.il 0)
    | _ => False
  | none => False
theorem exLen_ok {P : Program} {t : TypeId} {x : SV} {k : SC → Prop} (h : exLen P t x k) : ∃ v, k v ∧ ∀ (ty : TypeId) (w : World), (Builtin.len_ #[t] ty #[x.den]).run P w = .ok v.den w := by
  unfold exLen at h
  split at h
  · rename_i e he
    have hu := elemOf_ok he
    split at h
    · exact ⟨_, h, fun ty w => by simp [Builtin.len_, run_underlying hu, SV.den, SA.den, SC.den, goInt]⟩
    · exact ⟨_, h, fun ty w => by simp [Builtin.len_, run_underlying hu, SV.den, SA.den, SC.den, goInt]⟩
    · exact ⟨_, h, fun ty w => by simp [Builtin.len_, run_underlying hu, SV.den, SA.den, SC.den, goInt]⟩
    · exact h.elim
  · exact h.elim

def exPick (c a b : SV) (k : SV → Prop) : Prop :=
  match c with
  | .a (.c (.lit true)) => k a
  | .a (.c (.lit false)) => k b
  | .a (.c (.bool t)) => (t = true → k a) ∧ (t = false → k b)
  | _ => False
theorem exPick_ok {c a b : SV} {k : SV → Prop} (h : exPick c a b k) : ∃ t v, k v ∧ c.den = .bool t ∧ v.den = if t then a.den else b.den := by
  unfold exPick at h
  split at h
  · exact ⟨true, _, h, rfl, rfl⟩
  · exact ⟨false, _, h, rfl, rfl⟩
  · rename_i t
    cases ht : t with
    | true => exact ⟨true, _, h.1 ht, rfl, rfl⟩
    | false => exact ⟨false, _, h.2 ht, rfl, rfl⟩
  · exact h.elim

abbrev minI (a b : Int) : Int := if b < a then b else a
theorem toList_two {α : Type} {a : Array α} {x y : α} (h : a.toList = [x, y]) : a = #[x, y] := by
  rw [← h]
def exCalm (P : Program) (o : Op) (ts : List SV) (ch : List Ch) (k : SV → Prop) : Prop :=
  match o with
  | .move x => k (ev ts x)
  | .assign x => k (ev ts x)
  | .pick c a b => exPick (ev ts c) (ev ts a) (ev ts b) k
  | .load t a => exLoad P t (ev ts a) ch fun v => k (.a v)
  | .fieldAddr s x f => exFieldAddr P s (ev ts x) f ch fun v => k (.a (.c v))
  | .field t x f => exField P t (ev ts x) f fun v => k (.a v)
  | .indexAddr t x i => exIndexAddr P t (ev ts x) (ev ts i) ch fun v => k (.a (.c v))
  | .binOp op t x y _ =>
    match ev ts x, ev ts y with
    | .a (.c a), .a (.c b) => exBin P op t a b fun v => k (.a (.c v))
    | .a (.agg xs), .a (.agg ys) => exEqS P op t xs ys fun v => k (.a (.c v))
    | _, _ => False
  | .unOp op _ x =>
    match ev ts x with
    | .a (.c a) => exUn op a fun v => k (.a (.c v))
    | _ => False
  | .convert s d x =>
    match ev ts x with
    | .a (.c a) => exConv P s d a fun v => k (.a (.c v))
    | _ => False
  | .nilCheck x =>
    match ev ts x with
    | .a (.c (.ptr id b off)) => k (.a (.c (.ptr id b off)))
    | .a (.c (.rptr id ao s i c)) =>
      match ch[id]? with
      | some (.row r) => (ao = r.ao ∧ ltN i r.n) ∧ k (.a (.c (.rptr id ao s i c)))
      | _ => False
    | _ => False
  | .build t ps => exBuild' P t ts ps.toList fun v => k (.a v)
  | .extract x i =>
    match ev ts x with
    | .tup vs =>
      match vs[i]? with
      | some v => k (.a v)
      | none => False
    | _ => False
  | .call c =>
    match c.callee, c.args.toList, c.argTypes.toList with
    | .builtin .len, [x], [t] => exLen P t (ev ts x) fun v => k (.a (.c v))
    | .builtin .min, [x, y], [_, _] =>
      match ev ts x, ev ts y with
      | .a (.c a), .a (.c b) =>
        match asI a, asI b with
        | some m, some n => k (.a (.c (.int (minI m n))))
        | _, _ => False
      | _, _ => False
    | _, _, _ => False
  | _ => False

theorem den_a (v : SA) : (SV.a v).den = v.den := rfl
theorem den_c (x : SC) : (SA.c x).den = x.den := rfl
theorem toList_one {α : Type} {a : Array α} {x : α} (h : a.toList = [x]) : a = #[x] := by
  rw [← h]

def isLoad : Op → Bool
  | .load _ _ => true
  | _ => false
theorem calm_all {P : Program} {o : Oper} {ts : List SV} {ch : List Ch} {k : SV → Prop} (h : exCalm P o.op ts ch k) :
    ∃ v, k v ∧ ∀ a : Act, Ts ts a → ∀ w0, Sat ch w0 → ∀ w, (isLoad o.op = true → w = w0) → (execOp a.eval o).run P w = .ok (.value v.den) w := by
  unfold exCalm at h
  split at h
  · rename_i x hop
    exact ⟨_, h, fun a hT _ _ w _ => by simp only [execOp, hop, Sem.run_pure, ev_den hT]⟩
  · rename_i x hop
    exact ⟨_, h, fun a hT _ _ w _ => by simp only [execOp, hop, Sem.run_pure, ev_den hT]⟩
  · rename_i c a b hop
    obtain ⟨t, v, h, h1, h2⟩ := exPick_ok h
    refine ⟨v, h, fun a hT _ _ w _ => ?_⟩
    simp only [execOp, hop, ev_den hT, h1, asBool, Sem.run_bind, Sem.run_pure, Result.andThen_ok, h2]
  · rename_i t x hop
    obtain ⟨v, h, hv⟩ := exLoad_ok h
    exact ⟨_, h, fun a hT w0 hw w hl => by
      obtain rfl := hl (by rw [hop]; rfl)
      simp only [execOp, hop, ev_den hT, Sem.run_bind, hv w hw, Result.andThen_ok, Sem.run_pure, den_a]⟩
  · rename_i s x f hop
    obtain ⟨v, h, hv⟩ := exFieldAddr_ok h
    exact ⟨_, h, fun a hT w0 hw w hl => by simp only [execOp, hop, ev_den hT, Sem.run_bind, hv w0 hw w, Result.andThen_ok, Sem.run_pure, den_a, den_c]⟩
  · rename_i t x f hop
    obtain ⟨v, h, hv⟩ := exField_ok h
    exact ⟨_, h, fun a hT w0 hw w hl => by simp only [execOp, hop, ev_den hT, Sem.run_bind, hv w, Result.andThen_ok, Sem.run_pure, den_a]⟩
  · rename_i t x i hop
    obtain ⟨v, h, hv⟩ := exIndexAddr_ok h
    exact ⟨_, h, fun a hT w0 hw w hl => by simp only [execOp, hop, ev_den hT, Sem.run_bind, hv w0 hw w, Result.andThen_ok, Sem.run_pure, den_a, den_c]⟩
  · rename_i op t x y ty hop
    split at h
    · rename_i p q hp hq
      obtain ⟨v, h, hv⟩ := exBin_ok h
      refine ⟨_, h, fun a hT w0 hw w hl => ?_⟩
      have h1 := hv w x y
      have e1 : a.eval x = p.den := by rw [ev_den hT, hp]; rfl
      have e2 : a.eval y = q.den := by rw [ev_den hT, hq]; rfl
      simp only [execOp, hop, e1, e2]
      rw [Sem.run_bind, h1]
      rfl
    · rename_i xs ys hp hq
      obtain ⟨v, h, hv⟩ := exEqS_ok h
      refine ⟨_, h, fun a hT w0 hw w hl => ?_⟩
      have h1 := hv w x y
      have e1 : a.eval x = (SA.agg xs).den := by rw [ev_den hT, hp]; rfl
      have e2 : a.eval y = (SA.agg ys).den := by rw [ev_den hT, hq]; rfl
      simp only [execOp, hop, e1, e2]
      rw [Sem.run_bind, h1]
      rfl
    · exact h.elim
  · rename_i op t x hop
    split at h
    · rename_i p hp
      obtain ⟨v, h, hv⟩ := exUn_ok h
      refine ⟨_, h, fun a hT w0 hw w hl => ?_⟩
      have e1 : a.eval x = p.den := by rw [ev_den hT, hp]; rfl
      simp only [execOp, hop, e1, Sem.run_bind, hv P w, Result.andThen_ok, Sem.run_pure, den_a, den_c]
    · exact h.elim
  · rename_i s d x hop
    split at h
    · rename_i p hp
      obtain ⟨v, h, hv⟩ := exConv_ok h
      refine ⟨_, h, fun a hT w0 hw w hl => ?_⟩
      have e1 : a.eval x = p.den := by rw [ev_den hT, hp]; rfl
      simp only [execOp, hop, e1, Sem.run_bind, hv w, Result.andThen_ok, Sem.run_pure, den_a, den_c]
    · exact h.elim
  · rename_i x hop
    split at h
    · rename_i id b off hp
      refine ⟨_, h, fun a hT w0 hw w hl => ?_⟩
      have e1 : a.eval x = .pointer (some ⟨b, off, none⟩) := by rw [ev_den hT, hp]; rfl
      simp only [execOp, hop, e1, Sem.run_pure]
      rfl
    · rename_i id ao s i c hp
      split at h
      · rename_i r hid
        obtain ⟨⟨rfl, hi⟩, h⟩ := h
        refine ⟨_, h, fun a hT w0 hw w hl => ?_⟩
        obtain ⟨b, off, hao, _⟩ := Row.read (show r.sat w0 from hw id _ hid) hi
        have e1 : a.eval x = .pointer (some ⟨b, off + (i * s + c), none⟩) := by rw [ev_den hT, hp]; simp only [SV.den, SA.den, SC.den, rptr_some hao]
        have e2 : (SV.a (.c (.rptr id r.ao s i c))).den = .pointer (some ⟨b, off + (i * s + c), none⟩) := by simp only [SV.den, SA.den, SC.den, rptr_some hao]
        simp only [execOp, hop, e1, Sem.run_pure, e2]
      · exact h.elim
    · exact h.elim
  · rename_i t ps hop
    obtain ⟨v, h, hv⟩ := exBuild_ok h
    refine ⟨_, h, fun a hT w0 hw w hl => ?_⟩
    simp only [execOp, hop, Sem.run_bind, hv a hT w, Result.andThen_ok, Sem.run_pure, den_a]
  · rename_i x i hop
    split at h
    · rename_i vs hp
      split at h
      · rename_i v hv
        refine ⟨_, h, fun a hT w0 hw w hl => ?_⟩
        have e1 : a.eval x = .tuple (vs.map SA.den).toArray := by rw [ev_den hT, hp]; rfl
        simp [execOp, hop, e1, Instr.extract, hv, den_a]
      · exact h.elim
    · exact h.elim
  · rename_i c hop
    split at h
    · rename_i x t hc hargs htys
      obtain ⟨v, h, hv⟩ := exLen_ok h
      refine ⟨_, h, fun a hT w0 hw w hl => ?_⟩
      obtain ⟨cal, args, tys⟩ := c
      simp only at hc hargs htys
      subst hc
      rw [toList_one hargs, toList_one htys] at hop
      simp [execOp, hop, resolve, invoke, builtin, ev_den hT, hv, den_a, den_c]
    · rename_i x y t1 t2 hc hargs htys
      split at h
      · rename_i p q hp hq
        split at h
        · rename_i m n hm hn
          refine ⟨_, h, fun a hT w0 hw w hl => ?_⟩
          obtain ⟨cal, args, tys⟩ := c
          simp only at hc hargs htys
          subst hc
          have e1 : a.eval x = .int .i64 m := by rw [ev_den hT, hp]; exact asI_den hm
          have e2 : a.eval y = .int .i64 n := by rw [ev_den hT, hq]; exact asI_den hn
          rw [toList_two hargs, toList_two htys] at hop
          simp [execOp, hop, resolve, invoke, builtin, e1, e2, run_min_int2, den_a, den_c, SA.den, SC.den]
        · exact h.elim
      · exact h.elim
    · exact h.elim
  · exact h.elim
theorem calm_ok {P : Program} {o : Oper} {ts : List SV} {ch : List Ch} {k : SV → Prop} (h : exCalm P o.op ts ch k) :
    ∃ v, k v ∧ ∀ a : Act, Ts ts a → ∀ w, Sat ch w → (execOp a.eval o).run P w = .ok (.value v.den) w := by
  obtain ⟨v, h, hv⟩ := calm_all h
  exact ⟨v, h, fun a hT w hw => hv a hT w hw w fun _ => rfl⟩
theorem calm_pure {P : Program} {o : Oper} {ts : List SV} {ch : List Ch} {k : SV → Prop} (h : exCalm P o.op ts ch k) (hl : isLoad o.op = false) :
    ∃ v, k v ∧ ∀ a : Act, Ts ts a → ∀ w0, Sat ch w0 → ∀ w, (execOp a.eval o).run P w = .ok (.value v.den) w := by
  obtain ⟨v, h, hv⟩ := calm_all h
  exact ⟨v, h, fun a hT w0 hw w => hv a hT w0 hw w fun q => by rw [hl] at q; cases q⟩
end Go.Proofs.Ytmgjmglmjfjliab
