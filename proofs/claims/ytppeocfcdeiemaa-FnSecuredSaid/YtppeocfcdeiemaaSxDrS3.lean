/-
  Stores drawn.
-/
import Derived.Test.YtppeocfcdeiemaaSxDrS2
namespace Go.Proofs.Ytppeocfcdeiemaa
set_option linter.unusedVariables false
set_option linter.unusedSimpArgs false
open Go.RowKit
set_option maxRecDepth 100000
set_option maxHeartbeats 8000000

theorem sDrawSC_T (co : Option Addr) (cn cc : Nat) (cu : Nat → Int) : (exFn Try.prog {tb := [(27, sNew), (42, sCaseS)]} 400 Try.f19 ([.a (.c (.sl 0 co cn cc))]) ([.row ⟨false, co, 0, 1, cn, 0, [fun i => .u8 (cu i)]⟩]) (fun v ch => ∃ (key : Int) (s : SecX) (ro0 : Option Addr) (rc0 : Nat) (ro1 : Option Addr) (rc1 : Nat) (ro2 : Option Addr) (rc2 : Nat) (ro3 : Option Addr) (rc3 : Nat), OutR v ch (.agg #[.int .i64 (key), .int .i64 (s.t.root), .slice ro0 (2) rc0, .slice ro1 (8) rc1, .slice ro2 (8) rc2, .slice ro3 (8) rc3]) [.row ⟨true, ro0, 37, 2, 2, rc0, [fun i => .int (s.t.mc i), fun i => .int (s.t.mt i)]⟩, .row ⟨true, ro1, 37, 2, 8, rc1, [fun i => .int (s.t.lc i), fun i => .int (s.t.lt i)]⟩, .row ⟨true, ro2, 3, 1, 8, rc2, [fun i => .int (s.da i)]⟩, .row ⟨true, ro3, 3, 1, 8, rc3, [fun i => .int (s.ta i)]⟩] ∧ (GoodS key s ∧ leZ s.t.root 7))) = (
  (∀ b0 : Nat,
  (Exists (fun (u1 : (Nat →
  Int)) => (((co = co ∧
  (cn = cn ∧
  [(fun (i2 : Nat) => (SC.u8 (cu i2)))] = [(fun (i3 : Nat) => (SC.u8 (u1 i3)))])) ∧
  (codeC cn u1)) ∧
  (∀ b4 : Nat,
  (∀ z5 : Int,
  (Exists (fun (u6 : (Nat →
  Int)) => (((b4 = b4 ∧
  (63 = 63 ∧
  (co = co ∧
  (cn = cn ∧
  [(fun (i7 : Nat) => (SC.u8 (cu i7)))] = [(fun (i8 : Nat) => (SC.u8 (u6 i8)))])))) ∧
  ((codeC cn u6) ∧
  (pos0 (0 : Int)))) ∧
  (∀ key9 : Int,
  (∀ s10 : SecX,
  (∀ i111 : Int,
  (∀ z112 : Int,
  (∀ ro013 : (Option Addr),
  (∀ rc014 : Nat,
  (∀ ro115 : (Option Addr),
  (∀ rc116 : Nat,
  (∀ ro217 : (Option Addr),
  (∀ rc218 : Nat,
  (∀ ro319 : (Option Addr),
  (∀ rc320 : Nat,
  (((GoodS key9 s10) ∧
  (leZ ((s10).1).1 (7 : Int))) →
  ((pos0 i111) →
   (b0 = b0 ∧
    (b0 = b0 ∧
    (Exists (fun (key21 : Int) => (Exists (fun (s22 : SecX) => (Exists (fun (ro023 : (Option Addr)) => (Exists (fun (rc024 : Nat) => (Exists (fun (ro125 : (Option Addr)) => (Exists (fun (rc126 : Nat) => (Exists (fun (ro227 : (Option Addr)) => (Exists (fun (rc228 : Nat) => (Exists (fun (ro329 : (Option Addr)) => (Exists (fun (rc330 : Nat) => (((Value.agg (List.toArray [(Value.int IntKind.i64 key9), (Value.int IntKind.i64 ((s10).1).1), (Value.slice ro013 2 rc014), (Value.slice ro115 8 rc116), (Value.slice ro217 8 rc218), (Value.slice ro319 8 rc320)])) = (Value.agg (List.toArray [(Value.int IntKind.i64 key21), (Value.int IntKind.i64 ((s22).1).1), (Value.slice ro023 2 rc024), (Value.slice ro125 8 rc126), (Value.slice ro227 8 rc228), (Value.slice ro329 8 rc330)])) ∧
    (((Bool.true = Bool.true ∧
    (ro013 = ro023 ∧
    (37 = 37 ∧
    (2 = 2 ∧
    (2 = 2 ∧
    (rc014 = rc024 ∧
    ((∀ i31 : Nat,
    (i31 < 2 →
    (Value.int IntKind.i64 (((s10).1).2 i31)) = (Value.int IntKind.i64 (((s22).1).2 i31)))) ∧
    ((∀ i32 : Nat,
    (i32 < 2 →
    (Value.int IntKind.i64 (((s10).1).3 i32)) = (Value.int IntKind.i64 (((s22).1).3 i32)))) ∧
    True)))))))) ∧
    ((Bool.true = Bool.true ∧
    (ro115 = ro125 ∧
    (37 = 37 ∧
    (2 = 2 ∧
    (8 = 8 ∧
    (rc116 = rc126 ∧
    ((∀ i33 : Nat,
    (i33 < 8 →
    (Value.int IntKind.i64 (((s10).1).4 i33)) = (Value.int IntKind.i64 (((s22).1).4 i33)))) ∧
    ((∀ i34 : Nat,
    (i34 < 8 →
    (Value.int IntKind.i64 (((s10).1).5 i34)) = (Value.int IntKind.i64 (((s22).1).5 i34)))) ∧
    True)))))))) ∧
    ((Bool.true = Bool.true ∧
    (ro217 = ro227 ∧
    (3 = 3 ∧
    (1 = 1 ∧
    (8 = 8 ∧
    (rc218 = rc228 ∧
    ((∀ i35 : Nat,
    (i35 < 8 →
    (Value.int IntKind.i64 ((s10).3 i35)) = (Value.int IntKind.i64 ((s22).3 i35)))) ∧
    True))))))) ∧
    ((Bool.true = Bool.true ∧
    (ro319 = ro329 ∧
    (3 = 3 ∧
    (1 = 1 ∧
    (8 = 8 ∧
    (rc320 = rc330 ∧
    ((∀ i36 : Nat,
    (i36 < 8 →
    (Value.int IntKind.i64 ((s10).4 i36)) = (Value.int IntKind.i64 ((s22).4 i36)))) ∧
    True))))))) ∧
    True)))) ∧
    Bool.true = Bool.true)) ∧
    ((GoodS key21 s22) ∧
    (leZ ((s22).1).1 (7 : Int)))))))))))))))))))))))))))))))))))))))))))))))))) := by kernel_rfl
theorem sDrawSC_any (co : Option Addr) (cn cc : Nat) (cu : Nat → Int) (w : World) (hr : Row.sat w ⟨false, co, 0, 1, cn, 0, [fun i => .u8 (cu i)]⟩) (hcode : codeC cn cu) : Calls Try.prog 19 #[.slice co cn cc] w fun e w' => ∃ (key : Int) (s : SecX) (ro0 : Option Addr) (rc0 : Nat) (ro1 : Option Addr) (rc1 : Nat) (ro2 : Option Addr) (rc2 : Nat) (ro3 : Option Addr) (rc3 : Nat), ((GoodS key s ∧ leZ s.t.root 7)) ∧ e = .returned (.agg #[.int .i64 (key), .int .i64 (s.t.root), .slice ro0 (2) rc0, .slice ro1 (8) rc1, .slice ro2 (8) rc2, .slice ro3 (8) rc3]) ∧ HS ⟨w, fun _ => False⟩ [.row ⟨true, ro0, 37, 2, 2, rc0, [fun i => .int (s.t.mc i), fun i => .int (s.t.mt i)]⟩, .row ⟨true, ro1, 37, 2, 8, rc1, [fun i => .int (s.t.lc i), fun i => .int (s.t.lt i)]⟩, .row ⟨true, ro2, 3, 1, 8, rc2, [fun i => .int (s.da i)]⟩, .row ⟨true, ro3, 3, 1, 8, rc3, [fun i => .int (s.ta i)]⟩] w' := by
  refine fn_ok mixed (E := {tb := [(27, sNew), (42, sCaseS)]}) ⟨sNew_ok, sCaseS_ok, trivial⟩ Try.func19 (fun _ _ => loopsOK_nil _ _ _) (@Eq.mpr _ _ (sDrawSC_T co cn cc cu) ?_) (HS.rows (fun _ => False) [⟨false, co, 0, 1, cn, 0, [fun i => .u8 (cu i)]⟩] (by simpa using hr)) (fun v ch' w' ⟨key, s, ro0, rc0, ro1, rc1, ro2, rc2, ro3, rc3, hk, hf⟩ hs => ⟨key, s, ro0, rc0, ro1, rc1, ro2, rc2, ro3, rc3, hf, by rw [hk.1], hk.hs hs⟩)
  clear hr
  have hcn : cn ≤ 1048576 := hcode.1
  repeat' (first
    | with_reducible exact rfl
    | exact True.intro
    | with_reducible assumption
    | exact isW_small (by with_reducible assumption)
    | exact isW_small ⟨by with_reducible assumption, by with_reducible assumption⟩
    | refine And.intro ?_ ?_
    | apply Exists.intro
    | (intro i hi; with_reducible exact rfl)
    | (intro (h : _ ∧ _); obtain ⟨_, _⟩ := h)
    | intro _
    | omega)
def sDrawS : Sm := fun args ch k =>
  match args with
  | [.a (.c (.sl j ao n cap))] =>
    match ch[j]? with
    | some (.row r) => ∃ u : Nat → Int, ((ao = r.ao ∧ n = r.n ∧ r.fld = [fun i => .u8 (u i)]) ∧ codeC n u) ∧ ∀ (key : Int), ∀ (s : SecX), ∀ (ro0 : Option Addr) (rc0 : Nat), ∀ (ro1 : Option Addr) (rc1 : Nat), ∀ (ro2 : Option Addr) (rc2 : Nat), ∀ (ro3 : Option Addr) (rc3 : Nat), (GoodS key s ∧ leZ s.t.root 7) → k (.a (.agg [.int (key), .int (s.t.root), .sl (ch.length) ro0 (2) rc0, .sl (ch.length + 1) ro1 (8) rc1, .sl (ch.length + 2) ro2 (8) rc2, .sl (ch.length + 3) ro3 (8) rc3])) (ch ++ [.row ⟨true, ro0, 37, 2, 2, rc0, [fun i => .int (s.t.mc i), fun i => .int (s.t.mt i)]⟩, .row ⟨true, ro1, 37, 2, 8, rc1, [fun i => .int (s.t.lc i), fun i => .int (s.t.lt i)]⟩, .row ⟨true, ro2, 3, 1, 8, rc2, [fun i => .int (s.da i)]⟩, .row ⟨true, ro3, 3, 1, 8, rc3, [fun i => .int (s.ta i)]⟩]) []
    | _ => False
  | _ => False
theorem sDrawS_ok : SmOK Try.prog 19 sDrawS := by
  refine smN Try.call19 fun args ch k w X h0 hs => ?_
  unfold sDrawS at h0
  split at h0
  · rename_i j ao n cap
    split at h0
    · rename_i r hj
      obtain ⟨u, ⟨⟨rfl, rfl, hf⟩, hcode⟩, h0⟩ := h0
      simp only [List.map_cons, List.map_nil, den_a, den_c, SA.den, den_sl]
      exact Calls.mono (sDrawSC_any r.ao r.n cap u  w (seenAs' (hs.sat j _ hj) hf rfl) hcode) fun e w' ⟨key, s, ro0, rc0, ro1, rc1, ro2, rc2, ro3, rc3, hfa, he, hs'⟩ => ⟨.a (.agg [.int (key), .int (s.t.root), .sl (ch.length) ro0 (2) rc0, .sl (ch.length + 1) ro1 (8) rc1, .sl (ch.length + 2) ro2 (8) rc2, .sl (ch.length + 3) ro3 (8) rc3]), [.row ⟨true, ro0, 37, 2, 2, rc0, [fun i => .int (s.t.mc i), fun i => .int (s.t.mt i)]⟩, .row ⟨true, ro1, 37, 2, 8, rc1, [fun i => .int (s.t.lc i), fun i => .int (s.t.lt i)]⟩, .row ⟨true, ro2, 3, 1, 8, rc2, [fun i => .int (s.da i)]⟩, .row ⟨true, ro3, 3, 1, 8, rc3, [fun i => .int (s.ta i)]⟩], he, hs', rfl, h0 key s ro0 rc0 ro1 rc1 ro2 rc2 ro3 rc3 hfa⟩
    · exact h0.elim
  · exact h0.elim
end Go.Proofs.Ytppeocfcdeiemaa
