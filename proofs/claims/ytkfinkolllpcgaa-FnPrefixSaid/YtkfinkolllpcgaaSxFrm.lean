/-
  Commands packed, framed.
-/
import Derived.Test.YtkfinkolllpcgaaSxPar
namespace Go.Proofs.Ytkfinkolllpcgaa
set_option linter.unusedVariables false
set_option linter.unusedSimpArgs false
open Go.RowKit
set_option maxRecDepth 100000
set_option maxHeartbeats 8000000

def formB (k b r c : Int) : Bool := btw k 1 9 && (if btw k 1 5 = true then btw b 0 7 else b == 0) && (if (k == 1) = true then btw r 0 15 else r == 0) && (if (k == 2 || k == 3) = true then btw c 0 7 else c == 0)
def packV (k b r c : Int) : Int := if formB k b r c = true then k + 16 * b + 128 * r + 2048 * c else -1
def frameV (k b r c : Int) : Int := if formB k b r c = true then packV k b r c + 16384 * parV (packV k b r c) else -1
def rdB (w : Int) : Bool := btw w 0 32767 && (frameV (w % 16) (w / 16 % 8) (w / 128 % 16) (w / 2048 % 8) == w)
def rdK (w : Int) : Int := if rdB w = true then w % 16 else 0
def rdBk (w : Int) : Int := if rdB w = true then w / 16 % 8 else 0
def rdR (w : Int) : Int := if rdB w = true then w / 128 % 16 else 0
def rdCo (w : Int) : Int := if rdB w = true then w / 2048 % 8 else 0
abbrev rdC (w : Int) : Prop := 0 ≤ w ∧ w ≤ 32767
theorem par01 (x : Int) : 0 ≤ parV x ∧ parV x ≤ 1 := by unfold parV; omega
theorem form_facts {k b r c : Int} (h : formB k b r c = true) : (1 ≤ k ∧ k ≤ 9) ∧ (0 ≤ b ∧ b ≤ 7) ∧ (0 ≤ r ∧ r ≤ 15) ∧ (0 ≤ c ∧ c ≤ 7) := by
  simp only [formB, Bool.and_eq_true] at h
  obtain ⟨⟨⟨h1, h2⟩, h3⟩, h4⟩ := h
  refine ⟨btw_facts' h1, ?_, ?_, ?_⟩
  · split at h2
    · exact btw_facts' h2
    · have := eq_of_beq h2; omega
  · split at h3
    · exact btw_facts' h3
    · have := eq_of_beq h3; omega
  · split at h4
    · exact btw_facts' h4
    · have := eq_of_beq h4; omega
theorem pack_facts {k b r c : Int} (h : formB k b r c = true) : packV k b r c = k + 16 * b + 128 * r + 2048 * c ∧ 1 ≤ packV k b r c ∧ packV k b r c ≤ 16383 := by
  have := form_facts h
  have e : packV k b r c = k + 16 * b + 128 * r + 2048 * c := by simp [packV, h]
  omega
theorem frame_facts {k b r c : Int} (h : formB k b r c = true) : frameV k b r c = packV k b r c + 16384 * parV (packV k b r c) ∧ 1 ≤ frameV k b r c ∧ frameV k b r c ≤ 32767 := by
  have := pack_facts h
  have := par01 (packV k b r c)
  have e : frameV k b r c = packV k b r c + 16384 * parV (packV k b r c) := by simp [frameV, h]
  omega
theorem frame_no {k b r c : Int} (h : formB k b r c = false) : frameV k b r c = -1 ∧ packV k b r c = -1 := by simp [frameV, packV, h]
def fieldV (n : Int) (u : Bool) (l : Int) : Bool := if u = true then btw n 0 (isub l 1) else n == 0
def colU (k : Int) : Bool := k == 2 || k == 3
abbrev fldC (l : Int) : Prop := 1 ≤ l ∧ l ≤ 100
def sUB : Sm := inlM Try.prog {tb := [(50, sBtw)]} 300 Try.f81
theorem sUB_ok : SmOK Try.prog 81 sUB := inlM_ok mixed (E := {tb := [(50, sBtw)]}) ⟨sBtwI_ok, trivial⟩ Try.func81 Try.call81 (fun _ _ _ => loopsOK_nil _ _ _)
def sUR : Sm := inlM Try.prog {tb := []} 300 Try.f82
theorem sUR_ok : SmOK Try.prog 82 sUR := inlM_ok mixed (E := {tb := []}) trivial Try.func82 Try.call82 (fun _ _ _ => loopsOK_nil _ _ _)
theorem usesCol_T (k : Int) : (exFn Try.prog {tb := []} 400 Try.f83 ([.a (.c (.int k))]) ([]) (fun v _ => v.den = .bool (colU k))) = (
  (((k == (2 : Int)) = Bool.false →
  (Value.bool (k == (3 : Int))) = (Value.bool (colU k))) ∧
  ((k == (2 : Int)) = Bool.true →
  (Value.bool Bool.true) = (Value.bool (colU k))))) := by kernel_rfl
theorem usesCol_any (k : Int) (w : World) : Calls Try.prog 83 #[.int .i64 k] w fun e w' => e = .returned (.bool (colU k)) ∧ Below w.heap.size w w' := by
  refine fnB (tb := []) trivial Try.func83 (@Eq.mpr _ _ (usesCol_T k) ?_) (HS.start w (fun _ => False)) (fun v ch' w' hk hs => ⟨by rw [hk], hs.below⟩)
  repeat' (first
    | with_reducible exact rfl
    | exact True.intro
    | with_reducible assumption
    | refine And.intro ?_ ?_
    | apply Exists.intro
    | intro _)
  all_goals (simp_all [colU]; done)
def sUC : Sm := fun args ch kk =>
  match args with
  | [.a (.c c0)] =>
    match ints [c0] with
    | some [k] => kk (.a (.c (.bool (colU k)))) ch []
    | _ => False
  | _ => False
theorem sUC_ok {f : FuncId} (hc : ∀ args w, (callFunc f args).run Try.prog w = .ok (.enter f args) w) (h : ∀ (k : Int) (w : World), Calls Try.prog f #[.int .i64 k] w fun e w' => e = .returned (.bool (colU k)) ∧ Below w.heap.size w w') : SmOK Try.prog f sUC := by
  refine smB hc fun args ch kk w X h0 hs => ?_
  unfold sUC at h0
  split at h0
  · rename_i c0
    split at h0
    · rename_i k hi
      obtain ⟨ec0, hi⟩ := ints_cons hi
      refine ⟨_, h0, ?_⟩
      simp only [List.map_cons, List.map_nil, den_a, den_c, SA.den, den_sl, ec0]
      exact h k w
    · exact h0.elim
  · exact h0.elim
theorem sUC_ok_usesCol : SmOK Try.prog 83 sUC := sUC_ok Try.call83 (fun k w => usesCol_any k w)
theorem fieldOk_T (n : Int) (u : Bool) (l : Int) : (exFn Try.prog {tb := [(50, sBtw)]} 400 Try.f80 ([.a (.c (.int n)), .a (.c (.bool u)), .a (.c (.int l))]) ([]) (fun v _ => v.den = .bool (fieldV n u l))) = (
  (((!u) = Bool.true →
  (Value.bool (n == (0 : Int))) = (Value.bool (fieldV n u l))) ∧
  ((!u) = Bool.false →
  ((rng (l - (1 : Int))) ∧
   (Value.bool (btw n (0 : Int) (l - (1 : Int)))) = (Value.bool (fieldV n u l)))))) := by kernel_rfl
theorem fieldOk_any (n : Int) (u : Bool) (l : Int) (w : World) (hpre : fldC l) : Calls Try.prog 80 #[.int .i64 n, .bool u, .int .i64 l] w fun e w' => e = .returned (.bool (fieldV n u l)) ∧ Below w.heap.size w w' := by
  refine fnB (tb := [(50, sBtw)]) ⟨sBtwI_ok, trivial⟩ Try.func80 (@Eq.mpr _ _ (fieldOk_T n u l) ?_) (HS.start w (fun _ => False)) (fun v ch' w' hk hs => ⟨by rw [hk], hs.below⟩)
  repeat' (first
    | with_reducible exact rfl
    | exact True.intro
    | with_reducible assumption
    | refine And.intro ?_ ?_
    | apply Exists.intro
    | intro _)
  all_goals (first | omega | (simp_all [fieldV]; done))
def sFO : Sm := fun args ch kk =>
  match args with
  | [.a (.c c0), .a (.c c1), .a (.c c2)] =>
    match ints [c0, c2], bools [c1] with
    | some [n, l], some [u] => (fldC l) ∧ kk (.a (.c (.bool (fieldV n u l)))) ch []
    | _, _ => False
  | _ => False
theorem sFO_ok {f : FuncId} (hc : ∀ args w, (callFunc f args).run Try.prog w = .ok (.enter f args) w) (h : ∀ (n : Int) (u : Bool) (l : Int) (w : World), fldC l → Calls Try.prog f #[.int .i64 n, .bool u, .int .i64 l] w fun e w' => e = .returned (.bool (fieldV n u l)) ∧ Below w.heap.size w w') : SmOK Try.prog f sFO := by
  refine smB hc fun args ch kk w X h0 hs => ?_
  unfold sFO at h0
  split at h0
  · rename_i c0 c1 c2
    split at h0
    · rename_i n l u hi hb
      obtain ⟨hpre, h0⟩ := h0
      obtain ⟨ec0, hi⟩ := ints_cons hi
      obtain ⟨ec2, hi⟩ := ints_cons hi
      obtain ⟨ec1, hb⟩ := bools_cons hb
      refine ⟨_, h0, ?_⟩
      simp only [List.map_cons, List.map_nil, den_a, den_c, SA.den, den_sl, ec0, ec2, ec1]
      exact h n u l w hpre
    · exact h0.elim
  · exact h0.elim
theorem sFO_ok_fieldOk : SmOK Try.prog 80 sFO := sFO_ok Try.call80 (fun n u l w hp => fieldOk_any n u l w hp)
theorem wellFormed_T (cKind : Int) (cBank : Int) (cRow : Int) (cCol : Int) (p : Int) (q : Int) (s : Int) : (exFn Try.prog {tb := [(50, sBtw), (81, sUB), (82, sUR), (83, sUC), (80, sFO)]} 400 Try.f76 ([.a (.agg [.int cKind, .int cBank, .int cRow, .int cCol]), .a (.c (.int p)), .a (.c (.int q)), .a (.c (.int s))]) ([]) (fun v _ => v.den = .bool (formB cKind cBank cRow cCol))) = (
  (∀ b0 : Nat,
  (b0 = b0 ∧
  (True ∧
  (((btw cKind (1 : Int) (9 : Int)) = Bool.true →
  (b0 = b0 ∧
   (b0 = b0 ∧
   ([(Ch.cells b0 41 [(SC.int cKind), (SC.int cBank), (SC.int cRow), (SC.int cCol)])] = [(Ch.cells b0 41 [(SC.int cKind), (SC.int cBank), (SC.int cRow), (SC.int cCol)])] ∧
   ((fldC p) ∧
   (True ∧
   (((fieldV cBank (btw cKind (1 : Int) (5 : Int)) p) = Bool.true →
   (b0 = b0 ∧
    (b0 = b0 ∧
    ([(Ch.cells b0 41 [(SC.int cKind), (SC.int cBank), (SC.int cRow), (SC.int cCol)])] = [(Ch.cells b0 41 [(SC.int cKind), (SC.int cBank), (SC.int cRow), (SC.int cCol)])] ∧
    ((fldC q) ∧
    (True ∧
    (((fieldV cRow (cKind == (1 : Int)) q) = Bool.true →
    (b0 = b0 ∧
     (b0 = b0 ∧
     (True ∧
     ((fldC s) ∧
     (True ∧
     (Value.bool (fieldV cCol (colU cKind) s)) = (Value.bool (formB cKind cBank cRow cCol)))))))) ∧
    ((fieldV cRow (cKind == (1 : Int)) q) = Bool.false →
    (Value.bool Bool.false) = (Value.bool (formB cKind cBank cRow cCol)))))))))) ∧
   ((fieldV cBank (btw cKind (1 : Int) (5 : Int)) p) = Bool.false →
   (Value.bool Bool.false) = (Value.bool (formB cKind cBank cRow cCol)))))))))) ∧
  ((btw cKind (1 : Int) (9 : Int)) = Bool.false →
  (Value.bool Bool.false) = (Value.bool (formB cKind cBank cRow cCol)))))))) := by kernel_rfl
theorem wellFormed_any (cKind : Int) (cBank : Int) (cRow : Int) (cCol : Int) (p : Int) (q : Int) (s : Int) (w : World) (hpre : p = 8 ∧ q = 16 ∧ s = 8) : Calls Try.prog 76 #[.agg #[.int .i64 cKind, .int .i64 cBank, .int .i64 cRow, .int .i64 cCol], .int .i64 p, .int .i64 q, .int .i64 s] w fun e w' => e = .returned (.bool (formB cKind cBank cRow cCol)) ∧ Below w.heap.size w w' := by
  refine fnB (tb := [(50, sBtw), (81, sUB), (82, sUR), (83, sUC), (80, sFO)]) ⟨sBtwI_ok, sUB_ok, sUR_ok, sUC_ok_usesCol, sFO_ok_fieldOk, trivial⟩ Try.func76 (@Eq.mpr _ _ (wellFormed_T cKind cBank cRow cCol p q s) ?_) (HS.start w (fun _ => False)) (fun v ch' w' hk hs => ⟨by rw [hk], hs.below⟩)
  obtain ⟨rfl, rfl, rfl⟩ := hpre
  have ef : formB cKind cBank cRow cCol = (btw cKind 1 9 && fieldV cBank (btw cKind 1 5) 8 && fieldV cRow (cKind == 1) 16 && fieldV cCol (colU cKind) 8) := rfl
  rw [ef]
  repeat' (first
    | with_reducible exact rfl
    | exact True.intro
    | with_reducible assumption
    | refine And.intro ?_ ?_
    | apply Exists.intro
    | intro _)
  all_goals (first | omega | (simp_all; done))
def sWF : Sm := fun args ch kk =>
  match args with
  | [.a (.agg [c0, c1, c2, c3]), .a (.c c4), .a (.c c5), .a (.c c6)] =>
    match ints [c0, c1, c2, c3, c4, c5, c6] with
    | some [cKind, cBank, cRow, cCol, p, q, s] => (p = 8 ∧ q = 16 ∧ s = 8) ∧ kk (.a (.c (.bool (formB cKind cBank cRow cCol)))) ch []
    | _ => False
  | _ => False
theorem sWF_ok {f : FuncId} (hc : ∀ args w, (callFunc f args).run Try.prog w = .ok (.enter f args) w) (h : ∀ (cKind : Int) (cBank : Int) (cRow : Int) (cCol : Int) (p : Int) (q : Int) (s : Int) (w : World), p = 8 ∧ q = 16 ∧ s = 8 → Calls Try.prog f #[.agg #[.int .i64 cKind, .int .i64 cBank, .int .i64 cRow, .int .i64 cCol], .int .i64 p, .int .i64 q, .int .i64 s] w fun e w' => e = .returned (.bool (formB cKind cBank cRow cCol)) ∧ Below w.heap.size w w') : SmOK Try.prog f sWF := by
  refine smB hc fun args ch kk w X h0 hs => ?_
  unfold sWF at h0
  split at h0
  · rename_i c0 c1 c2 c3 c4 c5 c6
    split at h0
    · rename_i cKind cBank cRow cCol p q s hi
      obtain ⟨hpre, h0⟩ := h0
      obtain ⟨ec0, hi⟩ := ints_cons hi
      obtain ⟨ec1, hi⟩ := ints_cons hi
      obtain ⟨ec2, hi⟩ := ints_cons hi
      obtain ⟨ec3, hi⟩ := ints_cons hi
      obtain ⟨ec4, hi⟩ := ints_cons hi
      obtain ⟨ec5, hi⟩ := ints_cons hi
      obtain ⟨ec6, hi⟩ := ints_cons hi
      refine ⟨_, h0, ?_⟩
      simp only [List.map_cons, List.map_nil, den_a, den_c, SA.den, den_sl, ec0, ec1, ec2, ec3, ec4, ec5, ec6]
      exact h cKind cBank cRow cCol p q s w hpre
    · exact h0.elim
  · exact h0.elim
theorem sWF_ok_wellFormed : SmOK Try.prog 76 sWF := sWF_ok Try.call76 (fun cKind cBank cRow cCol p q s w hp => wellFormed_any cKind cBank cRow cCol p q s w hp)
theorem uses_T (k : Int) : (exFn Try.prog {tb := [(48, sBtw)]} 400 Try.f70 ([.a (.c (.int k))]) ([]) (fun v _ => v.den = .tuple #[.bool (btw k 1 5), .bool (ieq k 1), .bool (colU k)])) = (
  (((k == (2 : Int)) = Bool.false →
  (Value.tuple (List.toArray [(Value.bool (btw k (1 : Int) (5 : Int))), (Value.bool (k == (1 : Int))), (Value.bool (k == (3 : Int)))])) = (Value.tuple (List.toArray [(Value.bool (btw k (1 : Int) (5 : Int))), (Value.bool (k == (1 : Int))), (Value.bool (colU k))]))) ∧
  ((k == (2 : Int)) = Bool.true →
  (Value.tuple (List.toArray [(Value.bool (btw k (1 : Int) (5 : Int))), (Value.bool (k == (1 : Int))), (Value.bool Bool.true)])) = (Value.tuple (List.toArray [(Value.bool (btw k (1 : Int) (5 : Int))), (Value.bool (k == (1 : Int))), (Value.bool (colU k))]))))) := by kernel_rfl
theorem uses_any (k : Int) (w : World) : Calls Try.prog 70 #[.int .i64 k] w fun e w' => e = .returned (.tuple #[.bool (btw k 1 5), .bool (ieq k 1), .bool (colU k)]) ∧ Below w.heap.size w w' := by
  refine fnB (tb := [(48, sBtw)]) ⟨sBtwS_ok, trivial⟩ Try.func70 (@Eq.mpr _ _ (uses_T k) ?_) (HS.start w (fun _ => False)) (fun v ch' w' hk hs => ⟨by rw [hk], hs.below⟩)
  repeat' (first
    | with_reducible exact rfl
    | exact True.intro
    | with_reducible assumption
    | refine And.intro ?_ ?_
    | apply Exists.intro
    | intro _)
  all_goals (simp_all [colU]; done)
def sUse : Sm := fun args ch kk =>
  match args with
  | [.a (.c c0)] =>
    match ints [c0] with
    | some [k] => kk (.tup [.c (.bool (btw k 1 5)), .c (.bool (ieq k 1)), .c (.bool (colU k))]) ch []
    | _ => False
  | _ => False
theorem sUse_ok {f : FuncId} (hc : ∀ args w, (callFunc f args).run Try.prog w = .ok (.enter f args) w) (h : ∀ (k : Int) (w : World), Calls Try.prog f #[.int .i64 k] w fun e w' => e = .returned (.tuple #[.bool (btw k 1 5), .bool (ieq k 1), .bool (colU k)]) ∧ Below w.heap.size w w') : SmOK Try.prog f sUse := by
  refine smB hc fun args ch kk w X h0 hs => ?_
  unfold sUse at h0
  split at h0
  · rename_i c0
    split at h0
    · rename_i k hi
      obtain ⟨ec0, hi⟩ := ints_cons hi
      refine ⟨_, h0, ?_⟩
      simp only [List.map_cons, List.map_nil, den_a, den_c, SA.den, den_sl, ec0]
      exact h k w
    · exact h0.elim
  · exact h0.elim
theorem sUse_ok_uses : SmOK Try.prog 70 sUse := sUse_ok Try.call70 (fun k w => uses_any k w)
theorem form_T (cKind : Int) (cBank : Int) (cRow : Int) (cCol : Int) : (exFn Try.prog {tb := [(48, sBtw), (70, sUse)]} 400 Try.f78 ([.a (.agg [.int cKind, .int cBank, .int cRow, .int cCol])]) ([]) (fun v _ => v.den = .bool (formB cKind cBank cRow cCol))) = (
  (∀ b0 : Nat,
  (b0 = b0 ∧
  (((!(btw cKind (1 : Int) (5 : Int))) = Bool.true →
  (b0 = b0 ∧
   (((cBank != (0 : Int)) = Bool.false →
   (((!(cKind == (1 : Int))) = Bool.true →
    (b0 = b0 ∧
     (((cRow != (0 : Int)) = Bool.false →
     (((!(colU cKind)) = Bool.true →
      (b0 = b0 ∧
       (((cCol != (0 : Int)) = Bool.true →
       (Value.bool Bool.false) = (Value.bool (formB cKind cBank cRow cCol))) ∧
       ((cCol != (0 : Int)) = Bool.false →
       (b0 = b0 ∧
        (((btw cKind (1 : Int) (9 : Int)) = Bool.true →
        (b0 = b0 ∧
         (((btw cBank (0 : Int) (7 : Int)) = Bool.true →
         (b0 = b0 ∧
          (((btw cRow (0 : Int) (15 : Int)) = Bool.true →
          (b0 = b0 ∧
           (Value.bool (btw cCol (0 : Int) (7 : Int))) = (Value.bool (formB cKind cBank cRow cCol)))) ∧
          ((btw cRow (0 : Int) (15 : Int)) = Bool.false →
          (Value.bool Bool.false) = (Value.bool (formB cKind cBank cRow cCol)))))) ∧
         ((btw cBank (0 : Int) (7 : Int)) = Bool.false →
         (Value.bool Bool.false) = (Value.bool (formB cKind cBank cRow cCol)))))) ∧
        ((btw cKind (1 : Int) (9 : Int)) = Bool.false →
        (Value.bool Bool.false) = (Value.bool (formB cKind cBank cRow cCol))))))))) ∧
      ((!(colU cKind)) = Bool.false →
      (b0 = b0 ∧
       (((btw cKind (1 : Int) (9 : Int)) = Bool.true →
       (b0 = b0 ∧
        (((btw cBank (0 : Int) (7 : Int)) = Bool.true →
        (b0 = b0 ∧
         (((btw cRow (0 : Int) (15 : Int)) = Bool.true →
         (b0 = b0 ∧
          (Value.bool (btw cCol (0 : Int) (7 : Int))) = (Value.bool (formB cKind cBank cRow cCol)))) ∧
         ((btw cRow (0 : Int) (15 : Int)) = Bool.false →
         (Value.bool Bool.false) = (Value.bool (formB cKind cBank cRow cCol)))))) ∧
        ((btw cBank (0 : Int) (7 : Int)) = Bool.false →
        (Value.bool Bool.false) = (Value.bool (formB cKind cBank cRow cCol)))))) ∧
       ((btw cKind (1 : Int) (9 : Int)) = Bool.false →
       (Value.bool Bool.false) = (Value.bool (formB cKind cBank cRow cCol)))))))) ∧
     ((cRow != (0 : Int)) = Bool.true →
     (Value.bool Bool.false) = (Value.bool (formB cKind cBank cRow cCol)))))) ∧
    ((!(cKind == (1 : Int))) = Bool.false →
    (((!(colU cKind)) = Bool.true →
     (b0 = b0 ∧
      (((cCol != (0 : Int)) = Bool.true →
      (Value.bool Bool.false) = (Value.bool (formB cKind cBank cRow cCol))) ∧
      ((cCol != (0 : Int)) = Bool.false →
      (b0 = b0 ∧
       (((btw cKind (1 : Int) (9 : Int)) = Bool.true →
       (b0 = b0 ∧
        (((btw cBank (0 : Int) (7 : Int)) = Bool.true →
        (b0 = b0 ∧
         (((btw cRow (0 : Int) (15 : Int)) = Bool.true →
         (b0 = b0 ∧
          (Value.bool (btw cCol (0 : Int) (7 : Int))) = (Value.bool (formB cKind cBank cRow cCol)))) ∧
         ((btw cRow (0 : Int) (15 : Int)) = Bool.false →
         (Value.bool Bool.false) = (Value.bool (formB cKind cBank cRow cCol)))))) ∧
        ((btw cBank (0 : Int) (7 : Int)) = Bool.false →
        (Value.bool Bool.false) = (Value.bool (formB cKind cBank cRow cCol)))))) ∧
       ((btw cKind (1 : Int) (9 : Int)) = Bool.false →
       (Value.bool Bool.false) = (Value.bool (formB cKind cBank cRow cCol))))))))) ∧
     ((!(colU cKind)) = Bool.false →
     (b0 = b0 ∧
      (((btw cKind (1 : Int) (9 : Int)) = Bool.true →
      (b0 = b0 ∧
       (((btw cBank (0 : Int) (7 : Int)) = Bool.true →
       (b0 = b0 ∧
        (((btw cRow (0 : Int) (15 : Int)) = Bool.true →
        (b0 = b0 ∧
         (Value.bool (btw cCol (0 : Int) (7 : Int))) = (Value.bool (formB cKind cBank cRow cCol)))) ∧
        ((btw cRow (0 : Int) (15 : Int)) = Bool.false →
        (Value.bool Bool.false) = (Value.bool (formB cKind cBank cRow cCol)))))) ∧
       ((btw cBank (0 : Int) (7 : Int)) = Bool.false →
       (Value.bool Bool.false) = (Value.bool (formB cKind cBank cRow cCol)))))) ∧
      ((btw cKind (1 : Int) (9 : Int)) = Bool.false →
      (Value.bool Bool.false) = (Value.bool (formB cKind cBank cRow cCol)))))))))) ∧
   ((cBank != (0 : Int)) = Bool.true →
   (Value.bool Bool.false) = (Value.bool (formB cKind cBank cRow cCol)))))) ∧
  ((!(btw cKind (1 : Int) (5 : Int))) = Bool.false →
  (((!(cKind == (1 : Int))) = Bool.true →
   (b0 = b0 ∧
    (((cRow != (0 : Int)) = Bool.false →
    (((!(colU cKind)) = Bool.true →
     (b0 = b0 ∧
      (((cCol != (0 : Int)) = Bool.true →
      (Value.bool Bool.false) = (Value.bool (formB cKind cBank cRow cCol))) ∧
      ((cCol != (0 : Int)) = Bool.false →
      (b0 = b0 ∧
       (((btw cKind (1 : Int) (9 : Int)) = Bool.true →
       (b0 = b0 ∧
        (((btw cBank (0 : Int) (7 : Int)) = Bool.true →
        (b0 = b0 ∧
         (((btw cRow (0 : Int) (15 : Int)) = Bool.true →
         (b0 = b0 ∧
          (Value.bool (btw cCol (0 : Int) (7 : Int))) = (Value.bool (formB cKind cBank cRow cCol)))) ∧
         ((btw cRow (0 : Int) (15 : Int)) = Bool.false →
         (Value.bool Bool.false) = (Value.bool (formB cKind cBank cRow cCol)))))) ∧
        ((btw cBank (0 : Int) (7 : Int)) = Bool.false →
        (Value.bool Bool.false) = (Value.bool (formB cKind cBank cRow cCol)))))) ∧
       ((btw cKind (1 : Int) (9 : Int)) = Bool.false →
       (Value.bool Bool.false) = (Value.bool (formB cKind cBank cRow cCol))))))))) ∧
     ((!(colU cKind)) = Bool.false →
     (b0 = b0 ∧
      (((btw cKind (1 : Int) (9 : Int)) = Bool.true →
      (b0 = b0 ∧
       (((btw cBank (0 : Int) (7 : Int)) = Bool.true →
       (b0 = b0 ∧
        (((btw cRow (0 : Int) (15 : Int)) = Bool.true →
        (b0 = b0 ∧
         (Value.bool (btw cCol (0 : Int) (7 : Int))) = (Value.bool (formB cKind cBank cRow cCol)))) ∧
        ((btw cRow (0 : Int) (15 : Int)) = Bool.false →
        (Value.bool Bool.false) = (Value.bool (formB cKind cBank cRow cCol)))))) ∧
       ((btw cBank (0 : Int) (7 : Int)) = Bool.false →
       (Value.bool Bool.false) = (Value.bool (formB cKind cBank cRow cCol)))))) ∧
      ((btw cKind (1 : Int) (9 : Int)) = Bool.false →
      (Value.bool Bool.false) = (Value.bool (formB cKind cBank cRow cCol)))))))) ∧
    ((cRow != (0 : Int)) = Bool.true →
    (Value.bool Bool.false) = (Value.bool (formB cKind cBank cRow cCol)))))) ∧
   ((!(cKind == (1 : Int))) = Bool.false →
   (((!(colU cKind)) = Bool.true →
    (b0 = b0 ∧
     (((cCol != (0 : Int)) = Bool.true →
     (Value.bool Bool.false) = (Value.bool (formB cKind cBank cRow cCol))) ∧
     ((cCol != (0 : Int)) = Bool.false →
     (b0 = b0 ∧
      (((btw cKind (1 : Int) (9 : Int)) = Bool.true →
      (b0 = b0 ∧
       (((btw cBank (0 : Int) (7 : Int)) = Bool.true →
       (b0 = b0 ∧
        (((btw cRow (0 : Int) (15 : Int)) = Bool.true →
        (b0 = b0 ∧
         (Value.bool (btw cCol (0 : Int) (7 : Int))) = (Value.bool (formB cKind cBank cRow cCol)))) ∧
        ((btw cRow (0 : Int) (15 : Int)) = Bool.false →
        (Value.bool Bool.false) = (Value.bool (formB cKind cBank cRow cCol)))))) ∧
       ((btw cBank (0 : Int) (7 : Int)) = Bool.false →
       (Value.bool Bool.false) = (Value.bool (formB cKind cBank cRow cCol)))))) ∧
      ((btw cKind (1 : Int) (9 : Int)) = Bool.false →
      (Value.bool Bool.false) = (Value.bool (formB cKind cBank cRow cCol))))))))) ∧
    ((!(colU cKind)) = Bool.false →
    (b0 = b0 ∧
     (((btw cKind (1 : Int) (9 : Int)) = Bool.true →
     (b0 = b0 ∧
      (((btw cBank (0 : Int) (7 : Int)) = Bool.true →
      (b0 = b0 ∧
       (((btw cRow (0 : Int) (15 : Int)) = Bool.true →
       (b0 = b0 ∧
        (Value.bool (btw cCol (0 : Int) (7 : Int))) = (Value.bool (formB cKind cBank cRow cCol)))) ∧
       ((btw cRow (0 : Int) (15 : Int)) = Bool.false →
       (Value.bool Bool.false) = (Value.bool (formB cKind cBank cRow cCol)))))) ∧
      ((btw cBank (0 : Int) (7 : Int)) = Bool.false →
      (Value.bool Bool.false) = (Value.bool (formB cKind cBank cRow cCol)))))) ∧
     ((btw cKind (1 : Int) (9 : Int)) = Bool.false →
     (Value.bool Bool.false) = (Value.bool (formB cKind cBank cRow cCol)))))))))))))) := by kernel_rfl
theorem form_any (cKind : Int) (cBank : Int) (cRow : Int) (cCol : Int) (w : World) : Calls Try.prog 78 #[.agg #[.int .i64 cKind, .int .i64 cBank, .int .i64 cRow, .int .i64 cCol]] w fun e w' => e = .returned (.bool (formB cKind cBank cRow cCol)) ∧ Below w.heap.size w w' := by
  refine fnB (tb := [(48, sBtw), (70, sUse)]) ⟨sBtwS_ok, sUse_ok_uses, trivial⟩ Try.func78 (@Eq.mpr _ _ (form_T cKind cBank cRow cCol) ?_) (HS.start w (fun _ => False)) (fun v ch' w' hk hs => ⟨by rw [hk], hs.below⟩)
  have hz : ∀ x : Int, (x == 0) = true → btw x 0 7 = true ∧ btw x 0 15 = true := fun x h => by
    have := eq_of_beq h
    subst this
    exact ⟨rfl, rfl⟩
  have hr := hz cRow
  have hc := hz cCol
  have hb := hz cBank
  repeat' (first
    | with_reducible exact rfl
    | exact True.intro
    | with_reducible assumption
    | refine And.intro ?_ ?_
    | apply Exists.intro
    | intro _)
  all_goals simp only [formB, ← show colU cKind = (cKind == 2 || cKind == 3) from rfl]
  all_goals (simp_all; done)
def sForm : Sm := fun args ch kk =>
  match args with
  | [.a (.agg [c0, c1, c2, c3])] =>
    match ints [c0, c1, c2, c3] with
    | some [cKind, cBank, cRow, cCol] => kk (.a (.c (.bool (formB cKind cBank cRow cCol)))) ch []
    | _ => False
  | _ => False
theorem sForm_ok {f : FuncId} (hc : ∀ args w, (callFunc f args).run Try.prog w = .ok (.enter f args) w) (h : ∀ (cKind : Int) (cBank : Int) (cRow : Int) (cCol : Int) (w : World), Calls Try.prog f #[.agg #[.int .i64 cKind, .int .i64 cBank, .int .i64 cRow, .int .i64 cCol]] w fun e w' => e = .returned (.bool (formB cKind cBank cRow cCol)) ∧ Below w.heap.size w w') : SmOK Try.prog f sForm := by
  refine smB hc fun args ch kk w X h0 hs => ?_
  unfold sForm at h0
  split at h0
  · rename_i c0 c1 c2 c3
    split at h0
    · rename_i cKind cBank cRow cCol hi
      obtain ⟨ec0, hi⟩ := ints_cons hi
      obtain ⟨ec1, hi⟩ := ints_cons hi
      obtain ⟨ec2, hi⟩ := ints_cons hi
      obtain ⟨ec3, hi⟩ := ints_cons hi
      refine ⟨_, h0, ?_⟩
      simp only [List.map_cons, List.map_nil, den_a, den_c, SA.den, den_sl, ec0, ec1, ec2, ec3]
      exact h cKind cBank cRow cCol w
    · exact h0.elim
  · exact h0.elim
theorem sForm_ok_form : SmOK Try.prog 78 sForm := sForm_ok Try.call78 (fun cKind cBank cRow cCol w => form_any cKind cBank cRow cCol w)
theorem packI_T (cKind : Int) (cBank : Int) (cRow : Int) (cCol : Int) : (exFn Try.prog {tb := [(76, sWF)]} 400 Try.f67 ([.a (.agg [.int cKind, .int cBank, .int cRow, .int cCol])]) ([]) (fun v _ => v.den = .int .i64 (packV cKind cBank cRow cCol))) = (
  (∀ b0 : Nat,
  (b0 = b0 ∧
  (((8 : Int) = (8 : Int) ∧
  ((16 : Int) = (16 : Int) ∧
  (8 : Int) = (8 : Int))) ∧
  (((!(formB cKind cBank cRow cCol)) = Bool.true →
  (Value.int IntKind.i64 (-1 : Int)) = (Value.int IntKind.i64 (packV cKind cBank cRow cCol))) ∧
  ((!(formB cKind cBank cRow cCol)) = Bool.false →
  (b0 = b0 ∧
   (b0 = b0 ∧
   ((rng ((16 : Int) * cBank)) ∧
   ((rng (cKind + ((16 : Int) * cBank))) ∧
   (b0 = b0 ∧
   ((rng ((128 : Int) * cRow)) ∧
   ((rng ((cKind + ((16 : Int) * cBank)) + ((128 : Int) * cRow))) ∧
   (b0 = b0 ∧
   ((rng ((2048 : Int) * cCol)) ∧
   ((rng (((cKind + ((16 : Int) * cBank)) + ((128 : Int) * cRow)) + ((2048 : Int) * cCol))) ∧
   (Value.int IntKind.i64 (((cKind + ((16 : Int) * cBank)) + ((128 : Int) * cRow)) + ((2048 : Int) * cCol))) = (Value.int IntKind.i64 (packV cKind cBank cRow cCol)))))))))))))))))) := by kernel_rfl
theorem packI_any (cKind : Int) (cBank : Int) (cRow : Int) (cCol : Int) (w : World) : Calls Try.prog 67 #[.agg #[.int .i64 cKind, .int .i64 cBank, .int .i64 cRow, .int .i64 cCol]] w fun e w' => e = .returned (.int .i64 (packV cKind cBank cRow cCol)) ∧ Below w.heap.size w w' := by
  refine fnB (tb := [(76, sWF)]) ⟨sWF_ok_wellFormed, trivial⟩ Try.func67 (@Eq.mpr _ _ (packI_T cKind cBank cRow cCol) ?_) (HS.start w (fun _ => False)) (fun v ch' w' hk hs => ⟨by rw [hk], hs.below⟩)
  cases hf : formB cKind cBank cRow cCol
  · have e := (frame_no hf).2
    repeat' (first
      | with_reducible exact rfl
      | exact True.intro
      | with_reducible assumption
      | refine And.intro ?_ ?_
      | apply Exists.intro
      | (intro h; exfalso; simp [hf] at h; done)
      | (intro h; exfalso; simp [hf] at h; omega)
      | intro _
      | omega
      | (simp; omega))
    all_goals (simp_all; done)
  · have e := pack_facts hf
    have q := form_facts hf
    repeat' (first
      | with_reducible exact rfl
      | exact True.intro
      | with_reducible assumption
      | refine And.intro ?_ ?_
      | apply Exists.intro
      | (intro h; exfalso; simp [hf] at h; done)
      | (intro h; exfalso; simp [hf] at h; omega)
      | intro _
      | omega
      | (simp; omega))
    all_goals (rw [e.1])
theorem packS_T (cKind : Int) (cBank : Int) (cRow : Int) (cCol : Int) : (exFn Try.prog {tb := [(78, sForm)]} 400 Try.f72 ([.a (.agg [.int cKind, .int cBank, .int cRow, .int cCol])]) ([]) (fun v _ => v.den = .int .i64 (packV cKind cBank cRow cCol))) = (
  (∀ b0 : Nat,
  (b0 = b0 ∧
  (((!(formB cKind cBank cRow cCol)) = Bool.true →
  (Value.int IntKind.i64 (-1 : Int)) = (Value.int IntKind.i64 (packV cKind cBank cRow cCol))) ∧
  ((!(formB cKind cBank cRow cCol)) = Bool.false →
  (b0 = b0 ∧
   (b0 = b0 ∧
   ((rng ((16 : Int) * cBank)) ∧
   ((rng (cKind + ((16 : Int) * cBank))) ∧
   (b0 = b0 ∧
   ((rng ((128 : Int) * cRow)) ∧
   ((rng ((cKind + ((16 : Int) * cBank)) + ((128 : Int) * cRow))) ∧
   (b0 = b0 ∧
   ((rng ((2048 : Int) * cCol)) ∧
   ((rng (((cKind + ((16 : Int) * cBank)) + ((128 : Int) * cRow)) + ((2048 : Int) * cCol))) ∧
   (Value.int IntKind.i64 (((cKind + ((16 : Int) * cBank)) + ((128 : Int) * cRow)) + ((2048 : Int) * cCol))) = (Value.int IntKind.i64 (packV cKind cBank cRow cCol))))))))))))))))) := by kernel_rfl
theorem packS_any (cKind : Int) (cBank : Int) (cRow : Int) (cCol : Int) (w : World) : Calls Try.prog 72 #[.agg #[.int .i64 cKind, .int .i64 cBank, .int .i64 cRow, .int .i64 cCol]] w fun e w' => e = .returned (.int .i64 (packV cKind cBank cRow cCol)) ∧ Below w.heap.size w w' := by
  refine fnB (tb := [(78, sForm)]) ⟨sForm_ok_form, trivial⟩ Try.func72 (@Eq.mpr _ _ (packS_T cKind cBank cRow cCol) ?_) (HS.start w (fun _ => False)) (fun v ch' w' hk hs => ⟨by rw [hk], hs.below⟩)
  cases hf : formB cKind cBank cRow cCol
  · have e := (frame_no hf).2
    repeat' (first
      | with_reducible exact rfl
      | exact True.intro
      | with_reducible assumption
      | refine And.intro ?_ ?_
      | apply Exists.intro
      | (intro h; exfalso; simp [hf] at h; done)
      | (intro h; exfalso; simp [hf] at h; omega)
      | intro _
      | omega
      | (simp; omega))
    all_goals (simp_all; done)
  · have e := pack_facts hf
    have q := form_facts hf
    repeat' (first
      | with_reducible exact rfl
      | exact True.intro
      | with_reducible assumption
      | refine And.intro ?_ ?_
      | apply Exists.intro
      | (intro h; exfalso; simp [hf] at h; done)
      | (intro h; exfalso; simp [hf] at h; omega)
      | intro _
      | omega
      | (simp; omega))
    all_goals (rw [e.1])
def sPack : Sm := fun args ch kk =>
  match args with
  | [.a (.agg [c0, c1, c2, c3])] =>
    match ints [c0, c1, c2, c3] with
    | some [cKind, cBank, cRow, cCol] => kk (.a (.c (.int (packV cKind cBank cRow cCol)))) ch []
    | _ => False
  | _ => False
theorem sPack_ok {f : FuncId} (hc : ∀ args w, (callFunc f args).run Try.prog w = .ok (.enter f args) w) (h : ∀ (cKind : Int) (cBank : Int) (cRow : Int) (cCol : Int) (w : World), Calls Try.prog f #[.agg #[.int .i64 cKind, .int .i64 cBank, .int .i64 cRow, .int .i64 cCol]] w fun e w' => e = .returned (.int .i64 (packV cKind cBank cRow cCol)) ∧ Below w.heap.size w w') : SmOK Try.prog f sPack := by
  refine smB hc fun args ch kk w X h0 hs => ?_
  unfold sPack at h0
  split at h0
  · rename_i c0 c1 c2 c3
    split at h0
    · rename_i cKind cBank cRow cCol hi
      obtain ⟨ec0, hi⟩ := ints_cons hi
      obtain ⟨ec1, hi⟩ := ints_cons hi
      obtain ⟨ec2, hi⟩ := ints_cons hi
      obtain ⟨ec3, hi⟩ := ints_cons hi
      refine ⟨_, h0, ?_⟩
      simp only [List.map_cons, List.map_nil, den_a, den_c, SA.den, den_sl, ec0, ec1, ec2, ec3]
      exact h cKind cBank cRow cCol w
    · exact h0.elim
  · exact h0.elim
theorem sPack_ok_packI : SmOK Try.prog 67 sPack := sPack_ok Try.call67 (fun cKind cBank cRow cCol w => packI_any cKind cBank cRow cCol w)
theorem sPack_ok_packS : SmOK Try.prog 72 sPack := sPack_ok Try.call72 (fun cKind cBank cRow cCol w => packS_any cKind cBank cRow cCol w)
theorem frameI_T (cKind : Int) (cBank : Int) (cRow : Int) (cCol : Int) : (exFn Try.prog {tb := [(67, sPack), (68, sPar)]} 400 Try.f45 ([.a (.agg [.int cKind, .int cBank, .int cRow, .int cCol])]) ([]) (fun v _ => v.den = .int .i64 (frameV cKind cBank cRow cCol))) = (
  (∀ b0 : Nat,
  (b0 = b0 ∧
  (((decide ((packV cKind cBank cRow cCol) < (0 : Int))) = Bool.true →
  (Value.int IntKind.i64 (-1 : Int)) = (Value.int IntKind.i64 (frameV cKind cBank cRow cCol))) ∧
  ((decide ((packV cKind cBank cRow cCol) < (0 : Int))) = Bool.false →
  ((parC (packV cKind cBank cRow cCol)) ∧
   ((rng ((16384 : Int) * (parV (packV cKind cBank cRow cCol)))) ∧
   ((rng ((packV cKind cBank cRow cCol) + ((16384 : Int) * (parV (packV cKind cBank cRow cCol))))) ∧
   (Value.int IntKind.i64 ((packV cKind cBank cRow cCol) + ((16384 : Int) * (parV (packV cKind cBank cRow cCol))))) = (Value.int IntKind.i64 (frameV cKind cBank cRow cCol)))))))))) := by kernel_rfl
theorem frameI_any (cKind : Int) (cBank : Int) (cRow : Int) (cCol : Int) (w : World) : Calls Try.prog 45 #[.agg #[.int .i64 cKind, .int .i64 cBank, .int .i64 cRow, .int .i64 cCol]] w fun e w' => e = .returned (.int .i64 (frameV cKind cBank cRow cCol)) ∧ Below w.heap.size w w' := by
  refine fnB (tb := [(67, sPack), (68, sPar)]) ⟨sPack_ok_packI, sPar_ok_parI, trivial⟩ Try.func45 (@Eq.mpr _ _ (frameI_T cKind cBank cRow cCol) ?_) (HS.start w (fun _ => False)) (fun v ch' w' hk hs => ⟨by rw [hk], hs.below⟩)
  cases hf : formB cKind cBank cRow cCol
  · have e := frame_no hf
    rw [e.1, e.2]
    repeat' (first
      | with_reducible exact rfl
      | exact True.intro
      | with_reducible assumption
      | refine And.intro ?_ ?_
      | apply Exists.intro
      | (intro h; exfalso; simp [hf] at h; done)
      | (intro h; exfalso; simp [hf] at h; omega)
      | intro _
      | omega
      | (simp; omega))
  · have e := pack_facts hf
    have q := frame_facts hf
    have p01 := par01 (packV cKind cBank cRow cCol)
    rw [q.1]
    repeat' (first
      | with_reducible exact rfl
      | exact True.intro
      | with_reducible assumption
      | refine And.intro ?_ ?_
      | apply Exists.intro
      | (intro h; exfalso; simp [hf] at h; done)
      | (intro h; exfalso; simp [hf] at h; omega)
      | intro _
      | omega
      | (simp; omega))
theorem frameS_T (cKind : Int) (cBank : Int) (cRow : Int) (cCol : Int) : (exFn Try.prog {tb := [(72, sPack), (73, sPar)]} 400 Try.f57 ([.a (.agg [.int cKind, .int cBank, .int cRow, .int cCol])]) ([]) (fun v _ => v.den = .int .i64 (frameV cKind cBank cRow cCol))) = (
  (∀ b0 : Nat,
  (b0 = b0 ∧
  (((decide ((packV cKind cBank cRow cCol) < (0 : Int))) = Bool.true →
  (Value.int IntKind.i64 (-1 : Int)) = (Value.int IntKind.i64 (frameV cKind cBank cRow cCol))) ∧
  ((decide ((packV cKind cBank cRow cCol) < (0 : Int))) = Bool.false →
  ((parC (packV cKind cBank cRow cCol)) ∧
   ((rng ((16384 : Int) * (parV (packV cKind cBank cRow cCol)))) ∧
   ((rng ((packV cKind cBank cRow cCol) + ((16384 : Int) * (parV (packV cKind cBank cRow cCol))))) ∧
   (Value.int IntKind.i64 ((packV cKind cBank cRow cCol) + ((16384 : Int) * (parV (packV cKind cBank cRow cCol))))) = (Value.int IntKind.i64 (frameV cKind cBank cRow cCol)))))))))) := by kernel_rfl
theorem frameS_any (cKind : Int) (cBank : Int) (cRow : Int) (cCol : Int) (w : World) : Calls Try.prog 57 #[.agg #[.int .i64 cKind, .int .i64 cBank, .int .i64 cRow, .int .i64 cCol]] w fun e w' => e = .returned (.int .i64 (frameV cKind cBank cRow cCol)) ∧ Below w.heap.size w w' := by
  refine fnB (tb := [(72, sPack), (73, sPar)]) ⟨sPack_ok_packS, sPar_ok_parS, trivial⟩ Try.func57 (@Eq.mpr _ _ (frameS_T cKind cBank cRow cCol) ?_) (HS.start w (fun _ => False)) (fun v ch' w' hk hs => ⟨by rw [hk], hs.below⟩)
  cases hf : formB cKind cBank cRow cCol
  · have e := frame_no hf
    rw [e.1, e.2]
    repeat' (first
      | with_reducible exact rfl
      | exact True.intro
      | with_reducible assumption
      | refine And.intro ?_ ?_
      | apply Exists.intro
      | (intro h; exfalso; simp [hf] at h; done)
      | (intro h; exfalso; simp [hf] at h; omega)
      | intro _
      | omega
      | (simp; omega))
  · have e := pack_facts hf
    have q := frame_facts hf
    have p01 := par01 (packV cKind cBank cRow cCol)
    rw [q.1]
    repeat' (first
      | with_reducible exact rfl
      | exact True.intro
      | with_reducible assumption
      | refine And.intro ?_ ?_
      | apply Exists.intro
      | (intro h; exfalso; simp [hf] at h; done)
      | (intro h; exfalso; simp [hf] at h; omega)
      | intro _
      | omega
      | (simp; omega))
def sFrame : Sm := fun args ch kk =>
  match args with
  | [.a (.agg [c0, c1, c2, c3])] =>
    match ints [c0, c1, c2, c3] with
    | some [cKind, cBank, cRow, cCol] => kk (.a (.c (.int (frameV cKind cBank cRow cCol)))) ch []
    | _ => False
  | _ => False
theorem sFrame_ok {f : FuncId} (hc : ∀ args w, (callFunc f args).run Try.prog w = .ok (.enter f args) w) (h : ∀ (cKind : Int) (cBank : Int) (cRow : Int) (cCol : Int) (w : World), Calls Try.prog f #[.agg #[.int .i64 cKind, .int .i64 cBank, .int .i64 cRow, .int .i64 cCol]] w fun e w' => e = .returned (.int .i64 (frameV cKind cBank cRow cCol)) ∧ Below w.heap.size w w') : SmOK Try.prog f sFrame := by
  refine smB hc fun args ch kk w X h0 hs => ?_
  unfold sFrame at h0
  split at h0
  · rename_i c0 c1 c2 c3
    split at h0
    · rename_i cKind cBank cRow cCol hi
      obtain ⟨ec0, hi⟩ := ints_cons hi
      obtain ⟨ec1, hi⟩ := ints_cons hi
      obtain ⟨ec2, hi⟩ := ints_cons hi
      obtain ⟨ec3, hi⟩ := ints_cons hi
      refine ⟨_, h0, ?_⟩
      simp only [List.map_cons, List.map_nil, den_a, den_c, SA.den, den_sl, ec0, ec1, ec2, ec3]
      exact h cKind cBank cRow cCol w
    · exact h0.elim
  · exact h0.elim
theorem sFrame_ok_frameI : SmOK Try.prog 45 sFrame := sFrame_ok Try.call45 (fun cKind cBank cRow cCol w => frameI_any cKind cBank cRow cCol w)
theorem sFrame_ok_frameS : SmOK Try.prog 57 sFrame := sFrame_ok Try.call57 (fun cKind cBank cRow cCol w => frameS_any cKind cBank cRow cCol w)
end Go.Proofs.Ytkfinkolllpcgaa
