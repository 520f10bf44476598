/-
  Words drawn.
-/
import Derived.Test.YtppeocfcdeiemaaSxDr2
namespace Go.Proofs.Ytppeocfcdeiemaa
set_option linter.unusedVariables false
set_option linter.unusedSimpArgs false
open Go.RowKit
set_option maxRecDepth 100000
set_option maxHeartbeats 8000000

def sPick : Sm := inlM Try.prog {tb := [(28, sBelow)]} 300 Try.f64
theorem sPick_ok : SmOK Try.prog 64 sPick := inlM_ok mixed (E := {tb := [(28, sBelow)]}) ⟨sBelow_ok, trivial⟩ Try.func64 Try.call64 (fun _ _ _ => loopsOK_nil _ _ _)
theorem sWordDC_T (cb : Nat) (co : Option Addr) (cn cc : Nat) (ci cz : Int) (cu : Nat → Int) : (exFn Try.prog {tb := [(28, sBelow), (64, sPick)]} 400 Try.f57 ([.a (.c (.ptr 0 cb 0))]) ([.cells cb 63 [.sl 1 co cn cc, .int ci, .int cz], .row ⟨false, co, 0, 1, cn, 0, [fun i => .u8 (cu i)]⟩]) (fun v ch => ∃ (z0 : Int) (i1 z1 : Int) , OutC v ch (.int .i64 (z0)) (.cells cb 63 [.sl 1 co cn cc, .int i1, .int z1]) [] ∧ (inR z0 0 4294967295) ∧ pos0 i1)) = (
  (Exists (fun (u0 : (Nat →
  Int)) => (((cb = cb ∧
  (63 = 63 ∧
  (co = co ∧
  (cn = cn ∧
  [(fun (i1 : Nat) => (SC.u8 (cu i1)))] = [(fun (i2 : Nat) => (SC.u8 (u0 i2)))])))) ∧
  ((codeC cn u0) ∧
  ((pos0 ci) ∧
  (inR (4 : Int) (1 : Int) (4294967296 : Int))))) ∧
  (∀ z03 : Int,
  (∀ i14 : Int,
  (∀ z15 : Int,
  ((inR z03 (0 : Int) ((4 : Int) - (1 : Int))) →
  ((pos0 i14) →
   (((z03 == (0 : Int)) = Bool.true →
    (∀ b6 : Nat,
     (Exists (fun (u7 : (Nat →
     Int)) => (((cb = cb ∧
     (63 = 63 ∧
     (co = co ∧
     (cn = cn ∧
     [(fun (i8 : Nat) => (SC.u8 (cu i8)))] = [(fun (i9 : Nat) => (SC.u8 (u7 i9)))])))) ∧
     ((codeC cn u7) ∧
     ((pos0 i14) ∧
     (inR (6 : Int) (1 : Int) (4294967296 : Int))))) ∧
     (∀ z010 : Int,
     (∀ i111 : Int,
     (∀ z112 : Int,
     ((inR z010 (0 : Int) ((6 : Int) - (1 : Int))) →
     ((pos0 i111) →
      ((0 ≤ z010 ∧ z010 < ((6 : Nat) : Int)) ∧
       ((z010 = (5 : Int) →
       (b6 = b6 ∧
        (Exists (fun (z013 : Int) => (Exists (fun (i114 : Int) => (Exists (fun (z115 : Int) => (((Value.int IntKind.i64 (305419896 : Int)) = (Value.int IntKind.i64 z013) ∧
        ((cb = cb ∧
        (63 = 63 ∧
        [(Value.slice co cn cc), (Value.int IntKind.i64 i111), (Value.int IntKind.i64 z112)] = [(Value.slice co cn cc), (Value.int IntKind.i64 i114), (Value.int IntKind.i64 z115)])) ∧
        (True ∧
        Bool.true = Bool.true))) ∧
        ((inR z013 (0 : Int) (4294967295 : Int)) ∧
        (pos0 i114))))))))))) ∧
       ((z010 = (4 : Int) →
       (b6 = b6 ∧
        (Exists (fun (z016 : Int) => (Exists (fun (i117 : Int) => (Exists (fun (z118 : Int) => (((Value.int IntKind.i64 (65536 : Int)) = (Value.int IntKind.i64 z016) ∧
        ((cb = cb ∧
        (63 = 63 ∧
        [(Value.slice co cn cc), (Value.int IntKind.i64 i111), (Value.int IntKind.i64 z112)] = [(Value.slice co cn cc), (Value.int IntKind.i64 i117), (Value.int IntKind.i64 z118)])) ∧
        (True ∧
        Bool.true = Bool.true))) ∧
        ((inR z016 (0 : Int) (4294967295 : Int)) ∧
        (pos0 i117))))))))))) ∧
       ((z010 = (3 : Int) →
       (b6 = b6 ∧
        (Exists (fun (z019 : Int) => (Exists (fun (i120 : Int) => (Exists (fun (z121 : Int) => (((Value.int IntKind.i64 (2147483648 : Int)) = (Value.int IntKind.i64 z019) ∧
        ((cb = cb ∧
        (63 = 63 ∧
        [(Value.slice co cn cc), (Value.int IntKind.i64 i111), (Value.int IntKind.i64 z112)] = [(Value.slice co cn cc), (Value.int IntKind.i64 i120), (Value.int IntKind.i64 z121)])) ∧
        (True ∧
        Bool.true = Bool.true))) ∧
        ((inR z019 (0 : Int) (4294967295 : Int)) ∧
        (pos0 i120))))))))))) ∧
       ((z010 = (2 : Int) →
       (b6 = b6 ∧
        (Exists (fun (z022 : Int) => (Exists (fun (i123 : Int) => (Exists (fun (z124 : Int) => (((Value.int IntKind.i64 (4294967295 : Int)) = (Value.int IntKind.i64 z022) ∧
        ((cb = cb ∧
        (63 = 63 ∧
        [(Value.slice co cn cc), (Value.int IntKind.i64 i111), (Value.int IntKind.i64 z112)] = [(Value.slice co cn cc), (Value.int IntKind.i64 i123), (Value.int IntKind.i64 z124)])) ∧
        (True ∧
        Bool.true = Bool.true))) ∧
        ((inR z022 (0 : Int) (4294967295 : Int)) ∧
        (pos0 i123))))))))))) ∧
       ((z010 = (1 : Int) →
       (b6 = b6 ∧
        (Exists (fun (z025 : Int) => (Exists (fun (i126 : Int) => (Exists (fun (z127 : Int) => (((Value.int IntKind.i64 (1 : Int)) = (Value.int IntKind.i64 z025) ∧
        ((cb = cb ∧
        (63 = 63 ∧
        [(Value.slice co cn cc), (Value.int IntKind.i64 i111), (Value.int IntKind.i64 z112)] = [(Value.slice co cn cc), (Value.int IntKind.i64 i126), (Value.int IntKind.i64 z127)])) ∧
        (True ∧
        Bool.true = Bool.true))) ∧
        ((inR z025 (0 : Int) (4294967295 : Int)) ∧
        (pos0 i126))))))))))) ∧
       ((z010 = (0 : Int) →
       (b6 = b6 ∧
        (Exists (fun (z028 : Int) => (Exists (fun (i129 : Int) => (Exists (fun (z130 : Int) => (((Value.int IntKind.i64 (0 : Int)) = (Value.int IntKind.i64 z028) ∧
        ((cb = cb ∧
        (63 = 63 ∧
        [(Value.slice co cn cc), (Value.int IntKind.i64 i111), (Value.int IntKind.i64 z112)] = [(Value.slice co cn cc), (Value.int IntKind.i64 i129), (Value.int IntKind.i64 z130)])) ∧
        (True ∧
        Bool.true = Bool.true))) ∧
        ((inR z028 (0 : Int) (4294967295 : Int)) ∧
        (pos0 i129))))))))))) ∧
       True))))))))))))))))) ∧
    ((z03 == (0 : Int)) = Bool.false →
    (((z03 == (1 : Int)) = Bool.true →
     (Exists (fun (u31 : (Nat →
      Int)) => (((cb = cb ∧
      (63 = 63 ∧
      (co = co ∧
      (cn = cn ∧
      [(fun (i32 : Nat) => (SC.u8 (cu i32)))] = [(fun (i33 : Nat) => (SC.u8 (u31 i33)))])))) ∧
      ((codeC cn u31) ∧
      ((pos0 i14) ∧
      (inR (200 : Int) (1 : Int) (4294967296 : Int))))) ∧
      (∀ z034 : Int,
      (∀ i135 : Int,
      (∀ z136 : Int,
      ((inR z034 (0 : Int) ((200 : Int) - (1 : Int))) →
      ((pos0 i135) →
       (Exists (fun (z037 : Int) => (Exists (fun (i138 : Int) => (Exists (fun (z139 : Int) => (((Value.int IntKind.i64 z034) = (Value.int IntKind.i64 z037) ∧
        ((cb = cb ∧
        (63 = 63 ∧
        [(Value.slice co cn cc), (Value.int IntKind.i64 i135), (Value.int IntKind.i64 z136)] = [(Value.slice co cn cc), (Value.int IntKind.i64 i138), (Value.int IntKind.i64 z139)])) ∧
        (True ∧
        Bool.true = Bool.true))) ∧
        ((inR z037 (0 : Int) (4294967295 : Int)) ∧
        (pos0 i138)))))))))))))))))) ∧
     ((z03 == (1 : Int)) = Bool.false →
     (Exists (fun (u40 : (Nat →
      Int)) => (((cb = cb ∧
      (63 = 63 ∧
      (co = co ∧
      (cn = cn ∧
      [(fun (i41 : Nat) => (SC.u8 (cu i41)))] = [(fun (i42 : Nat) => (SC.u8 (u40 i42)))])))) ∧
      ((codeC cn u40) ∧
      ((pos0 i14) ∧
      (inR (65536 : Int) (1 : Int) (4294967296 : Int))))) ∧
      (∀ z043 : Int,
      (∀ i144 : Int,
      (∀ z145 : Int,
      ((inR z043 (0 : Int) ((65536 : Int) - (1 : Int))) →
      ((pos0 i144) →
       ((rng (z043 * (65536 : Int))) ∧
        (Exists (fun (u46 : (Nat →
        Int)) => (((cb = cb ∧
        (63 = 63 ∧
        (co = co ∧
        (cn = cn ∧
        [(fun (i47 : Nat) => (SC.u8 (cu i47)))] = [(fun (i48 : Nat) => (SC.u8 (u46 i48)))])))) ∧
        ((codeC cn u46) ∧
        ((pos0 i144) ∧
        (inR (65536 : Int) (1 : Int) (4294967296 : Int))))) ∧
        (∀ z049 : Int,
        (∀ i150 : Int,
        (∀ z151 : Int,
        ((inR z049 (0 : Int) ((65536 : Int) - (1 : Int))) →
        ((pos0 i150) →
         ((rng ((z043 * (65536 : Int)) + z049)) ∧
          (Exists (fun (z052 : Int) => (Exists (fun (i153 : Int) => (Exists (fun (z154 : Int) => (((Value.int IntKind.i64 ((z043 * (65536 : Int)) + z049)) = (Value.int IntKind.i64 z052) ∧
          ((cb = cb ∧
          (63 = 63 ∧
          [(Value.slice co cn cc), (Value.int IntKind.i64 i150), (Value.int IntKind.i64 z151)] = [(Value.slice co cn cc), (Value.int IntKind.i64 i153), (Value.int IntKind.i64 z154)])) ∧
          (True ∧
          Bool.true = Bool.true))) ∧
          ((inR z052 (0 : Int) (4294967295 : Int)) ∧
          (pos0 i153)))))))))))))))))))))))))))))))))))))))) := by kernel_rfl
theorem sWordDC_any (cb : Nat) (co : Option Addr) (cn cc : Nat) (ci cz : Int) (cu : Nat → Int) (w : World) (hs : HS ⟨w, (Ch.cells cb 63 [.sl 1 co cn cc, .int ci, .int cz]).at⟩ [.cells cb 63 [.sl 1 co cn cc, .int ci, .int cz], .row ⟨false, co, 0, 1, cn, 0, [fun i => .u8 (cu i)]⟩] w) (hcode : codeC cn cu) (hci : pos0 ci) : Calls Try.prog 57 #[.pointer (some ⟨cb, 0, none⟩)] w fun e w' => ∃ (z0 : Int) (i1 z1 : Int) , ((inR z0 0 4294967295) ∧ pos0 i1) ∧ e = .returned (.int .i64 (z0)) ∧ HS ⟨w, (Ch.cells cb 63 [.sl 1 co cn cc, .int ci, .int cz]).at⟩ [.cells cb 63 [.sl 1 co cn cc, .int i1, .int z1]] w' := by
  refine fn_ok mixed (E := {tb := [(28, sBelow), (64, sPick)]}) ⟨sBelow_ok, sPick_ok, trivial⟩ Try.func57 (fun _ _ => loopsOK_nil _ _ _) (@Eq.mpr _ _ (sWordDC_T cb co cn cc ci cz cu) ?_) hs (fun v ch' w' ⟨z0, i1, z1, hk, hf⟩ hs => ⟨z0, i1, z1, hf, by rw [hk.1], hk.hs hs⟩)
  clear hs
  have hcn : cn ≤ 1048576 := hcode.1
  have hci0 : 0 ≤ ci := hci
  repeat' (first
    | with_reducible exact rfl
    | exact True.intro
    | with_reducible assumption
    | refine And.intro ?_ ?_
    | apply Exists.intro
    | (intro h; exfalso; simp at h; done)
    | (intro h; replace h := of_decide_eq_true h; first | (exfalso; omega) | skip)
    | (intro h; replace h := of_decide_eq_false h; first | (exfalso; omega) | skip)
    | intro _
    | omega)
def sWordD : Sm := fun args ch k =>
  match args with
  | [.a (.c (.ptr id b off))] =>
    match off, ch[id]? with
    | 0, some (.cells b' t [.sl j ao n cap, ic, hc]) =>
      match ch[j]?, asI ic, asI hc with
      | some (.row r), some i, some z => ∃ u : Nat → Int, ((b = b' ∧ t = 63 ∧ ao = r.ao ∧ n = r.n ∧ r.fld = [fun i => .u8 (u i)]) ∧ codeC n u ∧ pos0 i) ∧ ∀ (z0 : Int), ∀ (i1 z1 : Int), (inR z0 0 4294967295) → pos0 i1 → k (.a (.c (.int (z0)))) (ch.set id (.cells b 63 [.sl j ao n cap, .int i1, .int z1])) [id]
      | _, _, _ => False
    | _, _ => False
  | _ => False
theorem sWordD_ok : SmOK Try.prog 57 sWordD := by
  refine smTurnN Try.call57 fun args ch k w X h0 hs => ?_
  unfold sWordD at h0
  split at h0
  · rename_i id b off
    split at h0
    · rename_i b' t j ao n cap ic hc hid
      split at h0
      · rename_i r i z hj hi hz
        obtain ⟨u, ⟨⟨rfl, rfl, hao, hn, hf⟩, hcode, hi0⟩, h0⟩ := h0
        refine ⟨id, _, hid, rfl, ?_⟩
        simp only [List.map_cons, List.map_nil, den_a, den_c, SA.den]
        exact Calls.mono (sWordDC_any b ao n cap i z u  w (hs.cur' hid hj hi hz hao hn hf) hcode hi0) fun e w' ⟨z0, i1, z1, ⟨hfa, hp⟩, he, hn'⟩ => ⟨.a (.c (.int (z0))), _, [], he, hn'.recur, at_cells, rfl, by simpa using h0 z0 i1 z1 hfa hp⟩
      · exact h0.elim
    · exact h0.elim
  · exact h0.elim
end Go.Proofs.Ytppeocfcdeiemaa
