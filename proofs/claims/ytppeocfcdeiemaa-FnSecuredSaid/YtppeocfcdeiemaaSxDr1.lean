/-
  Cursors over the drawn bytes.
-/
import Derived.Test.YtppeocfcdeiemaaSxBtw
import Derived.Test.YtppeocfcdeiemaaSx16
namespace Go.Proofs.Ytppeocfcdeiemaa
set_option linter.unusedVariables false
set_option linter.unusedSimpArgs false
open Go.RowKit
set_option maxRecDepth 100000
set_option maxHeartbeats 8000000

abbrev inR (x lo hi : Int) : Prop := lo ≤ x ∧ x ≤ hi
theorem and255 (x : Int) : 0 ≤ bits .and .i64 x 255 ∧ bits .and .i64 x 255 ≤ 255 := by
  have h2 : (BitVec.ofInt 64 (255 : Int)).toNat = 255 := by decide
  have : bits .and .i64 x 255 = IntKind.i64.wrap (((BitVec.ofInt 64 x) &&& (BitVec.ofInt 64 (255 : Int))).toNat : Int) := rfl
  rw [this, BitVec.toNat_and, h2, IntKind.wrap_i64]
  have h3 : (BitVec.ofInt 64 x).toNat &&& 255 ≤ 255 := Nat.and_le_right
  generalize (BitVec.ofInt 64 x).toNat &&& 255 = y at *
  omega
theorem and30 (x : Int) : 0 ≤ bits .and .i64 x 1073741823 ∧ bits .and .i64 x 1073741823 ≤ 1073741823 := by
  have h2 : (BitVec.ofInt 64 (1073741823 : Int)).toNat = 1073741823 := by decide
  have : bits .and .i64 x 1073741823 = IntKind.i64.wrap (((BitVec.ofInt 64 x) &&& (BitVec.ofInt 64 (1073741823 : Int))).toNat : Int) := rfl
  rw [this, BitVec.toNat_and, h2, IntKind.wrap_i64]
  have h3 : (BitVec.ofInt 64 x).toNat &&& 1073741823 ≤ 1073741823 := Nat.and_le_right
  generalize (BitVec.ofInt 64 x).toNat &&& 1073741823 = y at *
  omega
theorem add255 (x y : Int) (h : 0 ≤ y ∧ y ≤ 255) : -9223372036854775808 ≤ bits .and .i64 x 255 + y ∧ bits .and .i64 x 255 + y ≤ 9223372036854775807 := by
  have := and255 x
  omega
theorem mod_in (x m : Int) (h : 1 ≤ m) : 0 ≤ x % m ∧ x % m ≤ m - 1 := by
  have h1 := Int.emod_nonneg x (show m ≠ 0 by omega)
  have h2 := Int.emod_lt_of_pos x (show 0 < m by omega)
  omega
theorem sByteC_T (cb : Nat) (co : Option Addr) (cn cc : Nat) (ci cz : Int) (cu : Nat → Int) : (exFn Try.prog {tb := []} 400 Try.f55 ([.a (.c (.ptr 0 cb 0))]) ([.cells cb 63 [.sl 1 co cn cc, .int ci, .int cz], .row ⟨false, co, 0, 1, cn, 0, [fun i => .u8 (cu i)]⟩]) (fun v ch => ∃ (z0 : Int) (i1 z1 : Int) , OutC v ch (.int .i64 (z0)) (.cells cb 63 [.sl 1 co cn cc, .int i1, .int z1]) [] ∧ (inR z0 0 255) ∧ pos0 i1)) = (
  (cb = cb ∧
  (∀ z0 : Int,
  (z0 = (wrapI (cz * (6364136223846793005 : Int))) →
  (∀ z1 : Int,
   (z1 = (wrapI (z0 + (1442695040888963407 : Int))) →
   (cb = cb ∧
    (cb = cb ∧
    (cb = cb ∧
    (cb = cb ∧
    (cb = cb ∧
    (((decide (ci < ((cn : Nat) : Int))) = Bool.true →
    (cb = cb ∧
     (cb = cb ∧
     (co = co ∧
     (cn = cn ∧
     ((0 ≤ ci ∧ ci < ((cn : Nat) : Int)) ∧
     (co = co ∧
     ((Int.toNat ci) < cn ∧
     ((rng (cu (Int.toNat ci))) ∧
     ((rng ((bits BinOp.and .i64 (bits BinOp.xor .i64 (z1 / (8589934592 : Int)) (z1 / (35184372088832 : Int))) (255 : Int)) + (cu (Int.toNat ci)))) ∧
     (cb = cb ∧
     ((rng (ci + (1 : Int))) ∧
     (cb = cb ∧
     (Exists (fun (z02 : Int) => (Exists (fun (i13 : Int) => (Exists (fun (z14 : Int) => (((Value.int IntKind.i64 (bits BinOp.and .i64 ((bits BinOp.and .i64 (bits BinOp.xor .i64 (z1 / (8589934592 : Int)) (z1 / (35184372088832 : Int))) (255 : Int)) + (cu (Int.toNat ci))) (255 : Int))) = (Value.int IntKind.i64 z02) ∧
     ((cb = cb ∧
     (63 = 63 ∧
     [(Value.slice co cn cc), (Value.int IntKind.i64 (ci + (1 : Int))), (Value.int IntKind.i64 z1)] = [(Value.slice co cn cc), (Value.int IntKind.i64 i13), (Value.int IntKind.i64 z14)])) ∧
     (True ∧
     Bool.true = Bool.true))) ∧
     ((inR z02 (0 : Int) (255 : Int)) ∧
     (pos0 i13)))))))))))))))))))))) ∧
    ((decide (ci < ((cn : Nat) : Int))) = Bool.false →
    (Exists (fun (z05 : Int) => (Exists (fun (i16 : Int) => (Exists (fun (z17 : Int) => (((Value.int IntKind.i64 (bits BinOp.and .i64 (bits BinOp.xor .i64 (z1 / (8589934592 : Int)) (z1 / (35184372088832 : Int))) (255 : Int))) = (Value.int IntKind.i64 z05) ∧
     ((cb = cb ∧
     (63 = 63 ∧
     [(Value.slice co cn cc), (Value.int IntKind.i64 ci), (Value.int IntKind.i64 z1)] = [(Value.slice co cn cc), (Value.int IntKind.i64 i16), (Value.int IntKind.i64 z17)])) ∧
     (True ∧
     Bool.true = Bool.true))) ∧
     ((inR z05 (0 : Int) (255 : Int)) ∧
     (pos0 i16)))))))))))))))))))))) := by kernel_rfl
theorem sByteC_any (cb : Nat) (co : Option Addr) (cn cc : Nat) (ci cz : Int) (cu : Nat → Int) (w : World) (hs : HS ⟨w, (Ch.cells cb 63 [.sl 1 co cn cc, .int ci, .int cz]).at⟩ [.cells cb 63 [.sl 1 co cn cc, .int ci, .int cz], .row ⟨false, co, 0, 1, cn, 0, [fun i => .u8 (cu i)]⟩] w) (hcode : codeC cn cu) (hci : pos0 ci) : Calls Try.prog 55 #[.pointer (some ⟨cb, 0, none⟩)] w fun e w' => ∃ (z0 : Int) (i1 z1 : Int) , ((inR z0 0 255) ∧ pos0 i1) ∧ e = .returned (.int .i64 (z0)) ∧ HS ⟨w, (Ch.cells cb 63 [.sl 1 co cn cc, .int ci, .int cz]).at⟩ [.cells cb 63 [.sl 1 co cn cc, .int i1, .int z1]] w' := by
  refine fn_ok mixed (E := {tb := []}) trivial Try.func55 (fun _ _ => loopsOK_nil _ _ _) (@Eq.mpr _ _ (sByteC_T cb co cn cc ci cz cu) ?_) hs (fun v ch' w' ⟨z0, i1, z1, hk, hf⟩ hs => ⟨z0, i1, z1, hf, by rw [hk.1], hk.hs hs⟩)
  clear hs
  have hcn : cn ≤ 1048576 := hcode.1
  have hci0 : 0 ≤ ci := hci
  have hub := hcode.2 ci.toNat
  repeat' (first
    | with_reducible exact rfl
    | exact True.intro
    | with_reducible assumption
    | exact and255 _
    | exact (add255 _ _ hub).1
    | exact (add255 _ _ hub).2
    | refine And.intro ?_ ?_
    | apply Exists.intro
    | (intro h; exfalso; simp at h; done)
    | (intro h; replace h := of_decide_eq_true h; first | (exfalso; omega) | skip)
    | (intro h; replace h := of_decide_eq_false h; first | (exfalso; omega) | skip)
    | intro _
    | omega)
def sByte : Sm := fun args ch k =>
  match args with
  | [.a (.c (.ptr id b off))] =>
    match off, ch[id]? with
    | 0, some (.cells b' t [.sl j ao n cap, ic, hc]) =>
      match ch[j]?, asI ic, asI hc with
      | some (.row r), some i, some z => ∃ u : Nat → Int, ((b = b' ∧ t = 63 ∧ ao = r.ao ∧ n = r.n ∧ r.fld = [fun i => .u8 (u i)]) ∧ codeC n u ∧ pos0 i) ∧ ∀ (z0 : Int), ∀ (i1 z1 : Int), (inR z0 0 255) → pos0 i1 → k (.a (.c (.int (z0)))) (ch.set id (.cells b 63 [.sl j ao n cap, .int i1, .int z1])) [id]
      | _, _, _ => False
    | _, _ => False
  | _ => False
theorem sByte_ok : SmOK Try.prog 55 sByte := by
  refine smTurnN Try.call55 fun args ch k w X h0 hs => ?_
  unfold sByte at h0
  split at h0
  · rename_i id b off
    split at h0
    · rename_i b' t j ao n cap ic hc hid
      split at h0
      · rename_i r i z hj hi hz
        obtain ⟨u, ⟨⟨rfl, rfl, hao, hn, hf⟩, hcode, hi0⟩, h0⟩ := h0
        refine ⟨id, _, hid, rfl, ?_⟩
        simp only [List.map_cons, List.map_nil, den_a, den_c, SA.den]
        exact Calls.mono (sByteC_any b ao n cap i z u  w (hs.cur' hid hj hi hz hao hn hf) hcode hi0) fun e w' ⟨z0, i1, z1, ⟨hfa, hp⟩, he, hn'⟩ => ⟨.a (.c (.int (z0))), _, [], he, hn'.recur, at_cells, rfl, by simpa using h0 z0 i1 z1 hfa hp⟩
      · exact h0.elim
    · exact h0.elim
  · exact h0.elim
theorem sBelowC_T (cb : Nat) (co : Option Addr) (cn cc : Nat) (ci cz : Int) (cu : Nat → Int) (m : Int) : (exFn Try.prog {tb := [(55, sByte)]} 400 Try.f28 ([.a (.c (.ptr 0 cb 0)), .a (.c (.int m))]) ([.cells cb 63 [.sl 1 co cn cc, .int ci, .int cz], .row ⟨false, co, 0, 1, cn, 0, [fun i => .u8 (cu i)]⟩]) (fun v ch => ∃ (z0 : Int) (i1 z1 : Int) , OutC v ch (.int .i64 (z0)) (.cells cb 63 [.sl 1 co cn cc, .int i1, .int z1]) [] ∧ (inR z0 0 (isub m 1)) ∧ pos0 i1)) = (
  (((decide (m ≤ (0 : Int))) = Bool.true →
  (Exists (fun (z00 : Int) => (Exists (fun (i11 : Int) => (Exists (fun (z12 : Int) => (((Value.int IntKind.i64 (0 : Int)) = (Value.int IntKind.i64 z00) ∧
   ((cb = cb ∧
   (63 = 63 ∧
   [(Value.slice co cn cc), (Value.int IntKind.i64 ci), (Value.int IntKind.i64 cz)] = [(Value.slice co cn cc), (Value.int IntKind.i64 i11), (Value.int IntKind.i64 z12)])) ∧
   (True ∧
   Bool.true = Bool.true))) ∧
   ((inR z00 (0 : Int) (m - (1 : Int))) ∧
   (pos0 i11)))))))))) ∧
  ((decide (m ≤ (0 : Int))) = Bool.false →
  (((decide (m ≤ (256 : Int))) = Bool.true →
   (Exists (fun (u3 : (Nat →
    Int)) => (((cb = cb ∧
    (63 = 63 ∧
    (co = co ∧
    (cn = cn ∧
    [(fun (i4 : Nat) => (SC.u8 (cu i4)))] = [(fun (i5 : Nat) => (SC.u8 (u3 i5)))])))) ∧
    ((codeC cn u3) ∧
    (pos0 ci))) ∧
    (∀ z06 : Int,
    (∀ i17 : Int,
    (∀ z18 : Int,
    ((inR z06 (0 : Int) (255 : Int)) →
    ((pos0 i17) →
     ((divC z06 m) ∧
      (Exists (fun (z09 : Int) => (Exists (fun (i110 : Int) => (Exists (fun (z111 : Int) => (((Value.int IntKind.i64 (z06 % m)) = (Value.int IntKind.i64 z09) ∧
      ((cb = cb ∧
      (63 = 63 ∧
      [(Value.slice co cn cc), (Value.int IntKind.i64 i17), (Value.int IntKind.i64 z18)] = [(Value.slice co cn cc), (Value.int IntKind.i64 i110), (Value.int IntKind.i64 z111)])) ∧
      (True ∧
      Bool.true = Bool.true))) ∧
      ((inR z09 (0 : Int) (m - (1 : Int))) ∧
      (pos0 i110))))))))))))))))))) ∧
   ((decide (m ≤ (256 : Int))) = Bool.false →
   (Exists (fun (u12 : (Nat →
    Int)) => (((cb = cb ∧
    (63 = 63 ∧
    (co = co ∧
    (cn = cn ∧
    [(fun (i13 : Nat) => (SC.u8 (cu i13)))] = [(fun (i14 : Nat) => (SC.u8 (u12 i14)))])))) ∧
    ((codeC cn u12) ∧
    (pos0 ci))) ∧
    (∀ z015 : Int,
    (∀ i116 : Int,
    (∀ z117 : Int,
    ((inR z015 (0 : Int) (255 : Int)) →
    ((pos0 i116) →
     (Exists (fun (u18 : (Nat →
      Int)) => (((cb = cb ∧
      (63 = 63 ∧
      (co = co ∧
      (cn = cn ∧
      [(fun (i19 : Nat) => (SC.u8 (cu i19)))] = [(fun (i20 : Nat) => (SC.u8 (u18 i20)))])))) ∧
      ((codeC cn u18) ∧
      (pos0 i116))) ∧
      (∀ z021 : Int,
      (∀ i122 : Int,
      (∀ z123 : Int,
      ((inR z021 (0 : Int) (255 : Int)) →
      ((pos0 i122) →
       (Exists (fun (u24 : (Nat →
        Int)) => (((cb = cb ∧
        (63 = 63 ∧
        (co = co ∧
        (cn = cn ∧
        [(fun (i25 : Nat) => (SC.u8 (cu i25)))] = [(fun (i26 : Nat) => (SC.u8 (u24 i26)))])))) ∧
        ((codeC cn u24) ∧
        (pos0 i122))) ∧
        (∀ z027 : Int,
        (∀ i128 : Int,
        (∀ z129 : Int,
        ((inR z027 (0 : Int) (255 : Int)) →
        ((pos0 i128) →
         (Exists (fun (u30 : (Nat →
          Int)) => (((cb = cb ∧
          (63 = 63 ∧
          (co = co ∧
          (cn = cn ∧
          [(fun (i31 : Nat) => (SC.u8 (cu i31)))] = [(fun (i32 : Nat) => (SC.u8 (u30 i32)))])))) ∧
          ((codeC cn u30) ∧
          (pos0 i128))) ∧
          (∀ z033 : Int,
          (∀ i134 : Int,
          (∀ z135 : Int,
          ((inR z033 (0 : Int) (255 : Int)) →
          ((pos0 i134) →
           ((rng (z015 * (16777216 : Int))) ∧
            ((rng (z021 * (65536 : Int))) ∧
            ((rng ((z015 * (16777216 : Int)) + (z021 * (65536 : Int)))) ∧
            ((rng (z027 * (256 : Int))) ∧
            ((rng (((z015 * (16777216 : Int)) + (z021 * (65536 : Int))) + (z027 * (256 : Int)))) ∧
            ((rng ((((z015 * (16777216 : Int)) + (z021 * (65536 : Int))) + (z027 * (256 : Int))) + z033)) ∧
            ((divC ((((z015 * (16777216 : Int)) + (z021 * (65536 : Int))) + (z027 * (256 : Int))) + z033) m) ∧
            (Exists (fun (z036 : Int) => (Exists (fun (i137 : Int) => (Exists (fun (z138 : Int) => (((Value.int IntKind.i64 (((((z015 * (16777216 : Int)) + (z021 * (65536 : Int))) + (z027 * (256 : Int))) + z033) % m)) = (Value.int IntKind.i64 z036) ∧
            ((cb = cb ∧
            (63 = 63 ∧
            [(Value.slice co cn cc), (Value.int IntKind.i64 i134), (Value.int IntKind.i64 z135)] = [(Value.slice co cn cc), (Value.int IntKind.i64 i137), (Value.int IntKind.i64 z138)])) ∧
            (True ∧
            Bool.true = Bool.true))) ∧
            ((inR z036 (0 : Int) (m - (1 : Int))) ∧
            (pos0 i137))))))))))))))))))))))))))))))))))))))))))))))))))))) := by kernel_rfl
theorem sBelowC_any (cb : Nat) (co : Option Addr) (cn cc : Nat) (ci cz : Int) (cu : Nat → Int) (m : Int) (w : World) (hs : HS ⟨w, (Ch.cells cb 63 [.sl 1 co cn cc, .int ci, .int cz]).at⟩ [.cells cb 63 [.sl 1 co cn cc, .int ci, .int cz], .row ⟨false, co, 0, 1, cn, 0, [fun i => .u8 (cu i)]⟩] w) (hcode : codeC cn cu) (hci : pos0 ci) (hpre : inR m 1 4294967296) : Calls Try.prog 28 #[.pointer (some ⟨cb, 0, none⟩), .int .i64 m] w fun e w' => ∃ (z0 : Int) (i1 z1 : Int) , ((inR z0 0 (isub m 1)) ∧ pos0 i1) ∧ e = .returned (.int .i64 (z0)) ∧ HS ⟨w, (Ch.cells cb 63 [.sl 1 co cn cc, .int ci, .int cz]).at⟩ [.cells cb 63 [.sl 1 co cn cc, .int i1, .int z1]] w' := by
  refine fn_ok mixed (E := {tb := [(55, sByte)]}) ⟨sByte_ok, trivial⟩ Try.func28 (fun _ _ => loopsOK_nil _ _ _) (@Eq.mpr _ _ (sBelowC_T cb co cn cc ci cz cu m) ?_) hs (fun v ch' w' ⟨z0, i1, z1, hk, hf⟩ hs => ⟨z0, i1, z1, hf, by rw [hk.1], hk.hs hs⟩)
  clear hs
  have hcn : cn ≤ 1048576 := hcode.1
  have hci0 : 0 ≤ ci := hci
  repeat' (first
    | with_reducible exact rfl
    | exact True.intro
    | with_reducible assumption
    | exact mod_in _ _ (by omega)
    | refine And.intro ?_ ?_
    | apply Exists.intro
    | (intro h; exfalso; simp at h; done)
    | (intro h; replace h := of_decide_eq_true h; first | (exfalso; omega) | skip)
    | (intro h; replace h := of_decide_eq_false h; first | (exfalso; omega) | skip)
    | intro _
    | omega)
def sBelow : Sm := fun args ch k =>
  match args with
  | [.a (.c (.ptr id b off)), .a (.c c0)] =>
    match off, ch[id]? with
    | 0, some (.cells b' t [.sl j ao n cap, ic, hc]) =>
      match ch[j]?, asI ic, asI hc, ints [c0] with
      | some (.row r), some i, some z, some [m] => ∃ u : Nat → Int, ((b = b' ∧ t = 63 ∧ ao = r.ao ∧ n = r.n ∧ r.fld = [fun i => .u8 (u i)]) ∧ codeC n u ∧ pos0 i ∧ inR m 1 4294967296) ∧ ∀ (z0 : Int), ∀ (i1 z1 : Int), (inR z0 0 (isub m 1)) → pos0 i1 → k (.a (.c (.int (z0)))) (ch.set id (.cells b 63 [.sl j ao n cap, .int i1, .int z1])) [id]
      | _, _, _, _ => False
    | _, _ => False
  | _ => False
theorem sBelow_ok : SmOK Try.prog 28 sBelow := by
  refine smTurnN Try.call28 fun args ch k w X h0 hs => ?_
  unfold sBelow at h0
  split at h0
  · rename_i id b off c0
    split at h0
    · rename_i b' t j ao n cap ic hc hid
      split at h0
      · rename_i r i z m hj hi hz hI
        obtain ⟨u, ⟨⟨rfl, rfl, hao, hn, hf⟩, hcode, hi0, hpre⟩, h0⟩ := h0
        obtain ⟨ec0, hI⟩ := ints_cons hI
        refine ⟨id, _, hid, rfl, ?_⟩
        simp only [List.map_cons, List.map_nil, den_a, den_c, SA.den, ec0]
        exact Calls.mono (sBelowC_any b ao n cap i z u m w (hs.cur' hid hj hi hz hao hn hf) hcode hi0 hpre) fun e w' ⟨z0, i1, z1, ⟨hfa, hp⟩, he, hn'⟩ => ⟨.a (.c (.int (z0))), _, [], he, hn'.recur, at_cells, rfl, by simpa using h0 z0 i1 z1 hfa hp⟩
      · exact h0.elim
    · exact h0.elim
  · exact h0.elim
def nwH (co : Option Addr) (cn cc : Nat) (cu : Nat → Int) (i z : SC) (g : Nat → Value) : List SV := [.a (.c (.sl 0 co cn cc)), .a (.c (.val (g 1))), .a (.c (.val (g 2))), .a (.c z), .a (.c i), .a (.c (.val (g 5))), .a (.c (.val (g 6))), .a (.c (.val (g 7))), .a (.c (.val (g 8))), .a (.c (.val (g 9))), .a (.c (.val (g 10))), .a (.c (.val (g 11))), .a (.c (.val (g 12))), .a (.c (.val (g 13))), .a (.c (.val (g 14))), .a (.c (.val (g 15))), .a (.c (.val (g 16))), .a (.c (.val (g 17))), .a (.c (.val (g 18))), .a (.c (.val (g 19))), .a (.c (.val (g 20))), .a (.c (.val (g 21))), .a (.c (.val (g 22))), .a (.c (.val (g 23))), .a (.c (.val (g 24))), .a (.c (.val (g 25))), .a (.c (.val (g 26))), .a (.c (.val (g 27))), .a (.c (.val (g 28))), .a (.c (.val (g 29))), .a (.c (.val (g 30))), .a (.c (.val (g 31)))]
def snw (co : Option Addr) (cn cc : Nat) (cu : Nat → Int) : LSm := fun ts ch kk => ∃ z : Int, (ts.map SV.den = (nwH co cn cc cu (.il 0) (.int z) (fun d => (ts.getD d .undef).den)).map SV.den ∧ ch = [.row ⟨false, co, 0, 1, cn, 0, [fun i => .u8 (cu i)]⟩] ∧ inR z 0 1073741823) ∧ ∀ (g : Nat → Value) (k z : Int), inR z 0 1073741823 → kk (.exit 0) (nwH co cn cc cu (.int k) (.int z) g) [.row ⟨false, co, 0, 1, cn, 0, [fun i => .u8 (cu i)]⟩]
theorem nwB (co : Option Addr) (cn cc : Nat) (cu : Nat → Int) (z : Int) (j : Nat) (g : Nat → Value) (NX : List SV → List Ch → Prop) (kx : Exit → List SV → List Ch → Prop) : (exCode Try.prog {} 400 (theLoop Try.f27 0) (nwH co cn cc cu (.int (j : Int)) (.int z) g) ([.row ⟨false, co, 0, 1, cn, 0, [fun i => .u8 (cu i)]⟩]) (loopK NX kx)) = (
  (((decide (((j : Nat) : Int) < ((cn : Nat) : Int))) = Bool.true →
  (((decide (((j : Nat) : Int) < (4000 : Int))) = Bool.true →
   ((rng (z * (131 : Int))) ∧
    (co = co ∧
    (cn = cn ∧
    ((0 ≤ ((j : Nat) : Int) ∧ ((j : Nat) : Int) < ((cn : Nat) : Int)) ∧
    (co = co ∧
    (j < cn ∧
    ((rng (cu j)) ∧
    ((rng ((z * (131 : Int)) + (cu j))) ∧
    ((rng (((z * (131 : Int)) + (cu j)) + (7 : Int))) ∧
    ((rng (((j : Nat) : Int) + (1 : Int))) ∧
    (NX [(SV.a (SA.c (SC.sl 0 co cn cc))), (SV.a (SA.c (SC.val (g 1)))), (SV.a (SA.c (SC.val (g 2)))), (SV.a (SA.c (SC.int (bits BinOp.and .i64 (((z * (131 : Int)) + (cu j)) + (7 : Int)) (1073741823 : Int))))), (SV.a (SA.c (SC.int (((j : Nat) : Int) + (1 : Int))))), (SV.a (SA.c (SC.val (g 5)))), (SV.a (SA.c (SC.val (g 6)))), (SV.a (SA.c (SC.val (g 7)))), (SV.a (SA.c (SC.int ((j : Nat) : Int)))), (SV.a (SA.c (SC.sl 0 co cn cc))), (SV.a (SA.c (SC.int ((cn : Nat) : Int)))), (SV.a (SA.c (SC.bool (decide (((j : Nat) : Int) < ((cn : Nat) : Int)))))), (SV.a (SA.c (SC.lit Bool.true))), (SV.a (SA.c (SC.int ((j : Nat) : Int)))), (SV.a (SA.c (SC.bool (decide (((j : Nat) : Int) < (4000 : Int)))))), (SV.a (SA.c (SC.lit Bool.true))), (SV.a (SA.c (SC.int ((j : Nat) : Int)))), (SV.a (SA.c (SC.int (((j : Nat) : Int) + (1 : Int))))), (SV.a (SA.c (SC.int z))), (SV.a (SA.c (SC.int (z * (131 : Int))))), (SV.a (SA.c (SC.sl 0 co cn cc))), (SV.a (SA.c (SC.int ((j : Nat) : Int)))), (SV.a (SA.c (SC.rptr 0 co 1 j 0))), (SV.a (SA.c (SC.u8 (cu j)))), (SV.a (SA.c (SC.int (cu j)))), (SV.a (SA.c (SC.int ((z * (131 : Int)) + (cu j))))), (SV.a (SA.c (SC.int (((z * (131 : Int)) + (cu j)) + (7 : Int))))), (SV.a (SA.c (SC.int (bits BinOp.and .i64 (((z * (131 : Int)) + (cu j)) + (7 : Int)) (1073741823 : Int))))), (SV.a (SA.c (SC.val (g 28)))), (SV.a (SA.c (SC.val (g 29)))), (SV.a (SA.c (SC.val (g 30)))), (SV.a (SA.c (SC.val (g 31))))] [(Ch.row (Row.mk Bool.false co 0 1 cn 0 [(fun (i0 : Nat) => (SC.u8 (cu i0)))]))])))))))))))) ∧
   ((decide (((j : Nat) : Int) < (4000 : Int))) = Bool.false →
   (kx (Exit.exit 0) [(SV.a (SA.c (SC.sl 0 co cn cc))), (SV.a (SA.c (SC.val (g 1)))), (SV.a (SA.c (SC.val (g 2)))), (SV.a (SA.c (SC.int z))), (SV.a (SA.c (SC.int ((j : Nat) : Int)))), (SV.a (SA.c (SC.val (g 5)))), (SV.a (SA.c (SC.val (g 6)))), (SV.a (SA.c (SC.val (g 7)))), (SV.a (SA.c (SC.int ((j : Nat) : Int)))), (SV.a (SA.c (SC.sl 0 co cn cc))), (SV.a (SA.c (SC.int ((cn : Nat) : Int)))), (SV.a (SA.c (SC.bool (decide (((j : Nat) : Int) < ((cn : Nat) : Int)))))), (SV.a (SA.c (SC.lit Bool.true))), (SV.a (SA.c (SC.int ((j : Nat) : Int)))), (SV.a (SA.c (SC.bool (decide (((j : Nat) : Int) < (4000 : Int)))))), (SV.a (SA.c (SC.lit Bool.false))), (SV.a (SA.c (SC.val (g 16)))), (SV.a (SA.c (SC.val (g 17)))), (SV.a (SA.c (SC.val (g 18)))), (SV.a (SA.c (SC.val (g 19)))), (SV.a (SA.c (SC.val (g 20)))), (SV.a (SA.c (SC.val (g 21)))), (SV.a (SA.c (SC.val (g 22)))), (SV.a (SA.c (SC.val (g 23)))), (SV.a (SA.c (SC.val (g 24)))), (SV.a (SA.c (SC.val (g 25)))), (SV.a (SA.c (SC.val (g 26)))), (SV.a (SA.c (SC.val (g 27)))), (SV.a (SA.c (SC.val (g 28)))), (SV.a (SA.c (SC.val (g 29)))), (SV.a (SA.c (SC.val (g 30)))), (SV.a (SA.c (SC.val (g 31))))] [(Ch.row (Row.mk Bool.false co 0 1 cn 0 [(fun (i1 : Nat) => (SC.u8 (cu i1)))]))])))) ∧
  ((decide (((j : Nat) : Int) < ((cn : Nat) : Int))) = Bool.false →
  (kx (Exit.exit 0) [(SV.a (SA.c (SC.sl 0 co cn cc))), (SV.a (SA.c (SC.val (g 1)))), (SV.a (SA.c (SC.val (g 2)))), (SV.a (SA.c (SC.int z))), (SV.a (SA.c (SC.int ((j : Nat) : Int)))), (SV.a (SA.c (SC.val (g 5)))), (SV.a (SA.c (SC.val (g 6)))), (SV.a (SA.c (SC.val (g 7)))), (SV.a (SA.c (SC.int ((j : Nat) : Int)))), (SV.a (SA.c (SC.sl 0 co cn cc))), (SV.a (SA.c (SC.int ((cn : Nat) : Int)))), (SV.a (SA.c (SC.bool (decide (((j : Nat) : Int) < ((cn : Nat) : Int)))))), (SV.a (SA.c (SC.lit Bool.false))), SV.undef, SV.undef, (SV.a (SA.c (SC.lit Bool.false))), (SV.a (SA.c (SC.val (g 16)))), (SV.a (SA.c (SC.val (g 17)))), (SV.a (SA.c (SC.val (g 18)))), (SV.a (SA.c (SC.val (g 19)))), (SV.a (SA.c (SC.val (g 20)))), (SV.a (SA.c (SC.val (g 21)))), (SV.a (SA.c (SC.val (g 22)))), (SV.a (SA.c (SC.val (g 23)))), (SV.a (SA.c (SC.val (g 24)))), (SV.a (SA.c (SC.val (g 25)))), (SV.a (SA.c (SC.val (g 26)))), (SV.a (SA.c (SC.val (g 27)))), (SV.a (SA.c (SC.val (g 28)))), (SV.a (SA.c (SC.val (g 29)))), (SV.a (SA.c (SC.val (g 30)))), (SV.a (SA.c (SC.val (g 31))))] [(Ch.row (Row.mk Bool.false co 0 1 cn 0 [(fun (i2 : Nat) => (SC.u8 (cu i2)))]))])))) := by kernel_rfl
theorem nw_ok (co : Option Addr) (cn cc : Nat) (cu : Nat → Int) (hcode : codeC cn cu) (X : Cx) : LoopOK Try.prog X (theLoop Try.f27 0) (snw co cn cc cu) := by
  intro ts ch kk a w hS hT hd hs
  obtain ⟨z0, ⟨h1, rfl, hz0⟩, hk⟩ := hS
  have hcn := hcode.1
  refine loop_ok mixed (E := {}) trivial (loopsOK_nil _ _ _) 400 4000 (fun j ts ch => ∃ g z, inR z 0 1073741823 ∧ ts = nwH co cn cc cu (.int (j : Int)) (.int z) g ∧ ch = [.row ⟨false, co, 0, 1, cn, 0, [fun i => .u8 (cu i)]⟩]) ?_ ?_ hT hd hs
  · rintro j _ _ ⟨g, z, hz, rfl, rfl⟩ hj
    refine (@Eq.mpr _ _ (nwB co cn cc cu z j g _ _) ?_)
    have hu := hcode.2 j
    have hz1 := hz.1
    have hz2 := hz.2
    by_cases hlt : j < 4000
    · by_cases hln : j < cn
      · repeat' (first
          | with_reducible exact rfl
          | exact True.intro
          | with_reducible assumption
          | (refine ⟨hlt, ?_⟩; show Next _ _ _ _; refine Next.mk (fun g => nwH co cn cc cu (.int ((j + 1 : Nat) : Int)) (.int _) g) _ ⟨_, _, and30 _, rfl, rfl⟩ rfl fun w hw => hw)
          | refine And.intro ?_ ?_
          | (intro h; replace h := of_decide_eq_true h; first | (exfalso; omega) | skip)
          | (intro h; replace h := of_decide_eq_false h; first | (exfalso; omega) | skip)
          | intro _
          | omega)
      · repeat' (first
          | with_reducible exact rfl
          | exact True.intro
          | with_reducible assumption
          | (refine Next.mk (fun g => nwH co cn cc cu (.int (j : Int)) (.int z) g) _ (hk _ _ _ hz) rfl fun w hw => hw)
          | refine And.intro ?_ ?_
          | (intro h; replace h := of_decide_eq_true h; first | (exfalso; omega) | skip)
          | (intro h; replace h := of_decide_eq_false h; first | (exfalso; omega) | skip)
          | intro _
          | omega)
    · repeat' (first
        | with_reducible exact rfl
        | exact True.intro
        | with_reducible assumption
        | (refine Next.mk (fun g => nwH co cn cc cu (.int (j : Int)) (.int z) g) _ (hk _ _ _ hz) rfl fun w hw => hw)
        | refine And.intro ?_ ?_
        | (intro h; replace h := of_decide_eq_true h; first | (exfalso; omega) | skip)
        | (intro h; replace h := of_decide_eq_false h; first | (exfalso; omega) | skip)
        | intro _
        | omega)
  · exact Next.mk (fun g => nwH co cn cc cu (.int ((0 : Nat) : Int)) (.int z0) g) _ ⟨_, _, hz0, rfl, rfl⟩ h1 fun w hw => hw
theorem new_T (co : Option Addr) (cn cc : Nat) (cu : Nat → Int) : (exFn Try.prog { L := [(3, snw co cn cc cu)] } 400 Try.f27 ([.a (.c (.sl 0 co cn cc))]) ([.row ⟨false, co, 0, 1, cn, 0, [fun i => .u8 (cu i)]⟩]) (fun v ch => ∃ (b : Nat) (z : Int), v.den = .pointer (some ⟨b, 0, none⟩) ∧ CurRel (ch.getD 1 .dead) (.cells b 63 [.sl 0 co cn cc, .int 0, .int z]))) = (
  ((rng ((97301 : Int) + ((cn : Nat) : Int))) ∧
  (Exists (fun (z0 : Int) => (([(Value.slice co cn cc), (Value.tuple (List.toArray [])), (Value.pointer Option.none), (Value.int IntKind.i64 ((97301 : Int) + ((cn : Nat) : Int))), (Value.int IntKind.i64 (0 : Int)), (Value.slice co cn cc), (Value.int IntKind.i64 ((cn : Nat) : Int)), (Value.int IntKind.i64 ((97301 : Int) + ((cn : Nat) : Int))), (Value.tuple (List.toArray [])), (Value.tuple (List.toArray [])), (Value.tuple (List.toArray [])), (Value.tuple (List.toArray [])), (Value.tuple (List.toArray [])), (Value.tuple (List.toArray [])), (Value.tuple (List.toArray [])), (Value.tuple (List.toArray [])), (Value.tuple (List.toArray [])), (Value.tuple (List.toArray [])), (Value.tuple (List.toArray [])), (Value.tuple (List.toArray [])), (Value.tuple (List.toArray [])), (Value.tuple (List.toArray [])), (Value.tuple (List.toArray [])), (Value.tuple (List.toArray [])), (Value.tuple (List.toArray [])), (Value.tuple (List.toArray [])), (Value.tuple (List.toArray [])), (Value.tuple (List.toArray [])), (Value.tuple (List.toArray [])), (Value.tuple (List.toArray [])), (Value.tuple (List.toArray [])), (Value.tuple (List.toArray []))] = [(Value.slice co cn cc), (Value.tuple (List.toArray [])), (Value.pointer Option.none), (Value.int IntKind.i64 z0), (Value.int IntKind.i64 (0 : Int)), (Value.slice co cn cc), (Value.int IntKind.i64 ((cn : Nat) : Int)), (Value.int IntKind.i64 ((97301 : Int) + ((cn : Nat) : Int))), (Value.tuple (List.toArray [])), (Value.tuple (List.toArray [])), (Value.tuple (List.toArray [])), (Value.tuple (List.toArray [])), (Value.tuple (List.toArray [])), (Value.tuple (List.toArray [])), (Value.tuple (List.toArray [])), (Value.tuple (List.toArray [])), (Value.tuple (List.toArray [])), (Value.tuple (List.toArray [])), (Value.tuple (List.toArray [])), (Value.tuple (List.toArray [])), (Value.tuple (List.toArray [])), (Value.tuple (List.toArray [])), (Value.tuple (List.toArray [])), (Value.tuple (List.toArray [])), (Value.tuple (List.toArray [])), (Value.tuple (List.toArray [])), (Value.tuple (List.toArray [])), (Value.tuple (List.toArray [])), (Value.tuple (List.toArray [])), (Value.tuple (List.toArray [])), (Value.tuple (List.toArray [])), (Value.tuple (List.toArray []))] ∧
  ([(Ch.row (Row.mk Bool.false co 0 1 cn 0 [(fun (i1 : Nat) => (SC.u8 (cu i1)))]))] = [(Ch.row (Row.mk Bool.false co 0 1 cn 0 [(fun (i2 : Nat) => (SC.u8 (cu i2)))]))] ∧
  (inR z0 (0 : Int) (1073741823 : Int)))) ∧
  (∀ g3 : (Nat →
  Value),
  (∀ k4 : Int,
  (∀ z5 : Int,
  ((inR z5 (0 : Int) (1073741823 : Int)) →
  (∀ b6 : Nat,
   (Exists (fun (b7 : Nat) => (Exists (fun (z8 : Int) => ((Value.pointer (Option.some (Addr.mk b6 0 Option.none))) = (Value.pointer (Option.some (Addr.mk b7 0 Option.none))) ∧
   (b6 = b7 ∧
   (63 = 63 ∧
   [(Value.slice co cn cc), (Value.int IntKind.i64 (0 : Int)), (Value.int IntKind.i64 z5)] = [(Value.slice co cn cc), (Value.int IntKind.i64 (0 : Int)), (Value.int IntKind.i64 z8)]))))))))))))))))) := by kernel_rfl
theorem new_any (co : Option Addr) (cn cc : Nat) (cu : Nat → Int) (w : World) (hr : Row.sat w ⟨false, co, 0, 1, cn, 0, [fun i => .u8 (cu i)]⟩) (hcode : codeC cn cu) : Calls Try.prog 27 #[.slice co cn cc] w fun e w' => ∃ (b : Nat) (z : Int), e = .returned (.pointer (some ⟨b, 0, none⟩)) ∧ HS ⟨w, fun _ => False⟩ [.cells b 63 [.sl 0 co cn cc, .int 0, .int z]] w' := by
  refine fn_ok mixed (E := { L := [(3, snw co cn cc cu)] }) trivial Try.func27 (one_loop (by kernel_rfl) (by kernel_rfl) (nw_ok co cn cc cu hcode _)) (@Eq.mpr _ _ (new_T co cn cc cu) ?_) (HS.rows (fun _ => False) [⟨false, co, 0, 1, cn, 0, [fun i => .u8 (cu i)]⟩] (by simpa using hr)) (fun v ch' w' ⟨b, z, hv, hk⟩ hs => ⟨b, z, by rw [hv], ?_⟩)
  · have hcn := hcode.1
    repeat' (first
      | with_reducible exact rfl
      | exact True.intro
      | with_reducible assumption
      | refine And.intro ?_ ?_
      | apply Exists.intro
      | intro _
      | omega)
  · have h1 := hs.sel [1] (by simp)
    have h2 := hk.ok (h1.sat 0 _ rfl)
    exact h1.head h2.1 h2.2.1 h2.2.2
def sNew : Sm := fun args ch k =>
  match args with
  | [.a (.c (.sl j ao n cap))] =>
    match ch[j]? with
    | some (.row r) => ∃ u : Nat → Int, ((ao = r.ao ∧ n = r.n ∧ r.fld = [fun i => .u8 (u i)]) ∧ codeC n u) ∧ ∀ (b : Nat) (z : Int), k (.a (.c (.ptr ch.length b 0))) (ch ++ [.cells b 63 [.sl j ao n cap, .il 0, .int z]]) []
    | _ => False
  | _ => False
theorem sNew_ok : SmOK Try.prog 27 sNew := by
  refine smN Try.call27 fun args ch k w X h0 hs => ?_
  unfold sNew at h0
  split at h0
  · rename_i j ao n cap
    split at h0
    · rename_i r hj
      obtain ⟨u, ⟨⟨rfl, rfl, hf⟩, hcode⟩, h0⟩ := h0
      simp only [List.map_cons, List.map_nil, den_a, den_c, den_sl]
      exact Calls.mono (new_any r.ao r.n cap u w (seenAs' (hs.sat j _ hj) hf rfl) hcode) fun e w' ⟨b, z, he, hs'⟩ => ⟨.a (.c (.ptr ch.length b 0)), [.cells b 63 [.sl j r.ao r.n cap, .il 0, .int z]], he, hs'.head (show Ch.sat w' (.cells b 63 [.sl 0 r.ao r.n cap, .int 0, .int z]) from hs'.sat 0 _ rfl) rfl fun _ h => h, rfl, h0 b z⟩
    · exact h0.elim
  · exact h0.elim
end Go.Proofs.Ytppeocfcdeiemaa
