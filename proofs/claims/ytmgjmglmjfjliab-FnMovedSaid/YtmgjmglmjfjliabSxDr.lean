/-
  Cursors over the drawn bytes. Twelve drawn places.
-/
import Derived.Test.YtmgjmglmjfjliabSxBtw
import Derived.Test.YtmgjmglmjfjliabSx16
namespace Go.Proofs.Ytmgjmglmjfjliab
set_option linter.unusedVariables false
set_option linter.unusedSimpArgs false
open Go.RowKit
set_option maxRecDepth 100000
set_option maxHeartbeats 8000000

abbrev inR (x lo hi : Int) : Prop := lo ≤ x ∧ x ≤ hi
theorem and255 (x : Int) : 0 ≤ bits .and .i64 x 255 ∧ bits .and .i64 x 255 ≤ 255 := by
  have h2 : (BitVec.ofInt 64 (255 : Int)).toNat = 255 := by decide
  have : bits .and .i64 x 255 = IntKind.i64.wrap (((BitVec.ofInt 64 x) &&& (BitVec.ofInt 64 (255 : Int))).toNat : Int) := rfl
  rw [this, BitVec.toNat_and, h2, IntKind.wrap_i64]
  have h3 : (BitVec.ofInt 64 x).toNat &&& 255 ≤ 255 := Nat.and_le_right
  generalize (BitVec.ofInt 64 x).toNat &&& 255 = y at *
  omega
theorem and30 (x : Int) : 0 ≤ bits .and .i64 x 1073741823 ∧ bits .and .i64 x 1073741823 ≤ 1073741823 := by
  have h2 : (BitVec.ofInt 64 (1073741823 : Int)).toNat = 1073741823 := by decide
  have : bits .and .i64 x 1073741823 = IntKind.i64.wrap (((BitVec.ofInt 64 x) &&& (BitVec.ofInt 64 (1073741823 : Int))).toNat : Int) := rfl
  rw [this, BitVec.toNat_and, h2, IntKind.wrap_i64]
  have h3 : (BitVec.ofInt 64 x).toNat &&& 1073741823 ≤ 1073741823 := Nat.and_le_right
  generalize (BitVec.ofInt 64 x).toNat &&& 1073741823 = y at *
  omega
theorem add255 (x y : Int) (h : 0 ≤ y ∧ y ≤ 255) : -9223372036854775808 ≤ bits .and .i64 x 255 + y ∧ bits .and .i64 x 255 + y ≤ 9223372036854775807 := by
  have := and255 x
  omega
theorem mod_in (x m : Int) (h : 1 ≤ m) : 0 ≤ x % m ∧ x % m ≤ m - 1 := by
  have h1 := Int.emod_nonneg x (show m ≠ 0 by omega)
  have h2 := Int.emod_lt_of_pos x (show 0 < m by omega)
  omega
theorem sByteC_T (cb : Nat) (co : Option Addr) (cn cc : Nat) (ci cz : Int) (cu : Nat → Int) : (exFn Try.prog {tb := []} 400 Try.f41 ([.a (.c (.ptr 0 cb 0))]) ([.cells cb 79 [.sl 1 co cn cc, .int ci, .int cz], .row ⟨false, co, 0, 1, cn, 0, [fun i => .u8 (cu i)]⟩]) (fun v ch => ∃ (z0 : Int) (i1 z1 : Int) , OutC v ch (.int .i64 (z0)) (.cells cb 79 [.sl 1 co cn cc, .int i1, .int z1]) [] ∧ (inR z0 0 255) ∧ pos0 i1)) = (
  cb = cb∧∀ b : Int, b = (wrapI (cz * (6364136223846793005 : Int)))→∀ d : Int, d = (wrapI (b + (1442695040888963407 : Int)))→cb = cb∧cb = cb∧cb = cb∧cb = cb∧cb = cb∧((decide (ci < ((cn : Nat) : Int))) = true→cb = cb∧cb = cb∧co = co∧cn = cn∧(0 ≤ ci∧ci < ((cn : Nat) : Int))∧co = co∧(Int.toNat ci) < cn∧rng (cu (Int.toNat ci))∧rng ((bits BinOp.and .i64 (bits BinOp.xor .i64 (d / (8589934592 : Int)) (d / (35184372088832 : Int))) (255 : Int)) + (cu (Int.toNat ci)))∧cb = cb∧rng (ci + (1 : Int))∧cb = cb∧∃ g h j : Int, ((Wi (bits BinOp.and .i64 ((bits BinOp.and .i64 (bits BinOp.xor .i64 (d / (8589934592 : Int)) (d / (35184372088832 : Int))) (255 : Int)) + (cu (Int.toNat ci))) (255 : Int))) = (Wi g)∧(cb = cb∧79 = 79∧[Ws co cn cc, Wi (ci + (1 : Int)), Wi d] = [Ws co cn cc, Wi h, Wi j])∧True∧true = true)∧inR g (0 : Int) (255 : Int)∧pos0 h)∧((decide (ci < ((cn : Nat) : Int))) = false→∃ g h j : Int, ((Wi (bits BinOp.and .i64 (bits BinOp.xor .i64 (d / (8589934592 : Int)) (d / (35184372088832 : Int))) (255 : Int))) = (Wi g)∧(cb = cb∧79 = 79∧[Ws co cn cc, Wi ci, Wi d] = [Ws co cn cc, Wi h, Wi j])∧True∧true = true)∧inR g (0 : Int) (255 : Int)∧pos0 h)) := by kernel_rfl
theorem sByteC_any (cb : Nat) (co : Option Addr) (cn cc : Nat) (ci cz : Int) (cu : Nat → Int) (w : World) (hs : HS ⟨w, (Ch.cells cb 79 [.sl 1 co cn cc, .int ci, .int cz]).at⟩ [.cells cb 79 [.sl 1 co cn cc, .int ci, .int cz], .row ⟨false, co, 0, 1, cn, 0, [fun i => .u8 (cu i)]⟩] w) (hcode : codeC cn cu) (hci : pos0 ci) : Calls Try.prog 41 #[.pointer (some ⟨cb, 0, none⟩)] w fun e w' => ∃ (z0 : Int) (i1 z1 : Int) , ((inR z0 0 255) ∧ pos0 i1) ∧ e = .returned (.int .i64 (z0)) ∧ HS ⟨w, (Ch.cells cb 79 [.sl 1 co cn cc, .int ci, .int cz]).at⟩ [.cells cb 79 [.sl 1 co cn cc, .int i1, .int z1]] w' := by
  refine fn_ok mixed (E := {tb := []}) trivial Try.func41 (fun _ _ => loopsOK_nil _ _ _) (@Eq.mpr _ _ (sByteC_T cb co cn cc ci cz cu) ?_) hs (fun v ch' w' ⟨z0, i1, z1, hk, hf⟩ hs => ⟨z0, i1, z1, hf, by rw [hk.1], hk.hs hs⟩)
  clear hs
  have hcn : cn ≤ 1048576 := hcode.1
  have hci0 : 0 ≤ ci := hci
  have hub := hcode.2 ci.toNat
  repeat' (first
    | with_reducible exact rfl
    | exact True.intro
    | with_reducible assumption
    | exact and255 _
    | exact (add255 _ _ hub).1
    | exact (add255 _ _ hub).2
    | refine And.intro ?_ ?_
    | apply Exists.intro
    | (intro h; exfalso; simp at h; done)
    | (intro h; replace h := of_decide_eq_true h; first | (exfalso; omega) | skip)
    | (intro h; replace h := of_decide_eq_false h; first | (exfalso; omega) | skip)
    | intro _
    | omega)
def sByte : Sm := fun args ch k =>
  match args with
  | [.a (.c (.ptr id b off))] =>
    match off, ch[id]? with
    | 0, some (.cells b' t [.sl j ao n cap, ic, hc]) =>
      match ch[j]?, asI ic, asI hc with
      | some (.row r), some i, some z => ∃ u : Nat → Int, ((b = b' ∧ t = 79 ∧ ao = r.ao ∧ n = r.n ∧ r.fld = [fun i => .u8 (u i)]) ∧ codeC n u ∧ pos0 i) ∧ ∀ (z0 : Int), ∀ (i1 z1 : Int), (inR z0 0 255) → pos0 i1 → k (.a (.c (.int (z0)))) (ch.set id (.cells b 79 [.sl j ao n cap, .int i1, .int z1])) [id]
      | _, _, _ => False
    | _, _ => False
  | _ => False
theorem sByte_ok : SmOK Try.prog 41 sByte := by
  refine smTurnN Try.call41 fun args ch k w X h0 hs => ?_
  unfold sByte at h0
  split at h0
  · rename_i id b off
    split at h0
    · rename_i b' t j ao n cap ic hc hid
      split at h0
      · rename_i r i z hj hi hz
        obtain ⟨u, ⟨⟨rfl, rfl, hao, hn, hf⟩, hcode, hi0⟩, h0⟩ := h0
        refine ⟨id, _, hid, rfl, ?_⟩
        simp only [List.map_cons, List.map_nil, den_a, den_c, SA.den]
        exact Calls.mono (sByteC_any b ao n cap i z u  w (hs.cur' hid hj hi hz hao hn hf) hcode hi0) fun e w' ⟨z0, i1, z1, ⟨hfa, hp⟩, he, hn'⟩ => ⟨.a (.c (.int (z0))), _, [], he, hn'.recur, at_cells, rfl, by simpa using h0 z0 i1 z1 hfa hp⟩
      · exact h0.elim
    · exact h0.elim
  · exact h0.elim
theorem sBelowC_T (cb : Nat) (co : Option Addr) (cn cc : Nat) (ci cz : Int) (cu : Nat → Int) (m : Int) : (exFn Try.prog {tb := [(41, sByte)]} 400 Try.f16 ([.a (.c (.ptr 0 cb 0)), .a (.c (.int m))]) ([.cells cb 79 [.sl 1 co cn cc, .int ci, .int cz], .row ⟨false, co, 0, 1, cn, 0, [fun i => .u8 (cu i)]⟩]) (fun v ch => ∃ (z0 : Int) (i1 z1 : Int) , OutC v ch (.int .i64 (z0)) (.cells cb 79 [.sl 1 co cn cc, .int i1, .int z1]) [] ∧ (inR z0 0 (isub m 1)) ∧ pos0 i1)) = (
  (fun b : Value => (fun d : Prop => (fun g : List (Nat→SC) => ((decide (m ≤ (0 : Int))) = true→∃ h j k : Int, ((Wi 0) = (Wi h)∧(cb = cb∧79 = 79∧[b, Wi ci, Wi cz] = [b, Wi j, Wi k])∧d)∧inR h (0 : Int) (m - (1 : Int))∧pos0 j)∧((decide (m ≤ (0 : Int))) = false→((decide (m ≤ (256 : Int))) = true→∃ h : Nat→Int, ((cb = cb∧79 = 79∧co = co∧cn = cn∧g = [fun j => Ce (h j)])∧codeC cn h∧pos0 ci)∧∀ j k l : Int, inR j (0 : Int) (255 : Int)→pos0 k→divC j m∧∃ n o p : Int, ((Wi (j % m)) = (Wi n)∧(cb = cb∧79 = 79∧[b, Wi k, Wi l] = [b, Wi o, Wi p])∧d)∧inR n (0 : Int) (m - (1 : Int))∧pos0 o)∧((decide (m ≤ (256 : Int))) = false→∃ h : Nat→Int, ((cb = cb∧79 = 79∧co = co∧cn = cn∧g = [fun j => Ce (h j)])∧codeC cn h∧pos0 ci)∧∀ j k l : Int, inR j (0 : Int) (255 : Int)→pos0 k→∃ n : Nat→Int, ((cb = cb∧79 = 79∧co = co∧cn = cn∧g = [fun o => Ce (n o)])∧codeC cn n∧pos0 k)∧∀ o p q : Int, inR o (0 : Int) (255 : Int)→pos0 p→∃ r : Nat→Int, ((cb = cb∧79 = 79∧co = co∧cn = cn∧g = [fun s => Ce (r s)])∧codeC cn r∧pos0 p)∧∀ s t u : Int, inR s (0 : Int) (255 : Int)→pos0 t→∃ w : Nat→Int, ((cb = cb∧79 = 79∧co = co∧cn = cn∧g = [fun x => Ce (w x)])∧codeC cn w∧pos0 t)∧∀ x y z : Int, inR x (0 : Int) (255 : Int)→pos0 y→rng (j * (16777216 : Int))∧rng (o * (65536 : Int))∧rng ((j * (16777216 : Int)) + (o * (65536 : Int)))∧rng (s * (256 : Int))∧rng (((j * (16777216 : Int)) + (o * (65536 : Int))) + (s * (256 : Int)))∧rng ((((j * (16777216 : Int)) + (o * (65536 : Int))) + (s * (256 : Int))) + x)∧divC ((((j * (16777216 : Int)) + (o * (65536 : Int))) + (s * (256 : Int))) + x) m∧∃ B C D : Int, ((Wi (((((j * (16777216 : Int)) + (o * (65536 : Int))) + (s * (256 : Int))) + x) % m)) = (Wi B)∧(cb = cb∧79 = 79∧[b, Wi y, Wi z] = [b, Wi C, Wi D])∧d)∧inR B (0 : Int) (m - (1 : Int))∧pos0 C))) [fun g => Ce (cu g)]) (True∧true = true)) (Ws co cn cc)) := by kernel_rfl
theorem sBelowC_any (cb : Nat) (co : Option Addr) (cn cc : Nat) (ci cz : Int) (cu : Nat → Int) (m : Int) (w : World) (hs : HS ⟨w, (Ch.cells cb 79 [.sl 1 co cn cc, .int ci, .int cz]).at⟩ [.cells cb 79 [.sl 1 co cn cc, .int ci, .int cz], .row ⟨false, co, 0, 1, cn, 0, [fun i => .u8 (cu i)]⟩] w) (hcode : codeC cn cu) (hci : pos0 ci) (hpre : inR m 1 4294967296) : Calls Try.prog 16 #[.pointer (some ⟨cb, 0, none⟩), .int .i64 m] w fun e w' => ∃ (z0 : Int) (i1 z1 : Int) , ((inR z0 0 (isub m 1)) ∧ pos0 i1) ∧ e = .returned (.int .i64 (z0)) ∧ HS ⟨w, (Ch.cells cb 79 [.sl 1 co cn cc, .int ci, .int cz]).at⟩ [.cells cb 79 [.sl 1 co cn cc, .int i1, .int z1]] w' := by
  refine fn_ok mixed (E := {tb := [(41, sByte)]}) ⟨sByte_ok, trivial⟩ Try.func16 (fun _ _ => loopsOK_nil _ _ _) (@Eq.mpr _ _ (sBelowC_T cb co cn cc ci cz cu m) ?_) hs (fun v ch' w' ⟨z0, i1, z1, hk, hf⟩ hs => ⟨z0, i1, z1, hf, by rw [hk.1], hk.hs hs⟩)
  dsimp -zeta -proj -iota -eta -failIfUnchanged (etaStruct := .none) only
  clear hs
  have hcn : cn ≤ 1048576 := hcode.1
  have hci0 : 0 ≤ ci := hci
  repeat' (first
    | with_reducible exact rfl
    | exact True.intro
    | with_reducible assumption
    | exact mod_in _ _ (by omega)
    | refine And.intro ?_ ?_
    | apply Exists.intro
    | (intro h; exfalso; simp at h; done)
    | (intro h; replace h := of_decide_eq_true h; first | (exfalso; omega) | skip)
    | (intro h; replace h := of_decide_eq_false h; first | (exfalso; omega) | skip)
    | intro _
    | omega)
def sBelow : Sm := fun args ch k =>
  match args with
  | [.a (.c (.ptr id b off)), .a (.c c0)] =>
    match off, ch[id]? with
    | 0, some (.cells b' t [.sl j ao n cap, ic, hc]) =>
      match ch[j]?, asI ic, asI hc, ints [c0] with
      | some (.row r), some i, some z, some [m] => ∃ u : Nat → Int, ((b = b' ∧ t = 79 ∧ ao = r.ao ∧ n = r.n ∧ r.fld = [fun i => .u8 (u i)]) ∧ codeC n u ∧ pos0 i ∧ inR m 1 4294967296) ∧ ∀ (z0 : Int), ∀ (i1 z1 : Int), (inR z0 0 (isub m 1)) → pos0 i1 → k (.a (.c (.int (z0)))) (ch.set id (.cells b 79 [.sl j ao n cap, .int i1, .int z1])) [id]
      | _, _, _, _ => False
    | _, _ => False
  | _ => False
theorem sBelow_ok : SmOK Try.prog 16 sBelow := by
  refine smTurnN Try.call16 fun args ch k w X h0 hs => ?_
  unfold sBelow at h0
  split at h0
  · rename_i id b off c0
    split at h0
    · rename_i b' t j ao n cap ic hc hid
      split at h0
      · rename_i r i z m hj hi hz hI
        obtain ⟨u, ⟨⟨rfl, rfl, hao, hn, hf⟩, hcode, hi0, hpre⟩, h0⟩ := h0
        obtain ⟨ec0, hI⟩ := ints_cons hI
        refine ⟨id, _, hid, rfl, ?_⟩
        simp only [List.map_cons, List.map_nil, den_a, den_c, SA.den, ec0]
        exact Calls.mono (sBelowC_any b ao n cap i z u m w (hs.cur' hid hj hi hz hao hn hf) hcode hi0 hpre) fun e w' ⟨z0, i1, z1, ⟨hfa, hp⟩, he, hn'⟩ => ⟨.a (.c (.int (z0))), _, [], he, hn'.recur, at_cells, rfl, by simpa using h0 z0 i1 z1 hfa hp⟩
      · exact h0.elim
    · exact h0.elim
  · exact h0.elim
def nwH (co : Option Addr) (cn cc : Nat) (cu : Nat → Int) (i z : SC) (g : Nat → Value) : List SV := [.a (.c (.sl 0 co cn cc)), .a (.c (.val (g 1))), .a (.c (.val (g 2))), .a (.c z), .a (.c i), .a (.c (.val (g 5))), .a (.c (.val (g 6))), .a (.c (.val (g 7))), .a (.c (.val (g 8))), .a (.c (.val (g 9))), .a (.c (.val (g 10))), .a (.c (.val (g 11))), .a (.c (.val (g 12))), .a (.c (.val (g 13))), .a (.c (.val (g 14))), .a (.c (.val (g 15))), .a (.c (.val (g 16))), .a (.c (.val (g 17))), .a (.c (.val (g 18))), .a (.c (.val (g 19))), .a (.c (.val (g 20))), .a (.c (.val (g 21))), .a (.c (.val (g 22))), .a (.c (.val (g 23))), .a (.c (.val (g 24))), .a (.c (.val (g 25))), .a (.c (.val (g 26))), .a (.c (.val (g 27))), .a (.c (.val (g 28))), .a (.c (.val (g 29))), .a (.c (.val (g 30))), .a (.c (.val (g 31)))]
def snw (co : Option Addr) (cn cc : Nat) (cu : Nat → Int) : LSm := fun ts ch kk => ∃ z : Int, (ts.map SV.den = (nwH co cn cc cu (.il 0) (.int z) (fun d => (ts.getD d .undef).den)).map SV.den ∧ ch = [.row ⟨false, co, 0, 1, cn, 0, [fun i => .u8 (cu i)]⟩] ∧ inR z 0 1073741823) ∧ ∀ (g : Nat → Value) (k z : Int), inR z 0 1073741823 → kk (.exit 0) (nwH co cn cc cu (.int k) (.int z) g) [.row ⟨false, co, 0, 1, cn, 0, [fun i => .u8 (cu i)]⟩]
theorem nwB (co : Option Addr) (cn cc : Nat) (cu : Nat → Int) (z : Int) (j : Nat) (g : Nat → Value) (NX : List SV → List Ch → Prop) (kx : Exit → List SV → List Ch → Prop) : (exCode Try.prog {} 400 (theLoop Try.f15 0) (nwH co cn cc cu (.int (j : Int)) (.int z) g) ([.row ⟨false, co, 0, 1, cn, 0, [fun i => .u8 (cu i)]⟩]) (loopK NX kx)) = (
  ((decide (((j : Nat) : Int) < ((cn : Nat) : Int))) = true→((decide (((j : Nat) : Int) < (4000 : Int))) = true→rng (z * (131 : Int))∧co = co∧cn = cn∧(0 ≤ ((j : Nat) : Int)∧((j : Nat) : Int) < ((cn : Nat) : Int))∧co = co∧j < cn∧rng (cu j)∧rng ((z * (131 : Int)) + (cu j))∧rng (((z * (131 : Int)) + (cu j)) + (7 : Int))∧rng (((j : Nat) : Int) + (1 : Int))∧NX [sV 0 co cn cc, vV (g 1), vV (g 2), iV (bits BinOp.and .i64 (((z * (131 : Int)) + (cu j)) + (7 : Int)) (1073741823 : Int)), iV (((j : Nat) : Int) + (1 : Int)), vV (g 5), vV (g 6), vV (g 7), iV ((j : Nat) : Int), sV 0 co cn cc, iV ((cn : Nat) : Int), bV (decide (((j : Nat) : Int) < ((cn : Nat) : Int))), tV, iV ((j : Nat) : Int), bV (decide (((j : Nat) : Int) < (4000 : Int))), tV, iV ((j : Nat) : Int), iV (((j : Nat) : Int) + (1 : Int)), iV z, iV (z * (131 : Int)), sV 0 co cn cc, iV ((j : Nat) : Int), rV 0 co 1 j 0, eV (cu j), iV (cu j), iV ((z * (131 : Int)) + (cu j)), iV (((z * (131 : Int)) + (cu j)) + (7 : Int)), iV (bits BinOp.and .i64 (((z * (131 : Int)) + (cu j)) + (7 : Int)) (1073741823 : Int)), vV (g 28), vV (g 29), vV (g 30), vV (g 31)] [Hr false co 0 1 cn 0 [fun a => Ce (cu a)]])∧((decide (((j : Nat) : Int) < (4000 : Int))) = false→kx (Exit.exit 0) [sV 0 co cn cc, vV (g 1), vV (g 2), iV z, iV ((j : Nat) : Int), vV (g 5), vV (g 6), vV (g 7), iV ((j : Nat) : Int), sV 0 co cn cc, iV ((cn : Nat) : Int), bV (decide (((j : Nat) : Int) < ((cn : Nat) : Int))), tV, iV ((j : Nat) : Int), bV (decide (((j : Nat) : Int) < (4000 : Int))), fV, vV (g 16), vV (g 17), vV (g 18), vV (g 19), vV (g 20), vV (g 21), vV (g 22), vV (g 23), vV (g 24), vV (g 25), vV (g 26), vV (g 27), vV (g 28), vV (g 29), vV (g 30), vV (g 31)] [Hr false co 0 1 cn 0 [fun a => Ce (cu a)]]))∧((decide (((j : Nat) : Int) < ((cn : Nat) : Int))) = false→kx (Exit.exit 0) [sV 0 co cn cc, vV (g 1), vV (g 2), iV z, iV ((j : Nat) : Int), vV (g 5), vV (g 6), vV (g 7), iV ((j : Nat) : Int), sV 0 co cn cc, iV ((cn : Nat) : Int), bV (decide (((j : Nat) : Int) < ((cn : Nat) : Int))), fV, xV, xV, fV, vV (g 16), vV (g 17), vV (g 18), vV (g 19), vV (g 20), vV (g 21), vV (g 22), vV (g 23), vV (g 24), vV (g 25), vV (g 26), vV (g 27), vV (g 28), vV (g 29), vV (g 30), vV (g 31)] [Hr false co 0 1 cn 0 [fun a => Ce (cu a)]])) := by kernel_rfl
theorem nw_ok (co : Option Addr) (cn cc : Nat) (cu : Nat → Int) (hcode : codeC cn cu) (X : Cx) : LoopOK Try.prog X (theLoop Try.f15 0) (snw co cn cc cu) := by
  intro ts ch kk a w hS hT hd hs
  obtain ⟨z0, ⟨h1, rfl, hz0⟩, hk⟩ := hS
  have hcn := hcode.1
  refine loop_ok mixed (E := {}) trivial (loopsOK_nil _ _ _) 400 4000 (fun j ts ch => ∃ g z, inR z 0 1073741823 ∧ ts = nwH co cn cc cu (.int (j : Int)) (.int z) g ∧ ch = [.row ⟨false, co, 0, 1, cn, 0, [fun i => .u8 (cu i)]⟩]) ?_ ?_ hT hd hs
  · rintro j _ _ ⟨g, z, hz, rfl, rfl⟩ hj
    refine (@Eq.mpr _ _ (nwB co cn cc cu z j g _ _) ?_)
    have hu := hcode.2 j
    have hz1 := hz.1
    have hz2 := hz.2
    by_cases hlt : j < 4000
    · by_cases hln : j < cn
      · repeat' (first
          | with_reducible exact rfl
          | exact True.intro
          | with_reducible assumption
          | (refine ⟨hlt, ?_⟩; show Next _ _ _ _; refine Next.mk (fun g => nwH co cn cc cu (.int ((j + 1 : Nat) : Int)) (.int _) g) _ ⟨_, _, and30 _, rfl, rfl⟩ rfl fun w hw => hw)
          | refine And.intro ?_ ?_
          | (intro h; replace h := of_decide_eq_true h; first | (exfalso; omega) | skip)
          | (intro h; replace h := of_decide_eq_false h; first | (exfalso; omega) | skip)
          | intro _
          | omega)
      · repeat' (first
          | with_reducible exact rfl
          | exact True.intro
          | with_reducible assumption
          | (refine Next.mk (fun g => nwH co cn cc cu (.int (j : Int)) (.int z) g) _ (hk _ _ _ hz) rfl fun w hw => hw)
          | refine And.intro ?_ ?_
          | (intro h; replace h := of_decide_eq_true h; first | (exfalso; omega) | skip)
          | (intro h; replace h := of_decide_eq_false h; first | (exfalso; omega) | skip)
          | intro _
          | omega)
    · repeat' (first
        | with_reducible exact rfl
        | exact True.intro
        | with_reducible assumption
        | (refine Next.mk (fun g => nwH co cn cc cu (.int (j : Int)) (.int z) g) _ (hk _ _ _ hz) rfl fun w hw => hw)
        | refine And.intro ?_ ?_
        | (intro h; replace h := of_decide_eq_true h; first | (exfalso; omega) | skip)
        | (intro h; replace h := of_decide_eq_false h; first | (exfalso; omega) | skip)
        | intro _
        | omega)
  · exact Next.mk (fun g => nwH co cn cc cu (.int ((0 : Nat) : Int)) (.int z0) g) _ ⟨_, _, hz0, rfl, rfl⟩ h1 fun w hw => hw
theorem new_T (co : Option Addr) (cn cc : Nat) (cu : Nat → Int) : (exFn Try.prog { L := [(3, snw co cn cc cu)] } 400 Try.f15 ([.a (.c (.sl 0 co cn cc))]) ([.row ⟨false, co, 0, 1, cn, 0, [fun i => .u8 (cu i)]⟩]) (fun v ch => ∃ (b : Nat) (z : Int), v.den = .pointer (some ⟨b, 0, none⟩) ∧ CurRel (ch.getD 1 .dead) (.cells b 79 [.sl 0 co cn cc, .int 0, .int z]))) = (
  rng ((97301 : Int) + ((cn : Nat) : Int))∧∃ d : Int, ([Ws co cn cc, Wu [], Value.pointer (none : Option Addr), Wi ((97301 : Int) + ((cn : Nat) : Int)), Wi 0, Ws co cn cc, Wi ((cn : Nat) : Int), Wi ((97301 : Int) + ((cn : Nat) : Int)), Wu [], Wu [], Wu [], Wu [], Wu [], Wu [], Wu [], Wu [], Wu [], Wu [], Wu [], Wu [], Wu [], Wu [], Wu [], Wu [], Wu [], Wu [], Wu [], Wu [], Wu [], Wu [], Wu [], Wu []] = [Ws co cn cc, Wu [], Value.pointer (none : Option Addr), Wi d, Wi 0, Ws co cn cc, Wi ((cn : Nat) : Int), Wi ((97301 : Int) + ((cn : Nat) : Int)), Wu [], Wu [], Wu [], Wu [], Wu [], Wu [], Wu [], Wu [], Wu [], Wu [], Wu [], Wu [], Wu [], Wu [], Wu [], Wu [], Wu [], Wu [], Wu [], Wu [], Wu [], Wu [], Wu [], Wu []]∧[Hr false co 0 1 cn 0 [fun g => Ce (cu g)]] = [Hr false co 0 1 cn 0 [fun g => Ce (cu g)]]∧inR d (0 : Int) (1073741823 : Int))∧∀(g : Nat→Value) (h j : Int), inR j (0 : Int) (1073741823 : Int)→∀ k : Nat, ∃(l : Nat) (m : Int), (Wp k 0) = (Wp l 0)∧k = l∧79 = 79∧[Ws co cn cc, Wi 0, Wi j] = [Ws co cn cc, Wi 0, Wi m]) := by kernel_rfl
theorem new_any (co : Option Addr) (cn cc : Nat) (cu : Nat → Int) (w : World) (hr : Row.sat w ⟨false, co, 0, 1, cn, 0, [fun i => .u8 (cu i)]⟩) (hcode : codeC cn cu) : Calls Try.prog 15 #[.slice co cn cc] w fun e w' => ∃ (b : Nat) (z : Int), e = .returned (.pointer (some ⟨b, 0, none⟩)) ∧ HS ⟨w, fun _ => False⟩ [.cells b 79 [.sl 0 co cn cc, .int 0, .int z]] w' := by
  refine fn_ok mixed (E := { L := [(3, snw co cn cc cu)] }) trivial Try.func15 (one_loop (by kernel_rfl) (by kernel_rfl) (nw_ok co cn cc cu hcode _)) (@Eq.mpr _ _ (new_T co cn cc cu) ?_) (HS.rows (fun _ => False) [⟨false, co, 0, 1, cn, 0, [fun i => .u8 (cu i)]⟩] (by simpa using hr)) (fun v ch' w' ⟨b, z, hv, hk⟩ hs => ⟨b, z, by rw [hv], ?_⟩)
  · have hcn := hcode.1
    repeat' (first
      | with_reducible exact rfl
      | exact True.intro
      | with_reducible assumption
      | refine And.intro ?_ ?_
      | apply Exists.intro
      | intro _
      | omega)
  · have h1 := hs.sel [1] (by simp)
    have h2 := hk.ok (h1.sat 0 _ rfl)
    exact h1.head h2.1 h2.2.1 h2.2.2
def sNew : Sm := fun args ch k =>
  match args with
  | [.a (.c (.sl j ao n cap))] =>
    match ch[j]? with
    | some (.row r) => ∃ u : Nat → Int, ((ao = r.ao ∧ n = r.n ∧ r.fld = [fun i => .u8 (u i)]) ∧ codeC n u) ∧ ∀ (b : Nat) (z : Int), k (.a (.c (.ptr ch.length b 0))) (ch ++ [.cells b 79 [.sl j ao n cap, .il 0, .int z]]) []
    | _ => False
  | _ => False
theorem sNew_ok : SmOK Try.prog 15 sNew := by
  refine smN Try.call15 fun args ch k w X h0 hs => ?_
  unfold sNew at h0
  split at h0
  · rename_i j ao n cap
    split at h0
    · rename_i r hj
      obtain ⟨u, ⟨⟨rfl, rfl, hf⟩, hcode⟩, h0⟩ := h0
      simp only [List.map_cons, List.map_nil, den_a, den_c, den_sl]
      exact Calls.mono (new_any r.ao r.n cap u w (seenAs' (hs.sat j _ hj) hf rfl) hcode) fun e w' ⟨b, z, he, hs'⟩ => ⟨.a (.c (.ptr ch.length b 0)), [.cells b 79 [.sl j r.ao r.n cap, .il 0, .int z]], he, hs'.head (show Ch.sat w' (.cells b 79 [.sl 0 r.ao r.n cap, .int 0, .int z]) from hs'.sat 0 _ rfl) rfl fun _ h => h, rfl, h0 b z⟩
    · exact h0.elim
  · exact h0.elim
def sOnce : Sm := inlM Try.prog {tb := [(16, sBelow)]} 300 Try.f39
theorem sOnce_ok : SmOK Try.prog 39 sOnce := inlM_ok mixed (E := {tb := [(16, sBelow)]}) ⟨sBelow_ok, trivial⟩ Try.func39 Try.call39 (fun _ _ _ => loopsOK_nil _ _ _)

abbrev plC (p : Nat → Int) : Prop := ∀ i, inR (p i) 0 (isub 10000 1)
theorem plc_base {z : Int} (hz : inR z 0 (isub 10000 1)) : plC (fun _ => z) := fun _ => hz
theorem plc_step {p : Nat → Int} {k : Nat} {z : Int} (hp : plC p) (hz : inR z 0 (isub 10000 1)) : plC (fun i => if i < k then p i else z) := fun i => by
  dsimp only
  split
  · exact hp i
  · exact hz
theorem sPlacesC_T (co : Option Addr) (cn cc : Nat) (cu : Nat → Int) : (exFn Try.prog {tb := [(15, sNew), (16, sBelow)]} 400 Try.f6 ([.a (.c (.sl 0 co cn cc))]) ([.row ⟨false, co, 0, 1, cn, 0, [fun i => .u8 (cu i)]⟩]) (fun v ch => ∃ (p : Nat → Int) (ro0 : Option Addr) (rc0 : Nat), OutR v ch (.slice ro0 (12) rc0) [.row ⟨true, ro0, 3, 1, 12, rc0, [fun i => .int (p i)]⟩] ∧ (plC p))) = (
  (fun b : List (Nat→SC) => (fun d : Prop => (fun g : Prop => ∃ h : Nat→Int, ((co = co∧cn = cn∧b = [fun j => Ce (h j)])∧codeC cn h)∧∀(j : Nat) (k : Int) (l : Nat), ∃ m : Nat→Int, ((j = j∧79 = 79∧co = co∧cn = cn∧b = [fun n => Ce (m n)])∧codeC cn m∧pos0 (0 : Int)∧g)∧∀ n o q : Int, inR n (0 : Int) ((10000 : Int) - (1 : Int))→pos0 o→∀ r : Nat, (l = l∧r = r∧d∧apC 0 1 8)∧∀(s : Option Addr) (t : Nat), ∃ u : Nat→Int, ((j = j∧79 = 79∧co = co∧cn = cn∧b = [fun w => Ce (u w)])∧codeC cn u∧pos0 o∧g)∧∀ w x y : Int, inR w (0 : Int) ((10000 : Int) - (1 : Int))→pos0 x→∀ z : Nat, (s = s∧1 = 1∧t = t∧z = z∧d∧apC 1 1 8)∧∀(B : Option Addr) (C : Nat), ∃ D : Nat→Int, ((j = j∧79 = 79∧co = co∧cn = cn∧b = [fun E => Ce (D E)])∧codeC cn D∧pos0 x∧g)∧∀ E F G : Int, inR E (0 : Int) ((10000 : Int) - (1 : Int))→pos0 F→∀ H : Nat, (B = B∧2 = 2∧C = C∧H = H∧d∧apC 2 1 8)∧∀(I : Option Addr) (J : Nat), ∃ K : Nat→Int, ((j = j∧79 = 79∧co = co∧cn = cn∧b = [fun L => Ce (K L)])∧codeC cn K∧pos0 F∧g)∧∀ L M N : Int, inR L (0 : Int) ((10000 : Int) - (1 : Int))→pos0 M→∀ O : Nat, (I = I∧3 = 3∧J = J∧O = O∧d∧apC 3 1 8)∧∀(P : Option Addr) (Q : Nat), ∃ R : Nat→Int, ((j = j∧79 = 79∧co = co∧cn = cn∧b = [fun S => Ce (R S)])∧codeC cn R∧pos0 M∧g)∧∀ S T U : Int, inR S (0 : Int) ((10000 : Int) - (1 : Int))→pos0 T→∀ V : Nat, (P = P∧4 = 4∧Q = Q∧V = V∧d∧apC 4 1 8)∧∀(W : Option Addr) (X : Nat), ∃ Y : Nat→Int, ((j = j∧79 = 79∧co = co∧cn = cn∧b = [fun Z => Ce (Y Z)])∧codeC cn Y∧pos0 T∧g)∧∀ Z aa ab : Int, inR Z (0 : Int) ((10000 : Int) - (1 : Int))→pos0 aa→∀ ac : Nat, (W = W∧5 = 5∧X = X∧ac = ac∧d∧apC 5 1 8)∧∀(ad : Option Addr) (af : Nat), ∃ ag : Nat→Int, ((j = j∧79 = 79∧co = co∧cn = cn∧b = [fun ah => Ce (ag ah)])∧codeC cn ag∧pos0 aa∧g)∧∀ ah aj ak : Int, inR ah (0 : Int) ((10000 : Int) - (1 : Int))→pos0 aj→∀ al : Nat, (ad = ad∧6 = 6∧af = af∧al = al∧d∧apC 6 1 8)∧∀(am : Option Addr) (an : Nat), ∃ ao : Nat→Int, ((j = j∧79 = 79∧co = co∧cn = cn∧b = [fun ap => Ce (ao ap)])∧codeC cn ao∧pos0 aj∧g)∧∀ ap aq ar : Int, inR ap (0 : Int) ((10000 : Int) - (1 : Int))→pos0 aq→∀ au : Nat, (am = am∧7 = 7∧an = an∧au = au∧d∧apC 7 1 8)∧∀(av : Option Addr) (aw : Nat), ∃ ax : Nat→Int, ((j = j∧79 = 79∧co = co∧cn = cn∧b = [fun ay => Ce (ax ay)])∧codeC cn ax∧pos0 aq∧g)∧∀ ay az aA : Int, inR ay (0 : Int) ((10000 : Int) - (1 : Int))→pos0 az→∀ aB : Nat, (av = av∧8 = 8∧aw = aw∧aB = aB∧d∧apC 8 1 8)∧∀(aC : Option Addr) (aD : Nat), ∃ aE : Nat→Int, ((j = j∧79 = 79∧co = co∧cn = cn∧b = [fun aF => Ce (aE aF)])∧codeC cn aE∧pos0 az∧g)∧∀ aF aG aH : Int, inR aF (0 : Int) ((10000 : Int) - (1 : Int))→pos0 aG→∀ aI : Nat, (aC = aC∧9 = 9∧aD = aD∧aI = aI∧d∧apC 9 1 8)∧∀(aJ : Option Addr) (aK : Nat), ∃ aL : Nat→Int, ((j = j∧79 = 79∧co = co∧cn = cn∧b = [fun aM => Ce (aL aM)])∧codeC cn aL∧pos0 aG∧g)∧∀ aM aN aO : Int, inR aM (0 : Int) ((10000 : Int) - (1 : Int))→pos0 aN→∀ aP : Nat, (aJ = aJ∧10 = 10∧aK = aK∧aP = aP∧d∧apC 10 1 8)∧∀(aQ : Option Addr) (aR : Nat), ∃ aS : Nat→Int, ((j = j∧79 = 79∧co = co∧cn = cn∧b = [fun aT => Ce (aS aT)])∧codeC cn aS∧pos0 aN∧g)∧∀ aT aU aV : Int, inR aT (0 : Int) ((10000 : Int) - (1 : Int))→pos0 aU→∀ aW : Nat, (aQ = aQ∧11 = 11∧aR = aR∧aW = aW∧d∧apC 11 1 8)∧∀(aX : Option Addr) (aY : Nat), ∃(aZ : Nat→Int) (a0 : Option Addr) (a1 : Nat), ((Ws aX 12 aY) = (Ws a0 12 a1)∧((true = true∧aX = a0∧3 = 3∧1 = 1∧12 = 12∧aY = a1∧(∀ a2 : Nat, a2 < 12→(Wi (if a2 < 11 then (if a2 < 10 then (if a2 < 9 then (if a2 < 8 then (if a2 < 7 then (if a2 < 6 then (if a2 < 5 then (if a2 < 4 then (if a2 < 3 then (if a2 < 2 then (if a2 < 1 then n else w) else E) else L) else S) else Z) else ah) else ap) else ay) else aF) else aM) else aT)) = (Wi (aZ a2)))∧True)∧True)∧true = true)∧plC aZ) (inR (10000 : Int) (1 : Int) (4294967296 : Int))) (∀ d : Nat, true = true)) [fun b => Ce (cu b)]) := by kernel_rfl
theorem sPlacesC_any (co : Option Addr) (cn cc : Nat) (cu : Nat → Int) (w : World) (hr : Row.sat w ⟨false, co, 0, 1, cn, 0, [fun i => .u8 (cu i)]⟩) (hcode : codeC cn cu) : Calls Try.prog 6 #[.slice co cn cc] w fun e w' => ∃ (p : Nat → Int) (ro0 : Option Addr) (rc0 : Nat), ((plC p)) ∧ e = .returned (.slice ro0 (12) rc0) ∧ HS ⟨w, fun _ => False⟩ [.row ⟨true, ro0, 3, 1, 12, rc0, [fun i => .int (p i)]⟩] w' := by
  refine fn_ok mixed (E := {tb := [(15, sNew), (16, sBelow)]}) ⟨sNew_ok, sBelow_ok, trivial⟩ Try.func6 (fun _ _ => loopsOK_nil _ _ _) (@Eq.mpr _ _ (sPlacesC_T co cn cc cu) ?_) (HS.rows (fun _ => False) [⟨false, co, 0, 1, cn, 0, [fun i => .u8 (cu i)]⟩] (by simpa using hr)) (fun v ch' w' ⟨p, ro0, rc0, hk, hf⟩ hs => ⟨p, ro0, rc0, hf, by rw [hk.1], hk.hs hs⟩)
  dsimp -zeta -proj -iota -eta -failIfUnchanged (etaStruct := .none) only
  clear hr
  have hcn : cn ≤ 1048576 := hcode.1
  repeat' (first
    | with_reducible exact rfl
    | exact True.intro
    | with_reducible assumption
    | (refine plc_step ?_ (by with_reducible assumption))
    | (exact plc_base (by with_reducible assumption))
    | refine And.intro ?_ ?_
    | apply Exists.intro
    | (intro i hi; exact rfl)
    | intro _
    | omega)
def sPlaces : Sm := fun args ch k =>
  match args with
  | [.a (.c (.sl j ao n cap))] =>
    match ch[j]? with
    | some (.row r) => ∃ u : Nat → Int, ((ao = r.ao ∧ n = r.n ∧ r.fld = [fun i => .u8 (u i)]) ∧ codeC n u) ∧ ∀ (p : Nat → Int), ∀ (ro0 : Option Addr) (rc0 : Nat), (plC p) → k (.a (.c (.sl (ch.length) ro0 (12) rc0))) (ch ++ [.row ⟨true, ro0, 3, 1, 12, rc0, [fun i => .int (p i)]⟩]) []
    | _ => False
  | _ => False
theorem sPlaces_ok : SmOK Try.prog 6 sPlaces := by
  refine smN Try.call6 fun args ch k w X h0 hs => ?_
  unfold sPlaces at h0
  split at h0
  · rename_i j ao n cap
    split at h0
    · rename_i r hj
      obtain ⟨u, ⟨⟨rfl, rfl, hf⟩, hcode⟩, h0⟩ := h0
      simp only [List.map_cons, List.map_nil, den_a, den_c, SA.den, den_sl]
      exact Calls.mono (sPlacesC_any r.ao r.n cap u  w (seenAs' (hs.sat j _ hj) hf rfl) hcode) fun e w' ⟨p, ro0, rc0, hfa, he, hs'⟩ => ⟨.a (.c (.sl (ch.length) ro0 (12) rc0)), [.row ⟨true, ro0, 3, 1, 12, rc0, [fun i => .int (p i)]⟩], he, hs', rfl, h0 p ro0 rc0 hfa⟩
    · exact h0.elim
  · exact h0.elim
end Go.Proofs.Ytmgjmglmjfjliab
