/-
  One of several loops has a summary. Syndromes. Words encoded. Words of a line. Symbols and data. Words corrected. Lines decoded.
-/
import Derived.Test.YtmgjmglmjfjliabSxLit
import Derived.Test.YtmgjmglmjfjliabSxC1
import Derived.Test.YtmgjmglmjfjliabSxFA
import Derived.Test.YtmgjmglmjfjliabSxA0
namespace Go.Proofs.Ytmgjmglmjfjliab
set_option linter.unusedVariables false
set_option linter.unusedSimpArgs false
open Go.RowKit
set_option maxRecDepth 100000
set_option maxHeartbeats 8000000

theorem key_loop {P : Program} {X : Cx} {fn : Func} {ks : List Nat} {S : LSm} (i k : Nat) (hl : (loopsF fn).map firstReg = ks) (hnd : ks.Nodup) (hk : ks[i]? = some k) (h : LoopOK P X (theLoop fn i) S) :
    ∀ c, fn.body = some c → LoopsOK P X [(k, S)] c := by
  intro c hc
  refine loopsOK_of c fun b hb T hT => ?_
  have e : loopsF fn = loopsIn c := by simp [loopsF, hc]
  rw [← e] at hb
  obtain ⟨j, hj⟩ := List.getElem?_of_mem hb
  simp only [lookL] at hT
  split at hT
  · rename_i hb2
    have hkb := Nat.eq_of_beq_eq_true hb2
    injection hT with hT
    subst hT
    have h1 : ks[j]? = some k := by rw [← hl, List.getElem?_map, hj]; simp [hkb]
    have hij : j = i := by
      obtain ⟨p1, p2⟩ := List.getElem?_eq_some_iff.1 h1
      obtain ⟨q1, q2⟩ := List.getElem?_eq_some_iff.1 hk
      exact (List.getElem_inj hnd).1 (p2.trans q2.symm)
    subst hij
    have ht : theLoop fn j = b := by simp [theLoop, hj]
    rw [← ht]
    exact h
  · cases hT

theorem symB_el {n : Nat} {g : Nat → Int} {m : Int} (h : symB n g m = true) : ∀ i, i < n → el (g i) := fun i hi => by
  simp only [symB, Bool.and_eq_true] at h
  have := allB_get h.1 hi
  exact btw_f this
theorem synI_T (ao : Option Addr) (c : Nat) (f : Nat → Int) : (exFn Try.prog {tb := [(54, sSym), (83, sPow), (76, sMul)], L := [(8, relit Try.prog {tb := [(83, sPow), (76, sMul)]} 400 12 (theLoop Try.f74 1) 17 (.il 11))]} 400 Try.f74 ([.a (.c (.sl 0 ao 11 c))]) ([.row ⟨false, ao, 0, 1, 11, 0, [fun i => .int (f i)]⟩]) (fun v ch => ∃ b : Nat, v.den = .slice (some ⟨b, 0, none⟩) 3 3 ∧ SelS ch (idSlc v) [.cells b 3 [.int (syn f 0), .int (syn f 1), .int (syn f 2)]])) = (
  (fun d : Prop => (fun g : Int => (fun h : Prop => (fun j : Ch => (fun k : List SC => (fun l : Prop => (fun m : Prop => (fun n : Prop => (fun o : Prop => (fun p : Prop => (fun q : Prop => (fun r : Prop => (fun s : Prop => (fun t : Prop => (fun u : Prop => (fun w : Prop => ∃ x : Nat→Int, (ao = ao∧11 = 11∧[fun y => Ci (f y)] = [fun y => Ci (x y)])∧lenC 11∧((! (symB 11 x (11 : Int))) = true→∃ y : Nat, Wn = (Ws (Ad y 0) 3 3)∧SelS [j] [] [Hc y 3 k])∧((! (symB 11 x (11 : Int))) = false→∀ y : Nat, (Wi 11) = (Wi 11)∧ao = ao∧11 = 11∧u∧ao = ao∧0 < 11∧y = y∧True∧h∧∀ z : Int, z = g→True∧y = y∧True∧ao = ao∧11 = 11∧t∧ao = ao∧1 < 11∧y = y∧True∧(el (f 1)∧d)∧∀ B : Int, B = (gfM (f 1) (1 : Int))→True∧y = y∧True∧ao = ao∧11 = 11∧s∧ao = ao∧2 < 11∧y = y∧True∧(el (f 2)∧d)∧∀ C : Int, C = (gfM (f 2) (1 : Int))→True∧y = y∧True∧ao = ao∧11 = 11∧r∧ao = ao∧3 < 11∧y = y∧True∧(el (f 3)∧d)∧∀ D : Int, D = (gfM (f 3) (1 : Int))→True∧y = y∧True∧ao = ao∧11 = 11∧q∧ao = ao∧4 < 11∧y = y∧True∧(el (f 4)∧d)∧∀ E : Int, E = (gfM (f 4) (1 : Int))→True∧y = y∧True∧ao = ao∧11 = 11∧p∧ao = ao∧5 < 11∧y = y∧True∧(el (f 5)∧d)∧∀ F : Int, F = (gfM (f 5) (1 : Int))→True∧y = y∧True∧ao = ao∧11 = 11∧o∧ao = ao∧6 < 11∧y = y∧True∧(el (f 6)∧d)∧∀ G : Int, G = (gfM (f 6) (1 : Int))→True∧y = y∧True∧ao = ao∧11 = 11∧n∧ao = ao∧7 < 11∧y = y∧True∧(el (f 7)∧d)∧∀ H : Int, H = (gfM (f 7) (1 : Int))→True∧y = y∧True∧ao = ao∧11 = 11∧m∧ao = ao∧8 < 11∧y = y∧True∧(el (f 8)∧d)∧∀ I : Int, I = (gfM (f 8) (1 : Int))→True∧y = y∧True∧ao = ao∧11 = 11∧l∧ao = ao∧9 < 11∧y = y∧True∧(el (f 9)∧d)∧∀ J : Int, J = (gfM (f 9) (1 : Int))→True∧y = y∧True∧ao = ao∧11 = 11∧w∧ao = ao∧10 < 11∧y = y∧True∧(el (f 10)∧d)∧∀ K : Int, K = (gfM (f 10) (1 : Int))→True∧y = y∧True∧(Wi 11) = (Wi 11)∧ao = ao∧11 = 11∧u∧ao = ao∧0 < 11∧y = y∧True∧h∧∀ M : Int, M = g→True∧y = y∧True∧ao = ao∧11 = 11∧t∧ao = ao∧1 < 11∧y = y∧True∧(el (f 1)∧el (2 : Int))∧∀ N : Int, N = (gfM (f 1) (2 : Int))→True∧y = y∧True∧ao = ao∧11 = 11∧s∧ao = ao∧2 < 11∧y = y∧True∧(el (f 2)∧el (4 : Int))∧∀ O : Int, O = (gfM (f 2) (4 : Int))→True∧y = y∧True∧ao = ao∧11 = 11∧r∧ao = ao∧3 < 11∧y = y∧True∧(el (f 3)∧el (8 : Int))∧∀ P : Int, P = (gfM (f 3) (8 : Int))→True∧y = y∧True∧ao = ao∧11 = 11∧q∧ao = ao∧4 < 11∧y = y∧True∧(el (f 4)∧el (3 : Int))∧∀ Q : Int, Q = (gfM (f 4) (3 : Int))→True∧y = y∧True∧ao = ao∧11 = 11∧p∧ao = ao∧5 < 11∧y = y∧True∧(el (f 5)∧el (6 : Int))∧∀ R : Int, R = (gfM (f 5) (6 : Int))→True∧y = y∧True∧ao = ao∧11 = 11∧o∧ao = ao∧6 < 11∧y = y∧True∧(el (f 6)∧el (12 : Int))∧∀ S : Int, S = (gfM (f 6) (12 : Int))→True∧y = y∧True∧ao = ao∧11 = 11∧n∧ao = ao∧7 < 11∧y = y∧True∧(el (f 7)∧el (11 : Int))∧∀ T : Int, T = (gfM (f 7) (11 : Int))→True∧y = y∧True∧ao = ao∧11 = 11∧m∧ao = ao∧8 < 11∧y = y∧True∧(el (f 8)∧el (5 : Int))∧∀ U : Int, U = (gfM (f 8) (5 : Int))→True∧y = y∧True∧ao = ao∧11 = 11∧l∧ao = ao∧9 < 11∧y = y∧True∧(el (f 9)∧el (10 : Int))∧∀ V : Int, V = (gfM (f 9) (10 : Int))→True∧y = y∧True∧ao = ao∧11 = 11∧w∧ao = ao∧10 < 11∧y = y∧True∧(el (f 10)∧el (7 : Int))∧∀ W : Int, W = (gfM (f 10) (7 : Int))→True∧y = y∧True∧(Wi 11) = (Wi 11)∧ao = ao∧11 = 11∧u∧ao = ao∧0 < 11∧y = y∧True∧h∧∀ X : Int, X = g→True∧y = y∧True∧ao = ao∧11 = 11∧t∧ao = ao∧1 < 11∧y = y∧True∧(el (f 1)∧el (4 : Int))∧∀ Y : Int, Y = (gfM (f 1) (4 : Int))→True∧y = y∧True∧ao = ao∧11 = 11∧s∧ao = ao∧2 < 11∧y = y∧True∧(el (f 2)∧el (3 : Int))∧∀ Z : Int, Z = (gfM (f 2) (3 : Int))→True∧y = y∧True∧ao = ao∧11 = 11∧r∧ao = ao∧3 < 11∧y = y∧True∧(el (f 3)∧el (12 : Int))∧∀ aa : Int, aa = (gfM (f 3) (12 : Int))→True∧y = y∧True∧ao = ao∧11 = 11∧q∧ao = ao∧4 < 11∧y = y∧True∧(el (f 4)∧el (5 : Int))∧∀ ab : Int, ab = (gfM (f 4) (5 : Int))→True∧y = y∧True∧ao = ao∧11 = 11∧p∧ao = ao∧5 < 11∧y = y∧True∧(el (f 5)∧el (7 : Int))∧∀ ac : Int, ac = (gfM (f 5) (7 : Int))→True∧y = y∧True∧ao = ao∧11 = 11∧o∧ao = ao∧6 < 11∧y = y∧True∧(el (f 6)∧el (15 : Int))∧∀ ad : Int, ad = (gfM (f 6) (15 : Int))→True∧y = y∧True∧ao = ao∧11 = 11∧n∧ao = ao∧7 < 11∧y = y∧True∧(el (f 7)∧el (9 : Int))∧∀ af : Int, af = (gfM (f 7) (9 : Int))→True∧y = y∧True∧ao = ao∧11 = 11∧m∧ao = ao∧8 < 11∧y = y∧True∧(el (f 8)∧el (2 : Int))∧∀ ag : Int, ag = (gfM (f 8) (2 : Int))→True∧y = y∧True∧ao = ao∧11 = 11∧l∧ao = ao∧9 < 11∧y = y∧True∧(el (f 9)∧el (8 : Int))∧∀ ah : Int, ah = (gfM (f 9) (8 : Int))→True∧y = y∧True∧ao = ao∧11 = 11∧w∧ao = ao∧10 < 11∧y = y∧True∧(el (f 10)∧el (6 : Int))∧∀ aj : Int, aj = (gfM (f 10) (6 : Int))→True∧y = y∧True∧∃ ak : Nat, (Ws (Ad y 0) 3 3) = (Ws (Ad ak 0) 3 3)∧SelS [j, Hc y 3 [Ci (bits BinOp.xor .i64 (bits BinOp.xor .i64 (bits BinOp.xor .i64 (bits BinOp.xor .i64 (bits BinOp.xor .i64 (bits BinOp.xor .i64 (bits BinOp.xor .i64 (bits BinOp.xor .i64 (bits BinOp.xor .i64 (bits BinOp.xor .i64 (bits BinOp.xor .i64 (0 : Int) z) B) C) D) E) F) G) H) I) J) K), Ci (bits BinOp.xor .i64 (bits BinOp.xor .i64 (bits BinOp.xor .i64 (bits BinOp.xor .i64 (bits BinOp.xor .i64 (bits BinOp.xor .i64 (bits BinOp.xor .i64 (bits BinOp.xor .i64 (bits BinOp.xor .i64 (bits BinOp.xor .i64 (bits BinOp.xor .i64 (0 : Int) M) N) O) P) Q) R) S) T) U) V) W), Ci (bits BinOp.xor .i64 (bits BinOp.xor .i64 (bits BinOp.xor .i64 (bits BinOp.xor .i64 (bits BinOp.xor .i64 (bits BinOp.xor .i64 (bits BinOp.xor .i64 (bits BinOp.xor .i64 (bits BinOp.xor .i64 (bits BinOp.xor .i64 (bits BinOp.xor .i64 (0 : Int) X) Y) Z) aa) ab) ac) ad) af) ag) ah) aj)]] [1] [Hc ak 3 k])) (0 ≤ (10 : Int)∧(10 : Int) < ((11 : Nat) : Int))) (0 ≤ (0 : Int)∧(0 : Int) < ((11 : Nat) : Int))) (0 ≤ (1 : Int)∧(1 : Int) < ((11 : Nat) : Int))) (0 ≤ (2 : Int)∧(2 : Int) < ((11 : Nat) : Int))) (0 ≤ (3 : Int)∧(3 : Int) < ((11 : Nat) : Int))) (0 ≤ (4 : Int)∧(4 : Int) < ((11 : Nat) : Int))) (0 ≤ (5 : Int)∧(5 : Int) < ((11 : Nat) : Int))) (0 ≤ (6 : Int)∧(6 : Int) < ((11 : Nat) : Int))) (0 ≤ (7 : Int)∧(7 : Int) < ((11 : Nat) : Int))) (0 ≤ (8 : Int)∧(8 : Int) < ((11 : Nat) : Int))) (0 ≤ (9 : Int)∧(9 : Int) < ((11 : Nat) : Int))) [Ci (syn f 0), Ci (syn f 1), Ci (syn f 2)]) (Hr false ao 0 1 11 0 [fun j => Ci (f j)])) (el (f 0)∧d)) (gfM (f 0) (1 : Int))) (el (1 : Int))) := by kernel_rfl
theorem synI_any (ao : Option Addr) (c : Nat) (f : Nat → Int) (w : World) (h : Row.sat w ⟨false, ao, 0, 1, 11, 0, [fun i => .int (f i)]⟩) (hsy : symB 11 f 11 = true) : Calls Try.prog 74 #[.slice ao 11 c] w fun e w' => ∃ b : Nat, e = .returned (.slice (some ⟨b, 0, none⟩) 3 3) ∧ HS ⟨w, fun _ => False⟩ [.cells b 3 [.int (syn f 0), .int (syn f 1), .int (syn f 2)]] w' := by
  refine fn_ok mixed (E := {tb := [(54, sSym), (83, sPow), (76, sMul)], L := [(8, relit Try.prog {tb := [(83, sPow), (76, sMul)]} 400 12 (theLoop Try.f74 1) 17 (.il 11))]}) ⟨sSym_I, sPow_I, sMul_I, trivial⟩ Try.func74 (second_loop (k0 := 5) (by kernel_rfl) (by decide) (relit_ok mixed (E := {tb := [(83, sPow), (76, sMul)]}) ⟨sPow_I, sMul_I, trivial⟩ (loopsOK_nil _ _ _))) (@Eq.mpr _ _ (synI_T ao c f) ?_) (HS.rows (fun _ => False) [⟨false, ao, 0, 1, 11, 0, [fun i => .int (f i)]⟩] (by simpa using h)) (fun v ch' w' ⟨b, hv, hc⟩ hs => ⟨b, by rw [hv], hc.hs hs⟩)
  dsimp -zeta -proj -iota -eta -failIfUnchanged (etaStruct := .none) only
  clear h
  have hel := symB_el hsy
  repeat' (first
    | with_reducible exact rfl
    | exact True.intro
    | with_reducible assumption
    | (intro h; exfalso; rw [hsy] at h; simp at h; done)
    | exact ⟨⟨⟨rfl, rfl, by kernel_rfl⟩, True.intro⟩, rfl⟩
    | exact hel _ (by omega)
    | exact el_gf (by assumption) (by assumption)
    | exact el_xor (by assumption) (by assumption)
    | refine And.intro ?_ ?_
    | apply Exists.intro
    | (intro z hz; subst hz)
    | (intro h; exfalso; simp at h; done)
    | (intro h; exfalso; replace h := of_decide_eq_true h; omega)
    | (intro h; exfalso; replace h := of_decide_eq_false h; omega)
    | intro _
    | omega
    | exact rfl)
theorem synS_T (ao : Option Addr) (c : Nat) (f : Nat → Int) : (exFn Try.prog {tb := [(47, sSym), (65, sPow), (64, sMul)], R := [(5, 12)]} 400 Try.f81 ([.a (.c (.sl 0 ao 11 c))]) ([.row ⟨false, ao, 0, 1, 11, 0, [fun i => .int (f i)]⟩]) (fun v ch => ∃ b : Nat, v.den = .slice (some ⟨b, 0, none⟩) 3 3 ∧ SelS ch (idSlc v) [.cells b 3 [.int (syn f 0), .int (syn f 1), .int (syn f 2)]])) = (
  (fun d : Prop => (fun g : Int => (fun h : Prop => (fun j : Bool => (fun k : Bool => (fun l : Bool => (fun m : Bool => (fun n : Bool => (fun o : Bool => (fun p : Bool => (fun q : Bool => (fun r : Bool => (fun s : Bool => (fun t : Bool => (fun u : Bool => (fun w : Ch => (fun x : List SC => (fun y : Prop => (fun z : Prop => (fun B : Prop => (fun C : Prop => (fun D : Prop => (fun E : Prop => (fun F : Prop => (fun G : Prop => (fun H : Prop => (fun I : Prop => (fun J : Prop => (fun K : Prop => ∃ L : Nat→Int, (ao = ao∧11 = 11∧[fun M => Ci (f M)] = [fun M => Ci (L M)])∧lenC 11∧((! (symB 11 L (11 : Int))) = true→∀ M : Nat, ∃ N : Nat, (Ws (Ad M 0) 0 0) = (Ws (Ad N 0) 3 3)∧SelS [w, Hc M 3 []] [1] [Hc N 3 x])∧((! (symB 11 L (11 : Int))) = false→∀ M : Nat, (fun N : Value => (s = true→M = M∧ao = ao∧11 = 11∧I∧ao = ao∧0 < 11∧h∧∀ O : Int, (fun P : Int => O = g→True∧M = M∧True∧M = M∧ao = ao∧11 = 11∧I∧ao = ao∧0 < 11∧h∧∀ Q : Int, (fun S : Int => Q = g→True∧M = M∧True∧M = M∧ao = ao∧11 = 11∧I∧ao = ao∧0 < 11∧h∧∀ T : Int, (fun U : Int => T = g→True∧M = M∧True∧(r = true→M = M∧ao = ao∧11 = 11∧H∧ao = ao∧1 < 11∧(el (f 1)∧d)∧∀ V : Int, (fun W : Int => V = (gfM (f 1) (1 : Int))→True∧M = M∧True∧M = M∧ao = ao∧11 = 11∧H∧ao = ao∧1 < 11∧(el (f 1)∧el (2 : Int))∧∀ X : Int, (fun Y : Int => X = (gfM (f 1) (2 : Int))→True∧M = M∧True∧M = M∧ao = ao∧11 = 11∧H∧ao = ao∧1 < 11∧(el (f 1)∧el (4 : Int))∧∀ Z : Int, (fun aa : Int => Z = (gfM (f 1) (4 : Int))→True∧M = M∧True∧(q = true→M = M∧ao = ao∧11 = 11∧G∧ao = ao∧2 < 11∧(el (f 2)∧d)∧∀ ab : Int, (fun ac : Int => ab = (gfM (f 2) (1 : Int))→True∧M = M∧True∧M = M∧ao = ao∧11 = 11∧G∧ao = ao∧2 < 11∧(el (f 2)∧el (4 : Int))∧∀ ad : Int, (fun af : Int => ad = (gfM (f 2) (4 : Int))→True∧M = M∧True∧M = M∧ao = ao∧11 = 11∧G∧ao = ao∧2 < 11∧(el (f 2)∧el (3 : Int))∧∀ ag : Int, (fun ah : Int => ag = (gfM (f 2) (3 : Int))→True∧M = M∧True∧(p = true→M = M∧ao = ao∧11 = 11∧F∧ao = ao∧3 < 11∧(el (f 3)∧d)∧∀ aj : Int, (fun ak : Int => aj = (gfM (f 3) (1 : Int))→True∧M = M∧True∧M = M∧ao = ao∧11 = 11∧F∧ao = ao∧3 < 11∧(el (f 3)∧el (8 : Int))∧∀ al : Int, (fun am : Int => al = (gfM (f 3) (8 : Int))→True∧M = M∧True∧M = M∧ao = ao∧11 = 11∧F∧ao = ao∧3 < 11∧(el (f 3)∧el (12 : Int))∧∀ an : Int, (fun ap : Int => an = (gfM (f 3) (12 : Int))→True∧M = M∧True∧(o = true→M = M∧ao = ao∧11 = 11∧E∧ao = ao∧4 < 11∧(el (f 4)∧d)∧∀ aq : Int, (fun ar : Int => aq = (gfM (f 4) (1 : Int))→True∧M = M∧True∧M = M∧ao = ao∧11 = 11∧E∧ao = ao∧4 < 11∧(el (f 4)∧el (3 : Int))∧∀ au : Int, (fun av : Int => au = (gfM (f 4) (3 : Int))→True∧M = M∧True∧M = M∧ao = ao∧11 = 11∧E∧ao = ao∧4 < 11∧(el (f 4)∧el (5 : Int))∧∀ aw : Int, (fun ax : Int => aw = (gfM (f 4) (5 : Int))→True∧M = M∧True∧(n = true→M = M∧ao = ao∧11 = 11∧D∧ao = ao∧5 < 11∧(el (f 5)∧d)∧∀ ay : Int, (fun az : Int => ay = (gfM (f 5) (1 : Int))→True∧M = M∧True∧M = M∧ao = ao∧11 = 11∧D∧ao = ao∧5 < 11∧(el (f 5)∧el (6 : Int))∧∀ aA : Int, (fun aB : Int => aA = (gfM (f 5) (6 : Int))→True∧M = M∧True∧M = M∧ao = ao∧11 = 11∧D∧ao = ao∧5 < 11∧(el (f 5)∧el (7 : Int))∧∀ aC : Int, (fun aD : Int => aC = (gfM (f 5) (7 : Int))→True∧M = M∧True∧(m = true→M = M∧ao = ao∧11 = 11∧C∧ao = ao∧6 < 11∧(el (f 6)∧d)∧∀ aE : Int, (fun aF : Int => aE = (gfM (f 6) (1 : Int))→True∧M = M∧True∧M = M∧ao = ao∧11 = 11∧C∧ao = ao∧6 < 11∧(el (f 6)∧el (12 : Int))∧∀ aG : Int, (fun aH : Int => aG = (gfM (f 6) (12 : Int))→True∧M = M∧True∧M = M∧ao = ao∧11 = 11∧C∧ao = ao∧6 < 11∧(el (f 6)∧el (15 : Int))∧∀ aI : Int, (fun aJ : Int => aI = (gfM (f 6) (15 : Int))→True∧M = M∧True∧(l = true→M = M∧ao = ao∧11 = 11∧B∧ao = ao∧7 < 11∧(el (f 7)∧d)∧∀ aK : Int, (fun aL : Int => aK = (gfM (f 7) (1 : Int))→True∧M = M∧True∧M = M∧ao = ao∧11 = 11∧B∧ao = ao∧7 < 11∧(el (f 7)∧el (11 : Int))∧∀ aM : Int, (fun aN : Int => aM = (gfM (f 7) (11 : Int))→True∧M = M∧True∧M = M∧ao = ao∧11 = 11∧B∧ao = ao∧7 < 11∧(el (f 7)∧el (9 : Int))∧∀ aO : Int, (fun aP : Int => aO = (gfM (f 7) (9 : Int))→True∧M = M∧True∧(k = true→M = M∧ao = ao∧11 = 11∧z∧ao = ao∧8 < 11∧(el (f 8)∧d)∧∀ aQ : Int, (fun aR : Int => aQ = (gfM (f 8) (1 : Int))→True∧M = M∧True∧M = M∧ao = ao∧11 = 11∧z∧ao = ao∧8 < 11∧(el (f 8)∧el (5 : Int))∧∀ aS : Int, (fun aT : Int => aS = (gfM (f 8) (5 : Int))→True∧M = M∧True∧M = M∧ao = ao∧11 = 11∧z∧ao = ao∧8 < 11∧(el (f 8)∧el (2 : Int))∧∀ aU : Int, (fun aV : Int => aU = (gfM (f 8) (2 : Int))→True∧M = M∧True∧(j = true→M = M∧ao = ao∧11 = 11∧y∧ao = ao∧9 < 11∧(el (f 9)∧d)∧∀ aW : Int, aW = (gfM (f 9) (1 : Int))→True∧M = M∧True∧M = M∧ao = ao∧11 = 11∧y∧ao = ao∧9 < 11∧(el (f 9)∧el (10 : Int))∧∀ aX : Int, aX = (gfM (f 9) (10 : Int))→True∧M = M∧True∧M = M∧ao = ao∧11 = 11∧y∧ao = ao∧9 < 11∧(el (f 9)∧el (8 : Int))∧∀ aY : Int, aY = (gfM (f 9) (8 : Int))→True∧M = M∧True∧(u = true→M = M∧ao = ao∧11 = 11∧K∧ao = ao∧10 < 11∧(el (f 10)∧d)∧∀ aZ : Int, aZ = (gfM (f 10) (1 : Int))→True∧M = M∧True∧M = M∧ao = ao∧11 = 11∧K∧ao = ao∧10 < 11∧(el (f 10)∧el (7 : Int))∧∀ a0 : Int, a0 = (gfM (f 10) (7 : Int))→True∧M = M∧True∧M = M∧ao = ao∧11 = 11∧K∧ao = ao∧10 < 11∧(el (f 10)∧el (6 : Int))∧∀ a1 : Int, a1 = (gfM (f 10) (6 : Int))→True∧M = M∧True∧(t = true→M = M∧ao = ao∧11 = 11∧J∧ao = ao∧11 < 11∧(el (f 11)∧d)∧∀ a2 : Int, a2 = (gfM (f 11) (1 : Int))→True∧M = M∧True∧M = M∧ao = ao∧11 = 11∧J∧ao = ao∧11 < 11∧(el (f 11)∧el (14 : Int))∧∀ a3 : Int, a3 = (gfM (f 11) (14 : Int))→True∧M = M∧True∧M = M∧ao = ao∧11 = 11∧J∧ao = ao∧11 < 11∧(el (f 11)∧el (11 : Int))∧∀ a4 : Int, a4 = (gfM (f 11) (11 : Int))→True∧M = M∧True∧False)∧(t = false→∃ a2 : Nat, N = (Ws (Ad a2 0) 3 3)∧SelS [w, Hc M 3 [Ci (bits BinOp.xor .i64 (bits BinOp.xor .i64 aR aW) aZ), Ci (bits BinOp.xor .i64 (bits BinOp.xor .i64 aT aX) a0), Ci (bits BinOp.xor .i64 (bits BinOp.xor .i64 aV aY) a1)]] [1] [Hc a2 3 x]))∧(u = false→∃ aZ : Nat, N = (Ws (Ad aZ 0) 3 3)∧SelS [w, Hc M 3 [Ci (bits BinOp.xor .i64 aR aW), Ci (bits BinOp.xor .i64 aT aX), Ci (bits BinOp.xor .i64 aV aY)]] [1] [Hc aZ 3 x]))∧(j = false→∃ aW : Nat, N = (Ws (Ad aW 0) 3 3)∧SelS [w, Hc M 3 [Ci aR, Ci aT, Ci aV]] [1] [Hc aW 3 x])) (bits BinOp.xor .i64 aP aU)) (bits BinOp.xor .i64 aN aS)) (bits BinOp.xor .i64 aL aQ))∧(k = false→∃ aQ : Nat, N = (Ws (Ad aQ 0) 3 3)∧SelS [w, Hc M 3 [Ci aL, Ci aN, Ci aP]] [1] [Hc aQ 3 x])) (bits BinOp.xor .i64 aJ aO)) (bits BinOp.xor .i64 aH aM)) (bits BinOp.xor .i64 aF aK))∧(l = false→∃ aK : Nat, N = (Ws (Ad aK 0) 3 3)∧SelS [w, Hc M 3 [Ci aF, Ci aH, Ci aJ]] [1] [Hc aK 3 x])) (bits BinOp.xor .i64 aD aI)) (bits BinOp.xor .i64 aB aG)) (bits BinOp.xor .i64 az aE))∧(m = false→∃ aE : Nat, N = (Ws (Ad aE 0) 3 3)∧SelS [w, Hc M 3 [Ci az, Ci aB, Ci aD]] [1] [Hc aE 3 x])) (bits BinOp.xor .i64 ax aC)) (bits BinOp.xor .i64 av aA)) (bits BinOp.xor .i64 ar ay))∧(n = false→∃ ay : Nat, N = (Ws (Ad ay 0) 3 3)∧SelS [w, Hc M 3 [Ci ar, Ci av, Ci ax]] [1] [Hc ay 3 x])) (bits BinOp.xor .i64 ap aw)) (bits BinOp.xor .i64 am au)) (bits BinOp.xor .i64 ak aq))∧(o = false→∃ aq : Nat, N = (Ws (Ad aq 0) 3 3)∧SelS [w, Hc M 3 [Ci ak, Ci am, Ci ap]] [1] [Hc aq 3 x])) (bits BinOp.xor .i64 ah an)) (bits BinOp.xor .i64 af al)) (bits BinOp.xor .i64 ac aj))∧(p = false→∃ aj : Nat, N = (Ws (Ad aj 0) 3 3)∧SelS [w, Hc M 3 [Ci ac, Ci af, Ci ah]] [1] [Hc aj 3 x])) (bits BinOp.xor .i64 aa ag)) (bits BinOp.xor .i64 Y ad)) (bits BinOp.xor .i64 W ab))∧(q = false→∃ ab : Nat, N = (Ws (Ad ab 0) 3 3)∧SelS [w, Hc M 3 [Ci W, Ci Y, Ci aa]] [1] [Hc ab 3 x])) (bits BinOp.xor .i64 U Z)) (bits BinOp.xor .i64 S X)) (bits BinOp.xor .i64 P V))∧(r = false→∃ V : Nat, N = (Ws (Ad V 0) 3 3)∧SelS [w, Hc M 3 [Ci P, Ci S, Ci U]] [1] [Hc V 3 x])) (bits BinOp.xor .i64 (0 : Int) T)) (bits BinOp.xor .i64 (0 : Int) Q)) (bits BinOp.xor .i64 (0 : Int) O))∧(s = false→∃ O : Nat, N = (Ws (Ad O 0) 3 3)∧SelS [w, Hc M 3 [Cl 0, Cl 0, Cl 0]] [1] [Hc O 3 x])) (Ws (Ad M 0) 3 3))) (0 ≤ (10 : Int)∧(10 : Int) < ((11 : Nat) : Int))) (0 ≤ (11 : Int)∧(11 : Int) < ((11 : Nat) : Int))) (0 ≤ (0 : Int)∧(0 : Int) < ((11 : Nat) : Int))) (0 ≤ (1 : Int)∧(1 : Int) < ((11 : Nat) : Int))) (0 ≤ (2 : Int)∧(2 : Int) < ((11 : Nat) : Int))) (0 ≤ (3 : Int)∧(3 : Int) < ((11 : Nat) : Int))) (0 ≤ (4 : Int)∧(4 : Int) < ((11 : Nat) : Int))) (0 ≤ (5 : Int)∧(5 : Int) < ((11 : Nat) : Int))) (0 ≤ (6 : Int)∧(6 : Int) < ((11 : Nat) : Int))) (0 ≤ (7 : Int)∧(7 : Int) < ((11 : Nat) : Int))) (0 ≤ (8 : Int)∧(8 : Int) < ((11 : Nat) : Int))) (0 ≤ (9 : Int)∧(9 : Int) < ((11 : Nat) : Int))) [Ci (syn f 0), Ci (syn f 1), Ci (syn f 2)]) (Hr false ao 0 1 11 0 [fun w => Ci (f w)])) (decide ((10 : Int) < (11 : Int)))) (decide ((11 : Int) < (11 : Int)))) (decide ((0 : Int) < (11 : Int)))) (decide ((1 : Int) < (11 : Int)))) (decide ((2 : Int) < (11 : Int)))) (decide ((3 : Int) < (11 : Int)))) (decide ((4 : Int) < (11 : Int)))) (decide ((5 : Int) < (11 : Int)))) (decide ((6 : Int) < (11 : Int)))) (decide ((7 : Int) < (11 : Int)))) (decide ((8 : Int) < (11 : Int)))) (decide ((9 : Int) < (11 : Int)))) (el (f 0)∧d)) (gfM (f 0) (1 : Int))) (el (1 : Int))) := by kernel_rfl
theorem synS_any (ao : Option Addr) (c : Nat) (f : Nat → Int) (w : World) (h : Row.sat w ⟨false, ao, 0, 1, 11, 0, [fun i => .int (f i)]⟩) (hsy : symB 11 f 11 = true) : Calls Try.prog 81 #[.slice ao 11 c] w fun e w' => ∃ b : Nat, e = .returned (.slice (some ⟨b, 0, none⟩) 3 3) ∧ HS ⟨w, fun _ => False⟩ [.cells b 3 [.int (syn f 0), .int (syn f 1), .int (syn f 2)]] w' := by
  refine fn_ok mixed (E := {tb := [(47, sSym), (65, sPow), (64, sMul)], R := [(5, 12)]}) ⟨sSym_S, sPow_S, sMul_S, trivial⟩ Try.func81 (fun _ _ => loopsOK_nil _ _ _) (@Eq.mpr _ _ (synS_T ao c f) ?_) (HS.rows (fun _ => False) [⟨false, ao, 0, 1, 11, 0, [fun i => .int (f i)]⟩] (by simpa using h)) (fun v ch' w' ⟨b, hv, hc⟩ hs => ⟨b, by rw [hv], hc.hs hs⟩)
  dsimp -zeta -proj -iota -eta -failIfUnchanged (etaStruct := .none) only
  clear h
  have hel := symB_el hsy
  repeat' (first
    | with_reducible exact rfl
    | exact True.intro
    | with_reducible assumption
    | (intro h; exfalso; rw [hsy] at h; simp at h; done)
    | exact ⟨⟨⟨rfl, rfl, by kernel_rfl⟩, True.intro⟩, rfl⟩
    | exact hel _ (by omega)
    | exact el_gf (by assumption) (by assumption)
    | exact el_xor (by assumption) (by assumption)
    | refine And.intro ?_ ?_
    | apply Exists.intro
    | (intro z hz; subst hz)
    | (intro h; exfalso; simp at h; done)
    | (intro h; exfalso; replace h := of_decide_eq_true h; omega)
    | (intro h; exfalso; replace h := of_decide_eq_false h; omega)
    | intro _
    | omega
    | exact rfl)

def sSyn : Sm := fun args ch k =>
  match args with
  | [.a (.c c)] => rdn ch c fun n g => (n = 11 ∧ symB 11 g 11 = true) ∧ ∀ b : Nat, k (.a (.c (.slc ch.length b 3 3))) (ch ++ [.cells b 3 [.int (syn g 0), .int (syn g 1), .int (syn g 2)]]) []
  | _ => False
theorem sSyn_I : SmOK Try.prog 74 sSyn := by
  refine smN Try.call74 fun args ch k w X h0 hs => ?_
  unfold sSyn at h0
  split at h0
  · obtain ⟨ao, n, c', g, e, hr, ⟨rfl, hsy⟩, h1⟩ := rdn_ok h0 hs
    simp only [List.map_cons, List.map_nil, den_a, den_c, e]
    exact Calls.mono (synI_any ao c' g w hr hsy) fun e w' ⟨b, he, hs'⟩ => ⟨.a (.c (.slc ch.length b 3 3)), _, by rw [he]; rfl, hs', rfl, h1 b⟩
  · exact h0.elim
theorem sSyn_S : SmOK Try.prog 81 sSyn := by
  refine smN Try.call81 fun args ch k w X h0 hs => ?_
  unfold sSyn at h0
  split at h0
  · obtain ⟨ao, n, c', g, e, hr, ⟨rfl, hsy⟩, h1⟩ := rdn_ok h0 hs
    simp only [List.map_cons, List.map_nil, den_a, den_c, e]
    exact Calls.mono (synS_any ao c' g w hr hsy) fun e w' ⟨b, he, hs'⟩ => ⟨.a (.c (.slc ch.length b 3 3)), _, by rw [he]; rfl, hs', rfl, h1 b⟩
  · exact h0.elim
theorem lt11 {i : Nat} (h : i < 11) : i = 0 ∨ i = 1 ∨ i = 2 ∨ i = 3 ∨ i = 4 ∨ i = 5 ∨ i = 6 ∨ i = 7 ∨ i = 8 ∨ i = 9 ∨ i = 10 := by omega
theorem symB_mk {n : Nat} {g : Nat → Int} {m : Int} (h : ∀ i, i < n → el (g i)) (hm : (n : Int) = m) : symB n g m = true := by
  simp only [symB, Bool.and_eq_true, ieq, beq_iff_eq]
  refine ⟨?_, hm⟩
  simp only [allB, List.all_eq_true, List.mem_range]
  intro i hi
  exact btw_mk (h i hi).1 (h i hi).2
theorem encI_T (ao : Option Addr) (c : Nat) (d : Nat → Int) : (exFn Try.prog {tb := [(54, sSym), (74, sSyn), (75, sInv), (76, sMul)]} 400 Try.f67 ([.a (.c (.sl 0 ao 8 c))]) ([.row ⟨false, ao, 0, 1, 8, 0, [fun i => .int (d i)]⟩]) (fun v ch => ∃ (ro : Option Addr) (rc : Nat), OutR v ch (.slice ro 11 rc) [.row ⟨true, ro, 3, 1, 11, rc, [fun i => .int (enc d i)]⟩])) = (
  (fun b : Prop => (fun g : Prop => ∃ h : Nat→Int, (ao = ao∧8 = 8∧[fun j => Ci (d j)] = [fun j => Ci (h j)])∧lenC 8∧((! (symB 8 h (8 : Int))) = true→∃(j : Option Addr) (k : Nat), Wn = (Ws j 11 k)∧((true = true∧(none : Option Addr) = j∧0 = 11∧0 = k∧true = true)∧True)∧true = true)∧((! (symB 8 h (8 : Int))) = false→∀ j : Nat, (j = j∧(ao = ao∧8 = 8)∧(∀ k : Nat, true = true)∧apC 3 8 8)∧∀(k : Option Addr) (l : Nat), ∃ m : Nat→Int, (fun n : Int => (fun o : Int => (fun p : Prop => (fun q : Prop => (k = k∧11 = 11∧[fun r => Ci (if r < 3 then (litZ [(0 : Int), (0 : Int), (0 : Int)] r) else (d (r - 3)))] = [fun r => Ci (m r)])∧(11 = 11∧(symB 11 m (11 : Int)) = true)∧∀ r : Nat, r = r∧r = r∧r = r∧r = r∧(el (2 : Int)∧q)∧∀ s : Int, s = (gfM (2 : Int) o)→(el (5 : Int)∧p)∧∀ t : Int, t = (gfM (5 : Int) n)→(el (bits BinOp.xor .i64 s t)∧el (13 : Int))∧∀ u : Int, u = (gfM (bits BinOp.xor .i64 s t) (13 : Int))→k = k∧11 = 11∧g∧k = k∧1 < 11∧(el (3 : Int)∧p)∧∀ w : Int, w = (gfM (3 : Int) n)→(el (5 : Int)∧q)∧∀ x : Int, x = (gfM (5 : Int) o)→(el (bits BinOp.xor .i64 w x)∧el (13 : Int))∧∀ y : Int, y = (gfM (bits BinOp.xor .i64 w x) (13 : Int))→k = k∧11 = 11∧b∧k = k∧2 < 11∧r = r∧k = k∧11 = 11∧g∧k = k∧1 < 11∧k = k∧11 = 11∧b∧k = k∧2 < 11∧k = k∧11 = 11∧(0 ≤ (0 : Int)∧(0 : Int) < ((11 : Nat) : Int))∧k = k∧0 < 11∧True∧∃(z : Option Addr) (B : Nat), (Ws k 11 l) = (Ws z 11 B)∧((true = true∧k = z∧3 = 3∧1 = 1∧11 = 11∧l = B∧(∀ C : Nat, C < 11→(Wi (if C = 0 then (bits BinOp.xor .i64 (bits BinOp.xor .i64 (syn m 0) u) y) else (if C = 2 then y else (if C = 1 then u else (if C < 3 then (litZ [(0 : Int), (0 : Int), (0 : Int)] C) else (d (C - 3))))))) = (Wi (enc d C)))∧True)∧True)∧true = true) (el o)) (el n)) (bits BinOp.xor .i64 (syn m 0) (syn m 1))) (bits BinOp.xor .i64 (syn m 0) (syn m 2)))) (0 ≤ (1 : Int)∧(1 : Int) < ((11 : Nat) : Int))) (0 ≤ (2 : Int)∧(2 : Int) < ((11 : Nat) : Int))) := by kernel_rfl
theorem encI_any (ao : Option Addr) (c : Nat) (d : Nat → Int) (w : World) (h : Row.sat w ⟨false, ao, 0, 1, 8, 0, [fun i => .int (d i)]⟩) (hsy : symB 8 d 8 = true) : Calls Try.prog 67 #[.slice ao 8 c] w fun e w' => ∃ (ro : Option Addr) (rc : Nat), e = .returned (.slice ro 11 rc) ∧ HS ⟨w, fun _ => False⟩ [.row ⟨true, ro, 3, 1, 11, rc, [fun i => .int (enc d i)]⟩] w' := by
  refine fn_ok mixed (E := {tb := [(54, sSym), (74, sSyn), (75, sInv), (76, sMul)]}) ⟨sSym_I, sSyn_I, sInv_ok, sMul_I, trivial⟩ Try.func67 (fun _ _ => loopsOK_nil _ _ _) (@Eq.mpr _ _ (encI_T ao c d) ?_) (HS.rows (fun _ => False) [⟨false, ao, 0, 1, 8, 0, [fun i => .int (d i)]⟩] (by simpa using h)) (fun v ch' w' ⟨ro, rc, hk⟩ hs => ⟨ro, rc, by rw [hk.1], hk.hs hs⟩)
  dsimp -zeta -proj -iota -eta -failIfUnchanged (etaStruct := .none) only
  clear h
  have hel := symB_el hsy
  have hfr : symB 11 (fun i => if i < 3 then litZ [0, 0, 0] i else d (i - 3)) 11 = true := symB_mk (fun i hi => by
    by_cases h3 : i < 3
    · simp only [if_pos h3]
      match i, h3 with
      | 0, _ => exact ⟨by decide, by decide⟩
      | 1, _ => exact ⟨by decide, by decide⟩
      | 2, _ => exact ⟨by decide, by decide⟩
    · simp only [if_neg h3]
      exact hel _ (by omega)) rfl
  have hfe : ∀ j, j < 3 → el (syn (fun i => if i < 3 then litZ [0, 0, 0] i else d (i - 3)) j) := fun j hj => syn_el (symB_el hfr) hj
  repeat' (first
    | with_reducible exact rfl
    | exact True.intro
    | with_reducible assumption
    | (intro h; exfalso; rw [hsy] at h; simp at h; done)
    | with_reducible exact hfr
    | with_reducible exact hfe _ (by omega)
    | with_reducible exact hel _ (by omega)
    | (with_reducible refine mulStep ?_ ?_ (fun z hze hz => ?_))
    | (with_reducible refine el_xor ?_ ?_)
    | (intro i hi; subst_vars; rcases lt11 hi with rfl | rfl | rfl | rfl | rfl | rfl | rfl | rfl | rfl | rfl | rfl; (show (_ : Value) = _; kernel_rfl); (show (_ : Value) = _; kernel_rfl); (show (_ : Value) = _; kernel_rfl); (show (_ : Value) = _; kernel_rfl); (show (_ : Value) = _; kernel_rfl); (show (_ : Value) = _; kernel_rfl); (show (_ : Value) = _; kernel_rfl); (show (_ : Value) = _; kernel_rfl); (show (_ : Value) = _; kernel_rfl); (show (_ : Value) = _; kernel_rfl); (show (_ : Value) = _; kernel_rfl))
    | refine And.intro ?_ ?_
    | apply Exists.intro
    | (intro z hz; subst hz)
    | (intro h; exfalso; simp at h; done)
    | (intro h; exfalso; replace h := of_decide_eq_true h; omega)
    | (intro h; exfalso; replace h := of_decide_eq_false h; omega)
    | intro _
    | omega
    | exact rfl)
theorem encS_T (ao : Option Addr) (c : Nat) (d : Nat → Int) : (exFn Try.prog {tb := [(47, sSym), (65, sPow), (64, sMul)], L := [(17, relit Try.prog {tb := [(64, sMul)]} 400 10 (theLoop Try.f49 2) 9 (.il 10))]} 400 Try.f49 ([.a (.c (.sl 0 ao 8 c))]) ([.row ⟨false, ao, 0, 1, 8, 0, [fun i => .int (d i)]⟩]) (fun v ch => ∃ (ro : Option Addr) (rc : Nat), OutR v ch (.slice ro 11 rc) [.row ⟨true, ro, 3, 1, 11, rc, [fun i => .int (enc d i)]⟩])) = (
  (fun b : Prop => (fun g : Prop => (fun h : Prop => (fun j : Prop => (fun k : Prop => (fun l : Prop => (fun m : Prop => (fun n : Prop => (fun o : Prop => (fun p : Prop => (fun q : Prop => (fun r : Prop => (fun s : Prop => (fun t : Prop => (fun u : Prop => ∃ w : Nat→Int, (ao = ao∧8 = 8∧[fun x => Ci (d x)] = [fun x => Ci (w x)])∧lenC 8∧((! (symB 8 w (8 : Int))) = true→∀ x : Nat, ∃(y : Option Addr) (z : Nat), (Ws (Ad x 0) 0 0) = (Ws y 11 z)∧((true = true∧(Ad x 0) = y∧3 = 3∧true = true∧0 = 11∧0 = z∧true = true)∧True)∧true = true)∧((! (symB 8 w (8 : Int))) = false→∀ x : Nat, (x = x∧(ao = ao∧8 = 8)∧(∀ y : Nat, true = true)∧apC 3 8 8)∧∀(y : Option Addr) (z B C : Nat), C = C∧B = B∧C = C∧True∧C = C∧B = B∧True∧True∧C = C∧True∧C = C∧B = B∧C = C∧True∧C = C∧B = B∧True∧True∧C = C∧True∧∀ D : Nat, D = D∧C = C∧D = D∧True∧D = D∧C = C∧True∧True∧D = D∧True∧D = D∧C = C∧D = D∧True∧D = D∧C = C∧True∧True∧D = D∧True∧D = D∧C = C∧D = D∧True∧D = D∧C = C∧True∧True∧D = D∧True∧∀ E : Nat, (E = E∧(y = y∧11 = 11)∧(∀ F : Nat, true = true)∧apC 0 11 8)∧∀(F : Option Addr) (G : Nat), rng ((11 : Int) - (1 : Int))∧(Wi ((11 : Int) - (1 : Int))) = (Wi 10)∧F = F∧11 = 11∧u∧F = F∧10 < 11∧F = F∧11 = 11∧t∧F = F∧7 < 11∧D = D∧(h∧el (d 7))∧∀ H : Int, (fun I : Int => H = (gfM (8 : Int) (d 7))→True∧F = F∧11 = 11∧t∧F = F∧7 < 11∧True∧F = F∧11 = 11∧s∧F = F∧8 < 11∧D = D∧(j∧el (d 7))∧∀ J : Int, (fun K : Int => J = (gfM (14 : Int) (d 7))→True∧F = F∧11 = 11∧s∧F = F∧8 < 11∧True∧F = F∧11 = 11∧r∧F = F∧9 < 11∧D = D∧(g∧el (d 7))∧∀ M : Int, (fun N : Int => (fun O : Prop => M = (gfM (7 : Int) (d 7))→True∧F = F∧11 = 11∧r∧F = F∧9 < 11∧True∧F = F∧11 = 11∧u∧F = F∧10 < 11∧D = D∧(b∧el (d 7))∧∀ P : Int, P = (gfM (1 : Int) (d 7))→True∧F = F∧11 = 11∧u∧F = F∧10 < 11∧True∧F = F∧11 = 11∧r∧F = F∧9 < 11∧F = F∧11 = 11∧q∧F = F∧6 < 11∧D = D∧(h∧O)∧∀ Q : Int, (fun R : Int => Q = (gfM (8 : Int) N)→True∧F = F∧11 = 11∧q∧F = F∧6 < 11∧True∧F = F∧11 = 11∧t∧F = F∧7 < 11∧D = D∧(j∧O)∧∀ S : Int, (fun T : Int => S = (gfM (14 : Int) N)→True∧F = F∧11 = 11∧t∧F = F∧7 < 11∧True∧F = F∧11 = 11∧s∧F = F∧8 < 11∧D = D∧(g∧O)∧∀ U : Int, (fun V : Int => (fun W : Prop => U = (gfM (7 : Int) N)→True∧F = F∧11 = 11∧s∧F = F∧8 < 11∧True∧F = F∧11 = 11∧r∧F = F∧9 < 11∧D = D∧(b∧O)∧∀ X : Int, X = (gfM (1 : Int) N)→True∧F = F∧11 = 11∧r∧F = F∧9 < 11∧True∧F = F∧11 = 11∧s∧F = F∧8 < 11∧F = F∧11 = 11∧p∧F = F∧5 < 11∧D = D∧(h∧W)∧∀ Y : Int, (fun Z : Int => Y = (gfM (8 : Int) V)→True∧F = F∧11 = 11∧p∧F = F∧5 < 11∧True∧F = F∧11 = 11∧q∧F = F∧6 < 11∧D = D∧(j∧W)∧∀ aa : Int, (fun ab : Int => aa = (gfM (14 : Int) V)→True∧F = F∧11 = 11∧q∧F = F∧6 < 11∧True∧F = F∧11 = 11∧t∧F = F∧7 < 11∧D = D∧(g∧W)∧∀ ac : Int, (fun ad : Int => (fun af : Prop => ac = (gfM (7 : Int) V)→True∧F = F∧11 = 11∧t∧F = F∧7 < 11∧True∧F = F∧11 = 11∧s∧F = F∧8 < 11∧D = D∧(b∧W)∧∀ ag : Int, ag = (gfM (1 : Int) V)→True∧F = F∧11 = 11∧s∧F = F∧8 < 11∧True∧F = F∧11 = 11∧t∧F = F∧7 < 11∧F = F∧11 = 11∧o∧F = F∧4 < 11∧D = D∧(h∧af)∧∀ ah : Int, (fun aj : Int => ah = (gfM (8 : Int) ad)→True∧F = F∧11 = 11∧o∧F = F∧4 < 11∧True∧F = F∧11 = 11∧p∧F = F∧5 < 11∧D = D∧(j∧af)∧∀ ak : Int, (fun al : Int => ak = (gfM (14 : Int) ad)→True∧F = F∧11 = 11∧p∧F = F∧5 < 11∧True∧F = F∧11 = 11∧q∧F = F∧6 < 11∧D = D∧(g∧af)∧∀ am : Int, (fun an : Int => (fun ap : Prop => am = (gfM (7 : Int) ad)→True∧F = F∧11 = 11∧q∧F = F∧6 < 11∧True∧F = F∧11 = 11∧t∧F = F∧7 < 11∧D = D∧(b∧af)∧∀ aq : Int, aq = (gfM (1 : Int) ad)→True∧F = F∧11 = 11∧t∧F = F∧7 < 11∧True∧F = F∧11 = 11∧q∧F = F∧6 < 11∧F = F∧11 = 11∧n∧F = F∧3 < 11∧D = D∧(h∧ap)∧∀ ar : Int, (fun au : Int => ar = (gfM (8 : Int) an)→True∧F = F∧11 = 11∧n∧F = F∧3 < 11∧True∧F = F∧11 = 11∧o∧F = F∧4 < 11∧D = D∧(j∧ap)∧∀ av : Int, (fun aw : Int => av = (gfM (14 : Int) an)→True∧F = F∧11 = 11∧o∧F = F∧4 < 11∧True∧F = F∧11 = 11∧p∧F = F∧5 < 11∧D = D∧(g∧ap)∧∀ ax : Int, (fun ay : Int => (fun az : Prop => ax = (gfM (7 : Int) an)→True∧F = F∧11 = 11∧p∧F = F∧5 < 11∧True∧F = F∧11 = 11∧q∧F = F∧6 < 11∧D = D∧(b∧ap)∧∀ aA : Int, aA = (gfM (1 : Int) an)→True∧F = F∧11 = 11∧q∧F = F∧6 < 11∧True∧F = F∧11 = 11∧p∧F = F∧5 < 11∧F = F∧11 = 11∧m∧F = F∧2 < 11∧D = D∧(h∧az)∧∀ aB : Int, aB = (gfM (8 : Int) ay)→True∧F = F∧11 = 11∧m∧F = F∧2 < 11∧True∧F = F∧11 = 11∧n∧F = F∧3 < 11∧D = D∧(j∧az)∧∀ aC : Int, (fun aD : Int => aC = (gfM (14 : Int) ay)→True∧F = F∧11 = 11∧n∧F = F∧3 < 11∧True∧F = F∧11 = 11∧o∧F = F∧4 < 11∧D = D∧(g∧az)∧∀ aE : Int, (fun aF : Int => (fun aG : Prop => aE = (gfM (7 : Int) ay)→True∧F = F∧11 = 11∧o∧F = F∧4 < 11∧True∧F = F∧11 = 11∧p∧F = F∧5 < 11∧D = D∧(b∧az)∧∀ aH : Int, aH = (gfM (1 : Int) ay)→True∧F = F∧11 = 11∧p∧F = F∧5 < 11∧True∧F = F∧11 = 11∧o∧F = F∧4 < 11∧F = F∧11 = 11∧l∧F = F∧1 < 11∧D = D∧(h∧aG)∧∀ aI : Int, aI = (gfM (8 : Int) aF)→True∧F = F∧11 = 11∧l∧F = F∧1 < 11∧True∧F = F∧11 = 11∧m∧F = F∧2 < 11∧D = D∧(j∧aG)∧∀ aJ : Int, aJ = (gfM (14 : Int) aF)→True∧F = F∧11 = 11∧m∧F = F∧2 < 11∧True∧F = F∧11 = 11∧n∧F = F∧3 < 11∧D = D∧(g∧aG)∧∀ aK : Int, (fun aL : Int => (fun aM : Prop => aK = (gfM (7 : Int) aF)→True∧F = F∧11 = 11∧n∧F = F∧3 < 11∧True∧F = F∧11 = 11∧o∧F = F∧4 < 11∧D = D∧(b∧aG)∧∀ aN : Int, aN = (gfM (1 : Int) aF)→True∧F = F∧11 = 11∧o∧F = F∧4 < 11∧True∧F = F∧11 = 11∧n∧F = F∧3 < 11∧F = F∧11 = 11∧k∧F = F∧0 < 11∧D = D∧(h∧aM)∧∀ aO : Int, aO = (gfM (8 : Int) aL)→True∧F = F∧11 = 11∧k∧F = F∧0 < 11∧True∧F = F∧11 = 11∧l∧F = F∧1 < 11∧D = D∧(j∧aM)∧∀ aP : Int, aP = (gfM (14 : Int) aL)→True∧F = F∧11 = 11∧l∧F = F∧1 < 11∧True∧F = F∧11 = 11∧m∧F = F∧2 < 11∧D = D∧(g∧aM)∧∀ aQ : Int, aQ = (gfM (7 : Int) aL)→True∧F = F∧11 = 11∧m∧F = F∧2 < 11∧True∧F = F∧11 = 11∧n∧F = F∧3 < 11∧D = D∧(b∧aM)∧∀ aR : Int, aR = (gfM (1 : Int) aL)→True∧F = F∧11 = 11∧n∧F = F∧3 < 11∧True∧F = F∧11 = 11∧k∧F = F∧0 < 11∧y = y∧11 = 11∧k∧y = y∧0 < 11∧F = F∧11 = 11∧l∧F = F∧1 < 11∧y = y∧11 = 11∧l∧y = y∧1 < 11∧F = F∧11 = 11∧m∧F = F∧2 < 11∧y = y∧11 = 11∧m∧y = y∧2 < 11∧∃(aS : Option Addr) (aT : Nat), (Ws y 11 z) = (Ws aS 11 aT)∧((true = true∧y = aS∧3 = 3∧1 = 1∧11 = 11∧z = aT∧(∀ aU : Nat, aU < 11→(Wi (if aU = 2 then (bits BinOp.xor .i64 (bits BinOp.xor .i64 (bits BinOp.xor .i64 (0 : Int) aB) aJ) aQ) else (if aU = 1 then (bits BinOp.xor .i64 (bits BinOp.xor .i64 (0 : Int) aI) aP) else (if aU = 0 then (bits BinOp.xor .i64 (0 : Int) aO) else (if aU < 3 then (litZ [(0 : Int), (0 : Int), (0 : Int)] aU) else (d (aU - 3))))))) = (Wi (enc d aU)))∧True)∧True)∧true = true) (el aL)) (bits BinOp.xor .i64 aD aK)) (el aF)) (bits BinOp.xor .i64 aw aE)) (bits BinOp.xor .i64 au aC)) (el ay)) (bits BinOp.xor .i64 al ax)) (bits BinOp.xor .i64 aj av)) (bits BinOp.xor .i64 (d 0) ar)) (el an)) (bits BinOp.xor .i64 ab am)) (bits BinOp.xor .i64 Z ak)) (bits BinOp.xor .i64 (d 1) ah)) (el ad)) (bits BinOp.xor .i64 T ac)) (bits BinOp.xor .i64 R aa)) (bits BinOp.xor .i64 (d 2) Y)) (el V)) (bits BinOp.xor .i64 K U)) (bits BinOp.xor .i64 I S)) (bits BinOp.xor .i64 (d 3) Q)) (el N)) (bits BinOp.xor .i64 (d 6) M)) (bits BinOp.xor .i64 (d 5) J)) (bits BinOp.xor .i64 (d 4) H))) (0 ≤ (10 : Int)∧(10 : Int) < ((11 : Nat) : Int))) (0 ≤ (7 : Int)∧(7 : Int) < ((11 : Nat) : Int))) (0 ≤ (8 : Int)∧(8 : Int) < ((11 : Nat) : Int))) (0 ≤ (9 : Int)∧(9 : Int) < ((11 : Nat) : Int))) (0 ≤ (6 : Int)∧(6 : Int) < ((11 : Nat) : Int))) (0 ≤ (5 : Int)∧(5 : Int) < ((11 : Nat) : Int))) (0 ≤ (4 : Int)∧(4 : Int) < ((11 : Nat) : Int))) (0 ≤ (3 : Int)∧(3 : Int) < ((11 : Nat) : Int))) (0 ≤ (2 : Int)∧(2 : Int) < ((11 : Nat) : Int))) (0 ≤ (1 : Int)∧(1 : Int) < ((11 : Nat) : Int))) (0 ≤ (0 : Int)∧(0 : Int) < ((11 : Nat) : Int))) (el (14 : Int))) (el (8 : Int))) (el (7 : Int))) (el (1 : Int))) := by kernel_rfl
theorem encS_any (ao : Option Addr) (c : Nat) (d : Nat → Int) (w : World) (h : Row.sat w ⟨false, ao, 0, 1, 8, 0, [fun i => .int (d i)]⟩) (hsy : symB 8 d 8 = true) : Calls Try.prog 49 #[.slice ao 8 c] w fun e w' => ∃ (ro : Option Addr) (rc : Nat), e = .returned (.slice ro 11 rc) ∧ HS ⟨w, fun _ => False⟩ [.row ⟨true, ro, 3, 1, 11, rc, [fun i => .int (enc d i)]⟩] w' := by
  refine fn_ok mixed (E := {tb := [(47, sSym), (65, sPow), (64, sMul)], L := [(17, relit Try.prog {tb := [(64, sMul)]} 400 10 (theLoop Try.f49 2) 9 (.il 10))]}) ⟨sSym_S, sPow_S, sMul_S, trivial⟩ Try.func49 (key_loop (ks := [6, 10, 17, 21, 26]) 2 17 (by kernel_rfl) (by decide) rfl (relit_ok mixed (E := {tb := [(64, sMul)]}) ⟨sMul_S, trivial⟩ (loopsOK_nil _ _ _))) (@Eq.mpr _ _ (encS_T ao c d) ?_) (HS.rows (fun _ => False) [⟨false, ao, 0, 1, 8, 0, [fun i => .int (d i)]⟩] (by simpa using h)) (fun v ch' w' ⟨ro, rc, hk⟩ hs => ⟨ro, rc, by rw [hk.1], hk.hs hs⟩)
  dsimp -zeta -proj -iota -eta -failIfUnchanged (etaStruct := .none) only
  clear h
  have hel := symB_el hsy
  have hfr : symB 11 (fun i => if i < 3 then litZ [0, 0, 0] i else d (i - 3)) 11 = true := symB_mk (fun i hi => by
    by_cases h3 : i < 3
    · simp only [if_pos h3]
      match i, h3 with
      | 0, _ => exact ⟨by decide, by decide⟩
      | 1, _ => exact ⟨by decide, by decide⟩
      | 2, _ => exact ⟨by decide, by decide⟩
    · simp only [if_neg h3]
      exact hel _ (by omega)) rfl
  have hfe : ∀ j, j < 3 → el (syn (fun i => if i < 3 then litZ [0, 0, 0] i else d (i - 3)) j) := fun j hj => syn_el (symB_el hfr) hj
  repeat' (first
    | with_reducible exact rfl
    | exact True.intro
    | with_reducible assumption
    | (intro h; exfalso; rw [hsy] at h; simp at h; done)
    | with_reducible exact hfr
    | with_reducible exact hfe _ (by omega)
    | with_reducible exact hel _ (by omega)
    | (with_reducible refine mulStep ?_ ?_ (fun z hze hz => ?_))
    | (with_reducible refine el_xor ?_ ?_)
    | (intro i hi; subst_vars; rcases lt11 hi with rfl | rfl | rfl | rfl | rfl | rfl | rfl | rfl | rfl | rfl | rfl; exact congrArg (fun z => Value.int .i64 z) ((show _ = (divE 8 0).ei d by kernel_rfl).trans (enc_div hel (by omega))); exact congrArg (fun z => Value.int .i64 z) ((show _ = (divE 8 1).ei d by kernel_rfl).trans (enc_div hel (by omega))); exact congrArg (fun z => Value.int .i64 z) ((show _ = (divE 8 2).ei d by kernel_rfl).trans (enc_div hel (by omega))); (show (_ : Value) = _; kernel_rfl); (show (_ : Value) = _; kernel_rfl); (show (_ : Value) = _; kernel_rfl); (show (_ : Value) = _; kernel_rfl); (show (_ : Value) = _; kernel_rfl); (show (_ : Value) = _; kernel_rfl); (show (_ : Value) = _; kernel_rfl); (show (_ : Value) = _; kernel_rfl))
    | refine And.intro ?_ ?_
    | apply Exists.intro
    | (intro z hz; subst hz)
    | (intro h; exfalso; simp at h; done)
    | (intro h; exfalso; replace h := of_decide_eq_true h; omega)
    | (intro h; exfalso; replace h := of_decide_eq_false h; omega)
    | intro _
    | omega
    | exact rfl)

def sIwI : Sm := inlM Try.prog {tb := [(25, sBtw)]} 300 Try.f26
theorem sIwI_ok : SmOK Try.prog 26 sIwI := inlM_ok mixed (E := {tb := [(25, sBtw)]}) ⟨sBtwI_ok, trivial⟩ Try.func26 Try.call26 (fun _ _ _ => loopsOK_nil _ _ _)
def sIwS : Sm := inlM Try.prog {tb := [(48, sBtw)]} 300 Try.f21
theorem sIwS_ok : SmOK Try.prog 21 sIwS := inlM_ok mixed (E := {tb := [(48, sBtw)]}) ⟨sBtwS_ok, trivial⟩ Try.func21 Try.call21 (fun _ _ _ => loopsOK_nil _ _ _)
theorem sowI_T (x : Int) : (exFn Try.prog {tb := [(26, sIwI)]} 400 Try.f68 ([.a (.c (.int x))]) ([]) (fun v ch => ∃ (ro : Option Addr) (rc : Nat), OutR v ch (.slice ro 8 rc) [.row ⟨true, ro, 3, 1, 8, rc, [fun i => .int (wsym x i)]⟩])) = (
  ((! (btw x (0 : Int) (4294967295 : Int))) = true→∃(b : Option Addr) (d : Nat), Wn = (Ws b 8 d)∧((true = true∧(none : Option Addr) = b∧0 = 8∧0 = d∧true = true)∧True)∧true = true)∧((! (btw x (0 : Int) (4294967295 : Int))) = false→∀ b d : Nat, (b = b∧d = d∧(∀ g : Nat, true = true)∧apC 0 1 8)∧∀(g : Option Addr) (h j : Nat), (g = g∧1 = 1∧h = h∧j = j∧(∀ k : Nat, true = true)∧apC 1 1 8)∧∀(k : Option Addr) (l m : Nat), (k = k∧2 = 2∧l = l∧m = m∧(∀ n : Nat, true = true)∧apC 2 1 8)∧∀(n : Option Addr) (o p : Nat), (n = n∧3 = 3∧o = o∧p = p∧(∀ q : Nat, true = true)∧apC 3 1 8)∧∀(q : Option Addr) (r s : Nat), (q = q∧4 = 4∧r = r∧s = s∧(∀ t : Nat, true = true)∧apC 4 1 8)∧∀(t : Option Addr) (u w : Nat), (t = t∧5 = 5∧u = u∧w = w∧(∀ y : Nat, true = true)∧apC 5 1 8)∧∀(y : Option Addr) (z B : Nat), (y = y∧6 = 6∧z = z∧B = B∧(∀ C : Nat, true = true)∧apC 6 1 8)∧∀(C : Option Addr) (D E : Nat), (C = C∧7 = 7∧D = D∧E = E∧(∀ F : Nat, true = true)∧apC 7 1 8)∧∀(F : Option Addr) (G : Nat), ∃(H : Option Addr) (I : Nat), (Ws F 8 G) = (Ws H 8 I)∧((true = true∧F = H∧3 = 3∧1 = 1∧8 = 8∧G = I∧(∀ J : Nat, J < 8→(Wi (if J < 7 then (if J < 6 then (if J < 5 then (if J < 4 then (if J < 3 then (if J < 2 then (if J < 1 then (bits BinOp.and .i64 (x / (1 : Int)) (15 : Int)) else (bits BinOp.and .i64 (x / (16 : Int)) (15 : Int))) else (bits BinOp.and .i64 (x / (256 : Int)) (15 : Int))) else (bits BinOp.and .i64 (x / (4096 : Int)) (15 : Int))) else (bits BinOp.and .i64 (x / (65536 : Int)) (15 : Int))) else (bits BinOp.and .i64 (x / (1048576 : Int)) (15 : Int))) else (bits BinOp.and .i64 (x / (16777216 : Int)) (15 : Int))) else (bits BinOp.and .i64 (x / (268435456 : Int)) (15 : Int)))) = (Wi (wsym x J)))∧True)∧True)∧true = true)) := by kernel_rfl
theorem sowI_any (x : Int) (w : World) (hx : 0 ≤ x ∧ x ≤ 4294967295) : Calls Try.prog 68 #[.int .i64 x] w fun e w' => ∃ (ro : Option Addr) (rc : Nat), e = .returned (.slice ro 8 rc) ∧ HS ⟨w, fun _ => False⟩ [.row ⟨true, ro, 3, 1, 8, rc, [fun i => .int (wsym x i)]⟩] w' := by
  refine fn_ok mixed (E := {tb := [(26, sIwI)]}) ⟨sIwI_ok, trivial⟩ Try.func68 (fun _ _ => loopsOK_nil _ _ _) (@Eq.mpr _ _ (sowI_T x) ?_) (HS.start w (fun _ => False)) (fun v ch' w' ⟨ro, rc, hk⟩ hs => ⟨ro, rc, by rw [hk.1], hk.hs hs⟩)
  have hb : btw x 0 4294967295 = true := btw_mk hx.1 hx.2
  repeat' (first
    | with_reducible exact rfl
    | exact True.intro
    | with_reducible assumption
    | (intro h; exfalso; rw [hb] at h; simp at h; done)
    | (intro i hi; rcases lt8 hi with rfl | rfl | rfl | rfl | rfl | rfl | rfl | rfl <;> (show (_ : Value) = _; kernel_rfl))
    | refine And.intro ?_ ?_
    | apply Exists.intro
    | (intro z hz; subst hz)
    | (intro h; exfalso; simp at h; done)
    | (intro h; exfalso; replace h := of_decide_eq_true h; omega)
    | (intro h; exfalso; replace h := of_decide_eq_false h; omega)
    | intro _
    | omega
    | exact rfl)
theorem sowS_T (x : Int) : (exFn Try.prog {tb := [(21, sIwS)]} 400 Try.f50 ([.a (.c (.int x))]) ([]) (fun v ch => ∃ (ro : Option Addr) (rc : Nat), OutR v ch (.slice ro 8 rc) [.row ⟨true, ro, 3, 1, 8, rc, [fun i => .int (wsym x i)]⟩])) = (
  (fun b : Prop => (fun d : Bool => (fun g : Int => (fun h : Int => (fun j : Int => (fun k : Int => (fun l : Int => (fun m : Int => (fun n : Int => ∀ o : Nat, (d = true→∀ p : Nat, (o = o∧p = p∧b∧apC 0 1 8)∧∀(q : Option Addr) (r : Nat), (d = true→∀ s : Nat, (q = q∧1 = 1∧r = r∧s = s∧b∧apC 1 1 8)∧∀(t : Option Addr) (u : Nat), (d = true→∀ w : Nat, (t = t∧2 = 2∧u = u∧w = w∧b∧apC 2 1 8)∧∀(y : Option Addr) (z : Nat), (d = true→∀ B : Nat, (y = y∧3 = 3∧z = z∧B = B∧b∧apC 3 1 8)∧∀(C : Option Addr) (D : Nat), (d = true→∀ E : Nat, (C = C∧4 = 4∧D = D∧E = E∧b∧apC 4 1 8)∧∀(F : Option Addr) (G : Nat), (d = true→∀ H : Nat, (F = F∧5 = 5∧G = G∧H = H∧b∧apC 5 1 8)∧∀(I : Option Addr) (J : Nat), (d = true→∀ K : Nat, (I = I∧6 = 6∧J = J∧K = K∧b∧apC 6 1 8)∧∀(L : Option Addr) (M : Nat), (d = true→∀ N : Nat, (L = L∧7 = 7∧M = M∧N = N∧b∧apC 7 1 8)∧∀(O : Option Addr) (P : Nat), ∃(Q : Option Addr) (R : Nat), (Ws O 8 P) = (Ws Q 8 R)∧((true = true∧O = Q∧3 = 3∧1 = 1∧8 = 8∧P = R∧(∀ S : Nat, S < 8→(Wi (if S < 7 then (if S < 6 then (if S < 5 then (if S < 4 then (if S < 3 then (if S < 2 then (if S < 1 then g else h) else j) else k) else l) else m) else n) else (bits BinOp.and .i64 (x / (268435456 : Int)) (15 : Int)))) = (Wi (wsym x S)))∧True)∧True)∧true = true)∧(d = false→∃(N : Option Addr) (O : Nat), (Ws L 7 M) = (Ws N 8 O)∧((true = true∧L = N∧3 = 3∧1 = 1∧7 = 8∧M = O∧(∀ P : Nat, P < 7→(Wi (if P < 6 then (if P < 5 then (if P < 4 then (if P < 3 then (if P < 2 then (if P < 1 then g else h) else j) else k) else l) else m) else n)) = (Wi (wsym x P)))∧True)∧True)∧true = true))∧(d = false→∃(K : Option Addr) (L : Nat), (Ws I 6 J) = (Ws K 8 L)∧((true = true∧I = K∧3 = 3∧1 = 1∧6 = 8∧J = L∧(∀ M : Nat, M < 6→(Wi (if M < 5 then (if M < 4 then (if M < 3 then (if M < 2 then (if M < 1 then g else h) else j) else k) else l) else m)) = (Wi (wsym x M)))∧True)∧True)∧true = true))∧(d = false→∃(H : Option Addr) (I : Nat), (Ws F 5 G) = (Ws H 8 I)∧((true = true∧F = H∧3 = 3∧1 = 1∧5 = 8∧G = I∧(∀ J : Nat, J < 5→(Wi (if J < 4 then (if J < 3 then (if J < 2 then (if J < 1 then g else h) else j) else k) else l)) = (Wi (wsym x J)))∧True)∧True)∧true = true))∧(d = false→∃(E : Option Addr) (F : Nat), (Ws C 4 D) = (Ws E 8 F)∧((true = true∧C = E∧3 = 3∧1 = 1∧4 = 8∧D = F∧(∀ G : Nat, G < 4→(Wi (if G < 3 then (if G < 2 then (if G < 1 then g else h) else j) else k)) = (Wi (wsym x G)))∧True)∧True)∧true = true))∧(d = false→∃(B : Option Addr) (C : Nat), (Ws y 3 z) = (Ws B 8 C)∧((true = true∧y = B∧3 = 3∧1 = 1∧3 = 8∧z = C∧(∀ D : Nat, D < 3→(Wi (if D < 2 then (if D < 1 then g else h) else j)) = (Wi (wsym x D)))∧True)∧True)∧true = true))∧(d = false→∃(w : Option Addr) (y : Nat), (Ws t 2 u) = (Ws w 8 y)∧((true = true∧t = w∧3 = 3∧1 = 1∧2 = 8∧u = y∧(∀ z : Nat, z < 2→(Wi (if z < 1 then g else h)) = (Wi (wsym x z)))∧True)∧True)∧true = true))∧(d = false→∃(s : Option Addr) (t : Nat), (Ws q 1 r) = (Ws s 8 t)∧((true = true∧q = s∧3 = 3∧1 = 1∧1 = 8∧r = t∧(∀ u : Nat, u < 1→(Wi g) = (Wi (wsym x u)))∧True)∧True)∧true = true))∧(d = false→∃(p : Option Addr) (q : Nat), (Ws (Ad o 0) 0 0) = (Ws p 8 q)∧((true = true∧(Ad o 0) = p∧3 = 3∧true = true∧0 = 8∧0 = q∧true = true)∧True)∧true = true)) (bits BinOp.and .i64 (x / (16777216 : Int)) (15 : Int))) (bits BinOp.and .i64 (x / (1048576 : Int)) (15 : Int))) (bits BinOp.and .i64 (x / (65536 : Int)) (15 : Int))) (bits BinOp.and .i64 (x / (4096 : Int)) (15 : Int))) (bits BinOp.and .i64 (x / (256 : Int)) (15 : Int))) (bits BinOp.and .i64 (x / (16 : Int)) (15 : Int))) (bits BinOp.and .i64 (x / (1 : Int)) (15 : Int))) (btw x (0 : Int) (4294967295 : Int))) (∀ b : Nat, true = true)) := by kernel_rfl
theorem sowS_any (x : Int) (w : World) (hx : 0 ≤ x ∧ x ≤ 4294967295) : Calls Try.prog 50 #[.int .i64 x] w fun e w' => ∃ (ro : Option Addr) (rc : Nat), e = .returned (.slice ro 8 rc) ∧ HS ⟨w, fun _ => False⟩ [.row ⟨true, ro, 3, 1, 8, rc, [fun i => .int (wsym x i)]⟩] w' := by
  refine fn_ok mixed (E := {tb := [(21, sIwS)]}) ⟨sIwS_ok, trivial⟩ Try.func50 (fun _ _ => loopsOK_nil _ _ _) (@Eq.mpr _ _ (sowS_T x) ?_) (HS.start w (fun _ => False)) (fun v ch' w' ⟨ro, rc, hk⟩ hs => ⟨ro, rc, by rw [hk.1], hk.hs hs⟩)
  dsimp -zeta -proj -iota -eta -failIfUnchanged (etaStruct := .none) only
  have hb : btw x 0 4294967295 = true := btw_mk hx.1 hx.2
  repeat' (first
    | with_reducible exact rfl
    | exact True.intro
    | with_reducible assumption
    | (intro h; exfalso; rw [hb] at h; simp at h; done)
    | (intro i hi; rcases lt8 hi with rfl | rfl | rfl | rfl | rfl | rfl | rfl | rfl <;> (show (_ : Value) = _; kernel_rfl))
    | refine And.intro ?_ ?_
    | apply Exists.intro
    | (intro z hz; subst hz)
    | (intro h; exfalso; simp at h; done)
    | (intro h; exfalso; replace h := of_decide_eq_true h; omega)
    | (intro h; exfalso; replace h := of_decide_eq_false h; omega)
    | intro _
    | omega
    | exact rfl)
def sSow : Sm := fun args ch k =>
  match args with
  | [.a (.c c)] =>
    match asI c with
    | some x => btw x 0 4294967295 = true ∧ ∀ (ro : Option Addr) (rc : Nat), k (.a (.c (.sl ch.length ro 8 rc))) (ch ++ [.row ⟨true, ro, 3, 1, 8, rc, [fun i => .int (wsym x i)]⟩]) []
    | none => False
  | _ => False
def sEncS : Sm := fun args ch k =>
  match args with
  | [.a (.c c)] => rdn ch c fun n g => (n = 8 ∧ symB 8 g 8 = true) ∧ ∀ (ro : Option Addr) (rc : Nat), k (.a (.c (.sl ch.length ro 11 rc))) (ch ++ [.row ⟨true, ro, 3, 1, 11, rc, [fun i => .int (enc g i)]⟩]) []
  | _ => False
def sEnl : Sm := fun args ch k =>
  match args with
  | [.a (.c c)] =>
    match asI c with
    | some x => btw x 0 4294967295 = true ∧ ∀ (ro : Option Addr) (rc : Nat), k (.a (.c (.sl ch.length ro 11 rc))) (ch ++ [.row ⟨true, ro, 3, 1, 11, rc, [fun i => .int (cw x i)]⟩]) []
    | none => False
  | _ => False
theorem sSow_I : SmOK Try.prog 68 sSow := by
  refine smN Try.call68 fun args ch k w X h0 hs => ?_
  unfold sSow at h0
  split at h0
  · split at h0
    · rename_i x hx
      obtain ⟨hb, h1⟩ := h0
      simp only [List.map_cons, List.map_nil, den_a, den_c, asI_den hx]
      exact Calls.mono (sowI_any x w (btw_f hb)) fun e w' ⟨ro, rc, he, hs'⟩ => ⟨.a (.c (.sl ch.length ro 8 rc)), _, by rw [he]; rfl, hs', rfl, h1 ro rc⟩
    · exact h0.elim
  · exact h0.elim
theorem sEncS_I : SmOK Try.prog 67 sEncS := by
  refine smN Try.call67 fun args ch k w X h0 hs => ?_
  unfold sEncS at h0
  split at h0
  · obtain ⟨ao, n, c', g, e, hr, ⟨rfl, hsy⟩, h1⟩ := rdn_ok h0 hs
    simp only [List.map_cons, List.map_nil, den_a, den_c, e]
    exact Calls.mono (encI_any ao c' g w hr hsy) fun e w' ⟨ro, rc, he, hs'⟩ => ⟨.a (.c (.sl ch.length ro 11 rc)), _, by rw [he]; rfl, hs', rfl, h1 ro rc⟩
  · exact h0.elim
theorem sSow_S : SmOK Try.prog 50 sSow := by
  refine smN Try.call50 fun args ch k w X h0 hs => ?_
  unfold sSow at h0
  split at h0
  · split at h0
    · rename_i x hx
      obtain ⟨hb, h1⟩ := h0
      simp only [List.map_cons, List.map_nil, den_a, den_c, asI_den hx]
      exact Calls.mono (sowS_any x w (btw_f hb)) fun e w' ⟨ro, rc, he, hs'⟩ => ⟨.a (.c (.sl ch.length ro 8 rc)), _, by rw [he]; rfl, hs', rfl, h1 ro rc⟩
    · exact h0.elim
  · exact h0.elim
theorem sEncS_S : SmOK Try.prog 49 sEncS := by
  refine smN Try.call49 fun args ch k w X h0 hs => ?_
  unfold sEncS at h0
  split at h0
  · obtain ⟨ao, n, c', g, e, hr, ⟨rfl, hsy⟩, h1⟩ := rdn_ok h0 hs
    simp only [List.map_cons, List.map_nil, den_a, den_c, e]
    exact Calls.mono (encS_any ao c' g w hr hsy) fun e w' ⟨ro, rc, he, hs'⟩ => ⟨.a (.c (.sl ch.length ro 11 rc)), _, by rw [he]; rfl, hs', rfl, h1 ro rc⟩
  · exact h0.elim
theorem enlI_T (x : Int) : (exFn Try.prog {tb := [(26, sIwI), (68, sSow), (67, sEncS)]} 400 Try.f56 ([.a (.c (.int x))]) ([]) (fun v ch => ∃ (ro : Option Addr) (rc : Nat), OutR v ch (.slice ro 11 rc) [.row ⟨true, ro, 3, 1, 11, rc, [fun i => .int (cw x i)]⟩])) = (
  ((! (btw x (0 : Int) (4294967295 : Int))) = true→∃(b : Option Addr) (d : Nat), Wn = (Ws b 11 d)∧((true = true∧(none : Option Addr) = b∧0 = 11∧0 = d∧true = true)∧True)∧true = true)∧((! (btw x (0 : Int) (4294967295 : Int))) = false→(btw x (0 : Int) (4294967295 : Int)) = true∧∀(b : Option Addr) (d : Nat), ∃ g : Nat→Int, (b = b∧8 = 8∧[fun h => Ci (wsym x h)] = [fun h => Ci (g h)])∧(8 = 8∧(symB 8 g (8 : Int)) = true)∧∀(h : Option Addr) (j : Nat), ∃(k : Option Addr) (l : Nat), (Ws h 11 j) = (Ws k 11 l)∧((true = true∧h = k∧3 = 3∧1 = 1∧11 = 11∧j = l∧(∀ m : Nat, m < 11→(Wi (enc g m)) = (Wi (cw x m)))∧True)∧True)∧true = true)) := by kernel_rfl
theorem enlI_any (x : Int) (w : World) (hx : 0 ≤ x ∧ x ≤ 4294967295) : Calls Try.prog 56 #[.int .i64 x] w fun e w' => ∃ (ro : Option Addr) (rc : Nat), e = .returned (.slice ro 11 rc) ∧ HS ⟨w, fun _ => False⟩ [.row ⟨true, ro, 3, 1, 11, rc, [fun i => .int (cw x i)]⟩] w' := by
  refine fn_ok mixed (E := {tb := [(26, sIwI), (68, sSow), (67, sEncS)]}) ⟨sIwI_ok, sSow_I, sEncS_I, trivial⟩ Try.func56 (fun _ _ => loopsOK_nil _ _ _) (@Eq.mpr _ _ (enlI_T x) ?_) (HS.start w (fun _ => False)) (fun v ch' w' ⟨ro, rc, hk⟩ hs => ⟨ro, rc, by rw [hk.1], hk.hs hs⟩)
  have hb : btw x 0 4294967295 = true := btw_mk hx.1 hx.2
  have hsy : symB 8 (fun i => wsym x i) 8 = true := symB_mk (fun i _ => wsym_el hx i) rfl
  repeat' (first
    | with_reducible exact rfl
    | exact True.intro
    | with_reducible assumption
    | (intro h; exfalso; rw [hb] at h; simp at h; done)
    | with_reducible exact hsy
    | (intro i hi; show Value.int _ _ = Value.int _ _; rfl)
    | refine And.intro ?_ ?_
    | apply Exists.intro
    | (intro z hz; subst hz)
    | (intro h; exfalso; simp at h; done)
    | (intro h; exfalso; replace h := of_decide_eq_true h; omega)
    | (intro h; exfalso; replace h := of_decide_eq_false h; omega)
    | intro _
    | omega
    | exact rfl)
theorem sEnl_I : SmOK Try.prog 56 sEnl := by
  refine smN Try.call56 fun args ch k w X h0 hs => ?_
  unfold sEnl at h0
  split at h0
  · split at h0
    · rename_i x hx
      obtain ⟨hb, h1⟩ := h0
      simp only [List.map_cons, List.map_nil, den_a, den_c, asI_den hx]
      exact Calls.mono (enlI_any x w (btw_f hb)) fun e w' ⟨ro, rc, he, hs'⟩ => ⟨.a (.c (.sl ch.length ro 11 rc)), _, by rw [he]; rfl, hs', rfl, h1 ro rc⟩
    · exact h0.elim
  · exact h0.elim
theorem enlS_T (x : Int) : (exFn Try.prog {tb := [(50, sSow), (49, sEncS)]} 400 Try.f22 ([.a (.c (.int x))]) ([]) (fun v ch => ∃ (ro : Option Addr) (rc : Nat), OutR v ch (.slice ro 11 rc) [.row ⟨true, ro, 3, 1, 11, rc, [fun i => .int (cw x i)]⟩])) = (
  (btw x (0 : Int) (4294967295 : Int)) = true∧∀(b : Option Addr) (d : Nat), ∃ g : Nat→Int, (b = b∧8 = 8∧[fun h => Ci (wsym x h)] = [fun h => Ci (g h)])∧(8 = 8∧(symB 8 g (8 : Int)) = true)∧∀(h : Option Addr) (j : Nat), ∃(k : Option Addr) (l : Nat), (Ws h 11 j) = (Ws k 11 l)∧((true = true∧h = k∧3 = 3∧1 = 1∧11 = 11∧j = l∧(∀ m : Nat, m < 11→(Wi (enc g m)) = (Wi (cw x m)))∧True)∧True)∧true = true) := by kernel_rfl
theorem enlS_any (x : Int) (w : World) (hx : 0 ≤ x ∧ x ≤ 4294967295) : Calls Try.prog 22 #[.int .i64 x] w fun e w' => ∃ (ro : Option Addr) (rc : Nat), e = .returned (.slice ro 11 rc) ∧ HS ⟨w, fun _ => False⟩ [.row ⟨true, ro, 3, 1, 11, rc, [fun i => .int (cw x i)]⟩] w' := by
  refine fn_ok mixed (E := {tb := [(50, sSow), (49, sEncS)]}) ⟨sSow_S, sEncS_S, trivial⟩ Try.func22 (fun _ _ => loopsOK_nil _ _ _) (@Eq.mpr _ _ (enlS_T x) ?_) (HS.start w (fun _ => False)) (fun v ch' w' ⟨ro, rc, hk⟩ hs => ⟨ro, rc, by rw [hk.1], hk.hs hs⟩)
  have hb : btw x 0 4294967295 = true := btw_mk hx.1 hx.2
  have hsy : symB 8 (fun i => wsym x i) 8 = true := symB_mk (fun i _ => wsym_el hx i) rfl
  repeat' (first
    | with_reducible exact rfl
    | exact True.intro
    | with_reducible assumption
    | (intro h; exfalso; rw [hb] at h; simp at h; done)
    | with_reducible exact hsy
    | (intro i hi; show Value.int _ _ = Value.int _ _; rfl)
    | refine And.intro ?_ ?_
    | apply Exists.intro
    | (intro z hz; subst hz)
    | (intro h; exfalso; simp at h; done)
    | (intro h; exfalso; replace h := of_decide_eq_true h; omega)
    | (intro h; exfalso; replace h := of_decide_eq_false h; omega)
    | intro _
    | omega
    | exact rfl)
theorem sEnl_S : SmOK Try.prog 22 sEnl := by
  refine smN Try.call22 fun args ch k w X h0 hs => ?_
  unfold sEnl at h0
  split at h0
  · split at h0
    · rename_i x hx
      obtain ⟨hb, h1⟩ := h0
      simp only [List.map_cons, List.map_nil, den_a, den_c, asI_den hx]
      exact Calls.mono (enlS_any x w (btw_f hb)) fun e w' ⟨ro, rc, he, hs'⟩ => ⟨.a (.c (.sl ch.length ro 11 rc)), _, by rw [he]; rfl, hs', rfl, h1 ro rc⟩
    · exact h0.elim
  · exact h0.elim

theorem or_step {x y d : Int} {k : Nat} (hk : k ≤ 28) (hx : 0 ≤ x ∧ x < 2 ^ k) (hd : el d) (hy : y = d * 2 ^ k) : bits .or .i64 x y = x + d * 2 ^ k := by rw [hy]; exact or_join hk hx hd
theorem or_eight {d : Nat → Int} (h : ∀ i, i < 8 → el (d i)) : bits .or .i64 (bits .or .i64 (bits .or .i64 (bits .or .i64 (bits .or .i64 (bits .or .i64 (bits .or .i64 (bits .or .i64 0 (d 0 * 2 ^ 0)) (d 1 * 2 ^ 4)) (d 2 * 2 ^ 8)) (d 3 * 2 ^ 12)) (d 4 * 2 ^ 16)) (d 5 * 2 ^ 20)) (d 6 * 2 ^ 24)) (d 7 * 2 ^ 28) = wordOf d := by
  have h0 := h 0 (by omega); have h1 := h 1 (by omega); have h2 := h 2 (by omega); have h3 := h 3 (by omega); have h4 := h 4 (by omega); have h5 := h 5 (by omega); have h6 := h 6 (by omega); have h7 := h 7 (by omega)
  rw [or_join (k := 0) (by omega) (by omega) h0, or_join (k := 4) (by omega) (by omega) h1, or_join (k := 8) (by omega) (by omega) h2, or_join (k := 12) (by omega) (by omega) h3, or_join (k := 16) (by omega) (by omega) h4, or_join (k := 20) (by omega) (by omega) h5, or_join (k := 24) (by omega) (by omega) h6, or_join (k := 28) (by omega) (by omega) h7]
  unfold wordOf
  omega
theorem wosI_T (ao : Option Addr) (c : Nat) (d : Nat → Int) : (exFn Try.prog {tb := [(54, sSym)], L := [(5, relit Try.prog {tb := []} 400 9 (theLoop Try.f79 0) 11 (.il 8))]} 400 Try.f79 ([.a (.c (.sl 0 ao 8 c))]) ([.row ⟨false, ao, 0, 1, 8, 0, [fun i => .int (d i)]⟩]) (fun v _ => v.den = .tuple #[.int .i64 (wordOf d), .bool true])) = (
  ∃ b : Nat→Int, (ao = ao∧8 = 8∧[fun g => Ci (d g)] = [fun g => Ci (b g)])∧lenC 8∧((! (symB 8 b (8 : Int))) = true→(Wu [Wi 0, Wb false]) = (Wu [Wi (wordOf d), Wb true]))∧((! (symB 8 b (8 : Int))) = false→(Wi 8) = (Wi 8)∧ao = ao∧8 = 8∧(0 ≤ (0 : Int)∧(0 : Int) < ((8 : Nat) : Int))∧ao = ao∧0 < 8∧rng ((d 0) * (1 : Int))∧ao = ao∧8 = 8∧(0 ≤ (1 : Int)∧(1 : Int) < ((8 : Nat) : Int))∧ao = ao∧1 < 8∧rng ((d 1) * (16 : Int))∧ao = ao∧8 = 8∧(0 ≤ (2 : Int)∧(2 : Int) < ((8 : Nat) : Int))∧ao = ao∧2 < 8∧rng ((d 2) * (256 : Int))∧ao = ao∧8 = 8∧(0 ≤ (3 : Int)∧(3 : Int) < ((8 : Nat) : Int))∧ao = ao∧3 < 8∧rng ((d 3) * (4096 : Int))∧ao = ao∧8 = 8∧(0 ≤ (4 : Int)∧(4 : Int) < ((8 : Nat) : Int))∧ao = ao∧4 < 8∧rng ((d 4) * (65536 : Int))∧ao = ao∧8 = 8∧(0 ≤ (5 : Int)∧(5 : Int) < ((8 : Nat) : Int))∧ao = ao∧5 < 8∧rng ((d 5) * (1048576 : Int))∧ao = ao∧8 = 8∧(0 ≤ (6 : Int)∧(6 : Int) < ((8 : Nat) : Int))∧ao = ao∧6 < 8∧rng ((d 6) * (16777216 : Int))∧ao = ao∧8 = 8∧(0 ≤ (7 : Int)∧(7 : Int) < ((8 : Nat) : Int))∧ao = ao∧7 < 8∧rng ((d 7) * (268435456 : Int))∧(Wu [Wi (bits BinOp.or .i64 (bits BinOp.or .i64 (bits BinOp.or .i64 (bits BinOp.or .i64 (bits BinOp.or .i64 (bits BinOp.or .i64 (bits BinOp.or .i64 (bits BinOp.or .i64 (0 : Int) ((d 0) * (1 : Int))) ((d 1) * (16 : Int))) ((d 2) * (256 : Int))) ((d 3) * (4096 : Int))) ((d 4) * (65536 : Int))) ((d 5) * (1048576 : Int))) ((d 6) * (16777216 : Int))) ((d 7) * (268435456 : Int))), Wb true]) = (Wu [Wi (wordOf d), Wb true]))) := by kernel_rfl
theorem wosI_any (ao : Option Addr) (c : Nat) (d : Nat → Int) (w : World) (h : Row.sat w ⟨false, ao, 0, 1, 8, 0, [fun i => .int (d i)]⟩) (hsy : symB 8 d 8 = true) : Calls Try.prog 79 #[.slice ao 8 c] w fun e w' => e = .returned (.tuple #[.int .i64 (wordOf d), .bool true]) ∧ Below w.heap.size w w' := by
  refine fn_ok mixed (E := {tb := [(54, sSym)], L := [(5, relit Try.prog {tb := []} 400 9 (theLoop Try.f79 0) 11 (.il 8))]}) ⟨sSym_I, trivial⟩ Try.func79 (one_loop (by kernel_rfl) (by kernel_rfl) (relit_ok mixed (E := {tb := []}) trivial (loopsOK_nil _ _ _))) (@Eq.mpr _ _ (wosI_T ao c d) ?_) (HS.rows (fun _ => False) [⟨false, ao, 0, 1, 8, 0, [fun i => .int (d i)]⟩] (by simpa using h)) (fun v ch' w' hv hs => ⟨by rw [hv], hs.below⟩)
  clear h
  have hel := symB_el hsy
  have h0 := hel 0 (by omega); have h1 := hel 1 (by omega); have h2 := hel 2 (by omega); have h3 := hel 3 (by omega); have h4 := hel 4 (by omega); have h5 := hel 5 (by omega); have h6 := hel 6 (by omega); have h7 := hel 7 (by omega)
  repeat' (first
    | with_reducible exact rfl
    | exact True.intro
    | with_reducible assumption
    | (intro h; exfalso; rw [hsy] at h; simp at h; done)
    | (show rng _; simp only [rng, imul]; omega)
    | exact congrArg (fun z => Value.tuple #[.int .i64 z, .bool true]) (or_eight hel)
    | refine And.intro ?_ ?_
    | apply Exists.intro
    | (intro z hz; subst hz)
    | (intro h; exfalso; simp at h; done)
    | (intro h; exfalso; replace h := of_decide_eq_true h; omega)
    | (intro h; exfalso; replace h := of_decide_eq_false h; omega)
    | intro _
    | omega
    | exact rfl)
theorem wosS_T (ao : Option Addr) (c : Nat) (d : Nat → Int) : (exFn Try.prog {tb := [(47, sSym)], R := [(5, 9)]} 400 Try.f72 ([.a (.c (.sl 0 ao 8 c))]) ([.row ⟨false, ao, 0, 1, 8, 0, [fun i => .int (d i)]⟩]) (fun v _ => v.den = .tuple #[.int .i64 (wordOf d), .bool true])) = (
  (fun b : Value => (fun g : Bool => (fun h : Bool => (fun j : Bool => (fun k : Bool => (fun l : Bool => (fun m : Bool => (fun n : Bool => (fun o : Bool => (fun p : Bool => (fun q : Value => (fun r : Int => (fun s : Int => (fun t : Int => (fun u : Int => (fun w : Int => (fun x : Int => (fun y : Int => ∃ z : Nat→Int, (ao = ao∧8 = 8∧[fun B => Ci (d B)] = [fun B => Ci (z B)])∧lenC 8∧((! (symB 8 z (8 : Int))) = true→(Wu [Wi 0, Wb false]) = q)∧((! (symB 8 z (8 : Int))) = false→(p = true→ao = ao∧8 = 8∧(0 ≤ (0 : Int)∧(0 : Int) < ((8 : Nat) : Int))∧ao = ao∧0 < 8∧rng ((d 0) * (1 : Int))∧(o = true→ao = ao∧8 = 8∧(0 ≤ (1 : Int)∧(1 : Int) < ((8 : Nat) : Int))∧ao = ao∧1 < 8∧rng ((d 1) * (16 : Int))∧(n = true→ao = ao∧8 = 8∧(0 ≤ (2 : Int)∧(2 : Int) < ((8 : Nat) : Int))∧ao = ao∧2 < 8∧rng ((d 2) * (256 : Int))∧(m = true→ao = ao∧8 = 8∧(0 ≤ (3 : Int)∧(3 : Int) < ((8 : Nat) : Int))∧ao = ao∧3 < 8∧rng ((d 3) * (4096 : Int))∧(l = true→ao = ao∧8 = 8∧(0 ≤ (4 : Int)∧(4 : Int) < ((8 : Nat) : Int))∧ao = ao∧4 < 8∧rng ((d 4) * (65536 : Int))∧(k = true→ao = ao∧8 = 8∧(0 ≤ (5 : Int)∧(5 : Int) < ((8 : Nat) : Int))∧ao = ao∧5 < 8∧rng ((d 5) * (1048576 : Int))∧(j = true→ao = ao∧8 = 8∧(0 ≤ (6 : Int)∧(6 : Int) < ((8 : Nat) : Int))∧ao = ao∧6 < 8∧rng ((d 6) * (16777216 : Int))∧(h = true→ao = ao∧8 = 8∧(0 ≤ (7 : Int)∧(7 : Int) < ((8 : Nat) : Int))∧ao = ao∧7 < 8∧rng ((d 7) * (268435456 : Int))∧(g = true→ao = ao∧8 = 8∧(0 ≤ (8 : Int)∧(8 : Int) < ((8 : Nat) : Int))∧ao = ao∧8 < 8∧rng ((d 8) * (4294967296 : Int))∧False)∧(g = false→(Wu [Wi (bits BinOp.or .i64 y ((d 7) * (268435456 : Int))), b]) = q))∧(h = false→(Wu [Wi y, b]) = q))∧(j = false→(Wu [Wi x, b]) = q))∧(k = false→(Wu [Wi w, b]) = q))∧(l = false→(Wu [Wi u, b]) = q))∧(m = false→(Wu [Wi t, b]) = q))∧(n = false→(Wu [Wi s, b]) = q))∧(o = false→(Wu [Wi r, b]) = q))∧(p = false→(Wu [Wi 0, b]) = q))) (bits BinOp.or .i64 x ((d 6) * (16777216 : Int)))) (bits BinOp.or .i64 w ((d 5) * (1048576 : Int)))) (bits BinOp.or .i64 u ((d 4) * (65536 : Int)))) (bits BinOp.or .i64 t ((d 3) * (4096 : Int)))) (bits BinOp.or .i64 s ((d 2) * (256 : Int)))) (bits BinOp.or .i64 r ((d 1) * (16 : Int)))) (bits BinOp.or .i64 (0 : Int) ((d 0) * (1 : Int)))) (Wu [Wi (wordOf d), b])) (decide ((0 : Int) < (8 : Int)))) (decide ((1 : Int) < (8 : Int)))) (decide ((2 : Int) < (8 : Int)))) (decide ((3 : Int) < (8 : Int)))) (decide ((4 : Int) < (8 : Int)))) (decide ((5 : Int) < (8 : Int)))) (decide ((6 : Int) < (8 : Int)))) (decide ((7 : Int) < (8 : Int)))) (decide ((8 : Int) < (8 : Int)))) (Wb true)) := by kernel_rfl
theorem wosS_any (ao : Option Addr) (c : Nat) (d : Nat → Int) (w : World) (h : Row.sat w ⟨false, ao, 0, 1, 8, 0, [fun i => .int (d i)]⟩) (hsy : symB 8 d 8 = true) : Calls Try.prog 72 #[.slice ao 8 c] w fun e w' => e = .returned (.tuple #[.int .i64 (wordOf d), .bool true]) ∧ Below w.heap.size w w' := by
  refine fn_ok mixed (E := {tb := [(47, sSym)], R := [(5, 9)]}) ⟨sSym_S, trivial⟩ Try.func72 (fun _ _ => loopsOK_nil _ _ _) (@Eq.mpr _ _ (wosS_T ao c d) ?_) (HS.rows (fun _ => False) [⟨false, ao, 0, 1, 8, 0, [fun i => .int (d i)]⟩] (by simpa using h)) (fun v ch' w' hv hs => ⟨by rw [hv], hs.below⟩)
  dsimp -zeta -proj -iota -eta -failIfUnchanged (etaStruct := .none) only
  clear h
  have hel := symB_el hsy
  have h0 := hel 0 (by omega); have h1 := hel 1 (by omega); have h2 := hel 2 (by omega); have h3 := hel 3 (by omega); have h4 := hel 4 (by omega); have h5 := hel 5 (by omega); have h6 := hel 6 (by omega); have h7 := hel 7 (by omega)
  repeat' (first
    | with_reducible exact rfl
    | exact True.intro
    | with_reducible assumption
    | (intro h; exfalso; rw [hsy] at h; simp at h; done)
    | (show rng _; simp only [rng, imul]; omega)
    | exact congrArg (fun z => Value.tuple #[.int .i64 z, .bool true]) (or_eight hel)
    | refine And.intro ?_ ?_
    | apply Exists.intro
    | (intro z hz; subst hz)
    | (intro h; exfalso; simp at h; done)
    | (intro h; exfalso; replace h := of_decide_eq_true h; omega)
    | (intro h; exfalso; replace h := of_decide_eq_false h; omega)
    | intro _
    | omega
    | exact rfl)
theorem datI_T (ao : Option Addr) (c : Nat) (f : Nat → Int) : (exFn Try.prog {tb := [(54, sSym)]} 400 Try.f80 ([.a (.c (.sl 0 ao 11 c))]) ([.row ⟨false, ao, 0, 1, 11, 0, [fun i => .int (f i)]⟩]) (fun v ch => ∃ (ro : Option Addr) (rc : Nat), OutR v ch (.slice ro 8 rc) [.row ⟨true, ro, 3, 1, 8, rc, [fun i => .int (dat f i)]⟩])) = (
  ∃ b : Nat→Int, (ao = ao∧11 = 11∧[fun d => Ci (f d)] = [fun d => Ci (b d)])∧lenC 11∧((! (symB 11 b (11 : Int))) = true→∃(d : Option Addr) (g : Nat), Wn = (Ws d 8 g)∧((true = true∧(none : Option Addr) = d∧0 = 8∧0 = g∧true = true)∧True)∧true = true)∧((! (symB 11 b (11 : Int))) = false→∀ d : Nat, (ao = ao∧11 = 11∧3 ≤ 11∧11 ≤ c)∧∀ g : Option Addr, (d = d∧(g = g∧8 = 8)∧(∀ h : Nat, true = true)∧apC 0 8 8)∧∀(h : Option Addr) (j : Nat), ∃(k : Option Addr) (l : Nat), (Ws h 8 j) = (Ws k 8 l)∧((true = true∧h = k∧3 = 3∧1 = 1∧8 = 8∧j = l∧(∀ m : Nat, m < 8→(Wi (f (m + 3))) = (Wi (dat f m)))∧True)∧True)∧true = true)) := by kernel_rfl
theorem datI_any (ao : Option Addr) (c : Nat) (f : Nat → Int) (w : World) (h : Row.sat w ⟨false, ao, 0, 1, 11, 0, [fun i => .int (f i)]⟩) (hsy : symB 11 f 11 = true) (hcap : 11 ≤ c) : Calls Try.prog 80 #[.slice ao 11 c] w fun e w' => ∃ (ro : Option Addr) (rc : Nat), e = .returned (.slice ro 8 rc) ∧ HS ⟨w, fun _ => False⟩ [.row ⟨true, ro, 3, 1, 8, rc, [fun i => .int (dat f i)]⟩] w' := by
  refine fn_ok mixed (E := {tb := [(54, sSym)]}) ⟨sSym_I, trivial⟩ Try.func80 (fun _ _ => loopsOK_nil _ _ _) (@Eq.mpr _ _ (datI_T ao c f) ?_) (HS.rows (fun _ => False) [⟨false, ao, 0, 1, 11, 0, [fun i => .int (f i)]⟩] (by simpa using h)) (fun v ch' w' ⟨ro, rc, hk⟩ hs => ⟨ro, rc, by rw [hk.1], hk.hs hs⟩)
  clear h
  repeat' (first
    | with_reducible exact rfl
    | exact True.intro
    | with_reducible assumption
    | (intro h; exfalso; rw [hsy] at h; simp at h; done)
    | (intro i hi; exact rfl)
    | refine And.intro ?_ ?_
    | apply Exists.intro
    | (intro z hz; subst hz)
    | (intro h; exfalso; simp at h; done)
    | (intro h; exfalso; replace h := of_decide_eq_true h; omega)
    | (intro h; exfalso; replace h := of_decide_eq_false h; omega)
    | intro _
    | omega
    | exact rfl)
theorem datS_T (ao : Option Addr) (c : Nat) (f : Nat → Int) : (exFn Try.prog {tb := [(47, sSym)]} 400 Try.f73 ([.a (.c (.sl 0 ao 11 c))]) ([.row ⟨false, ao, 0, 1, 11, 0, [fun i => .int (f i)]⟩]) (fun v ch => ∃ (ro : Option Addr) (rc : Nat), OutR v ch (.slice ro 8 rc) [.row ⟨true, ro, 3, 1, 8, rc, [fun i => .int (dat f i)]⟩])) = (
  ∃ b : Nat→Int, (ao = ao∧11 = 11∧[fun d => Ci (f d)] = [fun d => Ci (b d)])∧lenC 11∧((! (symB 11 b (11 : Int))) = true→∀ d : Nat, ∃(g : Option Addr) (h : Nat), (Ws (Ad d 0) 0 0) = (Ws g 8 h)∧((true = true∧(Ad d 0) = g∧3 = 3∧true = true∧0 = 8∧0 = h∧true = true)∧True)∧true = true)∧((! (symB 11 b (11 : Int))) = false→∀ d : Nat, (ao = ao∧11 = 11∧3 ≤ 11∧11 ≤ c)∧∀ g : Option Addr, (d = d∧(g = g∧8 = 8)∧(∀ h : Nat, true = true)∧apC 0 8 8)∧∀(h : Option Addr) (j : Nat), ∃(k : Option Addr) (l : Nat), (Ws h 8 j) = (Ws k 8 l)∧((true = true∧h = k∧3 = 3∧1 = 1∧8 = 8∧j = l∧(∀ m : Nat, m < 8→(Wi (f (m + 3))) = (Wi (dat f m)))∧True)∧True)∧true = true)) := by kernel_rfl
theorem datS_any (ao : Option Addr) (c : Nat) (f : Nat → Int) (w : World) (h : Row.sat w ⟨false, ao, 0, 1, 11, 0, [fun i => .int (f i)]⟩) (hsy : symB 11 f 11 = true) (hcap : 11 ≤ c) : Calls Try.prog 73 #[.slice ao 11 c] w fun e w' => ∃ (ro : Option Addr) (rc : Nat), e = .returned (.slice ro 8 rc) ∧ HS ⟨w, fun _ => False⟩ [.row ⟨true, ro, 3, 1, 8, rc, [fun i => .int (dat f i)]⟩] w' := by
  refine fn_ok mixed (E := {tb := [(47, sSym)]}) ⟨sSym_S, trivial⟩ Try.func73 (fun _ _ => loopsOK_nil _ _ _) (@Eq.mpr _ _ (datS_T ao c f) ?_) (HS.rows (fun _ => False) [⟨false, ao, 0, 1, 11, 0, [fun i => .int (f i)]⟩] (by simpa using h)) (fun v ch' w' ⟨ro, rc, hk⟩ hs => ⟨ro, rc, by rw [hk.1], hk.hs hs⟩)
  clear h
  repeat' (first
    | with_reducible exact rfl
    | exact True.intro
    | with_reducible assumption
    | (intro h; exfalso; rw [hsy] at h; simp at h; done)
    | (intro i hi; exact rfl)
    | refine And.intro ?_ ?_
    | apply Exists.intro
    | (intro z hz; subst hz)
    | (intro h; exfalso; simp at h; done)
    | (intro h; exfalso; replace h := of_decide_eq_true h; omega)
    | (intro h; exfalso; replace h := of_decide_eq_false h; omega)
    | intro _
    | omega
    | exact rfl)
def sWos : Sm := fun args ch k =>
  match args with
  | [.a (.c c)] => rdn ch c fun n g => (n = 8 ∧ symB 8 g 8 = true) ∧ k (.tup [.c (.int (wordOf g)), .c (.lit true)]) ch []
  | _ => False
def sDat : Sm := fun args ch k =>
  match args with
  | [.a (.c (.sl id ao n cap))] =>
    match ch[id]? with
    | some (.row r) =>
      match r.own with
      | true => ∃ g : Nat → Int, (ao = r.ao ∧ n = r.n ∧ n = 11 ∧ cap = r.cap ∧ r.fld = [fun i => .int (g i)] ∧ symB 11 g 11 = true) ∧ ∀ (ro : Option Addr) (rc : Nat), k (.a (.c (.sl ch.length ro 8 rc))) (ch ++ [.row ⟨true, ro, 3, 1, 8, rc, [fun i => .int (dat g i)]⟩]) []
      | false => False
    | _ => False
  | _ => False
theorem sWos_I : SmOK Try.prog 79 sWos := by
  refine smB Try.call79 fun args ch k w X h0 hs => ?_
  unfold sWos at h0
  split at h0
  · obtain ⟨ao, n, c', g, e, hr, ⟨rfl, hsy⟩, h1⟩ := rdn_ok h0 hs
    refine ⟨_, h1, ?_⟩
    simp only [List.map_cons, List.map_nil, den_a, den_c, e]
    exact wosI_any ao c' g w hr hsy
  · exact h0.elim
theorem sDat_I : SmOK Try.prog 80 sDat := by
  refine smN Try.call80 fun args ch k w X h0 hs => ?_
  unfold sDat at h0
  split at h0
  · rename_i id ao n cap
    split at h0
    · rename_i r hid
      split at h0
      · rename_i hown
        obtain ⟨g, ⟨rfl, rfl, hn, rfl, hf, hsy⟩, h1⟩ := h0
        have hr : r.sat w := hs.sat id _ hid
        have hcap : 11 ≤ r.cap := by
          rcases hr.2.2 hown with ⟨_, q, _⟩ | ⟨_, _, _, _, q, _⟩ <;> omega
        have hr2 := seenAs' hr hf rfl
        rw [hn] at hr2
        have e : (SV.a (SA.c (SC.sl id r.ao r.n r.cap))).den = .slice r.ao 11 r.cap := by rw [hn]; rfl
        simp only [List.map_cons, List.map_nil, e]
        exact Calls.mono (datI_any r.ao r.cap g w hr2 hsy hcap) fun e w' ⟨ro, rc, he, hs'⟩ => ⟨.a (.c (.sl ch.length ro 8 rc)), _, by rw [he]; rfl, hs', rfl, h1 ro rc⟩
      · exact h0.elim
    · exact h0.elim
  · exact h0.elim
theorem sWos_S : SmOK Try.prog 72 sWos := by
  refine smB Try.call72 fun args ch k w X h0 hs => ?_
  unfold sWos at h0
  split at h0
  · obtain ⟨ao, n, c', g, e, hr, ⟨rfl, hsy⟩, h1⟩ := rdn_ok h0 hs
    refine ⟨_, h1, ?_⟩
    simp only [List.map_cons, List.map_nil, den_a, den_c, e]
    exact wosS_any ao c' g w hr hsy
  · exact h0.elim
theorem sDat_S : SmOK Try.prog 73 sDat := by
  refine smN Try.call73 fun args ch k w X h0 hs => ?_
  unfold sDat at h0
  split at h0
  · rename_i id ao n cap
    split at h0
    · rename_i r hid
      split at h0
      · rename_i hown
        obtain ⟨g, ⟨rfl, rfl, hn, rfl, hf, hsy⟩, h1⟩ := h0
        have hr : r.sat w := hs.sat id _ hid
        have hcap : 11 ≤ r.cap := by
          rcases hr.2.2 hown with ⟨_, q, _⟩ | ⟨_, _, _, _, q, _⟩ <;> omega
        have hr2 := seenAs' hr hf rfl
        rw [hn] at hr2
        have e : (SV.a (SA.c (SC.sl id r.ao r.n r.cap))).den = .slice r.ao 11 r.cap := by rw [hn]; rfl
        simp only [List.map_cons, List.map_nil, e]
        exact Calls.mono (datS_any r.ao r.cap g w hr2 hsy hcap) fun e w' ⟨ro, rc, he, hs'⟩ => ⟨.a (.c (.sl ch.length ro 8 rc)), _, by rw [he]; rfl, hs', rfl, h1 ro rc⟩
      · exact h0.elim
    · exact h0.elim
  · exact h0.elim

def sWok : Sm := inlM Try.prog {tb := [(74, sSyn)]} 300 Try.f77
theorem sWok_ok : SmOK Try.prog 77 sWok := inlM_ok mixed (E := {tb := [(74, sSyn)]}) ⟨sSyn_I, trivial⟩ Try.func77 Try.call77 (fun _ _ _ => loopsOK_nil _ _ _)
theorem corI_T (ao : Option Addr) (c : Nat) (f : Nat → Int) : (exFn Try.prog {tb := [(74, sSyn), (77, sWok), (75, sInv), (76, sMul), (78, sLog)]} 400 Try.f69 ([.a (.c (.sl 0 ao 11 c))]) ([.row ⟨false, ao, 0, 1, 11, 0, [fun i => .int (f i)]⟩]) (fun v ch => ∃ (ro : Option Addr) (rc : Nat), OutR v ch (.tuple #[.slice ro 11 rc, .int .i64 (corC f), .int .i64 (corP f)]) [.row ⟨true, ro, 3, 1, 11, rc, [fun i => .int (corW f i)]⟩])) = (
  (fun b : Value => (fun d : Value => (fun g : Value => (fun h : Value => (fun j : Prop => ∃ k : Nat→Int, (fun l : Int => (fun m : Int => (fun n : Int => (fun o : Prop => (fun p : Int => (fun q : Bool => (fun r : Bool => (ao = ao∧11 = 11∧[fun s => Ci (f s)] = [fun s => Ci (k s)])∧(11 = 11∧(symB 11 k (11 : Int)) = true)∧∀ s t : Nat, (t = t∧(ao = ao∧11 = 11)∧(∀ u : Nat, true = true)∧apC 0 11 8)∧∀(u : Option Addr) (w : Nat), (fun x : Prop => (fun y : Prop => ∃ z : Nat→Int, (ao = ao∧11 = 11∧[fun B => Ci (f B)] = [fun B => Ci (z B)])∧(11 = 11∧(symB 11 z (11 : Int)) = true)∧∀ B : Nat, B = B∧(((syn z 0) == (0 : Int)) = true→B = B∧(((syn z 1) == (0 : Int)) = true→B = B∧(((syn z 2) == (0 : Int)) = true→∃(C : Option Addr) (D : Nat), (Wu [Ws u 11 w, Wi 0, d]) = (Wu [Ws C 11 D, h, g])∧((true = true∧u = C∧3 = 3∧1 = 1∧11 = 11∧w = D∧j)∧True)∧true = true)∧(((syn z 2) == (0 : Int)) = false→y))∧(((syn z 1) == (0 : Int)) = false→y))∧(((syn z 0) == (0 : Int)) = false→y)) (s = s∧(r = true→s = s∧(q = true→s = s∧s = s∧el n∧∀ y : Int, y = p→True∧(o∧el y)∧∀ z : Int, z = (gfM m y)→True∧el z∧∀ B : Int, (fun C : Nat => (fun D : Prop => B = (gfLog z)→((decide (B < (11 : Int))) = true→s = s∧s = s∧(o∧el z)∧∀ E : Int, E = (gfM m z)→True∧((E == l) = true→u = u∧11 = 11∧D∧u = u∧C < 11∧s = s∧u = u∧11 = 11∧D∧u = u∧C < 11∧True∧∃(F : Option Addr) (G : Nat), (Wu [Ws u 11 w, Wi 1, Wi B]) = (Wu [Ws F 11 G, h, g])∧((true = true∧u = F∧3 = 3∧1 = 1∧11 = 11∧w = G∧(∀ H : Nat, H < 11→(Wi (if H = C then (bits BinOp.xor .i64 (f C) n) else (f H))) = (Wi (corW f H)))∧True)∧True)∧true = true)∧((E == l) = false→x))∧((decide (B < (11 : Int))) = false→x)) (0 ≤ B∧B < ((11 : Nat) : Int))) (Int.toNat B))∧(q = false→x))∧(r = false→x))) (∃(x : Option Addr) (y : Nat), (Wu [Ws u 11 w, b, d]) = (Wu [Ws x 11 y, h, g])∧((true = true∧u = x∧3 = 3∧1 = 1∧11 = 11∧w = y∧j)∧True)∧true = true)) (n != (0 : Int))) (m != (0 : Int))) (gfInv n)) (el m)) (syn k 0)) (syn k 1)) (syn k 2)) ((∀ j : Nat, j < 11→(Wi (f j)) = (Wi (corW f j)))∧True)) (Wi (corC f))) (Wi (corP f))) (Wi (-1))) (Wi 2)) := by kernel_rfl
theorem mulStep2 {a b : Int} {K : Int → Prop} (ha : el a) (hb : el b) (h : el (gfM a b) → K (gfM a b)) : (el a ∧ el b) ∧ ∀ z : Int, z = gfM a b → K z :=
  ⟨⟨ha, hb⟩, fun z hz => by rw [hz]; exact h (el_gf ha hb)⟩
theorem zer_of {f : Nat → Int} (h : ¬ (syn f 0 = 0 ∧ syn f 1 = 0 ∧ syn f 2 = 0)) : zerB f = false := by
  cases hz : zerB f
  · rfl
  · simp only [zerB, Bool.and_eq_true, beq_iff_eq] at hz
    exact absurd ⟨hz.1.1, hz.1.2, hz.2⟩ h
theorem cor_none {f : Nat → Int} (hP : corP f = -1) : ∀ i, corW f i = f i := fun i => by
  unfold corW
  rw [hP, if_neg (by omega)]
theorem cor_lost {f : Nat → Int} (hz : zerB f = false) (hP : corP f = -1) : corC f = 2 := by
  unfold corC
  rw [hz, hP]
  rfl
theorem corI_any (ao : Option Addr) (c : Nat) (f : Nat → Int) (w : World) (h : Row.sat w ⟨false, ao, 0, 1, 11, 0, [fun i => .int (f i)]⟩) (hsy : symB 11 f 11 = true) : Calls Try.prog 69 #[.slice ao 11 c] w fun e w' => ∃ (ro : Option Addr) (rc : Nat), e = .returned (.tuple #[.slice ro 11 rc, .int .i64 (corC f), .int .i64 (corP f)]) ∧ HS ⟨w, fun _ => False⟩ [.row ⟨true, ro, 3, 1, 11, rc, [fun i => .int (corW f i)]⟩] w' := by
  refine fn_ok mixed (E := {tb := [(74, sSyn), (77, sWok), (75, sInv), (76, sMul), (78, sLog)]}) ⟨sSyn_I, sWok_ok, sInv_ok, sMul_I, sLog_ok, trivial⟩ Try.func69 (fun _ _ => loopsOK_nil _ _ _) (@Eq.mpr _ _ (corI_T ao c f) ?_) (HS.rows (fun _ => False) [⟨false, ao, 0, 1, 11, 0, [fun i => .int (f i)]⟩] (by simpa using h)) (fun v ch' w' ⟨ro, rc, hk⟩ hs => ⟨ro, rc, by rw [hk.1], hk.hs hs⟩)
  dsimp -zeta -proj -iota -eta -failIfUnchanged (etaStruct := .none) only
  clear h
  have hf := symB_el hsy
  by_cases h0 : syn f 0 = 0
  · have hP := imp_no hf (.inl h0)
    have hW := cor_none hP
    by_cases h1 : syn f 1 = 0
    · by_cases h2 : syn f 2 = 0
      · have hC : corC f = 0 := by simp [corC, zerB, h0, h1, h2]
        repeat' (first
          | with_reducible exact rfl
          | exact True.intro
          | with_reducible assumption
          | (intro h; exfalso; simp [h0, h1, h2] at h; done)
          | with_reducible exact hsy
          | with_reducible exact syn_el hf (by omega)
          | (with_reducible refine mulStep2 ?_ ?_ (fun hze => ?_))
          | (show (_ : Value) = _; rw [hC, hP]; try with_reducible rfl)
          | (intro i hi; rw [hW i])
          | refine And.intro ?_ ?_
          | apply Exists.intro
          | (intro z hz; subst hz)
          | (intro h; exfalso; simp at h; done)
          | (intro h; exfalso; replace h := of_decide_eq_true h; omega)
          | (intro h; exfalso; replace h := of_decide_eq_false h; omega)
          | intro _
          | omega
          | exact rfl)
      · have hC := cor_lost (zer_of (fun q => h2 q.2.2)) hP
        repeat' (first
          | with_reducible exact rfl
          | exact True.intro
          | with_reducible assumption
          | (intro h; exfalso; simp [h0, h1, h2] at h; done)
          | with_reducible exact hsy
          | with_reducible exact syn_el hf (by omega)
          | (with_reducible refine mulStep2 ?_ ?_ (fun hze => ?_))
          | (show (_ : Value) = _; rw [hC, hP]; try with_reducible rfl)
          | (intro i hi; rw [hW i])
          | refine And.intro ?_ ?_
          | apply Exists.intro
          | (intro z hz; subst hz)
          | (intro h; exfalso; simp at h; done)
          | (intro h; exfalso; replace h := of_decide_eq_true h; omega)
          | (intro h; exfalso; replace h := of_decide_eq_false h; omega)
          | intro _
          | omega
          | exact rfl)
    · have hC := cor_lost (zer_of (fun q => h1 q.2.1)) hP
      repeat' (first
        | with_reducible exact rfl
        | exact True.intro
        | with_reducible assumption
        | (intro h; exfalso; simp [h0, h1] at h; done)
        | with_reducible exact hsy
        | with_reducible exact syn_el hf (by omega)
        | (with_reducible refine mulStep2 ?_ ?_ (fun hze => ?_))
        | (show (_ : Value) = _; rw [hC, hP]; try with_reducible rfl)
        | (intro i hi; rw [hW i])
        | refine And.intro ?_ ?_
        | apply Exists.intro
        | (intro z hz; subst hz)
        | (intro h; exfalso; simp at h; done)
        | (intro h; exfalso; replace h := of_decide_eq_true h; omega)
        | (intro h; exfalso; replace h := of_decide_eq_false h; omega)
        | intro _
        | omega
        | exact rfl)
  · by_cases h1 : syn f 1 = 0
    · have hP := imp_no hf (.inr h1)
      have hW := cor_none hP
      have hC := cor_lost (zer_of (fun q => h0 q.1)) hP
      repeat' (first
        | with_reducible exact rfl
        | exact True.intro
        | with_reducible assumption
        | (intro h; exfalso; simp [h0, h1] at h; done)
        | with_reducible exact hsy
        | with_reducible exact syn_el hf (by omega)
        | (with_reducible refine mulStep2 ?_ ?_ (fun hze => ?_))
        | (show (_ : Value) = _; rw [hC, hP]; try with_reducible rfl)
        | (intro i hi; rw [hW i])
        | refine And.intro ?_ ?_
        | apply Exists.intro
        | (intro z hz; subst hz)
        | (intro h; exfalso; simp at h; done)
        | (intro h; exfalso; replace h := of_decide_eq_true h; omega)
        | (intro h; exfalso; replace h := of_decide_eq_false h; omega)
        | intro _
        | omega
        | exact rfl)
    · obtain ⟨he, hl, hp⟩ := imp_pos hf h0 h1
      have hem := el_gf (syn_el hf (j := 1) (by omega)) he
      by_cases hlt : gfLog (gfM (syn f 1) (gfInv (syn f 0))) < 11
      · by_cases hq : gfM (syn f 1) (gfM (syn f 1) (gfInv (syn f 0))) = syn f 2
        · rw [if_pos ⟨hlt, hq⟩] at hp
          have hP := hp
          have hC : corC f = 1 := by
            unfold corC
            rw [zer_of (fun q => h0 q.1), hP, if_neg (by simp), if_pos hl.1]
          have hW : ∀ i, corW f i = if i = Int.toNat (gfLog (gfM (syn f 1) (gfInv (syn f 0)))) then bits .xor .i64 (f (Int.toNat (gfLog (gfM (syn f 1) (gfInv (syn f 0)))))) (syn f 0) else f i := fun i => by
            unfold corW
            rw [hP]
            by_cases e : i = Int.toNat (gfLog (gfM (syn f 1) (gfInv (syn f 0))))
            · rw [if_pos e, if_pos (by omega), e]
            · rw [if_neg e, if_neg (by omega)]
          repeat' (first
            | with_reducible exact rfl
            | exact True.intro
            | with_reducible assumption
            | (intro h; exfalso; simp [h0, h1, hlt, hq] at h; done)
            | with_reducible exact hsy
            | with_reducible exact syn_el hf (by omega)
            | (with_reducible refine mulStep2 ?_ ?_ (fun hze => ?_))
            | (show (_ : Value) = _; rw [hC, hP]; try with_reducible rfl)
            | (intro i hi; rw [hW i])
            | refine And.intro ?_ ?_
            | apply Exists.intro
            | (intro z hz; subst hz)
            | (intro h; exfalso; simp at h; done)
            | (intro h; exfalso; replace h := of_decide_eq_true h; omega)
            | (intro h; exfalso; replace h := of_decide_eq_false h; omega)
            | intro _
            | omega
            | exact rfl)
        · rw [if_neg (fun q => hq q.2)] at hp
          have hP := hp
          have hW := cor_none hP
          have hC := cor_lost (zer_of (fun q => h0 q.1)) hP
          repeat' (first
            | with_reducible exact rfl
            | exact True.intro
            | with_reducible assumption
            | (intro h; exfalso; simp [h0, h1, hlt, hq] at h; done)
            | with_reducible exact hsy
            | with_reducible exact syn_el hf (by omega)
            | (with_reducible refine mulStep2 ?_ ?_ (fun hze => ?_))
            | (show (_ : Value) = _; rw [hC, hP]; try with_reducible rfl)
            | (intro i hi; rw [hW i])
            | refine And.intro ?_ ?_
            | apply Exists.intro
            | (intro z hz; subst hz)
            | (intro h; exfalso; simp at h; done)
            | (intro h; exfalso; replace h := of_decide_eq_true h; omega)
            | (intro h; exfalso; replace h := of_decide_eq_false h; omega)
            | intro _
            | omega
            | exact rfl)
      · rw [if_neg (fun q => hlt q.1)] at hp
        have hP := hp
        have hW := cor_none hP
        have hC := cor_lost (zer_of (fun q => h0 q.1)) hP
        repeat' (first
          | with_reducible exact rfl
          | exact True.intro
          | with_reducible assumption
          | (intro h; exfalso; simp [h0, h1, hlt] at h; done)
          | with_reducible exact hsy
          | with_reducible exact syn_el hf (by omega)
          | (with_reducible refine mulStep2 ?_ ?_ (fun hze => ?_))
          | (show (_ : Value) = _; rw [hC, hP]; try with_reducible rfl)
          | (intro i hi; rw [hW i])
          | refine And.intro ?_ ?_
          | apply Exists.intro
          | (intro z hz; subst hz)
          | (intro h; exfalso; simp at h; done)
          | (intro h; exfalso; replace h := of_decide_eq_true h; omega)
          | (intro h; exfalso; replace h := of_decide_eq_false h; omega)
          | intro _
          | omega
          | exact rfl)
abbrev r10 (n : Int) : Prop := 0 ≤ n ∧ n ≤ 10
def sPowS : Sm := fun args ch k =>
  match args with
  | [.a (.c x), .a (.c y)] =>
    match litN x, asI y with
    | some m, some n =>
      match Nat.beq m 2 with
      | true => r10 n ∧ ∀ z : Int, z = pwI n → k (.a (.c (.int z))) ch []
      | false => False
    | _, _ => False
  | _ => False
theorem sPowS_ok : SmOK Try.prog 65 sPowS := by
  refine smB Try.call65 fun args ch k w X h0 hs => ?_
  unfold sPowS at h0
  split at h0
  · rename_i x y
    split at h0
    · rename_i m n hm hn
      split at h0
      · rename_i h1
        refine ⟨_, h0.2 _ rfl, ?_⟩
        have e := beqN h1
        subst e
        simp only [List.map_cons, List.map_nil, den_a, den_c, litN_den hm, asI_den hn]
        obtain ⟨q, rfl⟩ := Int.eq_ofNat_of_zero_le h0.1.1
        have h2 := h0.1.2
        exact powS_lit q (by omega) w
      · exact h0.elim
    · exact h0.elim
  · exact h0.elim
def cwH (ao : Option Addr) (c : Nat) (f : Nat → Int) (ro : Option Addr) (rc b : Nat) (i : SC) (g : Nat → Value) : List SV := [.a (.c (.sl 0 ao 11 c)), .a (.c (.val (g 1))), .a (.c (.val (g 2))), .a (.c (.val (g 3))), .a (.c (.val (g 4))), .a (.c (.sl 1 ro 11 rc)), .a (.c (.slc 2 b 3 3)), .a (.c i), .a (.c (.val (g 8))), .a (.c (.val (g 9))), .a (.c (.val (g 10))), .a (.c (.val (g 11))), .a (.c (.val (g 12))), .a (.c (.val (g 13))), .a (.c (.val (g 14))), .a (.c (.val (g 15))), .a (.c (.val (g 16))), .a (.c (.val (g 17))), .a (.c (.val (g 18))), .a (.c (.val (g 19))), .a (.c (.val (g 20))), .a (.c (.val (g 21))), .a (.c (.val (g 22))), .a (.c (.val (g 23))), .a (.c (.val (g 24))), .a (.c (.val (g 25))), .a (.c (.val (g 26))), .a (.c (.val (g 27))), .a (.c (.val (g 28))), .a (.c (.val (g 29))), .a (.c (.val (g 30))), .a (.c (.val (g 31))), .a (.c (.val (g 32))), .a (.c (.val (g 33))), .a (.c (.val (g 34))), .a (.c (.val (g 35))), .a (.c (.val (g 36))), .a (.c (.val (g 37))), .a (.c (.val (g 38))), .a (.c (.val (g 39))), .a (.c (.val (g 40))), .a (.c (.val (g 41))), .a (.c (.val (g 42))), .a (.c (.val (g 43))), .a (.c (.val (g 44))), .a (.c (.val (g 45))), .a (.c (.val (g 46))), .a (.c (.val (g 47))), .a (.c (.val (g 48))), .a (.c (.val (g 49))), .a (.c (.val (g 50))), .a (.c (.val (g 51))), .a (.c (.val (g 52))), .a (.c (.val (g 53))), .a (.c (.val (g 54))), .a (.c (.val (g 55))), .a (.c (.val (g 56))), .a (.c (.val (g 57))), .a (.c (.val (g 58))), .a (.c (.val (g 59))), .a (.c (.val (g 60))), .a (.c (.val (g 61))), .a (.c (.val (g 62))), .a (.c (.val (g 63))), .a (.c (.val (g 64))), .a (.c (.val (g 65))), .a (.c (.val (g 66)))]
def cwR (ao : Option Addr) (c : Nat) (f : Nat → Int) (ro : Option Addr) (rc b : Nat) (m : Nat) (g : Nat → Value) : List SV := [.a (.c (.val (g 0))), .a (.c (.val (g 1))), .a (.c (.sl 1 ro 11 rc)), .a (.c (.il 1)), .a (.c (.int (m : Int))), .a (.c (.val (g 5))), .a (.c (.val (g 6))), .a (.c (.val (g 7))), .a (.c (.val (g 8))), .a (.c (.val (g 9))), .a (.c (.val (g 10))), .a (.c (.val (g 11))), .a (.c (.val (g 12))), .a (.c (.val (g 13))), .a (.c (.val (g 14))), .a (.c (.val (g 15))), .a (.c (.val (g 16))), .a (.c (.val (g 17))), .a (.c (.val (g 18))), .a (.c (.val (g 19))), .a (.c (.val (g 20))), .a (.c (.val (g 21))), .a (.c (.val (g 22))), .a (.c (.val (g 23))), .a (.c (.val (g 24))), .a (.c (.val (g 25))), .a (.c (.val (g 26))), .a (.c (.val (g 27))), .a (.c (.val (g 28))), .a (.c (.val (g 29))), .a (.c (.val (g 30))), .a (.c (.val (g 31))), .a (.c (.val (g 32))), .a (.c (.val (g 33))), .a (.c (.val (g 34))), .a (.c (.val (g 35))), .a (.c (.val (g 36))), .a (.c (.val (g 37))), .a (.c (.val (g 38))), .a (.c (.val (g 39))), .a (.c (.val (g 40))), .a (.c (.val (g 41))), .a (.c (.val (g 42))), .a (.c (.val (g 43))), .a (.c (.val (g 44))), .a (.c (.val (g 45))), .a (.c (.val (g 46))), .a (.c (.val (g 47))), .a (.c (.val (g 48))), .a (.c (.val (g 49))), .a (.c (.val (g 50))), .a (.c (.val (g 51))), .a (.c (.val (g 52))), .a (.c (.val (g 53))), .a (.c (.val (g 54))), .a (.c (.val (g 55))), .a (.c (.val (g 56))), .a (.c (.val (g 57))), .a (.c (.val (g 58))), .a (.c (.val (g 59))), .a (.c (.val (g 60))), .a (.c (.val (g 61))), .a (.c (.val (g 62))), .a (.c (.val (g 63))), .a (.c (.val (g 64))), .a (.c (.val (g 65))), .a (.c (.val (g 66)))]
def cwT (ao : Option Addr) (c : Nat) (f : Nat → Int) (ro : Option Addr) (rc b : Nat) : List Ch := [.row ⟨false, ao, 0, 1, 11, 0, [fun i => .int (f i)]⟩, .row ⟨true, ro, 3, 1, 11, rc, [fun i => .int (f i)]⟩, .cells b 3 [.int (syn f 0), .int (syn f 1), .int (syn f 2)]]
def cwU (ao : Option Addr) (c : Nat) (f : Nat → Int) (ro : Option Addr) (rc b : Nat) : List Ch := [.row ⟨false, ao, 0, 1, 11, 0, [fun i => .int (f i)]⟩, .row ⟨true, ro, 3, 1, 11, rc, [fun i => .int (corW f i)]⟩, .cells b 3 [.int (syn f 0), .int (syn f 1), .int (syn f 2)]]
def idV (v : SV) : Nat :=
  match v with
  | .a (.c x) => idA x 1000000
  | _ => 1000001
def scw (ao : Option Addr) (c : Nat) (f : Nat → Int) : LSm := fun ts ch k => ∃ (ro : Option Addr) (rc b : Nat),
  (ts.map SV.den = (cwH ao c f ro rc b (.il 0) (fun d => (ts.getD d .undef).den)).map SV.den ∧ SelS ch [0, idV (ts.getD 5 .undef), idV (ts.getD 6 .undef)] (cwT ao c f ro rc b)) ∧
    (corP f = -1 → ∀ g, k (.exit 0) (cwH ao c f ro rc b (.int ((11 : Nat) : Int)) g) (cwT ao c f ro rc b)) ∧ (∀ m : Nat, ltN m 11 → corP f = (m : Int) → ∀ g, k .ret (cwR ao c f ro rc b m g) (cwU ao c f ro rc b))
theorem cwB (ao : Option Addr) (c : Nat) (f : Nat → Int) (ro : Option Addr) (rc b : Nat) (j : Nat) (g : Nat → Value) (NX : List SV → List Ch → Prop) (kx : Exit → List SV → List Ch → Prop) : (exCode Try.prog {tb := [(65, sPowS), (64, sMul)]} 400 (theLoop Try.f71 0) (cwH ao c f ro rc b (.int (j : Int)) g) (cwT ao c f ro rc b) (loopK NX kx)) = (
  (fun a : Int => (fun d : Int => (fun h : Int => (fun k : SV => (fun l : SV => (fun m : SV => (fun n : SV => (fun o : SV => (fun p : SV => (fun q : SV => (fun r : SV => (fun s : SV => (fun t : SV => (fun u : SV => (fun v : SV => (fun w : SV => (fun x : SV => (fun y : SV => (fun z : SV => (fun B : SV => (fun C : SV => (fun D : SV => (fun E : SV => (fun F : SV => (fun G : SV => (fun H : SV => (fun I : SV => (fun J : SV => (fun K : SV => (fun L : SV => (fun M : SV => (fun N : SV => (fun O : SV => (fun P : SV => (fun Q : SV => (fun R : SV => (fun S : SV => (fun T : SV => (fun U : Bool => (fun V : SV => (fun W : SV => (fun X : Int => (fun Y : Bool => (fun Z : Ch => (fun aa : Ch => (fun ab : Prop => (fun ac : List Ch => (Y = true→r10 ((j : Nat) : Int)∧∀ ad : Int, (fun af : SV => ad = (pwI ((j : Nat) : Int))→b = b∧(U = true→b = b∧b = b∧(el h∧el ad)∧∀ ag : Int, (fun ah : SV => ag = (gfM h ad)→True∧((ag == d) = true→b = b∧b = b∧(el d∧el ad)∧∀ aj : Int, aj = (gfM d ad)→True∧((aj == a) = true→ro = ro∧11 = 11∧ab∧ro = ro∧j < 11∧b = b∧ro = ro∧11 = 11∧ab∧ro = ro∧j < 11∧True∧kx Exit.ret [R, n, S, lV 1, T, S, O, T, af, m, N, M, L, K, J, I, H, G, F, E, D, T, tV, vV (g 23), vV (g 24), T, af, O, l, Q, V, tV, O, l, Q, af, iV ag, O, k, P, ah, ah, tV, O, k, P, af, iV aj, O, pV 2 b 2, iV a, bV (aj == a), tV, S, T, S, T, rV 1 ro 1 j 0, iV (f j), O, l, Q, iV X, rV 1 ro 1 j 0, S, T, C] [Z, Hr true ro 3 1 11 rc [fun ak => Ci (if ak = j then X else (f ak))], aa])∧((aj == a) = false→rng (((j : Nat) : Int) + (1 : Int))∧NX [R, n, vV (g 2), vV (g 3), vV (g 4), S, O, W, af, m, N, M, L, K, J, I, H, G, F, E, D, T, tV, T, W, T, af, O, l, Q, V, tV, O, l, Q, af, iV ag, O, k, P, ah, ah, tV, O, k, P, af, iV aj, O, pV 2 b 2, iV a, bV (aj == a), fV, B, z, y, x, w, v, u, t, s, r, q, p, o, C] ac))∧((ag == d) = false→rng (((j : Nat) : Int) + (1 : Int))∧NX [R, n, vV (g 2), vV (g 3), vV (g 4), S, O, W, af, m, N, M, L, K, J, I, H, G, F, E, D, T, tV, T, W, T, af, O, l, Q, V, tV, O, l, Q, af, iV ag, O, k, P, ah, ah, fV, xV, xV, xV, xV, xV, xV, xV, xV, xV, fV, B, z, y, x, w, v, u, t, s, r, q, p, o, C] ac)) (bV (ag == d)))∧(U = false→rng (((j : Nat) : Int) + (1 : Int))∧NX [R, n, vV (g 2), vV (g 3), vV (g 4), S, O, W, af, m, N, M, L, K, J, I, H, G, F, E, D, T, tV, T, W, T, af, O, l, Q, V, fV, xV, xV, xV, xV, xV, xV, xV, xV, xV, fV, fV, xV, xV, xV, xV, xV, xV, xV, xV, xV, fV, B, z, y, x, w, v, u, t, s, r, q, p, o, C] ac)) (iV ad))∧(Y = false→kx (Exit.exit 0) [R, n, vV (g 2), vV (g 3), vV (g 4), S, O, T, vV (g 8), m, N, M, L, K, J, I, H, G, F, E, D, T, fV, vV (g 23), vV (g 24), vV (g 25), vV (g 26), vV (g 27), vV (g 28), vV (g 29), vV (g 30), vV (g 31), vV (g 32), vV (g 33), vV (g 34), vV (g 35), vV (g 36), vV (g 37), vV (g 38), vV (g 39), vV (g 40), vV (g 41), vV (g 42), vV (g 43), vV (g 44), vV (g 45), vV (g 46), vV (g 47), vV (g 48), vV (g 49), vV (g 50), vV (g 51), vV (g 52), B, z, y, x, w, v, u, t, s, r, q, p, o, C] ac)) [Z, Hr true ro 3 1 11 rc [fun ac => Ci (f ac)], aa]) (0 ≤ ((j : Nat) : Int)∧((j : Nat) : Int) < ((11 : Nat) : Int))) (Hc b 3 [Ci h, Ci d, Ci a])) (Hr false ao 0 1 11 0 [fun Z => Ci (f Z)])) (decide (((j : Nat) : Int) < (11 : Int)))) (bits BinOp.xor .i64 (f j) h)) (iV (((j : Nat) : Int) + (1 : Int)))) (bV U)) (h != (0 : Int))) (iV ((j : Nat) : Int))) (sV 1 ro 11 rc)) (sV 0 ao 11 c)) (iV h)) (iV d)) (cV 2 b 3 3)) (vV (g 10))) (vV (g 11))) (vV (g 12))) (vV (g 13))) (vV (g 14))) (vV (g 15))) (vV (g 16))) (vV (g 17))) (vV (g 18))) (vV (g 19))) (vV (g 20))) (vV (g 66))) (vV (g 53))) (vV (g 54))) (vV (g 55))) (vV (g 56))) (vV (g 57))) (vV (g 58))) (vV (g 59))) (vV (g 60))) (vV (g 61))) (vV (g 62))) (vV (g 63))) (vV (g 64))) (vV (g 65))) (vV (g 1))) (vV (g 9))) (pV 2 b 0)) (pV 2 b 1)) (syn f 0)) (syn f 1)) (syn f 2)) := by kernel_rfl
theorem trial_no {f : Nat → Int} (hf : ∀ i, i < 11 → el (f i)) (h : ∀ i, i < 11 → hitI (syn f 0) (syn f 1) (syn f 2) i = false) : corP f = -1 := by
  rcases corP_trial hf with ⟨h1, _⟩ | ⟨m, _, h2, h3, _⟩
  · exact h1
  · rw [h m h2] at h3
    cases h3
theorem trial_hit {f : Nat → Int} (hf : ∀ i, i < 11 → el (f i)) {j : Nat} (hj : j < 11) (h : ∀ i, i < j → hitI (syn f 0) (syn f 1) (syn f 2) i = false) (hh : hitI (syn f 0) (syn f 1) (syn f 2) j = true) : corP f = (j : Int) := by
  rcases corP_trial hf with ⟨_, h1⟩ | ⟨m, h1, h2, h3, h4⟩
  · rw [h1 j hj] at hh
    cases hh
  · rcases Nat.lt_trichotomy m j with hlt | heq | hgt
    · rw [h m hlt] at h3; cases h3
    · rw [h1, heq]
    · rw [h4 j hgt] at hh; cases hh
theorem hit_nz {s0 s1 s2 : Int} {j : Nat} (h : hitI s0 s1 s2 j = true) : s0 ≠ 0 := fun e => by
  simp [hitI, e] at h
theorem scw_ok (ao : Option Addr) (c : Nat) (f : Nat → Int) (hf : ∀ i, i < 11 → el (f i)) (X : Cx) : LoopOK Try.prog X (theLoop Try.f71 0) (scw ao c f) := by
  intro ts ch k a w hS hT hd hs
  obtain ⟨ro, rc, b, ⟨h1, hch⟩, hk, hr⟩ := hS
  refine loop_ok mixed (E := {tb := [(65, sPowS), (64, sMul)]}) ⟨sPowS_ok, sMul_S, trivial⟩ (loopsOK_nil _ _ _) 400 11 (fun j ts ch => ∃ g, (∀ i, i < j → hitI (syn f 0) (syn f 1) (syn f 2) i = false) ∧ ts = cwH ao c f ro rc b (.int (j : Int)) g ∧ ch = cwT ao c f ro rc b) ?_ ?_ hT hd hs
  · rintro j _ _ ⟨g, hall, rfl, rfl⟩ hj
    refine (@Eq.mpr _ _ (cwB ao c f ro rc b j g _ _) ?_)
    dsimp -zeta -proj -iota -eta -failIfUnchanged (etaStruct := .none) only
    by_cases hlt : j < 11
    · have hjn : (0 : Int) ≤ (j : Int) ∧ (j : Int) < ((11 : Nat) : Int) := ⟨by omega, by omega⟩
      have hr10 : r10 (j : Int) := ⟨by omega, by omega⟩
      have hpw := pw_el hr10
      have hs0 := syn_el hf (j := 0) (by omega)
      have hs1 := syn_el hf (j := 1) (by omega)
      have next : (hh : hitI (syn f 0) (syn f 1) (syn f 2) j = false) → ∀ i, i < j + 1 → hitI (syn f 0) (syn f 1) (syn f 2) i = false := fun hh i hi => by
        by_cases e : i = j
        · rw [e]; exact hh
        · exact hall i (by omega)
      have upd : hitI (syn f 0) (syn f 1) (syn f 2) j = true → ∀ i, corW f i = if i = j then bits .xor .i64 (f j) (syn f 0) else f i := fun hh i => by
        unfold corW
        rw [trial_hit hf hlt hall hh]
        by_cases e : i = j
        · rw [if_pos e, if_pos (by omega), e]
        · rw [if_neg e, if_neg (by omega)]
      cases h0 : (syn f 0 == 0) <;> cases q1 : (gfM (syn f 0) (pwI (j : Int)) == syn f 1) <;> cases q2 : (gfM (syn f 1) (pwI (j : Int)) == syn f 2)
      all_goals
        have hh : hitI (syn f 0) (syn f 1) (syn f 2) j = (!(syn f 0 == 0) && (gfM (syn f 0) (pwI (j : Int)) == syn f 1) && (gfM (syn f 1) (pwI (j : Int)) == syn f 2)) := rfl
        rw [h0, q1, q2] at hh
        have h0' : (syn f 0 != 0) = !(syn f 0 == 0) := rfl
        rw [h0] at h0'
        repeat' (first
          | with_reducible exact rfl
          | exact True.intro
          | with_reducible assumption
          | (with_reducible refine mulStep2 ?_ ?_ (fun hze => ?_))
          | (show Next _ _ _ _; refine Next.mk (fun g => cwH ao c f ro rc b (.int ((j + 1 : Nat) : Int)) g) _ ⟨_, next hh, rfl, rfl⟩ rfl fun w hw => hw)
          | (show Next _ _ _ _; refine Next.mk (fun g => cwR ao c f ro rc b j g) (cwU ao c f ro rc b) (hr j hlt (trial_hit hf hlt hall hh) _) rfl fun w hw => SelS.hs (l := [0, 1, 2]) (by refine ⟨?_, rfl⟩; repeat' (first | exact True.intro | exact symRows_push | exact rfl | refine And.intro ?_ ?_ | (intro i hi; show _ = _; with_reducible rfl) | (intro i hi; show _ = _; rfl) | (intro i hi; simp only [SC.den]; rw [upd hh i]) | (intro i hi; show _ = _; simp only [SC.den]; split <;> rfl))) hw)
          | refine And.intro ?_ ?_
          | (intro h; exfalso; simp at h; omega)
          | (intro h; exfalso; rw [h0'] at h; cases h; done)
          | (intro h; exfalso; rw [q1] at h; cases h; done)
          | (intro h; exfalso; rw [q2] at h; cases h; done)
          | (intro z hz; subst hz)
          | intro _
          | (show rng _; simp only [rng]; omega)
          | omega)
    · have hjn : j = 11 := by omega
      subst hjn
      repeat' (first
        | with_reducible exact rfl
        | exact True.intro
        | (show Next _ _ _ _; refine Next.mk (fun g => cwH ao c f ro rc b (.int ((11 : Nat) : Int)) g) _ (hk (trial_no hf hall) _) rfl fun w hw => hw)
        | refine And.intro ?_ ?_
        | (intro h; exfalso; simp at h; done)
        | intro _)
  · exact Next.mk (fun g => cwH ao c f ro rc b (.int ((0 : Nat) : Int)) g) _ ⟨_, fun i hi => absurd hi (Nat.not_lt_zero i), rfl, rfl⟩ h1 fun w hw => hch.hs hw
def sZer : Sm := inlM Try.prog {tb := []} 300 Try.f82
theorem sZer_ok : SmOK Try.prog 82 sZer := inlM_ok mixed (E := {tb := []}) trivial Try.func82 Try.call82 (fun _ _ _ => loopsOK_nil _ _ _)
theorem corS_T (ao : Option Addr) (c : Nat) (f : Nat → Int) : (exFn Try.prog {tb := [(47, sSym), (81, sSyn), (82, sZer)], L := [(8, scw ao c f)]} 400 Try.f71 ([.a (.c (.sl 0 ao 11 c))]) ([.row ⟨false, ao, 0, 1, 11, 0, [fun i => .int (f i)]⟩]) (fun v ch => ∃ (ro : Option Addr) (rc : Nat), OutR v ch (.tuple #[.slice ro 11 rc, .int .i64 (corC f), .int .i64 (corP f)]) [.row ⟨true, ro, 3, 1, 11, rc, [fun i => .int (corW f i)]⟩])) = (
  (fun b : Value => (fun d : Value => (fun g : Int => (fun h : Value => (fun j : Value => (fun k : Value => (fun l : Value => (fun m : List (Nat→SC) => (fun n : Ch => (fun o : List SC => (fun p : Prop => (fun q : Prop => ∃ r : Nat→Int, (fun s : Bool => (fun t : Value => (ao = ao∧11 = 11∧m = [fun u => Ci (r u)])∧lenC 11∧((! s) = true→∀ u : Nat, ∃(w : Option Addr) (x : Nat), (Wu [Ws (Ad u 0) 0 0, Wi 2, Wi (-1)]) = (Wu [Ws w 11 x, l, k])∧((true = true∧(Ad u 0) = w∧3 = 3∧true = true∧0 = 11∧0 = x∧true = true)∧True)∧true = true)∧((! s) = false→∀ u : Nat, (fun w : Value => (u = u∧(ao = ao∧11 = 11)∧(∀ x : Nat, true = true)∧apC 0 11 8)∧∀(x : Option Addr) (y : Nat), (fun z : Value => (fun B : Ch => ∃ C : Nat→Int, (fun D : List SC => (ao = ao∧11 = 11∧m = [fun E => Ci (C E)])∧(11 = 11∧(symB 11 C (11 : Int)) = true)∧∀ E : Nat, (fun F : Value => (fun G : Prop => E = E∧(((syn C 0) == (0 : Int)) = true→E = E∧(((syn C 1) == (0 : Int)) = true→E = E∧(((syn C 2) == (0 : Int)) = true→∃(H : Option Addr) (I : Nat), (Wu [z, d, Wi (-1)]) = (Wu [Ws H 11 I, l, k])∧((true = true∧x = H∧3 = 3∧1 = 1∧11 = 11∧y = I∧p)∧True)∧true = true)∧(((syn C 2) == (0 : Int)) = false→G))∧(((syn C 1) == (0 : Int)) = false→G))∧(((syn C 0) == (0 : Int)) = false→G)) (∃(G : Option Addr) (H I : Nat), ([j, b, Wn, d, d, z, F, d, b, j, t, h, b, w, j, z, j, F, F, h, b, b, b, b, b, b, b, b, b, b, b, b, b, b, b, b, b, b, b, b, b, b, b, b, b, b, b, b, b, b, b, b, b, b, b, b, b, b, b, b, b, b, b, b, b, b, b] = [j, b, Wn, d, d, Ws G 11 H, Ws (Ad I 0) 3 3, d, b, j, t, h, b, w, j, z, j, F, F, h, b, b, b, b, b, b, b, b, b, b, b, b, b, b, b, b, b, b, b, b, b, b, b, b, b, b, b, b, b, b, b, b, b, b, b, b, b, b, b, b, b, b, b, b, b, b, b]∧SelS [n, Hd, B, Hc E 3 D] [0, 2, 3] [n, Hr true G 3 1 11 H m, Hc I 3 o])∧(g = ((-1) : Int)→∀ J : Nat→Value, ∃(K : Option Addr) (M : Nat), (Wu [Ws G 11 H, Wi 2, Wi (-1)]) = (Wu [Ws K 11 M, l, k])∧((true = true∧G = K∧3 = 3∧1 = 1∧11 = 11∧H = M∧p)∧True)∧true = true)∧∀ J : Nat, J < 11→g = ((J : Nat) : Int)→∀ K : Nat→Value, ∃(M : Option Addr) (N : Nat), (Wu [Ws G 11 H, Wi 1, Wi ((J : Nat) : Int)]) = (Wu [Ws M 11 N, l, k])∧((true = true∧G = M∧3 = 3∧1 = 1∧11 = 11∧H = N∧q)∧True)∧true = true)) (Ws (Ad E 0) 3 3)) [Ci (syn C 0), Ci (syn C 1), Ci (syn C 2)]) (Hr true x 3 1 11 y m)) (Ws x 11 y)) (Ws (Ad u 0) 0 0))) (Wb s)) (symB 11 r (11 : Int))) ((∀ q : Nat, q < 11→(Wi (corW f q)) = (Wi (corW f q)))∧True)) ((∀ p : Nat, p < 11→(Wi (f p)) = (Wi (corW f p)))∧True)) [Ci (syn f 0), Ci (syn f 1), Ci (syn f 2)]) (Hr false ao 0 1 11 0 m)) [fun m => Ci (f m)]) (Wi (corC f))) (Wi g)) (Ws ao 11 c)) (Wb false)) (corP f)) (Wi 0)) (Wu [])) := by kernel_rfl
theorem corS_any (ao : Option Addr) (c : Nat) (f : Nat → Int) (w : World) (h : Row.sat w ⟨false, ao, 0, 1, 11, 0, [fun i => .int (f i)]⟩) (hsy : symB 11 f 11 = true) : Calls Try.prog 71 #[.slice ao 11 c] w fun e w' => ∃ (ro : Option Addr) (rc : Nat), e = .returned (.tuple #[.slice ro 11 rc, .int .i64 (corC f), .int .i64 (corP f)]) ∧ HS ⟨w, fun _ => False⟩ [.row ⟨true, ro, 3, 1, 11, rc, [fun i => .int (corW f i)]⟩] w' := by
  have hf := symB_el hsy
  refine fn_ok mixed (E := {tb := [(47, sSym), (81, sSyn), (82, sZer)], L := [(8, scw ao c f)]}) ⟨sSym_S, sSyn_S, sZer_ok, trivial⟩ Try.func71 (one_loop (by kernel_rfl) (by kernel_rfl) (scw_ok ao c f hf _)) (@Eq.mpr _ _ (corS_T ao c f) ?_) (HS.rows (fun _ => False) [⟨false, ao, 0, 1, 11, 0, [fun i => .int (f i)]⟩] (by simpa using h)) (fun v ch' w' ⟨ro, rc, hk⟩ hs => ⟨ro, rc, by rw [hk.1], hk.hs hs⟩)
  dsimp -zeta -proj -iota -eta -failIfUnchanged (etaStruct := .none) only
  clear h
  by_cases hz : syn f 0 = 0 ∧ syn f 1 = 0 ∧ syn f 2 = 0
  · obtain ⟨h0, h1, h2⟩ := hz
    have hP := imp_no hf (.inl h0)
    have hW := cor_none hP
    have hC : corC f = 0 := by simp [corC, zerB, h0, h1, h2]
    repeat' (first
      | with_reducible exact rfl
      | exact True.intro
      | with_reducible assumption
      | (intro h; exfalso; simp [h0, h1, h2] at h; done)
      | with_reducible exact hsy
      | (show (_ : Value) = _; rw [hC, hP]; try with_reducible rfl)
      | (intro i hi; rw [hW i])
      | exact (by refine ⟨?_, rfl⟩; repeat' (first | exact True.intro | exact symRows_push | exact rfl | refine And.intro ?_ ?_ | (intro i hi; show _ = _; with_reducible rfl) | (intro i hi; show _ = _; rfl) | (intro i hi; rw [hW i]) | (intro i hi; show _ = _; simp only [SC.den]; split <;> rfl)))
      | (intro h; exfalso; rw [hsy] at h; simp at h; done)
      | refine And.intro ?_ ?_
      | apply Exists.intro
      | (intro z hz; subst hz)
      | (intro h; exfalso; simp at h; done)
      | (intro h; exfalso; replace h := of_decide_eq_true h; omega)
      | (intro h; exfalso; replace h := of_decide_eq_false h; omega)
      | intro _
      | omega
      | exact rfl)
  · rcases corP_trial hf with ⟨hP, _⟩ | ⟨m0, hP, hm0, hh, _⟩
    · have hW := cor_none hP
      have hC := cor_lost (zer_of hz) hP
      by_cases h0 : syn f 0 = 0
      · by_cases h1 : syn f 1 = 0
        · have h2 : ¬ syn f 2 = 0 := fun q => hz ⟨h0, h1, q⟩
          repeat' (first
            | with_reducible exact rfl
            | exact True.intro
            | with_reducible assumption
            | (intro h; exfalso; simp [h0, h1, h2] at h; done)
            | with_reducible exact hsy
            | (show (_ : Value) = _; rw [hC, hP]; try with_reducible rfl)
            | (intro m hm (hq : corP f = _); exfalso; rw [hP] at hq; omega)
            | (intro i hi; rw [hW i])
            | exact (by refine ⟨?_, rfl⟩; repeat' (first | exact True.intro | exact symRows_push | exact rfl | refine And.intro ?_ ?_ | (intro i hi; show _ = _; with_reducible rfl) | (intro i hi; show _ = _; rfl) | (intro i hi; rw [hW i]) | (intro i hi; show _ = _; simp only [SC.den]; split <;> rfl)))
            | (intro h; exfalso; rw [hsy] at h; simp at h; done)
            | refine And.intro ?_ ?_
            | apply Exists.intro
            | (intro z hz; subst hz)
            | (intro h; exfalso; simp at h; done)
            | (intro h; exfalso; replace h := of_decide_eq_true h; omega)
            | (intro h; exfalso; replace h := of_decide_eq_false h; omega)
            | intro _
            | omega
            | exact rfl)
        · skip
          repeat' (first
            | with_reducible exact rfl
            | exact True.intro
            | with_reducible assumption
            | (intro h; exfalso; simp [h0, h1] at h; done)
            | with_reducible exact hsy
            | (show (_ : Value) = _; rw [hC, hP]; try with_reducible rfl)
            | (intro m hm (hq : corP f = _); exfalso; rw [hP] at hq; omega)
            | (intro i hi; rw [hW i])
            | exact (by refine ⟨?_, rfl⟩; repeat' (first | exact True.intro | exact symRows_push | exact rfl | refine And.intro ?_ ?_ | (intro i hi; show _ = _; with_reducible rfl) | (intro i hi; show _ = _; rfl) | (intro i hi; rw [hW i]) | (intro i hi; show _ = _; simp only [SC.den]; split <;> rfl)))
            | (intro h; exfalso; rw [hsy] at h; simp at h; done)
            | refine And.intro ?_ ?_
            | apply Exists.intro
            | (intro z hz; subst hz)
            | (intro h; exfalso; simp at h; done)
            | (intro h; exfalso; replace h := of_decide_eq_true h; omega)
            | (intro h; exfalso; replace h := of_decide_eq_false h; omega)
            | intro _
            | omega
            | exact rfl)
      · skip
        repeat' (first
          | with_reducible exact rfl
          | exact True.intro
          | with_reducible assumption
          | (intro h; exfalso; simp [h0] at h; done)
          | with_reducible exact hsy
          | (show (_ : Value) = _; rw [hC, hP]; try with_reducible rfl)
          | (intro m hm (hq : corP f = _); exfalso; rw [hP] at hq; omega)
          | (intro i hi; rw [hW i])
          | exact (by refine ⟨?_, rfl⟩; repeat' (first | exact True.intro | exact symRows_push | exact rfl | refine And.intro ?_ ?_ | (intro i hi; show _ = _; with_reducible rfl) | (intro i hi; show _ = _; rfl) | (intro i hi; rw [hW i]) | (intro i hi; show _ = _; simp only [SC.den]; split <;> rfl)))
          | (intro h; exfalso; rw [hsy] at h; simp at h; done)
          | refine And.intro ?_ ?_
          | apply Exists.intro
          | (intro z hz; subst hz)
          | (intro h; exfalso; simp at h; done)
          | (intro h; exfalso; replace h := of_decide_eq_true h; omega)
          | (intro h; exfalso; replace h := of_decide_eq_false h; omega)
          | intro _
          | omega
          | exact rfl)
    · have hC : corC f = 1 := by
        unfold corC
        rw [zer_of hz, hP, if_neg (by simp), if_pos (by omega)]
      have h0 := hit_nz hh
      repeat' (first
        | with_reducible exact rfl
        | exact True.intro
        | with_reducible assumption
        | (intro h; exfalso; simp [h0] at h; done)
        | with_reducible exact hsy
        | (show (_ : Value) = _; rw [hC, hP]; try with_reducible rfl)
        | (intro (hq : corP f = -1); exfalso; rw [hP] at hq; omega)
        | (intro m hm (hq : corP f = _); obtain rfl : m = m0 := by (rw [hP] at hq; omega))
        | exact (by refine ⟨?_, rfl⟩; repeat' (first | exact True.intro | exact symRows_push | exact rfl | refine And.intro ?_ ?_ | (intro i hi; show _ = _; with_reducible rfl) | (intro i hi; show _ = _; rfl) | (intro i hi; show _ = _; simp only [SC.den]; split <;> rfl)))
        | (intro h; exfalso; rw [hsy] at h; simp at h; done)
        | refine And.intro ?_ ?_
        | apply Exists.intro
        | (intro z hz; subst hz)
        | (intro h; exfalso; simp at h; done)
        | (intro h; exfalso; replace h := of_decide_eq_true h; omega)
        | (intro h; exfalso; replace h := of_decide_eq_false h; omega)
        | intro _
        | omega
        | exact rfl)

def sCor : Sm := fun args ch k =>
  match args with
  | [.a (.c c)] => rdn ch c fun n g => (n = 11 ∧ symB 11 g 11 = true) ∧ ∀ (ro : Option Addr) (rc : Nat), k (.tup [.c (.sl ch.length ro 11 rc), .c (.int (corC g)), .c (.int (corP g))]) (ch ++ [.row ⟨true, ro, 3, 1, 11, rc, [fun i => .int (corW g i)]⟩]) []
  | _ => False
def sDec : Sm := fun args ch k =>
  match args with
  | [.a (.c c)] => rdn ch c fun n g => (n = 11 ∧ symB 11 g 11 = true) ∧ k (.tup [.c (.int (decX g)), .c (.int (corC g)), .c (.int (corP g))]) ch []
  | _ => False
theorem sCor_I : SmOK Try.prog 69 sCor := by
  refine smN Try.call69 fun args ch k w X h0 hs => ?_
  unfold sCor at h0
  split at h0
  · obtain ⟨ao, n, c', g, e, hr, ⟨rfl, hsy⟩, h1⟩ := rdn_ok h0 hs
    simp only [List.map_cons, List.map_nil, den_a, den_c, e]
    exact Calls.mono (corI_any ao c' g w hr hsy) fun e w' ⟨ro, rc, he, hs'⟩ => ⟨.tup [.c (.sl ch.length ro 11 rc), .c (.int (corC g)), .c (.int (corP g))], _, by rw [he]; rfl, hs', rfl, h1 ro rc⟩
  · exact h0.elim
theorem sCor_S : SmOK Try.prog 71 sCor := by
  refine smN Try.call71 fun args ch k w X h0 hs => ?_
  unfold sCor at h0
  split at h0
  · obtain ⟨ao, n, c', g, e, hr, ⟨rfl, hsy⟩, h1⟩ := rdn_ok h0 hs
    simp only [List.map_cons, List.map_nil, den_a, den_c, e]
    exact Calls.mono (corS_any ao c' g w hr hsy) fun e w' ⟨ro, rc, he, hs'⟩ => ⟨.tup [.c (.sl ch.length ro 11 rc), .c (.int (corC g)), .c (.int (corP g))], _, by rw [he]; rfl, hs', rfl, h1 ro rc⟩
  · exact h0.elim
theorem decI_T (ao : Option Addr) (c : Nat) (f : Nat → Int) : (exFn Try.prog {tb := [(69, sCor), (80, sDat), (79, sWos)]} 400 Try.f70 ([.a (.c (.sl 0 ao 11 c))]) ([.row ⟨false, ao, 0, 1, 11, 0, [fun i => .int (f i)]⟩]) (fun v _ => v.den = .tuple #[.int .i64 (decX f), .int .i64 (corC f), .int .i64 (corP f)])) = (
  ∃ b : Nat→Int, (ao = ao∧11 = 11∧[fun d => Ci (f d)] = [fun d => Ci (b d)])∧(11 = 11∧(symB 11 b (11 : Int)) = true)∧∀(d : Option Addr) (g : Nat), (((corC b) == (2 : Int)) = true→(Wu [Wi 0, Wi (corC b), Wi (corP b)]) = (Wu [Wi (decX f), Wi (corC f), Wi (corP f)]))∧(((corC b) == (2 : Int)) = false→∃ h : Nat→Int, (d = d∧11 = 11∧11 = 11∧g = g∧[fun j => Ci (corW b j)] = [fun j => Ci (h j)]∧(symB 11 h (11 : Int)) = true)∧∀(j : Option Addr) (k : Nat), ∃ l : Nat→Int, (j = j∧8 = 8∧[fun m => Ci (dat h m)] = [fun m => Ci (l m)])∧(8 = 8∧(symB 8 l (8 : Int)) = true)∧(Wu [Wi (wordOf l), Wi (corC b), Wi (corP b)]) = (Wu [Wi (decX f), Wi (corC f), Wi (corP f)]))) := by kernel_rfl
theorem decI_any (ao : Option Addr) (c : Nat) (f : Nat → Int) (w : World) (h : Row.sat w ⟨false, ao, 0, 1, 11, 0, [fun i => .int (f i)]⟩) (hsy : symB 11 f 11 = true) : Calls Try.prog 70 #[.slice ao 11 c] w fun e w' => e = .returned (.tuple #[.int .i64 (decX f), .int .i64 (corC f), .int .i64 (corP f)]) ∧ Below w.heap.size w w' := by
  refine fn_ok mixed (E := {tb := [(69, sCor), (80, sDat), (79, sWos)]}) ⟨sCor_I, sDat_I, sWos_I, trivial⟩ Try.func70 (fun _ _ => loopsOK_nil _ _ _) (@Eq.mpr _ _ (decI_T ao c f) ?_) (HS.rows (fun _ => False) [⟨false, ao, 0, 1, 11, 0, [fun i => .int (f i)]⟩] (by simpa using h)) (fun v ch' w' hv hs => ⟨by rw [hv], hs.below⟩)
  clear h
  have hf := symB_el hsy
  have hsc : symB 11 (fun i => corW f i) 11 = true := symB_mk (fun i hi => cor_el hf hi) rfl
  have hsd : symB 8 (fun i => dat (fun i => corW f i) i) 8 = true := symB_mk (fun i hi => dat_el (fun i hi => cor_el hf hi) hi) rfl
  by_cases hc : corC f = 2
  · have hX : decX f = 0 := by unfold decX; rw [if_pos hc]
    have hb : (corC f == 2) = true := by rw [hc]; rfl
    repeat' (first
      | with_reducible exact rfl
      | exact True.intro
      | with_reducible assumption
      | with_reducible exact hsy
      | with_reducible exact hsc
      | with_reducible exact hsd
      | (intro h; exfalso; rw [hb] at h; cases h; done)
      | (show (_ : Value) = _; rw [hX]; try with_reducible rfl)
      | refine And.intro ?_ ?_
      | apply Exists.intro
      | (intro z hz; subst hz)
      | (intro h; exfalso; simp at h; done)
      | (intro h; exfalso; replace h := of_decide_eq_true h; omega)
      | (intro h; exfalso; replace h := of_decide_eq_false h; omega)
      | intro _
      | omega
      | exact rfl)
  · have hX : decX f = wordOf (dat (corW f)) := by unfold decX; rw [if_neg hc]
    have hb : (corC f == 2) = false := by simpa using hc
    repeat' (first
      | with_reducible exact rfl
      | exact True.intro
      | with_reducible assumption
      | with_reducible exact hsy
      | with_reducible exact hsc
      | with_reducible exact hsd
      | (intro h; exfalso; rw [hb] at h; cases h; done)
      | (show (_ : Value) = _; rw [hX]; try with_reducible rfl)
      | refine And.intro ?_ ?_
      | apply Exists.intro
      | (intro z hz; subst hz)
      | (intro h; exfalso; simp at h; done)
      | (intro h; exfalso; replace h := of_decide_eq_true h; omega)
      | (intro h; exfalso; replace h := of_decide_eq_false h; omega)
      | intro _
      | omega
      | exact rfl)
theorem sDec_I : SmOK Try.prog 70 sDec := by
  refine smB Try.call70 fun args ch k w X h0 hs => ?_
  unfold sDec at h0
  split at h0
  · obtain ⟨ao, n, c', g, e, hr, ⟨rfl, hsy⟩, h1⟩ := rdn_ok h0 hs
    refine ⟨_, h1, ?_⟩
    simp only [List.map_cons, List.map_nil, den_a, den_c, e]
    exact decI_any ao c' g w hr hsy
  · exact h0.elim
theorem decS_T (ao : Option Addr) (c : Nat) (f : Nat → Int) : (exFn Try.prog {tb := [(71, sCor), (73, sDat), (72, sWos)]} 400 Try.f59 ([.a (.c (.sl 0 ao 11 c))]) ([.row ⟨false, ao, 0, 1, 11, 0, [fun i => .int (f i)]⟩]) (fun v _ => v.den = .tuple #[.int .i64 (decX f), .int .i64 (corC f), .int .i64 (corP f)])) = (
  ∃ b : Nat→Int, (ao = ao∧11 = 11∧[fun d => Ci (f d)] = [fun d => Ci (b d)])∧(11 = 11∧(symB 11 b (11 : Int)) = true)∧∀(d : Option Addr) (g : Nat), (((corC b) == (2 : Int)) = true→(Wu [Wi 0, Wi (corC b), Wi (corP b)]) = (Wu [Wi (decX f), Wi (corC f), Wi (corP f)]))∧(((corC b) == (2 : Int)) = false→∃ h : Nat→Int, (d = d∧11 = 11∧11 = 11∧g = g∧[fun j => Ci (corW b j)] = [fun j => Ci (h j)]∧(symB 11 h (11 : Int)) = true)∧∀(j : Option Addr) (k : Nat), ∃ l : Nat→Int, (j = j∧8 = 8∧[fun m => Ci (dat h m)] = [fun m => Ci (l m)])∧(8 = 8∧(symB 8 l (8 : Int)) = true)∧(Wu [Wi (wordOf l), Wi (corC b), Wi (corP b)]) = (Wu [Wi (decX f), Wi (corC f), Wi (corP f)]))) := by kernel_rfl
theorem decS_any (ao : Option Addr) (c : Nat) (f : Nat → Int) (w : World) (h : Row.sat w ⟨false, ao, 0, 1, 11, 0, [fun i => .int (f i)]⟩) (hsy : symB 11 f 11 = true) : Calls Try.prog 59 #[.slice ao 11 c] w fun e w' => e = .returned (.tuple #[.int .i64 (decX f), .int .i64 (corC f), .int .i64 (corP f)]) ∧ Below w.heap.size w w' := by
  refine fn_ok mixed (E := {tb := [(71, sCor), (73, sDat), (72, sWos)]}) ⟨sCor_S, sDat_S, sWos_S, trivial⟩ Try.func59 (fun _ _ => loopsOK_nil _ _ _) (@Eq.mpr _ _ (decS_T ao c f) ?_) (HS.rows (fun _ => False) [⟨false, ao, 0, 1, 11, 0, [fun i => .int (f i)]⟩] (by simpa using h)) (fun v ch' w' hv hs => ⟨by rw [hv], hs.below⟩)
  clear h
  have hf := symB_el hsy
  have hsc : symB 11 (fun i => corW f i) 11 = true := symB_mk (fun i hi => cor_el hf hi) rfl
  have hsd : symB 8 (fun i => dat (fun i => corW f i) i) 8 = true := symB_mk (fun i hi => dat_el (fun i hi => cor_el hf hi) hi) rfl
  by_cases hc : corC f = 2
  · have hX : decX f = 0 := by unfold decX; rw [if_pos hc]
    have hb : (corC f == 2) = true := by rw [hc]; rfl
    repeat' (first
      | with_reducible exact rfl
      | exact True.intro
      | with_reducible assumption
      | with_reducible exact hsy
      | with_reducible exact hsc
      | with_reducible exact hsd
      | (intro h; exfalso; rw [hb] at h; cases h; done)
      | (show (_ : Value) = _; rw [hX]; try with_reducible rfl)
      | refine And.intro ?_ ?_
      | apply Exists.intro
      | (intro z hz; subst hz)
      | (intro h; exfalso; simp at h; done)
      | (intro h; exfalso; replace h := of_decide_eq_true h; omega)
      | (intro h; exfalso; replace h := of_decide_eq_false h; omega)
      | intro _
      | omega
      | exact rfl)
  · have hX : decX f = wordOf (dat (corW f)) := by unfold decX; rw [if_neg hc]
    have hb : (corC f == 2) = false := by simpa using hc
    repeat' (first
      | with_reducible exact rfl
      | exact True.intro
      | with_reducible assumption
      | with_reducible exact hsy
      | with_reducible exact hsc
      | with_reducible exact hsd
      | (intro h; exfalso; rw [hb] at h; cases h; done)
      | (show (_ : Value) = _; rw [hX]; try with_reducible rfl)
      | refine And.intro ?_ ?_
      | apply Exists.intro
      | (intro z hz; subst hz)
      | (intro h; exfalso; simp at h; done)
      | (intro h; exfalso; replace h := of_decide_eq_true h; omega)
      | (intro h; exfalso; replace h := of_decide_eq_false h; omega)
      | intro _
      | omega
      | exact rfl)
theorem sDec_S : SmOK Try.prog 59 sDec := by
  refine smB Try.call59 fun args ch k w X h0 hs => ?_
  unfold sDec at h0
  split at h0
  · obtain ⟨ao, n, c', g, e, hr, ⟨rfl, hsy⟩, h1⟩ := rdn_ok h0 hs
    refine ⟨_, h1, ?_⟩
    simp only [List.map_cons, List.map_nil, den_a, den_c, e]
    exact decS_any ao c' g w hr hsy
  · exact h0.elim
end Go.Proofs.Ytmgjmglmjfjliab
