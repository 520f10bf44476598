/-
  Cells loaded.
-/
import Derived.Test.YtmgjmglmjfjliabSxKA
import Derived.Test.YtmgjmglmjfjliabSxA3
namespace Go.Proofs.Ytmgjmglmjfjliab
set_option linter.unusedVariables false
set_option linter.unusedSimpArgs false
open Go.RowKit
set_option maxRecDepth 100000
set_option maxHeartbeats 1000000

def setA (x : AD) (k m : Nat) (f : Nat → Int) (b : Bool) : AD := ⟨⟨x.c.n, fun i => if i = k then m else x.c.sn i, fun i q => if i = k then f q else x.c.sy i q, fun i => if i = k then b else x.c.po i⟩, x.aN, x.ag, x.hN, x.hg⟩
def storedCh (x : AD) (k m : Nat) (f : Nat → Int) (b : Bool) (O A H : Option Addr) (C D E : Nat) (so : Nat → Option Addr) (sc : Nat → Nat) (ro : Option Addr) (rc : Nat) : List Ch := [.row ⟨true, O, 61, 2, x.c.n, C, [fun i => .val (selV i k (.slice ro m rc) (.slice (so i) (x.c.sn i) (sc i))), fun i => .bool (selB i k b (x.c.po i))]⟩, .row ⟨true, A, 3, 1, x.aN, D, [fun i => .int (x.ag i)]⟩, .row ⟨true, H, 3, 1, x.hN, E, [fun i => .int (x.hg i)]⟩, .obj true (symRows true 3 x.c so sc), .row ⟨true, ro, 3, 1, m, rc, [fun i => .int (f i)]⟩]
theorem HS.stored {X : Cx} {w : World} {x : AD} {k m : Nat} {f : Nat → Int} {b : Bool} {O A H : Option Addr} {C D E : Nat} {so : Nat → Option Addr} {sc : Nat → Nat} {ro : Option Addr} {rc : Nat} (h : HS X (storedCh x k m f b O A H C D E so sc ro rc) w) :
    HS X (arrO 0 (setA x k m f b) O A H C D E (fun i => if i = k then ro else so i) (fun i => if i = k then rc else sc i)) w := by
  have h2 := (h.nestSet 3 4 k rfl rfl rfl (by decide)).sel [0, 1, 2, 3] (by simp)
  refine h2.reS ⟨⟨rfl, rfl, rfl, rfl, rfl, rfl, fun i hi => ?_, fun i hi => ?_, trivial⟩, ⟨rfl, rfl, rfl, rfl, rfl, rfl, fun i hi => rfl, trivial⟩, ⟨rfl, rfl, rfl, rfl, rfl, rfl, fun i hi => rfl, trivial⟩, ⟨rfl, ?_⟩, trivial⟩
  · simp only [SC.den, setA, selV]
    split <;> rfl
  · simp only [SC.den, setA, selB]
  · rw [symRows_set]
    exact symRows_congr rfl fun i hi => rfl
def idsSt (v : SV) (ch : List Ch) : List Nat :=
  match v with
  | .a (.agg [a, b, c]) => [idA a 1000000, idA b 1000001, idA c 1000002, idA c 1000002 + 1, ch.length - 1]
  | .tup (.agg [a, b, c] :: _) => [idA a 1000000, idA b 1000001, idA c 1000002, idA c 1000002 + 1, ch.length - 1]
  | _ => []
theorem arrOk_facts {G B R K : Int} {x : AD} (h : arrOk G B R K x = true) : geoB G B R K = true ∧ (x.c.n : Int) = lineN G B R K ∧ (x.aN : Int) = bankN G B R K * R ∧ x.hN = x.aN ∧ ∀ i, i < x.c.n → symB (x.c.sn i) (x.c.sy i) 11 = true := by
  simp only [arrOk, Bool.and_eq_true, ieq] at h
  obtain ⟨⟨⟨⟨⟨h1, h2⟩, h3⟩, h4⟩, h5⟩, h6⟩ := h
  exact ⟨h1, eq_of_beq h2, eq_of_beq h3, by have := eq_of_beq h4; omega, fun i hi => allB_get h5 hi⟩
theorem symB_n {n : Nat} {g : Nat → Int} {m : Int} (h : symB n g m = true) : (n : Int) = m := by
  simp only [symB, Bool.and_eq_true, ieq] at h
  exact eq_of_beq h.2
theorem arr_in {G B R K y z q : Int} {x : AD} (h : arrOk G B R K x = true) (h2 : adOk G B R K y z q = true) : 0 ≤ adIx G B R K y z q ∧ adIx G B R K y z q < (x.c.n : Int) ∧ (adIx G B R K y z q).toNat < x.c.n := by
  have h3 := (arrOk_facts h).2.1
  have h4 := adIx_lt h2
  omega
theorem lenA_of {x : AD} (h : capA x) : lenA x := ⟨by have := h.1; omega, by have := h.2.1; omega, by have := h.2.2.1; omega, fun i hi => by have := h.2.2.2 i hi; omega⟩
def ixN (gG gB gR gC : Int) (dB dR dC : Int) : Nat := (adIx gG gB gR gC dB dR dC).toNat
theorem ld_T (x : AD) (O A H : Option Addr) (C D E : Nat) (so : Nat → Option Addr) (sc : Nat → Nat) (gG gB gR gC : Int) (dB dR dC : Int) : (exFn Try.prog {tb := [(24, sArrOk), (42, sAdOk), (57, sAdIx), (55, sCpC)]} 400 Try.f29 ([.a (.agg [.int gG, .int gB, .int gR, .int gC]), .a (arrS 0 x O A H C D E), .a (.agg [.int dB, .int dR, .int dC])]) (arrR 0 x O A H so sc) (fun v ch => ∃ (ro : Option Addr) (rc : Nat), OutR v ch (.tuple #[.agg #[.slice ro (x.c.sn (ixN gG gB gR gC dB dR dC)) rc, .bool (x.c.po (ixN gG gB gR gC dB dR dC))], .bool true]) [.row ⟨true, ro, 3, 1, x.c.sn (ixN gG gB gR gC dB dR dC), rc, [fun i => .int (x.c.sy (ixN gG gB gR gC dB dR dC) i)]⟩])) = (
  (fun b : Nat => (fun d : Int => (fun g : Bool => (fun h : List Row => (fun j : Value => (fun k : Nat => (fun l : Prop => ∀ m n o p : Nat, m = m∧n = n∧∃(q : Nat) (r : CD) (s : Nat→Option Addr) (t u : Nat→Nat) (w y : Nat→Int), (fun z : Bool => (h = (symRows false q r s u)∧[fun B => Cs 3 (so B) (x.1.2 B) (sc B), fun B => Cb (x.1.4 B)] = [fun B => Cs 3 (s B) (r.2 B) (t B), fun B => Cb (r.4 B)]∧O = O∧x.1.1 = x.1.1∧x.1.1 = r.1∧A = A∧x.2 = x.2∧[fun B => Ci (x.3 B)] = [fun B => Ci (w B)]∧H = H∧x.4 = x.4∧[fun B => Ci (x.5 B)] = [fun B => Ci (y B)])∧lenA (AD.mk r x.2 w x.4 y)∧(z = false→m = m∧o = o∧(g = true→p = p∧p = p∧l)∧(g = false→n = n∧m = m∧o = o∧True∧O = O∧x.1.1 = x.1.1∧(0 ≤ d∧d < ((x.1.1 : Nat) : Int))∧O = O∧k < x.1.1∧∃(B : Nat) (F : CD) (G : Nat→Option Addr) (I : Nat→Nat) (J : Nat), (h = (symRows false B F G I)∧(so k) = (G J)∧(x.1.2 k) = (F.2 J)∧J < F.1)∧capC (x.1.2 k)∧∀(K : Option Addr) (L : Nat), True∧p = p∧True∧p = p∧∃(M : Option Addr) (N : Nat), (Wu [Wa [Ws K (x.1.2 k) L, Wb (x.1.4 k)], Wb true]) = (Wu [Wa [Ws M (x.1.2 b) N, j], Wb true])∧((true = true∧K = M∧3 = 3∧1 = 1∧(x.1.2 k) = (x.1.2 b)∧L = N∧(∀ P : Nat, P < (x.1.2 k)→(Wi (F.3 J P)) = (Wi (x.1.3 b P)))∧True)∧True)∧true = true))∧(z = true→p = p∧p = p∧l)) (! (arrOk gG gB gR gC (AD.mk r x.2 w x.4 y)))) (∃(l : Option Addr) (m : Nat), (Wu [Wa [Wn, Wb false], Wb false]) = (Wu [Wa [Ws l (x.1.2 b) m, j], Wb true])∧((true = true∧(none : Option Addr) = l∧0 = (x.1.2 b)∧0 = m∧true = true)∧True)∧true = true)) (Int.toNat d)) (Wb (x.1.4 b))) (symRows false 0 x.1 so (fun h => 0))) (! (adOk gG gB gR gC dB dR dC))) (adIx gG gB gR gC dB dR dC)) (ixN gG gB gR gC dB dR dC)) := by kernel_rfl
theorem ld_any (x : AD) (O A H : Option Addr) (C D E : Nat) (so : Nat → Option Addr) (sc : Nat → Nat) (gG gB gR gC : Int) (dB dR dC : Int) (w : World) (hA : SeenA w x O A H so sc) (hcap : capA x) (hok : arrOk gG gB gR gC x = true) (had : adOk gG gB gR gC dB dR dC = true) : Calls Try.prog 29 #[.agg #[.int .i64 gG, .int .i64 gB, .int .i64 gR, .int .i64 gC], arrV x O A H C D E, .agg #[.int .i64 dB, .int .i64 dR, .int .i64 dC]] w fun e w' => ∃ (ro : Option Addr) (rc : Nat), e = .returned (.tuple #[.agg #[.slice ro (x.c.sn (ixN gG gB gR gC dB dR dC)) rc, .bool (x.c.po (ixN gG gB gR gC dB dR dC))], .bool true]) ∧ HS ⟨w, fun _ => False⟩ [.row ⟨true, ro, 3, 1, x.c.sn (ixN gG gB gR gC dB dR dC), rc, [fun i => .int (x.c.sy (ixN gG gB gR gC dB dR dC) i)]⟩] w' := by
  refine fnB (tb := [(24, sArrOk), (42, sAdOk), (57, sAdIx), (55, sCpC)]) ⟨sArrOk_I, sAdOk_I, sAdIx_I, sCpC_I, trivial⟩ Try.func29 (@Eq.mpr _ _ (ld_T x O A H C D E so sc gG gB gR gC dB dR dC) ?_) (HS.seenAll (fun _ => False) _ (hA.all 0 seenC_nil)) (fun v ch' w' ⟨ro, rc, hk⟩ hs => ⟨ro, rc, by rw [hk.1], hk.hs hs⟩)
  clear hA
  have hl := lenA_of hcap
  have hin := arr_in hok had
  have hi1 := hin.1
  have hi2 := hin.2.1
  have hi3 : ltN (tn (adIx gG gB gR gC dB dR dC)) x.c.n := hin.2.2
  have hcp : capC (x.c.sn (adIx gG gB gR gC dB dR dC).toNat) := hcap.2.2.2 _ hin.2.2
  repeat' (first
    | with_reducible exact rfl
    | exact True.intro
    | with_reducible assumption
    | exact hl
    | (intro h; exfalso; rw [hok] at h; simp at h; done)
    | (intro h; exfalso; rw [had] at h; simp at h; done)
    | (refine ⟨_, _, _, _, _, ⟨rfl, rfl, rfl, ?_⟩, ?_⟩)
    | refine And.intro ?_ ?_
    | apply Exists.intro
    | (intro h; exfalso; simp at h; done)
    | (intro h; replace h := of_decide_eq_true h; first | (exfalso; omega) | skip)
    | (intro h; replace h := of_decide_eq_false h; first | (exfalso; omega) | skip)
    | (intro i hi; with_reducible exact rfl)
    | intro _
    | omega
    | exact rfl)
def sLd : Sm := fun args ch kk =>
  match args with
  | [.a (.agg [c0, c1, c2, c3]), .a c, .a (.agg [e0, e1, e2])] =>
    match ints [c0, c1, c2, c3, e0, e1, e2] with
    | some [gG, gB, gR, gC, dB, dR, dC] => rdA ch c fun x => (capA x ∧ arrOk gG gB gR gC x = true ∧ adOk gG gB gR gC dB dR dC = true) ∧ ∀ (ro : Option Addr) (rc : Nat), kk (.tup [.agg [.sl ch.length ro (x.c.sn (ixN gG gB gR gC dB dR dC)) rc, .bool (x.c.po (ixN gG gB gR gC dB dR dC))], .c (.lit true)]) (ch ++ [.row ⟨true, ro, 3, 1, x.c.sn (ixN gG gB gR gC dB dR dC), rc, [fun i => .int (x.c.sy (ixN gG gB gR gC dB dR dC) i)]⟩]) []
    | _ => False
  | _ => False
theorem sLd_ok : SmOK Try.prog 29 sLd := by
  refine smN Try.call29 fun args ch kk w X h0 hs => ?_
  unfold sLd at h0
  split at h0
  · rename_i c0 c1 c2 c3 c e0 e1 e2
    split at h0
    · rename_i gG gB gR gC dB dR dC hi
      obtain ⟨q0, hi⟩ := ints_cons hi
      obtain ⟨q1, hi⟩ := ints_cons hi
      obtain ⟨q2, hi⟩ := ints_cons hi
      obtain ⟨q3, hi⟩ := ints_cons hi
      obtain ⟨q4, hi⟩ := ints_cons hi
      obtain ⟨q5, hi⟩ := ints_cons hi
      obtain ⟨q6, hi⟩ := ints_cons hi
      obtain ⟨x, O, A, H, C, D, E, so, sc, e, hA, ⟨hc, hok, had⟩, h1⟩ := rdA_ok h0 hs
      have e8 : SA.den (.agg [c0, c1, c2, c3]) = .agg #[.int .i64 gG, .int .i64 gB, .int .i64 gR, .int .i64 gC] := by simp only [SA.den, List.map_cons, List.map_nil, q0, q1, q2, q3]
      have e9 : SA.den (.agg [e0, e1, e2]) = .agg #[.int .i64 dB, .int .i64 dR, .int .i64 dC] := by simp only [SA.den, List.map_cons, List.map_nil, q4, q5, q6]
      simp only [List.map_cons, List.map_nil, den_a, e, e8, e9]
      refine Calls.mono (ld_any x O A H C D E so sc gG gB gR gC dB dR dC w hA hc hok had) fun e w' ⟨ro, rc, he, hs'⟩ => ⟨.tup [.agg [.sl ch.length ro (x.c.sn (ixN gG gB gR gC dB dR dC)) rc, .bool (x.c.po (ixN gG gB gR gC dB dR dC))], .c (.lit true)], _, by rw [he]; rfl, hs', rfl, h1 ro rc⟩
    · exact h0.elim
  · exact h0.elim
end Go.Proofs.Ytmgjmglmjfjliab
