/-
  Cells alone. One cell: made, compared; inner lists marked, held. Arrays made. Arrays compared. Cells marked. Arrays marked, held, sized. Arrays as objects.
-/
import Derived.Test.YtddeinpnadfgmaaSxSlA
import Derived.Test.YtddeinpnadfgmaaSxA3
import Derived.Test.YtddeinpnadfgmaaSxO
import Derived.Test.YtddeinpnadfgmaaSxOpen
namespace Go.Proofs.Ytddeinpnadfgmaa
set_option linter.unusedVariables false
set_option linter.unusedSimpArgs false
open Go.RowKit
set_option maxRecDepth 100000
set_option maxHeartbeats 8000000

/-! Cells alone. -/
structure SeenC (w : World) (x : CD) (O : Option Addr) (so : Nat → Option Addr) (sc : Nat → Nat) : Prop where
  h0 : ∀ id, Row.sat w ⟨false, O, 0, 2, x.n, 0, cellFld id x so sc⟩
  h3 : ∀ r ∈ symRows false 0 x so (fun _ => 0), r.own = false ∧ r.sat w
theorem SeenC.all {w : World} {x : CD} {O : Option Addr} {so : Nat → Option Addr} {sc : Nat → Nat} (h : SeenC w x O so sc) (b : Nat) {cs : List Ch} (hc : ∀ c ∈ cs, c.own = false ∧ c.sat w) : ∀ c ∈ [Ch.row ⟨false, O, 0, 2, x.n, 0, cellFld b x so sc⟩, .obj false (symRows false 0 x so (fun _ => 0))] ++ cs, c.own = false ∧ c.sat w :=
  seenC_row rfl (h.h0 _) (seenC_obj h.h3 hc)
def rdK (ch : List Ch) (c : SC) (K : CD → Prop) : Prop :=
  match c with
  | .sl i0 a0 n0 _ =>
    match ch[i0]? with
    | some (.row r0) =>
      match ch[nidOf r0.fld]? with
      | some (.obj o rs) => ∃ (t : Nat) (y : CD) (so : Nat → Option Addr) (sc sd : Nat → Nat), (rs = symRows o t y so sd ∧ r0.fld = cellFld (nidOf r0.fld) y so sc ∧ a0 = r0.ao ∧ n0 = r0.n ∧ n0 = y.n) ∧ K y
      | _ => False
    | _ => False
  | _ => False
theorem rdK_ok {ch : List Ch} {c : SC} {K : CD → Prop} (h : rdK ch c K) {X : Cx} {w : World} (hs : HS X ch w) : ∃ (x : CD) (O : Option Addr) (C : Nat) (so : Nat → Option Addr) (sc : Nat → Nat), c.den = .slice O x.n C ∧ SeenC w x O so sc ∧ K x := by
  unfold rdK at h
  split at h
  · rename_i i0 a0 n0 c0
    split at h
    · rename_i r0 h0
      split at h
      · rename_i o rs h3
        obtain ⟨t, y, so, sc, sd, ⟨rfl, f0, rfl, rfl, hn⟩, hk⟩ := h
        refine ⟨y, r0.ao, c0, so, sc, by rw [← hn]; rfl, ⟨fun id' => ?_, symRows_seen fun r hr => (hs.seeObj h3 r hr).2⟩, hk⟩
        have := seenAs' (hs.sat i0 _ h0) f0 rfl
        rw [hn] at this
        exact Row.reF this ⟨fun i hi => rfl, fun i hi => rfl, trivial⟩
      · exact h.elim
    · exact h.elim
  · exact h.elim
def totN (sn : Nat → Nat) : Nat → Nat
  | 0 => 0
  | i + 1 => totN sn i + sn i + 1
def kAt (k : Int) (sn : Nat → Nat) (i : Nat) : Int := k + (totN sn i : Int)
def mkPo (k : Int) (sn : Nat → Nat) (i : Nat) : Bool := ieq (imod (mk (kAt k sn i) 1 0 (sn i)) 3) 0
def markCD (k : Int) (x : CD) : CD := ⟨x.n, x.sn, fun i q => mk (kAt k x.sn i) 1 0 q, mkPo k x.sn⟩
abbrev capK (x : CD) : Prop := totN x.sn x.n ≤ 2097152
theorem totN_le {sn : Nat → Nat} {i j : Nat} (h : i ≤ j) : totN sn i ≤ totN sn j := by
  induction j with
  | zero => have : i = 0 := by omega
            subst this; exact Nat.le_refl _
  | succ j ih =>
    by_cases e : i = j + 1
    · subst e; exact Nat.le_refl _
    · have := ih (by omega)
      simp only [totN]
      omega
theorem totN_n {sn : Nat → Nat} : ∀ n : Nat, n ≤ totN sn n := fun n => by
  induction n with
  | zero => exact Nat.zero_le _
  | succ n ih => simp only [totN]; omega
theorem totN_sn {sn : Nat → Nat} {i n : Nat} (h : i < n) : totN sn i + sn i + 1 ≤ totN sn n := totN_le (i := i + 1) h
theorem kAt_next {k : Int} {sn : Nat → Nat} {j : Nat} : mk (kAt k sn j) 1 0 (sn j) + 1 = kAt k sn (j + 1) := by
  simp only [mk, kAt, totN]
  omega
theorem kAt_in {k : Int} {sn : Nat → Nat} {j n : Nat} (hj : j ≤ n) (h : totN sn n ≤ 2097152) (h0 : 0 ≤ k ∧ k ≤ 1099509530624) : 0 ≤ kAt k sn j ∧ kAt k sn j ≤ 1099511627776 := by
  have := totN_le (sn := sn) hj
  simp only [kAt]
  omega

theorem toc_T (cSymbolsO : Option Addr) (cSymbolsN cSymbolsC : Nat) (cSymbolsg0 : Nat → Int) (cPoison : Bool) : (exFn Try.prog {tb := [(51, sToIntS)]} 400 Try.f66 ([.a (.agg [.sl 0 cSymbolsO cSymbolsN cSymbolsC, .bool cPoison])]) ([.row ⟨false, cSymbolsO, 0, 1, cSymbolsN, 0, [fun i => .int (cSymbolsg0 i)]⟩]) (fun v ch => ∃ (ro0 : Option Addr) (rc0 : Nat), OutR v ch (.agg #[.slice ro0 (cSymbolsN) rc0, .bool (cPoison)]) [.row ⟨true, ro0, 3, 1, cSymbolsN, rc0, [fun i => .int (cSymbolsg0 i)]⟩])) = (
  (∀ b0 : Nat,
 (∀ b1 : Nat,
 (∀ b2 : Nat,
 (b0 = b0 ∧
 (∃ g03 : (Nat →
 Int), ((cSymbolsO = cSymbolsO ∧
 (cSymbolsN = cSymbolsN ∧
 ([(fun i4 => (Ci (cSymbolsg0 i4)))] = [(fun i5 => (Ci (g03 i5)))] ∧
 (capC cSymbolsN)))) ∧
 (∀ b6 : Nat,
 (b2 = b2 ∧
 (b0 = b0 ∧
 (b2 = b2 ∧
 (b2 = b2 ∧
 (b1 = b1 ∧
 (b1 = b1 ∧
 (∃ ro07 : (Option Addr), (∃ rc08 : Nat, ((Wa [(Ws (Ad b6 0) cSymbolsN cSymbolsN), (Wb cPoison)]) = (Wa [(Ws ro07 cSymbolsN rc08), (Wb cPoison)]) ∧
 (((true = true ∧
 ((Ad b6 0) = ro07 ∧
 (3 = 3 ∧
 (1 = 1 ∧
 (cSymbolsN = cSymbolsN ∧
 (cSymbolsN = rc08 ∧
 ((∀ i9 : Nat,
 (i9 < cSymbolsN →
 (Wi (g03 i9)) = (Wi (cSymbolsg0 i9)))) ∧
 True))))))) ∧
 True) ∧
 true = true)))))))))))))))))) := by kernel_rfl
theorem toc_any (cSymbolsO : Option Addr) (cSymbolsN cSymbolsC : Nat) (cSymbolsg0 : Nat → Int) (cPoison : Bool) (w : World) (hrcSymbols : Row.sat w ⟨false, cSymbolsO, 0, 1, cSymbolsN, 0, [fun i => .int (cSymbolsg0 i)]⟩) (hpre : capC cSymbolsN) : Calls Try.prog 66 #[.agg #[.slice cSymbolsO cSymbolsN cSymbolsC, .bool cPoison]] w fun e w' => ∃ (ro0 : Option Addr) (rc0 : Nat), e = .returned (.agg #[.slice ro0 (cSymbolsN) rc0, .bool (cPoison)]) ∧ HS ⟨w, fun _ => False⟩ [.row ⟨true, ro0, 3, 1, cSymbolsN, rc0, [fun i => .int (cSymbolsg0 i)]⟩] w' := by
  refine fnB (tb := [(51, sToIntS)]) ⟨sToIntS_ok, trivial⟩ Try.func66 (@Eq.mpr _ _ (toc_T cSymbolsO cSymbolsN cSymbolsC cSymbolsg0 cPoison) ?_) (HS.rows (fun _ => False) [⟨false, cSymbolsO, 0, 1, cSymbolsN, 0, [fun i => .int (cSymbolsg0 i)]⟩] (by simp; exact hrcSymbols)) (fun v ch' w' ⟨ro0, rc0, hk⟩ hs => ⟨ro0, rc0, by rw [hk.1], hk.hs hs⟩)
  clear hrcSymbols
  repeat' (first
    | exact rfl
    | exact True.intro
    | refine And.intro ?_ ?_
    | apply Exists.intro
    | assumption
    | omega
    | intro _)
def sToC : Sm := fun args ch kk =>
  match args with
  | [.a c] => rdC ch c fun n g b => capC n ∧ ∀ (ro : Option Addr) (rc : Nat), kk (.a (.agg [.sl ch.length ro n rc, .bool b])) (ch ++ [.row ⟨true, ro, 3, 1, n, rc, [fun i => .int (g i)]⟩]) []
  | _ => False
theorem sToC_ok : SmOK Try.prog 66 sToC := by
  refine smN Try.call66 fun args ch kk w X h0 hs => ?_
  unfold sToC at h0
  split at h0
  · obtain ⟨ao, n, c', g, b, e, hr, hn, h0⟩ := rdC_ok h0 hs
    refine Calls.mono (?_ : Calls Try.prog 66 _ w (fun e w' => ∃ (ro0 : Option Addr) (rc0 : Nat), e = .returned (.agg #[.slice ro0 n rc0, .bool b]) ∧ HS ⟨w, fun _ => False⟩ [.row ⟨true, ro0, 3, 1, n, rc0, [fun i => .int (g i)]⟩] w')) (fun e w' ⟨ro0, rc0, he, hs'⟩ => ⟨_, _, ?_, hs', rfl, h0 ro0 rc0⟩)
    · simp only [List.map_cons, List.map_nil, den_a, e]
      exact toc_any ao n c' g b w hr hn
    · rw [he]
      rfl
  · exact h0.elim
theorem eqc_T (ao bo : Option Addr) (n c d : Nat) (g q : Nat → Int) (b : Bool) : (exFn Try.prog {tb := [(57, sEqIntS)]} 400 Try.f72 ([.a (.agg [.sl 0 ao n c, .bool b]), .a (.agg [.sl 1 bo n d, .bool b])]) ([.row ⟨false, ao, 0, 1, n, 0, [fun i => .int (g i)]⟩, .row ⟨false, bo, 0, 1, n, 0, [fun i => .int (q i)]⟩]) (fun v _ => v.den = .bool true)) = (
  (∀ b0 : Nat,
 (∀ b1 : Nat,
 (b0 = b0 ∧
 (b1 = b1 ∧
 (∃ g02 : (Nat →
 Int), (∃ q03 : (Nat →
 Int), ((ao = ao ∧
 (n = n ∧
 ([(fun i4 => (Ci (g i4)))] = [(fun i5 => (Ci (g02 i5)))] ∧
 (bo = bo ∧
 (n = n ∧
 ([(fun i6 => (Ci (q i6)))] = [(fun i7 => (Ci (q03 i7)))] ∧
 (n = n ∧
 (capC n)))))))) ∧
 ((∀ i8 : Nat,
 (i8 < n →
 (g02 i8) = (q03 i8))) ∧
 (b0 = b0 ∧
 (b1 = b1 ∧
 (((b != b) = true →
 (Wb false) = (Wb true)) ∧
 ((b != b) = false →
 (Wb true) = (Wb true)))))))))))))) := by kernel_rfl
theorem eqc_any (ao bo : Option Addr) (n c d : Nat) (g q : Nat → Int) (b : Bool) (w : World) (h1 : Row.sat w ⟨false, ao, 0, 1, n, 0, [fun i => .int (g i)]⟩) (h2 : Row.sat w ⟨false, bo, 0, 1, n, 0, [fun i => .int (q i)]⟩) (hn : n ≤ 2097152) (hgq : ∀ i, i < n → g i = q i) : Calls Try.prog 72 #[.agg #[.slice ao n c, .bool b], .agg #[.slice bo n d, .bool b]] w fun e w' => e = .returned (.bool true) ∧ Below w.heap.size w w' := by
  have e : Row.sat w ⟨false, bo, 0, 1, n, 0, [fun i => .int (g i)]⟩ := Row.reF h2 ⟨fun i hi => congrArg (Value.int .i64) (hgq i hi).symm, trivial⟩
  refine fnB (tb := [(57, sEqIntS)]) ⟨sEqIntS_ok, trivial⟩ Try.func72 (@Eq.mpr _ _ (eqc_T ao bo n c d g g b) ?_) (HS.rows (fun _ => False) [⟨false, ao, 0, 1, n, 0, [fun i => .int (g i)]⟩, ⟨false, bo, 0, 1, n, 0, [fun i => .int (g i)]⟩] (by simp; exact ⟨h1, e⟩)) (fun v ch' w' hk hs => ⟨by rw [hk], hs.below⟩)
  clear h1 h2 e
  repeat' (first
    | exact rfl
    | exact True.intro
    | assumption
    | refine And.intro ?_ ?_
    | apply Exists.intro
    | omega
    | (intro h; exfalso; simp at h; done)
    | (intro h; exfalso; simp at h; omega)
    | intro _)
abbrev allEq (n : Nat) (g q : Nat → Int) : Prop := ∀ i, i < n → g i = q i
def sEqC : Sm := fun args ch kk =>
  match args with
  | [.a c, .a d] => rdC ch c fun n g b => rdC ch d fun m q b' => (m = n ∧ b' = b ∧ capC n ∧ allEq n g q) ∧ kk (.a (.c (.lit true))) ch []
  | _ => False
theorem sEqC_ok : SmOK Try.prog 72 sEqC := by
  refine smB Try.call72 fun args ch kk w X h0 hs => ?_
  unfold sEqC at h0
  split at h0
  · obtain ⟨ao, n, c', g, b, e, hr, h0⟩ := rdC_ok h0 hs
    obtain ⟨bo, m, d', q, b', e2, hr2, ⟨rfl, rfl, hn, hgq⟩, h9⟩ := rdC_ok h0 hs
    refine ⟨_, h9, ?_⟩
    simp only [List.map_cons, List.map_nil, den_a, e, e2]
    exact eqc_any ao bo _ c' d' g q _ w hr hr2 hn hgq
  · exact h0.elim
/-! The inner lists: marked, held. -/
theorem symRows_mark {o : Bool} {t : Nat} {x : CD} {so : Nat → Option Addr} {sc : Nat → Nat} {k : Nat} {f : Nat → Int} :
    (symRows o t x so sc).set k ⟨o, so k, t, 1, x.sn k, sc k, [fun q => .int (f q)]⟩ = symRows o t ⟨x.n, x.sn, fun i q => if i = k then f q else x.sy i q, x.po⟩ so sc := by
  rw [symRows_set]
  refine symRows_congr rfl fun i _ => ?_
  simp only [symRow]
  congr 1
  · split <;> simp_all
  · split <;> simp_all
  · split <;> simp_all
def sMarkN : Sm := fun args ch kk =>
  match args with
  | [.a (.c (.sl id ao n _)), .a (.c kc)] =>
    match ch[id]?, asI kc with
    | some (.obj true rs), some k0 => ∃ (t : Nat) (y : CD) (so : Nat → Option Addr) (sc : Nat → Nat) (i : Nat), (rs = symRows true t y so sc ∧ ao = so i ∧ n = y.sn i ∧ ltN i y.n ∧ markC n k0) ∧ kk (.a (.c (.int (mk k0 1 0 n)))) (ch.set id (.obj true (symRows true t ⟨y.n, y.sn, fun a q => selI a i (mk k0 1 0 q) (y.sy a q), y.po⟩ so sc))) [id]
    | _, _ => False
  | _ => False
theorem sMarkN_ok : SmOK Try.prog 59 sMarkN := by
  refine ⟨Try.call59, fun X args ch kk w h0 hs => ?_⟩
  unfold sMarkN at h0
  split at h0
  · rename_i id ao n cap kc
    split at h0
    · rename_i rs k0 hid hkc
      obtain ⟨t, y, so, sc, i, ⟨rfl, rfl, rfl, hi, hn⟩, h0⟩ := h0
      have hr := (hs.seeObj hid _ (symRows_mem hi)).2
      simp only [List.map_cons, List.map_nil, den_a, den_c, asI_den hkc]
      refine Calls.mono (markIntS_any (so i) t (y.sn i) (sc i) cap (y.sy i) k0 w hn hr) fun e w' ⟨he, hs'⟩ => ⟨.a (.c (.int (mk k0 1 0 (y.sn i)))), _, [id], he, ?_, Agree.set _ _ _, h0⟩
      have := hs.nestTurn hid (symRows_get hi) hs' rfl (fun b hb => hb)
      rw [symRows_mark] at this
      exact this
    · exact h0.elim
  · exact h0.elim
def sHeldN : Sm := fun args ch kk =>
  match args with
  | [.a (.c c), .a (.c kc)] =>
    match asI kc with
    | some k0 => rdn ch c fun n g => (markC n k0 ∧ allEq n g (fun q => mk k0 1 0 q)) ∧ kk (.a (.c (.int (mk k0 1 0 n)))) ch []
    | none => False
  | _ => False
theorem sHeldN_ok : SmOK Try.prog 61 sHeldN := by
  refine smB Try.call61 fun args ch kk w X h0 hs => ?_
  unfold sHeldN at h0
  split at h0
  · split at h0
    · rename_i k0 hkc
      obtain ⟨ao, n, c', g, e, hr, ⟨hn, hg⟩, h0⟩ := rdn_ok h0 hs
      refine ⟨_, h0, ?_⟩
      simp only [List.map_cons, List.map_nil, den_a, den_c, e, asI_den hkc]
      exact heldIntS_any ao n c' k0 w hn (Row.reF hr ⟨fun i hi => congrArg (Value.int .i64) (hg i hi), trivial⟩)
    · exact h0.elim
  · exact h0.elim

def tcH (x : CD) (O : Option Addr) (C : Nat) (so : Nat → Option Addr) (sc : Nat → Nat) (bm : Nat) (i : SC) (g : Nat → Value) : List SV := [.a (.c (.sl 0 O x.n C)), .a (.c (.val (g 1))), .a (.c (.val (g 2))), .a (.c (.sl 2 (some ⟨bm, 0, none⟩) x.n x.n)), .a (.c i), .a (.c (.val (g 5))), .a (.c (.val (g 6))), .a (.c (.val (g 7))), .a (.c (.val (g 8))), .a (.c (.val (g 9))), .a (.c (.val (g 10))), .a (.c (.val (g 11))), .a (.c (.val (g 12))), .a (.c (.val (g 13))), .a (.c (.val (g 14))), .a (.c (.val (g 15))), .a (.c (.val (g 16))), .a (.c (.val (g 17))), .a (.c (.val (g 18))), .a (.c (.val (g 19))), .a (.c (.val (g 20))), .a (.c (.val (g 21))), .a (.c (.val (g 22)))]
def tcT (x : CD) (O : Option Addr) (C : Nat) (so : Nat → Option Addr) (sc : Nat → Nat) (bm : Nat) (j : Nat) (soq : Nat → Option Addr) (scq : Nat → Nat) : List Ch := [.row ⟨false, O, 0, 2, x.n, 0, cellFld 1 x so sc⟩, .obj false (symRows false 0 x so (fun _ => 0)), .row ⟨true, some ⟨bm, 0, none⟩, 52, 2, x.n, x.n, [fun i => .val (lowV i j (.slice (soq i) (x.sn i) (scq i)) (.slice none 0 0)), fun i => .bool (lowB i j (x.po i) false)]⟩, .obj true (symRows true 3 ⟨j, x.sn, x.sy, x.po⟩ soq scq)]
def tcE (x : CD) (O : Option Addr) (C : Nat) (so : Nat → Option Addr) (sc : Nat → Nat) (bm : Nat) (soq : Nat → Option Addr) (scq : Nat → Nat) : List Ch := [.row ⟨false, O, 0, 2, x.n, 0, cellFld 1 x so sc⟩, .obj false (symRows false 0 x so (fun _ => 0)), .row ⟨true, some ⟨bm, 0, none⟩, 52, 2, x.n, x.n, cellFld 3 x soq scq⟩, .obj true (symRows true 3 x soq scq)]
theorem st_hd {j : Nat} {sn scq : Nat → Nat} {soq : Nat → Option Addr} {ro : Option Addr} {rc n : Nat} : ∀ i, ltN i n → (SC.val (if i = j then Value.slice ro (sn j) rc else if i < j then Value.slice (soq i) (sn i) (scq i) else Value.slice none 0 0)).den = (SC.val (if i < j + 1 then Value.slice (if i < j then soq i else ro) (sn i) (if i < j then scq i else rc) else Value.slice none 0 0)).den := fun i hi => by
  by_cases h1 : i < j
  · have h2 : ¬ i = j := by omega
    have h3 : i < j + 1 := by omega
    simp [SC.den, h1, h2, h3]
  · by_cases h2 : i = j
    · subst h2
      simp [SC.den]
    · have h3 : ¬ i < j + 1 := by omega
      simp [SC.den, h1, h2, h3]
theorem st_po {j : Nat} {po : Nat → Bool} {n : Nat} : ∀ i, ltN i n → (SC.bool (if i = j then po j else if i < j then po i else false)).den = (SC.bool (if i < j + 1 then po i else false)).den := fun i hi => by
  by_cases h1 : i < j
  · have h2 : ¬ i = j := by omega
    have h3 : i < j + 1 := by omega
    simp [SC.den, h1, h2, h3]
  · by_cases h2 : i = j
    · subst h2
      simp [SC.den]
    · have h3 : ¬ i < j + 1 := by omega
      simp [SC.den, h1, h2, h3]
theorem low_hd {sn scq : Nat → Nat} {soq : Nat → Option Addr} {n id : Nat} : ∀ i, ltN i n → (SC.val (if i < n then Value.slice (soq i) (sn i) (scq i) else Value.slice none 0 0)).den = (SC.sl id (soq i) (sn i) (scq i)).den := fun i hi => by
  have h1 : i < n := hi
  simp [SC.den, h1]
theorem low_po {po : Nat → Bool} {n : Nat} : ∀ i, ltN i n → (SC.bool (if i < n then po i else false)).den = (SC.bool (po i)).den := fun i hi => by
  have h1 : i < n := hi
  simp [SC.den, h1]
def stc : LSm := fun ts ch kk => ∃ (x : CD) (O : Option Addr) (C : Nat) (so : Nat → Option Addr) (sc : Nat → Nat) (bm : Nat), (ts.map SV.den = (tcH x O C so sc bm (.il 0) (fun d => (ts.getD d .undef).den)).map SV.den ∧ SelS ch [0, 1, 2, 1000000] (tcT x O C so sc bm 0 (fun _ => none) (fun _ => 0)) ∧ capK x) ∧
    ∀ (g : Nat → Value) (kx : Int) (soq : Nat → Option Addr) (scq : Nat → Nat), kk (.exit 0) (tcH x O C so sc bm (.int kx) g) (tcE x O C so sc bm soq scq)
theorem tcB (x : CD) (O : Option Addr) (C : Nat) (so : Nat → Option Addr) (sc : Nat → Nat) (bm : Nat) (soq : Nat → Option Addr) (scq : Nat → Nat) (j : Nat) (g : Nat → Value) (NX : List SV → List Ch → Prop) (kx : Exit → List SV → List Ch → Prop) : (exCode Try.prog {tb := [(66, sToC)], D := fun _ => [2]} 400 (theLoop Try.f50 0) (tcH x O C so sc bm (.int (j : Int)) g) (tcT x O C so sc bm j soq scq) (loopK NX kx)) = (
  (((decide (((j : Nat) : Int) < ((x.1 : Nat) : Int))) = true →
 (O = O ∧
 (x.1 = x.1 ∧
 ((0 ≤ ((j : Nat) : Int) ∧ ((j : Nat) : Int) < ((x.1 : Nat) : Int)) ∧
 (O = O ∧
 (j < x.1 ∧
 (∃ t0 : Nat, (∃ y1 : CD, (∃ so2 : (Nat →
 (Option Addr)), (∃ sc3 : (Nat →
 Nat), (∃ i4 : Nat, (((symRows false 0 x so (fun x5 => 0)) = (symRows false t0 y1 so2 sc3) ∧
 ((so j) = (so2 i4) ∧
 ((x.2 j) = (y1.2 i4) ∧
 i4 < y1.1))) ∧
 ((capC (x.2 j)) ∧
 (∀ ro6 : (Option Addr),
 (∀ rc7 : Nat,
 ((Ad bm 0) = (Ad bm 0) ∧
 (x.1 = x.1 ∧
 ((0 ≤ ((j : Nat) : Int) ∧ ((j : Nat) : Int) < ((x.1 : Nat) : Int)) ∧
 ((Ad bm 0) = (Ad bm 0) ∧
 (j < x.1 ∧
 ((rng (((j : Nat) : Int) + (1 : Int))) ∧
 (NX [(sV 0 O x.1 C), (vV (g 1)), (vV (g 2)), (sV 2 (Ad bm 0) x.1 x.1), (iV (((j : Nat) : Int) + (1 : Int))), (vV (g 5)), (vV (g 6)), (vV (g 7)), (iV ((j : Nat) : Int)), (sV 0 O x.1 C), (iV ((x.1 : Nat) : Int)), tV, (iV ((j : Nat) : Int)), (iV (((j : Nat) : Int) + (1 : Int))), (sV 2 (Ad bm 0) x.1 x.1), (iV ((j : Nat) : Int)), (sV 0 O x.1 C), (iV ((j : Nat) : Int)), (rV 0 O 2 j 0), (aV [(Cs 1 (so j) (x.2 j) (sc j)), (Cb (x.4 j))]), (aV [(Cs 4 ro6 (x.2 j) rc7), (Cb (x.4 j))]), (rV 2 (Ad bm 0) 2 j 0), (vV (g 22))] [(Hr false O 0 2 x.1 0 [(fun i8 => (Cs 1 (so i8) (x.2 i8) (sc i8))), (fun i9 => (Cb (x.4 i9)))]), (Ho false (symRows false 0 x so (fun x10 => 0))), (Hr true (Ad bm 0) 52 2 x.1 x.1 [(fun j11 => (Cv (if j11 = j then (Ws ro6 (x.2 j) rc7) else (if j11 < j then (Ws (soq j11) (x.2 j11) (scq j11)) else Wn)))), (fun j12 => (Cb (if j12 = j then (x.4 j) else (if j12 < j then (x.4 j12) else false))))]), (Ho true (symRows true 3 (CD.mk j x.2 x.3 x.4) soq scq)), (Hr true ro6 3 1 (x.2 j) rc7 [(fun i13 => (Ci (y1.3 i4 i13)))])])))))))))))))))))))))) ∧
 ((decide (((j : Nat) : Int) < ((x.1 : Nat) : Int))) = false →
 (kx (Exit.exit 0) [(sV 0 O x.1 C), (vV (g 1)), (vV (g 2)), (sV 2 (Ad bm 0) x.1 x.1), (iV ((j : Nat) : Int)), (vV (g 5)), (vV (g 6)), (vV (g 7)), (iV ((j : Nat) : Int)), (sV 0 O x.1 C), (iV ((x.1 : Nat) : Int)), fV, (vV (g 12)), (vV (g 13)), (vV (g 14)), (vV (g 15)), (vV (g 16)), (vV (g 17)), (vV (g 18)), (vV (g 19)), (vV (g 20)), (vV (g 21)), (vV (g 22))] [(Hr false O 0 2 x.1 0 [(fun i14 => (Cs 1 (so i14) (x.2 i14) (sc i14))), (fun i15 => (Cb (x.4 i15)))]), (Ho false (symRows false 0 x so (fun x16 => 0))), (Hr true (Ad bm 0) 52 2 x.1 x.1 [(fun i17 => (Cv (if i17 < j then (Ws (soq i17) (x.2 i17) (scq i17)) else Wn))), (fun i18 => (Cb (if i18 < j then (x.4 i18) else false)))]), (Ho true (symRows true 3 (CD.mk j x.2 x.3 x.4) soq scq))])))) := by kernel_rfl
theorem tc_ok (X : Cx) : LoopOK Try.prog X (theLoop Try.f50 0) stc := by
  intro ts ch kk a w hS hT hd hs
  obtain ⟨x, O, C, so, sc, bm, ⟨h1, hch, hcap⟩, hk⟩ := hS
  have hn0 := totN_n (sn := x.sn) x.n
  have hcap' : totN x.sn x.n ≤ 2097152 := hcap
  refine loop_ok mixed (E := {tb := [(66, sToC)], D := fun _ => [2]}) ⟨sToC_ok, trivial⟩ (loopsOK_nil _ _ _) 400 x.n (fun j ts ch => ∃ g soq scq, ts = tcH x O C so sc bm (.int (j : Int)) g ∧ ch = tcT x O C so sc bm j soq scq) ?_ ?_ hT hd hs
  · rintro j _ _ ⟨g, soq, scq, rfl, rfl⟩ hj
    refine (@Eq.mpr _ _ (tcB x O C so sc bm soq scq j g _ _) ?_)
    by_cases hlt : j < x.n
    · have hsn : capC (x.sn j) := by have := totN_sn (sn := x.sn) hlt; show _ ≤ _; omega
      repeat' (first
        | with_reducible exact rfl
        | exact True.intro
        | with_reducible assumption
        | (refine ⟨hlt, ?_⟩; show Next _ _ _ _; rename_i ro rc; refine Next.mk (fun g => tcH x O C so sc bm (.int ((j + 1 : Nat) : Int)) g) (tcT x O C so sc bm (j + 1) (fun i => if i < j then soq i else ro) (fun i => if i < j then scq i else rc)) ⟨_, _, _, rfl, rfl⟩ rfl fun w hw => SelS.hs (l := [0, 1, 2, 3]) (by refine ⟨?_, rfl⟩; repeat' (first | exact True.intro | exact symRows_push | exact rfl | refine And.intro ?_ ?_ | (intro i hi; show _ = _; with_reducible rfl) | (intro i hi; show _ = _; rfl) | exact st_hd | exact st_po | (intro i hi; show _ = _; simp only [SC.den]; split <;> rfl))) (hw.nestApp 3 4 rfl rfl rfl (by decide)))
        | refine And.intro ?_ ?_
        | apply Exists.intro
        | (intro h; replace h := of_decide_eq_true h; first | (exfalso; omega) | skip)
        | (intro h; replace h := of_decide_eq_false h; first | (exfalso; omega) | skip)
        | intro _
        | omega
        | (simp; omega))
    · have hjn : j = x.n := by omega
      subst hjn
      repeat' (first
        | with_reducible exact rfl
        | exact True.intro
        | with_reducible assumption
        | (refine Next.mk (fun g => tcH x O C so sc bm (.int (x.n : Int)) g) _ (hk _ _ soq scq) rfl fun w hw => SelS.hs (l := [0, 1, 2, 3]) (by refine ⟨?_, rfl⟩; repeat' (first | exact True.intro | exact symRows_push | exact rfl | refine And.intro ?_ ?_ | (intro i hi; show _ = _; with_reducible rfl) | (intro i hi; show _ = _; rfl) | exact low_hd | exact low_po | (intro i hi; show _ = _; simp only [SC.den]; split <;> rfl))) hw)
        | refine And.intro ?_ ?_
        | (intro h; replace h := of_decide_eq_true h; first | (exfalso; omega) | skip)
        | (intro h; replace h := of_decide_eq_false h; first | (exfalso; omega) | skip)
        | intro _
        | omega)
  · exact Next.mk (fun g => tcH x O C so sc bm (.int ((0 : Nat) : Int)) g) _ ⟨_, _, _, rfl, rfl⟩ h1 fun w hw => hch.hs hw
theorem toCs_T (x : CD) (O : Option Addr) (C : Nat) (so : Nat → Option Addr) (sc : Nat → Nat) : (exFn Try.prog { L := [(3, stc)] } 400 Try.f50 ([.a (.c (.sl 0 O x.n C))]) ([.row ⟨false, O, 0, 2, x.n, 0, cellFld 1 x so sc⟩, .obj false (symRows false 0 x so (fun _ => 0))]) (fun v ch => ∃ (bm : Nat) (soq : Nat → Option Addr) (scq : Nat → Nat), v.den = .slice (some ⟨bm, 0, none⟩) x.n x.n ∧ SelS ch [2, 3] [.row ⟨true, some ⟨bm, 0, none⟩, 52, 2, x.n, x.n, cellFld 1 x soq scq⟩, .obj true (symRows true 3 x soq scq)])) = (
  (((x.1 : Nat) : Int) = ((x.1 : Nat) : Int) ∧
 ((mkC 32 ((x.1 : Nat) : Int)) ∧
 (∀ b0 : Nat,
 (∃ x1 : CD, (∃ O2 : (Option Addr), (∃ C3 : Nat, (∃ so4 : (Nat →
 (Option Addr)), (∃ sc5 : (Nat →
 Nat), (∃ bm6 : Nat, (([(Ws O x.1 C), (Wu []), Wn, (Ws (Ad b0 0) x.1 x.1), (Wi 0), (Ws O x.1 C), (Wi ((x.1 : Nat) : Int)), (Ws (Ad b0 0) x.1 x.1), (Wu []), (Wu []), (Wu []), (Wu []), (Wu []), (Wu []), (Wu []), (Wu []), (Wu []), (Wu []), (Wu []), (Wu []), (Wu []), (Wu []), (Wu [])] = [(Ws O2 x1.1 C3), (Wu []), Wn, (Ws (Ad bm6 0) x1.1 x1.1), (Wi 0), (Ws O x.1 C), (Wi ((x.1 : Nat) : Int)), (Ws (Ad b0 0) x.1 x.1), (Wu []), (Wu []), (Wu []), (Wu []), (Wu []), (Wu []), (Wu []), (Wu []), (Wu []), (Wu []), (Wu []), (Wu []), (Wu []), (Wu []), (Wu [])] ∧
 ((SelS [(Hr false O 0 2 x.1 0 [(fun i7 => (Cs 1 (so i7) (x.2 i7) (sc i7))), (fun i8 => (Cb (x.4 i8)))]), (Ho false (symRows false 0 x so (fun x9 => 0))), (Hr true (Ad b0 0) 52 2 x.1 x.1 [(fun x10 => Cz), (fun x11 => Cf)])] [0, 1, 2, 1000000] [(Hr false O2 0 2 x1.1 0 [(fun i12 => (Cs 1 (so4 i12) (x1.2 i12) (sc5 i12))), (fun i13 => (Cb (x1.4 i13)))]), (Ho false (symRows false 0 x1 so4 (fun x14 => 0))), (Hr true (Ad bm6 0) 52 2 x1.1 x1.1 [(fun i15 => (Cv (if i15 < 0 then (Value.slice (none : Option (Addr)) (x1.2 i15) 0) else Wn))), (fun i16 => (Cb (if i16 < 0 then (x1.4 i16) else false)))]), (Ho true (symRows true 3 (CD.mk 0 x1.2 x1.3 x1.4) (fun x17 => (none : Option (Addr))) (fun x18 => 0)))]) ∧
 (capK x1))) ∧
 (∀ g19 : (Nat →
 Value),
 (∀ kx20 : Int,
 (∀ soq21 : (Nat →
 (Option Addr)),
 (∀ scq22 : (Nat →
 Nat),
 (∃ bm23 : Nat, (∃ soq24 : (Nat →
 (Option Addr)), (∃ scq25 : (Nat →
 Nat), ((Ws (Ad bm6 0) x1.1 x1.1) = (Ws (Ad bm23 0) x.1 x.1) ∧
 (SelS [(Hr false O2 0 2 x1.1 0 [(fun i26 => (Cs 1 (so4 i26) (x1.2 i26) (sc5 i26))), (fun i27 => (Cb (x1.4 i27)))]), (Ho false (symRows false 0 x1 so4 (fun x28 => 0))), (Hr true (Ad bm6 0) 52 2 x1.1 x1.1 [(fun i29 => (Cs 3 (soq21 i29) (x1.2 i29) (scq22 i29))), (fun i30 => (Cb (x1.4 i30)))]), (Ho true (symRows true 3 x1 soq21 scq22))] [2, 3] [(Hr true (Ad bm23 0) 52 2 x.1 x.1 [(fun i31 => (Cs 1 (soq24 i31) (x.2 i31) (scq25 i31))), (fun i32 => (Cb (x.4 i32)))]), (Ho true (symRows true 3 x soq24 scq25))])))))))))))))))))))) := by kernel_rfl
theorem toCs_any (x : CD) (O : Option Addr) (C : Nat) (so : Nat → Option Addr) (sc : Nat → Nat) (w : World) (hA : SeenC w x O so sc) (hcap : capK x) : Calls Try.prog 50 #[.slice O x.n C] w fun e w' => ∃ (bm : Nat) (soq : Nat → Option Addr) (scq : Nat → Nat), e = .returned (.slice (some ⟨bm, 0, none⟩) x.n x.n) ∧ HS ⟨w, fun _ => False⟩ [.row ⟨true, some ⟨bm, 0, none⟩, 52, 2, x.n, x.n, cellFld 1 x soq scq⟩, .obj true (symRows true 3 x soq scq)] w' := by
  refine fn_ok mixed (E := { L := [(3, stc)] }) trivial Try.func50 (one_loop (by kernel_rfl) (by kernel_rfl) (tc_ok _)) (@Eq.mpr _ _ (toCs_T x O C so sc) ?_) (HS.seenAll (fun _ => False) _ (hA.all 1 seenC_nil)) (fun v ch' w' ⟨bm, soq, scq, hv, hc⟩ hs => ⟨bm, soq, scq, by rw [hv], hc.hs hs⟩)
  clear hA
  have hn0 := totN_n (sn := x.sn) x.n
  have hcap' : totN x.sn x.n ≤ 2097152 := hcap
  repeat' (first
    | with_reducible exact rfl
    | exact True.intro
    | with_reducible assumption
    | exact hcap
    | exact (by refine ⟨?_, rfl⟩; repeat' (first | exact True.intro | exact symRows_push | exact rfl | refine And.intro ?_ ?_ | (intro i hi; show _ = _; with_reducible rfl) | (intro i hi; show _ = _; rfl) | exact symRows_nil | (intro i hi; simp [SC.den]; done) | (intro i hi; show _ = _; simp only [SC.den]; split <;> rfl)))
    | refine And.intro ?_ ?_
    | apply Exists.intro
    | (intro h; replace h := of_decide_eq_true h; first | (exfalso; omega) | skip)
    | (intro h; replace h := of_decide_eq_false h; first | (exfalso; omega) | skip)
    | (intro i hi; with_reducible exact rfl)
    | intro _
    | omega
    | exact rfl)
def sToCs : Sm := fun args ch kk =>
  match args with
  | [.a (.c c)] => rdK ch c fun x => capK x ∧ ∀ (bm : Nat) (soq : Nat → Option Addr) (scq : Nat → Nat), kk (.a (.c (.sl ch.length (some ⟨bm, 0, none⟩) x.n x.n))) (ch ++ [.row ⟨true, some ⟨bm, 0, none⟩, 52, 2, x.n, x.n, cellFld (ch.length + 1) x soq scq⟩, .obj true (symRows true 3 x soq scq)]) []
  | _ => False
theorem cells_at {b id : Nat} {x : CD} {O : Option Addr} {C t t2 : Nat} {so : Nat → Option Addr} {sc : Nat → Nat} {X : Cx} {w : World} (h : HS X [.row ⟨true, O, t, 2, x.n, C, cellFld id x so sc⟩, .obj true (symRows true t2 x so sc)] w) : HS X [.row ⟨true, O, t, 2, x.n, C, cellFld b x so sc⟩, .obj true (symRows true t2 x so sc)] w :=
  h.reS ⟨⟨rfl, rfl, rfl, rfl, rfl, rfl, fun i hi => rfl, fun i hi => rfl, trivial⟩, ⟨rfl, rfl⟩, trivial⟩
theorem sToCs_ok : SmOK Try.prog 50 sToCs := by
  refine smN Try.call50 fun args ch kk w X h0 hs => ?_
  unfold sToCs at h0
  split at h0
  · obtain ⟨x, O, C, so, sc, e, hA, hc, h0⟩ := rdK_ok h0 hs
    simp only [List.map_cons, List.map_nil, den_a, den_c, e]
    exact Calls.mono (toCs_any x O C so sc w hA hc) fun e w' ⟨bm, soq, scq, he, hs'⟩ => ⟨.a (.c (.sl ch.length (some ⟨bm, 0, none⟩) x.n x.n)), _, he, cells_at hs', rfl, h0 bm soq scq⟩
  · exact h0.elim
abbrev capAx (x : AD) : Prop := capK x.c ∧ x.aN ≤ 2097152 ∧ x.hN ≤ 2097152
theorem toA_T (x : AD) (O A H : Option Addr) (C D E : Nat) (so : Nat → Option Addr) (sc : Nat → Nat) : (exFn Try.prog {tb := [(50, sToCs), (51, sToIntS)]} 400 Try.f13 ([.a (arrS 0 x O A H C D E)]) (arrR 0 x O A H so sc) (fun v ch => ∃ (Oq Aq Hq : Option Addr) (Cq Dq Ee : Nat) (soq : Nat → Option Addr) (scq : Nat → Nat), v.den = arrV x Oq Aq Hq Cq Dq Ee ∧ SelS ch (idsArr v ch) (arrO 0 x Oq Aq Hq Cq Dq Ee soq scq))) = (
  (∀ b0 : Nat,
 (∀ b1 : Nat,
 (∀ b2 : Nat,
 (b0 = b0 ∧
 (∃ t3 : Nat, (∃ y4 : CD, (∃ so5 : (Nat →
 (Option Addr)), (∃ sc6 : (Nat →
 Nat), (∃ sd7 : (Nat →
 Nat), (((symRows false 0 x.1 so (fun x8 => 0)) = (symRows false t3 y4 so5 sd7) ∧
 ([(fun i9 => (Cs 3 (so i9) (x.1.2 i9) (sc i9))), (fun i10 => (Cb (x.1.4 i10)))] = [(fun i11 => (Cs 3 (so5 i11) (y4.2 i11) (sc6 i11))), (fun i12 => (Cb (y4.4 i12)))] ∧
 (O = O ∧
 (x.1.1 = x.1.1 ∧
 x.1.1 = y4.1)))) ∧
 ((capK y4) ∧
 (∀ bm13 : Nat,
 (∀ soq14 : (Nat →
 (Option Addr)),
 (∀ scq15 : (Nat →
 Nat),
 (b2 = b2 ∧
 (b0 = b0 ∧
 (∃ g016 : (Nat →
 Int), ((A = A ∧
 (x.2 = x.2 ∧
 ([(fun i17 => (Ci (x.3 i17)))] = [(fun i18 => (Ci (g016 i18)))] ∧
 (capC x.2)))) ∧
 (∀ b19 : Nat,
 (b2 = b2 ∧
 (b0 = b0 ∧
 (∃ g020 : (Nat →
 Int), ((H = H ∧
 (x.4 = x.4 ∧
 ([(fun i21 => (Ci (x.5 i21)))] = [(fun i22 => (Ci (g020 i22)))] ∧
 (capC x.4)))) ∧
 (∀ b23 : Nat,
 (b2 = b2 ∧
 (b2 = b2 ∧
 (b1 = b1 ∧
 (b1 = b1 ∧
 (∃ Oq24 : (Option Addr), (∃ Aq25 : (Option Addr), (∃ Hq26 : (Option Addr), (∃ Cq27 : Nat, (∃ Dq28 : Nat, (∃ Ee29 : Nat, (∃ soq30 : (Nat →
 (Option Addr)), (∃ scq31 : (Nat →
 Nat), ((Wa [(Ws (Ad bm13 0) y4.1 y4.1), (Ws (Ad b19 0) x.2 x.2), (Ws (Ad b23 0) x.4 x.4)]) = (Wa [(Ws Oq24 x.1.1 Cq27), (Ws Aq25 x.2 Dq28), (Ws Hq26 x.4 Ee29)]) ∧
 (SelS [(Hr false O 0 2 x.1.1 0 [(fun i32 => (Cs 3 (so i32) (x.1.2 i32) (sc i32))), (fun i33 => (Cb (x.1.4 i33)))]), (Hr false A 0 1 x.2 0 [(fun i34 => (Ci (x.3 i34)))]), (Hr false H 0 1 x.4 0 [(fun i35 => (Ci (x.5 i35)))]), (Ho false (symRows false 0 x.1 so (fun x36 => 0))), (Hc b0 27 [(Cs 0 O x.1.1 C), (Cs 1 A x.2 D), (Cs 2 H x.4 E)]), (Hc b1 33 [(Cs 7 (Ad bm13 0) y4.1 y4.1), (Cs 9 (Ad b19 0) x.2 x.2), (Cs 10 (Ad b23 0) x.4 x.4)]), (Hc b2 33 [(Cs 7 (Ad bm13 0) y4.1 y4.1), (Cs 9 (Ad b19 0) x.2 x.2), (Cs 10 (Ad b23 0) x.4 x.4)]), (Hr true (Ad bm13 0) 52 2 y4.1 y4.1 [(fun i37 => (Cs 8 (soq14 i37) (y4.2 i37) (scq15 i37))), (fun i38 => (Cb (y4.4 i38)))]), (Ho true (symRows true 3 y4 soq14 scq15)), (Hr true (Ad b19 0) 3 1 x.2 x.2 [(fun i39 => (Ci (g016 i39)))]), (Hr true (Ad b23 0) 3 1 x.4 x.4 [(fun i40 => (Ci (g020 i40)))])] [7, 9, 10, 8] [(Hr true Oq24 52 2 x.1.1 Cq27 [(fun i41 => (Cs 3 (soq30 i41) (x.1.2 i41) (scq31 i41))), (fun i42 => (Cb (x.1.4 i42)))]), (Hr true Aq25 3 1 x.2 Dq28 [(fun i43 => (Ci (x.3 i43)))]), (Hr true Hq26 3 1 x.4 Ee29 [(fun i44 => (Ci (x.5 i44)))]), (Ho true (symRows true 3 x.1 soq30 scq31))]))))))))))))))))))))))))))))))))))))))) := by kernel_rfl
theorem toA_any (x : AD) (O A H : Option Addr) (C D E : Nat) (so : Nat → Option Addr) (sc : Nat → Nat) (w : World) (hA : SeenA w x O A H so sc) (hcap : capAx x) : Calls Try.prog 13 #[arrV x O A H C D E] w fun e w' => ∃ (Oq Aq Hq : Option Addr) (Cq Dq Ee : Nat) (soq : Nat → Option Addr) (scq : Nat → Nat), e = .returned (arrV x Oq Aq Hq Cq Dq Ee) ∧ HS ⟨w, fun _ => False⟩ (arrO 0 x Oq Aq Hq Cq Dq Ee soq scq) w' := by
  refine fnB (tb := [(50, sToCs), (51, sToIntS)]) ⟨sToCs_ok, sToIntS_ok, trivial⟩ Try.func13 (@Eq.mpr _ _ (toA_T x O A H C D E so sc) ?_) (HS.seenAll (fun _ => False) _ (hA.all 0 seenC_nil)) (fun v ch' w' ⟨Oq, Aq, Hq, Cq, Dq, Ee, soq, scq, hv, hc⟩ hs => ⟨Oq, Aq, Hq, Cq, Dq, Ee, soq, scq, by rw [hv], hc.hs hs⟩)
  clear hA
  obtain ⟨c1, c2, c3⟩ := hcap
  repeat' (first
    | with_reducible exact rfl
    | exact True.intro
    | with_reducible assumption
    | exact (by refine ⟨?_, rfl⟩; repeat' (first | exact True.intro | exact symRows_push | exact rfl | refine And.intro ?_ ?_ | (intro i hi; show _ = _; with_reducible rfl) | (intro i hi; show _ = _; rfl) | (intro i hi; show _ = _; simp only [SC.den]; split <;> rfl)))
    | refine And.intro ?_ ?_
    | apply Exists.intro
    | (intro h; replace h := of_decide_eq_true h; first | (exfalso; omega) | skip)
    | (intro h; replace h := of_decide_eq_false h; first | (exfalso; omega) | skip)
    | (intro i hi; with_reducible exact rfl)
    | intro _
    | omega
    | exact rfl)

def ecH (x : CD) (O : Option Addr) (C : Nat) (so : Nat → Option Addr) (sc : Nat → Nat) (P : Option Addr) (Q : Nat) (sp : Nat → Option Addr) (sq : Nat → Nat) (i : SC) (g : Nat → Value) : List SV := [.a (.c (.sl 0 O x.n C)), .a (.c (.sl 2 P x.n Q)), .a (.c (.val (g 2))), .a (.c (.val (g 3))), .a (.c (.lit false)), .a (.c i), .a (.c (.val (g 6))), .a (.c (.val (g 7))), .a (.c (.val (g 8))), .a (.c (.val (g 9))), .a (.c (.val (g 10))), .a (.c (.val (g 11))), .a (.c (.val (g 12))), .a (.c (.val (g 13))), .a (.c (.val (g 14))), .a (.c (.val (g 15))), .a (.c (.val (g 16))), .a (.c (.val (g 17))), .a (.c (.val (g 18))), .a (.c (.val (g 19))), .a (.c (.val (g 20))), .a (.c (.val (g 21))), .a (.c (.val (g 22))), .a (.c (.val (g 23))), .a (.c (.val (g 24))), .a (.c (.val (g 25))), .a (.c (.val (g 26)))]
def ecT (x : CD) (O : Option Addr) (C : Nat) (so : Nat → Option Addr) (sc : Nat → Nat) (P : Option Addr) (Q : Nat) (sp : Nat → Option Addr) (sq : Nat → Nat) : List Ch := [.row ⟨false, O, 0, 2, x.n, 0, cellFld 1 x so sc⟩, .obj false (symRows false 0 x so (fun _ => 0)), .row ⟨false, P, 0, 2, x.n, 0, cellFld 3 x sp sq⟩, .obj false (symRows false 0 x sp (fun _ => 0))]
def sec : LSm := fun ts ch kk => ∃ (x : CD) (O : Option Addr) (C : Nat) (so : Nat → Option Addr) (sc : Nat → Nat) (P : Option Addr) (Q : Nat) (sp : Nat → Option Addr) (sq : Nat → Nat), (ts.map SV.den = (ecH x O C so sc P Q sp sq (.il 0) (fun d => (ts.getD d .undef).den)).map SV.den ∧ ch = ecT x O C so sc P Q sp sq ∧ capK x) ∧ ∀ (g : Nat → Value) (kx : Int), kk (.exit 0) (ecH x O C so sc P Q sp sq (.int kx) g) (ecT x O C so sc P Q sp sq)
theorem ecB (x : CD) (O : Option Addr) (C : Nat) (so : Nat → Option Addr) (sc : Nat → Nat) (P : Option Addr) (Q : Nat) (sp : Nat → Option Addr) (sq : Nat → Nat) (j : Nat) (g : Nat → Value) (NX : List SV → List Ch → Prop) (kx : Exit → List SV → List Ch → Prop) : (exCode Try.prog {tb := [(72, sEqC)]} 400 (theLoop Try.f56 0) (ecH x O C so sc P Q sp sq (.int (j : Int)) g) (ecT x O C so sc P Q sp sq) (loopK NX kx)) = (
  (((decide (((j : Nat) : Int) < ((x.1 : Nat) : Int))) = true →
 (O = O ∧
 (x.1 = x.1 ∧
 ((0 ≤ ((j : Nat) : Int) ∧ ((j : Nat) : Int) < ((x.1 : Nat) : Int)) ∧
 (O = O ∧
 (j < x.1 ∧
 (P = P ∧
 (x.1 = x.1 ∧
 ((0 ≤ ((j : Nat) : Int) ∧ ((j : Nat) : Int) < ((x.1 : Nat) : Int)) ∧
 (P = P ∧
 (j < x.1 ∧
 (∃ t0 : Nat, (∃ y1 : CD, (∃ so2 : (Nat →
 (Option Addr)), (∃ sc3 : (Nat →
 Nat), (∃ i4 : Nat, (((symRows false 0 x so (fun x5 => 0)) = (symRows false t0 y1 so2 sc3) ∧
 ((so j) = (so2 i4) ∧
 ((x.2 j) = (y1.2 i4) ∧
 i4 < y1.1))) ∧
 (∃ t6 : Nat, (∃ y7 : CD, (∃ so8 : (Nat →
 (Option Addr)), (∃ sc9 : (Nat →
 Nat), (∃ i10 : Nat, (((symRows false 0 x sp (fun x11 => 0)) = (symRows false t6 y7 so8 sc9) ∧
 ((sp j) = (so8 i10) ∧
 ((x.2 j) = (y7.2 i10) ∧
 i10 < y7.1))) ∧
 (((x.2 j) = (x.2 j) ∧
 ((x.4 j) = (x.4 j) ∧
 ((capC (x.2 j)) ∧
 (allEq (x.2 j) (y1.3 i4) (y7.3 i10))))) ∧
 (True ∧
 ((rng (((j : Nat) : Int) + (1 : Int))) ∧
 (NX [(sV 0 O x.1 C), (sV 2 P x.1 Q), (vV (g 2)), (vV (g 3)), fV, (iV (((j : Nat) : Int) + (1 : Int))), (vV (g 6)), (vV (g 7)), (vV (g 8)), (vV (g 9)), (vV (g 10)), (iV ((j : Nat) : Int)), (sV 0 O x.1 C), (iV ((x.1 : Nat) : Int)), tV, (iV ((j : Nat) : Int)), (iV (((j : Nat) : Int) + (1 : Int))), (sV 0 O x.1 C), (iV ((j : Nat) : Int)), (rV 0 O 2 j 0), (aV [(Cs 1 (so j) (x.2 j) (sc j)), (Cb (x.4 j))]), (sV 2 P x.1 Q), (iV ((j : Nat) : Int)), (rV 2 P 2 j 0), (aV [(Cs 3 (sp j) (x.2 j) (sq j)), (Cb (x.4 j))]), tV, fV] [(Hr false O 0 2 x.1 0 [(fun i12 => (Cs 1 (so i12) (x.2 i12) (sc i12))), (fun i13 => (Cb (x.4 i13)))]), (Ho false (symRows false 0 x so (fun x14 => 0))), (Hr false P 0 2 x.1 0 [(fun i15 => (Cs 3 (sp i15) (x.2 i15) (sq i15))), (fun i16 => (Cb (x.4 i16)))]), (Ho false (symRows false 0 x sp (fun x17 => 0)))]))))))))))))))))))))))))))) ∧
 ((decide (((j : Nat) : Int) < ((x.1 : Nat) : Int))) = false →
 (kx (Exit.exit 0) [(sV 0 O x.1 C), (sV 2 P x.1 Q), (vV (g 2)), (vV (g 3)), fV, (iV ((j : Nat) : Int)), (vV (g 6)), (vV (g 7)), (vV (g 8)), (vV (g 9)), (vV (g 10)), (iV ((j : Nat) : Int)), (sV 0 O x.1 C), (iV ((x.1 : Nat) : Int)), fV, (vV (g 15)), (vV (g 16)), (vV (g 17)), (vV (g 18)), (vV (g 19)), (vV (g 20)), (vV (g 21)), (vV (g 22)), (vV (g 23)), (vV (g 24)), (vV (g 25)), (vV (g 26))] [(Hr false O 0 2 x.1 0 [(fun i18 => (Cs 1 (so i18) (x.2 i18) (sc i18))), (fun i19 => (Cb (x.4 i19)))]), (Ho false (symRows false 0 x so (fun x20 => 0))), (Hr false P 0 2 x.1 0 [(fun i21 => (Cs 3 (sp i21) (x.2 i21) (sq i21))), (fun i22 => (Cb (x.4 i22)))]), (Ho false (symRows false 0 x sp (fun x23 => 0)))])))) := by kernel_rfl
theorem ec_ok (X : Cx) : LoopOK Try.prog X (theLoop Try.f56 0) sec := by
  intro ts ch kk a w hS hT hd hs
  obtain ⟨x, O, C, so, sc, P, Q, sp, sq, ⟨h1, rfl, hcap⟩, hk⟩ := hS
  have hn0 := totN_n (sn := x.sn) x.n
  have hcap' : totN x.sn x.n ≤ 2097152 := hcap
  refine loop_ok mixed (E := {tb := [(72, sEqC)]}) ⟨sEqC_ok, trivial⟩ (loopsOK_nil _ _ _) 400 x.n (fun j ts ch => ∃ g, ts = ecH x O C so sc P Q sp sq (.int (j : Int)) g ∧ ch = ecT x O C so sc P Q sp sq) ?_ ?_ hT hd hs
  · rintro j _ _ ⟨g, rfl, rfl⟩ hj
    refine (@Eq.mpr _ _ (ecB x O C so sc P Q sp sq j g _ _) ?_)
    by_cases hlt : j < x.n
    · have hsn : capC (x.sn j) := by have := totN_sn (sn := x.sn) hlt; show _ ≤ _; omega
      repeat' (first
        | with_reducible exact rfl
        | exact True.intro
        | with_reducible assumption
        | (refine ⟨_, _, _, _, _, ⟨rfl, rfl, rfl, ?_⟩, ?_⟩)
        | (refine ⟨hlt, ?_⟩; show Next _ _ _ _; refine Next.mk (fun g => ecH x O C so sc P Q sp sq (.int ((j + 1 : Nat) : Int)) g) _ ⟨_, rfl, rfl⟩ rfl fun w hw => hw)
        | (intro i hi; with_reducible exact rfl)
        | refine And.intro ?_ ?_
        | apply Exists.intro
        | (intro h; replace h := of_decide_eq_true h; first | (exfalso; omega) | skip)
        | (intro h; replace h := of_decide_eq_false h; first | (exfalso; omega) | skip)
        | intro _
        | omega
        | (simp; omega))
    · have hjn : j = x.n := by omega
      repeat' (first
        | with_reducible exact rfl
        | exact True.intro
        | with_reducible assumption
        | (refine Next.mk (fun g => ecH x O C so sc P Q sp sq (.int (j : Int)) g) _ (hk _ _) rfl fun w hw => hw)
        | refine And.intro ?_ ?_
        | apply Exists.intro
        | (intro h; replace h := of_decide_eq_true h; first | (exfalso; omega) | skip)
        | (intro h; replace h := of_decide_eq_false h; first | (exfalso; omega) | skip)
        | intro _
        | omega
        | (simp; omega))
  · exact Next.mk (fun g => ecH x O C so sc P Q sp sq (.int ((0 : Nat) : Int)) g) _ ⟨_, rfl, rfl⟩ h1 fun w hw => hw
theorem eqCs_T (x : CD) (O : Option Addr) (C : Nat) (so : Nat → Option Addr) (sc : Nat → Nat) (P : Option Addr) (Q : Nat) (sp : Nat → Option Addr) (sq : Nat → Nat) : (exFn Try.prog { L := [(4, sec)] } 400 Try.f56 ([.a (.c (.sl 0 O x.n C)), .a (.c (.sl 2 P x.n Q))]) ([.row ⟨false, O, 0, 2, x.n, 0, cellFld 1 x so sc⟩, .obj false (symRows false 0 x so (fun _ => 0)), .row ⟨false, P, 0, 2, x.n, 0, cellFld 3 x sp sq⟩, .obj false (symRows false 0 x sp (fun _ => 0))]) (fun v _ => v.den = .bool true)) = (
  (((((x.1 : Nat) : Int) != ((x.1 : Nat) : Int)) = true →
 (Wb false) = (Wb true)) ∧
 ((((x.1 : Nat) : Int) != ((x.1 : Nat) : Int)) = false →
 (∃ x0 : CD, (∃ O1 : (Option Addr), (∃ C2 : Nat, (∃ so3 : (Nat →
 (Option Addr)), (∃ sc4 : (Nat →
 Nat), (∃ P5 : (Option Addr), (∃ Q6 : Nat, (∃ sp7 : (Nat →
 (Option Addr)), (∃ sq8 : (Nat →
 Nat), (([(Ws O x.1 C), (Ws P x.1 Q), (Wu []), (Wu []), (Wb false), (Wi 0), (Ws O x.1 C), (Wi ((x.1 : Nat) : Int)), (Ws P x.1 Q), (Wi ((x.1 : Nat) : Int)), (Wb false), (Wu []), (Wu []), (Wu []), (Wu []), (Wu []), (Wu []), (Wu []), (Wu []), (Wu []), (Wu []), (Wu []), (Wu []), (Wu []), (Wu []), (Wu []), (Wu [])] = [(Ws O1 x0.1 C2), (Ws P5 x0.1 Q6), (Wu []), (Wu []), (Wb false), (Wi 0), (Ws O x.1 C), (Wi ((x.1 : Nat) : Int)), (Ws P x.1 Q), (Wi ((x.1 : Nat) : Int)), (Wb false), (Wu []), (Wu []), (Wu []), (Wu []), (Wu []), (Wu []), (Wu []), (Wu []), (Wu []), (Wu []), (Wu []), (Wu []), (Wu []), (Wu []), (Wu []), (Wu [])] ∧
 ([(Hr false O 0 2 x.1 0 [(fun i9 => (Cs 1 (so i9) (x.2 i9) (sc i9))), (fun i10 => (Cb (x.4 i10)))]), (Ho false (symRows false 0 x so (fun x11 => 0))), (Hr false P 0 2 x.1 0 [(fun i12 => (Cs 3 (sp i12) (x.2 i12) (sq i12))), (fun i13 => (Cb (x.4 i13)))]), (Ho false (symRows false 0 x sp (fun x14 => 0)))] = [(Hr false O1 0 2 x0.1 0 [(fun i15 => (Cs 1 (so3 i15) (x0.2 i15) (sc4 i15))), (fun i16 => (Cb (x0.4 i16)))]), (Ho false (symRows false 0 x0 so3 (fun x17 => 0))), (Hr false P5 0 2 x0.1 0 [(fun i18 => (Cs 3 (sp7 i18) (x0.2 i18) (sq8 i18))), (fun i19 => (Cb (x0.4 i19)))]), (Ho false (symRows false 0 x0 sp7 (fun x20 => 0)))] ∧
 (capK x0))) ∧
 (∀ g21 : (Nat →
 Value),
 (∀ kx22 : Int,
 (Wb true) = (Wb true)))))))))))))))) := by kernel_rfl
theorem eqCs_any (x : CD) (O : Option Addr) (C : Nat) (so : Nat → Option Addr) (sc : Nat → Nat) (P : Option Addr) (Q : Nat) (sp : Nat → Option Addr) (sq : Nat → Nat) (w : World) (hA : SeenC w x O so sc) (hB : SeenC w x P sp sq) (hcap : capK x) : Calls Try.prog 56 #[.slice O x.n C, .slice P x.n Q] w fun e w' => e = .returned (.bool true) ∧ Below w.heap.size w w' := by
  refine fn_ok mixed (E := { L := [(4, sec)] }) trivial Try.func56 (one_loop (by kernel_rfl) (by kernel_rfl) (ec_ok _)) (@Eq.mpr _ _ (eqCs_T x O C so sc P Q sp sq) ?_) (HS.seenAll (fun _ => False) _ (hA.all 1 (hB.all 3 seenC_nil))) (fun v ch' w' hv hs => ⟨by rw [hv], hs.below⟩)
  clear hA hB
  have hn0 := totN_n (sn := x.sn) x.n
  have hcap' : totN x.sn x.n ≤ 2097152 := hcap
  repeat' (first
    | with_reducible exact rfl
    | exact True.intro
    | with_reducible assumption
    | exact hcap
    | refine And.intro ?_ ?_
    | apply Exists.intro
    | (intro h; exfalso; simp at h; done)
    | intro _
    | omega)
def sEqCs : Sm := fun args ch kk =>
  match args with
  | [.a (.c c), .a (.c d)] => rdK ch c fun x => rdK ch d fun y => (y = x ∧ capK x) ∧ kk (.a (.c (.lit true))) ch []
  | _ => False
theorem sEqCs_ok : SmOK Try.prog 56 sEqCs := by
  refine smB Try.call56 fun args ch kk w X h0 hs => ?_
  unfold sEqCs at h0
  split at h0
  · obtain ⟨x, O, C, so, sc, e, hA, h1⟩ := rdK_ok h0 hs
    obtain ⟨y, P, Q, sp, sq, e2, hB, ⟨rfl, hc⟩, h2⟩ := rdK_ok h1 hs
    refine ⟨_, h2, ?_⟩
    simp only [List.map_cons, List.map_nil, den_a, den_c, e, e2]
    exact eqCs_any _ O C so sc P Q sp sq w hA hB hc
  · exact h0.elim
theorem eqA_T (x : AD) (O A H : Option Addr) (C D E : Nat) (so : Nat → Option Addr) (sc : Nat → Nat) (P B G : Option Addr) (Q U V : Nat) (sp : Nat → Option Addr) (sq : Nat → Nat) : (exFn Try.prog {tb := [(56, sEqCs), (57, sEqIntS)]} 400 Try.f16 ([.a (arrS 0 x O A H C D E), .a (arrS 4 x P B G Q U V)]) (arrR 0 x O A H so sc ++ arrR 4 x P B G sp sq) (fun v _ => v.den = .bool true)) = (
  (∀ b0 : Nat,
 (∀ b1 : Nat,
 (b0 = b0 ∧
 (b1 = b1 ∧
 (∃ t2 : Nat, (∃ y3 : CD, (∃ so4 : (Nat →
 (Option Addr)), (∃ sc5 : (Nat →
 Nat), (∃ sd6 : (Nat →
 Nat), (((symRows false 0 x.1 so (fun x7 => 0)) = (symRows false t2 y3 so4 sd6) ∧
 ([(fun i8 => (Cs 3 (so i8) (x.1.2 i8) (sc i8))), (fun i9 => (Cb (x.1.4 i9)))] = [(fun i10 => (Cs 3 (so4 i10) (y3.2 i10) (sc5 i10))), (fun i11 => (Cb (y3.4 i11)))] ∧
 (O = O ∧
 (x.1.1 = x.1.1 ∧
 x.1.1 = y3.1)))) ∧
 (∃ t12 : Nat, (∃ y13 : CD, (∃ so14 : (Nat →
 (Option Addr)), (∃ sc15 : (Nat →
 Nat), (∃ sd16 : (Nat →
 Nat), (((symRows false 0 x.1 sp (fun x17 => 0)) = (symRows false t12 y13 so14 sd16) ∧
 ([(fun i18 => (Cs 7 (sp i18) (x.1.2 i18) (sq i18))), (fun i19 => (Cb (x.1.4 i19)))] = [(fun i20 => (Cs 7 (so14 i20) (y13.2 i20) (sc15 i20))), (fun i21 => (Cb (y13.4 i21)))] ∧
 (P = P ∧
 (x.1.1 = x.1.1 ∧
 x.1.1 = y13.1)))) ∧
 ((y13 = y3 ∧
 (capK y3)) ∧
 (b0 = b0 ∧
 (b1 = b1 ∧
 (∃ g022 : (Nat →
 Int), (∃ q023 : (Nat →
 Int), ((A = A ∧
 (x.2 = x.2 ∧
 ([(fun i24 => (Ci (x.3 i24)))] = [(fun i25 => (Ci (g022 i25)))] ∧
 (B = B ∧
 (x.2 = x.2 ∧
 ([(fun i26 => (Ci (x.3 i26)))] = [(fun i27 => (Ci (q023 i27)))] ∧
 (x.2 = x.2 ∧
 (capC x.2)))))))) ∧
 ((∀ i28 : Nat,
 (i28 < x.2 →
 (g022 i28) = (q023 i28))) ∧
 (b0 = b0 ∧
 (b1 = b1 ∧
 (∃ g029 : (Nat →
 Int), (∃ q030 : (Nat →
 Int), ((H = H ∧
 (x.4 = x.4 ∧
 ([(fun i31 => (Ci (x.5 i31)))] = [(fun i32 => (Ci (g029 i32)))] ∧
 (G = G ∧
 (x.4 = x.4 ∧
 ([(fun i33 => (Ci (x.5 i33)))] = [(fun i34 => (Ci (q030 i34)))] ∧
 (x.4 = x.4 ∧
 (capC x.4)))))))) ∧
 ((∀ i35 : Nat,
 (i35 < x.4 →
 (g029 i35) = (q030 i35))) ∧
 (Wb true) = (Wb true))))))))))))))))))))))))))))))) := by kernel_rfl
theorem eqA_any (x : AD) (O A H : Option Addr) (C D E : Nat) (so : Nat → Option Addr) (sc : Nat → Nat) (P B G : Option Addr) (Q U V : Nat) (sp : Nat → Option Addr) (sq : Nat → Nat) (w : World) (hA : SeenA w x O A H so sc) (hB : SeenA w x P B G sp sq) (hcap : capAx x) : Calls Try.prog 16 #[arrV x O A H C D E, arrV x P B G Q U V] w fun e w' => e = .returned (.bool true) ∧ Below w.heap.size w w' := by
  refine fnB (tb := [(56, sEqCs), (57, sEqIntS)]) ⟨sEqCs_ok, sEqIntS_ok, trivial⟩ Try.func16 (@Eq.mpr _ _ (eqA_T x O A H C D E so sc P B G Q U V sp sq) ?_) (HS.seenAll (fun _ => False) _ (hA.all 0 (hB.all 4 seenC_nil))) (fun v ch' w' hv hs => ⟨by rw [hv], hs.below⟩)
  clear hA hB
  obtain ⟨c1, c2, c3⟩ := hcap
  repeat' (first
    | with_reducible exact rfl
    | exact True.intro
    | with_reducible assumption
    | (intro h; exfalso; simp at h; done)
    | refine And.intro ?_ ?_
    | apply Exists.intro
    | (intro h; replace h := of_decide_eq_true h; first | (exfalso; omega) | skip)
    | (intro h; replace h := of_decide_eq_false h; first | (exfalso; omega) | skip)
    | (intro i hi; with_reducible exact rfl)
    | intro _
    | omega
    | exact rfl)

def mcH (x : CD) (O : Option Addr) (C : Nat) (so : Nat → Option Addr) (sc : Nat → Nat) (tt t cap : Nat) (k0 : Int) (k i : SC) (g : Nat → Value) : List SV := [.a (.c (.sl 0 O x.n C)), .a (.c k), .a (.c (.val (g 2))), .a (.c (.val (g 3))), .a (.c (.val (g 4))), .a (.c i), .a (.c (.val (g 6))), .a (.c (.val (g 7))), .a (.c (.val (g 8))), .a (.c (.val (g 9))), .a (.c (.val (g 10))), .a (.c (.val (g 11))), .a (.c (.val (g 12))), .a (.c (.val (g 13))), .a (.c (.val (g 14))), .a (.c (.val (g 15))), .a (.c (.val (g 16))), .a (.c (.val (g 17))), .a (.c (.val (g 18))), .a (.c (.val (g 19))), .a (.c (.val (g 20))), .a (.c (.val (g 21))), .a (.c (.val (g 22))), .a (.c (.val (g 23))), .a (.c (.val (g 24))), .a (.c (.val (g 25))), .a (.c (.val (g 26))), .a (.c (.val (g 27))), .a (.c (.val (g 28)))]
def mcT (x : CD) (O : Option Addr) (C : Nat) (so : Nat → Option Addr) (sc : Nat → Nat) (tt t cap : Nat) (k0 : Int) (j : Nat) : List Ch := [.row ⟨true, O, tt, 2, x.n, cap, [fun i => .sl 1 (so i) (x.sn i) (sc i), fun i => .bool (lowB i j (mkPo k0 x.sn i) (x.po i))]⟩, .obj true (symRows true t ⟨x.n, x.sn, fun a q => lowI a j (mk (kAt k0 x.sn a) 1 0 q) (x.sy a q), x.po⟩ so sc)]
def mcE (x : CD) (O : Option Addr) (C : Nat) (so : Nat → Option Addr) (sc : Nat → Nat) (tt t cap : Nat) (k0 : Int) : List Ch := [.row ⟨true, O, tt, 2, x.n, cap, cellFld 1 (markCD k0 x) so sc⟩, .obj true (symRows true t (markCD k0 x) so sc)]
theorem mk_po {j n : Nat} {k : Int} {sn : Nat → Nat} {po : Nat → Bool} : ∀ i, ltN i n → (SC.bool (if i = j then (mk (kAt k sn j) 1 0 (sn j) % 3 == 0) else if i < j then mkPo k sn i else po i)).den = (SC.bool (if i < j + 1 then mkPo k sn i else po i)).den := fun i hi => by
  by_cases h1 : i < j
  · have h2 : ¬ i = j := by omega
    have h3 : i < j + 1 := by omega
    simp [SC.den, h1, h2, h3]
  · by_cases h2 : i = j
    · subst h2
      simp [SC.den, mkPo, imod, ieq]
    · have h3 : ¬ i < j + 1 := by omega
      simp [SC.den, h1, h2, h3]
theorem mk_rows {o : Bool} {t n j : Nat} {k : Int} {sn : Nat → Nat} {sy : Nat → Nat → Int} {po po2 : Nat → Bool} {so : Nat → Option Addr} {sc : Nat → Nat} : symRows o t ⟨n, sn, fun a q => if a = j then mk (kAt k sn j) 1 0 q else if a < j then mk (kAt k sn a) 1 0 q else sy a q, po⟩ so sc = symRows o t ⟨n, sn, fun a q => if a < j + 1 then mk (kAt k sn a) 1 0 q else sy a q, po2⟩ so sc :=
  symRows_congr rfl fun i hi => by
    simp only [symRow]
    congr 1
    congr 1
    funext q
    by_cases h1 : i < j
    · have h2 : ¬ i = j := by omega
      have h3 : i < j + 1 := by omega
      simp [h1, h2, h3]
    · by_cases h2 : i = j
      · subst h2
        simp
      · have h3 : ¬ i < j + 1 := by omega
        simp [h1, h2, h3]
theorem mk_all {o : Bool} {t : Nat} {k : Int} {x : CD} {po : Nat → Bool} {so : Nat → Option Addr} {sc : Nat → Nat} : symRows o t ⟨x.n, x.sn, fun a q => if a < x.n then mk (kAt k x.sn a) 1 0 q else x.sy a q, po⟩ so sc = symRows o t (markCD k x) so sc :=
  symRows_congr rfl fun i hi => by
    have hi : i < x.n := hi
    simp [symRow, markCD, hi]
theorem mk_none {o : Bool} {t : Nat} {k : Int} {x : CD} {so : Nat → Option Addr} {sc : Nat → Nat} : symRows o t x so sc = symRows o t ⟨x.n, x.sn, fun a q => if a < 0 then mk (kAt k x.sn a) 1 0 q else x.sy a q, x.po⟩ so sc :=
  symRows_congr rfl fun i hi => by simp [symRow]
theorem mk_poE {n : Nat} {k : Int} {sn : Nat → Nat} {po : Nat → Bool} : ∀ i, ltN i n → (SC.bool (if i < n then mkPo k sn i else po i)).den = (SC.bool (mkPo k sn i)).den := fun i hi => by
  have h1 : i < n := hi
  simp [SC.den, h1]
def smc : LSm := fun ts ch kk => ∃ (x : CD) (O : Option Addr) (C : Nat) (so : Nat → Option Addr) (sc : Nat → Nat) (tt t cap : Nat) (k0 : Int), (ts.map SV.den = (mcH x O C so sc tt t cap k0 (.int k0) (.il 0) (fun d => (ts.getD d .undef).den)).map SV.den ∧ ch = [.row ⟨true, O, tt, 2, x.n, cap, cellFld 1 x so sc⟩, .obj true (symRows true t x so sc)] ∧ capK x ∧ mrkC k0) ∧ ∀ (g : Nat → Value) (kx : Int), kk (.exit 0) (mcH x O C so sc tt t cap k0 (.int (kAt k0 x.sn x.n)) (.int kx) g) (mcE x O C so sc tt t cap k0)
theorem mcB (x : CD) (O : Option Addr) (C : Nat) (so : Nat → Option Addr) (sc : Nat → Nat) (tt t cap : Nat) (k0 : Int) (j : Nat) (g : Nat → Value) (NX : List SV → List Ch → Prop) (kx : Exit → List SV → List Ch → Prop) : (exCode Try.prog {tb := [(59, sMarkN)], D := fun _ => [1]} 400 (theLoop Try.f58 0) (mcH x O C so sc tt t cap k0 (.int (kAt k0 x.sn j)) (.int ((j : Nat) : Int)) g) (mcT x O C so sc tt t cap k0 j) (loopK NX kx)) = (
  (((decide (((j : Nat) : Int) < ((x.1 : Nat) : Int))) = true →
 (O = O ∧
 (x.1 = x.1 ∧
 ((0 ≤ ((j : Nat) : Int) ∧ ((j : Nat) : Int) < ((x.1 : Nat) : Int)) ∧
 (O = O ∧
 (j < x.1 ∧
 (O = O ∧
 (j < x.1 ∧
 (∃ t0 : Nat, (∃ y1 : CD, (∃ so2 : (Nat →
 (Option Addr)), (∃ sc3 : (Nat →
 Nat), (∃ i4 : Nat, (((symRows true t (CD.mk x.1 x.2 (fun a5 => (fun q6 => (if a5 < j then (mk (kAt k0 x.2 a5) 1 0 q6) else (x.3 a5 q6)))) x.4) so sc) = (symRows true t0 y1 so2 sc3) ∧
 ((so j) = (so2 i4) ∧
 ((x.2 j) = (y1.2 i4) ∧
 (i4 < y1.1 ∧
 (markC (x.2 j) (kAt k0 x.2 j)))))) ∧
 ((divC (mk (kAt k0 x.2 j) 1 0 (x.2 j)) (3 : Int)) ∧
 (O = O ∧
 (x.1 = x.1 ∧
 ((0 ≤ ((j : Nat) : Int) ∧ ((j : Nat) : Int) < ((x.1 : Nat) : Int)) ∧
 (O = O ∧
 (j < x.1 ∧
 (O = O ∧
 (j < x.1 ∧
 ((rng ((mk (kAt k0 x.2 j) 1 0 (x.2 j)) + (1 : Int))) ∧
 ((rng (((j : Nat) : Int) + (1 : Int))) ∧
 (NX [(sV 0 O x.1 C), (iV ((mk (kAt k0 x.2 j) 1 0 (x.2 j)) + (1 : Int))), (vV (g 2)), (vV (g 3)), (vV (g 4)), (iV (((j : Nat) : Int) + (1 : Int))), (iV ((j : Nat) : Int)), (sV 0 O x.1 C), (iV ((x.1 : Nat) : Int)), tV, (iV ((j : Nat) : Int)), (iV (((j : Nat) : Int) + (1 : Int))), (sV 0 O x.1 C), (iV ((j : Nat) : Int)), (rV 0 O 2 j 0), (rV 0 O 2 j 0), (sV 1 (so j) (x.2 j) (sc j)), (iV (kAt k0 x.2 j)), (iV (mk (kAt k0 x.2 j) 1 0 (x.2 j))), (sV 0 O x.1 C), (iV ((j : Nat) : Int)), (iV (mk (kAt k0 x.2 j) 1 0 (x.2 j))), (iV ((mk (kAt k0 x.2 j) 1 0 (x.2 j)) % (3 : Int))), (bV (((mk (kAt k0 x.2 j) 1 0 (x.2 j)) % (3 : Int)) == (0 : Int))), (rV 0 O 2 j 0), (rV 0 O 2 j 1), (iV (mk (kAt k0 x.2 j) 1 0 (x.2 j))), (iV ((mk (kAt k0 x.2 j) 1 0 (x.2 j)) + (1 : Int))), (vV (g 28))] [(Hr true O tt 2 x.1 cap [(fun i7 => (Cs 1 (so i7) (x.2 i7) (sc i7))), (fun j8 => (Cb (if j8 = j then (((mk (kAt k0 x.2 j) 1 0 (x.2 j)) % (3 : Int)) == (0 : Int)) else (if j8 < j then (mkPo k0 x.2 j8) else (x.4 j8)))))]), (Ho true (symRows true t0 (CD.mk y1.1 y1.2 (fun a9 => (fun q10 => (if a9 = i4 then (mk (kAt k0 x.2 j) 1 0 q10) else (y1.3 a9 q10)))) y1.4) so2 sc3))]))))))))))))))))))))))))) ∧
 ((decide (((j : Nat) : Int) < ((x.1 : Nat) : Int))) = false →
 (kx (Exit.exit 0) [(sV 0 O x.1 C), (iV (kAt k0 x.2 j)), (vV (g 2)), (vV (g 3)), (vV (g 4)), (iV ((j : Nat) : Int)), (iV ((j : Nat) : Int)), (sV 0 O x.1 C), (iV ((x.1 : Nat) : Int)), fV, (vV (g 10)), (vV (g 11)), (vV (g 12)), (vV (g 13)), (vV (g 14)), (vV (g 15)), (vV (g 16)), (vV (g 17)), (vV (g 18)), (vV (g 19)), (vV (g 20)), (vV (g 21)), (vV (g 22)), (vV (g 23)), (vV (g 24)), (vV (g 25)), (vV (g 26)), (vV (g 27)), (vV (g 28))] [(Hr true O tt 2 x.1 cap [(fun i11 => (Cs 1 (so i11) (x.2 i11) (sc i11))), (fun i12 => (Cb (if i12 < j then (mkPo k0 x.2 i12) else (x.4 i12))))]), (Ho true (symRows true t (CD.mk x.1 x.2 (fun a13 => (fun q14 => (if a13 < j then (mk (kAt k0 x.2 a13) 1 0 q14) else (x.3 a13 q14)))) x.4) so sc))])))) := by kernel_rfl
theorem mc_ok (X : Cx) : LoopOK Try.prog X (theLoop Try.f58 0) smc := by
  intro ts ch kk a w hS hT hd hs
  obtain ⟨x, O, C, so, sc, tt, t, cap, k0, ⟨h1, rfl, hcap, hk0⟩, hk⟩ := hS
  have hn0 := totN_n (sn := x.sn) x.n
  have hcap' : totN x.sn x.n ≤ 2097152 := hcap
  have hk1 := hk0.1
  have hk2 := hk0.2
  refine loop_ok mixed (E := {tb := [(59, sMarkN)], D := fun _ => [1]}) ⟨sMarkN_ok, trivial⟩ (loopsOK_nil _ _ _) 400 x.n (fun j ts ch => ∃ g, ts = mcH x O C so sc tt t cap k0 (.int (kAt k0 x.sn j)) (.int ((j : Nat) : Int)) g ∧ ch = mcT x O C so sc tt t cap k0 j) ?_ ?_ hT hd hs
  · rintro j _ _ ⟨g, rfl, rfl⟩ hj
    refine (@Eq.mpr _ _ (mcB x O C so sc tt t cap k0 j g _ _) ?_)
    have hb := kAt_in (k := k0) hj hcap' (by omega)
    by_cases hlt : j < x.n
    · have hsn : x.sn j ≤ 2097152 := by have := totN_sn (sn := x.sn) hlt; omega
      have hmc : markC (x.sn j) (kAt k0 x.sn j) := ⟨hsn, hb.1, hb.2⟩
      have hm : 0 ≤ mk (kAt k0 x.sn j) 1 0 (x.sn j) ∧ mk (kAt k0 x.sn j) 1 0 (x.sn j) ≤ 1099513724928 := by simp only [mk]; omega
      repeat' (first
        | with_reducible exact rfl
        | exact True.intro
        | with_reducible assumption
        | (refine ⟨_, _, _, _, _, ⟨rfl, rfl, rfl, ?_, hmc⟩, ?_⟩)
        | (refine ⟨hlt, ?_⟩; show Next _ _ _ _; refine Next.mk (fun g => mcH x O C so sc tt t cap k0 (.int (kAt k0 x.sn (j + 1))) (.int (((j + 1) : Nat) : Int)) g) (mcT x O C so sc tt t cap k0 (j + 1)) ⟨_, rfl, rfl⟩ (by rw [← kAt_next]; rfl) fun w hw => SelS.hs (l := [0, 1]) (by refine ⟨?_, rfl⟩; repeat' (first | exact True.intro | exact symRows_push | exact rfl | refine And.intro ?_ ?_ | (intro i hi; show _ = _; with_reducible rfl) | (intro i hi; show _ = _; rfl) | exact mk_po | exact mk_rows | (intro i hi; show _ = _; simp only [SC.den]; split <;> rfl))) hw)
        | refine And.intro ?_ ?_
        | apply Exists.intro
        | (intro h; replace h := of_decide_eq_true h; first | (exfalso; omega) | skip)
        | (intro h; replace h := of_decide_eq_false h; first | (exfalso; omega) | skip)
        | intro _
        | omega
        | (simp; omega))
    · have hjn : j = x.n := by omega
      subst hjn
      repeat' (first
        | with_reducible exact rfl
        | exact True.intro
        | with_reducible assumption
        | (refine Next.mk (fun g => mcH x O C so sc tt t cap k0 (.int (kAt k0 x.sn x.n)) (.int (x.n : Int)) g) _ (hk _ _) rfl fun w hw => SelS.hs (l := [0, 1]) (by refine ⟨?_, rfl⟩; repeat' (first | exact True.intro | exact symRows_push | exact rfl | refine And.intro ?_ ?_ | (intro i hi; show _ = _; with_reducible rfl) | (intro i hi; show _ = _; rfl) | exact mk_all | exact mk_poE | (intro i hi; show _ = _; simp only [SC.den]; split <;> rfl))) hw)
        | refine And.intro ?_ ?_
        | apply Exists.intro
        | (intro h; replace h := of_decide_eq_true h; first | (exfalso; omega) | skip)
        | (intro h; replace h := of_decide_eq_false h; first | (exfalso; omega) | skip)
        | intro _
        | omega
        | (simp; omega))
  · refine Next.mk (fun g => mcH x O C so sc tt t cap k0 (.int (kAt k0 x.sn 0)) (.int ((0 : Nat) : Int)) g) _ ⟨_, rfl, rfl⟩ (by rw [h1]; simp [mcH, SV.den, SA.den, SC.den, kAt, totN]) fun w hw => SelS.hs (l := [0, 1]) (by refine ⟨?_, rfl⟩; repeat' (first | exact True.intro | exact symRows_push | exact rfl | refine And.intro ?_ ?_ | (intro i hi; show _ = _; with_reducible rfl) | (intro i hi; show _ = _; rfl) | exact mk_none | (intro i hi; simp [SC.den]; done) | (intro i hi; show _ = _; simp only [SC.den]; split <;> rfl))) hw
theorem markCs_T (x : CD) (O : Option Addr) (C : Nat) (so : Nat → Option Addr) (sc : Nat → Nat) (tt t cap : Nat) (k0 : Int) : (exFn Try.prog { L := [(2, smc)] } 400 Try.f58 ([.a (.c (.sl 0 O x.n C)), .a (.c (.int k0))]) ([.row ⟨true, O, tt, 2, x.n, cap, cellFld 1 x so sc⟩, .obj true (symRows true t x so sc)]) (fun v ch => v.den = .int .i64 (kAt k0 x.sn x.n) ∧ SelS ch [0, 1] (mcE x O C so sc tt t cap k0))) = (
  (∃ x0 : CD, (∃ O1 : (Option Addr), (∃ C2 : Nat, (∃ so3 : (Nat →
 (Option Addr)), (∃ sc4 : (Nat →
 Nat), (∃ tt5 : Nat, (∃ t6 : Nat, (∃ cap7 : Nat, (∃ k08 : Int, (([(Ws O x.1 C), (Wi k0), (Wu []), (Wu []), (Wi 0), (Wi 0), (Wu []), (Wu []), (Wu []), (Wu []), (Wu []), (Wu []), (Wu []), (Wu []), (Wu []), (Wu []), (Wu []), (Wu []), (Wu []), (Wu []), (Wu []), (Wu []), (Wu []), (Wu []), (Wu []), (Wu []), (Wu []), (Wu []), (Wu [])] = [(Ws O1 x0.1 C2), (Wi k08), (Wu []), (Wu []), (Wi 0), (Wi 0), (Wu []), (Wu []), (Wu []), (Wu []), (Wu []), (Wu []), (Wu []), (Wu []), (Wu []), (Wu []), (Wu []), (Wu []), (Wu []), (Wu []), (Wu []), (Wu []), (Wu []), (Wu []), (Wu []), (Wu []), (Wu []), (Wu []), (Wu [])] ∧
 ([(Hr true O tt 2 x.1 cap [(fun i9 => (Cs 1 (so i9) (x.2 i9) (sc i9))), (fun i10 => (Cb (x.4 i10)))]), (Ho true (symRows true t x so sc))] = [(Hr true O1 tt5 2 x0.1 cap7 [(fun i11 => (Cs 1 (so3 i11) (x0.2 i11) (sc4 i11))), (fun i12 => (Cb (x0.4 i12)))]), (Ho true (symRows true t6 x0 so3 sc4))] ∧
 ((capK x0) ∧
 (mrkC k08)))) ∧
 (∀ g13 : (Nat →
 Value),
 (∀ kx14 : Int,
 ((Wi (kAt k08 x0.2 x0.1)) = (Wi (kAt k0 x.2 x.1)) ∧
 (SelS [(Hr true O1 tt5 2 x0.1 cap7 [(fun i15 => (Cs 1 (so3 i15) (((markCD k08 x0)).2 i15) (sc4 i15))), (fun i16 => (Cb (((markCD k08 x0)).4 i16)))]), (Ho true (symRows true t6 (markCD k08 x0) so3 sc4))] [0, 1] [(Hr true O tt 2 x.1 cap [(fun i17 => (Cs 1 (so i17) (((markCD k0 x)).2 i17) (sc i17))), (fun i18 => (Cb (((markCD k0 x)).4 i18)))]), (Ho true (symRows true t (markCD k0 x) so sc))]))))))))))))))) := by kernel_rfl
theorem markCs_any (x : CD) (O : Option Addr) (C : Nat) (so : Nat → Option Addr) (sc : Nat → Nat) (tt t cap : Nat) (k0 : Int) (w : World) (M : Nat → Prop) (hs : HS ⟨w, M⟩ [.row ⟨true, O, tt, 2, x.n, cap, cellFld 1 x so sc⟩, .obj true (symRows true t x so sc)] w) (hcap : capK x) (hk0 : mrkC k0) : Calls Try.prog 58 #[.slice O x.n C, .int .i64 k0] w fun e w' => e = .returned (.int .i64 (kAt k0 x.sn x.n)) ∧ HS ⟨w, M⟩ (mcE x O C so sc tt t cap k0) w' := by
  refine fn_ok mixed (E := { L := [(2, smc)] }) trivial Try.func58 (one_loop (by kernel_rfl) (by kernel_rfl) (mc_ok _)) (@Eq.mpr _ _ (markCs_T x O C so sc tt t cap k0) ?_) hs (fun v ch' w' ⟨hv, hc⟩ hs => ⟨by rw [hv], hc.hs hs⟩)
  clear hs
  repeat' (first
    | with_reducible exact rfl
    | exact True.intro
    | with_reducible assumption
    | exact hcap
    | exact hk0
    | exact (by refine ⟨?_, rfl⟩; repeat' (first | exact True.intro | exact symRows_push | exact rfl | refine And.intro ?_ ?_ | (intro i hi; show _ = _; with_reducible rfl) | (intro i hi; show _ = _; rfl) | (intro i hi; show _ = _; simp only [SC.den]; split <;> rfl)))
    | refine And.intro ?_ ?_
    | apply Exists.intro
    | intro _
    | omega)
def sMarkCs : Sm := fun args ch kk =>
  match args with
  | [.a (.c (.sl i0 a0 n0 _)), .a (.c kc)] =>
    match ch[i0]?, asI kc with
    | some (.row r0), some k0 =>
      match ch[nidOf r0.fld]? with
      | some (.obj true rs) => ∃ (t : Nat) (y : CD) (so : Nat → Option Addr) (sc : Nat → Nat), (rs = symRows true t y so sc ∧ r0.fld = cellFld (nidOf r0.fld) y so sc ∧ a0 = r0.ao ∧ n0 = r0.n ∧ n0 = y.n ∧ r0.own = true ∧ capK y ∧ mrkC k0) ∧
          kk (.a (.c (.int (kAt k0 y.sn y.n)))) ((ch.set i0 (.row { r0 with fld := cellFld (nidOf r0.fld) (markCD k0 y) so sc })).set (nidOf r0.fld) (.obj true (symRows true t (markCD k0 y) so sc))) [i0, nidOf r0.fld]
      | _ => False
    | _, _ => False
  | _ => False
theorem row_obj_ne {ch : List Ch} {i j : Nat} {r : Row} {o : Bool} {rs : List Row} (h1 : ch[i]? = some (.row r)) (h2 : ch[j]? = some (.obj o rs)) : i ≠ j := fun e => by
  rw [e, h2] at h1
  cases h1
theorem sym_at {o : Bool} {t : Nat} {x y : CD} {so : Nat → Option Addr} {sc : Nat → Nat} (hn : y.n = x.n) (hs : ∀ i, i < x.n → y.sn i = x.sn i) : ∀ b, (Ch.obj o (symRows o t y so sc)).at b → (Ch.obj o (symRows o t x so sc)).at b := fun b ⟨r, hr, ha⟩ => by
  obtain ⟨i, hi, rfl⟩ := List.mem_map.1 hr
  have hi : i < x.n := by have := List.mem_range.1 hi; omega
  refine ⟨_, symRows_mem hi, ?_⟩
  obtain ⟨h1, off, h2⟩ := ha
  refine ⟨?_, off, h2⟩
  rcases h1 with h1 | h1
  · exact .inl h1
  · right
    simp only [symRow] at h1 ⊢
    rw [← hs i hi]
    exact h1
theorem sMarkCs_ok : SmOK Try.prog 58 sMarkCs := by
  refine ⟨Try.call58, fun X args ch kk w h0 hs => ?_⟩
  unfold sMarkCs at h0
  split at h0
  · rename_i i0 a0 n0 c0 kc
    split at h0
    · rename_i r0 k0 hi0 hkc
      split at h0
      · rename_i rs hid
        obtain ⟨t, y, so, sc, ⟨rfl, f0, rfl, rfl, hn, ho, hc, hk⟩, h1⟩ := h0
        have hne := row_obj_ne hi0 hid
        have hr : r0.sat w := hs.sat i0 _ hi0
        have h2 : r0.s = 2 := by have := hr.1; rw [f0] at this; exact this.symm
        have hsel := hs.owns [i0, nidOf r0.fld] (by simp [hne]) (fun b => (Ch.row r0).at b ∨ (Ch.obj true (symRows true t y so sc)).at b) (fun i c b hi _ hb => by
          have e : selC ch [i0, nidOf r0.fld] = [.row r0, .obj true (symRows true t y so sc)] := by simp [selC, hi0, hid]
          rw [e] at hi
          match i with
          | 0 => simp at hi; subst hi; exact .inl hb
          | 1 => simp at hi; subst hi; exact .inr hb
          | i + 2 => simp at hi)
        have e : selC ch [i0, nidOf r0.fld] = [.row r0, .obj true (symRows true t y so sc)] := by simp [selC, hi0, hid]
        rw [e] at hsel
        obtain ⟨ow, O, tt, s', n, cap, fs⟩ := r0
        simp only at f0 hn ho h2 hr h1 hid hi0 hne hsel ⊢
        subst ho
        subst h2
        subst hn
        simp only [List.map_cons, List.map_nil, den_a, den_c, asI_den hkc]
        have hst : HS ⟨w, fun b => (Ch.row ⟨true, O, tt, 2, y.n, cap, fs⟩).at b ∨ (Ch.obj true (symRows true t y so sc)).at b⟩ [.row ⟨true, O, tt, 2, y.n, cap, cellFld 1 y so sc⟩, .obj true (symRows true t y so sc)] w := by
          refine hsel.reS ⟨⟨rfl, rfl, rfl, rfl, rfl, rfl, ?_⟩, ⟨rfl, rfl⟩, trivial⟩
          rw [f0]
          exact ⟨fun i hi => rfl, fun i hi => rfl, trivial⟩
        refine Calls.mono (markCs_any y O c0 so sc tt t cap k0 w _ hst hc hk) fun e w' ⟨he, hs'⟩ => ⟨.a (.c (.int (kAt k0 y.sn y.n))), _, [i0, nidOf fs], he, ?_, ?_, h1⟩
        · refine hs.swap2 hi0 hid hne rfl rfl hs' ?_ (hs'.sat 1 _ rfl) (fun b hb => ⟨.inl rfl, hb.2⟩) (sym_at rfl fun _ _ => rfl)
          exact Row.reF (hs'.sat 0 _ rfl) ⟨fun i hi => rfl, fun i hi => rfl, trivial⟩
        · intro i c hi hm
          have h3 : i ≠ i0 := fun q => hm (by simp [q])
          have h4 : i ≠ nidOf fs := fun q => hm (by simp [q])
          rw [List.getElem?_set_ne (fun q => h4 q.symm), List.getElem?_set_ne (fun q => h3 q.symm)]
          exact hi
      · exact h0.elim
    · exact h0.elim
  · exact h0.elim

def hcH (x : CD) (O : Option Addr) (C : Nat) (so : Nat → Option Addr) (sc : Nat → Nat) (k0 : Int) (k i : SC) (g : Nat → Value) : List SV := [.a (.c (.sl 0 O x.n C)), .a (.c k), .a (.c (.val (g 2))), .a (.c (.val (g 3))), .a (.c (.il 0)), .a (.c i), .a (.c (.val (g 6))), .a (.c (.val (g 7))), .a (.c (.val (g 8))), .a (.c (.val (g 9))), .a (.c (.val (g 10))), .a (.c (.val (g 11))), .a (.c (.val (g 12))), .a (.c (.val (g 13))), .a (.c (.val (g 14))), .a (.c (.val (g 15))), .a (.c (.val (g 16))), .a (.c (.val (g 17))), .a (.c (.val (g 18))), .a (.c (.val (g 19))), .a (.c (.val (g 20))), .a (.c (.val (g 21))), .a (.c (.val (g 22))), .a (.c (.val (g 23))), .a (.c (.val (g 24))), .a (.c (.val (g 25))), .a (.c (.val (g 26))), .a (.c (.val (g 27))), .a (.c (.val (g 28))), .a (.c (.val (g 29))), .a (.c (.val (g 30))), .a (.c (.val (g 31))), .a (.c (.val (g 32)))]
def hcT (x : CD) (O : Option Addr) (C : Nat) (so : Nat → Option Addr) (sc : Nat → Nat) (k0 : Int) : List Ch := [.row ⟨false, O, 0, 2, (markCD k0 x).n, 0, cellFld 1 (markCD k0 x) so sc⟩, .obj false (symRows false 0 (markCD k0 x) so (fun _ => 0))]
def shc : LSm := fun ts ch kk => ∃ (x : CD) (O : Option Addr) (C : Nat) (so : Nat → Option Addr) (sc : Nat → Nat) (k0 : Int), (ts.map SV.den = (hcH x O C so sc k0 (.int k0) (.il 0) (fun d => (ts.getD d .undef).den)).map SV.den ∧ ch = hcT x O C so sc k0 ∧ capK x ∧ mrkC k0) ∧ ∀ (g : Nat → Value) (kx : Int), kk (.exit 0) (hcH x O C so sc k0 (.int (kAt k0 x.sn x.n)) (.int kx) g) (hcT x O C so sc k0)
theorem hcB (x : CD) (O : Option Addr) (C : Nat) (so : Nat → Option Addr) (sc : Nat → Nat) (k0 : Int) (j : Nat) (g : Nat → Value) (NX : List SV → List Ch → Prop) (kx : Exit → List SV → List Ch → Prop) : (exCode Try.prog {tb := [(61, sHeldN)]} 400 (theLoop Try.f60 0) (hcH x O C so sc k0 (.int (kAt k0 x.sn j)) (.int ((j : Nat) : Int)) g) (hcT x O C so sc k0) (loopK NX kx)) = (
  (((decide (((j : Nat) : Int) < ((x.1 : Nat) : Int))) = true →
 (O = O ∧
 (x.1 = ((markCD k0 x)).1 ∧
 ((0 ≤ ((j : Nat) : Int) ∧ ((j : Nat) : Int) < ((x.1 : Nat) : Int)) ∧
 (O = O ∧
 (j < ((markCD k0 x)).1 ∧
 (O = O ∧
 (j < ((markCD k0 x)).1 ∧
 (∃ t0 : Nat, (∃ y1 : CD, (∃ so2 : (Nat →
 (Option Addr)), (∃ sc3 : (Nat →
 Nat), (∃ i4 : Nat, (((symRows false 0 (markCD k0 x) so (fun x5 => 0)) = (symRows false t0 y1 so2 sc3) ∧
 ((so j) = (so2 i4) ∧
 ((((markCD k0 x)).2 j) = (y1.2 i4) ∧
 i4 < y1.1))) ∧
 (((markC (((markCD k0 x)).2 j) (kAt k0 x.2 j)) ∧
 (allEq (((markCD k0 x)).2 j) (y1.3 i4) (fun q6 => (mk (kAt k0 x.2 j) 1 0 q6)))) ∧
 (((decide ((mk (kAt k0 x.2 j) 1 0 (((markCD k0 x)).2 j)) < (0 : Int))) = true →
 (kx Exit.ret [(sV 0 O x.1 C), (iV (mk (kAt k0 x.2 j) 1 0 (((markCD k0 x)).2 j))), (vV (g 2)), (vV (g 3)), (lV (-1)), (iV ((j : Nat) : Int)), (iV ((j : Nat) : Int)), (sV 0 O x.1 C), (iV ((x.1 : Nat) : Int)), tV, (vV (g 10)), (vV (g 11)), (sV 0 O x.1 C), (iV ((j : Nat) : Int)), (rV 0 O 2 j 0), (rV 0 O 2 j 0), (sV 1 (so j) (((markCD k0 x)).2 j) (sc j)), (iV (kAt k0 x.2 j)), (iV (mk (kAt k0 x.2 j) 1 0 (((markCD k0 x)).2 j))), (iV (mk (kAt k0 x.2 j) 1 0 (((markCD k0 x)).2 j))), tV, (vV (g 21)), (vV (g 22)), (vV (g 23)), (vV (g 24)), (vV (g 25)), (vV (g 26)), (vV (g 27)), (vV (g 28)), (vV (g 29)), (vV (g 30)), (vV (g 31)), (vV (g 32))] [(Hr false O 0 2 ((markCD k0 x)).1 0 [(fun i7 => (Cs 1 (so i7) (((markCD k0 x)).2 i7) (sc i7))), (fun i8 => (Cb (((markCD k0 x)).4 i8)))]), (Ho false (symRows false 0 (markCD k0 x) so (fun x9 => 0)))])) ∧
 ((decide ((mk (kAt k0 x.2 j) 1 0 (((markCD k0 x)).2 j)) < (0 : Int))) = false →
 (O = O ∧
 (x.1 = ((markCD k0 x)).1 ∧
 ((0 ≤ ((j : Nat) : Int) ∧ ((j : Nat) : Int) < ((x.1 : Nat) : Int)) ∧
 (O = O ∧
 (j < ((markCD k0 x)).1 ∧
 (O = O ∧
 (j < ((markCD k0 x)).1 ∧
 ((divC (mk (kAt k0 x.2 j) 1 0 (((markCD k0 x)).2 j)) (3 : Int)) ∧
 ((((((markCD k0 x)).4 j) != (((mk (kAt k0 x.2 j) 1 0 (((markCD k0 x)).2 j)) % (3 : Int)) == (0 : Int))) = true →
 (kx Exit.ret [(sV 0 O x.1 C), (iV (mk (kAt k0 x.2 j) 1 0 (((markCD k0 x)).2 j))), (vV (g 2)), (vV (g 3)), (lV (-1)), (iV ((j : Nat) : Int)), (iV ((j : Nat) : Int)), (sV 0 O x.1 C), (iV ((x.1 : Nat) : Int)), tV, (vV (g 10)), (vV (g 11)), (sV 0 O x.1 C), (iV ((j : Nat) : Int)), (rV 0 O 2 j 0), (rV 0 O 2 j 0), (sV 1 (so j) (((markCD k0 x)).2 j) (sc j)), (iV (kAt k0 x.2 j)), (iV (mk (kAt k0 x.2 j) 1 0 (((markCD k0 x)).2 j))), (iV (mk (kAt k0 x.2 j) 1 0 (((markCD k0 x)).2 j))), fV, (sV 0 O x.1 C), (iV ((j : Nat) : Int)), (rV 0 O 2 j 0), (rV 0 O 2 j 1), (bV (((markCD k0 x)).4 j)), (iV (mk (kAt k0 x.2 j) 1 0 (((markCD k0 x)).2 j))), (iV ((mk (kAt k0 x.2 j) 1 0 (((markCD k0 x)).2 j)) % (3 : Int))), (bV (((mk (kAt k0 x.2 j) 1 0 (((markCD k0 x)).2 j)) % (3 : Int)) == (0 : Int))), tV, (vV (g 30)), (vV (g 31)), (vV (g 32))] [(Hr false O 0 2 ((markCD k0 x)).1 0 [(fun i10 => (Cs 1 (so i10) (((markCD k0 x)).2 i10) (sc i10))), (fun i11 => (Cb (((markCD k0 x)).4 i11)))]), (Ho false (symRows false 0 (markCD k0 x) so (fun x12 => 0)))])) ∧
 (((((markCD k0 x)).4 j) != (((mk (kAt k0 x.2 j) 1 0 (((markCD k0 x)).2 j)) % (3 : Int)) == (0 : Int))) = false →
 ((rng ((mk (kAt k0 x.2 j) 1 0 (((markCD k0 x)).2 j)) + (1 : Int))) ∧
 ((rng (((j : Nat) : Int) + (1 : Int))) ∧
 (NX [(sV 0 O x.1 C), (iV ((mk (kAt k0 x.2 j) 1 0 (((markCD k0 x)).2 j)) + (1 : Int))), (vV (g 2)), (vV (g 3)), (lV 0), (iV (((j : Nat) : Int) + (1 : Int))), (iV ((j : Nat) : Int)), (sV 0 O x.1 C), (iV ((x.1 : Nat) : Int)), tV, (iV ((j : Nat) : Int)), (iV (((j : Nat) : Int) + (1 : Int))), (sV 0 O x.1 C), (iV ((j : Nat) : Int)), (rV 0 O 2 j 0), (rV 0 O 2 j 0), (sV 1 (so j) (((markCD k0 x)).2 j) (sc j)), (iV (kAt k0 x.2 j)), (iV (mk (kAt k0 x.2 j) 1 0 (((markCD k0 x)).2 j))), (iV (mk (kAt k0 x.2 j) 1 0 (((markCD k0 x)).2 j))), fV, (sV 0 O x.1 C), (iV ((j : Nat) : Int)), (rV 0 O 2 j 0), (rV 0 O 2 j 1), (bV (((markCD k0 x)).4 j)), (iV (mk (kAt k0 x.2 j) 1 0 (((markCD k0 x)).2 j))), (iV ((mk (kAt k0 x.2 j) 1 0 (((markCD k0 x)).2 j)) % (3 : Int))), (bV (((mk (kAt k0 x.2 j) 1 0 (((markCD k0 x)).2 j)) % (3 : Int)) == (0 : Int))), fV, (iV (mk (kAt k0 x.2 j) 1 0 (((markCD k0 x)).2 j))), (iV ((mk (kAt k0 x.2 j) 1 0 (((markCD k0 x)).2 j)) + (1 : Int))), (vV (g 32))] [(Hr false O 0 2 ((markCD k0 x)).1 0 [(fun i13 => (Cs 1 (so i13) (((markCD k0 x)).2 i13) (sc i13))), (fun i14 => (Cb (((markCD k0 x)).4 i14)))]), (Ho false (symRows false 0 (markCD k0 x) so (fun x15 => 0)))])))))))))))))))))))))))))))))) ∧
 ((decide (((j : Nat) : Int) < ((x.1 : Nat) : Int))) = false →
 (kx (Exit.exit 0) [(sV 0 O x.1 C), (iV (kAt k0 x.2 j)), (vV (g 2)), (vV (g 3)), (lV 0), (iV ((j : Nat) : Int)), (iV ((j : Nat) : Int)), (sV 0 O x.1 C), (iV ((x.1 : Nat) : Int)), fV, (vV (g 10)), (vV (g 11)), (vV (g 12)), (vV (g 13)), (vV (g 14)), (vV (g 15)), (vV (g 16)), (vV (g 17)), (vV (g 18)), (vV (g 19)), (vV (g 20)), (vV (g 21)), (vV (g 22)), (vV (g 23)), (vV (g 24)), (vV (g 25)), (vV (g 26)), (vV (g 27)), (vV (g 28)), (vV (g 29)), (vV (g 30)), (vV (g 31)), (vV (g 32))] [(Hr false O 0 2 ((markCD k0 x)).1 0 [(fun i16 => (Cs 1 (so i16) (((markCD k0 x)).2 i16) (sc i16))), (fun i17 => (Cb (((markCD k0 x)).4 i17)))]), (Ho false (symRows false 0 (markCD k0 x) so (fun x18 => 0)))])))) := by kernel_rfl
theorem hc_ok (X : Cx) : LoopOK Try.prog X (theLoop Try.f60 0) shc := by
  intro ts ch kk a w hS hT hd hs
  obtain ⟨x, O, C, so, sc, k0, ⟨h1, rfl, hcap, hk0⟩, hk⟩ := hS
  have hn0 := totN_n (sn := x.sn) x.n
  have hcap' : totN x.sn x.n ≤ 2097152 := hcap
  have hk1 := hk0.1
  have hk2 := hk0.2
  refine loop_ok mixed (E := {tb := [(61, sHeldN)]}) ⟨sHeldN_ok, trivial⟩ (loopsOK_nil _ _ _) 400 x.n (fun j ts ch => ∃ g, ts = hcH x O C so sc k0 (.int (kAt k0 x.sn j)) (.int ((j : Nat) : Int)) g ∧ ch = hcT x O C so sc k0) ?_ ?_ hT hd hs
  · rintro j _ _ ⟨g, rfl, rfl⟩ hj
    refine (@Eq.mpr _ _ (hcB x O C so sc k0 j g _ _) ?_)
    have hb := kAt_in (k := k0) hj hcap' (by omega)
    by_cases hlt : j < x.n
    · have hsn : x.sn j ≤ 2097152 := by have := totN_sn (sn := x.sn) hlt; omega
      have hmc : markC (x.sn j) (kAt k0 x.sn j) := ⟨hsn, hb.1, hb.2⟩
      have hlt2 : j < (markCD k0 x).n := hlt
      have hm : 0 ≤ mk (kAt k0 x.sn j) 1 0 (x.sn j) ∧ mk (kAt k0 x.sn j) 1 0 (x.sn j) ≤ 1099513724928 := by simp only [mk]; omega
      have e1 : (markCD k0 x).sn j = x.sn j := rfl
      have e2 : (markCD k0 x).n = x.n := rfl
      simp only [e1, e2]
      repeat' (first
        | with_reducible exact rfl
        | exact True.intro
        | with_reducible assumption
        | (refine ⟨_, _, _, _, j, ⟨rfl, rfl, rfl, ?_⟩, ⟨hmc, fun q hq => rfl⟩, ?_⟩)
        | exact ⟨_, _, _, _, j, ⟨rfl, rfl, rfl, hlt2⟩, ⟨hmc, fun q hq => rfl⟩, ?_⟩
        | (intro h; exfalso; simp [markCD, mkPo, imod, ieq] at h; done)
        | (refine ⟨hlt, ?_⟩; show Next _ _ _ _; refine Next.mk (fun g => hcH x O C so sc k0 (.int (kAt k0 x.sn (j + 1))) (.int (((j + 1) : Nat) : Int)) g) _ ⟨_, rfl, rfl⟩ (by rw [← kAt_next]; rfl) fun w hw => hw)
        | refine And.intro ?_ ?_
        | apply Exists.intro
        | (intro h; replace h := of_decide_eq_true h; first | (exfalso; omega) | skip)
        | (intro h; replace h := of_decide_eq_false h; first | (exfalso; omega) | skip)
        | intro _
        | omega
        | (simp; omega))
    · have hjn : j = x.n := by omega
      subst hjn
      repeat' (first
        | with_reducible exact rfl
        | exact True.intro
        | with_reducible assumption
        | (refine Next.mk (fun g => hcH x O C so sc k0 (.int (kAt k0 x.sn x.n)) (.int (x.n : Int)) g) _ (hk _ _) rfl fun w hw => hw)
        | (intro h; exfalso; have e2 : (markCD k0 x).n = x.n := rfl; rw [e2] at h; simp at h; done)
        | refine And.intro ?_ ?_
        | apply Exists.intro
        | (intro h; replace h := of_decide_eq_true h; first | (exfalso; omega) | skip)
        | (intro h; replace h := of_decide_eq_false h; first | (exfalso; omega) | skip)
        | intro _
        | omega
        | (simp; omega))
  · refine Next.mk (fun g => hcH x O C so sc k0 (.int (kAt k0 x.sn 0)) (.int ((0 : Nat) : Int)) g) _ ⟨_, rfl, rfl⟩ (by rw [h1]; simp [hcH, SV.den, SA.den, SC.den, kAt, totN]) fun w hw => hw
theorem heldCs_T (x : CD) (O : Option Addr) (C : Nat) (so : Nat → Option Addr) (sc : Nat → Nat) (k0 : Int) : (exFn Try.prog { L := [(2, shc)] } 400 Try.f60 ([.a (.c (.sl 0 O x.n C)), .a (.c (.int k0))]) (hcT x O C so sc k0) (fun v ch => v.den = .int .i64 (kAt k0 x.sn x.n))) = (
  (∃ x0 : CD, (∃ O1 : (Option Addr), (∃ C2 : Nat, (∃ so3 : (Nat →
 (Option Addr)), (∃ sc4 : (Nat →
 Nat), (∃ k05 : Int, (([(Ws O x.1 C), (Wi k0), (Wu []), (Wu []), (Wi 0), (Wi 0), (Wu []), (Wu []), (Wu []), (Wu []), (Wu []), (Wu []), (Wu []), (Wu []), (Wu []), (Wu []), (Wu []), (Wu []), (Wu []), (Wu []), (Wu []), (Wu []), (Wu []), (Wu []), (Wu []), (Wu []), (Wu []), (Wu []), (Wu []), (Wu []), (Wu []), (Wu []), (Wu [])] = [(Ws O1 x0.1 C2), (Wi k05), (Wu []), (Wu []), (Wi 0), (Wi 0), (Wu []), (Wu []), (Wu []), (Wu []), (Wu []), (Wu []), (Wu []), (Wu []), (Wu []), (Wu []), (Wu []), (Wu []), (Wu []), (Wu []), (Wu []), (Wu []), (Wu []), (Wu []), (Wu []), (Wu []), (Wu []), (Wu []), (Wu []), (Wu []), (Wu []), (Wu []), (Wu [])] ∧
 ([(Hr false O 0 2 ((markCD k0 x)).1 0 [(fun i6 => (Cs 1 (so i6) (((markCD k0 x)).2 i6) (sc i6))), (fun i7 => (Cb (((markCD k0 x)).4 i7)))]), (Ho false (symRows false 0 (markCD k0 x) so (fun x8 => 0)))] = [(Hr false O1 0 2 ((markCD k05 x0)).1 0 [(fun i9 => (Cs 1 (so3 i9) (((markCD k05 x0)).2 i9) (sc4 i9))), (fun i10 => (Cb (((markCD k05 x0)).4 i10)))]), (Ho false (symRows false 0 (markCD k05 x0) so3 (fun x11 => 0)))] ∧
 ((capK x0) ∧
 (mrkC k05)))) ∧
 (∀ g12 : (Nat →
 Value),
 (∀ kx13 : Int,
 (Wi (kAt k05 x0.2 x0.1)) = (Wi (kAt k0 x.2 x.1)))))))))))) := by kernel_rfl
theorem heldCs_any (x : CD) (O : Option Addr) (C : Nat) (so : Nat → Option Addr) (sc : Nat → Nat) (k0 : Int) (w : World) (hA : SeenC w (markCD k0 x) O so sc) (hcap : capK x) (hk0 : mrkC k0) : Calls Try.prog 60 #[.slice O x.n C, .int .i64 k0] w fun e w' => e = .returned (.int .i64 (kAt k0 x.sn x.n)) ∧ Below w.heap.size w w' := by
  refine fn_ok mixed (E := { L := [(2, shc)] }) trivial Try.func60 (one_loop (by kernel_rfl) (by kernel_rfl) (hc_ok _)) (@Eq.mpr _ _ (heldCs_T x O C so sc k0) ?_) (HS.seenAll (fun _ => False) _ (hA.all 1 seenC_nil)) (fun v ch' w' hv hs => ⟨by rw [hv], hs.below⟩)
  clear hA
  repeat' (first
    | with_reducible exact rfl
    | exact True.intro
    | with_reducible assumption
    | exact hcap
    | exact hk0
    | refine And.intro ?_ ?_
    | apply Exists.intro
    | intro _
    | omega)
def sHeldCs : Sm := fun args ch kk =>
  match args with
  | [.a (.c c), .a (.c kc)] =>
    match asI kc with
    | some k0 => rdK ch c fun y => ∃ x : CD, (y = markCD k0 x ∧ capK x ∧ mrkC k0) ∧ kk (.a (.c (.int (kAt k0 x.sn x.n)))) ch []
    | none => False
  | _ => False
theorem sHeldCs_ok : SmOK Try.prog 60 sHeldCs := by
  refine smB Try.call60 fun args ch kk w X h0 hs => ?_
  unfold sHeldCs at h0
  split at h0
  · split at h0
    · rename_i k0 hkc
      obtain ⟨y, O, C, so, sc, e, hA, x, ⟨rfl, hc, hk⟩, h1⟩ := rdK_ok h0 hs
      refine ⟨_, h1, ?_⟩
      simp only [List.map_cons, List.map_nil, den_a, den_c, e, asI_den hkc]
      exact heldCs_any x O C so sc k0 w hA hc hk
    · exact h0.elim
  · exact h0.elim
def endArray (k : Int) (x : AD) : Int := mk (mk (kAt k x.c.sn x.c.n) 1 0 x.aN) 1 0 x.hN
def markArrayD (k : Int) (x : AD) : AD := ⟨markCD k x.c, x.aN, fun i => mk (kAt k x.c.sn x.c.n) 1 0 i, x.hN, fun i => mk (mk (kAt k x.c.sn x.c.n) 1 0 x.aN) 1 0 i⟩
theorem markA_T (x : AD) (O A H : Option Addr) (C D E : Nat) (so : Nat → Option Addr) (sc : Nat → Nat) (tA tB tC tD kA kB kC : Nat) (k0 : Int) : (exFn Try.prog {tb := [(58, sMarkCs), (59, sMarkIntS)]} 400 Try.f18 ([.a (arrS 0 x O A H C D E), .a (.c (.int k0))]) ([.row ⟨true, O, tA, 2, x.c.n, kA, cellFld 3 x.c so sc⟩, .row ⟨true, A, tB, 1, x.aN, kB, [fun i => .int (x.ag i)]⟩, .row ⟨true, H, tC, 1, x.hN, kC, [fun i => .int (x.hg i)]⟩, .obj true (symRows true tD x.c so sc)]) (fun v ch => v.den = .int .i64 (endArray k0 x) ∧ SelS ch [0, 1, 2, 3] [.row ⟨true, O, tA, 2, (markArrayD k0 x).c.n, kA, cellFld 3 (markArrayD k0 x).c so sc⟩, .row ⟨true, A, tB, 1, (markArrayD k0 x).aN, kB, [fun i => .int ((markArrayD k0 x).ag i)]⟩, .row ⟨true, H, tC, 1, (markArrayD k0 x).hN, kC, [fun i => .int ((markArrayD k0 x).hg i)]⟩, .obj true (symRows true tD (markArrayD k0 x).c so sc)])) = (
  (∀ b0 : Nat,
 (b0 = b0 ∧
 (∃ t1 : Nat, (∃ y2 : CD, (∃ so3 : (Nat →
 (Option Addr)), (∃ sc4 : (Nat →
 Nat), (((symRows true tD x.1 so sc) = (symRows true t1 y2 so3 sc4) ∧
 ([(fun i5 => (Cs 3 (so i5) (x.1.2 i5) (sc i5))), (fun i6 => (Cb (x.1.4 i6)))] = [(fun i7 => (Cs 3 (so3 i7) (y2.2 i7) (sc4 i7))), (fun i8 => (Cb (y2.4 i8)))] ∧
 (O = O ∧
 (x.1.1 = x.1.1 ∧
 (x.1.1 = y2.1 ∧
 (true = true ∧
 ((capK y2) ∧
 (mrkC k0)))))))) ∧
 (b0 = b0 ∧
 (∃ g09 : (Nat →
 Int), ((A = A ∧
 (x.2 = x.2 ∧
 ([(fun i10 => (Ci (x.3 i10)))] = [(fun i11 => (Ci (g09 i11)))] ∧
 (markC x.2 (kAt k0 y2.2 y2.1))))) ∧
 (b0 = b0 ∧
 (∃ g012 : (Nat →
 Int), ((H = H ∧
 (x.4 = x.4 ∧
 ([(fun i13 => (Ci (x.5 i13)))] = [(fun i14 => (Ci (g012 i14)))] ∧
 (markC x.4 (mk (kAt k0 y2.2 y2.1) 1 0 x.2))))) ∧
 ((Wi (mk (mk (kAt k0 y2.2 y2.1) 1 0 x.2) 1 0 x.4)) = (Wi (endArray k0 x)) ∧
 (SelS [(Hr true O tA 2 x.1.1 kA [(fun i15 => (Cs 3 (so3 i15) (((markCD k0 y2)).2 i15) (sc4 i15))), (fun i16 => (Cb (((markCD k0 y2)).4 i16)))]), (Hr true A tB 1 x.2 kB [(fun i17 => (Ci (mk (kAt k0 y2.2 y2.1) 1 0 i17)))]), (Hr true H tC 1 x.4 kC [(fun i18 => (Ci (mk (mk (kAt k0 y2.2 y2.1) 1 0 x.2) 1 0 i18)))]), (Ho true (symRows true t1 (markCD k0 y2) so3 sc4)), (Hc b0 33 [(Cs 0 O x.1.1 C), (Cs 1 A x.2 D), (Cs 2 H x.4 E)])] [0, 1, 2, 3] [(Hr true O tA 2 ((markArrayD k0 x)).1.1 kA [(fun i19 => (Cs 3 (so i19) (((markArrayD k0 x)).1.2 i19) (sc i19))), (fun i20 => (Cb (((markArrayD k0 x)).1.4 i20)))]), (Hr true A tB 1 ((markArrayD k0 x)).2 kB [(fun i21 => (Ci (((markArrayD k0 x)).3 i21)))]), (Hr true H tC 1 ((markArrayD k0 x)).4 kC [(fun i22 => (Ci (((markArrayD k0 x)).5 i22)))]), (Ho true (symRows true tD ((markArrayD k0 x)).1 so sc))])))))))))))))))) := by kernel_rfl
theorem markA_any (x : AD) (O A H : Option Addr) (C D E : Nat) (so : Nat → Option Addr) (sc : Nat → Nat) (tA tB tC tD kA kB kC : Nat) (k0 : Int) (w : World) (M : Nat → Prop) (hs : HS ⟨w, M⟩ [.row ⟨true, O, tA, 2, x.c.n, kA, cellFld 3 x.c so sc⟩, .row ⟨true, A, tB, 1, x.aN, kB, [fun i => .int (x.ag i)]⟩, .row ⟨true, H, tC, 1, x.hN, kC, [fun i => .int (x.hg i)]⟩, .obj true (symRows true tD x.c so sc)] w) (hcap : capAx x) (hk0 : mrkC k0) : Calls Try.prog 18 #[arrV x O A H C D E, .int .i64 k0] w fun e w' => e = .returned (.int .i64 (endArray k0 x)) ∧ HS ⟨w, M⟩ [.row ⟨true, O, tA, 2, (markArrayD k0 x).c.n, kA, cellFld 3 (markArrayD k0 x).c so sc⟩, .row ⟨true, A, tB, 1, (markArrayD k0 x).aN, kB, [fun i => .int ((markArrayD k0 x).ag i)]⟩, .row ⟨true, H, tC, 1, (markArrayD k0 x).hN, kC, [fun i => .int ((markArrayD k0 x).hg i)]⟩, .obj true (symRows true tD (markArrayD k0 x).c so sc)] w' := by
  refine fnB (tb := [(58, sMarkCs), (59, sMarkIntS)]) ⟨sMarkCs_ok, sMarkIntS_ok, trivial⟩ Try.func18 (@Eq.mpr _ _ (markA_T x O A H C D E so sc tA tB tC tD kA kB kC k0) ?_) hs (fun v ch' w' ⟨hv, hc⟩ hs => ⟨by rw [hv], hc.hs hs⟩)
  clear hs
  obtain ⟨c1, c2, c3⟩ := hcap
  have hc1 : totN x.c.sn x.c.n ≤ 2097152 := c1
  have hk1 := hk0.1
  have hk2 := hk0.2
  have b1 : 0 ≤ kAt k0 x.c.sn x.c.n ∧ kAt k0 x.c.sn x.c.n ≤ 549757911040 := by simp only [kAt]; omega
  have b2 : 0 ≤ mk (kAt k0 x.c.sn x.c.n) 1 0 x.aN ∧ mk (kAt k0 x.c.sn x.c.n) 1 0 x.aN ≤ 549760008192 := by simp only [mk]; omega
  have b3 : 0 ≤ mk (mk (kAt k0 x.c.sn x.c.n) 1 0 x.aN) 1 0 x.hN := by simp only [mk] at b2 ⊢; omega
  repeat' (first
    | with_reducible exact rfl
    | exact True.intro
    | with_reducible assumption
    | exact hk0
    | exact (by refine ⟨?_, rfl⟩; repeat' (first | exact True.intro | exact symRows_push | exact rfl | refine And.intro ?_ ?_ | (intro i hi; show _ = _; with_reducible rfl) | (intro i hi; show _ = _; rfl) | (intro i hi; show _ = _; simp only [SC.den]; split <;> rfl)))
    | refine And.intro ?_ ?_
    | apply Exists.intro
    | (intro h; replace h := of_decide_eq_true h; first | (exfalso; omega) | skip)
    | (intro h; replace h := of_decide_eq_false h; first | (exfalso; omega) | skip)
    | (intro i hi; with_reducible exact rfl)
    | intro _
    | omega
    | exact rfl)
theorem heldA_T (x : AD) (O A H : Option Addr) (C D E : Nat) (so : Nat → Option Addr) (sc : Nat → Nat) (k0 : Int) : (exFn Try.prog {tb := [(60, sHeldCs), (61, sHeldIntS)]} 400 Try.f19 ([.a (arrS 0 (markArrayD k0 x) O A H C D E), .a (.c (.int k0))]) (arrR 0 (markArrayD k0 x) O A H so sc) (fun v _ => v.den = .int .i64 (endArray k0 x))) = (
  (∀ b0 : Nat,
 (b0 = b0 ∧
 (∃ t1 : Nat, (∃ y2 : CD, (∃ so3 : (Nat →
 (Option Addr)), (∃ sc4 : (Nat →
 Nat), (∃ sd5 : (Nat →
 Nat), (((symRows false 0 ((markArrayD k0 x)).1 so (fun x6 => 0)) = (symRows false t1 y2 so3 sd5) ∧
 ([(fun i7 => (Cs 3 (so i7) (((markArrayD k0 x)).1.2 i7) (sc i7))), (fun i8 => (Cb (((markArrayD k0 x)).1.4 i8)))] = [(fun i9 => (Cs 3 (so3 i9) (y2.2 i9) (sc4 i9))), (fun i10 => (Cb (y2.4 i10)))] ∧
 (O = O ∧
 (((markArrayD k0 x)).1.1 = ((markArrayD k0 x)).1.1 ∧
 ((markArrayD k0 x)).1.1 = y2.1)))) ∧
 (∃ x11 : CD, ((y2 = (markCD k0 x11) ∧
 ((capK x11) ∧
 (mrkC k0))) ∧
 (((decide ((kAt k0 x11.2 x11.1) < (0 : Int))) = true →
 (Wi (-1)) = (Wi (endArray k0 x))) ∧
 ((decide ((kAt k0 x11.2 x11.1) < (0 : Int))) = false →
 (b0 = b0 ∧
 ((A = A ∧
 (((markArrayD k0 x)).2 = ((markArrayD k0 x)).2 ∧
 ([(fun i12 => (Ci (((markArrayD k0 x)).3 i12)))] = [(fun i13 => (Ci (mk (kAt k0 x11.2 x11.1) 1 0 i13)))] ∧
 (markC ((markArrayD k0 x)).2 (kAt k0 x11.2 x11.1))))) ∧
 (((decide ((mk (kAt k0 x11.2 x11.1) 1 0 ((markArrayD k0 x)).2) < (0 : Int))) = true →
 (Wi (-1)) = (Wi (endArray k0 x))) ∧
 ((decide ((mk (kAt k0 x11.2 x11.1) 1 0 ((markArrayD k0 x)).2) < (0 : Int))) = false →
 (b0 = b0 ∧
 ((H = H ∧
 (((markArrayD k0 x)).4 = ((markArrayD k0 x)).4 ∧
 ([(fun i14 => (Ci (((markArrayD k0 x)).5 i14)))] = [(fun i15 => (Ci (mk (mk (kAt k0 x11.2 x11.1) 1 0 ((markArrayD k0 x)).2) 1 0 i15)))] ∧
 (markC ((markArrayD k0 x)).4 (mk (kAt k0 x11.2 x11.1) 1 0 ((markArrayD k0 x)).2))))) ∧
 (((decide ((mk (mk (kAt k0 x11.2 x11.1) 1 0 ((markArrayD k0 x)).2) 1 0 ((markArrayD k0 x)).4) < (0 : Int))) = true →
 (Wi (-1)) = (Wi (endArray k0 x))) ∧
 ((decide ((mk (mk (kAt k0 x11.2 x11.1) 1 0 ((markArrayD k0 x)).2) 1 0 ((markArrayD k0 x)).4) < (0 : Int))) = false →
 (Wi (mk (mk (kAt k0 x11.2 x11.1) 1 0 ((markArrayD k0 x)).2) 1 0 ((markArrayD k0 x)).4)) = (Wi (endArray k0 x))))))))))))))))))))))) := by kernel_rfl
theorem heldA_any (x : AD) (O A H : Option Addr) (C D E : Nat) (so : Nat → Option Addr) (sc : Nat → Nat) (k0 : Int) (w : World) (hA : SeenA w (markArrayD k0 x) O A H so sc) (hcap : capAx x) (hk0 : mrkC k0) : Calls Try.prog 19 #[arrV (markArrayD k0 x) O A H C D E, .int .i64 k0] w fun e w' => e = .returned (.int .i64 (endArray k0 x)) ∧ Below w.heap.size w w' := by
  refine fnB (tb := [(60, sHeldCs), (61, sHeldIntS)]) ⟨sHeldCs_ok, sHeldIntS_ok, trivial⟩ Try.func19 (@Eq.mpr _ _ (heldA_T x O A H C D E so sc k0) ?_) (HS.seenAll (fun _ => False) _ (hA.all 0 seenC_nil)) (fun v ch' w' hv hs => ⟨by rw [hv], hs.below⟩)
  clear hA
  obtain ⟨c1, c2, c3⟩ := hcap
  have hc1 : totN x.c.sn x.c.n ≤ 2097152 := c1
  have hk1 := hk0.1
  have hk2 := hk0.2
  have b1 : 0 ≤ kAt k0 x.c.sn x.c.n ∧ kAt k0 x.c.sn x.c.n ≤ 549757911040 := by simp only [kAt]; omega
  have b2 : 0 ≤ mk (kAt k0 x.c.sn x.c.n) 1 0 x.aN ∧ mk (kAt k0 x.c.sn x.c.n) 1 0 x.aN ≤ 549760008192 := by simp only [mk]; omega
  have b3 : 0 ≤ mk (mk (kAt k0 x.c.sn x.c.n) 1 0 x.aN) 1 0 x.hN := by simp only [mk] at b2 ⊢; omega
  have e1 : (markArrayD k0 x).aN = x.aN := rfl
  have e2 : (markArrayD k0 x).hN = x.hN := rfl
  simp only [e1, e2]
  repeat' (first
    | with_reducible exact rfl
    | exact True.intro
    | with_reducible assumption
    | exact hk0
    | (refine ⟨x.c, ⟨rfl, c1, hk0⟩, ?_⟩)
    | (intro h; exfalso; replace h := of_decide_eq_true h; omega)
    | refine And.intro ?_ ?_
    | apply Exists.intro
    | (intro h; replace h := of_decide_eq_true h; first | (exfalso; omega) | skip)
    | (intro h; replace h := of_decide_eq_false h; first | (exfalso; omega) | skip)
    | (intro i hi; with_reducible exact rfl)
    | intro _
    | omega
    | exact rfl)
def sSzC : Sm := inlM Try.prog {tb := [(44, sSzIntS)]} 300 Try.f62
theorem sSzC_ok : SmOK Try.prog 62 sSzC := inlM_ok mixed (E := {tb := [(44, sSzIntS)]}) ⟨sSzIntS_ok, trivial⟩ Try.func62 Try.call62 (fun _ _ _ => loopsOK_nil _ _ _)
def scH (x : CD) (O : Option Addr) (C : Nat) (so : Nat → Option Addr) (sc : Nat → Nat) (k0 : Int) (k i : SC) (g : Nat → Value) : List SV := [.a (.c (.sl 0 O x.n C)), .a (.c k), .a (.c (.val (g 2))), .a (.c (.val (g 3))), .a (.c (.val (g 4))), .a (.c i), .a (.c (.val (g 6))), .a (.c (.val (g 7))), .a (.c (.val (g 8))), .a (.c (.val (g 9))), .a (.c (.val (g 10))), .a (.c (.val (g 11))), .a (.c (.val (g 12))), .a (.c (.val (g 13))), .a (.c (.val (g 14))), .a (.c (.val (g 15))), .a (.c (.val (g 16))), .a (.c (.val (g 17))), .a (.c (.val (g 18))), .a (.c (.val (g 19))), .a (.c (.val (g 20))), .a (.c (.val (g 21))), .a (.c (.val (g 22))), .a (.c (.val (g 23))), .a (.c (.val (g 24))), .a (.c (.val (g 25))), .a (.c (.val (g 26)))]
def scR (x : CD) (O : Option Addr) (C : Nat) (so : Nat → Option Addr) (sc : Nat → Nat) (k0 : Int) (g : Nat → Value) : List SV := [.a (.c (.val (g 0))), .a (.c (.val (g 1))), .a (.c (.val (g 2))), .a (.c (.val (g 3))), .a (.c (.il (-1))), .a (.c (.val (g 5))), .a (.c (.val (g 6))), .a (.c (.val (g 7))), .a (.c (.val (g 8))), .a (.c (.val (g 9))), .a (.c (.val (g 10))), .a (.c (.val (g 11))), .a (.c (.val (g 12))), .a (.c (.val (g 13))), .a (.c (.val (g 14))), .a (.c (.val (g 15))), .a (.c (.val (g 16))), .a (.c (.val (g 17))), .a (.c (.val (g 18))), .a (.c (.val (g 19))), .a (.c (.val (g 20))), .a (.c (.val (g 21))), .a (.c (.val (g 22))), .a (.c (.val (g 23))), .a (.c (.val (g 24))), .a (.c (.val (g 25))), .a (.c (.val (g 26)))]
abbrev leZ2 (a b : Int) : Prop := a ≤ b
def leftC (k : Int) (x : CD) (j : Nat) : Int := k - (x.n : Int) - (totN x.sn j : Int) + (j : Int)
def scT (x : CD) (O : Option Addr) (C : Nat) (so : Nat → Option Addr) (sc : Nat → Nat) (k0 : Int) : List Ch := [.row ⟨false, O, 0, 2, x.n, 0, cellFld 1 x so sc⟩, .obj false (symRows false 0 x so (fun _ => 0))]
abbrev szK2 (k : Int) (x : CD) : Prop := 0 ≤ k ∧ k ≤ 1048576 ∧ x.n ≤ 9223372036854775807 ∧ ∀ i, i < x.n → x.sn i ≤ 9223372036854775807
def ssc : LSm := fun ts ch kk => ∃ (x : CD) (O : Option Addr) (C : Nat) (so : Nat → Option Addr) (sc : Nat → Nat) (k0 : Int), (ts.map SV.den = (scH x O C so sc k0 (.int (isub k0 (x.n : Int))) (.il 0) (fun d => (ts.getD d .undef).den)).map SV.den ∧ ch = scT x O C so sc k0 ∧ szK2 k0 x ∧ leZ2 0 (isub k0 (x.n : Int))) ∧
    (∀ (g : Nat → Value) (kx : Int), leZ2 0 (leftC k0 x x.n) → kk (.exit 0) (scH x O C so sc k0 (.int (leftC k0 x x.n)) (.int kx) g) (scT x O C so sc k0)) ∧ (∀ (g : Nat → Value), kk .ret (scR x O C so sc k0 g) (scT x O C so sc k0))
theorem scB (x : CD) (O : Option Addr) (C : Nat) (so : Nat → Option Addr) (sc : Nat → Nat) (k0 : Int) (j : Nat) (g : Nat → Value) (NX : List SV → List Ch → Prop) (kx : Exit → List SV → List Ch → Prop) : (exCode Try.prog {tb := [(62, sSzC)]} 400 (theLoop Try.f43 0) (scH x O C so sc k0 (.int (leftC k0 x j)) (.int (j : Int)) g) (scT x O C so sc k0) (loopK NX kx)) = (
  (((decide (((j : Nat) : Int) < ((x.1 : Nat) : Int))) = true →
 (O = O ∧
 (x.1 = x.1 ∧
 ((0 ≤ ((j : Nat) : Int) ∧ ((j : Nat) : Int) < ((x.1 : Nat) : Int)) ∧
 (O = O ∧
 (j < x.1 ∧
 (∀ b0 : Nat,
 (b0 = b0 ∧
 ((szC (x.2 j) (leftC k0 x j)) ∧
 ((((leftC k0 x j) < (((x.2 j) : Nat) : Int)) →
 (kx Exit.ret [(sV 0 O x.1 C), (lV (-1)), (vV (g 2)), (vV (g 3)), (lV (-1)), (iV ((j : Nat) : Int)), (vV (g 6)), (vV (g 7)), (vV (g 8)), (vV (g 9)), (vV (g 10)), (vV (g 11)), (iV ((j : Nat) : Int)), (sV 0 O x.1 C), (iV ((x.1 : Nat) : Int)), tV, (vV (g 16)), (vV (g 17)), (sV 0 O x.1 C), (iV ((j : Nat) : Int)), (rV 0 O 2 j 0), (aV [(Cs 1 (so j) (x.2 j) (sc j)), (Cb (x.4 j))]), (iV (leftC k0 x j)), (lV (-1)), (lV (-1)), tV, (vV (g 26))] [(Hr false O 0 2 x.1 0 [(fun i1 => (Cs 1 (so i1) (x.2 i1) (sc i1))), (fun i2 => (Cb (x.4 i2)))]), (Ho false (symRows false 0 x so (fun x3 => 0))), (Hc b0 46 [(Cs 1 (so j) (x.2 j) (sc j)), (Cb (x.4 j))])])) ∧
 (((((x.2 j) : Nat) : Int) ≤ (leftC k0 x j)) →
 (((decide (((leftC k0 x j) - (((x.2 j) : Nat) : Int)) < (0 : Int))) = true →
 (kx Exit.ret [(sV 0 O x.1 C), (lV (-1)), (vV (g 2)), (vV (g 3)), (lV (-1)), (iV ((j : Nat) : Int)), (vV (g 6)), (vV (g 7)), (vV (g 8)), (vV (g 9)), (vV (g 10)), (vV (g 11)), (iV ((j : Nat) : Int)), (sV 0 O x.1 C), (iV ((x.1 : Nat) : Int)), tV, (vV (g 16)), (vV (g 17)), (sV 0 O x.1 C), (iV ((j : Nat) : Int)), (rV 0 O 2 j 0), (aV [(Cs 1 (so j) (x.2 j) (sc j)), (Cb (x.4 j))]), (iV (leftC k0 x j)), (lV (-1)), (lV (-1)), tV, (vV (g 26))] [(Hr false O 0 2 x.1 0 [(fun i4 => (Cs 1 (so i4) (x.2 i4) (sc i4))), (fun i5 => (Cb (x.4 i5)))]), (Ho false (symRows false 0 x so (fun x6 => 0))), (Hc b0 46 [(Cs 1 (so j) (x.2 j) (sc j)), (Cb (x.4 j))])])) ∧
 ((decide (((leftC k0 x j) - (((x.2 j) : Nat) : Int)) < (0 : Int))) = false →
 (((decide (((leftC k0 x j) - (((x.2 j) : Nat) : Int)) < (0 : Int))) = true →
 (kx Exit.ret [(sV 0 O x.1 C), (iV ((leftC k0 x j) - (((x.2 j) : Nat) : Int))), (vV (g 2)), (vV (g 3)), (lV (-1)), (iV ((j : Nat) : Int)), (vV (g 6)), (vV (g 7)), (vV (g 8)), (vV (g 9)), (vV (g 10)), (vV (g 11)), (iV ((j : Nat) : Int)), (sV 0 O x.1 C), (iV ((x.1 : Nat) : Int)), tV, (vV (g 16)), (vV (g 17)), (sV 0 O x.1 C), (iV ((j : Nat) : Int)), (rV 0 O 2 j 0), (aV [(Cs 1 (so j) (x.2 j) (sc j)), (Cb (x.4 j))]), (iV (leftC k0 x j)), (iV ((leftC k0 x j) - (((x.2 j) : Nat) : Int))), (iV ((leftC k0 x j) - (((x.2 j) : Nat) : Int))), tV, (vV (g 26))] [(Hr false O 0 2 x.1 0 [(fun i7 => (Cs 1 (so i7) (x.2 i7) (sc i7))), (fun i8 => (Cb (x.4 i8)))]), (Ho false (symRows false 0 x so (fun x9 => 0))), (Hc b0 46 [(Cs 1 (so j) (x.2 j) (sc j)), (Cb (x.4 j))])])) ∧
 ((decide (((leftC k0 x j) - (((x.2 j) : Nat) : Int)) < (0 : Int))) = false →
 ((rng (((j : Nat) : Int) + (1 : Int))) ∧
 (NX [(sV 0 O x.1 C), (iV ((leftC k0 x j) - (((x.2 j) : Nat) : Int))), (vV (g 2)), (vV (g 3)), (vV (g 4)), (iV (((j : Nat) : Int) + (1 : Int))), (vV (g 6)), (vV (g 7)), (vV (g 8)), (vV (g 9)), (vV (g 10)), (vV (g 11)), (iV ((j : Nat) : Int)), (sV 0 O x.1 C), (iV ((x.1 : Nat) : Int)), tV, (iV ((j : Nat) : Int)), (iV (((j : Nat) : Int) + (1 : Int))), (sV 0 O x.1 C), (iV ((j : Nat) : Int)), (rV 0 O 2 j 0), (aV [(Cs 1 (so j) (x.2 j) (sc j)), (Cb (x.4 j))]), (iV (leftC k0 x j)), (iV ((leftC k0 x j) - (((x.2 j) : Nat) : Int))), (iV ((leftC k0 x j) - (((x.2 j) : Nat) : Int))), fV, (vV (g 26))] [(Hr false O 0 2 x.1 0 [(fun i10 => (Cs 1 (so i10) (x.2 i10) (sc i10))), (fun i11 => (Cb (x.4 i11)))]), (Ho false (symRows false 0 x so (fun x12 => 0))), (Hc b0 46 [(Cs 1 (so j) (x.2 j) (sc j)), (Cb (x.4 j))])]))))))))))))))))) ∧
 ((decide (((j : Nat) : Int) < ((x.1 : Nat) : Int))) = false →
 (kx (Exit.exit 0) [(sV 0 O x.1 C), (iV (leftC k0 x j)), (vV (g 2)), (vV (g 3)), (vV (g 4)), (iV ((j : Nat) : Int)), (vV (g 6)), (vV (g 7)), (vV (g 8)), (vV (g 9)), (vV (g 10)), (vV (g 11)), (iV ((j : Nat) : Int)), (sV 0 O x.1 C), (iV ((x.1 : Nat) : Int)), fV, (vV (g 16)), (vV (g 17)), (vV (g 18)), (vV (g 19)), (vV (g 20)), (vV (g 21)), (vV (g 22)), (vV (g 23)), (vV (g 24)), (vV (g 25)), (vV (g 26))] [(Hr false O 0 2 x.1 0 [(fun i13 => (Cs 1 (so i13) (x.2 i13) (sc i13))), (fun i14 => (Cb (x.4 i14)))]), (Ho false (symRows false 0 x so (fun x15 => 0)))])))) := by kernel_rfl
theorem left_next {k : Int} {x : CD} {j : Nat} : leftC k x j - (x.sn j : Int) = leftC k x (j + 1) := by
  simp only [leftC, totN]
  omega
theorem sc_ok (X : Cx) : LoopOK Try.prog X (theLoop Try.f43 0) ssc := by
  intro ts ch kk a w hS hT hd hs
  obtain ⟨x, O, C, so, sc, k0, ⟨h1, rfl, hk0, hl0⟩, hk, hr⟩ := hS
  have hl1 : 0 ≤ k0 - (x.n : Int) := hl0
  have hk1 := hk0.1
  have hk2 := hk0.2.1
  refine loop_ok mixed (E := {tb := [(62, sSzC)]}) ⟨sSzC_ok, trivial⟩ (loopsOK_nil _ _ _) 400 x.n (fun j ts ch => ∃ g, (0 ≤ leftC k0 x j ∧ leftC k0 x j ≤ 1048576) ∧ ts = scH x O C so sc k0 (.int (leftC k0 x j)) (.int (j : Int)) g ∧ ch = scT x O C so sc k0) ?_ ?_ hT hd hs
  · rintro j _ _ ⟨g, hlj, rfl, rfl⟩ hj
    refine (@Eq.mpr _ _ (scB x O C so sc k0 j g _ _) ?_)
    have hl := hlj.1
    have hl2 := hlj.2
    by_cases hlt : j < x.n
    · have hnx := left_next (k := k0) (x := x) (j := j)
      have hsn := hk0.2.2.2 j hlt
      repeat' (first
        | with_reducible exact rfl
        | exact True.intro
        | with_reducible assumption
        | (refine ⟨hlt, ?_⟩; show Next _ _ _ _; refine Next.mk (fun g => scH x O C so sc k0 (.int (leftC k0 x (j + 1))) (.int ((j + 1 : Nat) : Int)) g) _ ⟨_, ⟨by omega, by omega⟩, rfl, rfl⟩ (by rw [← hnx]; rfl) fun w hw => hw.sel [0, 1] (by simp))
        | (refine Next.mk (fun g => scR x O C so sc k0 g) _ (hr _) rfl fun w hw => hw.sel [0, 1] (by simp))
        | refine And.intro ?_ ?_
        | apply Exists.intro
        | (intro h; replace h := of_decide_eq_true h; first | (exfalso; omega) | skip)
        | (intro h; replace h := of_decide_eq_false h; first | (exfalso; omega) | skip)
        | intro _
        | omega
        | (simp; omega))
    · have hjn : j = x.n := by omega
      subst hjn
      repeat' (first
        | with_reducible exact rfl
        | exact True.intro
        | with_reducible assumption
        | (refine Next.mk (fun g => scH x O C so sc k0 (.int (leftC k0 x x.n)) (.int (x.n : Int)) g) _ (hk _ _ hlj.1) rfl fun w hw => hw)
        | refine And.intro ?_ ?_
        | apply Exists.intro
        | (intro h; replace h := of_decide_eq_true h; first | (exfalso; omega) | skip)
        | (intro h; replace h := of_decide_eq_false h; first | (exfalso; omega) | skip)
        | intro _
        | omega
        | (simp; omega))
  · refine Next.mk (fun g => scH x O C so sc k0 (.int (leftC k0 x 0)) (.int ((0 : Nat) : Int)) g) _ ⟨_, ⟨by simp only [leftC, totN]; omega, by simp only [leftC, totN]; omega⟩, rfl, rfl⟩ (by rw [h1]; simp [scH, SV.den, SA.den, SC.den, leftC, totN]) fun w hw => hw
abbrev szPC (z k : Int) (x : CD) : Prop := z = -1 ∨ (0 ≤ z ∧ z = leftC k x x.n)
theorem szCs_T (x : CD) (O : Option Addr) (C : Nat) (so : Nat → Option Addr) (sc : Nat → Nat) (k0 : Int) : (exFn Try.prog { L := [(5, ssc)] } 400 Try.f43 ([.a (.c (.sl 0 O x.n C)), .a (.c (.int k0))]) (scT x O C so sc k0) (fun v ch => ∃ z : Int, v.den = .int .i64 z ∧ szPC z k0 x)) = (
  ((rng (k0 - ((x.1 : Nat) : Int))) ∧
 (((decide ((k0 - ((x.1 : Nat) : Int)) < (0 : Int))) = true →
 (∃ z0 : Int, ((Wi (-1)) = (Wi z0) ∧
 (szPC z0 k0 x)))) ∧
 ((decide ((k0 - ((x.1 : Nat) : Int)) < (0 : Int))) = false →
 (∃ x1 : CD, (∃ O2 : (Option Addr), (∃ C3 : Nat, (∃ so4 : (Nat →
 (Option Addr)), (∃ sc5 : (Nat →
 Nat), (∃ k06 : Int, (([(Ws O x.1 C), (Wi (k0 - ((x.1 : Nat) : Int))), (Wu []), (Wu []), (Wi 0), (Wi 0), (Wi k0), (Ws O x.1 C), (Wi ((x.1 : Nat) : Int)), (Wi (k0 - ((x.1 : Nat) : Int))), (Wi (k0 - ((x.1 : Nat) : Int))), (Wb false), (Wu []), (Wu []), (Wu []), (Wu []), (Wu []), (Wu []), (Wu []), (Wu []), (Wu []), (Wu []), (Wu []), (Wu []), (Wu []), (Wu []), (Wu [])] = [(Ws O2 x1.1 C3), (Wi (k06 - ((x1.1 : Nat) : Int))), (Wu []), (Wu []), (Wi 0), (Wi 0), (Wi k0), (Ws O x.1 C), (Wi ((x.1 : Nat) : Int)), (Wi (k0 - ((x.1 : Nat) : Int))), (Wi (k0 - ((x.1 : Nat) : Int))), (Wb false), (Wu []), (Wu []), (Wu []), (Wu []), (Wu []), (Wu []), (Wu []), (Wu []), (Wu []), (Wu []), (Wu []), (Wu []), (Wu []), (Wu []), (Wu [])] ∧
 ([(Hr false O 0 2 x.1 0 [(fun i7 => (Cs 1 (so i7) (x.2 i7) (sc i7))), (fun i8 => (Cb (x.4 i8)))]), (Ho false (symRows false 0 x so (fun x9 => 0)))] = [(Hr false O2 0 2 x1.1 0 [(fun i10 => (Cs 1 (so4 i10) (x1.2 i10) (sc5 i10))), (fun i11 => (Cb (x1.4 i11)))]), (Ho false (symRows false 0 x1 so4 (fun x12 => 0)))] ∧
 ((szK2 k06 x1) ∧
 (leZ2 (0 : Int) (k06 - ((x1.1 : Nat) : Int)))))) ∧
 ((∀ g13 : (Nat →
 Value),
 (∀ kx14 : Int,
 ((leZ2 (0 : Int) (leftC k06 x1 x1.1)) →
 (∃ z15 : Int, ((Wi (leftC k06 x1 x1.1)) = (Wi z15) ∧
 (szPC z15 k0 x)))))) ∧
 (∀ g16 : (Nat →
 Value),
 (∃ z17 : Int, ((Wi (-1)) = (Wi z17) ∧
 (szPC z17 k0 x)))))))))))))))) := by kernel_rfl
theorem szCs_any (x : CD) (O : Option Addr) (C : Nat) (so : Nat → Option Addr) (sc : Nat → Nat) (k0 : Int) (w : World) (hA : SeenC w x O so sc) (hk0 : szK2 k0 x) : Calls Try.prog 43 #[.slice O x.n C, .int .i64 k0] w fun e w' => ∃ z : Int, szPC z k0 x ∧ e = .returned (.int .i64 z) ∧ Below w.heap.size w w' := by
  refine fn_ok mixed (E := { L := [(5, ssc)] }) trivial Try.func43 (one_loop (by kernel_rfl) (by kernel_rfl) (sc_ok _)) (@Eq.mpr _ _ (szCs_T x O C so sc k0) ?_) (HS.seenAll (fun _ => False) _ (hA.all 1 seenC_nil)) (fun v ch' w' ⟨z, hv, hz⟩ hs => ⟨z, hz, by rw [hv], hs.below⟩)
  clear hA
  have hk1 := hk0.1
  have hk2 := hk0.2.1
  have hk3 := hk0.2.2.1
  repeat' (first
    | with_reducible exact rfl
    | exact True.intro
    | with_reducible assumption
    | exact hk0
    | (refine ⟨_, rfl, ?_⟩; first | exact .inl rfl | exact .inr ⟨by with_reducible assumption, rfl⟩)
    | refine And.intro ?_ ?_
    | apply Exists.intro
    | (intro h; replace h := of_decide_eq_true h; first | (exfalso; omega) | skip)
    | (intro h; replace h := of_decide_eq_false h; first | (exfalso; omega) | skip)
    | intro _
    | omega
    | (show _ ≤ _; simp only [isub]; omega))
def sSzCs : Sm := fun args ch kk =>
  match args with
  | [.a (.c c), .a (.c kc)] =>
    match asI kc with
    | some k0 => rdK ch c fun x => szK2 k0 x ∧ ∀ z : Int, szPC z k0 x → kk (.a (.c (.int z))) ch []
    | none => False
  | _ => False
theorem sSzCs_ok : SmOK Try.prog 43 sSzCs := by
  refine smV Try.call43 fun args ch kk w X h0 hs => ?_
  unfold sSzCs at h0
  split at h0
  · split at h0
    · rename_i k0 hkc
      obtain ⟨x, O, C, so, sc, e, hA, hk, h1⟩ := rdK_ok h0 hs
      simp only [List.map_cons, List.map_nil, den_a, den_c, e, asI_den hkc]
      exact Calls.mono (szCs_any x O C so sc k0 w hA hk) fun e w' ⟨z, hz, he, hb⟩ => ⟨.a (.c (.int z)), he, hb, h1 z hz⟩
    · exact h0.elim
  · exact h0.elim
abbrev szPA (z k : Int) (x : AD) : Prop := z = -1 ∨ (0 ≤ z ∧ z ≤ k ∧ totN x.c.sn x.c.n ≤ 1048576 ∧ x.aN ≤ 1048576 ∧ x.hN ≤ 1048576)
theorem szA_T (x : AD) (O A H : Option Addr) (C D E : Nat) (so : Nat → Option Addr) (sc : Nat → Nat) (k0 : Int) : (exFn Try.prog {tb := [(43, sSzCs), (44, sSzIntS)]} 400 Try.f10 ([.a (arrS 0 x O A H C D E), .a (.c (.int k0))]) (arrR 0 x O A H so sc) (fun v _ => ∃ z : Int, v.den = .int .i64 z ∧ szPA z k0 x)) = (
  (∀ b0 : Nat,
 (b0 = b0 ∧
 (∃ t1 : Nat, (∃ y2 : CD, (∃ so3 : (Nat →
 (Option Addr)), (∃ sc4 : (Nat →
 Nat), (∃ sd5 : (Nat →
 Nat), (((symRows false 0 x.1 so (fun x6 => 0)) = (symRows false t1 y2 so3 sd5) ∧
 ([(fun i7 => (Cs 3 (so i7) (x.1.2 i7) (sc i7))), (fun i8 => (Cb (x.1.4 i8)))] = [(fun i9 => (Cs 3 (so3 i9) (y2.2 i9) (sc4 i9))), (fun i10 => (Cb (y2.4 i10)))] ∧
 (O = O ∧
 (x.1.1 = x.1.1 ∧
 x.1.1 = y2.1)))) ∧
 ((szK2 k0 y2) ∧
 (∀ z11 : Int,
 ((szPC z11 k0 y2) →
 (((decide (z11 < (0 : Int))) = true →
 (∃ z12 : Int, ((Wi (-1)) = (Wi z12) ∧
 (szPA z12 k0 x)))) ∧
 ((decide (z11 < (0 : Int))) = false →
 (b0 = b0 ∧
 ((szC x.2 z11) ∧
 (((z11 < ((x.2 : Nat) : Int)) →
 (∃ z13 : Int, ((Wi (-1)) = (Wi z13) ∧
 (szPA z13 k0 x)))) ∧
 ((((x.2 : Nat) : Int) ≤ z11) →
 (((decide ((z11 - ((x.2 : Nat) : Int)) < (0 : Int))) = true →
 (∃ z14 : Int, ((Wi (-1)) = (Wi z14) ∧
 (szPA z14 k0 x)))) ∧
 ((decide ((z11 - ((x.2 : Nat) : Int)) < (0 : Int))) = false →
 (b0 = b0 ∧
 ((szC x.4 (z11 - ((x.2 : Nat) : Int))) ∧
 ((((z11 - ((x.2 : Nat) : Int)) < ((x.4 : Nat) : Int)) →
 (∃ z15 : Int, ((Wi (-1)) = (Wi z15) ∧
 (szPA z15 k0 x)))) ∧
 ((((x.4 : Nat) : Int) ≤ (z11 - ((x.2 : Nat) : Int))) →
 (((decide (((z11 - ((x.2 : Nat) : Int)) - ((x.4 : Nat) : Int)) < (0 : Int))) = true →
 (∃ z16 : Int, ((Wi (-1)) = (Wi z16) ∧
 (szPA z16 k0 x)))) ∧
 ((decide (((z11 - ((x.2 : Nat) : Int)) - ((x.4 : Nat) : Int)) < (0 : Int))) = false →
 (∃ z17 : Int, ((Wi ((z11 - ((x.2 : Nat) : Int)) - ((x.4 : Nat) : Int))) = (Wi z17) ∧
 (szPA z17 k0 x))))))))))))))))))))))))))))) := by kernel_rfl
theorem szA_any (x : AD) (O A H : Option Addr) (C D E : Nat) (so : Nat → Option Addr) (sc : Nat → Nat) (k0 : Int) (w : World) (hA : SeenA w x O A H so sc) (hn : x.c.n ≤ 9223372036854775807 ∧ x.aN ≤ 9223372036854775807 ∧ x.hN ≤ 9223372036854775807 ∧ ∀ i, i < x.c.n → x.c.sn i ≤ 9223372036854775807) (hk0 : 0 ≤ k0 ∧ k0 ≤ 1048576) : Calls Try.prog 10 #[arrV x O A H C D E, .int .i64 k0] w fun e w' => ∃ z : Int, szPA z k0 x ∧ e = .returned (.int .i64 z) ∧ Below w.heap.size w w' := by
  refine fnB (tb := [(43, sSzCs), (44, sSzIntS)]) ⟨sSzCs_ok, sSzIntS_ok, trivial⟩ Try.func10 (@Eq.mpr _ _ (szA_T x O A H C D E so sc k0) ?_) (HS.seenAll (fun _ => False) _ (hA.all 0 seenC_nil)) (fun v ch' w' ⟨z, hv, hz⟩ hs => ⟨z, hz, by rw [hv], hs.below⟩)
  clear hA
  obtain ⟨n1, n2, n3, n4⟩ := hn
  obtain ⟨k1, k2⟩ := hk0
  repeat' (first
    | with_reducible exact rfl
    | exact True.intro
    | with_reducible assumption
    | exact ⟨k1, k2, n1, n4⟩
    | (refine ⟨_, rfl, ?_⟩; first | exact .inl rfl | (refine .inr ?_; simp only [leftC] at *; omega))
    | refine And.intro ?_ ?_
    | apply Exists.intro
    | (intro (hz : szPC _ _ _); rcases hz with rfl | ⟨hz1, hz2⟩ <;> (try simp only [leftC] at hz2))
    | (intro h; exfalso; simp at h; done)
    | (intro h; replace h := of_decide_eq_true h; first | (exfalso; omega) | skip)
    | (intro h; replace h := of_decide_eq_false h; first | (exfalso; omega) | skip)
    | intro _
    | omega)

def isArray (v : Value) (x : AD) (rs : List Row) : Prop :=
  ∃ (O A H : Option Addr) (C D E : Nat) (o : Bool) (tA tB tC tD kA kB kC : Nat) (so : Nat → Option Addr) (sc sd : Nat → Nat), v = arrV x O A H C D E ∧ (o = true → sd = sc) ∧
    rs = ⟨o, O, tA, 2, x.c.n, kA, cellFld 0 x.c so sc⟩ :: ⟨o, A, tB, 1, x.aN, kB, [fun i => .int (x.ag i)]⟩ :: ⟨o, H, tC, 1, x.hN, kC, [fun i => .int (x.hg i)]⟩ :: symRows o tD x.c so sd
abbrev cap1Ax (x : AD) : Prop := totN x.c.sn x.c.n ≤ 1048576 ∧ x.aN ≤ 1048576 ∧ x.hN ≤ 1048576
theorem capOf1Ax {x : AD} (h : cap1Ax x) : capAx x := ⟨by have := h.1; show _ ≤ _; omega, by have := h.2.1; omega, by have := h.2.2; omega⟩
abbrev lensAx (x : AD) : Prop := x.c.n ≤ 9223372036854775807 ∧ x.aN ≤ 9223372036854775807 ∧ x.hN ≤ 9223372036854775807 ∧ ∀ i, i < x.c.n → x.c.sn i ≤ 9223372036854775807
theorem wholeArray {v : Value} {x : AD} {rs : List Row} (h : isArray v x rs) : wholeC true v 3 := by
  obtain ⟨_, _, _, _, _, _, _, _, _, _, _, _, _, _, _, _, _, rfl, _, rfl⟩ := h
  exact ⟨_, rfl, rfl, List.all_eq_true.1 rfl⟩
theorem isA_seen {v : Value} {x : AD} {rs : List Row} {o : Bool} {w : World} (h : isArray v x rs) (hs : ∀ r ∈ rs, r.own = o ∧ r.sat w) : ∃ (O A H : Option Addr) (C D E : Nat) (so : Nat → Option Addr) (sc : Nat → Nat), v = arrV x O A H C D E ∧ SeenA w x O A H so sc := by
  obtain ⟨O, A, H, C, D, E, o', tA, tB, tC, tD, kA, kB, kC, so, sc, sd, rfl, _, rfl⟩ := h
  exact ⟨O, A, H, C, D, E, so, sc, rfl, seenA_of (r0 := ⟨o', O, tA, 2, x.c.n, kA, cellFld 0 x.c so sc⟩) (r1 := ⟨o', A, tB, 1, x.aN, kB, [fun i => .int (x.ag i)]⟩) (r2 := ⟨o', H, tC, 1, x.hN, kC, [fun i => .int (x.hg i)]⟩) (hs _ mem0).2 (hs _ (memS mem0)).2 (hs _ (memS (memS mem0))).2 (o := o') (fun r hr => ⟨symRows_own r hr, (hs r (memS (memS (memS hr)))).2⟩) rfl rfl rfl rfl rfl rfl⟩
theorem isA_new {b : Nat} {x : AD} {O A H : Option Addr} {C D E : Nat} {so : Nat → Option Addr} {sc : Nat → Nat} {X : Cx} {w : World} (h : HS X (arrO b x O A H C D E so sc) w) : ∃ rs', isArray (arrV x O A H C D E) x rs' ∧ HS X [.obj true rs'] w := by
  have h1 : HS X [.row ⟨true, O, 52, 2, x.c.n, C, cellFld 0 x.c so sc⟩, .row ⟨true, A, 3, 1, x.aN, D, [fun i => .int (x.ag i)]⟩, .row ⟨true, H, 3, 1, x.hN, E, [fun i => .int (x.hg i)]⟩, .obj true (symRows true 3 x.c so sc)] w :=
    h.reS ⟨⟨rfl, rfl, rfl, rfl, rfl, rfl, fun i hi => rfl, fun i hi => rfl, trivial⟩, ⟨rfl, rfl, rfl, rfl, rfl, rfl, fun i hi => rfl, trivial⟩, ⟨rfl, rfl, rfl, rfl, rfl, rfl, fun i hi => rfl, trivial⟩, ⟨rfl, rfl⟩, trivial⟩
  exact ⟨_, ⟨O, A, H, C, D, E, true, _, _, _, _, _, _, _, so, sc, sc, rfl, fun _ => rfl, rfl⟩, h1.pack4 rfl rfl rfl⟩
/-- A summary of a function over objects that makes an array. -/
theorem smArr {P : Program} {f : FuncId} (hc : ∀ args w, (callFunc f args).run P w = .ok (.enter f args) w) {S : Sm}
    (h : ∀ (args : List SV) (ch : List Ch) (k : EK) (w : World) (X : Cx), S args ch k → HS X ch w → ∃ (x : AD) (F : SA → SV), (∀ (id : Nat) (v : Value) (rs : List Row), isArray v x rs → k (F (.c (.obj id v))) (ch ++ [.obj true rs]) [] ∨ id ≠ ch.length) ∧
      Calls P f (args.map SV.den).toArray w fun e w' => ∃ (O A H : Option Addr) (C D E : Nat) (so : Nat → Option Addr) (sc : Nat → Nat), (∀ id, e = .returned (F (.c (.obj id (arrV x O A H C D E)))).den) ∧ HS ⟨w, fun _ => False⟩ (arrO 0 x O A H C D E so sc) w') : SmOK P f S :=
  smN hc fun args ch k w X hS hs => by
    obtain ⟨x, F, hk, hcall⟩ := h args ch k w X hS hs
    refine Calls.mono hcall fun e w' ⟨O, A, H, C, D, E, so, sc, he, hn⟩ => ?_
    obtain ⟨rs', hi, hn'⟩ := isA_new hn
    exact ⟨F (.c (.obj ch.length (arrV x O A H C D E))), [.obj true rs'], he _, hn', rfl, (hk _ _ _ hi).resolve_right (fun q => q rfl)⟩
def sToArrayO : Sm := fun args ch k =>
  match args with
  | [.a (.c (.obj i v))] =>
    match ch[i]? with
    | some (.obj _ rs) => ∃ x : AD, (isArray v x rs ∧ capAx x) ∧ ∀ (v' : Value) (rs' : List Row), isArray v' x rs' → k (.a (.c (.obj ch.length v'))) (ch ++ [.obj true rs']) []
    | _ => False
  | _ => False
theorem sToArrayO_ok_laws_toArray : SmOK Try.prog 13 sToArrayO := by
  refine smArr Try.call13 fun args ch k w X h0 hs => ?_
  unfold sToArrayO at h0
  split at h0
  · rename_i i v
    split at h0
    · rename_i o rs hi
      obtain ⟨x, ⟨hx, hc⟩, h1⟩ := h0
      obtain ⟨O, A, H, C, D, E, so, sc, rfl, hA⟩ := isA_seen hx (hs.seeObj hi)
      refine ⟨x, fun s => .a s, fun id v' rs' hv => ?_, ?_⟩
      · by_cases e : id = ch.length
        · subst e; exact .inl (h1 v' rs' hv)
        · exact .inr e
      · exact Calls.mono (toA_any x O A H C D E so sc w hA hc) fun e w' ⟨O', A', H', C', D', E', so', sc', he, hn⟩ => ⟨O', A', H', C', D', E', so', sc', fun _ => he, hn⟩
    · exact h0.elim
  · exact h0.elim
def sEqArrayO : Sm := fun args ch k =>
  match args with
  | [.a (.c (.obj i v)), .a (.c (.obj j u))] =>
    match ch[i]?, ch[j]? with
    | some (.obj _ rs), some (.obj _ us) => ∃ x : AD, (isArray v x rs ∧ isArray u x us ∧ capAx x) ∧ k (.a (.c (.lit true))) ch []
    | _, _ => False
  | _ => False
theorem sEqArrayO_ok : SmOK Try.prog 16 sEqArrayO := by
  refine smB Try.call16 fun args ch k w X h0 hs => ?_
  unfold sEqArrayO at h0
  split at h0
  · rename_i i v j u
    split at h0
    · rename_i o rs o' us hi hj
      obtain ⟨x, ⟨hx, hy, hc⟩, h1⟩ := h0
      obtain ⟨O, A, H, C, D, E, so, sc, rfl, hA⟩ := isA_seen hx (hs.seeObj hi)
      obtain ⟨P, B, G, Q, U, V, sp, sq, rfl, hB⟩ := isA_seen hy (hs.seeObj hj)
      exact ⟨_, h1, eqA_any x O A H C D E so sc P B G Q U V sp sq w hA hB hc⟩
    · exact h0.elim
  · exact h0.elim
def sMarkArrayO : Sm := fun args ch k =>
  match args with
  | [.a (.c (.obj i v)), .a (.c kc)] =>
    match ch[i]?, asI kc with
    | some (.obj true rs), some k0 => ∃ x : AD, (isArray v x rs ∧ capAx x ∧ mrkC k0) ∧ (endC k0 (endArray k0 x) 50331648 → ∀ rs' : List Row, isArray v (markArrayD k0 x) rs' → k (.a (.c (.int (endArray k0 x)))) (ch.set i (.obj true rs')) [i])
    | _, _ => False
  | _ => False
theorem sMarkArrayO_ok : SmOK Try.prog 18 sMarkArrayO := by
  refine ⟨Try.call18, fun X args ch k w h0 hs => ?_⟩
  unfold sMarkArrayO at h0
  split at h0
  · rename_i i v kc
    split at h0
    · rename_i rs k0 hi hk
      obtain ⟨x, ⟨⟨O, A, H, C, D, E, o, tA, tB, tC, tD, kA, kB, kC, so, sc, sd, rfl, hsd, rfl⟩, hc, hk0⟩, h1⟩ := h0
      have h2 := hs.seeObj hi
      have eo : o = true := (h2 _ mem0).1
      subst eo
      have esd := hsd rfl
      subst esd
      obtain ⟨c1, c2, c3⟩ := id hc
      have hc1 : totN x.c.sn x.c.n ≤ 2097152 := c1
      have hk1 := hk0.1
      have hk2 := hk0.2
      have h3 : HS ⟨w, (Ch.obj true (⟨true, O, tA, 2, x.c.n, kA, cellFld 0 x.c so sd⟩ :: ⟨true, A, tB, 1, x.aN, kB, [fun i => .int (x.ag i)]⟩ :: ⟨true, H, tC, 1, x.hN, kC, [fun i => .int (x.hg i)]⟩ :: symRows true tD x.c so sd)).at⟩ [.row ⟨true, O, tA, 2, x.c.n, kA, cellFld 3 x.c so sd⟩, .row ⟨true, A, tB, 1, x.aN, kB, [fun i => .int (x.ag i)]⟩, .row ⟨true, H, tC, 1, x.hN, kC, [fun i => .int (x.hg i)]⟩, .obj true (symRows true tD x.c so sd)] w :=
        (hs.open4 hi).reS ⟨⟨rfl, rfl, rfl, rfl, rfl, rfl, fun i hi => rfl, fun i hi => rfl, trivial⟩, ⟨rfl, rfl, rfl, rfl, rfl, rfl, fun i hi => rfl, trivial⟩, ⟨rfl, rfl, rfl, rfl, rfl, rfl, fun i hi => rfl, trivial⟩, ⟨rfl, rfl⟩, trivial⟩
      have hb : endC k0 (endArray k0 x) 50331648 := ⟨by simp only [endArray, mk, kAt]; omega, by simp only [endArray, mk, kAt]; omega⟩
      simp only [List.map_cons, List.map_nil, den_a, den_c, asI_den hk]
      refine Calls.mono (markA_any x O A H C D E so sd tA tB tC tD kA kB kC k0 w _ h3 hc hk0) fun e w' ⟨he, hs'⟩ => ?_
      have h4 : HS ⟨w, (Ch.obj true (⟨true, O, tA, 2, x.c.n, kA, cellFld 0 x.c so sd⟩ :: ⟨true, A, tB, 1, x.aN, kB, [fun i => .int (x.ag i)]⟩ :: ⟨true, H, tC, 1, x.hN, kC, [fun i => .int (x.hg i)]⟩ :: symRows true tD x.c so sd)).at⟩ [.row ⟨true, O, tA, 2, x.c.n, kA, cellFld 0 (markCD k0 x.c) so sd⟩, .row ⟨true, A, tB, 1, x.aN, kB, [fun i => .int ((markArrayD k0 x).ag i)]⟩, .row ⟨true, H, tC, 1, x.hN, kC, [fun i => .int ((markArrayD k0 x).hg i)]⟩, .obj true (symRows true tD (markCD k0 x.c) so sd)] w' :=
        hs'.reS ⟨⟨rfl, rfl, rfl, rfl, rfl, rfl, fun i hi => rfl, fun i hi => rfl, trivial⟩, ⟨rfl, rfl, rfl, rfl, rfl, rfl, fun i hi => rfl, trivial⟩, ⟨rfl, rfl, rfl, rfl, rfl, rfl, fun i hi => rfl, trivial⟩, ⟨rfl, rfl⟩, trivial⟩
      refine ⟨.a (.c (.int (endArray k0 x))), _, [i], he, hs.swap1 hi rfl (h4.pack4 rfl rfl rfl) ?_, Agree.set _ _ _, h1 hb _ ⟨O, A, H, C, D, E, true, tA, tB, tC, tD, kA, kB, kC, so, sd, sd, rfl, fun _ => rfl, rfl⟩⟩
      exact at_cons rfl rfl rfl (at_cons rfl rfl rfl (at_cons rfl rfl rfl (sym_at rfl fun _ _ => rfl)))
    · exact h0.elim
  · exact h0.elim
def sHeldArrayO : Sm := fun args ch k =>
  match args with
  | [.a (.c (.obj i v)), .a (.c kc)] =>
    match ch[i]?, asI kc with
    | some (.obj _ rs), some k0 => ∃ x : AD, (isArray v (markArrayD k0 x) rs ∧ capAx x ∧ mrkC k0) ∧ k (.a (.c (.int (endArray k0 x)))) ch []
    | _, _ => False
  | _ => False
theorem sHeldArrayO_ok : SmOK Try.prog 19 sHeldArrayO := by
  refine smB Try.call19 fun args ch k w X h0 hs => ?_
  unfold sHeldArrayO at h0
  split at h0
  · rename_i i v kc
    split at h0
    · rename_i o rs k0 hi hk
      obtain ⟨x, ⟨hx, hc, hk0⟩, h1⟩ := h0
      obtain ⟨O, A, H, C, D, E, so, sc, rfl, hA⟩ := isA_seen hx (hs.seeObj hi)
      refine ⟨_, h1, ?_⟩
      simp only [List.map_cons, List.map_nil, den_a, den_c, asI_den hk]
      exact heldA_any x O A H C D E so sc k0 w hA hc hk0
    · exact h0.elim
  · exact h0.elim
abbrev szK1 (k : Int) : Prop := 0 ≤ k ∧ k ≤ 1048576
def sSzArrayO : Sm := fun args ch k =>
  match args with
  | [.a (.c (.obj i v)), .a (.c kc)] =>
    match ch[i]?, asI kc with
    | some (.obj _ rs), some k0 => ∃ x : AD, (isArray v x rs ∧ lensAx x ∧ szK1 k0) ∧ (k (.a (.c (.il (-1)))) ch [] ∧ ∀ z : Int, szO z k0 → cap1Ax x → k (.a (.c (.int z))) ch [])
    | _, _ => False
  | _ => False
theorem sSzArrayO_ok : SmOK Try.prog 10 sSzArrayO := by
  refine smV Try.call10 fun args ch k w X h0 hs => ?_
  unfold sSzArrayO at h0
  split at h0
  · rename_i i v kc
    split at h0
    · rename_i o rs k0 hi hk
      obtain ⟨x, ⟨hx, hn, hk0⟩, h1, h2⟩ := h0
      obtain ⟨O, A, H, C, D, E, so, sc, rfl, hA⟩ := isA_seen hx (hs.seeObj hi)
      simp only [List.map_cons, List.map_nil, den_a, den_c, asI_den hk]
      refine Calls.mono (szA_any x O A H C D E so sc k0 w hA hn hk0) fun e w' ⟨z, hz, he, hb⟩ => ?_
      rcases hz with rfl | ⟨hz0, hz1, hz2⟩
      · exact ⟨.a (.c (.il (-1))), he, hb, h1⟩
      · exact ⟨.a (.c (.int z)), he, hb, h2 z ⟨hz0, hz1⟩ hz2⟩
    · exact h0.elim
  · exact h0.elim
/-! What an argument holds. -/
theorem has_cells {w : World} {ao : Option Addr} {len cap : Nat} {cs : List Value} (hcs : cs = [.slice ao len cap]) (h : Has w (.slice (.cons (.slice .int) (.cons .bool .nil))) cs) :
    ∃ (x : CD) (so : Nat → Option Addr) (sc : Nat → Nat), x.n = len ∧ len ≤ maxLen ∧ (∀ i, i < x.n → x.sn i ≤ maxLen) ∧ SeenC w x ao so sc := by
  obtain ⟨ao', len', cap', h1, hlen, h2⟩ := h
  rw [hcs] at h1
  injection h1 with h1
  injection h1 with e1 e2 e3
  subst e1 e2
  have hel : ∀ i, ∃ (O : Option Addr) (N C : Nat) (p : Bool) (g : Nat → Int), i < len → (∃ b off, ao = some ⟨b, off, none⟩ ∧ b < w.heap.size ∧ w.cell? ⟨b, off + i * 2, none⟩ = some (.slice O N C) ∧ w.cell? ⟨b, off + (i * 2 + 1), none⟩ = some (.bool p)) ∧ N ≤ maxLen ∧ Row.sat w ⟨false, O, 0, 1, N, 0, [fun k => .int (g k)]⟩ := fun i => by
    by_cases hi : i < len
    · obtain ⟨b, off, es, ha, hl, hc, hh⟩ := h2 i hi
      obtain ⟨O, N, C, r1, rfl, hs, hh1⟩ := has_slice hh
      obtain ⟨p, r2, rfl, hh2⟩ := has_bool hh1
      obtain rfl := has_nil hh2
      obtain ⟨hN, G, _, hr⟩ := row_of_has (s := 1) (.inl ⟨rfl, rfl⟩) (by omega) rfl hs
      refine ⟨O, N, C, p, G 0, fun _ => ⟨⟨b, off, ha, ?_, ?_, ?_⟩, hN, hr⟩⟩
      · have := hc 0 (by decide)
        exact World.block_lt_of_cell? w _ this
      · have := hc 0 (by decide)
        simpa [Ty.size] using this
      · have := hc 1 (by decide)
        simpa [Ty.size, Nat.add_assoc] using this
    · exact ⟨none, 0, 0, false, fun _ => 0, fun h => absurd h hi⟩
  refine ⟨⟨len, fun i => (hel i).choose_spec.choose, fun i => (hel i).choose_spec.choose_spec.choose_spec.choose_spec.choose, fun i => (hel i).choose_spec.choose_spec.choose_spec.choose⟩, fun i => (hel i).choose, fun i => (hel i).choose_spec.choose_spec.choose, rfl, hlen, fun i hi => ?_, fun id => ?_, fun r hr => ?_⟩
  · exact ((hel i).choose_spec.choose_spec.choose_spec.choose_spec.choose_spec hi).2.1
  · refine ⟨rfl, fun _ hn => ?_, fun ho => (by cases ho)⟩
    have hn : 0 < len := hn
    obtain ⟨⟨b, off, ha, hb, _⟩, _⟩ := (hel 0).choose_spec.choose_spec.choose_spec.choose_spec.choose_spec hn
    refine ⟨b, off, ha, hb, fun i hi c f hf => ?_⟩
    obtain ⟨⟨b', off', ha', _, h3, h4⟩, _⟩ := (hel i).choose_spec.choose_spec.choose_spec.choose_spec.choose_spec hi
    rw [ha] at ha'
    injection ha' with ha'
    injection ha' with e1 e2
    subst e1 e2
    match c with
    | 0 => simp [cellFld] at hf; subst hf; simpa [SC.den] using h3
    | 1 => simp [cellFld] at hf; subst hf; simpa [SC.den] using h4
    | c + 2 => simp [cellFld] at hf
  · obtain ⟨i, hi, rfl⟩ := List.mem_map.1 hr
    exact ⟨rfl, ((hel i).choose_spec.choose_spec.choose_spec.choose_spec.choose_spec (List.mem_range.1 hi)).2.2⟩
theorem has_array {w : World} {l : List Value} (h : Has w (.cons (.slice (.cons (.slice .int) (.cons .bool .nil))) (.cons (.slice .int) (.cons (.slice .int) .nil))) l) :
    ∃ (x : AD) (v : Value) (rs : List Row), v = .agg l.toArray ∧ isArray v x rs ∧ (∀ r ∈ rs, r.own = false ∧ r.sat w) ∧ lensAx x := by
  obtain ⟨O, N, C, _, rfl, hs0, h⟩ := has_slice h
  obtain ⟨A, M, D, _, rfl, hs1, h⟩ := has_slice h
  obtain ⟨H, K, E, _, rfl, hs2, h⟩ := has_slice h
  obtain rfl := has_nil h
  obtain ⟨x, so, sc, rfl, hn, hsn, hC⟩ := has_cells rfl hs0
  obtain ⟨hM, G1, _, hr1⟩ := row_of_has (s := 1) (.inl ⟨rfl, rfl⟩) (by omega) rfl hs1
  obtain ⟨hK, G2, _, hr2⟩ := row_of_has (s := 1) (.inl ⟨rfl, rfl⟩) (by omega) rfl hs2
  refine ⟨⟨x, M, G1 0, K, G2 0⟩, _, _, rfl, ⟨O, A, H, C, D, E, false, 0, 0, 0, 0, 0, 0, 0, so, sc, fun _ => 0, rfl, fun h => (by cases h), rfl⟩, fun r hr => ?_, hn, hM, hK, hsn⟩
  simp only [List.mem_cons] at hr
  rcases hr with rfl | rfl | rfl | hr
  · exact ⟨rfl, hC.h0 0⟩
  · exact ⟨rfl, hr1⟩
  · exact ⟨rfl, hr2⟩
  · exact hC.h3 r hr
end Go.Proofs.Ytddeinpnadfgmaa
