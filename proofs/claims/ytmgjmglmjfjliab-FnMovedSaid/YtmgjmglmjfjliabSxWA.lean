/-
  Time passes. Draws. A word with wrong symbols. A new array. An array behind a pointer. A row is sensed. Time and sense by a pointer. Arrays drawn. Arrays drawn: DrawArray. A symbol flipped.
-/
import Derived.Test.YtmgjmglmjfjliabSxK1
import Derived.Test.YtmgjmglmjfjliabSxA0
import Derived.Test.YtmgjmglmjfjliabSxDr
import Derived.Test.YtmgjmglmjfjliabSxG1
import Derived.Test.YtmgjmglmjfjliabSxCA
import Derived.Test.YtmgjmglmjfjliabSxA3
import Derived.Test.YtmgjmglmjfjliabSxKA
import Derived.Test.YtmgjmglmjfjliabSxF1
import Derived.Test.YtmgjmglmjfjliabSxM1
import Derived.Test.YtmgjmglmjfjliabSxM2
namespace Go.Proofs.Ytmgjmglmjfjliab
set_option linter.unusedVariables false
set_option linter.unusedSimpArgs false
open Go.RowKit
set_option maxRecDepth 100000
set_option maxHeartbeats 8000000

abbrev geoS (g b r c : Int) : Prop := g = 1 ∧ (1 ≤ b ∧ b ≤ 2) ∧ (2 ≤ r ∧ r ≤ 4) ∧ (1 ≤ c ∧ c ≤ 2)
theorem geoS_ok {g b r c : Int} (h : geoS g b r c) : geoB g b r c = true := by
  obtain ⟨h1, h2, h3, h4⟩ := h
  simp only [geoB, Bool.and_eq_true]
  exact ⟨⟨⟨btw_mk (by omega) (by omega), btw_mk (by omega) (by omega)⟩, btw_mk (by omega) (by omega)⟩, btw_mk (by omega) (by omega)⟩
theorem ad_mk {g b r c x y z : Int} (h : geoS g b r c) (hx : inR x 0 (isub (bankN g b r c) 1)) (hy : inR y 0 (isub r 1)) (hz : inR z 0 (isub c 1)) : adOk g b r c x y z = true := by
  have hg := geoS_ok h
  simp only [adOk, Bool.and_eq_true]
  exact ⟨⟨⟨hg, btw_mk hx.1 hx.2⟩, btw_mk hy.1 hy.2⟩, btw_mk hz.1 hz.2⟩
/-- Literal cells of one's own become a row. -/
theorem HS.cellRow {X : Cx} {ch : List Ch} {w : World} (h : HS X ch w) (id n : Nat) {b : Nat} {t : TypeId} {cs : List SC} {l : List Int} (hid : ch[id]? = some (.cells b t cs)) (hl : intL cs = some l) (hn : n ≤ cs.length) (hm : cs.length ≤ 1099511627776) : HS X (ch.set id (.row ⟨true, some ⟨b, 0, none⟩, t, 1, n, cs.length, [fun i => .int (litZ l i)]⟩)) w := by
  have at1 : ∀ k, (Ch.row ⟨true, some ⟨b, 0, none⟩, t, 1, n, cs.length, [fun i => .int (litZ l i)]⟩).at k → (Ch.cells b t cs).at k := fun k hk => by
    obtain ⟨_, off, hk⟩ := hk
    injection hk with hk
    injection hk with hk
    exact hk.symm
  refine ⟨h.fr, fun i c hc => ?_, fun i j ci cj k hij hi hj ho hai haj => ?_, fun i c k hc ho ha => ?_⟩
  · rcases get_set hc with ⟨rfl, rfl, _⟩ | ⟨_, hc⟩
    · exact cells_own (h.sat _ _ hid) hl hn hm
    · exact h.sat i c hc
  · rcases get_set hi with ⟨rfl, rfl, _⟩ | ⟨hni, hi1⟩
    · rcases get_set hj with ⟨rfl, _, _⟩ | ⟨_, hj1⟩
      · exact hij rfl
      · exact h.dis _ j _ cj k hij hid hj1 rfl (at1 k hai) haj
    · rcases get_set hj with ⟨rfl, rfl, _⟩ | ⟨_, hj1⟩
      · exact h.dis i _ ci _ k hij hi1 hid ho hai (at1 k haj)
      · exact h.dis i j ci cj k hij hi1 hj1 ho hai haj
  · rcases get_set hc with ⟨rfl, rfl, _⟩ | ⟨_, hc⟩
    · exact h.new _ _ k hid rfl (at1 k ha)
    · exact h.new i c k hc ho ha
def agC (n : Nat) (f : Nat → Int) : Prop := ∀ i, i < n → 0 ≤ f i ∧ f i ≤ 100000
abbrev dayC (m : Int) : Prop := 0 ≤ m ∧ m ≤ 100000
theorem agC_min {n j : Nat} {f : Nat → Int} {m : Int} (h : agC n f) (hm : dayC m) (hj : j < n) : agC n (fun i => if i = j then minI (f j + m) 100000 else f i) := fun i hi => by
  have h1 := h i hi
  have h2 := h j hj
  have h3 := hm.1
  show 0 ≤ (if i = j then minI (f j + m) 100000 else f i) ∧ (if i = j then minI (f j + m) 100000 else f i) ≤ 100000
  split
  · simp only [minI]
    split <;> omega
  · exact h1
theorem agC_set {n j : Nat} {f : Nat → Int} {v : Int} (h : agC n f) (hv : 0 ≤ v ∧ v ≤ 100000) : agC n (fun i => if i = j then v else f i) := fun i hi => by
  show 0 ≤ (if i = j then v else f i) ∧ (if i = j then v else f i) ≤ 100000
  split
  · exact hv
  · exact h i hi
def tmH (x : AD) (O A H : Option Addr) (C D E : Nat) (so : Nat → Option Addr) (sc : Nat → Nat) (bp : Nat) (m : Int) (i : SC) (g : Nat → Value) : List SV := [.a (.c (.ptr 0 bp 0)), .a (.c (.int m)), .a (.c (.val (g 2))), .a (.c (.val (g 3))), .a (.c i), .a (.c (.val (g 5))), .a (.c (.val (g 6))), .a (.c (.val (g 7))), .a (.c (.val (g 8))), .a (.c (.val (g 9))), .a (.c (.val (g 10))), .a (.c (.val (g 11))), .a (.c (.val (g 12))), .a (.c (.val (g 13))), .a (.c (.val (g 14))), .a (.c (.val (g 15))), .a (.c (.val (g 16))), .a (.c (.val (g 17))), .a (.c (.val (g 18))), .a (.c (.val (g 19))), .a (.c (.val (g 20))), .a (.c (.val (g 21))), .a (.c (.val (g 22))), .a (.c (.val (g 23))), .a (.c (.val (g 24))), .a (.c (.val (g 25))), .a (.c (.val (g 26))), .a (.c (.val (g 27))), .a (.c (.val (g 28))), .a (.c (.val (g 29)))]
def tmT (x : AD) (O A H : Option Addr) (C D E : Nat) (so : Nat → Option Addr) (sc : Nat → Nat) (bp : Nat) (m : Int) (f : Nat → Int) : List Ch := [.cells bp 31 [.sl 1 O (AD.mk x.c x.aN f x.hN x.hg).c.n C, .sl 2 A (AD.mk x.c x.aN f x.hN x.hg).aN D, .sl 3 H (AD.mk x.c x.aN f x.hN x.hg).hN E]] ++ arrO 1 (AD.mk x.c x.aN f x.hN x.hg) O A H C D E so sc
def stm (x : AD) (O A H : Option Addr) (C D E : Nat) (so : Nat → Option Addr) (sc : Nat → Nat) (bp : Nat) (m : Int) : LSm := fun ts ch k => (ts.map SV.den = (tmH x O A H C D E so sc bp m (.il 0) (fun d => (ts.getD d .undef).den)).map SV.den ∧ SelS ch [0, 1, 2, 3, 4] (tmT x O A H C D E so sc bp m x.ag)) ∧ ∀ (f : Nat → Int) (g : Nat → Value), agC x.aN f → k (.exit 0) (tmH x O A H C D E so sc bp m (.int (x.aN : Int)) g) (tmT x O A H C D E so sc bp m f)
theorem tmB (x : AD) (O A H : Option Addr) (C D E : Nat) (so : Nat → Option Addr) (sc : Nat → Nat) (bp : Nat) (m : Int) (f : Nat → Int) (j : Nat) (g : Nat → Value) (NX : List SV → List Ch → Prop) (kx : Exit → List SV → List Ch → Prop) : (exCode Try.prog {} 400 (theLoop Try.f37 0) (tmH x O A H C D E so sc bp m (.int (j : Int)) g) (tmT x O A H C D E so sc bp m f) (loopK NX kx)) = (
  bp = bp∧((decide (((j : Nat) : Int) < ((x.2 : Nat) : Int))) = true→bp = bp∧bp = bp∧A = A∧x.2 = x.2∧(0 ≤ ((j : Nat) : Int)∧((j : Nat) : Int) < ((x.2 : Nat) : Int))∧A = A∧j < x.2∧rng ((f j) + m)∧A = A∧x.2 = x.2∧(0 ≤ ((j : Nat) : Int)∧((j : Nat) : Int) < ((x.2 : Nat) : Int))∧A = A∧j < x.2∧True∧rng (((j : Nat) : Int) + (1 : Int))∧NX [pV 0 bp 0, iV m, vV (g 2), vV (g 3), iV (((j : Nat) : Int) + (1 : Int)), iV ((j : Nat) : Int), pV 0 bp 0, pV 0 bp 0, pV 0 bp 1, sV 2 A x.2 D, iV ((x.2 : Nat) : Int), tV, iV ((j : Nat) : Int), iV (((j : Nat) : Int) + (1 : Int)), pV 0 bp 0, pV 0 bp 0, pV 0 bp 1, sV 2 A x.2 D, iV ((j : Nat) : Int), pV 0 bp 0, pV 0 bp 0, pV 0 bp 1, sV 2 A x.2 D, iV ((j : Nat) : Int), rV 2 A 1 j 0, iV (f j), iV m, iV ((f j) + m), iV (minI ((f j) + m) (100000 : Int)), rV 2 A 1 j 0] [Hc bp 31 [Cs 1 O x.1.1 C, Cs 2 A x.2 D, Cs 3 H x.4 E], Hr true O 61 2 x.1.1 C [fun a => Cs 4 (so a) (x.1.2 a) (sc a), fun a => Cb (x.1.4 a)], Hr true A 3 1 x.2 D [fun a => Ci (if a = j then (minI ((f j) + m) (100000 : Int)) else (f a))], Hr true H 3 1 x.4 E [fun a => Ci (x.5 a)], Ho true (symRows true 3 x.1 so sc)])∧((decide (((j : Nat) : Int) < ((x.2 : Nat) : Int))) = false→kx (Exit.exit 0) [pV 0 bp 0, iV m, vV (g 2), vV (g 3), iV ((j : Nat) : Int), iV ((j : Nat) : Int), pV 0 bp 0, pV 0 bp 0, pV 0 bp 1, sV 2 A x.2 D, iV ((x.2 : Nat) : Int), fV, vV (g 12), vV (g 13), vV (g 14), vV (g 15), vV (g 16), vV (g 17), vV (g 18), vV (g 19), vV (g 20), vV (g 21), vV (g 22), vV (g 23), vV (g 24), vV (g 25), vV (g 26), vV (g 27), vV (g 28), vV (g 29)] [Hc bp 31 [Cs 1 O x.1.1 C, Cs 2 A x.2 D, Cs 3 H x.4 E], Hr true O 61 2 x.1.1 C [fun a => Cs 4 (so a) (x.1.2 a) (sc a), fun a => Cb (x.1.4 a)], Hr true A 3 1 x.2 D [fun a => Ci (f a)], Hr true H 3 1 x.4 E [fun a => Ci (x.5 a)], Ho true (symRows true 3 x.1 so sc)])) := by kernel_rfl
theorem tm_ok (x : AD) (O A H : Option Addr) (C D E : Nat) (so : Nat → Option Addr) (sc : Nat → Nat) (bp : Nat) (m : Int) (hn : x.aN ≤ 9223372036854775807) (hag : agC x.aN x.ag) (hm : dayC m) (X : Cx) : LoopOK Try.prog X (theLoop Try.f37 0) (stm x O A H C D E so sc bp m) := by
  intro ts ch k a w hS hT hd hs
  obtain ⟨⟨h1, hch⟩, hk⟩ := hS
  refine loop_ok mixed (E := {}) trivial (loopsOK_nil _ _ _) 400 x.aN (fun j ts ch => ∃ f g, agC x.aN f ∧ ts = tmH x O A H C D E so sc bp m (.int (j : Int)) g ∧ ch = tmT x O A H C D E so sc bp m f) ?_ ?_ hT hd hs
  · rintro j _ _ ⟨f, g, hf, rfl, rfl⟩ hj
    refine (@Eq.mpr _ _ (tmB x O A H C D E so sc bp m f j g _ _) ?_)
    by_cases hlt : j < x.aN
    · have hjn : (0 : Int) ≤ (j : Int) ∧ (j : Int) < (x.aN : Int) := ⟨by omega, by omega⟩
      have hfj := hf j hlt
      have hm0 := hm.1
      have hm1 := hm.2
      repeat' (first
        | with_reducible exact rfl
        | exact True.intro
        | with_reducible assumption
        | (refine ⟨hlt, ?_⟩; show Next _ _ _ _; refine Next.mk (fun g => tmH x O A H C D E so sc bp m (.int ((j + 1 : Nat) : Int)) g) (tmT x O A H C D E so sc bp m (fun i => if i = j then minI (f j + m) 100000 else f i)) ⟨_, _, agC_min hf hm hlt, rfl, rfl⟩ rfl fun w hw => hw)
        | refine And.intro ?_ ?_
        | (intro h; replace h := of_decide_eq_false h; exfalso; omega)
        | (show rng _; simp only [rng]; omega)
        | intro _
        | omega)
    · have hjn : j = x.aN := by omega
      subst hjn
      repeat' (first
        | with_reducible exact rfl
        | exact True.intro
        | (refine Next.mk (fun g => tmH x O A H C D E so sc bp m (.int (x.aN : Int)) g) _ (hk f _ hf) rfl fun w hw => hw)
        | refine And.intro ?_ ?_
        | (intro h; replace h := of_decide_eq_true h; exfalso; omega)
        | intro _)
  · exact Next.mk (fun g => tmH x O A H C D E so sc bp m (.int ((0 : Nat) : Int)) g) _ ⟨_, _, hag, rfl, rfl⟩ h1 fun w hw => hch.hs hw
theorem tim_T (x : AD) (O A H : Option Addr) (C D E : Nat) (so : Nat → Option Addr) (sc : Nat → Nat) (bp : Nat) (m : Int) : (exFn Try.prog {L := [(1, stm x O A H C D E so sc bp m)]} 400 Try.f37 ([.a (.c (.ptr 0 bp 0)), .a (.c (.int m))]) ([.cells bp 31 [.sl 1 O (x).c.n C, .sl 2 A (x).aN D, .sl 3 H (x).hN E]] ++ arrO 1 (x) O A H C D E so sc) (fun v ch => ∃ f : Nat → Int, (v.den = .tuple #[] ∧ SelS ch [0, 1, 2, 3, 4] (tmT x O A H C D E so sc bp m f)) ∧ agC x.aN f)) = (
  ([Wp bp 0, Wi m, Wu [], Wu [], Wi 0, Wu [], Wu [], Wu [], Wu [], Wu [], Wu [], Wu [], Wu [], Wu [], Wu [], Wu [], Wu [], Wu [], Wu [], Wu [], Wu [], Wu [], Wu [], Wu [], Wu [], Wu [], Wu [], Wu [], Wu [], Wu []] = [Wp bp 0, Wi m, Wu [], Wu [], Wi 0, Wu [], Wu [], Wu [], Wu [], Wu [], Wu [], Wu [], Wu [], Wu [], Wu [], Wu [], Wu [], Wu [], Wu [], Wu [], Wu [], Wu [], Wu [], Wu [], Wu [], Wu [], Wu [], Wu [], Wu [], Wu []]∧SelS [Hc bp 31 [Cs 1 O x.1.1 C, Cs 2 A x.2 D, Cs 3 H x.4 E], Hr true O 61 2 x.1.1 C [fun b => Cs 4 (so b) (x.1.2 b) (sc b), fun b => Cb (x.1.4 b)], Hr true A 3 1 x.2 D [fun b => Ci (x.3 b)], Hr true H 3 1 x.4 E [fun b => Ci (x.5 b)], Ho true (symRows true 3 x.1 so sc)] [0, 1, 2, 3, 4] [Hc bp 31 [Cs 1 O x.1.1 C, Cs 2 A x.2 D, Cs 3 H x.4 E], Hr true O 61 2 x.1.1 C [fun b => Cs 4 (so b) (x.1.2 b) (sc b), fun b => Cb (x.1.4 b)], Hr true A 3 1 x.2 D [fun b => Ci (x.3 b)], Hr true H 3 1 x.4 E [fun b => Ci (x.5 b)], Ho true (symRows true 3 x.1 so sc)])∧∀(b : Nat→Int) (d : Nat→Value), agC x.2 b→∃ g : Nat→Int, ((Wu []) = (Wu [])∧SelS [Hc bp 31 [Cs 1 O x.1.1 C, Cs 2 A x.2 D, Cs 3 H x.4 E], Hr true O 61 2 x.1.1 C [fun h => Cs 4 (so h) (x.1.2 h) (sc h), fun h => Cb (x.1.4 h)], Hr true A 3 1 x.2 D [fun h => Ci (b h)], Hr true H 3 1 x.4 E [fun h => Ci (x.5 h)], Ho true (symRows true 3 x.1 so sc)] [0, 1, 2, 3, 4] [Hc bp 31 [Cs 1 O x.1.1 C, Cs 2 A x.2 D, Cs 3 H x.4 E], Hr true O 61 2 x.1.1 C [fun h => Cs 4 (so h) (x.1.2 h) (sc h), fun h => Cb (x.1.4 h)], Hr true A 3 1 x.2 D [fun h => Ci (g h)], Hr true H 3 1 x.4 E [fun h => Ci (x.5 h)], Ho true (symRows true 3 x.1 so sc)])∧agC x.2 g) := by kernel_rfl
theorem tim_any (x : AD) (O A H : Option Addr) (C D E : Nat) (so : Nat → Option Addr) (sc : Nat → Nat) (bp : Nat) (m : Int) (M : Nat → Prop) (w : World) (hs : HS ⟨w, M⟩ ([.cells bp 31 [.sl 1 O (x).c.n C, .sl 2 A (x).aN D, .sl 3 H (x).hN E]] ++ arrO 1 (x) O A H C D E so sc) w) (hn : x.aN ≤ 9223372036854775807) (hag : agC x.aN x.ag) (hm : dayC m) : Calls Try.prog 37 #[.pointer (some ⟨bp, 0, none⟩), .int .i64 m] w fun e w' => ∃ f : Nat → Int, e = .returned (.tuple #[]) ∧ agC x.aN f ∧ HS ⟨w, M⟩ (tmT x O A H C D E so sc bp m f) w' := by
  refine fn_ok mixed (E := {L := [(1, stm x O A H C D E so sc bp m)]}) trivial Try.func37 (one_loop (by kernel_rfl) (by kernel_rfl) (tm_ok x O A H C D E so sc bp m hn hag hm _)) (@Eq.mpr _ _ (tim_T x O A H C D E so sc bp m) ?_) hs (fun v ch' w' ⟨f, ⟨hv, hc⟩, hf⟩ hs => ⟨f, by rw [hv], hf, hc.hs hs⟩)
  clear hs
  repeat' (first
    | with_reducible exact rfl
    | exact True.intro
    | with_reducible assumption
    | refine And.intro ?_ ?_
    | (intro f g hf; refine ⟨f, ⟨rfl, ?_⟩, hf⟩)
    | exact (by refine ⟨?_, rfl⟩; repeat' (first | exact True.intro | exact symRows_push | exact rfl | refine And.intro ?_ ?_ | (intro i hi; show _ = _; with_reducible rfl) | (intro i hi; show _ = _; rfl) | (intro i hi; show _ = _; simp only [SC.den]; split <;> rfl)))
    | (show nodupB _ = true; rfl)
    | intro _
    | omega)

def sPickW : Sm := inlM Try.prog {tb := [(16, sBelow)]} 300 Try.f60
theorem sPickW_ok : SmOK Try.prog 60 sPickW := inlM_ok mixed (E := {tb := [(16, sBelow)]}) ⟨sBelow_ok, trivial⟩ Try.func60 Try.call60 (fun _ _ _ => loopsOK_nil _ _ _)
theorem sSmallC_T (cb : Nat) (co : Option Addr) (cn cc : Nat) (ci cz : Int) (cu : Nat → Int) : (exFn Try.prog {tb := [(16, sBelow)]} 400 Try.f33 ([.a (.c (.ptr 0 cb 0))]) ([.cells cb 79 [.sl 1 co cn cc, .int ci, .int cz], .row ⟨false, co, 0, 1, cn, 0, [fun i => .u8 (cu i)]⟩]) (fun v ch => ∃ (zg : Int) (zb : Int) (zr : Int) (zc : Int) (i1 z1 : Int) , OutC v ch (.agg #[.int .i64 (zg), .int .i64 (zb), .int .i64 (zr), .int .i64 (zc)]) (.cells cb 79 [.sl 1 co cn cc, .int i1, .int z1]) [] ∧ (geoS zg zb zr zc) ∧ pos0 i1)) = (
  ∀ b : Nat, ∃ d : Nat→Int, ((cb = cb∧79 = 79∧co = co∧cn = cn∧[fun g => Ce (cu g)] = [fun g => Ce (d g)])∧codeC cn d∧pos0 ci∧inR (2 : Int) (1 : Int) (4294967296 : Int))∧∀ g h j : Int, inR g (0 : Int) ((2 : Int) - (1 : Int))→pos0 h→rng ((1 : Int) + g)∧∃ k : Nat→Int, ((cb = cb∧79 = 79∧co = co∧cn = cn∧[fun l => Ce (cu l)] = [fun l => Ce (k l)])∧codeC cn k∧pos0 h∧inR (3 : Int) (1 : Int) (4294967296 : Int))∧∀ l m n : Int, inR l (0 : Int) ((3 : Int) - (1 : Int))→pos0 m→rng ((2 : Int) + l)∧∃ o : Nat→Int, ((cb = cb∧79 = 79∧co = co∧cn = cn∧[fun p => Ce (cu p)] = [fun p => Ce (o p)])∧codeC cn o∧pos0 m∧inR (2 : Int) (1 : Int) (4294967296 : Int))∧∀ p q r : Int, inR p (0 : Int) ((2 : Int) - (1 : Int))→pos0 q→rng ((1 : Int) + p)∧b = b∧b = b∧∃ s t u w x y : Int, ((Wa [Wi 1, Wi ((1 : Int) + g), Wi ((2 : Int) + l), Wi ((1 : Int) + p)]) = (Wa [Wi s, Wi t, Wi u, Wi w])∧(cb = cb∧79 = 79∧[Ws co cn cc, Wi q, Wi r] = [Ws co cn cc, Wi x, Wi y])∧True∧true = true)∧geoS s t u w∧pos0 x) := by kernel_rfl
theorem sSmallC_any (cb : Nat) (co : Option Addr) (cn cc : Nat) (ci cz : Int) (cu : Nat → Int) (w : World) (hs : HS ⟨w, (Ch.cells cb 79 [.sl 1 co cn cc, .int ci, .int cz]).at⟩ [.cells cb 79 [.sl 1 co cn cc, .int ci, .int cz], .row ⟨false, co, 0, 1, cn, 0, [fun i => .u8 (cu i)]⟩] w) (hcode : codeC cn cu) (hci : pos0 ci) : Calls Try.prog 33 #[.pointer (some ⟨cb, 0, none⟩)] w fun e w' => ∃ (zg : Int) (zb : Int) (zr : Int) (zc : Int) (i1 z1 : Int) , ((geoS zg zb zr zc) ∧ pos0 i1) ∧ e = .returned (.agg #[.int .i64 (zg), .int .i64 (zb), .int .i64 (zr), .int .i64 (zc)]) ∧ HS ⟨w, (Ch.cells cb 79 [.sl 1 co cn cc, .int ci, .int cz]).at⟩ [.cells cb 79 [.sl 1 co cn cc, .int i1, .int z1]] w' := by
  refine fn_ok mixed (E := {tb := [(16, sBelow)]}) ⟨sBelow_ok, trivial⟩ Try.func33 (fun _ _ => loopsOK_nil _ _ _) (@Eq.mpr _ _ (sSmallC_T cb co cn cc ci cz cu) ?_) hs (fun v ch' w' ⟨zg, zb, zr, zc, i1, z1, hk, hf⟩ hs => ⟨zg, zb, zr, zc, i1, z1, hf, by rw [hk.1], hk.hs hs⟩)
  clear hs
  have hcn : cn ≤ 1048576 := hcode.1
  have hci0 : 0 ≤ ci := hci
  repeat' (first
    | with_reducible exact rfl
    | exact True.intro
    | with_reducible assumption
    | (with_reducible refine (⟨rfl, ⟨by omega, by omega⟩, ⟨by omega, by omega⟩, ⟨by omega, by omega⟩⟩ : geoS _ _ _ _))
    | refine And.intro ?_ ?_
    | apply Exists.intro
    | (intro h; exfalso; simp at h; done)
    | (intro h; replace h := of_decide_eq_true h; first | (exfalso; omega) | skip)
    | (intro h; replace h := of_decide_eq_false h; first | (exfalso; omega) | skip)
    | intro _
    | omega)
def sSmall : Sm := fun args ch k =>
  match args with
  | [.a (.c (.ptr id b off))] =>
    match off, ch[id]? with
    | 0, some (.cells b' t [.sl j ao n cap, ic, hc]) =>
      match ch[j]?, asI ic, asI hc with
      | some (.row r), some i, some z => ∃ u : Nat → Int, ((b = b' ∧ t = 79 ∧ ao = r.ao ∧ n = r.n ∧ r.fld = [fun i => .u8 (u i)]) ∧ codeC n u ∧ pos0 i) ∧ ∀ (zg : Int), ∀ (zb : Int), ∀ (zr : Int), ∀ (zc : Int), ∀ (i1 z1 : Int), (geoS zg zb zr zc) → pos0 i1 → k (.a (.agg [.int (zg), .int (zb), .int (zr), .int (zc)])) (ch.set id (.cells b 79 [.sl j ao n cap, .int i1, .int z1])) [id]
      | _, _, _ => False
    | _, _ => False
  | _ => False
theorem sSmall_ok : SmOK Try.prog 33 sSmall := by
  refine smTurnN Try.call33 fun args ch k w X h0 hs => ?_
  unfold sSmall at h0
  split at h0
  · rename_i id b off
    split at h0
    · rename_i b' t j ao n cap ic hc hid
      split at h0
      · rename_i r i z hj hi hz
        obtain ⟨u, ⟨⟨rfl, rfl, hao, hn, hf⟩, hcode, hi0⟩, h0⟩ := h0
        refine ⟨id, _, hid, rfl, ?_⟩
        simp only [List.map_cons, List.map_nil, den_a, den_c, SA.den]
        exact Calls.mono (sSmallC_any b ao n cap i z u  w (hs.cur' hid hj hi hz hao hn hf) hcode hi0) fun e w' ⟨zg, zb, zr, zc, i1, z1, ⟨hfa, hp⟩, he, hn'⟩ => ⟨.a (.agg [.int (zg), .int (zb), .int (zr), .int (zc)]), _, [], he, hn'.recur, at_cells, rfl, by simpa using h0 zg zb zr zc i1 z1 hfa hp⟩
      · exact h0.elim
    · exact h0.elim
  · exact h0.elim
theorem sLimsC_T (cb : Nat) (co : Option Addr) (cn cc : Nat) (ci cz : Int) (cu : Nat → Int) : (exFn Try.prog {tb := [(60, sPickW)]} 400 Try.f34 ([.a (.c (.ptr 0 cb 0))]) ([.cells cb 79 [.sl 1 co cn cc, .int ci, .int cz], .row ⟨false, co, 0, 1, cn, 0, [fun i => .u8 (cu i)]⟩]) (fun v ch => ∃ (za : Int) (zh : Int) (i1 z1 : Int) , OutC v ch (.agg #[.int .i64 (za), .int .i64 (zh)]) (.cells cb 79 [.sl 1 co cn cc, .int i1, .int z1]) [] ∧ (True) ∧ pos0 i1)) = (
  (fun b : Value => (fun d : Value => (fun g : Prop => (fun h : List (Nat→SC) => (fun j : Prop => ∀ k l : Nat, ∃ m : Nat→Int, ((cb = cb∧79 = 79∧co = co∧cn = cn∧h = [fun n => Ce (m n)])∧codeC cn m∧pos0 ci∧j)∧∀ n o p : Int, (fun q : Prop => inR n (0 : Int) ((4 : Int) - (1 : Int))→pos0 o→(0 ≤ n∧n < ((4 : Nat) : Int))∧(n = (3 : Int)→l = l∧∀ r : Nat, ∃ s : Nat→Int, ((cb = cb∧79 = 79∧co = co∧cn = cn∧h = [fun t => Ce (s t)])∧codeC cn s∧q)∧∀ t u w : Int, inR t (0 : Int) ((4 : Int) - (1 : Int))→pos0 u→(0 ≤ t∧t < ((4 : Nat) : Int))∧(t = (3 : Int)→r = r∧k = k∧k = k∧∃ x y z B : Int, ((Wa [Wi 100, Wi 20]) = (Wa [Wi x, Wi y])∧(cb = cb∧79 = 79∧[d, Wi u, Wi w] = [d, Wi z, Wi B])∧g)∧True∧pos0 z)∧(t = (2 : Int)→r = r∧k = k∧k = k∧∃ x y z B : Int, ((Wa [Wi 100, Wi 5]) = (Wa [Wi x, Wi y])∧(cb = cb∧79 = 79∧[d, Wi u, Wi w] = [d, Wi z, Wi B])∧g)∧True∧pos0 z)∧(t = (1 : Int)→r = r∧k = k∧k = k∧∃ x y z B : Int, ((Wa [Wi 100, Wi 2]) = (Wa [Wi x, Wi y])∧(cb = cb∧79 = 79∧[d, Wi u, Wi w] = [d, Wi z, Wi B])∧g)∧True∧pos0 z)∧(t = (0 : Int)→r = r∧k = k∧k = k∧∃ x y z B : Int, ((Wa [Wi 100, b]) = (Wa [Wi x, Wi y])∧(cb = cb∧79 = 79∧[d, Wi u, Wi w] = [d, Wi z, Wi B])∧g)∧True∧pos0 z)∧True)∧(n = (2 : Int)→l = l∧∀ r : Nat, ∃ s : Nat→Int, ((cb = cb∧79 = 79∧co = co∧cn = cn∧h = [fun t => Ce (s t)])∧codeC cn s∧q)∧∀ t u w : Int, inR t (0 : Int) ((4 : Int) - (1 : Int))→pos0 u→(0 ≤ t∧t < ((4 : Nat) : Int))∧(t = (3 : Int)→r = r∧k = k∧k = k∧∃ x y z B : Int, ((Wa [Wi 50, Wi 20]) = (Wa [Wi x, Wi y])∧(cb = cb∧79 = 79∧[d, Wi u, Wi w] = [d, Wi z, Wi B])∧g)∧True∧pos0 z)∧(t = (2 : Int)→r = r∧k = k∧k = k∧∃ x y z B : Int, ((Wa [Wi 50, Wi 5]) = (Wa [Wi x, Wi y])∧(cb = cb∧79 = 79∧[d, Wi u, Wi w] = [d, Wi z, Wi B])∧g)∧True∧pos0 z)∧(t = (1 : Int)→r = r∧k = k∧k = k∧∃ x y z B : Int, ((Wa [Wi 50, Wi 2]) = (Wa [Wi x, Wi y])∧(cb = cb∧79 = 79∧[d, Wi u, Wi w] = [d, Wi z, Wi B])∧g)∧True∧pos0 z)∧(t = (0 : Int)→r = r∧k = k∧k = k∧∃ x y z B : Int, ((Wa [Wi 50, b]) = (Wa [Wi x, Wi y])∧(cb = cb∧79 = 79∧[d, Wi u, Wi w] = [d, Wi z, Wi B])∧g)∧True∧pos0 z)∧True)∧(n = (1 : Int)→l = l∧∀ r : Nat, ∃ s : Nat→Int, ((cb = cb∧79 = 79∧co = co∧cn = cn∧h = [fun t => Ce (s t)])∧codeC cn s∧q)∧∀ t u w : Int, inR t (0 : Int) ((4 : Int) - (1 : Int))→pos0 u→(0 ≤ t∧t < ((4 : Nat) : Int))∧(t = (3 : Int)→r = r∧k = k∧k = k∧∃ x y z B : Int, ((Wa [Wi 10, Wi 20]) = (Wa [Wi x, Wi y])∧(cb = cb∧79 = 79∧[d, Wi u, Wi w] = [d, Wi z, Wi B])∧g)∧True∧pos0 z)∧(t = (2 : Int)→r = r∧k = k∧k = k∧∃ x y z B : Int, ((Wa [Wi 10, Wi 5]) = (Wa [Wi x, Wi y])∧(cb = cb∧79 = 79∧[d, Wi u, Wi w] = [d, Wi z, Wi B])∧g)∧True∧pos0 z)∧(t = (1 : Int)→r = r∧k = k∧k = k∧∃ x y z B : Int, ((Wa [Wi 10, Wi 2]) = (Wa [Wi x, Wi y])∧(cb = cb∧79 = 79∧[d, Wi u, Wi w] = [d, Wi z, Wi B])∧g)∧True∧pos0 z)∧(t = (0 : Int)→r = r∧k = k∧k = k∧∃ x y z B : Int, ((Wa [Wi 10, b]) = (Wa [Wi x, Wi y])∧(cb = cb∧79 = 79∧[d, Wi u, Wi w] = [d, Wi z, Wi B])∧g)∧True∧pos0 z)∧True)∧(n = (0 : Int)→l = l∧∀ r : Nat, ∃ s : Nat→Int, ((cb = cb∧79 = 79∧co = co∧cn = cn∧h = [fun t => Ce (s t)])∧codeC cn s∧q)∧∀ t u w : Int, inR t (0 : Int) ((4 : Int) - (1 : Int))→pos0 u→(0 ≤ t∧t < ((4 : Nat) : Int))∧(t = (3 : Int)→r = r∧k = k∧k = k∧∃ x y z B : Int, ((Wa [b, Wi 20]) = (Wa [Wi x, Wi y])∧(cb = cb∧79 = 79∧[d, Wi u, Wi w] = [d, Wi z, Wi B])∧g)∧True∧pos0 z)∧(t = (2 : Int)→r = r∧k = k∧k = k∧∃ x y z B : Int, ((Wa [b, Wi 5]) = (Wa [Wi x, Wi y])∧(cb = cb∧79 = 79∧[d, Wi u, Wi w] = [d, Wi z, Wi B])∧g)∧True∧pos0 z)∧(t = (1 : Int)→r = r∧k = k∧k = k∧∃ x y z B : Int, ((Wa [b, Wi 2]) = (Wa [Wi x, Wi y])∧(cb = cb∧79 = 79∧[d, Wi u, Wi w] = [d, Wi z, Wi B])∧g)∧True∧pos0 z)∧(t = (0 : Int)→r = r∧k = k∧k = k∧∃ x y z B : Int, ((Wa [b, b]) = (Wa [Wi x, Wi y])∧(cb = cb∧79 = 79∧[d, Wi u, Wi w] = [d, Wi z, Wi B])∧g)∧True∧pos0 z)∧True)∧True) (pos0 o∧j)) (inR (4 : Int) (1 : Int) (4294967296 : Int))) [fun h => Ce (cu h)]) (True∧true = true)) (Ws co cn cc)) (Wi 0)) := by kernel_rfl
theorem sLimsC_any (cb : Nat) (co : Option Addr) (cn cc : Nat) (ci cz : Int) (cu : Nat → Int) (w : World) (hs : HS ⟨w, (Ch.cells cb 79 [.sl 1 co cn cc, .int ci, .int cz]).at⟩ [.cells cb 79 [.sl 1 co cn cc, .int ci, .int cz], .row ⟨false, co, 0, 1, cn, 0, [fun i => .u8 (cu i)]⟩] w) (hcode : codeC cn cu) (hci : pos0 ci) : Calls Try.prog 34 #[.pointer (some ⟨cb, 0, none⟩)] w fun e w' => ∃ (za : Int) (zh : Int) (i1 z1 : Int) , ((True) ∧ pos0 i1) ∧ e = .returned (.agg #[.int .i64 (za), .int .i64 (zh)]) ∧ HS ⟨w, (Ch.cells cb 79 [.sl 1 co cn cc, .int ci, .int cz]).at⟩ [.cells cb 79 [.sl 1 co cn cc, .int i1, .int z1]] w' := by
  refine fn_ok mixed (E := {tb := [(60, sPickW)]}) ⟨sPickW_ok, trivial⟩ Try.func34 (fun _ _ => loopsOK_nil _ _ _) (@Eq.mpr _ _ (sLimsC_T cb co cn cc ci cz cu) ?_) hs (fun v ch' w' ⟨za, zh, i1, z1, hk, hf⟩ hs => ⟨za, zh, i1, z1, hf, by rw [hk.1], hk.hs hs⟩)
  dsimp -zeta -proj -iota -eta -failIfUnchanged (etaStruct := .none) only
  clear hs
  have hcn : cn ≤ 1048576 := hcode.1
  have hci0 : 0 ≤ ci := hci
  repeat' (first
    | with_reducible exact rfl
    | exact True.intro
    | with_reducible assumption
    | refine And.intro ?_ ?_
    | apply Exists.intro
    | (intro h; exfalso; simp at h; done)
    | (intro h; replace h := of_decide_eq_true h; first | (exfalso; omega) | skip)
    | (intro h; replace h := of_decide_eq_false h; first | (exfalso; omega) | skip)
    | intro _
    | omega)
def sLims : Sm := fun args ch k =>
  match args with
  | [.a (.c (.ptr id b off))] =>
    match off, ch[id]? with
    | 0, some (.cells b' t [.sl j ao n cap, ic, hc]) =>
      match ch[j]?, asI ic, asI hc with
      | some (.row r), some i, some z => ∃ u : Nat → Int, ((b = b' ∧ t = 79 ∧ ao = r.ao ∧ n = r.n ∧ r.fld = [fun i => .u8 (u i)]) ∧ codeC n u ∧ pos0 i) ∧ ∀ (za : Int), ∀ (zh : Int), ∀ (i1 z1 : Int), (True) → pos0 i1 → k (.a (.agg [.int (za), .int (zh)])) (ch.set id (.cells b 79 [.sl j ao n cap, .int i1, .int z1])) [id]
      | _, _, _ => False
    | _, _ => False
  | _ => False
theorem sLims_ok : SmOK Try.prog 34 sLims := by
  refine smTurnN Try.call34 fun args ch k w X h0 hs => ?_
  unfold sLims at h0
  split at h0
  · rename_i id b off
    split at h0
    · rename_i b' t j ao n cap ic hc hid
      split at h0
      · rename_i r i z hj hi hz
        obtain ⟨u, ⟨⟨rfl, rfl, hao, hn, hf⟩, hcode, hi0⟩, h0⟩ := h0
        refine ⟨id, _, hid, rfl, ?_⟩
        simp only [List.map_cons, List.map_nil, den_a, den_c, SA.den]
        exact Calls.mono (sLimsC_any b ao n cap i z u  w (hs.cur' hid hj hi hz hao hn hf) hcode hi0) fun e w' ⟨za, zh, i1, z1, ⟨hfa, hp⟩, he, hn'⟩ => ⟨.a (.agg [.int (za), .int (zh)]), _, [], he, hn'.recur, at_cells, rfl, by simpa using h0 za zh i1 z1 hfa hp⟩
      · exact h0.elim
    · exact h0.elim
  · exact h0.elim
theorem sAddrWC_T (cb : Nat) (co : Option Addr) (cn cc : Nat) (ci cz : Int) (cu : Nat → Int) (gGroups : Int) (gBanks : Int) (gRows : Int) (gCols : Int) : (exFn Try.prog {tb := [(16, sBelow), (46, sBank)], D := fun _ => [0]} 400 Try.f36 ([.a (.c (.ptr 0 cb 0)), .a (.agg [.int gGroups, .int gBanks, .int gRows, .int gCols])]) ([.cells cb 79 [.sl 1 co cn cc, .int ci, .int cz], .row ⟨false, co, 0, 1, cn, 0, [fun i => .u8 (cu i)]⟩]) (fun v ch => ∃ (zb : Int) (zr : Int) (zc : Int) (i1 z1 : Int) , OutC v ch (.agg #[.int .i64 (zb), .int .i64 (zr), .int .i64 (zc)]) (.cells cb 79 [.sl 1 co cn cc, .int i1, .int z1]) [] ∧ (adOk gGroups gBanks gRows gCols zb zr zc = true) ∧ pos0 i1)) = (
  ∀ b d : Nat, b = b∧b = b∧b = b∧True∧∃ g : Nat→Int, ((cb = cb∧79 = 79∧co = co∧cn = cn∧[fun h => Ce (cu h)] = [fun h => Ce (g h)])∧codeC cn g∧pos0 ci∧inR (bankN gGroups gBanks gRows gCols) (1 : Int) (4294967296 : Int))∧∀ h j k : Int, inR h (0 : Int) ((bankN gGroups gBanks gRows gCols) - (1 : Int))→pos0 j→True∧∃ l : Nat→Int, ((cb = cb∧79 = 79∧co = co∧cn = cn∧[fun m => Ce (cu m)] = [fun m => Ce (l m)])∧codeC cn l∧pos0 j∧inR gRows (1 : Int) (4294967296 : Int))∧∀ m n o : Int, inR m (0 : Int) (gRows - (1 : Int))→pos0 n→True∧∃ p : Nat→Int, ((cb = cb∧79 = 79∧co = co∧cn = cn∧[fun q => Ce (cu q)] = [fun q => Ce (p q)])∧codeC cn p∧pos0 n∧inR gCols (1 : Int) (4294967296 : Int))∧∀ q r s : Int, inR q (0 : Int) (gCols - (1 : Int))→pos0 r→True∧d = d∧True∧d = d∧∃ t u w x y : Int, ((Wa [Wi h, Wi m, Wi q]) = (Wa [Wi t, Wi u, Wi w])∧(cb = cb∧79 = 79∧[Ws co cn cc, Wi r, Wi s] = [Ws co cn cc, Wi x, Wi y])∧True∧true = true)∧(adOk gGroups gBanks gRows gCols t u w) = true∧pos0 x) := by kernel_rfl
theorem sAddrWC_any (cb : Nat) (co : Option Addr) (cn cc : Nat) (ci cz : Int) (cu : Nat → Int) (gGroups : Int) (gBanks : Int) (gRows : Int) (gCols : Int) (w : World) (hs : HS ⟨w, (Ch.cells cb 79 [.sl 1 co cn cc, .int ci, .int cz]).at⟩ [.cells cb 79 [.sl 1 co cn cc, .int ci, .int cz], .row ⟨false, co, 0, 1, cn, 0, [fun i => .u8 (cu i)]⟩] w) (hcode : codeC cn cu) (hci : pos0 ci) (hpre : geoS gGroups gBanks gRows gCols) : Calls Try.prog 36 #[.pointer (some ⟨cb, 0, none⟩), .agg #[.int .i64 gGroups, .int .i64 gBanks, .int .i64 gRows, .int .i64 gCols]] w fun e w' => ∃ (zb : Int) (zr : Int) (zc : Int) (i1 z1 : Int) , ((adOk gGroups gBanks gRows gCols zb zr zc = true) ∧ pos0 i1) ∧ e = .returned (.agg #[.int .i64 (zb), .int .i64 (zr), .int .i64 (zc)]) ∧ HS ⟨w, (Ch.cells cb 79 [.sl 1 co cn cc, .int ci, .int cz]).at⟩ [.cells cb 79 [.sl 1 co cn cc, .int i1, .int z1]] w' := by
  refine fn_ok mixed (E := {tb := [(16, sBelow), (46, sBank)], D := fun _ => [0]}) ⟨sBelow_ok, sBank_S, trivial⟩ Try.func36 (fun _ _ => loopsOK_nil _ _ _) (@Eq.mpr _ _ (sAddrWC_T cb co cn cc ci cz cu gGroups gBanks gRows gCols) ?_) hs (fun v ch' w' ⟨zb, zr, zc, i1, z1, hk, hf⟩ hs => ⟨zb, zr, zc, i1, z1, hf, by rw [hk.1], hk.hs hs⟩)
  clear hs
  have hcn : cn ≤ 1048576 := hcode.1
  have hci0 : 0 ≤ ci := hci
  have hb := geo_bank (geoS_ok hpre)
  have hbn : bankN gGroups gBanks gRows gCols = gGroups * gBanks := by simp [bankN, geoS_ok hpre]
  repeat' (first
    | with_reducible exact rfl
    | exact True.intro
    | with_reducible assumption
    | (exact ad_mk hpre (by with_reducible assumption) (by with_reducible assumption) (by with_reducible assumption))
    | refine And.intro ?_ ?_
    | apply Exists.intro
    | (intro h; exfalso; simp at h; done)
    | (intro h; replace h := of_decide_eq_true h; first | (exfalso; omega) | skip)
    | (intro h; replace h := of_decide_eq_false h; first | (exfalso; omega) | skip)
    | intro _
    | omega)
def sAddrW : Sm := fun args ch k =>
  match args with
  | [.a (.c (.ptr id b off)), .a (.agg [c0, c1, c2, c3])] =>
    match off, ch[id]? with
    | 0, some (.cells b' t [.sl j ao n cap, ic, hc]) =>
      match ch[j]?, asI ic, asI hc, ints [c0, c1, c2, c3] with
      | some (.row r), some i, some z, some [gGroups, gBanks, gRows, gCols] => ∃ u : Nat → Int, ((b = b' ∧ t = 79 ∧ ao = r.ao ∧ n = r.n ∧ r.fld = [fun i => .u8 (u i)]) ∧ codeC n u ∧ pos0 i ∧ geoS gGroups gBanks gRows gCols) ∧ ∀ (zb : Int), ∀ (zr : Int), ∀ (zc : Int), ∀ (i1 z1 : Int), (adOk gGroups gBanks gRows gCols zb zr zc = true) → pos0 i1 → k (.a (.agg [.int (zb), .int (zr), .int (zc)])) (ch.set id (.cells b 79 [.sl j ao n cap, .int i1, .int z1])) [id]
      | _, _, _, _ => False
    | _, _ => False
  | _ => False
theorem sAddrW_ok : SmOK Try.prog 36 sAddrW := by
  refine smTurnN Try.call36 fun args ch k w X h0 hs => ?_
  unfold sAddrW at h0
  split at h0
  · rename_i id b off c0 c1 c2 c3
    split at h0
    · rename_i b' t j ao n cap ic hc hid
      split at h0
      · rename_i r i z gGroups gBanks gRows gCols hj hi hz hI
        obtain ⟨u, ⟨⟨rfl, rfl, hao, hn, hf⟩, hcode, hi0, hpre⟩, h0⟩ := h0
        obtain ⟨ec0, hI⟩ := ints_cons hI
        obtain ⟨ec1, hI⟩ := ints_cons hI
        obtain ⟨ec2, hI⟩ := ints_cons hI
        obtain ⟨ec3, hI⟩ := ints_cons hI
        refine ⟨id, _, hid, rfl, ?_⟩
        simp only [List.map_cons, List.map_nil, den_a, den_c, SA.den, ec0, ec1, ec2, ec3]
        exact Calls.mono (sAddrWC_any b ao n cap i z u gGroups gBanks gRows gCols w (hs.cur' hid hj hi hz hao hn hf) hcode hi0 hpre) fun e w' ⟨zb, zr, zc, i1, z1, ⟨hfa, hp⟩, he, hn'⟩ => ⟨.a (.agg [.int (zb), .int (zr), .int (zc)]), _, [], he, hn'.recur, at_cells, rfl, by simpa using h0 zb zr zc i1 z1 hfa hp⟩
      · exact h0.elim
    · exact h0.elim
  · exact h0.elim
def datC (d : Nat → Int) : Prop := ∀ i, el (d i)
theorem dat_base {z : Int} (hz : inR z 0 (isub 16 1)) : datC (fun _ => z) := fun _ => hz
theorem dat_step {p : Nat → Int} {k : Nat} {z : Int} (hp : datC p) (hz : inR z 0 (isub 16 1)) : datC (fun i => if i < k then p i else z) := fun i => by
  show el (if i < k then p i else z)
  split
  · exact hp i
  · exact hz
theorem sDataWC_T (cb : Nat) (co : Option Addr) (cn cc : Nat) (ci cz : Int) (cu : Nat → Int) : (exFn Try.prog {tb := [(16, sBelow)]} 400 Try.f61 ([.a (.c (.ptr 0 cb 0))]) ([.cells cb 79 [.sl 1 co cn cc, .int ci, .int cz], .row ⟨false, co, 0, 1, cn, 0, [fun i => .u8 (cu i)]⟩]) (fun v ch => ∃ (d : Nat → Int) (i1 z1 : Int) (ro0 : Option Addr) (rc0 : Nat), OutC v ch (.slice ro0 (8) rc0) (.cells cb 79 [.sl 1 co cn cc, .int i1, .int z1]) [.row ⟨true, ro0, 3, 1, 8, rc0, [fun i => .int (d i)]⟩] ∧ (datC d) ∧ pos0 i1)) = (
  (fun b : List (Nat→SC) => (fun g : Prop => (fun h : Prop => ∀ j : Nat, ∃ k : Nat→Int, ((cb = cb∧79 = 79∧co = co∧cn = cn∧b = [fun l => Ce (k l)])∧codeC cn k∧pos0 ci∧h)∧∀ l m n : Int, inR l (0 : Int) ((16 : Int) - (1 : Int))→pos0 m→∀ o : Nat, (j = j∧o = o∧g∧apC 0 1 8)∧∀(p : Option Addr) (q : Nat), ∃ r : Nat→Int, ((cb = cb∧79 = 79∧co = co∧cn = cn∧b = [fun s => Ce (r s)])∧codeC cn r∧pos0 m∧h)∧∀ s t u : Int, inR s (0 : Int) ((16 : Int) - (1 : Int))→pos0 t→∀ w : Nat, (p = p∧1 = 1∧q = q∧w = w∧g∧apC 1 1 8)∧∀(x : Option Addr) (y : Nat), ∃ z : Nat→Int, ((cb = cb∧79 = 79∧co = co∧cn = cn∧b = [fun B => Ce (z B)])∧codeC cn z∧pos0 t∧h)∧∀ B C D : Int, inR B (0 : Int) ((16 : Int) - (1 : Int))→pos0 C→∀ E : Nat, (x = x∧2 = 2∧y = y∧E = E∧g∧apC 2 1 8)∧∀(F : Option Addr) (G : Nat), ∃ H : Nat→Int, ((cb = cb∧79 = 79∧co = co∧cn = cn∧b = [fun I => Ce (H I)])∧codeC cn H∧pos0 C∧h)∧∀ I J K : Int, inR I (0 : Int) ((16 : Int) - (1 : Int))→pos0 J→∀ L : Nat, (F = F∧3 = 3∧G = G∧L = L∧g∧apC 3 1 8)∧∀(M : Option Addr) (N : Nat), ∃ O : Nat→Int, ((cb = cb∧79 = 79∧co = co∧cn = cn∧b = [fun P => Ce (O P)])∧codeC cn O∧pos0 J∧h)∧∀ P Q R : Int, inR P (0 : Int) ((16 : Int) - (1 : Int))→pos0 Q→∀ S : Nat, (M = M∧4 = 4∧N = N∧S = S∧g∧apC 4 1 8)∧∀(T : Option Addr) (U : Nat), ∃ V : Nat→Int, ((cb = cb∧79 = 79∧co = co∧cn = cn∧b = [fun W => Ce (V W)])∧codeC cn V∧pos0 Q∧h)∧∀ W X Y : Int, inR W (0 : Int) ((16 : Int) - (1 : Int))→pos0 X→∀ Z : Nat, (T = T∧5 = 5∧U = U∧Z = Z∧g∧apC 5 1 8)∧∀(aa : Option Addr) (ab : Nat), ∃ ac : Nat→Int, ((cb = cb∧79 = 79∧co = co∧cn = cn∧b = [fun ad => Ce (ac ad)])∧codeC cn ac∧pos0 X∧h)∧∀ ad af ag : Int, inR ad (0 : Int) ((16 : Int) - (1 : Int))→pos0 af→∀ ah : Nat, (aa = aa∧6 = 6∧ab = ab∧ah = ah∧g∧apC 6 1 8)∧∀(aj : Option Addr) (ak : Nat), ∃ al : Nat→Int, ((cb = cb∧79 = 79∧co = co∧cn = cn∧b = [fun am => Ce (al am)])∧codeC cn al∧pos0 af∧h)∧∀ am an ao : Int, inR am (0 : Int) ((16 : Int) - (1 : Int))→pos0 an→∀ ap : Nat, (aj = aj∧7 = 7∧ak = ak∧ap = ap∧g∧apC 7 1 8)∧∀(aq : Option Addr) (ar : Nat), ∃(au : Nat→Int) (av aw : Int) (ax : Option Addr) (ay : Nat), ((Ws aq 8 ar) = (Ws ax 8 ay)∧(cb = cb∧79 = 79∧[Ws co cn cc, Wi an, Wi ao] = [Ws co cn cc, Wi av, Wi aw])∧((true = true∧aq = ax∧3 = 3∧1 = 1∧8 = 8∧ar = ay∧(∀ az : Nat, az < 8→(Wi (if az < 7 then (if az < 6 then (if az < 5 then (if az < 4 then (if az < 3 then (if az < 2 then (if az < 1 then l else s) else B) else I) else P) else W) else ad) else am)) = (Wi (au az)))∧True)∧True)∧true = true)∧datC au∧pos0 av) (inR (16 : Int) (1 : Int) (4294967296 : Int))) (∀ g : Nat, true = true)) [fun b => Ce (cu b)]) := by kernel_rfl
theorem sDataWC_any (cb : Nat) (co : Option Addr) (cn cc : Nat) (ci cz : Int) (cu : Nat → Int) (w : World) (hs : HS ⟨w, (Ch.cells cb 79 [.sl 1 co cn cc, .int ci, .int cz]).at⟩ [.cells cb 79 [.sl 1 co cn cc, .int ci, .int cz], .row ⟨false, co, 0, 1, cn, 0, [fun i => .u8 (cu i)]⟩] w) (hcode : codeC cn cu) (hci : pos0 ci) : Calls Try.prog 61 #[.pointer (some ⟨cb, 0, none⟩)] w fun e w' => ∃ (d : Nat → Int) (i1 z1 : Int) (ro0 : Option Addr) (rc0 : Nat), ((datC d) ∧ pos0 i1) ∧ e = .returned (.slice ro0 (8) rc0) ∧ HS ⟨w, (Ch.cells cb 79 [.sl 1 co cn cc, .int ci, .int cz]).at⟩ [.cells cb 79 [.sl 1 co cn cc, .int i1, .int z1], .row ⟨true, ro0, 3, 1, 8, rc0, [fun i => .int (d i)]⟩] w' := by
  refine fn_ok mixed (E := {tb := [(16, sBelow)]}) ⟨sBelow_ok, trivial⟩ Try.func61 (fun _ _ => loopsOK_nil _ _ _) (@Eq.mpr _ _ (sDataWC_T cb co cn cc ci cz cu) ?_) hs (fun v ch' w' ⟨d, i1, z1, ro0, rc0, hk, hf⟩ hs => ⟨d, i1, z1, ro0, rc0, hf, by rw [hk.1], hk.hs hs⟩)
  dsimp -zeta -proj -iota -eta -failIfUnchanged (etaStruct := .none) only
  clear hs
  have hcn : cn ≤ 1048576 := hcode.1
  have hci0 : 0 ≤ ci := hci
  repeat' (first
    | with_reducible exact rfl
    | exact True.intro
    | with_reducible assumption
    | (refine dat_step ?_ (by with_reducible assumption))
    | (exact dat_base (by with_reducible assumption))
    | refine And.intro ?_ ?_
    | apply Exists.intro
    | (intro i hi; exact rfl)
    | intro _
    | omega)
def sDataW : Sm := fun args ch k =>
  match args with
  | [.a (.c (.ptr id b off))] =>
    match off, ch[id]? with
    | 0, some (.cells b' t [.sl j ao n cap, ic, hc]) =>
      match ch[j]?, asI ic, asI hc with
      | some (.row r), some i, some z => ∃ u : Nat → Int, ((b = b' ∧ t = 79 ∧ ao = r.ao ∧ n = r.n ∧ r.fld = [fun i => .u8 (u i)]) ∧ codeC n u ∧ pos0 i) ∧ ∀ (d : Nat → Int), ∀ (i1 z1 : Int), ∀ (ro0 : Option Addr) (rc0 : Nat), (datC d) → pos0 i1 → k (.a (.c (.sl (ch.length) ro0 (8) rc0))) (ch.set id (.cells b 79 [.sl j ao n cap, .int i1, .int z1]) ++ [.row ⟨true, ro0, 3, 1, 8, rc0, [fun i => .int (d i)]⟩]) [id]
      | _, _, _ => False
    | _, _ => False
  | _ => False
theorem sDataW_ok : SmOK Try.prog 61 sDataW := by
  refine smTurnN Try.call61 fun args ch k w X h0 hs => ?_
  unfold sDataW at h0
  split at h0
  · rename_i id b off
    split at h0
    · rename_i b' t j ao n cap ic hc hid
      split at h0
      · rename_i r i z hj hi hz
        obtain ⟨u, ⟨⟨rfl, rfl, hao, hn, hf⟩, hcode, hi0⟩, h0⟩ := h0
        refine ⟨id, _, hid, rfl, ?_⟩
        simp only [List.map_cons, List.map_nil, den_a, den_c, SA.den]
        exact Calls.mono (sDataWC_any b ao n cap i z u  w (hs.cur' hid hj hi hz hao hn hf) hcode hi0) fun e w' ⟨d, i1, z1, ro0, rc0, ⟨hfa, hp⟩, he, hn'⟩ => ⟨.a (.c (.sl (ch.length) ro0 (8) rc0)), _, [.row ⟨true, ro0, 3, 1, 8, rc0, [fun i => .int (d i)]⟩], he, hn'.recur, at_cells, rfl, h0 d i1 z1 ro0 rc0 hfa hp⟩
      · exact h0.elim
    · exact h0.elim
  · exact h0.elim

theorem no3 {z : Int} (h : inR z 0 (isub 4 1)) (h2 : decide ((3 : Int) < z) = true) : False := by
  have h3 : z ≤ 3 := h.2
  have h4 := of_decide_eq_true h2
  omega
theorem in11 {z : Int} (h : inR z 0 (isub 11 1)) : 0 ≤ z ∧ z < ((11 : Nat) : Int) := by
  have h1 : 0 ≤ z := h.1
  have h2 : z ≤ 10 := h.2
  omega
theorem nt11 {z : Int} (h : inR z 0 (isub 11 1)) : z.toNat < 11 := by
  have h1 := in11 h
  omega
theorem rg15 {z : Int} (h : inR z 0 (isub 15 1)) : rng (1 + z) := by
  have h1 : 0 ≤ z := h.1
  have h2 : z ≤ 14 := h.2
  simp only [rng]
  omega
theorem bent_0 {d : Nat → Int} (h : datC d) : symB 11 (fun i => enc d i) 11 = true := symB_mk (fun i hi => by
  refine LE.el (n := 8) (fun i _ => h i) _ ?_
  rcases lt11 hi with rfl | rfl | rfl | rfl | rfl | rfl | rfl | rfl | rfl | rfl | rfl <;> rfl) rfl
theorem dat_sym {d : Nat → Int} (h : datC d) : symB 8 (fun i => d i) 8 = true := symB_mk (fun i _ => h i) rfl
theorem bent_1 {f : Nat → Int} {k v : Int} (h : symB 11 (fun i => f i) 11 = true) (hv : el v) : symB 11 (fun i => if i = Int.toNat k then v else f i) 11 = true :=
  symB_mk (fun i hi => by
    have hf := symB_el h
    show el (if i = Int.toNat k then v else f i)
    split
    · exact hv
    · exact hf i hi) rfl
theorem el_bx {a z : Int} (ha : el a) (hz : inR z 0 (isub 15 1)) : el (bits .xor .i64 a (1 + z)) :=
  el_xor ha ⟨by have h1 : 0 ≤ z := hz.1; omega, by have h2 : z ≤ 14 := hz.2; omega⟩
theorem el_if {p : Prop} [Decidable p] {a b : Int} (ha : el a) (hb : el b) : el (if p then a else b) := by
  split
  · exact ha
  · exact hb
theorem el_encz {d : Nat → Int} {z : Int} (h : datC d) (hz : inR z 0 (isub 11 1)) : el (enc d (Int.toNat z)) := symB_el (bent_0 h) _ (nt11 hz)
theorem sBentC_T (cb : Nat) (co : Option Addr) (cn cc : Nat) (ci cz : Int) (cu : Nat → Int) : (exFn Try.prog {tb := [(16, sBelow), (61, sDataW), (49, sEncS)], D := fun _ => [0], R := [(3, 4)]} 400 Try.f38 ([.a (.c (.ptr 0 cb 0))]) ([.cells cb 79 [.sl 1 co cn cc, .int ci, .int cz], .row ⟨false, co, 0, 1, cn, 0, [fun i => .u8 (cu i)]⟩]) (fun v ch => ∃ (f : Nat → Int) (i1 z1 : Int) (ro0 : Option Addr) (rc0 : Nat), OutC v ch (.slice ro0 (11) rc0) (.cells cb 79 [.sl 1 co cn cc, .int i1, .int z1]) [.row ⟨true, ro0, 3, 1, 11, rc0, [fun i => .int (f i)]⟩] ∧ (symB 11 (fun i => f i) 11 = true) ∧ pos0 i1)) = (
  (fun b : Value => (fun d : List (Nat→SC) => (fun g : Prop => (fun h : Prop => (fun j : Prop => ∃ k : Nat→Int, ((cb = cb∧79 = 79∧co = co∧cn = cn∧d = [fun l => Ce (k l)])∧codeC cn k∧pos0 ci)∧∀(l : Nat→Int) (m n : Int) (o : Option Addr) (p : Nat), datC l→pos0 m→∃ q : Nat→Int, (o = o∧8 = 8∧[fun r => Ci (l r)] = [fun r => Ci (q r)])∧(8 = 8∧(symB 8 q (8 : Int)) = true)∧∀(r : Option Addr) (s : Nat), (fun t : Value => ∃ u : Nat→Int, ((cb = cb∧79 = 79∧co = co∧cn = cn∧d = [fun w => Ce (u w)])∧codeC cn u∧pos0 m∧g)∧∀ w x y : Int, inR w (0 : Int) ((4 : Int) - (1 : Int))→pos0 x→((decide ((0 : Int) < w)) = true→∃ z : Nat→Int, ((cb = cb∧79 = 79∧co = co∧cn = cn∧d = [fun B => Ce (z B)])∧codeC cn z∧pos0 x∧j)∧∀ B C E : Int, (fun F : Nat => (fun G : Int => (fun H : Prop => inR B (0 : Int) ((11 : Int) - (1 : Int))→pos0 C→r = r∧11 = 11∧H∧r = r∧F < 11∧∃ I : Nat→Int, ((cb = cb∧79 = 79∧co = co∧cn = cn∧d = [fun J => Ce (I J)])∧codeC cn I∧pos0 C∧h)∧∀ J K L : Int, (fun M : Int => inR J (0 : Int) ((15 : Int) - (1 : Int))→pos0 K→True∧rng ((1 : Int) + J)∧r = r∧11 = 11∧H∧r = r∧F < 11∧True∧∃ N : Nat→Int, ((cb = cb∧79 = 79∧co = co∧cn = cn∧d = [fun O => Ce (N O)])∧codeC cn N∧pos0 K∧g)∧∀ O P Q : Int, inR O (0 : Int) ((4 : Int) - (1 : Int))→pos0 P→((decide ((1 : Int) < O)) = true→∃ S : Nat→Int, ((cb = cb∧79 = 79∧co = co∧cn = cn∧d = [fun T => Ce (S T)])∧codeC cn S∧pos0 P∧j)∧∀ T U V : Int, (fun W : Nat => (fun X : Int => (fun Y : Prop => inR T (0 : Int) ((11 : Int) - (1 : Int))→pos0 U→r = r∧11 = 11∧Y∧r = r∧W < 11∧∃ Z : Nat→Int, ((cb = cb∧79 = 79∧co = co∧cn = cn∧d = [fun aa => Ce (Z aa)])∧codeC cn Z∧pos0 U∧h)∧∀ aa ab ac : Int, (fun ad : Int => inR aa (0 : Int) ((15 : Int) - (1 : Int))→pos0 ab→True∧rng ((1 : Int) + aa)∧r = r∧11 = 11∧Y∧r = r∧W < 11∧True∧∃ af : Nat→Int, ((cb = cb∧79 = 79∧co = co∧cn = cn∧d = [fun ag => Ce (af ag)])∧codeC cn af∧pos0 ab∧g)∧∀ ag ah aj : Int, inR ag (0 : Int) ((4 : Int) - (1 : Int))→pos0 ah→((decide ((2 : Int) < ag)) = true→∃ ak : Nat→Int, ((cb = cb∧79 = 79∧co = co∧cn = cn∧d = [fun al => Ce (ak al)])∧codeC cn ak∧pos0 ah∧j)∧∀ al am an : Int, (fun ao : Nat => (fun ap : Prop => inR al (0 : Int) ((11 : Int) - (1 : Int))→pos0 am→r = r∧11 = 11∧ap∧r = r∧ao < 11∧∃ aq : Nat→Int, ((cb = cb∧79 = 79∧co = co∧cn = cn∧d = [fun ar => Ce (aq ar)])∧codeC cn aq∧pos0 am∧h)∧∀ ar au av : Int, inR ar (0 : Int) ((15 : Int) - (1 : Int))→pos0 au→True∧rng ((1 : Int) + ar)∧r = r∧11 = 11∧ap∧r = r∧ao < 11∧True∧∃ aw : Nat→Int, ((cb = cb∧79 = 79∧co = co∧cn = cn∧d = [fun ax => Ce (aw ax)])∧codeC cn aw∧pos0 au∧g)∧∀ ax ay az : Int, inR ax (0 : Int) ((4 : Int) - (1 : Int))→pos0 ay→((decide ((3 : Int) < ax)) = true→∃ aA : Nat→Int, ((cb = cb∧79 = 79∧co = co∧cn = cn∧d = [fun aB => Ce (aA aB)])∧codeC cn aA∧pos0 ay∧j)∧∀ aB aC aD : Int, (fun aE : Prop => inR aB (0 : Int) ((11 : Int) - (1 : Int))→pos0 aC→r = r∧11 = 11∧aE∧r = r∧(Int.toNat aB) < 11∧∃ aF : Nat→Int, ((cb = cb∧79 = 79∧co = co∧cn = cn∧d = [fun aG => Ce (aF aG)])∧codeC cn aF∧pos0 aC∧h)∧∀ aG aH aI : Int, inR aG (0 : Int) ((15 : Int) - (1 : Int))→pos0 aH→True∧rng ((1 : Int) + aG)∧r = r∧11 = 11∧aE∧r = r∧(Int.toNat aB) < 11∧True∧False) (0 ≤ aB∧aB < ((11 : Nat) : Int)))∧((decide ((3 : Int) < ax)) = false→∃(aA : Nat→Int) (aB aC : Int) (aD : Option Addr) (aE : Nat), (t = (Ws aD 11 aE)∧(cb = cb∧79 = 79∧[b, Wi ay, Wi az] = [b, Wi aB, Wi aC])∧((true = true∧r = aD∧3 = 3∧1 = 1∧11 = 11∧s = aE∧(∀ aF : Nat, aF < 11→(Wi (if aF = ao then (bits BinOp.xor .i64 (if ao = W then ad else (if ao = F then M else (enc q ao))) ((1 : Int) + ar)) else (if aF = W then ad else (if aF = F then M else (enc q aF))))) = (Wi (aA aF)))∧True)∧True)∧true = true)∧(symB 11 (fun aF => aA aF) (11 : Int)) = true∧pos0 aB)) (0 ≤ al∧al < ((11 : Nat) : Int))) (Int.toNat al))∧((decide ((2 : Int) < ag)) = false→∃(ak : Nat→Int) (al am : Int) (an : Option Addr) (ao : Nat), (t = (Ws an 11 ao)∧(cb = cb∧79 = 79∧[b, Wi ah, Wi aj] = [b, Wi al, Wi am])∧((true = true∧r = an∧3 = 3∧1 = 1∧11 = 11∧s = ao∧(∀ ap : Nat, ap < 11→(Wi (if ap = W then ad else (if ap = F then M else (enc q ap)))) = (Wi (ak ap)))∧True)∧True)∧true = true)∧(symB 11 (fun ap => ak ap) (11 : Int)) = true∧pos0 al)) (bits BinOp.xor .i64 (if W = F then M else X) ((1 : Int) + aa))) (0 ≤ T∧T < ((11 : Nat) : Int))) (enc q W)) (Int.toNat T))∧((decide ((1 : Int) < O)) = false→∃(S : Nat→Int) (T U : Int) (V : Option Addr) (W : Nat), (t = (Ws V 11 W)∧(cb = cb∧79 = 79∧[b, Wi P, Wi Q] = [b, Wi T, Wi U])∧((true = true∧r = V∧3 = 3∧1 = 1∧11 = 11∧s = W∧(∀ X : Nat, X < 11→(Wi (if X = F then M else (enc q X))) = (Wi (S X)))∧True)∧True)∧true = true)∧(symB 11 (fun X => S X) (11 : Int)) = true∧pos0 T)) (bits BinOp.xor .i64 G ((1 : Int) + J))) (0 ≤ B∧B < ((11 : Nat) : Int))) (enc q F)) (Int.toNat B))∧((decide ((0 : Int) < w)) = false→∃(z : Nat→Int) (B C : Int) (E : Option Addr) (F : Nat), (t = (Ws E 11 F)∧(cb = cb∧79 = 79∧[b, Wi x, Wi y] = [b, Wi B, Wi C])∧((true = true∧r = E∧3 = 3∧1 = 1∧11 = 11∧s = F∧(∀ G : Nat, G < 11→(Wi (enc q G)) = (Wi (z G)))∧True)∧True)∧true = true)∧(symB 11 (fun G => z G) (11 : Int)) = true∧pos0 B)) (Ws r 11 s)) (inR (11 : Int) (1 : Int) (4294967296 : Int))) (inR (15 : Int) (1 : Int) (4294967296 : Int))) (inR (4 : Int) (1 : Int) (4294967296 : Int))) [fun d => Ce (cu d)]) (Ws co cn cc)) := by kernel_rfl
theorem sBentC_any (cb : Nat) (co : Option Addr) (cn cc : Nat) (ci cz : Int) (cu : Nat → Int) (w : World) (hs : HS ⟨w, (Ch.cells cb 79 [.sl 1 co cn cc, .int ci, .int cz]).at⟩ [.cells cb 79 [.sl 1 co cn cc, .int ci, .int cz], .row ⟨false, co, 0, 1, cn, 0, [fun i => .u8 (cu i)]⟩] w) (hcode : codeC cn cu) (hci : pos0 ci) : Calls Try.prog 38 #[.pointer (some ⟨cb, 0, none⟩)] w fun e w' => ∃ (f : Nat → Int) (i1 z1 : Int) (ro0 : Option Addr) (rc0 : Nat), ((symB 11 (fun i => f i) 11 = true) ∧ pos0 i1) ∧ e = .returned (.slice ro0 (11) rc0) ∧ HS ⟨w, (Ch.cells cb 79 [.sl 1 co cn cc, .int ci, .int cz]).at⟩ [.cells cb 79 [.sl 1 co cn cc, .int i1, .int z1], .row ⟨true, ro0, 3, 1, 11, rc0, [fun i => .int (f i)]⟩] w' := by
  refine fn_ok mixed (E := {tb := [(16, sBelow), (61, sDataW), (49, sEncS)], D := fun _ => [0], R := [(3, 4)]}) ⟨sBelow_ok, sDataW_ok, sEncS_S, trivial⟩ Try.func38 (fun _ _ => loopsOK_nil _ _ _) (@Eq.mpr _ _ (sBentC_T cb co cn cc ci cz cu) ?_) hs (fun v ch' w' ⟨f, i1, z1, ro0, rc0, hk, hf⟩ hs => ⟨f, i1, z1, ro0, rc0, hf, by rw [hk.1], hk.hs hs⟩)
  dsimp -zeta -proj -iota -eta -failIfUnchanged (etaStruct := .none) only
  clear hs
  have hcn : cn ≤ 1048576 := hcode.1
  have hci0 : 0 ≤ ci := hci
  repeat' (first
    | with_reducible exact rfl
    | exact True.intro
    | with_reducible assumption
    | (intro h; exact (no3 (by with_reducible assumption) h).elim)
    | (with_reducible exact in11 (by with_reducible assumption))
    | (with_reducible exact nt11 (by with_reducible assumption))
    | (with_reducible exact rg15 (by with_reducible assumption))
    | (with_reducible exact dat_sym (by with_reducible assumption))
    | (with_reducible refine bent_1 ?_ ?_)
    | (with_reducible refine el_bx ?_ (by with_reducible assumption))
    | (with_reducible refine el_if ?_ ?_)
    | (with_reducible exact el_encz (by with_reducible assumption) (by with_reducible assumption))
    | (with_reducible exact bent_0 (by with_reducible assumption))
    | (intro i hi; exact rfl)
    | refine And.intro ?_ ?_
    | apply Exists.intro
    | (intro h; exfalso; simp at h; done)
    | (intro h; replace h := of_decide_eq_true h; first | (exfalso; omega) | skip)
    | (intro h; replace h := of_decide_eq_false h; first | (exfalso; omega) | skip)
    | intro _
    | omega)
def sBent : Sm := fun args ch k =>
  match args with
  | [.a (.c (.ptr id b off))] =>
    match off, ch[id]? with
    | 0, some (.cells b' t [.sl j ao n cap, ic, hc]) =>
      match ch[j]?, asI ic, asI hc with
      | some (.row r), some i, some z => ∃ u : Nat → Int, ((b = b' ∧ t = 79 ∧ ao = r.ao ∧ n = r.n ∧ r.fld = [fun i => .u8 (u i)]) ∧ codeC n u ∧ pos0 i) ∧ ∀ (f : Nat → Int), ∀ (i1 z1 : Int), ∀ (ro0 : Option Addr) (rc0 : Nat), (symB 11 (fun i => f i) 11 = true) → pos0 i1 → k (.a (.c (.sl (ch.length) ro0 (11) rc0))) (ch.set id (.cells b 79 [.sl j ao n cap, .int i1, .int z1]) ++ [.row ⟨true, ro0, 3, 1, 11, rc0, [fun i => .int (f i)]⟩]) [id]
      | _, _, _ => False
    | _, _ => False
  | _ => False
theorem sBent_ok : SmOK Try.prog 38 sBent := by
  refine smTurnN Try.call38 fun args ch k w X h0 hs => ?_
  unfold sBent at h0
  split at h0
  · rename_i id b off
    split at h0
    · rename_i b' t j ao n cap ic hc hid
      split at h0
      · rename_i r i z hj hi hz
        obtain ⟨u, ⟨⟨rfl, rfl, hao, hn, hf⟩, hcode, hi0⟩, h0⟩ := h0
        refine ⟨id, _, hid, rfl, ?_⟩
        simp only [List.map_cons, List.map_nil, den_a, den_c, SA.den]
        exact Calls.mono (sBentC_any b ao n cap i z u  w (hs.cur' hid hj hi hz hao hn hf) hcode hi0) fun e w' ⟨f, i1, z1, ro0, rc0, ⟨hfa, hp⟩, he, hn'⟩ => ⟨.a (.c (.sl (ch.length) ro0 (11) rc0)), _, [.row ⟨true, ro0, 3, 1, 11, rc0, [fun i => .int (f i)]⟩], he, hn'.recur, at_cells, rfl, h0 f i1 z1 ro0 rc0 hfa hp⟩
      · exact h0.elim
    · exact h0.elim
  · exact h0.elim

def zCD (j : Nat) : CD := ⟨j, fun _ => 11, fun _ _ => 0, fun _ => false⟩
def anT (G B R K : Int) (bg br bo : Nat) (j : Nat) (Oq : Option Addr) (Cq : Nat) (soq : Nat → Option Addr) (scq : Nat → Nat) : List Ch := [.cells bg 25 [.int G, .int B, .int R, .int K], .cells br 31 [.nil, .nil, .nil], .cells bo 31 [.sl 3 Oq j Cq, .nil, .nil], .row ⟨true, Oq, 61, 2, j, Cq, cellFld 4 (zCD j) soq scq⟩, .obj true (symRows true 3 (zCD j) soq scq)]
def idsAn (ts : List SV) : List Nat := [idP (ts.getD 1 .undef), idP (ts.getD 2 .undef), idP (ts.getD 3 .undef), 1000000, 1000003]
def anH (G B R K : Int) (bg br bo : Nat) (i : SC) (g : Nat → Value) : List SV := [.a (.c (.val (g 0))), .a (.c (.ptr 0 bg 0)), .a (.c (.ptr 1 br 0)), .a (.c (.ptr 2 bo 0)), .a (.c i), .a (.c (.val (g 5))), .a (.c (.val (g 6))), .a (.c (.val (g 7))), .a (.c (.val (g 8))), .a (.c (.val (g 9))), .a (.c (.val (g 10))), .a (.c (.val (g 11))), .a (.c (.val (g 12))), .a (.c (.val (g 13))), .a (.c (.val (g 14))), .a (.c (.val (g 15))), .a (.c (.val (g 16))), .a (.c (.val (g 17))), .a (.c (.val (g 18))), .a (.c (.val (g 19))), .a (.c (.val (g 20))), .a (.c (.val (g 21))), .a (.c (.val (g 22))), .a (.c (.val (g 23))), .a (.c (.val (g 24))), .a (.c (.val (g 25))), .a (.c (.val (g 26))), .a (.c (.val (g 27))), .a (.c (.val (g 28))), .a (.c (.val (g 29))), .a (.c (.val (g 30))), .a (.c (.val (g 31))), .a (.c (.val (g 32))), .a (.c (.val (g 33))), .a (.c (.val (g 34))), .a (.c (.val (g 35))), .a (.c (.val (g 36))), .a (.c (.val (g 37))), .a (.c (.val (g 38)))]
theorem anB (G B R K : Int) (bg br bo : Nat) (Oq : Option Addr) (Cq : Nat) (soq : Nat → Option Addr) (scq : Nat → Nat) (j : Nat) (g : Nat → Value) (NX : List SV → List Ch → Prop) (kx : Exit → List SV → List Ch → Prop) : (exCode Try.prog {tb := [(45, sLine)], D := fun _ => [3]} 400 (theLoop Try.f35 0) (anH G B R K bg br bo (.int (j : Int)) g) (anT G B R K bg br bo j Oq Cq soq scq) (loopK NX kx)) = (
  bg = bg∧((decide (((j : Nat) : Int) < (lineN G B R K))) = true→bo = bo∧∀ a : Nat, True∧∀ b : Nat, True∧(Oq = Oq∧j = j∧Cq = Cq∧b = b∧(∀ c : Nat, true = true)∧apC j 1 32)∧∀(c : Option Addr) (d : Nat), True∧bo = bo∧True∧rng (((j : Nat) : Int) + (1 : Int))∧NX [vV (g 0), pV 0 bg 0, pV 1 br 0, pV 2 bo 0, iV (((j : Nat) : Int) + (1 : Int)), vV (g 5), vV (g 6), iV ((j : Nat) : Int), aV [Ci G, Ci B, Ci R, Ci K], iV (lineN G B R K), tV, iV ((j : Nat) : Int), iV (((j : Nat) : Int) + (1 : Int)), pV 2 bo 0, sV 3 Oq j Cq, cV 5 a 11 11, aV [Cc 5 a 11 11, Cf], cV 6 b 1 1, sV 7 c (j + 1) d, pV 2 bo 0, vV (g 20), vV (g 21), vV (g 22), vV (g 23), vV (g 24), vV (g 25), vV (g 26), vV (g 27), vV (g 28), vV (g 29), vV (g 30), vV (g 31), vV (g 32), vV (g 33), vV (g 34), vV (g 35), vV (g 36), vV (g 37), vV (g 38)] [Hc bg 25 [Ci G, Ci B, Ci R, Ci K], Hc br 31 [Cz, Cz, Cz], Hc bo 31 [Cs 7 c (j + 1) d, Cz, Cz], Hd, Ho true (symRows true 3 (CD.mk j (fun h => 11) (fun h => fun k => (0 : Int)) (fun h => false)) soq scq), Hc a 3 [Cl 0, Cl 0, Cl 0, Cl 0, Cl 0, Cl 0, Cl 0, Cl 0, Cl 0, Cl 0, Cl 0], Hc b 61 [Cc 5 a 11 11, Cf], Hr true c 61 2 (j + 1) d [fun h => Cv (if h < j then (Ws (soq h) 11 (scq h)) else (Ws (Ad a 0) 11 11)), fun h => Cb (if h < j then false else false)]])∧((decide (((j : Nat) : Int) < (lineN G B R K))) = false→kx (Exit.exit 0) [vV (g 0), pV 0 bg 0, pV 1 br 0, pV 2 bo 0, iV ((j : Nat) : Int), vV (g 5), vV (g 6), iV ((j : Nat) : Int), aV [Ci G, Ci B, Ci R, Ci K], iV (lineN G B R K), fV, vV (g 11), vV (g 12), vV (g 13), vV (g 14), vV (g 15), vV (g 16), vV (g 17), vV (g 18), vV (g 19), vV (g 20), vV (g 21), vV (g 22), vV (g 23), vV (g 24), vV (g 25), vV (g 26), vV (g 27), vV (g 28), vV (g 29), vV (g 30), vV (g 31), vV (g 32), vV (g 33), vV (g 34), vV (g 35), vV (g 36), vV (g 37), vV (g 38)] [Hc bg 25 [Ci G, Ci B, Ci R, Ci K], Hc br 31 [Cz, Cz, Cz], Hc bo 31 [Cs 3 Oq j Cq, Cz, Cz], Hr true Oq 61 2 j Cq [fun a => Cs 4 (soq a) 11 (scq a), fun a => Cb false], Ho true (symRows true 3 (CD.mk j (fun a => 11) (fun a => fun b => (0 : Int)) (fun a => false)) soq scq)])) := by kernel_rfl
theorem zRow {j : Nat} {soq : Nat → Option Addr} {scq : Nat → Nat} {a : Option Addr} {c : Nat} : symRows true 3 (zCD j) soq scq ++ [⟨true, a, 3, 1, 11, c, [fun i => .int 0]⟩] = symRows true 3 (zCD (j + 1)) (fun i => if i < j then soq i else a) (fun i => if i < j then scq i else c) := symRows_push (x := zCD j)
theorem lz11 (i : Nat) (hi : i < 11) : litZ [0, 0, 0, 0, 0, 0, 0, 0, 0, 0, 0] i = 0 := by
  have h11 : i = 0 ∨ i = 1 ∨ i = 2 ∨ i = 3 ∨ i = 4 ∨ i = 5 ∨ i = 6 ∨ i = 7 ∨ i = 8 ∨ i = 9 ∨ i = 10 := by omega
  rcases h11 with rfl | rfl | rfl | rfl | rfl | rfl | rfl | rfl | rfl | rfl | rfl <;> rfl
def san (G B R K : Int) (n : Nat) : LSm := fun ts ch kk => ∃ (bg br bo : Nat), (ts.map SV.den = (anH G B R K bg br bo (.il 0) (fun d => (ts.getD d .undef).den)).map SV.den ∧ SelS ch (idsAn ts) (anT G B R K bg br bo 0 none 0 (fun _ => none) (fun _ => 0))) ∧
    ∀ (g : Nat → Value) (Oq : Option Addr) (Cq : Nat) (soq : Nat → Option Addr) (scq : Nat → Nat), kk (.exit 0) (anH G B R K bg br bo (.int (n : Int)) g) (anT G B R K bg br bo n Oq Cq soq scq)
theorem san_ok (G B R K : Int) (n : Nat) (hn : (n : Int) = lineN G B R K) (hm : n ≤ 1024) (X : Cx) : LoopOK Try.prog X (theLoop Try.f35 0) (san G B R K n) := by
  intro ts ch kk a w hS hT hd hs
  obtain ⟨bg, br, bo, ⟨h1, hch⟩, hk⟩ := hS
  refine loop_ok mixed (E := {tb := [(45, sLine)], D := fun _ => [3]}) ⟨sLine_S, trivial⟩ (loopsOK_nil _ _ _) 400 n (fun j ts ch => ∃ g Oq Cq soq scq, ts = anH G B R K bg br bo (.int (j : Int)) g ∧ ch = anT G B R K bg br bo j Oq Cq soq scq) ?_ ?_ hT hd hs
  · rintro j _ _ ⟨g, Oq, Cq, soq, scq, rfl, rfl⟩ hj
    refine (@Eq.mpr _ _ (anB G B R K bg br bo Oq Cq soq scq j g _ _) ?_)
    rw [← hn]
    by_cases hlt : j < n
    · repeat' (first
        | with_reducible exact rfl
        | exact True.intro
        | with_reducible assumption
        | (show Next _ _ _ _; rename_i b0 b1 ao cap; refine Next.mk (fun g => anH G B R K bg br bo (.int ((j + 1 : Nat) : Int)) g) (anT G B R K bg br bo (j + 1) ao cap (fun i => if i < j then soq i else some ⟨b0, 0, none⟩) (fun i => if i < j then scq i else 11)) ⟨_, ao, cap, _, _, rfl, rfl⟩ rfl fun w hw => SelS.hs (l := [0, 1, 2, 7, 4]) (by refine ⟨?_, rfl⟩; repeat' (first | exact True.intro | exact symRows_push | exact rfl | refine And.intro ?_ ?_ | (intro i hi; show _ = _; with_reducible rfl) | (intro i hi; show _ = _; rfl) | exact push_hd | exact zRow | exact push_po | (intro i hi; show _ = _; simp only [SC.den]; split <;> rfl))) (((hw.cellRow 5 11 rfl rfl (by decide) (by decide)).re 5 _ rfl [fun i => .int 0] ⟨fun i hi => (by show SC.den (.int _) = SC.den (.int _); rw [lz11 i hi]), trivial⟩).nestApp 4 5 rfl rfl rfl (by decide)))
        | refine And.intro ?_ ?_
        | (intro h; replace h := of_decide_eq_true h; first | (exfalso; omega) | skip)
        | (intro h; replace h := of_decide_eq_false h; first | (exfalso; omega) | skip)
        | (show rng _; simp only [rng]; omega)
        | (intro i hi; rfl)
        | intro _
        | omega
        | (simp; omega))
    · have hjn : j = n := by omega
      subst hjn
      repeat' (first
        | with_reducible exact rfl
        | exact True.intro
        | with_reducible assumption
        | (refine Next.mk (fun g => anH G B R K bg br bo (.int (j : Int)) g) _ (hk _ _ _ _ _) rfl fun w hw => hw)
        | refine And.intro ?_ ?_
        | (intro h; replace h := of_decide_eq_true h; first | (exfalso; omega) | skip)
        | (intro h; replace h := of_decide_eq_false h; first | (exfalso; omega) | skip)
        | intro _
        | omega)
  · exact Next.mk (fun g => anH G B R K bg br bo (.int ((0 : Nat) : Int)) g) _ ⟨_, _, _, _, _, rfl, rfl⟩ h1 fun w hw => hch.hs hw
def newA (n m : Nat) : AD := ⟨zCD n, m, fun _ => 0, m, fun _ => 0⟩
theorem anw_T (G B R K : Int) (n m : Nat) : (exFn Try.prog {tb := [(46, sBank), (44, sGeo)], L := [(3, san G B R K n)]} 400 Try.f35 ([.a (.agg [.int G, .int B, .int R, .int K])]) ([]) (fun v ch => ∃ (Oq Aq Hq : Option Addr) (Cq Dq Ee : Nat) (soq : Nat → Option Addr) (scq : Nat → Nat), v.den = arrV (newA n m) Oq Aq Hq Cq Dq Ee ∧ SelS ch (idsArr v ch) (arrO 0 (newA n m) Oq Aq Hq Cq Dq Ee soq scq))) = (
  (fun b : Value => (fun c : SC => (fun d : Int => (fun g : List (Nat→SC) => (fun h : List SC => (fun j : Nat => (fun k : Value => (fun l : Bool => (fun o : CD => ∀ p q r : Nat, r = r∧∃ s t u : Nat, (fun w : Ch => ([k, Wp p 0, Wp q 0, Wp r 0, Wi 0, b, Wa [Wn, Wn, Wn], b, b, b, b, b, b, b, b, b, b, b, b, b, b, b, b, b, b, b, b, b, b, b, b, b, b, b, b, b, b, b, b] = [k, Wp s 0, Wp t 0, Wp u 0, Wi 0, b, Wa [Wn, Wn, Wn], b, b, b, b, b, b, b, b, b, b, b, b, b, b, b, b, b, b, b, b, b, b, b, b, b, b, b, b, b, b, b, b]∧SelS [Hc p 25 h, Hc q 31 [Cz, Cz, Cz], Hc r 31 [Cz, Cz, Cz]] [0, 1, 2, 1000000, 1000003] [w, Hc t 31 [Cz, Cz, Cz], Hc u 31 [Cs 3 (none : Option Addr) 0 0, Cz, Cz], Hr true (none : Option Addr) 61 2 0 0 [fun x => Cs 4 (none : Option Addr) 11 0, fun x => c], Ho true (symRows true 3 (CD.mk 0 (fun x => 11) (fun x => fun y => (0 : Int)) (fun x => false)) (fun x => (none : Option Addr)) (fun x => 0))])∧∀(x : Nat→Value) (y : Option Addr) (z : Nat) (C : Nat→Option Addr) (D : Nat→Nat), (fun E : SC => (fun F : Ch => (fun H : Ch => (fun I : Prop => s = s∧s = s∧True∧rng (d * R)∧(l = false→s = s∧((! (geoB G B R K)) = true→I)∧((! (geoB G B R K)) = false→(d * R) = (d * R)∧mkC 8 (d * R)∧∀ J : Nat, u = u∧(d * R) = (d * R)∧mkC 8 (d * R)∧∀ M : Nat, u = u∧u = u∧t = t∧t = t∧∃(N O P : Option Addr) (Q S T : Nat) (U : Nat→Option Addr) (V : Nat→Nat), (Wa [Ws y n z, Ws (Ad J 0) j j, Ws (Ad M 0) j j]) = (Wa [Ws N n Q, Ws O m S, Ws P m T])∧SelS [w, Hc t 31 [E, Cs 5 (Ad J 0) j j, Cs 6 (Ad M 0) j j], Hc u 31 [E, Cs 5 (Ad J 0) j j, Cs 6 (Ad M 0) j j], H, F, Hr true (Ad J 0) 3 1 j j [fun W => Cl 0], Hr true (Ad M 0) 3 1 j j [fun W => Cl 0]] [3, 5, 6, 4] [Hr true N 61 2 n Q [fun W => Cs 3 (U W) 11 (V W), fun W => c], Hr true O 3 1 m S g, Hr true P 3 1 m T g, Ho true (symRows true 3 o U V)]))∧(l = true→I)) (∀ I : Nat, u = u∧∀ J : Nat, u = u∧u = u∧t = t∧t = t∧∃(M N O : Option Addr) (P Q S : Nat) (T : Nat→Option Addr) (U : Nat→Nat), (Wa [Ws y n z, Ws (Ad I 0) 0 0, Ws (Ad J 0) 0 0]) = (Wa [Ws M n P, Ws N m Q, Ws O m S])∧SelS [w, Hc t 31 [E, Cc 5 I 0 0, Cc 6 J 0 0], Hc u 31 [E, Cc 5 I 0 0, Cc 6 J 0 0], H, F, Hc I 3 [], Hc J 3 []] [3, 5, 6, 4] [Hr true M 61 2 n P [fun V => Cs 3 (T V) 11 (U V), fun V => c], Hr true N 3 1 m Q g, Hr true O 3 1 m S g, Ho true (symRows true 3 o T U)])) (Hr true y 61 2 n z [fun H => Cs 4 (C H) 11 (D H), fun H => c])) (Ho true (symRows true 3 o C D))) (Cs 3 y n z)) (Hc s 25 h)) (CD.mk n (fun o => 11) (fun o => fun p => (0 : Int)) (fun o => false))) (decide ((d * R) < (0 : Int)))) (Wa [Wi G, Wi B, Wi R, Wi K])) (Int.toNat (d * R))) [Ci G, Ci B, Ci R, Ci K]) [fun g => Ci 0]) (bankN G B R K)) (Cb false)) (Wu [])) := by kernel_rfl
theorem geoS_bank {G B R K : Int} (h : geoS G B R K) : geoB G B R K = true ∧ bankN G B R K = B ∧ lineN G B R K = B * R * K ∧ (2 ≤ B * R ∧ B * R ≤ 8) ∧ (2 ≤ B * R * K ∧ B * R * K ≤ 16) := by
  have hb := geoS_ok h
  obtain ⟨rfl, ⟨b1, b2⟩, ⟨r1, r2⟩, c1, c2⟩ := h
  have hB : B = 1 ∨ B = 2 := by omega
  have hR : R = 2 ∨ R = 3 ∨ R = 4 := by omega
  have hK : K = 1 ∨ K = 2 := by omega
  refine ⟨hb, by simp [bankN, hb], by simp [lineN, hb], ?_⟩
  rcases hB with rfl | rfl <;> rcases hR with rfl | rfl | rfl <;> rcases hK with rfl | rfl <;> omega
theorem anw_any (G B R K : Int) (n m : Nat) (w : World) (hg : geoS G B R K) (hn : (n : Int) = lineN G B R K) (hm : m = (bankN G B R K * R).toNat) : Calls Try.prog 35 #[.agg #[.int .i64 G, .int .i64 B, .int .i64 R, .int .i64 K]] w fun e w' => ∃ (Oq Aq Hq : Option Addr) (Cq Dq Ee : Nat) (soq : Nat → Option Addr) (scq : Nat → Nat), e = .returned (arrV (newA n m) Oq Aq Hq Cq Dq Ee) ∧ HS ⟨w, fun _ => False⟩ (arrO 0 (newA n m) Oq Aq Hq Cq Dq Ee soq scq) w' := by
  obtain ⟨g1, g2, g3, g4, g5⟩ := geoS_bank hg
  have hb : 2 ≤ bankN G B R K * R ∧ bankN G B R K * R ≤ 8 := by rw [g2]; exact g4
  have hn16 : n ≤ 1024 := by omega
  refine fn_ok mixed (E := {tb := [(46, sBank), (44, sGeo)], L := [(3, san G B R K n)]}) ⟨sBank_S, sGeo_S, trivial⟩ Try.func35 (one_loop (by kernel_rfl) (by kernel_rfl) (san_ok G B R K n hn hn16 _)) (@Eq.mpr _ _ (anw_T G B R K n m) ?_) (HS.rows (fun _ => False) [] (by simp)) (fun v ch' w' ⟨Oq, Aq, Hq, Cq, Dq, Ee, soq, scq, hv, hc⟩ hs => ⟨Oq, Aq, Hq, Cq, Dq, Ee, soq, scq, by rw [hv], hc.hs hs⟩)
  dsimp -zeta -proj -iota -eta -failIfUnchanged (etaStruct := .none) only
  rw [g1]
  subst hm
  generalize hz : bankN G B R K * R = z at hb ⊢
  obtain ⟨hb1, hb2⟩ := hb
  repeat' (first
    | with_reducible exact rfl
    | exact True.intro
    | with_reducible assumption
    | (refine ⟨_, _, _, ⟨rfl, ?_⟩, ?_⟩)
    | exact (by refine ⟨?_, rfl⟩; repeat' (first | exact True.intro | exact symRows_push | exact rfl | refine And.intro ?_ ?_ | (intro i hi; show _ = _; with_reducible rfl) | (intro i hi; show _ = _; rfl) | exact symRows_nil | (intro i hi; show _ = _; simp only [SC.den]; split <;> rfl)))
    | (intro h; exfalso; simp at h; done)
    | (show rng _; simp only [rng]; omega)
    | (show mkC _ _; simp only [mkC]; omega)
    | refine And.intro ?_ ?_
    | apply Exists.intro
    | (intro h; replace h := of_decide_eq_true h; first | (exfalso; omega) | skip)
    | (intro h; replace h := of_decide_eq_false h; first | (exfalso; omega) | skip)
    | (intro i hi; with_reducible exact rfl)
    | intro _
    | omega
    | exact rfl)

theorem allB_mk {n : Nat} {p : Nat → Bool} (h : ∀ j, j < n → p j = true) : allB n p = true := List.all_eq_true.2 fun j hj => h j (List.mem_range.1 hj)
theorem newA_ok {G B R K : Int} {n m : Nat} (hg : geoS G B R K) (hn : (n : Int) = lineN G B R K) (hm : m = (bankN G B R K * R).toNat) : arrOk G B R K (newA n m) = true := by
  obtain ⟨g1, g2, g3, g4, g5⟩ := geoS_bank hg
  have hb : 0 ≤ bankN G B R K * R := by rw [g2]; omega
  have e : (m : Int) = bankN G B R K * R := by omega
  have e1 : ∀ j, symB ((newA n m).c.sn j) ((newA n m).c.sy j) 11 = true := fun j => by
    simp only [symB, Bool.and_eq_true]
    exact ⟨allB_mk fun i _ => rfl, rfl⟩
  simp only [arrOk, Bool.and_eq_true]
  refine ⟨⟨⟨⟨⟨g1, ?_⟩, ?_⟩, ?_⟩, ?_⟩, ?_⟩
  · simpa [ieq, newA, zCD] using hn
  · simpa [ieq, newA] using e
  · simp [ieq, newA]
  · exact allB_mk fun j _ => e1 j
  · exact allB_mk fun j _ => by simp [newA, btw]
def sNewA : Sm := fun args ch kk =>
  match args with
  | [.a (.agg [c0, c1, c2, c3])] =>
    match ints [c0, c1, c2, c3] with
    | some [G, B, R, K] => geoS G B R K ∧ ∀ (x : AD) (Oq Aq Hq : Option Addr) (Cq Dq Ee : Nat) (soq : Nat → Option Addr) (scq : Nat → Nat), arrOk G B R K x = true → kk (.a (arrS ch.length x Oq Aq Hq Cq Dq Ee)) (ch ++ arrO ch.length x Oq Aq Hq Cq Dq Ee soq scq) []
    | _ => False
  | _ => False
theorem sNewA_S : SmOK Try.prog 35 sNewA := by
  refine smN Try.call35 fun args ch kk w X h0 hs => ?_
  unfold sNewA at h0
  split at h0
  · rename_i c0 c1 c2 c3
    split at h0
    · rename_i G B R K hi
      obtain ⟨q0, hi⟩ := ints_cons hi
      obtain ⟨q1, hi⟩ := ints_cons hi
      obtain ⟨q2, hi⟩ := ints_cons hi
      obtain ⟨q3, hi⟩ := ints_cons hi
      obtain ⟨hg, h1⟩ := h0
      have hn : (((lineN G B R K).toNat : Nat) : Int) = lineN G B R K := by
        obtain ⟨_, _, g3, _, g5⟩ := geoS_bank hg
        rw [g3]
        omega
      have e20 : SA.den (.agg [c0, c1, c2, c3]) = .agg #[.int .i64 G, .int .i64 B, .int .i64 R, .int .i64 K] := by simp only [SA.den, den_c, List.map_cons, List.map_nil, q0, q1, q2, q3]
      simp only [List.map_cons, List.map_nil, den_a, e20]
      exact Calls.mono (anw_any G B R K _ _ w hg hn rfl) fun e w' ⟨Oq, Aq, Hq, Cq, Dq, Ee, soq, scq, he, hs'⟩ => ⟨.a (arrS ch.length (newA _ _) Oq Aq Hq Cq Dq Ee), _, by rw [he]; rfl, arrO_at hs', rfl, h1 _ Oq Aq Hq Cq Dq Ee soq scq (newA_ok hg hn rfl)⟩
    · exact h0.elim
  · exact h0.elim

/-! An array of one's own behind a pointer. -/
def rdP (ch : List Ch) (id b : Nat) (K : AD → Option Addr → Option Addr → Option Addr → Nat → Nat → Nat → (Nat → Option Addr) → (Nat → Nat) → Nat → Nat → Nat → Prop) : Prop :=
  match ch[id]? with
  | some (.cells b' t [.sl i0 O n0 C, .sl i1 A n1 D, .sl i2 H n2 E]) =>
    match ch[i0]?, ch[i1]?, ch[i2]? with
    | some (.row r0), some (.row r1), some (.row r2) =>
      match ch[nidOf r0.fld]? with
      | some (.obj o rs) => ∃ (y : CD) (so : Nat → Option Addr) (sc : Nat → Nat) (ag hg : Nat → Int), (rs = symRows o 3 y so sc ∧ o = true ∧ b = b' ∧ t = 31 ∧ r0 = ⟨true, O, 61, 2, n0, C, cellFld (nidOf r0.fld) y so sc⟩ ∧ n0 = y.n ∧ r1 = ⟨true, A, 3, 1, n1, D, [fun i => .int (ag i)]⟩ ∧ r2 = ⟨true, H, 3, 1, n2, E, [fun i => .int (hg i)]⟩ ∧ nodupB [id, i0, i1, i2, nidOf r0.fld] = true) ∧ K ⟨y, n1, ag, n2, hg⟩ O A H C D E so sc i1 i2 (nidOf r0.fld)
      | _ => False
    | _, _, _ => False
  | _ => False
def MP (ch : List Ch) (ids : List Nat) (q : Nat) : Prop := ∃ i ∈ ids, ∃ c, ch[i]? = some c ∧ c.own = true ∧ c.at q
/-- The array alone, and back. -/
theorem rdP_ok {ch : List Ch} {id b : Nat} {K : AD → Option Addr → Option Addr → Option Addr → Nat → Nat → Nat → (Nat → Option Addr) → (Nat → Nat) → Nat → Nat → Nat → Prop} (h : rdP ch id b K) {X : Cx} {w : World} (hs : HS X ch w) : ∃ (x : AD) (O A H : Option Addr) (C D E : Nat) (so : Nat → Option Addr) (sc : Nat → Nat) (i1 i2 i4 : Nat) (ids : List Nat), HS ⟨w, MP ch ids⟩ ([.cells b 31 [.sl 1 O (x).c.n C, .sl 2 A (x).aN D, .sl 3 H (x).hN E]] ++ arrO 1 (x) O A H C D E so sc) w ∧ K x O A H C D E so sc i1 i2 i4 ∧
    (∀ (w' : World) (sy : Nat → Nat → Int) (ag hg : Nat → Int), HS ⟨w, MP ch ids⟩ ([.cells b 31 [.sl 1 O ((AD.mk ⟨x.c.n, x.c.sn, sy, x.c.po⟩ x.aN ag x.hN hg)).c.n C, .sl 2 A ((AD.mk ⟨x.c.n, x.c.sn, sy, x.c.po⟩ x.aN ag x.hN hg)).aN D, .sl 3 H ((AD.mk ⟨x.c.n, x.c.sn, sy, x.c.po⟩ x.aN ag x.hN hg)).hN E]] ++ arrO 1 ((AD.mk ⟨x.c.n, x.c.sn, sy, x.c.po⟩ x.aN ag x.hN hg)) O A H C D E so sc) w' → HS X (((ch.set i1 (.row ⟨true, A, 3, 1, x.aN, D, [fun i => .int (ag i)]⟩)).set i2 (.row ⟨true, H, 3, 1, x.hN, E, [fun i => .int (hg i)]⟩)).set i4 (.obj true (symRows true 3 ⟨x.c.n, x.c.sn, sy, x.c.po⟩ so sc))) w') := by
  unfold rdP at h
  split at h
  · rename_i b' t i0 O n0 C i1 A n1 D i2 H n2 E hid
    split at h
    · rename_i r0 r1 r2 h0 h1 h2
      split at h
      · rename_i o rs h4
        obtain ⟨y, so, sc, ag, hg, ⟨rfl, rfl, rfl, rfl, e0, rfl, rfl, rfl, hnd⟩, hk⟩ := h
        have hnd' := nodupB_ok hnd
        generalize nidOf r0.fld = i4 at *
        subst e0
        refine ⟨⟨y, n1, ag, n2, hg⟩, O, A, H, C, D, E, so, sc, i1, i2, i4, [id, i0, i1, i2, i4], ?_, hk, ?_⟩
        · have h5 := hs.owns [id, i0, i1, i2, i4] hnd' (MP ch [id, i0, i1, i2, i4]) fun i c q hc ho ha => by
            have hl := (List.getElem?_eq_some_iff.1 hc).1
            simp only [selC, List.length_map] at hl
            have hi : ([id, i0, i1, i2, i4] : List Nat)[i]? = some ([id, i0, i1, i2, i4] : List Nat)[i] := List.getElem?_eq_getElem hl
            have hc2 : c = ch.getD ([id, i0, i1, i2, i4] : List Nat)[i] .dead := by
              simp only [selC, List.getElem?_map, hi, Option.map_some, Option.some.injEq] at hc
              exact hc.symm
            refine ⟨_, List.getElem_mem hl, c, ?_, ho, ha⟩
            rw [hc2, List.getD_eq_getElem?_getD]
            cases hg : ch[([id, i0, i1, i2, i4] : List Nat)[i]]? with
            | some d => rfl
            | none =>
              rw [hc2, List.getD_eq_getElem?_getD, hg] at ho
              cases ho
          have e : selC ch [id, i0, i1, i2, i4] = [.cells b 31 [.sl i0 O y.n C, .sl i1 A n1 D, .sl i2 H n2 E], .row ⟨true, O, 61, 2, y.n, C, cellFld i4 y so sc⟩, .row ⟨true, A, 3, 1, n1, D, [fun i => .int (ag i)]⟩, .row ⟨true, H, 3, 1, n2, E, [fun i => .int (hg i)]⟩, .obj true (symRows true 3 y so sc)] := by
            simp only [selC, List.map_cons, List.map_nil, List.getD_eq_getElem?_getD, hid, h0, h1, h2, h4, Option.getD_some]
          rw [e] at h5
          exact h5.reS ⟨⟨rfl, rfl, rfl⟩, ⟨rfl, rfl, rfl, rfl, rfl, rfl, fun i hi => rfl, fun i hi => rfl, trivial⟩, ⟨rfl, rfl, rfl, rfl, rfl, rfl, fun i hi => rfl, trivial⟩, ⟨rfl, rfl, rfl, rfl, rfl, rfl, fun i hi => rfl, trivial⟩, ⟨rfl, rfl⟩, trivial⟩
        · intro w' sy ag' hg' h'
          have s0 := h'.sat 0 _ rfl
          have s1 := h'.sat 1 _ rfl
          have s2 := h'.sat 2 _ rfl
          have s3 := h'.sat 3 _ rfl
          have s4 := h'.sat 4 _ rfl
          simp only [List.nodup_cons, List.mem_cons, List.not_mem_nil, or_false, not_or] at hnd'
          obtain ⟨⟨d1, d2, d3, d4⟩, ⟨d5, d6, d7⟩, ⟨d8, d9⟩, d10, _⟩ := hnd'
          refine hs.swap (ids := [id, i0, i1, i2, i4]) h' (fun q hq => hq) (by simp) fun i d hd => ?_
          rcases get_set hd with ⟨rfl, rfl, _⟩ | ⟨n4, hd⟩
          · exact .inr ⟨by simp, s4, _, h4, rfl, fun q ⟨r, hr, hq⟩ => by
              obtain ⟨k, hk2, rfl⟩ := List.mem_map.1 hr
              exact ⟨_, List.mem_map.2 ⟨k, hk2, rfl⟩, hq⟩⟩
          rcases get_set hd with ⟨rfl, rfl, _⟩ | ⟨n3, hd⟩
          · exact .inr ⟨by simp, s3, _, h2, rfl, fun q hq => hq⟩
          rcases get_set hd with ⟨rfl, rfl, _⟩ | ⟨n2', hd⟩
          · exact .inr ⟨by simp, s2, _, h1, rfl, fun q hq => hq⟩
          by_cases e1 : i = id
          · subst e1
            rw [hid] at hd
            cases hd
            exact .inr ⟨by simp, s0, _, hid, rfl, fun q hq => hq⟩
          by_cases e2 : i = i0
          · subst e2
            rw [h0] at hd
            cases hd
            refine .inr ⟨by simp, ?_, _, h0, rfl, fun q hq => hq⟩
            exact (ReS1.ok (c := .row ⟨true, O, 61, 2, y.n, C, cellFld 4 y so sc⟩) (d := .row ⟨true, O, 61, 2, y.n, C, cellFld i4 y so sc⟩) (show ReS1 _ _ from ⟨rfl, rfl, rfl, rfl, rfl, rfl, fun i hi => rfl, fun i hi => rfl, trivial⟩) s1).1
          exact .inl ⟨by simp [e1, e2, n2', n3, n4], hd⟩
      · exact h.elim
    · exact h.elim
  · exact h.elim

def sGone : Sm := inlM Try.prog {tb := []} 300 Try.f62
theorem sGone_ok : SmOK Try.prog 62 sGone := inlM_ok mixed (E := {tb := []}) trivial Try.func62 Try.call62 (fun _ _ _ => loopsOK_nil _ _ _)
def snH (x : AD) (O A H : Option Addr) (C D E : Nat) (so : Nat → Option Addr) (sc : Nat → Nat) (G B R K la lh : Int) (bp bg bl : Nat) (bk rw pi : Int) (i : SC) (g : Nat → Value) : List SV := [.a (.c (.val (g 0))), .a (.c (.val (g 1))), .a (.c (.ptr 0 bp 0)), .a (.c (.int bk)), .a (.c (.int rw)), .a (.c (.ptr 5 bg 0)), .a (.c (.ptr 6 bl 0)), .a (.c (.val (g 7))), .a (.c (.val (g 8))), .a (.c (.val (g 9))), .a (.c (.int pi)), .a (.c i), .a (.c (.val (g 12))), .a (.c (.val (g 13))), .a (.c (.val (g 14))), .a (.c (.val (g 15))), .a (.c (.val (g 16))), .a (.c (.val (g 17))), .a (.c (.val (g 18))), .a (.c (.val (g 19))), .a (.c (.val (g 20))), .a (.c (.val (g 21))), .a (.c (.val (g 22))), .a (.c (.val (g 23))), .a (.c (.val (g 24))), .a (.c (.val (g 25))), .a (.c (.val (g 26))), .a (.c (.val (g 27))), .a (.c (.val (g 28))), .a (.c (.val (g 29))), .a (.c (.val (g 30))), .a (.c (.val (g 31))), .a (.c (.val (g 32))), .a (.c (.val (g 33))), .a (.c (.val (g 34))), .a (.c (.val (g 35))), .a (.c (.val (g 36))), .a (.c (.val (g 37))), .a (.c (.val (g 38))), .a (.c (.val (g 39))), .a (.c (.val (g 40))), .a (.c (.val (g 41))), .a (.c (.val (g 42))), .a (.c (.val (g 43))), .a (.c (.val (g 44))), .a (.c (.val (g 45))), .a (.c (.val (g 46))), .a (.c (.val (g 47))), .a (.c (.val (g 48))), .a (.c (.val (g 49))), .a (.c (.val (g 50))), .a (.c (.val (g 51))), .a (.c (.val (g 52))), .a (.c (.val (g 53))), .a (.c (.val (g 54))), .a (.c (.val (g 55))), .a (.c (.val (g 56))), .a (.c (.val (g 57))), .a (.c (.val (g 58))), .a (.c (.val (g 59))), .a (.c (.val (g 60))), .a (.c (.val (g 61))), .a (.c (.val (g 62))), .a (.c (.val (g 63))), .a (.c (.val (g 64))), .a (.c (.val (g 65))), .a (.c (.val (g 66))), .a (.c (.val (g 67))), .a (.c (.val (g 68))), .a (.c (.val (g 69))), .a (.c (.val (g 70))), .a (.c (.val (g 71))), .a (.c (.val (g 72))), .a (.c (.val (g 73))), .a (.c (.val (g 74))), .a (.c (.val (g 75))), .a (.c (.val (g 76))), .a (.c (.val (g 77))), .a (.c (.val (g 78))), .a (.c (.val (g 79))), .a (.c (.val (g 80))), .a (.c (.val (g 81))), .a (.c (.val (g 82))), .a (.c (.val (g 83))), .a (.c (.val (g 84))), .a (.c (.val (g 85))), .a (.c (.val (g 86))), .a (.c (.val (g 87))), .a (.c (.val (g 88))), .a (.c (.val (g 89))), .a (.c (.val (g 90))), .a (.c (.val (g 91))), .a (.c (.val (g 92))), .a (.c (.val (g 93))), .a (.c (.val (g 94))), .a (.c (.val (g 95))), .a (.c (.val (g 96))), .a (.c (.val (g 97))), .a (.c (.val (g 98))), .a (.c (.val (g 99))), .a (.c (.val (g 100))), .a (.c (.val (g 101))), .a (.c (.val (g 102))), .a (.c (.val (g 103))), .a (.c (.val (g 104))), .a (.c (.val (g 105))), .a (.c (.val (g 106))), .a (.c (.val (g 107))), .a (.c (.val (g 108))), .a (.c (.val (g 109)))]
def snT (x : AD) (O A H : Option Addr) (C D E : Nat) (so : Nat → Option Addr) (sc : Nat → Nat) (G B R K la lh : Int) (bp bg bl : Nat) (bk rw pi : Int) (sy : Nat → Nat → Int) : List Ch := [.cells bp 31 [.sl 1 O ((AD.mk ⟨x.c.n, x.c.sn, sy, x.c.po⟩ x.aN x.ag x.hN x.hg)).c.n C, .sl 2 A ((AD.mk ⟨x.c.n, x.c.sn, sy, x.c.po⟩ x.aN x.ag x.hN x.hg)).aN D, .sl 3 H ((AD.mk ⟨x.c.n, x.c.sn, sy, x.c.po⟩ x.aN x.ag x.hN x.hg)).hN E]] ++ arrO 1 ((AD.mk ⟨x.c.n, x.c.sn, sy, x.c.po⟩ x.aN x.ag x.hN x.hg)) O A H C D E so sc ++ [.cells bg 25 [.int G, .int B, .int R, .int K], .cells bl 27 [.int la, .int lh]]
theorem snB (x : AD) (O A H : Option Addr) (C D E : Nat) (so : Nat → Option Addr) (sc : Nat → Nat) (G B R K la lh : Int) (bp bg bl : Nat) (bk rw pi : Int) (sy : Nat → Nat → Int) (j : Nat) (g : Nat → Value) (NX : List SV → List Ch → Prop) (kx : Exit → List SV → List Ch → Prop) : (exCode Try.prog {} 400 (theLoop Try.f40 0) (snH x O A H C D E so sc G B R K la lh bp bg bl bk rw pi (.int (j : Int)) g) (snT x O A H C D E so sc G B R K la lh bp bg bl bk rw pi sy) (loopK NX kx)) = (
  (fun a : SV => (fun b : SV => (fun c : Ch => (fun d : Bool => (fun h : SV => (fun k : Nat => (fun l : Ch => (fun m : Ch => (fun n : Ch => (fun o : List Row => (fun p : SV => (fun q : SV => (fun r : SV => (fun s : Ch => (fun t : Ch => (fun u : Prop => (fun v : Prop => (fun w : SV => bg = bg∧(d = true→bp = bp∧bg = bg∧rng (pi * K)∧rng ((pi * K) + ((j : Nat) : Int))∧O = O∧x.1.1 = x.1.1∧(0 ≤ ((pi * K) + ((j : Nat) : Int))∧((pi * K) + ((j : Nat) : Int)) < ((x.1.1 : Nat) : Int))∧O = O∧k < x.1.1∧O = O∧k < x.1.1∧∃(y : Nat) (z : CD) (F : Nat→Option Addr) (I : Nat→Nat) (J : Nat), (o = (symRows true y z F I)∧(so k) = (F J)∧(x.1.2 k) = (z.2 J)∧J < z.1∧v)∧∃(L : Nat) (M : CD) (N : Nat→Option Addr) (P : Nat→Nat) (Q : Nat), (fun S : Int => (o = (symRows true L M N P)∧(so k) = (N Q)∧Q < M.1∧0 < (M.2 Q))∧∃(T : Nat) (U : CD) (V : Nat→Option Addr) (W : Nat→Nat) (X : Nat), (o = (symRows true T U V W)∧(so k) = (V X)∧(x.1.2 k) = (U.2 X)∧X < U.1∧v)∧∃(Y : Nat) (Z : CD) (aa : Nat→Option Addr) (ab : Nat→Nat) (ac : Nat), (fun ad : List Row => (o = (symRows true Y Z aa ab)∧(so k) = (aa ac)∧ac < Z.1∧0 < (Z.2 ac))∧∃(af : Nat) (ag : CD) (ah : Nat→Option Addr) (aj : Nat→Nat) (ak : Nat), (ad = (symRows true af ag ah aj)∧(so k) = (ah ak)∧(x.1.2 k) = (ag.2 ak)∧ak < ag.1∧u)∧∃(al : Nat) (am : CD) (an : Nat→Option Addr) (ao : Nat→Nat) (ap : Nat), (fun aq : Int => (ad = (symRows true al am an ao)∧(so k) = (an ap)∧ap < am.1∧1 < (am.2 ap))∧∃(ar : Nat) (au : CD) (av : Nat→Option Addr) (aw : Nat→Nat) (ax : Nat), (ad = (symRows true ar au av aw)∧(so k) = (av ax)∧(x.1.2 k) = (au.2 ax)∧ax < au.1∧u)∧∃(ay : Nat) (az : CD) (aA : Nat→Option Addr) (aB : Nat→Nat) (aC : Nat), (ad = (symRows true ay az aA aB)∧(so k) = (aA aC)∧aC < az.1∧1 < (az.2 aC))∧rng (((j : Nat) : Int) + (1 : Int))∧NX [vV (g 0), vV (g 1), a, iV bk, iV rw, pV 5 bg 0, pV 6 bl 0, vV (g 7), vV (g 8), vV (g 9), iV pi, h, w, vV (g 13), vV (g 14), vV (g 15), vV (g 16), vV (g 17), vV (g 18), vV (g 19), vV (g 20), vV (g 21), vV (g 22), vV (g 23), vV (g 24), vV (g 25), b, pV 5 bg 3, iV K, tV, b, h, a, a, a, sV 1 O x.1.1 C, iV pi, pV 5 bg 3, iV K, iV (pi * K), b, iV ((pi * K) + ((j : Nat) : Int)), p, p, w, w, w, r, iV (M.3 Q 0), iV S, r, w, w, q, iV (am.3 ap 1), iV aq, q, vV (g 57), vV (g 58), vV (g 59), vV (g 60), vV (g 61), vV (g 62), vV (g 63), vV (g 64), vV (g 65), vV (g 66), vV (g 67), vV (g 68), vV (g 69), vV (g 70), vV (g 71), vV (g 72), vV (g 73), vV (g 74), vV (g 75), vV (g 76), vV (g 77), vV (g 78), vV (g 79), vV (g 80), vV (g 81), vV (g 82), vV (g 83), vV (g 84), vV (g 85), vV (g 86), vV (g 87), vV (g 88), vV (g 89), vV (g 90), vV (g 91), vV (g 92), vV (g 93), vV (g 94), vV (g 95), vV (g 96), vV (g 97), vV (g 98), vV (g 99), vV (g 100), vV (g 101), vV (g 102), vV (g 103), vV (g 104), vV (g 105), vV (g 106), vV (g 107), vV (g 108), vV (g 109)] [s, t, n, m, Ho true (symRows true ay (setSy az aC 1 aq) aA aB), l, c]) (bits BinOp.xor .i64 (am.3 ap 1) (10 : Int))) (symRows true Y (setSy Z ac 0 S) aa ab)) (bits BinOp.xor .i64 (M.3 Q 0) (5 : Int)))∧(d = false→kx (Exit.exit 0) [vV (g 0), vV (g 1), a, iV bk, iV rw, pV 5 bg 0, pV 6 bl 0, vV (g 7), vV (g 8), vV (g 9), iV pi, b, vV (g 12), vV (g 13), vV (g 14), vV (g 15), vV (g 16), vV (g 17), vV (g 18), vV (g 19), vV (g 20), vV (g 21), vV (g 22), vV (g 23), vV (g 24), vV (g 25), b, pV 5 bg 3, iV K, fV, vV (g 30), vV (g 31), vV (g 32), vV (g 33), vV (g 34), vV (g 35), vV (g 36), vV (g 37), vV (g 38), vV (g 39), vV (g 40), vV (g 41), vV (g 42), vV (g 43), vV (g 44), vV (g 45), vV (g 46), vV (g 47), vV (g 48), vV (g 49), vV (g 50), vV (g 51), vV (g 52), vV (g 53), vV (g 54), vV (g 55), vV (g 56), vV (g 57), vV (g 58), vV (g 59), vV (g 60), vV (g 61), vV (g 62), vV (g 63), vV (g 64), vV (g 65), vV (g 66), vV (g 67), vV (g 68), vV (g 69), vV (g 70), vV (g 71), vV (g 72), vV (g 73), vV (g 74), vV (g 75), vV (g 76), vV (g 77), vV (g 78), vV (g 79), vV (g 80), vV (g 81), vV (g 82), vV (g 83), vV (g 84), vV (g 85), vV (g 86), vV (g 87), vV (g 88), vV (g 89), vV (g 90), vV (g 91), vV (g 92), vV (g 93), vV (g 94), vV (g 95), vV (g 96), vV (g 97), vV (g 98), vV (g 99), vV (g 100), vV (g 101), vV (g 102), vV (g 103), vV (g 104), vV (g 105), vV (g 106), vV (g 107), vV (g 108), vV (g 109)] [s, t, n, m, Ho true o, l, c])) (sV 4 (so k) (x.1.2 k) (sc k))) (0 ≤ (0 : Int)∧(0 : Int) < (((x.1.2 k) : Nat) : Int))) (0 ≤ (1 : Int)∧(1 : Int) < (((x.1.2 k) : Nat) : Int))) (Hr true O 61 2 x.1.1 C [fun t => Cs 4 (so t) (x.1.2 t) (sc t), fun t => Cb (x.1.4 t)])) (Hc bp 31 [Cs 1 O x.1.1 C, Cs 2 A x.2 D, Cs 3 H x.4 E])) (rV 4 (so k) 1 0 0)) (rV 4 (so k) 1 1 0)) (rV 1 O 2 k 0)) (symRows true 3 (CD.mk x.1.1 x.1.2 sy x.1.4) so sc)) (Hr true A 3 1 x.2 D [fun n => Ci (x.3 n)])) (Hr true H 3 1 x.4 E [fun m => Ci (x.5 m)])) (Hc bg 25 [Ci G, Ci B, Ci R, Ci K])) (Int.toNat ((pi * K) + ((j : Nat) : Int)))) (iV (((j : Nat) : Int) + (1 : Int)))) (decide (((j : Nat) : Int) < K))) (Hc bl 27 [Ci la, Ci lh])) (iV ((j : Nat) : Int))) (pV 0 bp 0)) := by kernel_rfl
def symQ (x : AD) (sy : Nat → Nat → Int) : Prop := ∀ q, q < x.c.n → symB (x.c.sn q) (sy q) 11 = true
theorem symQ_set {x : AD} {sy : Nat → Nat → Int} {k i : Nat} {a : Int} (h : symQ x sy) (ha : el a) : symQ x (setSy ⟨x.c.n, x.c.sn, sy, x.c.po⟩ k i a).sy := fun q hq => by
  have h1 := h q hq
  simp only [symB, Bool.and_eq_true] at h1 ⊢
  refine ⟨allB_mk fun j hj => ?_, h1.2⟩
  have h2 := allB_get h1.1 hj
  have h3 : btw a 0 15 = true := btw_mk ha.1 ha.2
  show btw (if q = k then (if j = i then a else sy q j) else sy q j) 0 15 = true
  split
  · split
    · exact h3
    · exact h2
  · exact h2
theorem symQ_el {x : AD} {sy : Nat → Nat → Int} {q i : Nat} (h : symQ x sy) (hq : q < x.c.n) (hi : i < 11) : el (sy q i) := by
  have h1 := h q hq
  simp only [symB, Bool.and_eq_true] at h1
  have h3 : (x.c.sn q : Int) = 11 := by simpa [ieq] using h1.2
  have h2 := btw_f (allB_get h1.1 (by omega : i < x.c.sn q))
  exact ⟨h2.1, h2.2⟩
theorem symQ_n {x : AD} {sy : Nat → Nat → Int} (h : symQ x sy) : ∀ q, q < x.c.n → x.c.sn q = 11 := fun q hq => by
  have h1 := h q hq
  simp only [symB, Bool.and_eq_true] at h1
  have h3 : (x.c.sn q : Int) = 11 := by simpa [ieq] using h1.2
  omega
def ssn (x : AD) (O A H : Option Addr) (C D E : Nat) (so : Nat → Option Addr) (sc : Nat → Nat) (G B R K la lh : Int) (bp : Nat) (bk rw pi : Int) : LSm := fun ts ch k => ∃ (bg bl : Nat), (ts.map SV.den = (snH x O A H C D E so sc G B R K la lh bp bg bl bk rw pi (.il 0) (fun d => (ts.getD d .undef).den)).map SV.den ∧ SelS ch [0, 1, 2, 3, 4, 5, 6] (snT x O A H C D E so sc G B R K la lh bp bg bl bk rw pi x.c.sy)) ∧
    ∀ (sy : Nat → Nat → Int) (kx : Int) (g : Nat → Value), symQ x sy → k (.exit 0) (snH x O A H C D E so sc G B R K la lh bp bg bl bk rw pi (.int kx) g) (snT x O A H C D E so sc G B R K la lh bp bg bl bk rw pi sy)
theorem ssn_ok (x : AD) (O A H : Option Addr) (C D E : Nat) (so : Nat → Option Addr) (sc : Nat → Nat) (G B R K la lh : Int) (bp : Nat) (bk rw pi : Int) (hk : 1 ≤ K ∧ K ≤ 8) (hp : 0 ≤ pi * K) (hn : pi * K + K ≤ (x.c.n : Int)) (hl : x.c.n ≤ 1024) (hq0 : symQ x x.c.sy) (X : Cx) : LoopOK Try.prog X (theLoop Try.f40 0) (ssn x O A H C D E so sc G B R K la lh bp bk rw pi) := by
  intro ts ch k a w hS hT hd hs
  obtain ⟨bg, bl, ⟨h1, hch⟩, hk2⟩ := hS
  refine loop_ok mixed (E := {}) trivial (loopsOK_nil _ _ _) 400 K.toNat (fun j ts ch => ∃ sy g, symQ x sy ∧ ts = snH x O A H C D E so sc G B R K la lh bp bg bl bk rw pi (.int (j : Int)) g ∧ ch = snT x O A H C D E so sc G B R K la lh bp bg bl bk rw pi sy) ?_ ?_ hT hd hs
  · rintro j _ _ ⟨sy, g, hq, rfl, rfl⟩ hj
    refine (@Eq.mpr _ _ (snB x O A H C D E so sc G B R K la lh bp bg bl bk rw pi sy j g _ _) ?_)
    dsimp -zeta -proj -iota -eta -failIfUnchanged (etaStruct := .none) only
    have hsn := symQ_n hq
    generalize pi * K = z at hp hn ⊢
    by_cases hlt : (j : Int) < K
    · have hz : 0 ≤ z + (j : Int) ∧ z + (j : Int) < (x.c.n : Int) := ⟨by omega, by omega⟩
      have hzn : (z + (j : Int)).toNat < x.c.n := by omega
      have h11 := hsn _ hzn
      refine ⟨rfl, fun _ => ?_, fun h => absurd hlt (of_decide_eq_false h)⟩
      refine ⟨rfl, rfl, ⟨by omega, by omega⟩, ⟨by omega, by omega⟩, rfl, rfl, hz, rfl, hzn, rfl, hzn, ?_⟩
      generalize (z + (j : Int)).toNat = q at *
      have he0 := symQ_el hq hzn (by omega : 0 < 11)
      refine ⟨_, _, _, _, _, ⟨rfl, rfl, rfl, hzn, ?_⟩, ?_⟩
      · show (0 : Int) ≤ 0 ∧ (0 : Int) < ((x.c.sn q : Nat) : Int)
        rw [h11]
        decide
      refine ⟨_, _, _, _, _, ⟨rfl, rfl, hzn, ?_⟩, ?_⟩
      · show 0 < x.c.sn q
        omega
      refine ⟨_, _, _, _, _, ⟨rfl, rfl, rfl, hzn, ?_⟩, ?_⟩
      · show (0 : Int) ≤ 0 ∧ (0 : Int) < ((x.c.sn q : Nat) : Int)
        rw [h11]
        decide
      refine ⟨_, _, _, _, _, ⟨rfl, rfl, hzn, ?_⟩, ?_⟩
      · show 0 < x.c.sn q
        omega
      refine ⟨_, _, _, _, _, ⟨rfl, rfl, rfl, hzn, ?_⟩, ?_⟩
      · show (0 : Int) ≤ 1 ∧ (1 : Int) < ((x.c.sn q : Nat) : Int)
        rw [h11]
        decide
      refine ⟨_, _, _, _, _, ⟨rfl, rfl, hzn, ?_⟩, ?_⟩
      · show 1 < x.c.sn q
        omega
      refine ⟨_, _, _, _, _, ⟨rfl, rfl, rfl, hzn, ?_⟩, ?_⟩
      · show (0 : Int) ≤ 1 ∧ (1 : Int) < ((x.c.sn q : Nat) : Int)
        rw [h11]
        decide
      refine ⟨_, _, _, _, _, ⟨rfl, rfl, hzn, ?_⟩, ?_⟩
      · show 1 < x.c.sn q
        omega
      refine ⟨⟨by omega, by omega⟩, ?_⟩
      have hq1 : symQ x (setSy ⟨x.c.n, x.c.sn, sy, x.c.po⟩ q 0 (bits .xor .i64 (sy q 0) 5)).sy := symQ_set hq (el_xor he0 ⟨by decide, by decide⟩)
      refine ⟨by omega, ?_⟩
      have he1 := symQ_el hq1 hzn (by omega : 1 < 11)
      have hq2 := symQ_set (k := q) (i := 1) hq1 (el_xor he1 (⟨by decide, by decide⟩ : el 10))
      show Next _ _ _ _
      exact Next.mk (fun g => snH x O A H C D E so sc G B R K la lh bp bg bl bk rw pi (.int ((j + 1 : Nat) : Int)) g) (snT x O A H C D E so sc G B R K la lh bp bg bl bk rw pi _) ⟨_, _, hq2, rfl, rfl⟩ rfl fun w hw => hw
    · refine ⟨rfl, fun h => absurd (of_decide_eq_true h) hlt, fun _ => ?_⟩
      show Next _ _ _ _
      exact Next.mk (fun g => snH x O A H C D E so sc G B R K la lh bp bg bl bk rw pi (.int (j : Int)) g) _ (hk2 sy _ _ hq) rfl fun w hw => hw
  · exact Next.mk (fun g => snH x O A H C D E so sc G B R K la lh bp bg bl bk rw pi (.int ((0 : Nat) : Int)) g) _ ⟨_, _, hq0, rfl, rfl⟩ h1 fun w hw => hch.hs hw
theorem sen_T (x : AD) (O A H : Option Addr) (C D E : Nat) (so : Nat → Option Addr) (sc : Nat → Nat) (G B R K la lh : Int) (bp : Nat) (bk rw pi : Int) : (exFn Try.prog {tb := [(62, sGone)], L := [(4, ssn x O A H C D E so sc G B R K la lh bp bk rw pi)], D := fun _ => [0, 1, 2, 3, 4]} 400 Try.f40 ([.a (.agg [.int G, .int B, .int R, .int K]), .a (.agg [.int la, .int lh]), .a (.c (.ptr 0 bp 0)), .a (.c (.int bk)), .a (.c (.int rw))]) ([.cells bp 31 [.sl 1 O (x).c.n C, .sl 2 A (x).aN D, .sl 3 H (x).hN E]] ++ arrO 1 (x) O A H C D E so sc) (fun v ch => ∃ (sy : Nat → Nat → Int) (f h : Nat → Int), (v.den = .tuple #[] ∧ SelS ch [0, 1, 2, 3, 4] ([.cells bp 31 [.sl 1 O ((AD.mk ⟨x.c.n, x.c.sn, sy, x.c.po⟩ x.aN f x.hN h)).c.n C, .sl 2 A ((AD.mk ⟨x.c.n, x.c.sn, sy, x.c.po⟩ x.aN f x.hN h)).aN D, .sl 3 H ((AD.mk ⟨x.c.n, x.c.sn, sy, x.c.po⟩ x.aN f x.hN h)).hN E]] ++ arrO 1 ((AD.mk ⟨x.c.n, x.c.sn, sy, x.c.po⟩ x.aN f x.hN h)) O A H C D E so sc)) ∧ symQ x sy ∧ agC x.aN f ∧ agC x.hN h)) = (
  (fun b : Value => (fun d : Value => (fun g : Value => (fun j : Value => (fun k : Value => (fun l : Nat => (fun m : List SC => (fun o : Value => (fun p : Value => (fun q : Bool => (fun r : Nat => (fun s : Nat => (fun t : Nat => (fun u : Bool => (fun w : List SC => (fun y : Ch => (fun z : Value => (fun F : Prop => (fun I : Prop => (fun J : Nat => (fun M : Nat => (fun N : Ch => (fun P : Ch => (fun Q : Value => (fun S : Bool => (fun T : Bool => (fun U : List SC => (fun V : Ch => (fun W : Ch => (fun X : Prop => (fun Y : Prop => (fun Z : Prop => (fun aa : Prop => (fun ab : Ch => (fun ac : Ch => (fun ad : Prop => (fun af : Prop => (fun ag : Ch => (fun ah : Ch => (fun aj : Int => (fun ak : Int => (fun al : Ch => (fun am : Ch => (fun an : Ch => (fun ao : Ch => (fun ap : Ch => (fun aq : Ch => ∀ ar au : Nat, (fun av : Ch => (fun aw : Ch => ar = ar∧rng (bk * R)∧rng ((bk * R) + rw)∧ar = ar∧au = au∧bp = bp∧True∧∀ ax ay az : Nat, (fun aA : Ch => (fun aB : Ch => (fun aC : Ch => (fun aD : Prop => (fun aE : Prop => (fun aF : Prop => (fun aG : Prop => (fun aH : Prop => (fun aI : Prop => (fun aJ : Prop => az = az∧A = A∧x.2 = x.2∧Y∧A = A∧r < x.2∧ay = ay∧(T = false→az = az∧H = H∧x.4 = x.4∧X∧H = H∧r < x.4∧ay = ay∧True∧(S = true→aJ)∧(S = false→bp = bp∧A = A∧x.2 = x.2∧Y∧A = A∧r < x.2∧bp = bp∧H = H∧x.4 = x.4∧X∧H = H∧r < x.4∧(q = true→rng (((bk * R) + rw) - (1 : Int))∧rng (((bk * R) + rw) - (1 : Int))∧(bp = bp∧True∧bp = bp∧True∧H = H∧x.4 = x.4∧af∧aI)∧bp = bp∧True∧H = H∧x.4 = x.4∧af∧(bp = bp∧True∧aI)∧H = H∧M < x.4∧True∧rng ((if M = r then (0 : Int) else (x.5 M)) + (1 : Int))∧bp = bp∧True∧aH)∧(q = false→ar = ar∧rng (R - (1 : Int))∧(u = true→rng (((bk * R) + rw) + (1 : Int))∧rng (((bk * R) + rw) + (1 : Int))∧(bp = bp∧True∧bp = bp∧True∧H = H∧x.4 = x.4∧ad∧aF)∧bp = bp∧True∧H = H∧x.4 = x.4∧ad∧(bp = bp∧True∧aF)∧H = H∧J < x.4∧True∧rng ((if J = r then (0 : Int) else (x.5 J)) + (1 : Int))∧bp = bp∧True∧aE)∧(u = false→∃(aK : Nat→Nat→Int) (aL aM : Nat→Int), (b = b∧SelS [V, ag, ah, Hr true H 3 1 x.4 E [fun aO => Ci (if aO = r then (0 : Int) else (x.5 aO))], y, aw, av, aC, aB, aA] [0, 1, 2, 3, 4] [V, ag, Hr true A 3 1 x.2 D [fun aO => Ci (aL aO)], Hr true H 3 1 x.4 E [fun aO => Ci (aM aO)], Ho true (symRows true 3 (CD.mk x.1.1 x.1.2 aK x.1.4) so sc)])∧symQ x aK∧agC x.2 aL∧agC x.4 aM))))∧(T = true→True∧aJ)) (∃ aJ aK : Nat, (fun aL : Ch => (fun aM : Ch => ([z, p, j, g, d, Wp ar 0, Wp au 0, b, b, b, o, Wi 0, b, g, Wp ar 2, Wi R, k, d, o, z, p, j, j, Q, o, Wb true, b, b, b, b, b, b, b, b, b, b, b, b, b, b, b, b, b, b, b, b, b, b, b, b, b, b, b, b, b, b, b, b, b, b, b, b, b, b, b, b, b, b, b, b, b, b, b, b, b, b, b, b, b, b, b, b, b, b, b, b, b, b, b, b, b, b, b, b, b, b, b, b, b, b, b, b, b, b, b, b, b, b, b, b] = [z, p, j, g, d, Wp aJ 0, Wp aK 0, b, b, b, Wi pi, Wi 0, b, g, Wp ar 2, Wi R, k, d, o, z, p, j, j, Q, o, Wb true, b, b, b, b, b, b, b, b, b, b, b, b, b, b, b, b, b, b, b, b, b, b, b, b, b, b, b, b, b, b, b, b, b, b, b, b, b, b, b, b, b, b, b, b, b, b, b, b, b, b, b, b, b, b, b, b, b, b, b, b, b, b, b, b, b, b, b, b, b, b, b, b, b, b, b, b, b, b, b, b, b, b, b, b]∧SelS [V, ag, P, N, y, aw, av, aC, aB, aA] [0, 1, 2, 3, 4, 5, 6] [V, ag, P, N, W, aM, aL])∧∀(aO : Nat→Nat→Int) (aP : Int) (aQ : Nat→Value), (fun aR : Ch => (fun aS : Prop => (fun aT : Prop => (fun aU : Prop => (fun aV : Prop => (fun aW : Prop => (fun aX : Prop => symQ x aO→bp = bp∧A = A∧x.2 = x.2∧I∧A = A∧l < x.2∧bp = bp∧H = H∧x.4 = x.4∧F∧H = H∧l < x.4∧(q = true→rng (pi - (1 : Int))∧rng (pi - (1 : Int))∧(bp = bp∧True∧bp = bp∧True∧H = H∧x.4 = x.4∧aa∧aX)∧bp = bp∧True∧H = H∧x.4 = x.4∧aa∧(bp = bp∧True∧aX)∧H = H∧t < x.4∧True∧rng ((if t = l then (0 : Int) else (x.5 t)) + (1 : Int))∧bp = bp∧True∧aW)∧(q = false→aJ = aJ∧rng (R - (1 : Int))∧(u = true→rng (pi + (1 : Int))∧rng (pi + (1 : Int))∧(bp = bp∧True∧bp = bp∧True∧H = H∧x.4 = x.4∧Z∧aU)∧bp = bp∧True∧H = H∧x.4 = x.4∧Z∧(bp = bp∧True∧aU)∧H = H∧s < x.4∧True∧rng ((if s = l then (0 : Int) else (x.5 s)) + (1 : Int))∧bp = bp∧True∧aT)∧(u = false→∃(aY : Nat→Nat→Int) (aZ a0 : Nat→Int), (b = b∧SelS [V, ag, ac, ab, aR, aM, aL] [0, 1, 2, 3, 4] [V, ag, Hr true A 3 1 x.2 D [fun a1 => Ci (aZ a1)], Hr true H 3 1 x.4 E [fun a1 => Ci (a0 a1)], Ho true (symRows true 3 (CD.mk x.1.1 x.1.2 aY x.1.4) so sc)])∧symQ x aY∧agC x.2 aZ∧agC x.4 a0))) (H = H∧t < x.4∧True∧rng ((if t = l then (0 : Int) else (x.5 t)) + (1 : Int))∧aW)) (H = H∧x.4 = x.4∧aa∧H = H∧t < x.4∧True∧aJ = aJ∧rng (R - (1 : Int))∧(u = true→rng (pi + (1 : Int))∧rng (pi + (1 : Int))∧(bp = bp∧True∧bp = bp∧True∧H = H∧x.4 = x.4∧Z∧aV)∧bp = bp∧True∧H = H∧x.4 = x.4∧Z∧(bp = bp∧True∧aV)∧H = H∧s < x.4∧True∧rng ((if s = t then aj else (if s = l then (0 : Int) else (x.5 s))) + (1 : Int))∧bp = bp∧True∧aS)∧(u = false→∃(aW : Nat→Nat→Int) (aX aY : Nat→Int), (b = b∧SelS [V, ag, ac, am, aR, aM, aL] [0, 1, 2, 3, 4] [V, ag, Hr true A 3 1 x.2 D [fun aZ => Ci (aX aZ)], Hr true H 3 1 x.4 E [fun aZ => Ci (aY aZ)], Ho true (symRows true 3 (CD.mk x.1.1 x.1.2 aW x.1.4) so sc)])∧symQ x aW∧agC x.2 aX∧agC x.4 aY))) (H = H∧s < x.4∧True∧rng ((if s = t then aj else (if s = l then (0 : Int) else (x.5 s))) + (1 : Int))∧aS)) (H = H∧s < x.4∧True∧rng ((if s = l then (0 : Int) else (x.5 s)) + (1 : Int))∧aT)) (H = H∧x.4 = x.4∧Z∧H = H∧s < x.4∧True∧∃(aT : Nat→Nat→Int) (aU aV : Nat→Int), (b = b∧SelS [V, ag, ac, al, aR, aM, aL] [0, 1, 2, 3, 4] [V, ag, Hr true A 3 1 x.2 D [fun aW => Ci (aU aW)], Hr true H 3 1 x.4 E [fun aW => Ci (aV aW)], Ho true (symRows true 3 (CD.mk x.1.1 x.1.2 aT x.1.4) so sc)])∧symQ x aT∧agC x.2 aU∧agC x.4 aV)) (H = H∧x.4 = x.4∧Z∧H = H∧s < x.4∧True∧∃(aS : Nat→Nat→Int) (aT aU : Nat→Int), (b = b∧SelS [V, ag, ac, ap, aR, aM, aL] [0, 1, 2, 3, 4] [V, ag, Hr true A 3 1 x.2 D [fun aV => Ci (aT aV)], Hr true H 3 1 x.4 E [fun aV => Ci (aU aV)], Ho true (symRows true 3 (CD.mk x.1.1 x.1.2 aS x.1.4) so sc)])∧symQ x aS∧agC x.2 aT∧agC x.4 aU)) (Ho true (symRows true 3 (CD.mk x.1.1 x.1.2 aO x.1.4) so sc))) (Hc aJ 25 w)) (Hc aK 27 m))) (H = H∧M < x.4∧True∧rng ((if M = r then (0 : Int) else (x.5 M)) + (1 : Int))∧aH)) (H = H∧x.4 = x.4∧af∧H = H∧M < x.4∧True∧ar = ar∧rng (R - (1 : Int))∧(u = true→rng (((bk * R) + rw) + (1 : Int))∧rng (((bk * R) + rw) + (1 : Int))∧(bp = bp∧True∧bp = bp∧True∧H = H∧x.4 = x.4∧ad∧aG)∧bp = bp∧True∧H = H∧x.4 = x.4∧ad∧(bp = bp∧True∧aG)∧H = H∧J < x.4∧True∧rng ((if J = M then ak else (if J = r then (0 : Int) else (x.5 J))) + (1 : Int))∧bp = bp∧True∧aD)∧(u = false→∃(aH : Nat→Nat→Int) (aI aJ : Nat→Int), (b = b∧SelS [V, ag, ah, ao, y, aw, av, aC, aB, aA] [0, 1, 2, 3, 4] [V, ag, Hr true A 3 1 x.2 D [fun aK => Ci (aI aK)], Hr true H 3 1 x.4 E [fun aK => Ci (aJ aK)], Ho true (symRows true 3 (CD.mk x.1.1 x.1.2 aH x.1.4) so sc)])∧symQ x aH∧agC x.2 aI∧agC x.4 aJ))) (H = H∧J < x.4∧True∧rng ((if J = M then ak else (if J = r then (0 : Int) else (x.5 J))) + (1 : Int))∧aD)) (H = H∧J < x.4∧True∧rng ((if J = r then (0 : Int) else (x.5 J)) + (1 : Int))∧aE)) (H = H∧x.4 = x.4∧ad∧H = H∧J < x.4∧True∧∃(aE : Nat→Nat→Int) (aF aG : Nat→Int), (b = b∧SelS [V, ag, ah, an, y, aw, av, aC, aB, aA] [0, 1, 2, 3, 4] [V, ag, Hr true A 3 1 x.2 D [fun aH => Ci (aF aH)], Hr true H 3 1 x.4 E [fun aH => Ci (aG aH)], Ho true (symRows true 3 (CD.mk x.1.1 x.1.2 aE x.1.4) so sc)])∧symQ x aE∧agC x.2 aF∧agC x.4 aG)) (H = H∧x.4 = x.4∧ad∧H = H∧J < x.4∧True∧∃(aD : Nat→Nat→Int) (aE aF : Nat→Int), (b = b∧SelS [V, ag, ah, aq, y, aw, av, aC, aB, aA] [0, 1, 2, 3, 4] [V, ag, Hr true A 3 1 x.2 D [fun aG => Ci (aE aG)], Hr true H 3 1 x.4 E [fun aG => Ci (aF aG)], Ho true (symRows true 3 (CD.mk x.1.1 x.1.2 aD x.1.4) so sc)])∧symQ x aD∧agC x.2 aE∧agC x.4 aF)) (Hc ax 25 w)) (Hc ay 27 m)) (Hc az 31 U)) (Hc ar 25 w)) (Hc au 27 m)) (Hr true H 3 1 x.4 E [fun aq => Ci (if aq = J then (minI ((if J = M then ak else (if J = r then (0 : Int) else (x.5 J))) + (1 : Int)) (100000 : Int)) else (if aq = M then ak else (if aq = r then (0 : Int) else (x.5 aq))))])) (Hr true H 3 1 x.4 E [fun ap => Ci (if ap = s then (minI ((if s = t then aj else (if s = l then (0 : Int) else (x.5 s))) + (1 : Int)) (100000 : Int)) else (if ap = t then aj else (if ap = l then (0 : Int) else (x.5 ap))))])) (Hr true H 3 1 x.4 E [fun ao => Ci (if ao = M then ak else (if ao = r then (0 : Int) else (x.5 ao)))])) (Hr true H 3 1 x.4 E [fun an => Ci (if an = J then (minI ((if J = r then (0 : Int) else (x.5 J)) + (1 : Int)) (100000 : Int)) else (if an = r then (0 : Int) else (x.5 an)))])) (Hr true H 3 1 x.4 E [fun am => Ci (if am = t then aj else (if am = l then (0 : Int) else (x.5 am)))])) (Hr true H 3 1 x.4 E [fun al => Ci (if al = s then (minI ((if s = l then (0 : Int) else (x.5 s)) + (1 : Int)) (100000 : Int)) else (if al = l then (0 : Int) else (x.5 al)))])) (minI ((if M = r then (0 : Int) else (x.5 M)) + (1 : Int)) (100000 : Int))) (minI ((if t = l then (0 : Int) else (x.5 t)) + (1 : Int)) (100000 : Int))) (Hr true A 3 1 x.2 D [fun ah => Ci (if ah = r then (0 : Int) else (x.3 ah))])) (Hr true O 61 2 x.1.1 C [fun ag => Cs 4 (so ag) (x.1.2 ag) (sc ag), fun ag => Cb (x.1.4 ag)])) (0 ≤ (((bk * R) + rw) - (1 : Int))∧(((bk * R) + rw) - (1 : Int)) < ((x.4 : Nat) : Int))) (0 ≤ (((bk * R) + rw) + (1 : Int))∧(((bk * R) + rw) + (1 : Int)) < ((x.4 : Nat) : Int))) (Hr true A 3 1 x.2 D [fun ac => Ci (if ac = l then (0 : Int) else (x.3 ac))])) (Hr true H 3 1 x.4 E [fun ab => Ci (if ab = l then (0 : Int) else (x.5 ab))])) (0 ≤ (pi - (1 : Int))∧(pi - (1 : Int)) < ((x.4 : Nat) : Int))) (0 ≤ (pi + (1 : Int))∧(pi + (1 : Int)) < ((x.4 : Nat) : Int))) (0 ≤ ((bk * R) + rw)∧((bk * R) + rw) < ((x.2 : Nat) : Int))) (0 ≤ ((bk * R) + rw)∧((bk * R) + rw) < ((x.4 : Nat) : Int))) (Ho true (symRows true 3 (CD.mk x.1.1 x.1.2 x.1.3 x.1.4) so sc))) (Hc bp 31 U)) [Cs 1 O x.1.1 C, Cs 2 A x.2 D, Cs 3 H x.4 E]) (decide ((x.3 r) > la))) (decide ((x.5 r) > lh))) (Wa [Ws O x.1.1 C, Ws A x.2 D, Ws H x.4 E])) (Hr true A 3 1 x.2 D [fun P => Ci (x.3 P)])) (Hr true H 3 1 x.4 E [fun N => Ci (x.5 N)])) (Int.toNat (((bk * R) + rw) - (1 : Int)))) (Int.toNat (((bk * R) + rw) + (1 : Int)))) (0 ≤ pi∧pi < ((x.2 : Nat) : Int))) (0 ≤ pi∧pi < ((x.4 : Nat) : Int))) (Wa [Wi G, Wi B, Wi R, Wi K])) (Ho true (symRows true 3 x.1 so sc))) [Ci G, Ci B, Ci R, Ci K]) (decide (rw < (R - (1 : Int))))) (Int.toNat (pi - (1 : Int)))) (Int.toNat (pi + (1 : Int)))) (Int.toNat ((bk * R) + rw))) (decide (rw > (0 : Int)))) (Wa [Wi la, Wi lh])) (Wi ((bk * R) + rw))) [Ci la, Ci lh]) (Int.toNat pi)) (Wi (bk * R))) (Wp bp 0)) (Wi bk)) (Wi rw)) (Wu [])) := by kernel_rfl
def hC (v : Int) : Prop := 0 ≤ v ∧ v ≤ 100000
theorem hC_0 : hC 0 := ⟨by decide, by decide⟩
theorem hC_get {n : Nat} {f : Nat → Int} {i : Nat} (h : agC n f) (hi : i < n) : hC (f i) := h i hi
theorem hC_if {p : Prop} [Decidable p] {a b : Int} (ha : hC a) (hb : hC b) : hC (if p then a else b) := by
  split
  · exact ha
  · exact hb
theorem hC_min {u : Int} (h : hC u) : hC (minI (u + 1) 100000) := by
  have h1 := h.1
  simp only [hC, minI]
  split <;> omega
theorem rng_h {u : Int} (h : hC u) : rng (u + 1) := by
  have h1 := h.1
  have h2 := h.2
  simp only [rng]
  omega
theorem agC_up {n k : Nat} {f : Nat → Int} {v : Int} (h : agC n f) (hv : hC v) : agC n (fun i => if i = k then v else f i) := fun i hi => by
  show hC (if i = k then v else f i)
  exact hC_if hv (h i hi)
theorem agC_eta {n : Nat} {f : Nat → Int} (h : agC n f) : agC n (fun i => f i) := h
theorem sen_any (x : AD) (O A H : Option Addr) (C D E : Nat) (so : Nat → Option Addr) (sc : Nat → Nat) (G B R K la lh : Int) (bp : Nat) (bk rw pi : Int) (M : Nat → Prop) (w : World) (hs : HS ⟨w, M⟩ ([.cells bp 31 [.sl 1 O (x).c.n C, .sl 2 A (x).aN D, .sl 3 H (x).hN E]] ++ arrO 1 (x) O A H C D E so sc) w) (hR : 2 ≤ R ∧ R ≤ 16) (hbk : 0 ≤ bk * R ∧ bk * R + R ≤ (x.aN : Int)) (hrw : 0 ≤ rw ∧ rw < R) (hK : 1 ≤ K ∧ K ≤ 8) (hp : 0 ≤ pi * K) (hn : pi * K + K ≤ (x.c.n : Int)) (hl : x.c.n ≤ 1024) (hq0 : symQ x x.c.sy) (hA : x.aN ≤ 1024) (hH : x.hN = x.aN) (hag : agC x.aN x.ag) (hhg : agC x.hN x.hg) (hpi : bk * R + rw = pi) : Calls Try.prog 40 #[.agg #[.int .i64 G, .int .i64 B, .int .i64 R, .int .i64 K], .agg #[.int .i64 la, .int .i64 lh], .pointer (some ⟨bp, 0, none⟩), .int .i64 bk, .int .i64 rw] w fun e w' => ∃ (sy : Nat → Nat → Int) (f h : Nat → Int), e = .returned (.tuple #[]) ∧ symQ x sy ∧ agC x.aN f ∧ agC x.hN h ∧ HS ⟨w, M⟩ ([.cells bp 31 [.sl 1 O ((AD.mk ⟨x.c.n, x.c.sn, sy, x.c.po⟩ x.aN f x.hN h)).c.n C, .sl 2 A ((AD.mk ⟨x.c.n, x.c.sn, sy, x.c.po⟩ x.aN f x.hN h)).aN D, .sl 3 H ((AD.mk ⟨x.c.n, x.c.sn, sy, x.c.po⟩ x.aN f x.hN h)).hN E]] ++ arrO 1 ((AD.mk ⟨x.c.n, x.c.sn, sy, x.c.po⟩ x.aN f x.hN h)) O A H C D E so sc) w' := by
  refine fn_ok mixed (E := {tb := [(62, sGone)], L := [(4, ssn x O A H C D E so sc G B R K la lh bp bk rw pi)], D := fun _ => [0, 1, 2, 3, 4]}) ⟨sGone_ok, trivial⟩ Try.func40 (one_loop (by kernel_rfl) (by kernel_rfl) (ssn_ok x O A H C D E so sc G B R K la lh bp bk rw pi hK hp hn hl hq0 _)) (@Eq.mpr _ _ (sen_T x O A H C D E so sc G B R K la lh bp bk rw pi) ?_) hs (fun v ch' w' ⟨sy, f, h, ⟨hv, hc⟩, h1, h2, h3⟩ hs => ⟨sy, f, h, by rw [hv], h1, h2, h3, hc.hs hs⟩)
  dsimp -zeta -proj -iota -eta -failIfUnchanged (etaStruct := .none) only
  clear hs
  rw [hpi]
  generalize bk * R = z at hbk hpi ⊢
  have hp0 : 0 ≤ pi ∧ pi < (x.aN : Int) ∧ pi < 1024 := ⟨by omega, by omega, by omega⟩
  have hag' := agC_eta hag
  repeat' (first
    | with_reducible exact rfl
    | exact True.intro
    | with_reducible assumption
    | (with_reducible refine agC_up ?_ ?_)
    | (with_reducible exact hC_0)
    | (with_reducible refine hC_min ?_)
    | (with_reducible refine hC_if ?_ ?_)
    | (with_reducible refine hC_get (by with_reducible assumption) ?_)
    | (with_reducible refine rng_h ?_)
    | (with_reducible exact agC_eta (by with_reducible assumption))
    | (intro i hi; show _ = _; with_reducible rfl)
    | (intro i hi; show _ = _; rfl)
    | (show rng _; simp only [rng]; omega)
    | refine And.intro ?_ ?_
    | apply Exists.intro
    | (intro h; replace h := of_decide_eq_true h; first | (exfalso; omega) | skip)
    | (intro h; replace h := of_decide_eq_false h; first | (exfalso; omega) | skip)
    | intro _
    | omega
    | exact rfl
    | (show nodupB _ = true; rfl))

theorem arr_parts {G B R K : Int} {x : AD} (h : arrOk G B R K x = true) : geoB G B R K = true ∧ (x.c.n : Int) = lineN G B R K ∧ (x.aN : Int) = bankN G B R K * R ∧ x.hN = x.aN ∧ symQ x x.c.sy ∧ agC x.aN x.ag ∧ agC x.hN x.hg := by
  simp only [arrOk, Bool.and_eq_true] at h
  obtain ⟨⟨⟨⟨⟨h1, h2⟩, h3⟩, h4⟩, h5⟩, h6⟩ := h
  have e2 : (x.c.n : Int) = lineN G B R K := by simpa [ieq] using h2
  have e3 : (x.aN : Int) = bankN G B R K * R := by simpa [ieq] using h3
  have e4 : x.hN = x.aN := by
    have : (x.hN : Int) = (x.aN : Int) := by simpa [ieq] using h4
    omega
  have h7 : ∀ i, i < x.aN → hC (x.ag i) ∧ hC (x.hg i) := fun i hi => by
    have q := allB_get h6 hi
    simp only [Bool.and_eq_true] at q
    exact ⟨btw_f q.1, btw_f q.2⟩
  exact ⟨h1, e2, e3, e4, fun q hq => allB_get h5 hq, fun i hi => (h7 i hi).1, fun i hi => (h7 i (by omega)).2⟩
theorem arr_mk {G B R K : Int} {x : AD} (h : arrOk G B R K x = true) {sy : Nat → Nat → Int} {f g : Nat → Int} (hs : symQ x sy) (hf : agC x.aN f) (hg : agC x.hN g) : arrOk G B R K (AD.mk ⟨x.c.n, x.c.sn, sy, x.c.po⟩ x.aN f x.hN g) = true := by
  have h0 := h
  simp only [arrOk, Bool.and_eq_true] at h ⊢
  obtain ⟨⟨⟨⟨⟨h1, h2⟩, h3⟩, h4⟩, h5⟩, h6⟩ := h
  obtain ⟨_, _, _, e4, _⟩ := arr_parts h0
  exact ⟨⟨⟨⟨⟨h1, h2⟩, h3⟩, h4⟩, allB_mk fun q hq => hs q hq⟩, allB_mk fun i hi => by
    have q1 := hf i hi
    have q2 := hg i (by omega)
    rw [Bool.and_eq_true]
    exact ⟨btw_mk q1.1 q1.2, btw_mk q2.1 q2.2⟩⟩
theorem arr_small {G B R K : Int} {x : AD} (hg : geoS G B R K) (h : arrOk G B R K x = true) : (2 ≤ x.c.n ∧ x.c.n ≤ 16) ∧ (2 ≤ x.aN ∧ x.aN ≤ 8) ∧ (x.c.n : Int) = B * R * K ∧ (x.aN : Int) = B * R := by
  obtain ⟨g1, g2, g3, g4, g5⟩ := geoS_bank hg
  obtain ⟨h1, h2, h3, h4, _⟩ := arr_parts h
  rw [g3] at h2
  rw [g2] at h3
  refine ⟨⟨by omega, by omega⟩, ⟨by omega, by omega⟩, h2, h3⟩
theorem sense_pre {G B R K bk rw z : Int} {x : AD} (hg : geoS G B R K) (h : arrOk G B R K x = true) (ha : adOk G B R K bk rw z = true) :
    (2 ≤ R ∧ R ≤ 16) ∧ (0 ≤ bk * R ∧ bk * R + R ≤ (x.aN : Int)) ∧ (0 ≤ rw ∧ rw < R) ∧ (1 ≤ K ∧ K ≤ 8) ∧ 0 ≤ (bk * R + rw) * K ∧ (bk * R + rw) * K + K ≤ (x.c.n : Int) := by
  obtain ⟨⟨n1, n2⟩, ⟨a1, a2⟩, e1, e2⟩ := arr_small hg h
  simp only [adOk, Bool.and_eq_true] at ha
  obtain ⟨⟨⟨g1, b1⟩, b2⟩, b3⟩ := ha
  have c1 := btw_f b1
  have c2 := btw_f b2
  rw [(geoS_bank hg).2.1] at c1
  obtain ⟨rfl, ⟨q1, q2⟩, ⟨q3, q4⟩, q5, q6⟩ := hg
  have hR : R = 2 ∨ R = 3 ∨ R = 4 := by omega
  have hK : K = 1 ∨ K = 2 := by omega
  have hB : B = 1 ∨ B = 2 := by omega
  rw [e1, e2]
  have hbk : bk = 0 ∨ bk = 1 := by omega
  refine ⟨by omega, ?_, by omega, by omega, ?_⟩ <;> rcases hR with rfl | rfl | rfl <;> rcases hK with rfl | rfl <;> rcases hB with rfl | rfl <;> rcases hbk with rfl | rfl <;> omega
def sTime : Sm := fun args ch kk =>
  match args with
  | [.a (.c (.ptr id b off)), .a (.c mc)] =>
    match off, asI mc with
    | 0, some m => rdP ch id b fun x O A H C D E so sc i1 i2 i4 => ∃ (G B R K : Int), (arrOk G B R K x = true ∧ geoS G B R K ∧ dayC m) ∧ ∀ f : Nat → Int, arrOk G B R K (AD.mk ⟨x.c.n, x.c.sn, x.c.sy, x.c.po⟩ x.aN f x.hN x.hg) = true → kk (.tup []) (((ch.set i1 (.row ⟨true, A, 3, 1, x.aN, D, [fun i => .int (f i)]⟩)).set i2 (.row ⟨true, H, 3, 1, x.hN, E, [fun i => .int (x.hg i)]⟩)).set i4 (.obj true (symRows true 3 ⟨x.c.n, x.c.sn, x.c.sy, x.c.po⟩ so sc))) [i1, i2, i4]
    | _, _ => False
  | _ => False
theorem sTime_S : SmOK Try.prog 37 sTime := ⟨Try.call37, fun X args ch kk w h0 hs => by
  unfold sTime at h0
  split at h0
  · rename_i id b off mc
    split at h0
    · rename_i m hm
      obtain ⟨x, O, A, H, C, D, E, so, sc, i1, i2, i4, ids, hs1, ⟨G, B, R, K, ⟨ho, hg, hd⟩, hk⟩, hback⟩ := rdP_ok h0 hs
      obtain ⟨_, ⟨a1, a2⟩, _⟩ := arr_small hg ho
      obtain ⟨_, _, _, _, p1, p2, p3⟩ := arr_parts ho
      simp only [List.map_cons, List.map_nil, den_a, den_c, asI_den hm]
      refine Calls.mono (tim_any x O A H C D E so sc b m _ w hs1 (by omega) p2 hd) fun e w' ⟨f, he, hf, hs2⟩ => ⟨.tup [], _, [i1, i2, i4], by rw [he]; rfl, hback w' x.c.sy f x.hg hs2, fun i c hi hn => ?_, hk f (arr_mk ho p1 hf p3)⟩
      simp only [List.mem_cons, List.not_mem_nil, or_false, not_or] at hn
      rw [List.getElem?_set_ne (fun q => hn.2.2 q.symm), List.getElem?_set_ne (fun q => hn.2.1 q.symm), List.getElem?_set_ne (fun q => hn.1 q.symm)]
      exact hi
    · exact h0.elim
  · exact h0.elim⟩
def sSense : Sm := fun args ch kk =>
  match args with
  | [.a (.agg [c0, c1, c2, c3]), .a (.agg [e0, e1]), .a (.c (.ptr id b off)), .a (.c f0), .a (.c f1)] =>
    match off, ints [c0, c1, c2, c3, e0, e1, f0, f1] with
    | 0, some [G, B, R, K, la, lh, bk, rw] => rdP ch id b fun x O A H C D E so sc i1 i2 i4 => (arrOk G B R K x = true ∧ geoS G B R K) ∧ ∃ z : Int, adOk G B R K bk rw z = true ∧ ∀ (sy : Nat → Nat → Int) (f h : Nat → Int), arrOk G B R K (AD.mk ⟨x.c.n, x.c.sn, sy, x.c.po⟩ x.aN f x.hN h) = true → kk (.tup []) (((ch.set i1 (.row ⟨true, A, 3, 1, x.aN, D, [fun i => .int (f i)]⟩)).set i2 (.row ⟨true, H, 3, 1, x.hN, E, [fun i => .int (h i)]⟩)).set i4 (.obj true (symRows true 3 ⟨x.c.n, x.c.sn, sy, x.c.po⟩ so sc))) [i1, i2, i4]
    | _, _ => False
  | _ => False
theorem sSense_S : SmOK Try.prog 40 sSense := ⟨Try.call40, fun X args ch kk w h0 hs => by
  unfold sSense at h0
  split at h0
  · rename_i c0 c1 c2 c3 e0 e1 id b off f0 f1
    split at h0
    · rename_i G B R K la lh bk rw hi
      obtain ⟨q0, hi⟩ := ints_cons hi
      obtain ⟨q1, hi⟩ := ints_cons hi
      obtain ⟨q2, hi⟩ := ints_cons hi
      obtain ⟨q3, hi⟩ := ints_cons hi
      obtain ⟨q4, hi⟩ := ints_cons hi
      obtain ⟨q5, hi⟩ := ints_cons hi
      obtain ⟨q6, hi⟩ := ints_cons hi
      obtain ⟨q7, hi⟩ := ints_cons hi
      obtain ⟨x, O, A, H, C, D, E, so, sc, i1, i2, i4, ids, hs1, ⟨⟨ho, hg⟩, z, hz, hk⟩, hback⟩ := rdP_ok h0 hs
      obtain ⟨⟨n1, n2⟩, ⟨a1, a2⟩, _⟩ := arr_small hg ho
      obtain ⟨_, _, _, hH, p1, p2, p3⟩ := arr_parts ho
      obtain ⟨s1, s2, s3, s4, s5, s6⟩ := sense_pre hg ho hz
      simp only [List.map_cons, List.map_nil, den_a, den_c, SA.den, q0, q1, q2, q3, q4, q5, q6, q7]
      refine Calls.mono (sen_any x O A H C D E so sc G B R K la lh b bk rw _ _ w hs1 s1 s2 s3 s4 s5 s6 (by omega) p1 (by omega) hH p2 p3 rfl) fun e w' ⟨sy, f, h, he, t1, t2, t3, hs2⟩ => ⟨.tup [], _, [i1, i2, i4], by rw [he]; rfl, hback w' sy f h hs2, fun i c hi hn => ?_, hk sy f h (arr_mk ho t1 t2 t3)⟩
      simp only [List.mem_cons, List.not_mem_nil, or_false, not_or] at hn
      rw [List.getElem?_set_ne (fun q => hn.2.2 q.symm), List.getElem?_set_ne (fun q => hn.2.1 q.symm), List.getElem?_set_ne (fun q => hn.1 q.symm)]
      exact hi
    · exact h0.elim
  · exact h0.elim⟩

def csT (cb : Nat) (co : Option Addr) (cn cc : Nat) (ci cz : Int) (cu : Nat → Int) (G B R K la lh : Int) (r2 r3 r4 bg bl bo : Nat) (x : AD) (O A H : Option Addr) (C D E : Nat) (so : Nat → Option Addr) (sc : Nat → Nat) (i1 z1 : Int) : List Ch := [.cells cb 79 [.sl 1 co cn cc, .int i1, .int z1], .row ⟨false, co, 0, 1, cn, 0, [fun i => .u8 (cu i)]⟩, .cells r2 25 [.il 0, .il 0, .il 0, .il 0], .cells r3 27 [.il 0, .il 0], .cells r4 31 [.nil, .nil, .nil], .cells bg 25 [.int G, .int B, .int R, .int K], .cells bl 27 [.int la, .int lh], .cells bo 31 [.sl 8 O x.c.n C, .sl 9 A x.aN D, .sl 10 H x.hN E]] ++ arrO 8 x O A H C D E so sc
def csH (cb : Nat) (co : Option Addr) (cn cc : Nat) (ci cz : Int) (cu : Nat → Int) (G B R K la lh : Int) (r2 r3 r4 bg bl bo : Nat) (i : SC) (g : Nat → Value) : List SV := [.a (.c (.ptr 0 cb 0)), .a (.c (.val (g 1))), .a (.c (.ptr 2 r2 0)), .a (.c (.ptr 3 r3 0)), .a (.c (.ptr 4 r4 0)), .a (.c (.ptr 5 bg 0)), .a (.c (.ptr 6 bl 0)), .a (.c (.ptr 7 bo 0)), .a (.c i), .a (.c (.val (g 9))), .a (.c (.val (g 10))), .a (.c (.val (g 11))), .a (.c (.val (g 12))), .a (.c (.val (g 13))), .a (.c (.val (g 14))), .a (.c (.val (g 15))), .a (.c (.val (g 16))), .a (.c (.val (g 17))), .a (.c (.val (g 18))), .a (.c (.val (g 19))), .a (.c (.val (g 20))), .a (.c (.val (g 21))), .a (.c (.val (g 22))), .a (.c (.val (g 23))), .a (.c (.val (g 24))), .a (.c (.val (g 25))), .a (.c (.val (g 26))), .a (.c (.val (g 27))), .a (.c (.val (g 28))), .a (.c (.val (g 29))), .a (.c (.val (g 30))), .a (.c (.val (g 31))), .a (.c (.val (g 32))), .a (.c (.val (g 33))), .a (.c (.val (g 34))), .a (.c (.val (g 35))), .a (.c (.val (g 36))), .a (.c (.val (g 37))), .a (.c (.val (g 38))), .a (.c (.val (g 39))), .a (.c (.val (g 40))), .a (.c (.val (g 41))), .a (.c (.val (g 42))), .a (.c (.val (g 43))), .a (.c (.val (g 44))), .a (.c (.val (g 45))), .a (.c (.val (g 46))), .a (.c (.val (g 47))), .a (.c (.val (g 48))), .a (.c (.val (g 49))), .a (.c (.val (g 50))), .a (.c (.val (g 51))), .a (.c (.val (g 52))), .a (.c (.val (g 53))), .a (.c (.val (g 54)))]
theorem csB (cb : Nat) (co : Option Addr) (cn cc : Nat) (ci cz : Int) (cu : Nat → Int) (G B R K la lh : Int) (r2 r3 r4 bg bl bo : Nat) (x : AD) (O A H : Option Addr) (C D E : Nat) (so : Nat → Option Addr) (sc : Nat → Nat) (i1 z1 : Int) (j : Nat) (g : Nat → Value) (NX : List SV → List Ch → Prop) (kx : Exit → List SV → List Ch → Prop) : (exCode Try.prog {tb := [(16, sBelow), (39, sOnce), (36, sAddrW), (37, sTime), (38, sBent), (40, sSense), (23, sAdIx)], D := fun _ => [0]} 400 (theLoop Try.f14 0) (csH cb co cn cc ci cz cu G B R K la lh r2 r3 r4 bg bl bo (.int (j : Int)) g) (csT cb co cn cc ci cz cu G B R K la lh r2 r3 r4 bg bl bo x O A H C D E so sc i1 z1) (loopK NX kx)) = (
  (fun a : SV => (fun b : SV => (fun c : SV => (fun d : SV => (fun h : SV => (fun k : SV => (fun l : SV => (fun m : SV => (fun n : SV => (fun o : SV => (fun p : SV => (fun q : SV => (fun r : SV => (fun s : SV => (fun t : SV => (fun u : SV => (fun v : SC => (fun w : SV => (fun y : Ch => (fun z : List (Nat→SC) => (fun F : List Row => (fun I : Ch => (fun J : Ch => (fun L : Ch => (fun M : SV => (fun N : SV => (fun P : Ch => (fun Q : Ch => (fun S : Ch => (fun T : Ch => (fun U : Ch => (fun V : Row => (fun W : Row => (fun X : Ch => (fun Y : List (Nat→SC) => (fun Z : Ch => (fun aa : Row => ∃ ab : Nat→Int, ((cb = cb∧79 = 79∧co = co∧cn = cn∧z = [fun ac => Ce (ab ac)])∧codeC cn ab∧pos0 i1∧inR (20 : Int) (1 : Int) (4294967296 : Int))∧∀ ac ad af : Int, (fun ag : Bool => inR ac (0 : Int) ((20 : Int) - (1 : Int))→pos0 ad→(ag = true→bg = bg∧∃ ah : Nat→Int, ((cb = cb∧79 = 79∧co = co∧cn = cn∧z = [fun aj => Ce (ah aj)])∧codeC cn ah∧pos0 ad∧geoS G B R K)∧∀ aj ak al am an : Int, (fun ao : Int => (fun ap : List SC => (fun aq : SV => (fun ar : Nat => (adOk G B R K aj ak al) = true→pos0 am→∀ au : Nat, (fun av : SV => (fun aw : Ch => (fun ax : List Ch => au = au∧∃ ay : Nat→Int, ((cb = cb∧79 = 79∧co = co∧cn = cn∧z = [fun az => Ce (ay az)])∧codeC cn ay∧pos0 am∧inR (4 : Int) (1 : Int) (4294967296 : Int))∧∀ az aA aB : Int, (fun aC : Bool => (fun aD : Bool => (fun aE : SV => inR az (0 : Int) ((4 : Int) - (1 : Int))→pos0 aA→(aD = true→∃ aF : Nat→Int, ((cb = cb∧79 = 79∧co = co∧cn = cn∧z = [fun aG => Ce (aF aG)])∧codeC cn aF∧pos0 aA∧inR (30 : Int) (1 : Int) (4294967296 : Int))∧∀ aG aH aI : Int, inR aG (0 : Int) ((30 : Int) - (1 : Int))→pos0 aH→∃(aJ : CD) (aK : Nat→Option Addr) (aL : Nat→Nat) (aM aN : Nat→Int), (fun aO : CD => (F = (symRows true 3 aJ aK aL)∧true = true∧bo = bo∧31 = 31∧aa = (Row.mk true O 61 2 x.1.1 C [fun aP => Cs 11 (aK aP) (aJ.2 aP) (aL aP), fun aP => Cb (aJ.4 aP)])∧x.1.1 = aJ.1∧W = (Row.mk true A 3 1 x.2 D [fun aP => Ci (aM aP)])∧V = (Row.mk true H 3 1 x.4 E [fun aP => Ci (aN aP)])∧true = true)∧∃ aP aQ aR aS : Int, ((arrOk aP aQ aR aS (AD.mk aJ x.2 aM x.4 aN)) = true∧geoS aP aQ aR aS∧dayC aG)∧∀ aT : Nat→Int, (arrOk aP aQ aR aS (AD.mk aO x.2 aT x.4 aN)) = true→rng (((j : Nat) : Int) + (1 : Int))∧NX [u, vV (g 1), t, s, r, q, p, o, M, av, n, m, l, k, h, d, w, u, iV ac, tV, w, M, u, N, aq, u, iV az, vV (g 27), vV (g 28), vV (g 29), vV (g 30), vV (g 31), vV (g 32), vV (g 33), tV, aE, u, iV aG, uV [], vV (g 39), vV (g 40), vV (g 41), vV (g 42), vV (g 43), vV (g 44), vV (g 45), vV (g 46), vV (g 47), vV (g 48), vV (g 49), vV (g 50), vV (g 51), c, b, a] [Hc cb 79 [v, Ci aH, Ci aI], U, Q, I, y, P, J, X, Z, Hr true A 3 1 x.2 D [fun aU => Ci (aT aU)], Hr true H 3 1 x.4 E [fun aU => Ci (aN aU)], Ho true (symRows true 3 aO aK aL), aw]) (CD.mk aJ.1 aJ.2 aJ.3 aJ.4))∧(aD = false→(aC = true→bo = bo∧bg = bg∧au = au∧True∧∃ aF : Nat→Int, ((cb = cb∧79 = 79∧co = co∧cn = cn∧z = [fun aG => Ce (aF aG)])∧codeC cn aF∧pos0 aA)∧∀(aG : Nat→Int) (aH aI : Int) (aJ : Option Addr) (aK : Nat), (symB 11 (fun aL => aG aL) (11 : Int)) = true→pos0 aH→True∧∃ aL : Nat→Int, ((cb = cb∧79 = 79∧co = co∧cn = cn∧z = [fun aM => Ce (aL aM)])∧codeC cn aL∧pos0 aH∧inR (5 : Int) (1 : Int) (4294967296 : Int))∧∀ aM aN aO : Int, (fun aP : Bool => inR aM (0 : Int) ((5 : Int) - (1 : Int))→pos0 aN→ax = ax∧O = O∧x.1.1 = x.1.1∧(0 ≤ ao∧ao < ((x.1.1 : Nat) : Int))∧O = O∧ar < x.1.1∧True∧rng (((j : Nat) : Int) + (1 : Int))∧NX [u, vV (g 1), t, s, r, q, p, o, M, av, n, m, l, k, h, d, w, u, iV ac, tV, w, M, u, N, aq, u, iV az, vV (g 27), vV (g 28), vV (g 29), vV (g 30), vV (g 31), vV (g 32), vV (g 33), fV, aE, vV (g 36), vV (g 37), vV (g 38), tV, bV aC, o, sV 8 O x.1.1 C, N, aq, iV ao, u, sV 13 aJ 11 aK, u, bV aP, aV [Cs 13 aJ 11 aK, Cb aP], rV 8 O 2 ar 0, c, b, a] [Hc cb 79 [v, Ci aN, Ci aO], U, Q, I, y, P, J, X, Hr true O 61 2 x.1.1 C [fun aQ => Cv (if aQ = ar then (Ws aJ 11 aK) else (Ws (so aQ) (x.1.2 aQ) (sc aQ))), fun aQ => Cb (if aQ = ar then aP else (x.1.4 aQ))], T, S, L, aw, Hr true aJ 3 1 11 aK [fun aQ => Ci (aG aQ)]]) (aM == (0 : Int)))∧(aC = false→bg = bg∧bl = bl∧au = au∧au = au∧∃(aF : CD) (aG : Nat→Option Addr) (aH : Nat→Nat) (aI aJ : Nat→Int), (F = (symRows true 3 aF aG aH)∧true = true∧bo = bo∧31 = 31∧aa = (Row.mk true O 61 2 x.1.1 C [fun aK => Cs 11 (aG aK) (aF.2 aK) (aH aK), fun aK => Cb (aF.4 aK)])∧x.1.1 = aF.1∧W = (Row.mk true A 3 1 x.2 D [fun aK => Ci (aI aK)])∧V = (Row.mk true H 3 1 x.4 E [fun aK => Ci (aJ aK)])∧true = true)∧((arrOk G B R K (AD.mk aF x.2 aI x.4 aJ)) = true∧geoS G B R K)∧∃ aK : Int, (adOk G B R K aj ak aK) = true∧∀(aL : Nat→Nat→Int) (aM aN : Nat→Int), (arrOk G B R K (AD.mk (CD.mk aF.1 aF.2 aL aF.4) x.2 aM x.4 aN)) = true→rng (((j : Nat) : Int) + (1 : Int))∧NX [u, vV (g 1), t, s, r, q, p, o, M, av, n, m, l, k, h, d, w, u, iV ac, tV, w, M, u, N, aq, u, iV az, N, aV [Ci la, Ci lh], av, iV aj, pV 12 au 1, iV ak, uV [], fV, aE, vV (g 36), vV (g 37), vV (g 38), fV, bV aC, vV (g 41), vV (g 42), vV (g 43), vV (g 44), vV (g 45), vV (g 46), vV (g 47), vV (g 48), vV (g 49), vV (g 50), vV (g 51), c, b, a] [Hc cb 79 [v, Ci aA, Ci aB], U, Q, I, y, P, J, X, Z, Hr true A 3 1 x.2 D [fun aO => Ci (aM aO)], Hr true H 3 1 x.4 E [fun aO => Ci (aN aO)], Ho true (symRows true 3 (CD.mk aF.1 aF.2 aL aF.4) aG aH), aw]))) (bV aD)) (az == (0 : Int))) (az == (1 : Int))) [Hd, U, Q, I, y, P, J, X, Z, T, S, L, aw]) (Hc au 41 ap)) (pV 12 au 0)) (Int.toNat ao)) (aV ap)) [Ci aj, Ci ak, Ci al]) (adIx G B R K aj ak al))∧(ag = false→kx (Exit.exit 0) [u, vV (g 1), t, s, r, q, p, o, w, vV (g 9), n, m, l, k, h, d, w, u, iV ac, fV, vV (g 20), vV (g 21), vV (g 22), vV (g 23), vV (g 24), vV (g 25), vV (g 26), vV (g 27), vV (g 28), vV (g 29), vV (g 30), vV (g 31), vV (g 32), vV (g 33), vV (g 34), vV (g 35), vV (g 36), vV (g 37), vV (g 38), vV (g 39), vV (g 40), vV (g 41), vV (g 42), vV (g 43), vV (g 44), vV (g 45), vV (g 46), vV (g 47), vV (g 48), vV (g 49), vV (g 50), vV (g 51), c, b, a] [Hc cb 79 [v, Ci ad, Ci af], U, Q, I, y, P, J, X, Z, T, S, L])) (decide (((j : Nat) : Int) < ac))) (Row.mk true O 61 2 x.1.1 C Y)) (Hr true O 61 2 x.1.1 C Y)) [fun Y => Cs 11 (so Y) (x.1.2 Y) (sc Y), fun Y => Cb (x.1.4 Y)]) (Hc bo 31 [Cs 8 O x.1.1 C, Cs 9 A x.2 D, Cs 10 H x.4 E])) (Row.mk true A 3 1 x.2 D [fun W => Ci (x.3 W)])) (Row.mk true H 3 1 x.4 E [fun V => Ci (x.5 V)])) (Hr false co 0 1 cn 0 z)) (Hr true A 3 1 x.2 D [fun T => Ci (x.3 T)])) (Hr true H 3 1 x.4 E [fun S => Ci (x.5 S)])) (Hc r2 25 [Cl 0, Cl 0, Cl 0, Cl 0])) (Hc bg 25 [Ci G, Ci B, Ci R, Ci K])) (aV [Ci G, Ci B, Ci R, Ci K])) (iV (((j : Nat) : Int) + (1 : Int)))) (Ho true F)) (Hc bl 27 [Ci la, Ci lh])) (Hc r3 27 [Cl 0, Cl 0])) (symRows true 3 x.1 so sc)) [fun z => Ce (cu z)]) (Hc r4 31 [Cz, Cz, Cz])) (iV ((j : Nat) : Int))) (Cs 1 co cn cc)) (pV 0 cb 0)) (pV 2 r2 0)) (pV 3 r3 0)) (pV 4 r4 0)) (pV 5 bg 0)) (pV 6 bl 0)) (pV 7 bo 0)) (vV (g 10))) (vV (g 11))) (vV (g 12))) (vV (g 13))) (vV (g 14))) (vV (g 15))) (vV (g 52))) (vV (g 53))) (vV (g 54))) := by kernel_rfl
theorem j20 {j : Nat} {z : Int} (h : (j : Int) < z) (h2 : inR z 0 (isub 20 1)) : j < 20 := by
  have h3 : z ≤ 19 := h2.2
  omega
theorem day30 {z : Int} (h : inR z 0 (isub 30 1)) : dayC z := by
  have h1 : 0 ≤ z := h.1
  have h2 : z ≤ 29 := h.2
  exact ⟨h1, by omega⟩
theorem ad_ix {G B R K a b c : Int} {x : AD} (hg : geoS G B R K) (hx : arrOk G B R K x = true) (h : adOk G B R K a b c = true) : 0 ≤ adIx G B R K a b c ∧ adIx G B R K a b c < ((x.c.n : Nat) : Int) := by
  obtain ⟨_, _, _, _, h5, h6⟩ := sense_pre hg hx h
  have h0 := h
  simp only [adOk, Bool.and_eq_true] at h
  have h7 := btw_f h.2
  have e : adIx G B R K a b c = (a * R + b) * K + c := by simp [adIx, h0]
  rw [e]
  generalize (a * R + b) * K = z at *
  omega
theorem ad_ixn {G B R K a b c : Int} {x : AD} (hg : geoS G B R K) (hx : arrOk G B R K x = true) (h : adOk G B R K a b c = true) : Int.toNat (adIx G B R K a b c) < x.c.n := by
  have h1 := ad_ix hg hx h
  omega
def csJ (cb : Nat) (co : Option Addr) (cn cc : Nat) (ci cz : Int) (cu : Nat → Int) (G B R K la lh : Int) (r2 r3 r4 bg bl bo : Nat) (j : Nat) : List SV → List Ch → Prop := fun ts ch => ∃ (x : AD) (O A H : Option Addr) (C D E : Nat) (so : Nat → Option Addr) (sc : Nat → Nat) (i1 z1 : Int) (g : Nat → Value), (arrOk G B R K x = true ∧ pos0 i1) ∧ ts = csH cb co cn cc ci cz cu G B R K la lh r2 r3 r4 bg bl bo (.int (j : Int)) g ∧ ch = csT cb co cn cc ci cz cu G B R K la lh r2 r3 r4 bg bl bo x O A H C D E so sc i1 z1
theorem csN {X : Cx} (cb : Nat) (co : Option Addr) (cn cc : Nat) (ci cz : Int) (cu : Nat → Int) (G B R K la lh : Int) (r2 r3 r4 bg bl bo : Nat) {n : Nat} {sn : Nat → Nat} {sy : Nat → Nat → Int} {po : Nat → Bool} {aN hN : Nat} {ag hg : Nat → Int}
    (h : arrOk G B R K (AD.mk ⟨n, sn, sy, po⟩ aN ag hN hg) = true) (O A H : Option Addr) (C D E : Nat) (so : Nat → Option Addr) (sc : Nat → Nat) (i1 z1 : Int) (j : Nat) (ts : List SV) (e : Ch) (hp : pos0 i1) (hts : ts.map SV.den = (csH cb co cn cc ci cz cu G B R K la lh r2 r3 r4 bg bl bo (.int ((j : Int) + 1)) fun d => (ts.getD d .undef).den).map SV.den) : Next X (csJ cb co cn cc ci cz cu G B R K la lh r2 r3 r4 bg bl bo (j + 1)) ts (csT cb co cn cc ci cz cu G B R K la lh r2 r3 r4 bg bl bo (AD.mk ⟨n, sn, sy, po⟩ aN ag hN hg) O A H C D E so sc i1 z1 ++ [e]) :=
  Next.mk (fun g => csH cb co cn cc ci cz cu G B R K la lh r2 r3 r4 bg bl bo (.int ((j + 1 : Nat) : Int)) g) (csT cb co cn cc ci cz cu G B R K la lh r2 r3 r4 bg bl bo (AD.mk ⟨n, sn, sy, po⟩ aN ag hN hg) O A H C D E so sc i1 z1) ⟨_, _, _, _, _, _, _, _, _, _, _, _, ⟨h, hp⟩, rfl, rfl⟩ hts fun w hw => SelS.hs (l := [0, 1, 2, 3, 4, 5, 6, 7, 8, 9, 10, 11]) (by refine ⟨?_, rfl⟩; repeat' (first | exact True.intro | exact symRows_push | exact rfl | refine And.intro ?_ ?_ | (intro i hi; show _ = _; with_reducible rfl) | (intro i hi; show _ = _; rfl) | (intro i hi; show _ = _; simp only [SC.den]; split <;> rfl))) hw
theorem arr_set {G B R K : Int} {x : AD} {k : Nat} {f : Nat → Int} {b : Bool} (h : arrOk G B R K x = true) (hf : symB 11 (fun i => f i) 11 = true) : arrOk G B R K (setA x k 11 f b) = true := by
  simp only [arrOk, Bool.and_eq_true] at h ⊢
  obtain ⟨⟨⟨⟨⟨h1, h2⟩, h3⟩, h4⟩, h5⟩, h6⟩ := h
  refine ⟨⟨⟨⟨⟨h1, h2⟩, h3⟩, h4⟩, allB_mk fun q hq => ?_⟩, h6⟩
  by_cases e : q = k
  · have e1 : (setA x k 11 f b).c.sn q = 11 := by simp [setA, e]
    have e2 : (setA x k 11 f b).c.sy q = fun i => f i := by funext i; simp [setA, e]
    rw [e1, e2]
    exact hf
  · have e1 : (setA x k 11 f b).c.sn q = x.c.sn q := by simp [setA, e]
    have e2 : (setA x k 11 f b).c.sy q = x.c.sy q := by funext i; simp [setA, e]
    rw [e1, e2]
    exact allB_get h5 hq
theorem csW {X : Cx} (cb : Nat) (co : Option Addr) (cn cc : Nat) (ci cz : Int) (cu : Nat → Int) (G B R K la lh : Int) (r2 r3 r4 bg bl bo : Nat) {x : AD} {O A H : Option Addr} {C D E : Nat} {so : Nat → Option Addr} {sc : Nat → Nat} {i1 z1 : Int} {j k : Nat} {ts : List SV} {e : Ch} {f : Nat → Int} {b : Bool} {ro : Option Addr} {rc : Nat}
    (h : arrOk G B R K x = true) (hf : symB 11 (fun i => f i) 11 = true) (hp : pos0 i1) (hts : ts.map SV.den = (csH cb co cn cc ci cz cu G B R K la lh r2 r3 r4 bg bl bo (.int ((j : Int) + 1)) fun d => (ts.getD d .undef).den).map SV.den) :
    Next X (csJ cb co cn cc ci cz cu G B R K la lh r2 r3 r4 bg bl bo (j + 1)) ts (((csT cb co cn cc ci cz cu G B R K la lh r2 r3 r4 bg bl bo x O A H C D E so sc i1 z1).set 8 (.row ⟨true, O, 61, 2, x.c.n, C, [fun i => .val (if i = k then .slice ro 11 rc else .slice (so i) (x.c.sn i) (sc i)), fun i => .bool (if i = k then b else x.c.po i)]⟩)) ++ [e, .row ⟨true, ro, 3, 1, 11, rc, [fun i => .int (f i)]⟩]) :=
  Next.mk (fun g => csH cb co cn cc ci cz cu G B R K la lh r2 r3 r4 bg bl bo (.int ((j + 1 : Nat) : Int)) g) (csT cb co cn cc ci cz cu G B R K la lh r2 r3 r4 bg bl bo (setA x k 11 f b) O A H C D E (fun i => if i = k then ro else so i) (fun i => if i = k then rc else sc i) i1 z1) ⟨_, _, _, _, _, _, _, _, _, _, _, _, ⟨arr_set h hf, hp⟩, rfl, rfl⟩ hts fun w hw => SelS.hs (l := [0, 1, 2, 3, 4, 5, 6, 7, 8, 9, 10, 11]) (by
    refine ⟨?_, rfl⟩
    refine ⟨⟨rfl, rfl, rfl⟩, ⟨rfl, rfl, rfl, rfl, rfl, rfl, fun i hi => rfl, trivial⟩, ⟨rfl, rfl, rfl⟩, ⟨rfl, rfl, rfl⟩, ⟨rfl, rfl, rfl⟩, ⟨rfl, rfl, rfl⟩, ⟨rfl, rfl, rfl⟩, ⟨rfl, rfl, rfl⟩, ⟨rfl, rfl, rfl, rfl, rfl, rfl, fun i hi => ?_, fun i hi => ?_, trivial⟩, ⟨rfl, rfl, rfl, rfl, rfl, rfl, fun i hi => rfl, trivial⟩, ⟨rfl, rfl, rfl, rfl, rfl, rfl, fun i hi => rfl, trivial⟩, ⟨rfl, ?_⟩, trivial⟩
    · show SC.den (.val _) = SC.den (.sl _ _ _ _)
      simp only [SC.den, setA]
      split <;> rfl
    · rfl
    · exact symRows_set) (hw.nestSet 11 13 k rfl rfl rfl (by decide))
def scs (cb : Nat) (co : Option Addr) (cn cc : Nat) (ci cz : Int) (cu : Nat → Int) : LSm := fun ts ch kk => ∃ (G B R K la lh : Int) (r2 r3 r4 bg bl bo : Nat), ∃ (x : AD) (O A H : Option Addr) (C D E : Nat) (so : Nat → Option Addr) (sc : Nat → Nat) (i1 z1 : Int), (ts.map SV.den = (csH cb co cn cc ci cz cu G B R K la lh r2 r3 r4 bg bl bo (.il 0) (fun d => (ts.getD d .undef).den)).map SV.den ∧ SelS ch [0, 1, 2, 3, 4, 5, 6, 11, 7, 8, 9, 10] (csT cb co cn cc ci cz cu G B R K la lh r2 r3 r4 bg bl bo x O A H C D E so sc i1 z1) ∧ (geoS G B R K ∧ arrOk G B R K x = true ∧ pos0 i1)) ∧
    ∀ (x : AD) (O A H : Option Addr) (C D E : Nat) (so : Nat → Option Addr) (sc : Nat → Nat) (i1 z1 : Int) (kx : Int) (g : Nat → Value), arrOk G B R K x = true → pos0 i1 → kk (.exit 0) (csH cb co cn cc ci cz cu G B R K la lh r2 r3 r4 bg bl bo (.int kx) g) (csT cb co cn cc ci cz cu G B R K la lh r2 r3 r4 bg bl bo x O A H C D E so sc i1 z1)
theorem scs_ok (cb : Nat) (co : Option Addr) (cn cc : Nat) (ci cz : Int) (cu : Nat → Int) (hcode : codeC cn cu) (X : Cx) : LoopOK Try.prog X (theLoop Try.f14 0) (scs cb co cn cc ci cz cu) := by
  intro ts ch kk a w hS hT hd hs
  obtain ⟨G, B, R, K, la, lh, r2, r3, r4, bg, bl, bo, x, O, A, H, C, D, E, so, sc, i1, z1, ⟨h1, hch, hg, hx, hp⟩, hk⟩ := hS
  refine loop_ok mixed (E := {tb := [(16, sBelow), (39, sOnce), (36, sAddrW), (37, sTime), (38, sBent), (40, sSense), (23, sAdIx)], D := fun _ => [0]}) ⟨sBelow_ok, sOnce_ok, sAddrW_ok, sTime_S, sBent_ok, sSense_S, sAdIx_S, trivial⟩ (loopsOK_nil _ _ _) 400 20 (csJ cb co cn cc ci cz cu G B R K la lh r2 r3 r4 bg bl bo) ?_ ?_ hT hd hs
  · rintro j _ _ ⟨x, O, A, H, C, D, E, so, sc, i1, z1, g, ⟨hx, hp⟩, rfl, rfl⟩ hj
    refine (@Eq.mpr _ _ (csB cb co cn cc ci cz cu G B R K la lh r2 r3 r4 bg bl bo x O A H C D E so sc i1 z1 j g _ _) ?_)
    dsimp -zeta -proj -iota -eta -failIfUnchanged (etaStruct := .none) only
    obtain ⟨⟨n1, n2⟩, ⟨a1, a2⟩, _⟩ := arr_small hg hx
    have hn2 := (arr_parts hx).2.1
    repeat' (first
      | with_reducible exact rfl
      | exact True.intro
      | with_reducible assumption
      | (refine ⟨j20 (by with_reducible assumption) (by with_reducible assumption), ?_⟩; show Next _ _ _ _; rename_i h9; have h8 := @csN X cb co cn cc ci cz cu G B R K la lh r2 r3 r4 bg bl bo _ _ _ _ _ _ _ _ h9; exact h8 _ _ _ _ _ _ _ _ _ _ _ _ _ (by with_reducible assumption) rfl)
      | (refine ⟨j20 (by with_reducible assumption) (by with_reducible assumption), ?_⟩; show Next _ _ _ _; exact csW cb co cn cc ci cz cu G B R K la lh r2 r3 r4 bg bl bo (by with_reducible assumption) (by with_reducible assumption) (by with_reducible assumption) rfl)
      | (show Next _ _ _ _; refine Next.mk (fun g => csH cb co cn cc ci cz cu G B R K la lh r2 r3 r4 bg bl bo (.int (j : Int)) g) (csT cb co cn cc ci cz cu G B R K la lh r2 r3 r4 bg bl bo x O A H C D E so sc _ _) (hk _ _ _ _ _ _ _ _ _ _ _ _ _ (by with_reducible assumption) (by with_reducible assumption)) rfl fun w hw => hw)
      | (with_reducible exact ad_ix hg hx (by with_reducible assumption))
      | (with_reducible exact ad_ixn hg hx (by with_reducible assumption))
      | (with_reducible exact day30 (by with_reducible assumption))
      | (with_reducible exact j20 (by with_reducible assumption) (by with_reducible assumption))
      | refine And.intro ?_ ?_
      | apply Exists.intro
      | (intro h; exfalso; simp at h; done)
      | (intro h; replace h := of_decide_eq_true h; first | (exfalso; omega) | skip)
      | (intro h; replace h := of_decide_eq_false h; first | (exfalso; omega) | skip)
      | intro _
      | omega)
  · exact Next.mk (fun g => csH cb co cn cc ci cz cu G B R K la lh r2 r3 r4 bg bl bo (.int ((0 : Nat) : Int)) g) _ ⟨_, _, _, _, _, _, _, _, _, _, _, _, ⟨hx, hp⟩, rfl, rfl⟩ h1 fun w hw => hch.hs hw

def idsT3 (v : SV) (ch : List Ch) : List Nat :=
  match v with
  | .tup [_, _, a] => idsArr (.a a) ch
  | _ => []
theorem cas_T (cb : Nat) (co : Option Addr) (cn cc : Nat) (ci cz : Int) (cu : Nat → Int) : (exFn Try.prog {tb := [(33, sSmall), (34, sLims), (35, sNewA)], L := [(5, scs cb co cn cc ci cz cu)], D := fun _ => [2, 3, 4]} 400 Try.f14 ([.a (.c (.ptr 0 cb 0))]) ([.cells cb 79 [.sl 1 co cn cc, .int ci, .int cz], .row ⟨false, co, 0, 1, cn, 0, [fun i => .u8 (cu i)]⟩]) (fun v ch => ∃ (G B R K la lh : Int) (x : AD) (O A H : Option Addr) (C D E : Nat) (so : Nat → Option Addr) (sc : Nat → Nat) (i1 z1 : Int), v.den = .tuple #[.agg #[.int .i64 G, .int .i64 B, .int .i64 R, .int .i64 K], .agg #[.int .i64 la, .int .i64 lh], arrV x O A H C D E] ∧ SelS ch (0 :: idsT3 v ch) (.cells cb 79 [.sl 1 co cn cc, .int i1, .int z1] :: arrO 1 x O A H C D E so sc) ∧ (geoS G B R K ∧ arrOk G B R K x = true) ∧ pos0 i1)) = (
  (fun b : Value => (fun d : SC => (fun g : Value => (fun h : SC => (fun j : List (Nat→SC) => (fun k : Ch => ∀ l m n : Nat, ∃ o : Nat→Int, ((cb = cb∧79 = 79∧co = co∧cn = cn∧j = [fun p => Ce (o p)])∧codeC cn o∧pos0 ci)∧∀ p q r s t u : Int, (fun w : Value => geoS p q r s→pos0 t→∀ y : Nat, y = y∧∃ z : Nat→Int, ((cb = cb∧79 = 79∧co = co∧cn = cn∧j = [fun F => Ce (z F)])∧codeC cn z∧pos0 t)∧∀ F I J M : Int, True→pos0 J→∀ N : Nat, N = N∧y = y∧geoS p q r s∧∀(P : AD) (Q S T : Option Addr) (U V W : Nat) (X : Nat→Option Addr) (Y : Nat→Nat), (fun Z : Value => (arrOk p q r s P) = true→∀ aa : Nat, aa = aa∧∃(ab ac ad af ag ah : Int) (aj ak al am an ao : Nat) (ap : AD) (aq ar au : Option Addr) (av aw ax : Nat) (ay : Nat→Option Addr) (az : Nat→Nat) (aA aB : Int), (fun aC : Ch => (fun aD : List SC => (fun aE : Ch => ([g, b, Wp l 0, Wp m 0, Wp n 0, Wp y 0, Wp N 0, Wp aa 0, Wi 0, b, g, w, g, Wa [Wi F, Wi I], w, Z, b, b, b, b, b, b, b, b, b, b, b, b, b, b, b, b, b, b, b, b, b, b, b, b, b, b, b, b, b, b, b, b, b, b, b, b, b, b, b] = [g, b, Wp aj 0, Wp ak 0, Wp al 0, Wp am 0, Wp an 0, Wp ao 0, Wi 0, b, g, w, g, Wa [Wi F, Wi I], w, Z, b, b, b, b, b, b, b, b, b, b, b, b, b, b, b, b, b, b, b, b, b, b, b, b, b, b, b, b, b, b, b, b, b, b, b, b, b, b, b]∧SelS [Hc cb 79 [h, Ci J, Ci M], k, Hc l 25 [d, d, d, d], Hc m 27 [d, d], Hc n 31 [Cz, Cz, Cz], Hc y 25 [Ci p, Ci q, Ci r, Ci s], Hc N 27 [Ci F, Ci I], Hr true Q 61 2 P.1.1 U [fun aF => Cs 10 (X aF) (P.1.2 aF) (Y aF), fun aF => Cb (P.1.4 aF)], Hr true S 3 1 P.2 V [fun aF => Ci (P.3 aF)], Hr true T 3 1 P.4 W [fun aF => Ci (P.5 aF)], Ho true (symRows true 3 P.1 X Y), Hc aa 31 [Cs 7 Q P.1.1 U, Cs 8 S P.2 V, Cs 9 T P.4 W]] [0, 1, 2, 3, 4, 5, 6, 11, 7, 8, 9, 10] [Hc cb 79 [h, Ci aA, Ci aB], k, Hc aj 25 [d, d, d, d], Hc ak 27 [d, d], Hc al 31 [Cz, Cz, Cz], aE, aC, Hc ao 31 [Cs 8 aq ap.1.1 av, Cs 9 ar ap.2 aw, Cs 10 au ap.4 ax], Hr true aq 61 2 ap.1.1 av [fun aF => Cs 11 (ay aF) (ap.1.2 aF) (az aF), fun aF => Cb (ap.1.4 aF)], Hr true ar 3 1 ap.2 aw [fun aF => Ci (ap.3 aF)], Hr true au 3 1 ap.4 ax [fun aF => Ci (ap.5 aF)], Ho true (symRows true 3 ap.1 ay az)]∧geoS ab ac ad af∧(arrOk ab ac ad af ap) = true∧pos0 aA)∧∀(aF : AD) (aG aH aI : Option Addr) (aJ aK aL : Nat) (aM : Nat→Option Addr) (aN : Nat→Nat) (aO aP aQ : Int) (aR : Nat→Value), (fun aS : List SC => (arrOk ab ac ad af aF) = true→pos0 aO→am = am∧an = an∧ao = ao∧aj = aj∧True∧ak = ak∧True∧al = al∧True∧aj = aj∧ak = ak∧al = al∧∃(aT aU aV aW aX aY : Int) (aZ : AD) (a0 a1 a2 : Option Addr) (a3 a4 a5 : Nat) (a6 : Nat→Option Addr) (a7 : Nat→Nat) (a8 a9 : Int), (Wu [Wa [Wi ab, Wi ac, Wi ad, Wi af], Wa [Wi ag, Wi ah], Wa [Ws aG aF.1.1 aJ, Ws aH aF.2 aK, Ws aI aF.4 aL]]) = (Wu [Wa [Wi aT, Wi aU, Wi aV, Wi aW], Wa [Wi aX, Wi aY], Wa [Ws a0 aZ.1.1 a3, Ws a1 aZ.2 a4, Ws a2 aZ.4 a5]])∧SelS [Hc cb 79 [h, Ci aO, Ci aP], k, Hc aj 25 aD, Hc ak 27 [Ci ag, Ci ah], Hc al 31 aS, aE, aC, Hc ao 31 aS, Hr true aG 61 2 aF.1.1 aJ [fun ba => Cs 11 (aM ba) (aF.1.2 ba) (aN ba), fun ba => Cb (aF.1.4 ba)], Hr true aH 3 1 aF.2 aK [fun ba => Ci (aF.3 ba)], Hr true aI 3 1 aF.4 aL [fun ba => Ci (aF.5 ba)], Ho true (symRows true 3 aF.1 aM aN)] [0, 8, 9, 10, 11] [Hc cb 79 [h, Ci a8, Ci a9], Hr true a0 61 2 aZ.1.1 a3 [fun ba => Cs 4 (a6 ba) (aZ.1.2 ba) (a7 ba), fun ba => Cb (aZ.1.4 ba)], Hr true a1 3 1 aZ.2 a4 [fun ba => Ci (aZ.3 ba)], Hr true a2 3 1 aZ.4 a5 [fun ba => Ci (aZ.5 ba)], Ho true (symRows true 3 aZ.1 a6 a7)]∧(geoS aT aU aV aW∧(arrOk aT aU aV aW aZ) = true)∧pos0 a8) [Cs 8 aG aF.1.1 aJ, Cs 9 aH aF.2 aK, Cs 10 aI aF.4 aL]) (Hc am 25 aD)) [Ci ab, Ci ac, Ci ad, Ci af]) (Hc an 27 [Ci ag, Ci ah])) (Wa [Ws Q P.1.1 U, Ws S P.2 V, Ws T P.4 W])) (Wa [Wi p, Wi q, Wi r, Wi s])) (Hr false co 0 1 cn 0 j)) [fun j => Ce (cu j)]) (Cs 1 co cn cc)) (Wp cb 0)) (Cl 0)) (Wu [])) := by kernel_rfl
theorem cas_any (cb : Nat) (co : Option Addr) (cn cc : Nat) (ci cz : Int) (cu : Nat → Int) (w : World) (hs : HS ⟨w, (Ch.cells cb 79 [.sl 1 co cn cc, .int ci, .int cz]).at⟩ [.cells cb 79 [.sl 1 co cn cc, .int ci, .int cz], .row ⟨false, co, 0, 1, cn, 0, [fun i => .u8 (cu i)]⟩] w) (hcode : codeC cn cu) (hci : pos0 ci) : Calls Try.prog 14 #[.pointer (some ⟨cb, 0, none⟩)] w fun e w' => ∃ (G B R K la lh : Int) (x : AD) (O A H : Option Addr) (C D E : Nat) (so : Nat → Option Addr) (sc : Nat → Nat) (i1 z1 : Int), ((geoS G B R K ∧ arrOk G B R K x = true) ∧ pos0 i1) ∧ e = .returned (.tuple #[.agg #[.int .i64 G, .int .i64 B, .int .i64 R, .int .i64 K], .agg #[.int .i64 la, .int .i64 lh], arrV x O A H C D E]) ∧ HS ⟨w, (Ch.cells cb 79 [.sl 1 co cn cc, .int ci, .int cz]).at⟩ (.cells cb 79 [.sl 1 co cn cc, .int i1, .int z1] :: arrO 1 x O A H C D E so sc) w' := by
  refine fn_ok mixed (E := {tb := [(33, sSmall), (34, sLims), (35, sNewA)], L := [(5, scs cb co cn cc ci cz cu)], D := fun _ => [2, 3, 4]}) ⟨sSmall_ok, sLims_ok, sNewA_S, trivial⟩ Try.func14 (one_loop (by kernel_rfl) (by kernel_rfl) (scs_ok cb co cn cc ci cz cu hcode _)) (@Eq.mpr _ _ (cas_T cb co cn cc ci cz cu) ?_) hs (fun v ch' w' ⟨G, B, R, K, la, lh, x, O, A, H, C, D, E, so, sc, i1, z1, hv, hc, hf, hp⟩ hs => ⟨G, B, R, K, la, lh, x, O, A, H, C, D, E, so, sc, i1, z1, ⟨hf, hp⟩, by rw [hv], hc.hs hs⟩)
  dsimp -zeta -proj -iota -eta -failIfUnchanged (etaStruct := .none) only
  clear hs
  repeat' (first
    | with_reducible exact rfl
    | exact True.intro
    | with_reducible assumption
    | (refine ⟨_, _, _, _, _, _, _, _, _, _, _, _, _, _, _, _, _, _, _, _, _, _, ⟨rfl, ?_, by with_reducible assumption, by with_reducible assumption, by with_reducible assumption⟩, ?_⟩)
    | (refine ⟨_, _, _, _, _, _, _, _, _, _, _, _, _, _, _, _, _, rfl, ?_, ⟨by with_reducible assumption, by with_reducible assumption⟩, by with_reducible assumption⟩)
    | exact (by refine ⟨?_, rfl⟩; repeat' (first | exact True.intro | exact symRows_push | exact rfl | refine And.intro ?_ ?_ | (intro i hi; show _ = _; with_reducible rfl) | (intro i hi; show _ = _; rfl) | (intro i hi; show _ = _; simp only [SC.den]; split <;> rfl)))
    | (show nodupB _ = true; rfl)
    | refine And.intro ?_ ?_
    | apply Exists.intro
    | intro _)
def sCase : Sm := fun args ch kk =>
  match args with
  | [.a (.c (.ptr id b off))] =>
    match off, ch[id]? with
    | 0, some (.cells b' t [.sl j ao n cap, ic, hc]) =>
      match ch[j]?, asI ic, asI hc with
      | some (.row r), some i, some z => ∃ u : Nat → Int, ((b = b' ∧ t = 79 ∧ ao = r.ao ∧ n = r.n ∧ r.fld = [fun i => .u8 (u i)]) ∧ codeC n u ∧ pos0 i) ∧ ∀ (G B R K la lh : Int), ∀ (x : AD), ∀ (O A H : Option Addr), ∀ (C D E : Nat), ∀ (so : Nat → Option Addr), ∀ (sc : Nat → Nat), ∀ (i1 z1 : Int), (geoS G B R K ∧ arrOk G B R K x = true) → pos0 i1 → kk (.tup [.agg [.int G, .int B, .int R, .int K], .agg [.int la, .int lh], arrS ch.length x O A H C D E]) (ch.set id (.cells b 79 [.sl j ao n cap, .int i1, .int z1]) ++ arrO ch.length x O A H C D E so sc) [id]
      | _, _, _ => False
    | _, _ => False
  | _ => False
theorem curArr {X : Cx} {w : World} {b k a : Nat} {ao : Option Addr} {n cap : Nat} {i z : Int} {x : AD} {O A H : Option Addr} {C D E : Nat} {so : Nat → Option Addr} {sc : Nat → Nat} (h : HS X (.cells b 79 [.sl 1 ao n cap, .int i, .int z] :: arrO 1 x O A H C D E so sc) w) : HS X (.cells b 79 [.sl a ao n cap, .int i, .int z] :: arrO k x O A H C D E so sc) w :=
  h.reS ⟨⟨rfl, rfl, rfl⟩, ⟨rfl, rfl, rfl, rfl, rfl, rfl, fun i hi => rfl, fun i hi => rfl, trivial⟩, ⟨rfl, rfl, rfl, rfl, rfl, rfl, fun i hi => rfl, trivial⟩, ⟨rfl, rfl, rfl, rfl, rfl, rfl, fun i hi => rfl, trivial⟩, ⟨rfl, rfl⟩, trivial⟩
theorem sCase_S : SmOK Try.prog 14 sCase := by
  refine smTurnN Try.call14 fun args ch kk w X h0 hs => ?_
  unfold sCase at h0
  split at h0
  · rename_i id b off
    split at h0
    · rename_i b' t j ao n cap ic hc hid
      split at h0
      · rename_i r i z hj hi hz
        obtain ⟨u, ⟨⟨rfl, rfl, hao, hn, hf⟩, hcode, hi0⟩, h0⟩ := h0
        refine ⟨id, _, hid, rfl, ?_⟩
        simp only [List.map_cons, List.map_nil, den_a, den_c]
        exact Calls.mono (cas_any b ao n cap i z u w (hs.cur' hid hj hi hz hao hn hf) hcode hi0) fun e w' ⟨G, B, R, K, la, lh, x, O, A, H, C, D, E, so, sc, i1, z1, ⟨hfa, hp⟩, he, hn'⟩ => ⟨.tup [.agg [.int G, .int B, .int R, .int K], .agg [.int la, .int lh], arrS ch.length x O A H C D E], _, arrO ch.length x O A H C D E so sc, by rw [he]; rfl, curArr hn', at_cells, rfl, h0 G B R K la lh x O A H C D E so sc i1 z1 hfa hp⟩
      · exact h0.elim
    · exact h0.elim
  · exact h0.elim
theorem dra_T (co : Option Addr) (cn cc : Nat) (cu : Nat → Int) : (exFn Try.prog {tb := [(15, sNew), (14, sCase)]} 400 Try.f5 ([.a (.c (.sl 0 co cn cc))]) ([.row ⟨false, co, 0, 1, cn, 0, [fun i => .u8 (cu i)]⟩]) (fun v ch => ∃ (G B R K la lh : Int) (x : AD) (O A H : Option Addr) (C D E : Nat) (so : Nat → Option Addr) (sc : Nat → Nat), v.den = .tuple #[.agg #[.int .i64 G, .int .i64 B, .int .i64 R, .int .i64 K], .agg #[.int .i64 la, .int .i64 lh], arrV x O A H C D E] ∧ SelS ch (idsT3 v ch) (arrO 0 x O A H C D E so sc) ∧ (geoS G B R K ∧ arrOk G B R K x = true))) = (
  ∀ b d g : Nat, ∃ h : Nat→Int, ((co = co∧cn = cn∧[fun j => Ce (cu j)] = [fun j => Ce (h j)])∧codeC cn h)∧∀(j : Nat) (k : Int), ∃ l : Nat→Int, ((j = j∧79 = 79∧co = co∧cn = cn∧[fun m => Ce (cu m)] = [fun m => Ce (l m)])∧codeC cn l∧pos0 (0 : Int))∧∀(m n o p q r : Int) (s : AD) (t u w : Option Addr) (y z F : Nat) (I : Nat→Option Addr) (J : Nat→Nat) (L M : Int), geoS m n o p∧(arrOk m n o p s) = true→pos0 L→b = b∧d = d∧g = g∧b = b∧d = d∧g = g∧∃(N P Q S T U : Int) (V : AD) (W X Y : Option Addr) (Z aa ab : Nat) (ac : Nat→Option Addr) (ad : Nat→Nat), (Wu [Wa [Wi m, Wi n, Wi o, Wi p], Wa [Wi q, Wi r], Wa [Ws t s.1.1 y, Ws u s.2 z, Ws w s.4 F]]) = (Wu [Wa [Wi N, Wi P, Wi Q, Wi S], Wa [Wi T, Wi U], Wa [Ws W V.1.1 Z, Ws X V.2 aa, Ws Y V.4 ab]])∧SelS [Hr false co 0 1 cn 0 [fun af => Ce (cu af)], Hc b 25 [Ci m, Ci n, Ci o, Ci p], Hc d 27 [Ci q, Ci r], Hc g 31 [Cs 5 t s.1.1 y, Cs 6 u s.2 z, Cs 7 w s.4 F], Hc j 79 [Cs 0 co cn cc, Ci L, Ci M], Hr true t 61 2 s.1.1 y [fun af => Cs 8 (I af) (s.1.2 af) (J af), fun af => Cb (s.1.4 af)], Hr true u 3 1 s.2 z [fun af => Ci (s.3 af)], Hr true w 3 1 s.4 F [fun af => Ci (s.5 af)], Ho true (symRows true 3 s.1 I J)] [5, 6, 7, 8] [Hr true W 61 2 V.1.1 Z [fun af => Cs 3 (ac af) (V.1.2 af) (ad af), fun af => Cb (V.1.4 af)], Hr true X 3 1 V.2 aa [fun af => Ci (V.3 af)], Hr true Y 3 1 V.4 ab [fun af => Ci (V.5 af)], Ho true (symRows true 3 V.1 ac ad)]∧geoS N P Q S∧(arrOk N P Q S V) = true) := by kernel_rfl
theorem dra_any (co : Option Addr) (cn cc : Nat) (cu : Nat → Int) (w : World) (hr : Row.sat w ⟨false, co, 0, 1, cn, 0, [fun i => .u8 (cu i)]⟩) (hcode : codeC cn cu) : Calls Try.prog 5 #[.slice co cn cc] w fun e w' => ∃ (G B R K la lh : Int) (x : AD) (O A H : Option Addr) (C D E : Nat) (so : Nat → Option Addr) (sc : Nat → Nat), (geoS G B R K ∧ arrOk G B R K x = true) ∧ e = .returned (.tuple #[.agg #[.int .i64 G, .int .i64 B, .int .i64 R, .int .i64 K], .agg #[.int .i64 la, .int .i64 lh], arrV x O A H C D E]) ∧ HS ⟨w, fun _ => False⟩ (arrO 0 x O A H C D E so sc) w' := by
  refine fn_ok mixed (E := {tb := [(15, sNew), (14, sCase)]}) ⟨sNew_ok, sCase_S, trivial⟩ Try.func5 (fun _ _ => loopsOK_nil _ _ _) (@Eq.mpr _ _ (dra_T co cn cc cu) ?_) (HS.rows (fun _ => False) [⟨false, co, 0, 1, cn, 0, [fun i => .u8 (cu i)]⟩] (by simpa using hr)) (fun v ch' w' ⟨G, B, R, K, la, lh, x, O, A, H, C, D, E, so, sc, hv, hc, hf⟩ hs => ⟨G, B, R, K, la, lh, x, O, A, H, C, D, E, so, sc, hf, by rw [hv], hc.hs hs⟩)
  clear hr
  repeat' (first
    | with_reducible exact rfl
    | exact True.intro
    | with_reducible assumption
    | (refine ⟨_, _, _, _, _, _, _, _, _, _, _, _, _, _, _, rfl, ?_, by with_reducible assumption⟩)
    | exact (by refine ⟨?_, rfl⟩; repeat' (first | exact True.intro | exact symRows_push | exact rfl | refine And.intro ?_ ?_ | (intro i hi; show _ = _; with_reducible rfl) | (intro i hi; show _ = _; rfl) | (intro i hi; show _ = _; simp only [SC.den]; split <;> rfl)))
    | (show nodupB _ = true; rfl)
    | exact (Int.le_refl 0 : pos0 0)
    | refine And.intro ?_ ?_
    | apply Exists.intro
    | intro _)
def sDrA : Sm := fun args ch kk =>
  match args with
  | [.a (.c (.sl j ao n cap))] =>
    match ch[j]? with
    | some (.row r) => ∃ u : Nat → Int, ((ao = r.ao ∧ n = r.n ∧ r.fld = [fun i => .u8 (u i)]) ∧ codeC n u) ∧ ∀ (G B R K la lh : Int), ∀ (x : AD), ∀ (O A H : Option Addr), ∀ (C D E : Nat), ∀ (so : Nat → Option Addr), ∀ (sc : Nat → Nat), (geoS G B R K ∧ arrOk G B R K x = true) → kk (.tup [.agg [.int G, .int B, .int R, .int K], .agg [.int la, .int lh], arrS ch.length x O A H C D E]) (ch ++ arrO ch.length x O A H C D E so sc) []
    | _ => False
  | _ => False
theorem sDrA_S : SmOK Try.prog 5 sDrA := by
  refine smN Try.call5 fun args ch kk w X h0 hs => ?_
  unfold sDrA at h0
  split at h0
  · rename_i j ao n cap
    split at h0
    · rename_i r hj
      obtain ⟨u, ⟨⟨rfl, rfl, hf⟩, hcode⟩, h0⟩ := h0
      simp only [List.map_cons, List.map_nil, den_a, den_c, den_sl]
      exact Calls.mono (dra_any r.ao r.n cap u w (seenAs' (hs.sat j _ hj) hf rfl) hcode) fun e w' ⟨G, B, R, K, la, lh, x, O, A, H, C, D, E, so, sc, hfa, he, hs'⟩ => ⟨.tup [.agg [.int G, .int B, .int R, .int K], .agg [.int la, .int lh], arrS ch.length x O A H C D E], arrO ch.length x O A H C D E so sc, by rw [he]; rfl, arrO_at hs', rfl, h0 G B R K la lh x O A H C D E so sc hfa⟩
    · exact h0.elim
  · exact h0.elim

def flA (x : AD) (k i : Nat) (a : Int) : AD := AD.mk (setSy x.c k i a) x.aN x.ag x.hN x.hg
def flipA (G B R K : Int) (dB dR dC : Int) (p e : Int) (x : AD) : AD := flA x (adIx G B R K dB dR dC).toNat p.toNat (bits .xor .i64 (x.c.sy (adIx G B R K dB dR dC).toNat p.toNat) e)
theorem arr_cap {G B R K : Int} {x : AD} (hg : geoS G B R K) (h : arrOk G B R K x = true) : capA x := by
  obtain ⟨⟨n1, n2⟩, ⟨a1, a2⟩, _⟩ := arr_small hg h
  obtain ⟨_, _, _, hH, p1, _⟩ := arr_parts h
  exact ⟨by omega, by omega, by omega, fun i hi => by have := symQ_n p1 i hi; omega⟩
theorem cap_len {x : AD} (h : capA x) : lenA x := ⟨by have := h.1; omega, by have := h.2.1; omega, by have := h.2.2.1; omega, fun i hi => by have := h.2.2.2 i hi; omega⟩
def sFl : Sm := fun args ch kk =>
  match args with
  | [.a (.agg [c0, c1, c2, c3]), .a c, .a (.agg [e0, e1, e2]), .a (.c f0), .a (.c f1)] =>
    match ints [c0, c1, c2, c3, e0, e1, e2, f0, f1] with
    | some [G, B, R, K, dB, dR, dC, p, e_] => rdA ch c fun x => (geoS G B R K ∧ arrOk G B R K x = true ∧ adOk G B R K dB dR dC = true ∧ btw p 0 10 = true ∧ btw e_ 0 15 = true) ∧ ∀ (Oq Aq Hq : Option Addr) (Cq Dq Ee : Nat) (soq : Nat → Option Addr) (scq : Nat → Nat), kk (.a (arrS ch.length (flipA G B R K dB dR dC p e_ x) Oq Aq Hq Cq Dq Ee)) (ch ++ arrO ch.length ((flipA G B R K dB dR dC p e_ x)) Oq Aq Hq Cq Dq Ee soq scq) []
    | _ => False
  | _ => False
end Go.Proofs.Ytmgjmglmjfjliab
