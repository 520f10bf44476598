/-
  FnLink.
-/
import Derived.Test.YtkfinkolllpcgaaSxFnL1
import Derived.Test.YtkfinkolllpcgaaSxSame
import Derived.Test.YtkfinkolllpcgaaSxRun3
import Derived.Test.YtkfinkolllpcgaaSxCode
namespace Go.Proofs.Ytkfinkolllpcgaa
set_option linter.unusedVariables false
set_option linter.unusedSimpArgs false
open Go.RowKit
set_option maxRecDepth 100000
set_option maxHeartbeats 8000000

theorem link_facts {n m : Nat} {f0 f1 f2 f3 q : Nat → Int} (hf : cmC n f0 f1 f2 f3) (hn : leN n 8) (hq : nzC m q) (hm : leN m 30) :
    runB n f0 f1 f2 f3 m q = true ∧ (runS n f0 f1 f2 f3 m q).cnt = (n : Int) ∧ (runS n f0 f1 f2 f3 m q).rn = n ∧ (∀ i, i < n → (runS n f0 f1 f2 f3 m q).c0 i = f0 i ∧ (runS n f0 f1 f2 f3 m q).c1 i = f1 i ∧ (runS n f0 f1 f2 f3 m q).c2 i = f2 i ∧ (runS n f0 f1 f2 f3 m q).c3 i = f3 i) ∧
    0 ≤ runW n f0 f1 f2 f3 m q ∧ (∀ j, stopC j m (runW n f0 f1 f2 f3 m q) → runW n f0 f1 f2 f3 m q = (n : Int) + badI q j) := by
  have hn' : n ≤ 8 := hn
  have hm' : m ≤ 30 := hm
  have h1 : allB n (frP f0 f1 f2 f3) = true := by
    simp only [allB, List.all_eq_true, List.mem_range]
    intro i hi
    have := (frame_facts (hf i hi)).2.1
    have e : fr f0 f1 f2 f3 i = frameV (f0 i) (f1 i) (f2 i) (f3 i) := rfl
    simp only [frP, e]
    simp
    omega
  have hok : sndOkB n f0 f1 f2 f3 = true := by
    have : n ≤ 40 := by omega
    simp [sndOkB, h1, this]
  have hsn : sndN n f0 f1 f2 f3 = n := by simp [sndN, hok]
  have h2 : allB m (fun i => btw (q i) 0 2097151) = true := by
    simp only [allB, List.all_eq_true, List.mem_range]
    intro i hi
    rcases hq i hi with h | ⟨e, he, h⟩
    · rw [h]; rfl
    · have : 2 ^ e ≤ 2 ^ 14 := Nat.pow_le_pow_right (by decide) (by omega)
      rw [h]
      generalize 2 ^ e = y at this ⊢
      exact btw_mk' (by omega)
  have hro : runOk n f0 f1 f2 f3 m q = true := by simp [runOk, nzB, hok, h2]
  have key := lkGo_link hf hn' hq hm' 300 0 lk0 (LkJ.zero n m f0 f1 f2 f3 q) (by omega)
  have hS : runS n f0 f1 f2 f3 m q = (lkGo n (fr f0 f1 f2 f3) m q 300 0 lk0).2 := by simp only [runS, hro, if_true, hsn]; rfl
  have hW : runW n f0 f1 f2 f3 m q = ((lkGo n (fr f0 f1 f2 f3) m q 300 0 lk0).1 : Int) := by simp only [runW, hro, if_true, hsn]; rfl
  have hB : runB n f0 f1 f2 f3 m q = ((runS n f0 f1 f2 f3 m q).cnt == (n : Int)) := by simp only [runB, hro, Bool.true_and]
  rw [hB, hS, hW]
  generalize (lkGo n (fr f0 f1 f2 f3) m q 300 0 lk0).1 = jj at key
  generalize (lkGo n (fr f0 f1 f2 f3) m q 300 0 lk0).2 = s at key
  obtain ⟨hJ, hrn⟩ := key
  have hc := hJ.cnt
  have hj := hJ.j
  refine ⟨by rw [hc, hrn]; simp, by rw [hc, hrn], hrn, fun i hi => hJ.cs i (by omega), by omega, fun j hst => ?_⟩
  have e : j = min jj m := by
    rcases hst with ⟨h3, h4⟩ | ⟨h3, h4⟩ <;> omega
  rw [e]
  simp only [badI]
  omega
theorem lf_B {n m : Nat} {f0 f1 f2 f3 q : Nat → Int} (hf : cmC n f0 f1 f2 f3) (hn : leN n 8) (hq : nzC m q) (hm : leN m 30) : runB n f0 f1 f2 f3 m q = true := (link_facts hf hn hq hm).1
theorem lf_cnt {n m : Nat} {f0 f1 f2 f3 q : Nat → Int} (hf : cmC n f0 f1 f2 f3) (hn : leN n 8) (hq : nzC m q) (hm : leN m 30) : ((runS n f0 f1 f2 f3 m q).cnt == (n : Int)) = true := by rw [(link_facts hf hn hq hm).2.1]; simp
theorem lf_same {n m : Nat} {f0 f1 f2 f3 q : Nat → Int} (hf : cmC n f0 f1 f2 f3) (hn : leN n 8) (hq : nzC m q) (hm : leN m 30) : sameB (runS n f0 f1 f2 f3 m q).rn (runS n f0 f1 f2 f3 m q).c0 (runS n f0 f1 f2 f3 m q).c1 (runS n f0 f1 f2 f3 m q).c2 (runS n f0 f1 f2 f3 m q).c3 n f0 f1 f2 f3 = true := by
  have h := (link_facts hf hn hq hm).2.2
  rw [h.1]
  exact same_yes h.2.1
theorem lf_pos {n m : Nat} {f0 f1 f2 f3 q : Nat → Int} (hf : cmC n f0 f1 f2 f3) (hn : leN n 8) (hq : nzC m q) (hm : leN m 30) : pos0 (runW n f0 f1 f2 f3 m q) := (link_facts hf hn hq hm).2.2.2.2.1
theorem lf_fin {n m : Nat} {f0 f1 f2 f3 q : Nat → Int} (hf : cmC n f0 f1 f2 f3) (hn : leN n 8) (hq : nzC m q) (hm : leN m 30) {j : Nat} (hs : stopC j m (runW n f0 f1 f2 f3 m q)) : (runW n f0 f1 f2 f3 m q == (n : Int) + badI q j) = true := by
  rw [(link_facts hf hn hq hm).2.2.2.2.2 j hs]; simp
theorem lf_rng {n m j : Nat} {q : Nat → Int} {W : Int} (hn : leN n 8) (hm : leN m 30) (hs : stopC j m W) : rng ((n : Int) + badI q j) := by
  have h1 := badN_le q j
  have hn' : n ≤ 8 := hn
  have hm' : m ≤ 30 := hm
  have hj : j ≤ m := by rcases hs with ⟨h, _⟩ | ⟨h, _⟩ <;> omega
  simp only [badI]
  exact ⟨by omega, by omega⟩
theorem lf_len {n m : Nat} {f0 f1 f2 f3 q : Nat → Int} (hf : cmC n f0 f1 f2 f3) (hn : leN n 8) (hq : nzC m q) (hm : leN m 30) : lenC (runS n f0 f1 f2 f3 m q).rn := by
  rw [(link_facts hf hn hq hm).2.2.1]
  have hn' : n ≤ 8 := hn
  show n ≤ 9223372036854775807
  omega
theorem lf_lenN {n k : Nat} (hn : leN n k) (hk : k ≤ 30 := by omega) : lenC n := by
  have hn' : n ≤ k := hn
  show n ≤ 9223372036854775807
  omega
def sBig : Sm := inlM Try.prog {tb := []} 300 Try.f20
theorem sBig_ok : SmOK Try.prog 20 sBig := inlM_ok mixed (E := {tb := []}) trivial Try.func20 Try.call20 (fun _ _ _ => loopsOK_nil _ _ _)
theorem law_FnLink_T (co : Option Addr) (cn cc : Nat) (cu : Nat → Int) : (exFn Try.prog {tb := [(20, sBig), (21, sDrawC), (31, sDrawN), (22, sPlaces), (33, sRun), (25, sSameC)], L := [(8, sfa co cn cc cu), (14, sfb co cn cc cu)]} 400 Try.f7 ([.a (.c (.sl 0 co cn cc))]) ([.row ⟨false, co, 0, 1, cn, 0, [fun i => .u8 (cu i)]⟩]) (fun v _ => v.den = .bool true)) = (
  (((decide (((cn : Nat) : Int) > (1048576 : Int))) = Bool.true →
  (Value.bool Bool.true) = (Value.bool Bool.true)) ∧
  ((decide (((cn : Nat) : Int) > (1048576 : Int))) = Bool.false →
  (Exists (fun (u0 : (Nat →
   Int)) => (((co = co ∧
   (cn = cn ∧
   [(fun (i1 : Nat) => (SC.u8 (cu i1)))] = [(fun (i2 : Nat) => (SC.u8 (u0 i2)))])) ∧
   (codeC cn u0)) ∧
   (∀ yg3 : Int,
   (∀ yb4 : Int,
   (∀ yr5 : Int,
   (∀ yc6 : Int,
   (∀ zk7 : Int,
   (∀ zb8 : Int,
   (∀ zr9 : Int,
   (∀ zc10 : Int,
   (((geoC yg3 yb4 yr5 yc6) ∧
   (formB zk7 zb8 zr9 zc10) = Bool.true) →
   (∀ b11 : Nat,
    (∀ b12 : Nat,
    (b11 = b11 ∧
    (b12 = b12 ∧
    (Exists (fun (u13 : (Nat →
    Int)) => (((co = co ∧
    (cn = cn ∧
    [(fun (i14 : Nat) => (SC.u8 (cu i14)))] = [(fun (i15 : Nat) => (SC.u8 (u13 i15)))])) ∧
    (codeC cn u13)) ∧
    (∀ zn16 : Nat,
    (∀ zf17 : (Nat →
    Int),
    (∀ ro018 : (Option Addr),
    (∀ rc019 : Nat,
    (((nzC zn16 zf17) ∧
    (leN zn16 30)) →
    (Exists (fun (u20 : (Nat →
     Int)) => (((co = co ∧
     (cn = cn ∧
     [(fun (i21 : Nat) => (SC.u8 (cu i21)))] = [(fun (i22 : Nat) => (SC.u8 (u20 i22)))])) ∧
     (codeC cn u20)) ∧
     (∀ p23 : (Nat →
     Int),
     (∀ ro024 : (Option Addr),
     (∀ rc025 : Nat,
     ((plC p23) →
     (∀ b26 : Nat,
      (Exists (fun (b27 : Nat) => (Exists (fun (bg28 : Nat) => (Exists (fun (bc29 : Nat) => (Exists (fun (G30 : Int) => (Exists (fun (B31 : Int) => (Exists (fun (R32 : Int) => (Exists (fun (C33 : Int) => (Exists (fun (k134 : Int) => (Exists (fun (k235 : Int) => (Exists (fun (k336 : Int) => (Exists (fun (k437 : Int) => (Exists (fun (no38 : (Option Addr)) => (Exists (fun (m39 : Nat) => (Exists (fun (nc40 : Nat) => (Exists (fun (q41 : (Nat →
      Int)) => (Exists (fun (po42 : (Option Addr)) => (Exists (fun (pcp43 : Nat) => (Exists (fun (p44 : (Nat →
      Int)) => (([(Value.slice co cn cc), (Value.tuple (List.toArray [])), (Value.bool Bool.false), (Value.pointer (Option.some (Addr.mk b11 0 Option.none))), (Value.pointer (Option.some (Addr.mk b12 0 Option.none))), (Value.slice ro018 zn16 rc019), (Value.slice ro024 12 rc025), (Value.slice (Option.some (Addr.mk b26 0 Option.none)) 0 0), (Value.int IntKind.i64 (0 : Int)), (Value.tuple (List.toArray [])), (Value.tuple (List.toArray [])), (Value.tuple (List.toArray [])), (Value.tuple (List.toArray [])), (Value.tuple (List.toArray [])), (Value.slice co cn cc), (Value.bool Bool.false), (Value.tuple (List.toArray [(Value.agg (List.toArray [(Value.int IntKind.i64 yg3), (Value.int IntKind.i64 yb4), (Value.int IntKind.i64 yr5), (Value.int IntKind.i64 yc6)])), (Value.agg (List.toArray [(Value.int IntKind.i64 zk7), (Value.int IntKind.i64 zb8), (Value.int IntKind.i64 zr9), (Value.int IntKind.i64 zc10)]))])), (Value.slice co cn cc), (Value.tuple (List.toArray [(Value.agg (List.toArray [(Value.int IntKind.i64 yg3), (Value.int IntKind.i64 yb4), (Value.int IntKind.i64 yr5), (Value.int IntKind.i64 yc6)])), (Value.agg (List.toArray [(Value.int IntKind.i64 zk7), (Value.int IntKind.i64 zb8), (Value.int IntKind.i64 zr9), (Value.int IntKind.i64 zc10)]))])), (Value.agg (List.toArray [(Value.int IntKind.i64 yg3), (Value.int IntKind.i64 yb4), (Value.int IntKind.i64 yr5), (Value.int IntKind.i64 yc6)])), (Value.agg (List.toArray [(Value.int IntKind.i64 zk7), (Value.int IntKind.i64 zb8), (Value.int IntKind.i64 zr9), (Value.int IntKind.i64 zc10)])), (Value.slice co cn cc), (Value.slice ro018 zn16 rc019), (Value.slice co cn cc), (Value.slice ro024 12 rc025), (Value.slice (Option.some (Addr.mk b26 0 Option.none)) 0 0), (Value.tuple (List.toArray [])), (Value.tuple (List.toArray [])), (Value.tuple (List.toArray [])), (Value.tuple (List.toArray [])), (Value.tuple (List.toArray [])), (Value.tuple (List.toArray [])), (Value.tuple (List.toArray [])), (Value.tuple (List.toArray [])), (Value.tuple (List.toArray [])), (Value.tuple (List.toArray [])), (Value.tuple (List.toArray [])), (Value.tuple (List.toArray [])), (Value.tuple (List.toArray [])), (Value.tuple (List.toArray [])), (Value.tuple (List.toArray [])), (Value.tuple (List.toArray [])), (Value.tuple (List.toArray [])), (Value.tuple (List.toArray [])), (Value.tuple (List.toArray [])), (Value.tuple (List.toArray [])), (Value.tuple (List.toArray [])), (Value.tuple (List.toArray [])), (Value.tuple (List.toArray [])), (Value.tuple (List.toArray [])), (Value.tuple (List.toArray [])), (Value.tuple (List.toArray [])), (Value.tuple (List.toArray [])), (Value.tuple (List.toArray [])), (Value.tuple (List.toArray [])), (Value.tuple (List.toArray [])), (Value.tuple (List.toArray [])), (Value.tuple (List.toArray [])), (Value.tuple (List.toArray [])), (Value.tuple (List.toArray [])), (Value.tuple (List.toArray [])), (Value.tuple (List.toArray [])), (Value.tuple (List.toArray [])), (Value.tuple (List.toArray [])), (Value.tuple (List.toArray [])), (Value.tuple (List.toArray [])), (Value.tuple (List.toArray [])), (Value.tuple (List.toArray [])), (Value.tuple (List.toArray [])), (Value.tuple (List.toArray [])), (Value.tuple (List.toArray [])), (Value.tuple (List.toArray [])), (Value.tuple (List.toArray [])), (Value.tuple (List.toArray [])), (Value.tuple (List.toArray [])), (Value.tuple (List.toArray [])), (Value.tuple (List.toArray [])), (Value.tuple (List.toArray [])), (Value.tuple (List.toArray [])), (Value.tuple (List.toArray [])), (Value.tuple (List.toArray [])), (Value.tuple (List.toArray [])), (Value.tuple (List.toArray [])), (Value.tuple (List.toArray [])), (Value.tuple (List.toArray [])), (Value.tuple (List.toArray [])), (Value.tuple (List.toArray [])), (Value.tuple (List.toArray [])), (Value.tuple (List.toArray [])), (Value.tuple (List.toArray [])), (Value.tuple (List.toArray [])), (Value.tuple (List.toArray [])), (Value.tuple (List.toArray [])), (Value.tuple (List.toArray [])), (Value.tuple (List.toArray [])), (Value.tuple (List.toArray [])), (Value.tuple (List.toArray [])), (Value.tuple (List.toArray [])), (Value.tuple (List.toArray [])), (Value.tuple (List.toArray [])), (Value.tuple (List.toArray []))] = [(Value.slice co cn cc), (Value.tuple (List.toArray [])), (Value.bool Bool.false), (Value.pointer (Option.some (Addr.mk bg28 0 Option.none))), (Value.pointer (Option.some (Addr.mk bc29 0 Option.none))), (Value.slice no38 m39 nc40), (Value.slice po42 12 pcp43), (Value.slice (Option.some (Addr.mk b27 0 Option.none)) 0 0), (Value.int IntKind.i64 (0 : Int)), (Value.tuple (List.toArray [])), (Value.tuple (List.toArray [])), (Value.tuple (List.toArray [])), (Value.tuple (List.toArray [])), (Value.tuple (List.toArray [])), (Value.slice co cn cc), (Value.bool Bool.false), (Value.tuple (List.toArray [(Value.agg (List.toArray [(Value.int IntKind.i64 yg3), (Value.int IntKind.i64 yb4), (Value.int IntKind.i64 yr5), (Value.int IntKind.i64 yc6)])), (Value.agg (List.toArray [(Value.int IntKind.i64 zk7), (Value.int IntKind.i64 zb8), (Value.int IntKind.i64 zr9), (Value.int IntKind.i64 zc10)]))])), (Value.slice co cn cc), (Value.tuple (List.toArray [(Value.agg (List.toArray [(Value.int IntKind.i64 yg3), (Value.int IntKind.i64 yb4), (Value.int IntKind.i64 yr5), (Value.int IntKind.i64 yc6)])), (Value.agg (List.toArray [(Value.int IntKind.i64 zk7), (Value.int IntKind.i64 zb8), (Value.int IntKind.i64 zr9), (Value.int IntKind.i64 zc10)]))])), (Value.agg (List.toArray [(Value.int IntKind.i64 yg3), (Value.int IntKind.i64 yb4), (Value.int IntKind.i64 yr5), (Value.int IntKind.i64 yc6)])), (Value.agg (List.toArray [(Value.int IntKind.i64 zk7), (Value.int IntKind.i64 zb8), (Value.int IntKind.i64 zr9), (Value.int IntKind.i64 zc10)])), (Value.slice co cn cc), (Value.slice ro018 zn16 rc019), (Value.slice co cn cc), (Value.slice ro024 12 rc025), (Value.slice (Option.some (Addr.mk b26 0 Option.none)) 0 0), (Value.tuple (List.toArray [])), (Value.tuple (List.toArray [])), (Value.tuple (List.toArray [])), (Value.tuple (List.toArray [])), (Value.tuple (List.toArray [])), (Value.tuple (List.toArray [])), (Value.tuple (List.toArray [])), (Value.tuple (List.toArray [])), (Value.tuple (List.toArray [])), (Value.tuple (List.toArray [])), (Value.tuple (List.toArray [])), (Value.tuple (List.toArray [])), (Value.tuple (List.toArray [])), (Value.tuple (List.toArray [])), (Value.tuple (List.toArray [])), (Value.tuple (List.toArray [])), (Value.tuple (List.toArray [])), (Value.tuple (List.toArray [])), (Value.tuple (List.toArray [])), (Value.tuple (List.toArray [])), (Value.tuple (List.toArray [])), (Value.tuple (List.toArray [])), (Value.tuple (List.toArray [])), (Value.tuple (List.toArray [])), (Value.tuple (List.toArray [])), (Value.tuple (List.toArray [])), (Value.tuple (List.toArray [])), (Value.tuple (List.toArray [])), (Value.tuple (List.toArray [])), (Value.tuple (List.toArray [])), (Value.tuple (List.toArray [])), (Value.tuple (List.toArray [])), (Value.tuple (List.toArray [])), (Value.tuple (List.toArray [])), (Value.tuple (List.toArray [])), (Value.tuple (List.toArray [])), (Value.tuple (List.toArray [])), (Value.tuple (List.toArray [])), (Value.tuple (List.toArray [])), (Value.tuple (List.toArray [])), (Value.tuple (List.toArray [])), (Value.tuple (List.toArray [])), (Value.tuple (List.toArray [])), (Value.tuple (List.toArray [])), (Value.tuple (List.toArray [])), (Value.tuple (List.toArray [])), (Value.tuple (List.toArray [])), (Value.tuple (List.toArray [])), (Value.tuple (List.toArray [])), (Value.tuple (List.toArray [])), (Value.tuple (List.toArray [])), (Value.tuple (List.toArray [])), (Value.tuple (List.toArray [])), (Value.tuple (List.toArray [])), (Value.tuple (List.toArray [])), (Value.tuple (List.toArray [])), (Value.tuple (List.toArray [])), (Value.tuple (List.toArray [])), (Value.tuple (List.toArray [])), (Value.tuple (List.toArray [])), (Value.tuple (List.toArray [])), (Value.tuple (List.toArray [])), (Value.tuple (List.toArray [])), (Value.tuple (List.toArray [])), (Value.tuple (List.toArray [])), (Value.tuple (List.toArray [])), (Value.tuple (List.toArray [])), (Value.tuple (List.toArray [])), (Value.tuple (List.toArray [])), (Value.tuple (List.toArray [])), (Value.tuple (List.toArray [])), (Value.tuple (List.toArray [])), (Value.tuple (List.toArray [])), (Value.tuple (List.toArray [])), (Value.tuple (List.toArray []))] ∧
      ([(Ch.row (Row.mk Bool.false co 0 1 cn 0 [(fun (i45 : Nat) => (SC.u8 (cu i45)))])), (Ch.cells b11 39 [(SC.int yg3), (SC.int yb4), (SC.int yr5), (SC.int yc6)]), (Ch.cells b12 41 [(SC.int zk7), (SC.int zb8), (SC.int zr9), (SC.int zc10)]), (Ch.row (Row.mk Bool.true ro018 3 1 zn16 rc019 [(fun (i46 : Nat) => (SC.int (zf17 i46)))])), (Ch.row (Row.mk Bool.true ro024 3 1 12 rc025 [(fun (i47 : Nat) => (SC.int (p23 i47)))])), (Ch.cells b26 41 [])] = [(Ch.row (Row.mk Bool.false co 0 1 cn 0 [(fun (i48 : Nat) => (SC.u8 (cu i48)))])), (Ch.cells bg28 39 [(SC.int G30), (SC.int B31), (SC.int R32), (SC.int C33)]), (Ch.cells bc29 41 [(SC.int k134), (SC.int k235), (SC.int k336), (SC.int k437)]), (Ch.row (Row.mk Bool.true no38 3 1 m39 nc40 [(fun (i49 : Nat) => (SC.int (q41 i49)))])), (Ch.row (Row.mk Bool.true po42 3 1 12 pcp43 [(fun (i50 : Nat) => (SC.int (p44 i50)))])), (Ch.cells b27 41 [])] ∧
      ((geoC G30 B31 R32 C33) ∧
      (plC p44)))) ∧
      (∀ g51 : (Nat →
      Value),
      (∀ ao52 : (Option Addr),
      (∀ j53 : Nat,
      (∀ cap54 : Nat,
      (∀ f055 : (Nat →
      Int),
      (∀ f156 : (Nat →
      Int),
      (∀ f257 : (Nat →
      Int),
      (∀ f358 : (Nat →
      Int),
      (((cmC j53 f055 f156 f257 f358) ∧
      (leN j53 8)) →
      (Exists (fun (g059 : (Nat →
       Int)) => (Exists (fun (g160 : (Nat →
       Int)) => (Exists (fun (g261 : (Nat →
       Int)) => (Exists (fun (g362 : (Nat →
       Int)) => ((ao52 = ao52 ∧
       (j53 = j53 ∧
       [(fun (i63 : Nat) => (SC.int (f055 i63))), (fun (i64 : Nat) => (SC.int (f156 i64))), (fun (i65 : Nat) => (SC.int (f257 i65))), (fun (i66 : Nat) => (SC.int (f358 i66)))] = [(fun (i67 : Nat) => (SC.int (g059 i67))), (fun (i68 : Nat) => (SC.int (g160 i68))), (fun (i69 : Nat) => (SC.int (g261 i69))), (fun (i70 : Nat) => (SC.int (g362 i70)))])) ∧
       (Exists (fun (g071 : (Nat →
       Int)) => ((no38 = no38 ∧
       (m39 = m39 ∧
       [(fun (i72 : Nat) => (SC.int (q41 i72)))] = [(fun (i73 : Nat) => (SC.int (g071 i73)))])) ∧
       (((lenC j53) ∧
       (lenC m39)) ∧
       (∀ ro074 : (Option Addr),
       (∀ rc075 : Nat,
       (∀ b76 : Nat,
       (b76 = b76 ∧
       (Exists (fun (bg77 : Nat) => (Exists (fun (bc78 : Nat) => (Exists (fun (G79 : Int) => (Exists (fun (B80 : Int) => (Exists (fun (R81 : Int) => (Exists (fun (C82 : Int) => (Exists (fun (k183 : Int) => (Exists (fun (k284 : Int) => (Exists (fun (k385 : Int) => (Exists (fun (k486 : Int) => (Exists (fun (no87 : (Option Addr)) => (Exists (fun (m88 : Nat) => (Exists (fun (nc89 : Nat) => (Exists (fun (q90 : (Nat →
       Int)) => (Exists (fun (po91 : (Option Addr)) => (Exists (fun (pcp92 : Nat) => (Exists (fun (p93 : (Nat →
       Int)) => (Exists (fun (ao94 : (Option Addr)) => (Exists (fun (n95 : Nat) => (Exists (fun (cap96 : Nat) => (Exists (fun (f097 : (Nat →
       Int)) => (Exists (fun (f198 : (Nat →
       Int)) => (Exists (fun (f299 : (Nat →
       Int)) => (Exists (fun (f3100 : (Nat →
       Int)) => (Exists (fun (ro101 : (Option Addr)) => (Exists (fun (rc102 : Nat) => (Exists (fun (s103 : LkD) => (Exists (fun (b9104 : Nat) => (Exists (fun (W105 : Int) => (Exists (fun (ok106 : Bool) => (([(Value.slice co cn cc), (g51 1), (g51 2), (Value.pointer (Option.some (Addr.mk bg28 0 Option.none))), (Value.pointer (Option.some (Addr.mk bc29 0 Option.none))), (Value.slice no38 m39 nc40), (Value.slice po42 12 pcp43), (Value.slice ao52 j53 cap54), (Value.int IntKind.i64 ((j53 : Nat) : Int)), (Value.pointer (Option.some (Addr.mk b76 0 Option.none))), (Value.int IntKind.i64 (runW j53 g059 g160 g261 g362 m39 g071)), (Value.bool (runB j53 g059 g160 g261 g362 m39 g071)), (Value.int IntKind.i64 (0 : Int)), (Value.int IntKind.i64 (0 : Int)), (g51 14), (g51 15), (g51 16), (g51 17), (g51 18), (g51 19), (g51 20), (g51 21), (g51 22), (g51 23), (g51 24), (g51 25), (g51 26), (g51 27), (g51 28), (g51 29), (g51 30), (g51 31), (g51 32), (g51 33), (g51 34), (g51 35), (g51 36), (g51 37), (g51 38), (g51 39), (g51 40), (g51 41), (g51 42), (g51 43), (g51 44), (g51 45), (g51 46), (g51 47), (g51 48), (g51 49), (g51 50), (g51 51), (g51 52), (g51 53), (Value.tuple (List.toArray [(Value.agg (List.toArray [(Value.int IntKind.i64 ((runS j53 g059 g160 g261 g362 m39 g071)).2), (Value.slice ro074 ((runS j53 g059 g160 g261 g362 m39 g071)).3 rc075)])), (Value.int IntKind.i64 (runW j53 g059 g160 g261 g362 m39 g071)), (Value.bool (runB j53 g059 g160 g261 g362 m39 g071))])), (Value.slice ao52 j53 cap54), (Value.slice no38 m39 nc40), (Value.tuple (List.toArray [(Value.agg (List.toArray [(Value.int IntKind.i64 ((runS j53 g059 g160 g261 g362 m39 g071)).2), (Value.slice ro074 ((runS j53 g059 g160 g261 g362 m39 g071)).3 rc075)])), (Value.int IntKind.i64 (runW j53 g059 g160 g261 g362 m39 g071)), (Value.bool (runB j53 g059 g160 g261 g362 m39 g071))])), (Value.agg (List.toArray [(Value.int IntKind.i64 ((runS j53 g059 g160 g261 g362 m39 g071)).2), (Value.slice ro074 ((runS j53 g059 g160 g261 g362 m39 g071)).3 rc075)])), (Value.int IntKind.i64 (runW j53 g059 g160 g261 g362 m39 g071)), (Value.bool (runB j53 g059 g160 g261 g362 m39 g071)), (g51 61), (g51 62), (g51 63), (g51 64), (g51 65), (g51 66), (g51 67), (g51 68), (g51 69), (g51 70), (g51 71), (g51 72), (g51 73), (g51 74), (g51 75), (g51 76), (g51 77), (g51 78), (g51 79), (g51 80), (g51 81), (g51 82), (g51 83), (g51 84), (g51 85), (g51 86), (g51 87), (g51 88), (g51 89), (g51 90), (g51 91), (g51 92), (g51 93), (g51 94), (g51 95), (g51 96), (g51 97), (g51 98), (g51 99), (g51 100)] = [(Value.slice co cn cc), (g51 1), (g51 2), (Value.pointer (Option.some (Addr.mk bg28 0 Option.none))), (Value.pointer (Option.some (Addr.mk bc29 0 Option.none))), (Value.slice no87 m88 nc89), (Value.slice po42 12 pcp43), (Value.slice ao94 n95 cap96), (Value.int IntKind.i64 ((j53 : Nat) : Int)), (Value.pointer (Option.some (Addr.mk b9104 0 Option.none))), (Value.int IntKind.i64 W105), (Value.bool ok106), (Value.int IntKind.i64 (0 : Int)), (Value.int IntKind.i64 (0 : Int)), (g51 14), (g51 15), (g51 16), (g51 17), (g51 18), (g51 19), (g51 20), (g51 21), (g51 22), (g51 23), (g51 24), (g51 25), (g51 26), (g51 27), (g51 28), (g51 29), (g51 30), (g51 31), (g51 32), (g51 33), (g51 34), (g51 35), (g51 36), (g51 37), (g51 38), (g51 39), (g51 40), (g51 41), (g51 42), (g51 43), (g51 44), (g51 45), (g51 46), (g51 47), (g51 48), (g51 49), (g51 50), (g51 51), (g51 52), (g51 53), (Value.tuple (List.toArray [(Value.agg (List.toArray [(Value.int IntKind.i64 ((runS j53 g059 g160 g261 g362 m39 g071)).2), (Value.slice ro074 ((runS j53 g059 g160 g261 g362 m39 g071)).3 rc075)])), (Value.int IntKind.i64 (runW j53 g059 g160 g261 g362 m39 g071)), (Value.bool (runB j53 g059 g160 g261 g362 m39 g071))])), (Value.slice ao52 j53 cap54), (Value.slice no38 m39 nc40), (Value.tuple (List.toArray [(Value.agg (List.toArray [(Value.int IntKind.i64 ((runS j53 g059 g160 g261 g362 m39 g071)).2), (Value.slice ro074 ((runS j53 g059 g160 g261 g362 m39 g071)).3 rc075)])), (Value.int IntKind.i64 (runW j53 g059 g160 g261 g362 m39 g071)), (Value.bool (runB j53 g059 g160 g261 g362 m39 g071))])), (Value.agg (List.toArray [(Value.int IntKind.i64 ((runS j53 g059 g160 g261 g362 m39 g071)).2), (Value.slice ro074 ((runS j53 g059 g160 g261 g362 m39 g071)).3 rc075)])), (Value.int IntKind.i64 (runW j53 g059 g160 g261 g362 m39 g071)), (Value.bool (runB j53 g059 g160 g261 g362 m39 g071)), (g51 61), (g51 62), (g51 63), (g51 64), (g51 65), (g51 66), (g51 67), (g51 68), (g51 69), (g51 70), (g51 71), (g51 72), (g51 73), (g51 74), (g51 75), (g51 76), (g51 77), (g51 78), (g51 79), (g51 80), (g51 81), (g51 82), (g51 83), (g51 84), (g51 85), (g51 86), (g51 87), (g51 88), (g51 89), (g51 90), (g51 91), (g51 92), (g51 93), (g51 94), (g51 95), (g51 96), (g51 97), (g51 98), (g51 99), (g51 100)] ∧
       ([(Ch.row (Row.mk Bool.false co 0 1 cn 0 [(fun (i107 : Nat) => (SC.u8 (cu i107)))])), (Ch.cells bg28 39 [(SC.int G30), (SC.int B31), (SC.int R32), (SC.int C33)]), (Ch.cells bc29 41 [(SC.int k134), (SC.int k235), (SC.int k336), (SC.int k437)]), (Ch.row (Row.mk Bool.true no38 3 1 m39 nc40 [(fun (i108 : Nat) => (SC.int (q41 i108)))])), (Ch.row (Row.mk Bool.true po42 3 1 12 pcp43 [(fun (i109 : Nat) => (SC.int (p44 i109)))])), (Ch.row (Row.mk Bool.true ao52 41 4 j53 cap54 [(fun (i110 : Nat) => (SC.int (f055 i110))), (fun (i111 : Nat) => (SC.int (f156 i111))), (fun (i112 : Nat) => (SC.int (f257 i112))), (fun (i113 : Nat) => (SC.int (f358 i113)))])), (Ch.row (Row.mk Bool.true ro074 41 4 ((runS j53 g059 g160 g261 g362 m39 g071)).3 rc075 [(fun (i114 : Nat) => (SC.int (((runS j53 g059 g160 g261 g362 m39 g071)).4 i114))), (fun (i115 : Nat) => (SC.int (((runS j53 g059 g160 g261 g362 m39 g071)).5 i115))), (fun (i116 : Nat) => (SC.int (((runS j53 g059 g160 g261 g362 m39 g071)).6 i116))), (fun (i117 : Nat) => (SC.int (((runS j53 g059 g160 g261 g362 m39 g071)).7 i117)))])), (Ch.cells b76 48 [(SC.int ((runS j53 g059 g160 g261 g362 m39 g071)).2), (SC.sl 6 ro074 ((runS j53 g059 g160 g261 g362 m39 g071)).3 rc075)])] = [(Ch.row (Row.mk Bool.false co 0 1 cn 0 [(fun (i118 : Nat) => (SC.u8 (cu i118)))])), (Ch.cells bg77 39 [(SC.int G79), (SC.int B80), (SC.int R81), (SC.int C82)]), (Ch.cells bc78 41 [(SC.int k183), (SC.int k284), (SC.int k385), (SC.int k486)]), (Ch.row (Row.mk Bool.true no87 3 1 m88 nc89 [(fun (i119 : Nat) => (SC.int (q90 i119)))])), (Ch.row (Row.mk Bool.true po91 3 1 12 pcp92 [(fun (i120 : Nat) => (SC.int (p93 i120)))])), (Ch.row (Row.mk Bool.true ao94 41 4 n95 cap96 [(fun (i121 : Nat) => (SC.int (f097 i121))), (fun (i122 : Nat) => (SC.int (f198 i122))), (fun (i123 : Nat) => (SC.int (f299 i123))), (fun (i124 : Nat) => (SC.int (f3100 i124)))])), (Ch.row (Row.mk Bool.true ro101 41 4 (s103).3 rc102 [(fun (i125 : Nat) => (SC.int ((s103).4 i125))), (fun (i126 : Nat) => (SC.int ((s103).5 i126))), (fun (i127 : Nat) => (SC.int ((s103).6 i127))), (fun (i128 : Nat) => (SC.int ((s103).7 i128)))])), (Ch.cells b9104 48 [(SC.int (s103).2), (SC.sl 6 ro101 (s103).3 rc102)])] ∧
       ((pos0 W105) ∧
       (leN m88 30)))) ∧
       (∀ g129 : (Nat →
       Value),
       (∀ j130 : Nat,
       ((stopC j130 m88 W105) →
       ((ok106 = Bool.true →
        (b9104 = b9104 ∧
         (Exists (fun (g0131 : (Nat →
         Int)) => (Exists (fun (g1132 : (Nat →
         Int)) => (Exists (fun (g2133 : (Nat →
         Int)) => (Exists (fun (g3134 : (Nat →
         Int)) => ((ro101 = ro101 ∧
         ((s103).3 = (s103).3 ∧
         [(fun (i135 : Nat) => (SC.int ((s103).4 i135))), (fun (i136 : Nat) => (SC.int ((s103).5 i136))), (fun (i137 : Nat) => (SC.int ((s103).6 i137))), (fun (i138 : Nat) => (SC.int ((s103).7 i138)))] = [(fun (i139 : Nat) => (SC.int (g0131 i139))), (fun (i140 : Nat) => (SC.int (g1132 i140))), (fun (i141 : Nat) => (SC.int (g2133 i141))), (fun (i142 : Nat) => (SC.int (g3134 i142)))])) ∧
         (Exists (fun (g0143 : (Nat →
         Int)) => (Exists (fun (g1144 : (Nat →
         Int)) => (Exists (fun (g2145 : (Nat →
         Int)) => (Exists (fun (g3146 : (Nat →
         Int)) => ((ao94 = ao94 ∧
         (n95 = n95 ∧
         [(fun (i147 : Nat) => (SC.int (f097 i147))), (fun (i148 : Nat) => (SC.int (f198 i148))), (fun (i149 : Nat) => (SC.int (f299 i149))), (fun (i150 : Nat) => (SC.int (f3100 i150)))] = [(fun (i151 : Nat) => (SC.int (g0143 i151))), (fun (i152 : Nat) => (SC.int (g1144 i152))), (fun (i153 : Nat) => (SC.int (g2145 i153))), (fun (i154 : Nat) => (SC.int (g3146 i154)))])) ∧
         ((lenC (s103).3) ∧
         (((sameB (s103).3 g0131 g1132 g2133 g3134 n95 g0143 g1144 g2145 g3146) = Bool.true →
         (b9104 = b9104 ∧
          ((((s103).2 == ((n95 : Nat) : Int)) = Bool.true →
          ((rng (((n95 : Nat) : Int) + (badI q90 j130))) ∧
           (Value.bool (W105 == (((n95 : Nat) : Int) + (badI q90 j130)))) = (Value.bool Bool.true))) ∧
          (((s103).2 == ((n95 : Nat) : Int)) = Bool.false →
          (Value.bool Bool.false) = (Value.bool Bool.true))))) ∧
         ((sameB (s103).3 g0131 g1132 g2133 g3134 n95 g0143 g1144 g2145 g3146) = Bool.false →
         (Value.bool Bool.false) = (Value.bool Bool.true)))))))))))))))))))))))) ∧
        (ok106 = Bool.false →
        (Value.bool Bool.false) = (Value.bool Bool.true))))))))))))))))))))))))))))))))))))))))))))))))))))))))))))))))))))))))))))))))))))))))))))))))))))))))))))))))))))))))))))))))))))))))))))))))))))))))))))))))))))) := by kernel_rfl
theorem law_FnLink_any (co : Option Addr) (cn cc : Nat) (cu : Nat → Int) (W : World) (hr : Row.sat W ⟨false, co, 0, 1, cn, 0, [fun i => .u8 (cu i)]⟩) (hu : ∀ i, 0 ≤ cu i ∧ cu i ≤ 255) : Calls Try.prog 7 #[.slice co cn cc] W fun e W' => e = .returned (.bool true) ∧ Below W.heap.size W W' := by
  refine fn_ok mixed (E := {tb := [(20, sBig), (21, sDrawC), (31, sDrawN), (22, sPlaces), (33, sRun), (25, sSameC)], L := [(8, sfa co cn cc cu), (14, sfb co cn cc cu)]}) ⟨sBig_ok, sDrawC_ok, sDrawN_ok, sPlaces_ok, sRun_I, sSameC_ok, trivial⟩ Try.func7 (two_loops (by kernel_rfl) (by omega) (fa_ok co cn cc cu _) (fb_ok co cn cc cu _)) (@Eq.mpr _ _ (law_FnLink_T co cn cc cu) ?_) (HS.rows (fun _ => False) [⟨false, co, 0, 1, cn, 0, [fun i => .u8 (cu i)]⟩] (by simpa using hr)) (fun v ch' w' hk hs => ⟨by rw [hk], hs.below⟩)
  clear hr
  by_cases hle : cn ≤ 1048576
  · have hcode : codeC cn cu := ⟨hle, hu⟩
    refine ⟨fun h => by exfalso; replace h := of_decide_eq_true h; omega, fun h => ?_⟩
    clear h
    repeat' (first
      | with_reducible exact rfl
      | exact True.intro
      | with_reducible assumption
      | exact lf_pos (by with_reducible assumption) (by with_reducible assumption) (by with_reducible assumption) (by with_reducible assumption)
      | exact lf_rng (by with_reducible assumption) (by with_reducible assumption) (by with_reducible assumption)
      | exact lf_len (by with_reducible assumption) (by with_reducible assumption) (by with_reducible assumption) (by with_reducible assumption)
      | exact lf_lenN (by with_reducible assumption)
      | exact congrArg Value.bool (lf_fin (by with_reducible assumption) (by with_reducible assumption) (by with_reducible assumption) (by with_reducible assumption) (by with_reducible assumption))
      | (intro h; exfalso; rw [lf_B (by with_reducible assumption) (by with_reducible assumption) (by with_reducible assumption) (by with_reducible assumption)] at h; cases h; done)
      | (intro h; exfalso; rw [lf_cnt (by with_reducible assumption) (by with_reducible assumption) (by with_reducible assumption) (by with_reducible assumption)] at h; cases h; done)
      | (intro h; exfalso; rw [lf_same (by with_reducible assumption) (by with_reducible assumption) (by with_reducible assumption) (by with_reducible assumption)] at h; cases h; done)
      | refine And.intro ?_ ?_
      | apply Exists.intro
      | (intro (h : _ ∧ _); obtain ⟨_, _⟩ := h)
      | intro _)
    all_goals trace_state
  · refine ⟨fun _ => rfl, fun h => ?_⟩
    replace h := of_decide_eq_false h
    exfalso
    omega
theorem walk_FnLink (ao : Option Addr) (len cap : Nat) (w : World) (h : Has w (.slice .u8) [.slice ao len cap]) : Calls Try.prog 7 #[.slice ao len cap] w fun e w' => e = .returned (.bool true) ∧ Below w.heap.size w w' := by
  obtain ⟨u, hu, hr⟩ := row_u8_of_has h
  exact law_FnLink_any ao len cap u w hr hu
end Go.Proofs.Ytkfinkolllpcgaa
