/-
  Trees made, checked, bumped.
-/
import Derived.Test.YtppeocfcdeiemaaSxTree2
namespace Go.Proofs.Ytppeocfcdeiemaa
set_option linter.unusedVariables false
set_option linter.unusedSimpArgs false
open Go.RowKit
set_option maxRecDepth 100000

def nx : SC → Option (Nat × Int)
  | .il (.ofNat m) => some (m, .ofNat m)
  | .int z => some (tn z, z)
  | _ => none
def nx4 : SC → Option (Nat × Int)
  | .il (.ofNat m) => some (m / 4, .ofNat (m / 4))
  | .int z => some (tn (idiv z 4), idiv z 4)
  | _ => none
theorem nx_ok {x : SC} {m : Nat} {z : Int} (h : nx x = some (m, z)) : x.den = .int .i64 z ∧ m = z.toNat := by
  unfold nx at h
  split at h
  · injection h with h; injection h with h1 h2; subst h1; subst h2; exact ⟨rfl, rfl⟩
  · injection h with h; injection h with h1 h2; subst h1; subst h2; exact ⟨rfl, rfl⟩
  · cases h
theorem nx4_ok {x : SC} {m : Nat} {z q : Int} {m' : Nat} (h : nx x = some (m', z)) (h4 : nx4 x = some (m, q)) : q = z / 4 ∧ m = q.toNat := by
  unfold nx at h
  split at h
  · injection h with h; injection h with h1 h2; subst h1; subst h2
    simp only [nx4, Option.some.injEq, Prod.mk.injEq] at h4
    obtain ⟨rfl, rfl⟩ := h4
    exact ⟨rfl, rfl⟩
  · injection h with h; injection h with h1 h2; subst h1; subst h2
    simp only [nx4, Option.some.injEq, Prod.mk.injEq] at h4
    obtain ⟨rfl, rfl⟩ := h4
    exact ⟨rfl, rfl⟩
  · cases h
def isSl : SC → Bool
  | .sl .. => true
  | .slc .. => true
  | .nil => true
  | _ => false
theorem isSl_ok {x : SC} (h : isSl x = true) : ∃ ao n c, x.den = .slice ao n c := by
  cases x <;> first | exact ⟨_, _, _, rfl⟩ | cases h
theorem midI_T (key root : Int) (ao bo : Option Addr) (n c m d : Nat) (mc mt lc lt : Nat → Int) (i : Int) : (exFn Try.prog {tb := [(46, sTag)]} 400 Try.f30 ([.a (.c (.int key)), .a (.agg [.int root, .sl 0 ao n c, .sl 9 bo m d]), .a (.c (.int i))]) ([.row ⟨false, ao, 0, 2, n, 0, [fun i => .int (mc i), fun i => .int (mt i)]⟩]) (fun v _ => v.den = .int .i64 (tagW key (iadd 1000 i) root (mc (tn i))))) = (
  (∀ b0 : Nat,
  ((rng ((1000 : Int) + i)) ∧
  (b0 = b0 ∧
  (b0 = b0 ∧
  (ao = ao ∧
  (n = n ∧
  ((0 ≤ i ∧ i < ((n : Nat) : Int)) ∧
  (ao = ao ∧
  ((Int.toNat i) < n ∧
  (ao = ao ∧
  ((Int.toNat i) < n ∧
  (True ∧
  (Value.int IntKind.i64 (tagW key ((1000 : Int) + i) root (mc (Int.toNat i)))) = (Value.int IntKind.i64 (tagW key ((1000 : Int) + i) root (mc (Int.toNat i))))))))))))))))) := by kernel_rfl
theorem midI_any (key root : Int) (ao bo : Option Addr) (n c m d : Nat) (mc mt lc lt : Nat → Int) (i : Int) (w : World) (h1 : Row.sat w ⟨false, ao, 0, 2, n, 0, [fun i => .int (mc i), fun i => .int (mt i)]⟩) (hi : 0 ≤ i ∧ i < (n : Int)) (hn : i ≤ 1000000000) : Calls Try.prog 30 #[.int .i64 key, .agg #[.int .i64 root, .slice ao n c, .slice bo m d], .int .i64 i] w fun e w' => e = .returned (.int .i64 (tagW key (1000 + i) root (mc i.toNat))) ∧ Below w.heap.size w w' := by
  refine fnB (tb := [(46, sTag)]) ⟨sTag_impl, trivial⟩ Try.func30 (@Eq.mpr _ _ (midI_T key root ao bo n c m d mc mt lc lt i) ?_) (HS.rows (fun _ => False) [⟨false, ao, 0, 2, n, 0, [fun i => .int (mc i), fun i => .int (mt i)]⟩] (by simpa using h1)) (fun v ch' w' hk hs => ⟨by rw [hk], hs.below⟩)
  clear h1
  repeat' (first
    | exact rfl
    | exact True.intro
    | assumption
    | refine And.intro ?_ ?_
    | apply Exists.intro
    | omega
    | (intro h; exfalso; simp at h; done)
    | (intro h; exfalso; simp at h; omega)
    | intro _)
theorem midS_T (key root : Int) (ao bo : Option Addr) (n c m d : Nat) (mc mt lc lt : Nat → Int) (i : Int) : (exFn Try.prog {tb := [(51, sTag)]} 400 Try.f35 ([.a (.c (.int key)), .a (.agg [.int root, .sl 0 ao n c, .sl 9 bo m d]), .a (.c (.int i))]) ([.row ⟨false, ao, 0, 2, n, 0, [fun i => .int (mc i), fun i => .int (mt i)]⟩]) (fun v _ => v.den = .int .i64 (tagW key (iadd 1000 i) root (mc (tn i))))) = (
  (∀ b0 : Nat,
  ((rng ((1000 : Int) + i)) ∧
  (b0 = b0 ∧
  (b0 = b0 ∧
  (ao = ao ∧
  (n = n ∧
  ((0 ≤ i ∧ i < ((n : Nat) : Int)) ∧
  (ao = ao ∧
  ((Int.toNat i) < n ∧
  (ao = ao ∧
  ((Int.toNat i) < n ∧
  (True ∧
  (Value.int IntKind.i64 (tagW key ((1000 : Int) + i) root (mc (Int.toNat i)))) = (Value.int IntKind.i64 (tagW key ((1000 : Int) + i) root (mc (Int.toNat i))))))))))))))))) := by kernel_rfl
theorem midS_any (key root : Int) (ao bo : Option Addr) (n c m d : Nat) (mc mt lc lt : Nat → Int) (i : Int) (w : World) (h1 : Row.sat w ⟨false, ao, 0, 2, n, 0, [fun i => .int (mc i), fun i => .int (mt i)]⟩) (hi : 0 ≤ i ∧ i < (n : Int)) (hn : i ≤ 1000000000) : Calls Try.prog 35 #[.int .i64 key, .agg #[.int .i64 root, .slice ao n c, .slice bo m d], .int .i64 i] w fun e w' => e = .returned (.int .i64 (tagW key (1000 + i) root (mc i.toNat))) ∧ Below w.heap.size w w' := by
  refine fnB (tb := [(51, sTag)]) ⟨sTag_spec, trivial⟩ Try.func35 (@Eq.mpr _ _ (midS_T key root ao bo n c m d mc mt lc lt i) ?_) (HS.rows (fun _ => False) [⟨false, ao, 0, 2, n, 0, [fun i => .int (mc i), fun i => .int (mt i)]⟩] (by simpa using h1)) (fun v ch' w' hk hs => ⟨by rw [hk], hs.below⟩)
  clear h1
  repeat' (first
    | exact rfl
    | exact True.intro
    | assumption
    | refine And.intro ?_ ?_
    | apply Exists.intro
    | omega
    | (intro h; exfalso; simp at h; done)
    | (intro h; exfalso; simp at h; omega)
    | intro _)
theorem leafI_T (key root : Int) (ao bo : Option Addr) (n c m d : Nat) (mc mt lc lt : Nat → Int) (i : Int) : (exFn Try.prog {tb := [(46, sTag)]} 400 Try.f31 ([.a (.c (.int key)), .a (.agg [.int root, .sl 0 ao n c, .sl 1 bo m d]), .a (.c (.int i))]) ([.row ⟨false, ao, 0, 2, n, 0, [fun i => .int (mc i), fun i => .int (mt i)]⟩, .row ⟨false, bo, 0, 2, m, 0, [fun i => .int (lc i), fun i => .int (lt i)]⟩]) (fun v _ => v.den = .int .i64 (tagW key (iadd 2000 i) (mc (tn (idiv i 4))) (lc (tn i))))) = (
  (∀ b0 : Nat,
  ((rng ((2000 : Int) + i)) ∧
  (b0 = b0 ∧
  ((divC i (4 : Int)) ∧
  (ao = ao ∧
  (n = n ∧
  ((0 ≤ (i / (4 : Int)) ∧ (i / (4 : Int)) < ((n : Nat) : Int)) ∧
  (ao = ao ∧
  ((Int.toNat (i / (4 : Int))) < n ∧
  (ao = ao ∧
  ((Int.toNat (i / (4 : Int))) < n ∧
  (b0 = b0 ∧
  (bo = bo ∧
  (m = m ∧
  ((0 ≤ i ∧ i < ((m : Nat) : Int)) ∧
  (bo = bo ∧
  ((Int.toNat i) < m ∧
  (bo = bo ∧
  ((Int.toNat i) < m ∧
  (True ∧
  (Value.int IntKind.i64 (tagW key ((2000 : Int) + i) (mc (Int.toNat (i / (4 : Int)))) (lc (Int.toNat i)))) = (Value.int IntKind.i64 (tagW key ((2000 : Int) + i) (mc (Int.toNat (i / (4 : Int)))) (lc (Int.toNat i))))))))))))))))))))))))) := by kernel_rfl
theorem leafI_any (key root : Int) (ao bo : Option Addr) (n c m d : Nat) (mc mt lc lt : Nat → Int) (i : Int) (w : World) (h1 : Row.sat w ⟨false, ao, 0, 2, n, 0, [fun i => .int (mc i), fun i => .int (mt i)]⟩) (h2 : Row.sat w ⟨false, bo, 0, 2, m, 0, [fun i => .int (lc i), fun i => .int (lt i)]⟩) (hi : 0 ≤ i / 4 ∧ i / 4 < (n : Int)) (hj : 0 ≤ i ∧ i < (m : Int)) (hn : i ≤ 1000000000) : Calls Try.prog 31 #[.int .i64 key, .agg #[.int .i64 root, .slice ao n c, .slice bo m d], .int .i64 i] w fun e w' => e = .returned (.int .i64 (tagW key (2000 + i) (mc (i / 4).toNat) (lc i.toNat))) ∧ Below w.heap.size w w' := by
  refine fnB (tb := [(46, sTag)]) ⟨sTag_impl, trivial⟩ Try.func31 (@Eq.mpr _ _ (leafI_T key root ao bo n c m d mc mt lc lt i) ?_) (HS.rows (fun _ => False) [⟨false, ao, 0, 2, n, 0, [fun i => .int (mc i), fun i => .int (mt i)]⟩, ⟨false, bo, 0, 2, m, 0, [fun i => .int (lc i), fun i => .int (lt i)]⟩] (by simpa using ⟨h1, h2⟩)) (fun v ch' w' hk hs => ⟨by rw [hk], hs.below⟩)
  clear h1 h2
  repeat' (first
    | exact rfl
    | exact True.intro
    | assumption
    | refine And.intro ?_ ?_
    | apply Exists.intro
    | omega
    | (intro h; exfalso; simp at h; done)
    | (intro h; exfalso; simp at h; omega)
    | intro _)
theorem leafS_T (key root : Int) (ao bo : Option Addr) (n c m d : Nat) (mc mt lc lt : Nat → Int) (i : Int) : (exFn Try.prog {tb := [(51, sTag)]} 400 Try.f36 ([.a (.c (.int key)), .a (.agg [.int root, .sl 0 ao n c, .sl 1 bo m d]), .a (.c (.int i))]) ([.row ⟨false, ao, 0, 2, n, 0, [fun i => .int (mc i), fun i => .int (mt i)]⟩, .row ⟨false, bo, 0, 2, m, 0, [fun i => .int (lc i), fun i => .int (lt i)]⟩]) (fun v _ => v.den = .int .i64 (tagW key (iadd 2000 i) (mc (tn (idiv i 4))) (lc (tn i))))) = (
  (∀ b0 : Nat,
  ((rng ((2000 : Int) + i)) ∧
  (b0 = b0 ∧
  ((divC i (4 : Int)) ∧
  (ao = ao ∧
  (n = n ∧
  ((0 ≤ (i / (4 : Int)) ∧ (i / (4 : Int)) < ((n : Nat) : Int)) ∧
  (ao = ao ∧
  ((Int.toNat (i / (4 : Int))) < n ∧
  (ao = ao ∧
  ((Int.toNat (i / (4 : Int))) < n ∧
  (b0 = b0 ∧
  (bo = bo ∧
  (m = m ∧
  ((0 ≤ i ∧ i < ((m : Nat) : Int)) ∧
  (bo = bo ∧
  ((Int.toNat i) < m ∧
  (bo = bo ∧
  ((Int.toNat i) < m ∧
  (True ∧
  (Value.int IntKind.i64 (tagW key ((2000 : Int) + i) (mc (Int.toNat (i / (4 : Int)))) (lc (Int.toNat i)))) = (Value.int IntKind.i64 (tagW key ((2000 : Int) + i) (mc (Int.toNat (i / (4 : Int)))) (lc (Int.toNat i))))))))))))))))))))))))) := by kernel_rfl
theorem leafS_any (key root : Int) (ao bo : Option Addr) (n c m d : Nat) (mc mt lc lt : Nat → Int) (i : Int) (w : World) (h1 : Row.sat w ⟨false, ao, 0, 2, n, 0, [fun i => .int (mc i), fun i => .int (mt i)]⟩) (h2 : Row.sat w ⟨false, bo, 0, 2, m, 0, [fun i => .int (lc i), fun i => .int (lt i)]⟩) (hi : 0 ≤ i / 4 ∧ i / 4 < (n : Int)) (hj : 0 ≤ i ∧ i < (m : Int)) (hn : i ≤ 1000000000) : Calls Try.prog 36 #[.int .i64 key, .agg #[.int .i64 root, .slice ao n c, .slice bo m d], .int .i64 i] w fun e w' => e = .returned (.int .i64 (tagW key (2000 + i) (mc (i / 4).toNat) (lc i.toNat))) ∧ Below w.heap.size w w' := by
  refine fnB (tb := [(51, sTag)]) ⟨sTag_spec, trivial⟩ Try.func36 (@Eq.mpr _ _ (leafS_T key root ao bo n c m d mc mt lc lt i) ?_) (HS.rows (fun _ => False) [⟨false, ao, 0, 2, n, 0, [fun i => .int (mc i), fun i => .int (mt i)]⟩, ⟨false, bo, 0, 2, m, 0, [fun i => .int (lc i), fun i => .int (lt i)]⟩] (by simpa using ⟨h1, h2⟩)) (fun v ch' w' hk hs => ⟨by rw [hk], hs.below⟩)
  clear h1 h2
  repeat' (first
    | exact rfl
    | exact True.intro
    | assumption
    | refine And.intro ?_ ?_
    | apply Exists.intro
    | omega
    | (intro h; exfalso; simp at h; done)
    | (intro h; exfalso; simp at h; omega)
    | intro _)
abbrev tagC (i : Int) : Prop := i ≤ 1000000000
def sMidT : Sm := fun args ch k =>
  match args with
  | [.a (.c kc), .a (.agg [rc, mc, lc]), .a (.c ic)] =>
    match ints [kc, rc], nx ic, isSl lc with
    | some [key, root], some (m, z), true => rd2 ch mc fun n g0 _ => (inIdx z n ∧ tagC z) ∧ k (.a (.c (.int (tagW key (iadd 1000 z) root (g0 m))))) ch []
    | _, _, _ => False
  | _ => False
def sLeafT : Sm := fun args ch k =>
  match args with
  | [.a (.c kc), .a (.agg [rc, mc, lc]), .a (.c ic)] =>
    match ints [kc, rc], nx ic, nx4 ic with
    | some [key, root], some (m, z), some (q, y) => rd2 ch mc fun n g0 _ => rd2 ch lc fun n' h0 _ => (inIdx y n ∧ inIdx z n' ∧ tagC z) ∧ k (.a (.c (.int (tagW key (iadd 2000 z) (g0 q) (h0 m))))) ch []
    | _, _, _ => False
  | _ => False
theorem sMidT_impl : SmOK Try.prog 30 sMidT := by
  refine smB Try.call30 fun args ch k w X h0 hs => ?_
  unfold sMidT at h0
  split at h0
  · rename_i kc rc mc lc ic
    split at h0
    · rename_i key root m z hi hx hl
      obtain ⟨ek, hi⟩ := ints_cons hi
      obtain ⟨er, _⟩ := ints_cons hi
      obtain ⟨ei, rfl⟩ := nx_ok hx
      obtain ⟨bo, m, d, el⟩ := isSl_ok hl
      obtain ⟨ao, n, c, g0, g1, em, hr, ⟨hin, hn⟩, h0⟩ := rd2_ok h0 hs
      refine ⟨_, h0, ?_⟩
      simp only [List.map_cons, List.map_nil, den_a, den_c, SA.den, ek, er, ei, el, em]
      exact midI_any key root ao bo n c m d g0 g1 (fun _ => 0) (fun _ => 0) z w hr hin hn
    · exact h0.elim
  · exact h0.elim
theorem sMidT_spec : SmOK Try.prog 35 sMidT := by
  refine smB Try.call35 fun args ch k w X h0 hs => ?_
  unfold sMidT at h0
  split at h0
  · rename_i kc rc mc lc ic
    split at h0
    · rename_i key root m z hi hx hl
      obtain ⟨ek, hi⟩ := ints_cons hi
      obtain ⟨er, _⟩ := ints_cons hi
      obtain ⟨ei, rfl⟩ := nx_ok hx
      obtain ⟨bo, m, d, el⟩ := isSl_ok hl
      obtain ⟨ao, n, c, g0, g1, em, hr, ⟨hin, hn⟩, h0⟩ := rd2_ok h0 hs
      refine ⟨_, h0, ?_⟩
      simp only [List.map_cons, List.map_nil, den_a, den_c, SA.den, ek, er, ei, el, em]
      exact midS_any key root ao bo n c m d g0 g1 (fun _ => 0) (fun _ => 0) z w hr hin hn
    · exact h0.elim
  · exact h0.elim
theorem sLeafT_impl : SmOK Try.prog 31 sLeafT := by
  refine smB Try.call31 fun args ch k w X h0 hs => ?_
  unfold sLeafT at h0
  split at h0
  · rename_i kc rc mc lc ic
    split at h0
    · rename_i key root m z q y hi hx hx4
      obtain ⟨ek, hi⟩ := ints_cons hi
      obtain ⟨er, _⟩ := ints_cons hi
      obtain ⟨rfl, rfl⟩ := nx4_ok hx hx4
      obtain ⟨ei, rfl⟩ := nx_ok hx
      obtain ⟨ao, n, c, g0, g1, em, hr, h0⟩ := rd2_ok h0 hs
      obtain ⟨bo, m, d, l0, l1, el, hr2, ⟨hin, hjn, hn⟩, h0⟩ := rd2_ok h0 hs
      refine ⟨_, h0, ?_⟩
      simp only [List.map_cons, List.map_nil, den_a, den_c, SA.den, ek, er, ei, el, em]
      exact leafI_any key root ao bo n c m d g0 g1 l0 l1 z w hr hr2 hin hjn hn
    · exact h0.elim
  · exact h0.elim
theorem sLeafT_spec : SmOK Try.prog 36 sLeafT := by
  refine smB Try.call36 fun args ch k w X h0 hs => ?_
  unfold sLeafT at h0
  split at h0
  · rename_i kc rc mc lc ic
    split at h0
    · rename_i key root m z q y hi hx hx4
      obtain ⟨ek, hi⟩ := ints_cons hi
      obtain ⟨er, _⟩ := ints_cons hi
      obtain ⟨rfl, rfl⟩ := nx4_ok hx hx4
      obtain ⟨ei, rfl⟩ := nx_ok hx
      obtain ⟨ao, n, c, g0, g1, em, hr, h0⟩ := rd2_ok h0 hs
      obtain ⟨bo, m, d, l0, l1, el, hr2, ⟨hin, hjn, hn⟩, h0⟩ := rd2_ok h0 hs
      refine ⟨_, h0, ?_⟩
      simp only [List.map_cons, List.map_nil, den_a, den_c, SA.den, ek, er, ei, el, em]
      exact leafS_any key root ao bo n c m d g0 g1 l0 l1 z w hr hr2 hin hjn hn
    · exact h0.elim
  · exact h0.elim
def ifN (b : Bool) (n : Nat) : Nat := if b = true then n else 0
def newMT (key : Int) (i : Nat) : Int := tagW key (1000 + i) 0 0
def newLT (key : Int) (i : Nat) : Int := tagW key (2000 + i) 0 0
theorem newI_T (key : Int) : (exFn Try.prog {tb := [(29, sIsW), (30, sMidT), (31, sLeafT)]} 400 Try.f11 ([.a (.c (.int key))]) ([]) (fun v ch => ∃ (ro0 : Option Addr) (rc0 : Nat) (ro1 : Option Addr) (rc1 : Nat), OutR v ch (.tuple #[.agg #[.int .i64 (0), .slice ro0 (ifN (isW key) 2) rc0, .slice ro1 (ifN (isW key) 8) rc1], .bool (isW key)]) [.row ⟨true, ro0, 37, 2, ifN (isW key) 2, rc0, [fun i => .int (0), fun i => .int (newMT key i)]⟩, .row ⟨true, ro1, 37, 2, ifN (isW key) 8, rc1, [fun i => .int (0), fun i => .int (newLT key i)]⟩])) = (
  (∀ b0 : Nat,
  (((!(isW key)) = Bool.true →
  (b0 = b0 ∧
   (b0 = b0 ∧
   (Exists (fun (ro01 : (Option Addr)) => (Exists (fun (rc02 : Nat) => (Exists (fun (ro13 : (Option Addr)) => (Exists (fun (rc14 : Nat) => ((Value.tuple (List.toArray [(Value.agg (List.toArray [(Value.int IntKind.i64 (0 : Int)), (Value.slice Option.none 0 0), (Value.slice Option.none 0 0)])), (Value.bool Bool.false)])) = (Value.tuple (List.toArray [(Value.agg (List.toArray [(Value.int IntKind.i64 (0 : Int)), (Value.slice ro01 (ifN (isW key) 2) rc02), (Value.slice ro13 (ifN (isW key) 8) rc14)])), (Value.bool (isW key))])) ∧
   (((Bool.true = Bool.true ∧
   (Option.none = ro01 ∧
   (0 = (ifN (isW key) 2) ∧
   (0 = rc02 ∧
   Bool.true = Bool.true)))) ∧
   ((Bool.true = Bool.true ∧
   (Option.none = ro13 ∧
   (0 = (ifN (isW key) 8) ∧
   (0 = rc14 ∧
   Bool.true = Bool.true)))) ∧
   True)) ∧
   Bool.true = Bool.true))))))))))))) ∧
  ((!(isW key)) = Bool.false →
  ((∀ b5 : Nat,
   (True ∧
   ((∀ b6 : Nat,
   (True ∧
   (∀ b7 : Nat,
   (True ∧
   (b7 = b7 ∧
   (True ∧
   (b7 = b7 ∧
   (b7 = b7 ∧
   (b7 = b7 ∧
   (b5 = b5 ∧
   (((0 ≤ (0 : Int) ∧ (0 : Int) < ((2 : Nat) : Int)) ∧
   (tagC (0 : Int))) ∧
   (True ∧
   (b5 = b5 ∧
   (True ∧
   (b7 = b7 ∧
   (b7 = b7 ∧
   (b5 = b5 ∧
   (((0 ≤ (1 : Int) ∧ (1 : Int) < ((2 : Nat) : Int)) ∧
   (tagC (1 : Int))) ∧
   (True ∧
   (b5 = b5 ∧
   (True ∧
   (b7 = b7 ∧
   (b7 = b7 ∧
   (b7 = b7 ∧
   (b5 = b5 ∧
   (b6 = b6 ∧
   (((0 ≤ (0 : Int) ∧ (0 : Int) < ((2 : Nat) : Int)) ∧
   ((0 ≤ (0 : Int) ∧ (0 : Int) < ((8 : Nat) : Int)) ∧
   (tagC (0 : Int)))) ∧
   (True ∧
   (b6 = b6 ∧
   (True ∧
   (b7 = b7 ∧
   (b7 = b7 ∧
   (b5 = b5 ∧
   (b6 = b6 ∧
   (((0 ≤ (0 : Int) ∧ (0 : Int) < ((2 : Nat) : Int)) ∧
   ((0 ≤ (1 : Int) ∧ (1 : Int) < ((8 : Nat) : Int)) ∧
   (tagC (1 : Int)))) ∧
   (True ∧
   (b6 = b6 ∧
   (True ∧
   (b7 = b7 ∧
   (b7 = b7 ∧
   (b5 = b5 ∧
   (b6 = b6 ∧
   (((0 ≤ (0 : Int) ∧ (0 : Int) < ((2 : Nat) : Int)) ∧
   ((0 ≤ (2 : Int) ∧ (2 : Int) < ((8 : Nat) : Int)) ∧
   (tagC (2 : Int)))) ∧
   (True ∧
   (b6 = b6 ∧
   (True ∧
   (b7 = b7 ∧
   (b7 = b7 ∧
   (b5 = b5 ∧
   (b6 = b6 ∧
   (((0 ≤ (0 : Int) ∧ (0 : Int) < ((2 : Nat) : Int)) ∧
   ((0 ≤ (3 : Int) ∧ (3 : Int) < ((8 : Nat) : Int)) ∧
   (tagC (3 : Int)))) ∧
   (True ∧
   (b6 = b6 ∧
   (True ∧
   (b7 = b7 ∧
   (b7 = b7 ∧
   (b5 = b5 ∧
   (b6 = b6 ∧
   (((0 ≤ (1 : Int) ∧ (1 : Int) < ((2 : Nat) : Int)) ∧
   ((0 ≤ (4 : Int) ∧ (4 : Int) < ((8 : Nat) : Int)) ∧
   (tagC (4 : Int)))) ∧
   (True ∧
   (b6 = b6 ∧
   (True ∧
   (b7 = b7 ∧
   (b7 = b7 ∧
   (b5 = b5 ∧
   (b6 = b6 ∧
   (((0 ≤ (1 : Int) ∧ (1 : Int) < ((2 : Nat) : Int)) ∧
   ((0 ≤ (5 : Int) ∧ (5 : Int) < ((8 : Nat) : Int)) ∧
   (tagC (5 : Int)))) ∧
   (True ∧
   (b6 = b6 ∧
   (True ∧
   (b7 = b7 ∧
   (b7 = b7 ∧
   (b5 = b5 ∧
   (b6 = b6 ∧
   (((0 ≤ (1 : Int) ∧ (1 : Int) < ((2 : Nat) : Int)) ∧
   ((0 ≤ (6 : Int) ∧ (6 : Int) < ((8 : Nat) : Int)) ∧
   (tagC (6 : Int)))) ∧
   (True ∧
   (b6 = b6 ∧
   (True ∧
   (b7 = b7 ∧
   (b7 = b7 ∧
   (b5 = b5 ∧
   (b6 = b6 ∧
   (((0 ≤ (1 : Int) ∧ (1 : Int) < ((2 : Nat) : Int)) ∧
   ((0 ≤ (7 : Int) ∧ (7 : Int) < ((8 : Nat) : Int)) ∧
   (tagC (7 : Int)))) ∧
   (True ∧
   (b6 = b6 ∧
   (True ∧
   (b7 = b7 ∧
   (b0 = b0 ∧
   (b0 = b0 ∧
   (Exists (fun (ro08 : (Option Addr)) => (Exists (fun (rc09 : Nat) => (Exists (fun (ro110 : (Option Addr)) => (Exists (fun (rc111 : Nat) => ((Value.tuple (List.toArray [(Value.agg (List.toArray [(Value.int IntKind.i64 (0 : Int)), (Value.slice (Option.some (Addr.mk b5 0 Option.none)) 2 2), (Value.slice (Option.some (Addr.mk b6 0 Option.none)) 8 8)])), (Value.bool Bool.true)])) = (Value.tuple (List.toArray [(Value.agg (List.toArray [(Value.int IntKind.i64 (0 : Int)), (Value.slice ro08 (ifN (isW key) 2) rc09), (Value.slice ro110 (ifN (isW key) 8) rc111)])), (Value.bool (isW key))])) ∧
   (((Bool.true = Bool.true ∧
   ((Option.some (Addr.mk b5 0 Option.none)) = ro08 ∧
   (37 = 37 ∧
   (Bool.true = Bool.true ∧
   ((Value.int IntKind.i64 (0 : Int)) = (Value.int IntKind.i64 (0 : Int)) ∧
   ((Value.int IntKind.i64 (tagW key ((1000 : Int) + (0 : Int)) (0 : Int) (0 : Int))) = (Value.int IntKind.i64 (newMT key 0)) ∧
   ((Value.int IntKind.i64 (0 : Int)) = (Value.int IntKind.i64 (0 : Int)) ∧
   ((Value.int IntKind.i64 (tagW key ((1000 : Int) + (1 : Int)) (0 : Int) (0 : Int))) = (Value.int IntKind.i64 (newMT key 1)) ∧
   (2 = (ifN (isW key) 2) ∧
   (2 = rc09 ∧
   Bool.true = Bool.true)))))))))) ∧
   ((Bool.true = Bool.true ∧
   ((Option.some (Addr.mk b6 0 Option.none)) = ro110 ∧
   (37 = 37 ∧
   (Bool.true = Bool.true ∧
   ((Value.int IntKind.i64 (0 : Int)) = (Value.int IntKind.i64 (0 : Int)) ∧
   ((Value.int IntKind.i64 (tagW key ((2000 : Int) + (0 : Int)) (0 : Int) (0 : Int))) = (Value.int IntKind.i64 (newLT key 0)) ∧
   ((Value.int IntKind.i64 (0 : Int)) = (Value.int IntKind.i64 (0 : Int)) ∧
   ((Value.int IntKind.i64 (tagW key ((2000 : Int) + (1 : Int)) (0 : Int) (0 : Int))) = (Value.int IntKind.i64 (newLT key 1)) ∧
   ((Value.int IntKind.i64 (0 : Int)) = (Value.int IntKind.i64 (0 : Int)) ∧
   ((Value.int IntKind.i64 (tagW key ((2000 : Int) + (2 : Int)) (0 : Int) (0 : Int))) = (Value.int IntKind.i64 (newLT key 2)) ∧
   ((Value.int IntKind.i64 (0 : Int)) = (Value.int IntKind.i64 (0 : Int)) ∧
   ((Value.int IntKind.i64 (tagW key ((2000 : Int) + (3 : Int)) (0 : Int) (0 : Int))) = (Value.int IntKind.i64 (newLT key 3)) ∧
   ((Value.int IntKind.i64 (0 : Int)) = (Value.int IntKind.i64 (0 : Int)) ∧
   ((Value.int IntKind.i64 (tagW key ((2000 : Int) + (4 : Int)) (0 : Int) (0 : Int))) = (Value.int IntKind.i64 (newLT key 4)) ∧
   ((Value.int IntKind.i64 (0 : Int)) = (Value.int IntKind.i64 (0 : Int)) ∧
   ((Value.int IntKind.i64 (tagW key ((2000 : Int) + (5 : Int)) (0 : Int) (0 : Int))) = (Value.int IntKind.i64 (newLT key 5)) ∧
   ((Value.int IntKind.i64 (0 : Int)) = (Value.int IntKind.i64 (0 : Int)) ∧
   ((Value.int IntKind.i64 (tagW key ((2000 : Int) + (6 : Int)) (0 : Int) (0 : Int))) = (Value.int IntKind.i64 (newLT key 6)) ∧
   ((Value.int IntKind.i64 (0 : Int)) = (Value.int IntKind.i64 (0 : Int)) ∧
   ((Value.int IntKind.i64 (tagW key ((2000 : Int) + (7 : Int)) (0 : Int) (0 : Int))) = (Value.int IntKind.i64 (newLT key 7)) ∧
   (8 = (ifN (isW key) 8) ∧
   (8 = rc111 ∧
   Bool.true = Bool.true)))))))))))))))))))))) ∧
   True)) ∧
   Bool.true = Bool.true))))))))))))))))))))))))))))))))))))))))))))))))))))))))))))))))))))))))))))))))))))))))))))))))))) ∧
   (∀ b12 : Nat,
   (True ∧
   (∀ b13 : Nat,
   (True ∧
   (b12 = b12 ∧
   (True ∧
   (b12 = b12 ∧
   (b12 = b12 ∧
   (b12 = b12 ∧
   (b5 = b5 ∧
   (((0 ≤ (0 : Int) ∧ (0 : Int) < ((2 : Nat) : Int)) ∧
   (tagC (0 : Int))) ∧
   (True ∧
   (b5 = b5 ∧
   (True ∧
   (b12 = b12 ∧
   (b12 = b12 ∧
   (b5 = b5 ∧
   (((0 ≤ (1 : Int) ∧ (1 : Int) < ((2 : Nat) : Int)) ∧
   (tagC (1 : Int))) ∧
   (True ∧
   (b5 = b5 ∧
   (True ∧
   (b12 = b12 ∧
   (b12 = b12 ∧
   (b12 = b12 ∧
   (b5 = b5 ∧
   (b13 = b13 ∧
   (((0 ≤ (0 : Int) ∧ (0 : Int) < ((2 : Nat) : Int)) ∧
   ((0 ≤ (0 : Int) ∧ (0 : Int) < ((8 : Nat) : Int)) ∧
   (tagC (0 : Int)))) ∧
   (True ∧
   (b13 = b13 ∧
   (True ∧
   (b12 = b12 ∧
   (b12 = b12 ∧
   (b5 = b5 ∧
   (b13 = b13 ∧
   (((0 ≤ (0 : Int) ∧ (0 : Int) < ((2 : Nat) : Int)) ∧
   ((0 ≤ (1 : Int) ∧ (1 : Int) < ((8 : Nat) : Int)) ∧
   (tagC (1 : Int)))) ∧
   (True ∧
   (b13 = b13 ∧
   (True ∧
   (b12 = b12 ∧
   (b12 = b12 ∧
   (b5 = b5 ∧
   (b13 = b13 ∧
   (((0 ≤ (0 : Int) ∧ (0 : Int) < ((2 : Nat) : Int)) ∧
   ((0 ≤ (2 : Int) ∧ (2 : Int) < ((8 : Nat) : Int)) ∧
   (tagC (2 : Int)))) ∧
   (True ∧
   (b13 = b13 ∧
   (True ∧
   (b12 = b12 ∧
   (b12 = b12 ∧
   (b5 = b5 ∧
   (b13 = b13 ∧
   (((0 ≤ (0 : Int) ∧ (0 : Int) < ((2 : Nat) : Int)) ∧
   ((0 ≤ (3 : Int) ∧ (3 : Int) < ((8 : Nat) : Int)) ∧
   (tagC (3 : Int)))) ∧
   (True ∧
   (b13 = b13 ∧
   (True ∧
   (b12 = b12 ∧
   (b12 = b12 ∧
   (b5 = b5 ∧
   (b13 = b13 ∧
   (((0 ≤ (1 : Int) ∧ (1 : Int) < ((2 : Nat) : Int)) ∧
   ((0 ≤ (4 : Int) ∧ (4 : Int) < ((8 : Nat) : Int)) ∧
   (tagC (4 : Int)))) ∧
   (True ∧
   (b13 = b13 ∧
   (True ∧
   (b12 = b12 ∧
   (b12 = b12 ∧
   (b5 = b5 ∧
   (b13 = b13 ∧
   (((0 ≤ (1 : Int) ∧ (1 : Int) < ((2 : Nat) : Int)) ∧
   ((0 ≤ (5 : Int) ∧ (5 : Int) < ((8 : Nat) : Int)) ∧
   (tagC (5 : Int)))) ∧
   (True ∧
   (b13 = b13 ∧
   (True ∧
   (b12 = b12 ∧
   (b12 = b12 ∧
   (b5 = b5 ∧
   (b13 = b13 ∧
   (((0 ≤ (1 : Int) ∧ (1 : Int) < ((2 : Nat) : Int)) ∧
   ((0 ≤ (6 : Int) ∧ (6 : Int) < ((8 : Nat) : Int)) ∧
   (tagC (6 : Int)))) ∧
   (True ∧
   (b13 = b13 ∧
   (True ∧
   (b12 = b12 ∧
   (b12 = b12 ∧
   (b5 = b5 ∧
   (b13 = b13 ∧
   (((0 ≤ (1 : Int) ∧ (1 : Int) < ((2 : Nat) : Int)) ∧
   ((0 ≤ (7 : Int) ∧ (7 : Int) < ((8 : Nat) : Int)) ∧
   (tagC (7 : Int)))) ∧
   (True ∧
   (b13 = b13 ∧
   (True ∧
   (b12 = b12 ∧
   (b0 = b0 ∧
   (b0 = b0 ∧
   (Exists (fun (ro014 : (Option Addr)) => (Exists (fun (rc015 : Nat) => (Exists (fun (ro116 : (Option Addr)) => (Exists (fun (rc117 : Nat) => ((Value.tuple (List.toArray [(Value.agg (List.toArray [(Value.int IntKind.i64 (0 : Int)), (Value.slice (Option.some (Addr.mk b5 0 Option.none)) 2 2), (Value.slice (Option.some (Addr.mk b13 0 Option.none)) 8 8)])), (Value.bool Bool.true)])) = (Value.tuple (List.toArray [(Value.agg (List.toArray [(Value.int IntKind.i64 (0 : Int)), (Value.slice ro014 (ifN (isW key) 2) rc015), (Value.slice ro116 (ifN (isW key) 8) rc117)])), (Value.bool (isW key))])) ∧
   (((Bool.true = Bool.true ∧
   ((Option.some (Addr.mk b5 0 Option.none)) = ro014 ∧
   (37 = 37 ∧
   (Bool.true = Bool.true ∧
   ((Value.int IntKind.i64 (0 : Int)) = (Value.int IntKind.i64 (0 : Int)) ∧
   ((Value.int IntKind.i64 (tagW key ((1000 : Int) + (0 : Int)) (0 : Int) (0 : Int))) = (Value.int IntKind.i64 (newMT key 0)) ∧
   ((Value.int IntKind.i64 (0 : Int)) = (Value.int IntKind.i64 (0 : Int)) ∧
   ((Value.int IntKind.i64 (tagW key ((1000 : Int) + (1 : Int)) (0 : Int) (0 : Int))) = (Value.int IntKind.i64 (newMT key 1)) ∧
   (2 = (ifN (isW key) 2) ∧
   (2 = rc015 ∧
   Bool.true = Bool.true)))))))))) ∧
   ((Bool.true = Bool.true ∧
   ((Option.some (Addr.mk b13 0 Option.none)) = ro116 ∧
   (37 = 37 ∧
   (Bool.true = Bool.true ∧
   ((Value.int IntKind.i64 (0 : Int)) = (Value.int IntKind.i64 (0 : Int)) ∧
   ((Value.int IntKind.i64 (tagW key ((2000 : Int) + (0 : Int)) (0 : Int) (0 : Int))) = (Value.int IntKind.i64 (newLT key 0)) ∧
   ((Value.int IntKind.i64 (0 : Int)) = (Value.int IntKind.i64 (0 : Int)) ∧
   ((Value.int IntKind.i64 (tagW key ((2000 : Int) + (1 : Int)) (0 : Int) (0 : Int))) = (Value.int IntKind.i64 (newLT key 1)) ∧
   ((Value.int IntKind.i64 (0 : Int)) = (Value.int IntKind.i64 (0 : Int)) ∧
   ((Value.int IntKind.i64 (tagW key ((2000 : Int) + (2 : Int)) (0 : Int) (0 : Int))) = (Value.int IntKind.i64 (newLT key 2)) ∧
   ((Value.int IntKind.i64 (0 : Int)) = (Value.int IntKind.i64 (0 : Int)) ∧
   ((Value.int IntKind.i64 (tagW key ((2000 : Int) + (3 : Int)) (0 : Int) (0 : Int))) = (Value.int IntKind.i64 (newLT key 3)) ∧
   ((Value.int IntKind.i64 (0 : Int)) = (Value.int IntKind.i64 (0 : Int)) ∧
   ((Value.int IntKind.i64 (tagW key ((2000 : Int) + (4 : Int)) (0 : Int) (0 : Int))) = (Value.int IntKind.i64 (newLT key 4)) ∧
   ((Value.int IntKind.i64 (0 : Int)) = (Value.int IntKind.i64 (0 : Int)) ∧
   ((Value.int IntKind.i64 (tagW key ((2000 : Int) + (5 : Int)) (0 : Int) (0 : Int))) = (Value.int IntKind.i64 (newLT key 5)) ∧
   ((Value.int IntKind.i64 (0 : Int)) = (Value.int IntKind.i64 (0 : Int)) ∧
   ((Value.int IntKind.i64 (tagW key ((2000 : Int) + (6 : Int)) (0 : Int) (0 : Int))) = (Value.int IntKind.i64 (newLT key 6)) ∧
   ((Value.int IntKind.i64 (0 : Int)) = (Value.int IntKind.i64 (0 : Int)) ∧
   ((Value.int IntKind.i64 (tagW key ((2000 : Int) + (7 : Int)) (0 : Int) (0 : Int))) = (Value.int IntKind.i64 (newLT key 7)) ∧
   (8 = (ifN (isW key) 8) ∧
   (8 = rc117 ∧
   Bool.true = Bool.true)))))))))))))))))))))) ∧
   True)) ∧
   Bool.true = Bool.true)))))))))))))))))))))))))))))))))))))))))))))))))))))))))))))))))))))))))))))))))))))))))))))))))))))) ∧
   ((∀ b18 : Nat,
   (True ∧
   ((∀ b19 : Nat,
   (True ∧
   (∀ b20 : Nat,
   (True ∧
   (b20 = b20 ∧
   (True ∧
   (b20 = b20 ∧
   (b20 = b20 ∧
   (b20 = b20 ∧
   (b19 = b19 ∧
   (((0 ≤ (0 : Int) ∧ (0 : Int) < ((2 : Nat) : Int)) ∧
   (tagC (0 : Int))) ∧
   (True ∧
   (b19 = b19 ∧
   (True ∧
   (b20 = b20 ∧
   (b20 = b20 ∧
   (b19 = b19 ∧
   (((0 ≤ (1 : Int) ∧ (1 : Int) < ((2 : Nat) : Int)) ∧
   (tagC (1 : Int))) ∧
   (True ∧
   (b19 = b19 ∧
   (True ∧
   (b20 = b20 ∧
   (b20 = b20 ∧
   (b20 = b20 ∧
   (b19 = b19 ∧
   (b18 = b18 ∧
   (((0 ≤ (0 : Int) ∧ (0 : Int) < ((2 : Nat) : Int)) ∧
   ((0 ≤ (0 : Int) ∧ (0 : Int) < ((8 : Nat) : Int)) ∧
   (tagC (0 : Int)))) ∧
   (True ∧
   (b18 = b18 ∧
   (True ∧
   (b20 = b20 ∧
   (b20 = b20 ∧
   (b19 = b19 ∧
   (b18 = b18 ∧
   (((0 ≤ (0 : Int) ∧ (0 : Int) < ((2 : Nat) : Int)) ∧
   ((0 ≤ (1 : Int) ∧ (1 : Int) < ((8 : Nat) : Int)) ∧
   (tagC (1 : Int)))) ∧
   (True ∧
   (b18 = b18 ∧
   (True ∧
   (b20 = b20 ∧
   (b20 = b20 ∧
   (b19 = b19 ∧
   (b18 = b18 ∧
   (((0 ≤ (0 : Int) ∧ (0 : Int) < ((2 : Nat) : Int)) ∧
   ((0 ≤ (2 : Int) ∧ (2 : Int) < ((8 : Nat) : Int)) ∧
   (tagC (2 : Int)))) ∧
   (True ∧
   (b18 = b18 ∧
   (True ∧
   (b20 = b20 ∧
   (b20 = b20 ∧
   (b19 = b19 ∧
   (b18 = b18 ∧
   (((0 ≤ (0 : Int) ∧ (0 : Int) < ((2 : Nat) : Int)) ∧
   ((0 ≤ (3 : Int) ∧ (3 : Int) < ((8 : Nat) : Int)) ∧
   (tagC (3 : Int)))) ∧
   (True ∧
   (b18 = b18 ∧
   (True ∧
   (b20 = b20 ∧
   (b20 = b20 ∧
   (b19 = b19 ∧
   (b18 = b18 ∧
   (((0 ≤ (1 : Int) ∧ (1 : Int) < ((2 : Nat) : Int)) ∧
   ((0 ≤ (4 : Int) ∧ (4 : Int) < ((8 : Nat) : Int)) ∧
   (tagC (4 : Int)))) ∧
   (True ∧
   (b18 = b18 ∧
   (True ∧
   (b20 = b20 ∧
   (b20 = b20 ∧
   (b19 = b19 ∧
   (b18 = b18 ∧
   (((0 ≤ (1 : Int) ∧ (1 : Int) < ((2 : Nat) : Int)) ∧
   ((0 ≤ (5 : Int) ∧ (5 : Int) < ((8 : Nat) : Int)) ∧
   (tagC (5 : Int)))) ∧
   (True ∧
   (b18 = b18 ∧
   (True ∧
   (b20 = b20 ∧
   (b20 = b20 ∧
   (b19 = b19 ∧
   (b18 = b18 ∧
   (((0 ≤ (1 : Int) ∧ (1 : Int) < ((2 : Nat) : Int)) ∧
   ((0 ≤ (6 : Int) ∧ (6 : Int) < ((8 : Nat) : Int)) ∧
   (tagC (6 : Int)))) ∧
   (True ∧
   (b18 = b18 ∧
   (True ∧
   (b20 = b20 ∧
   (b20 = b20 ∧
   (b19 = b19 ∧
   (b18 = b18 ∧
   (((0 ≤ (1 : Int) ∧ (1 : Int) < ((2 : Nat) : Int)) ∧
   ((0 ≤ (7 : Int) ∧ (7 : Int) < ((8 : Nat) : Int)) ∧
   (tagC (7 : Int)))) ∧
   (True ∧
   (b18 = b18 ∧
   (True ∧
   (b20 = b20 ∧
   (b0 = b0 ∧
   (b0 = b0 ∧
   (Exists (fun (ro021 : (Option Addr)) => (Exists (fun (rc022 : Nat) => (Exists (fun (ro123 : (Option Addr)) => (Exists (fun (rc124 : Nat) => ((Value.tuple (List.toArray [(Value.agg (List.toArray [(Value.int IntKind.i64 (0 : Int)), (Value.slice (Option.some (Addr.mk b19 0 Option.none)) 2 2), (Value.slice (Option.some (Addr.mk b18 0 Option.none)) 8 8)])), (Value.bool Bool.true)])) = (Value.tuple (List.toArray [(Value.agg (List.toArray [(Value.int IntKind.i64 (0 : Int)), (Value.slice ro021 (ifN (isW key) 2) rc022), (Value.slice ro123 (ifN (isW key) 8) rc124)])), (Value.bool (isW key))])) ∧
   (((Bool.true = Bool.true ∧
   ((Option.some (Addr.mk b19 0 Option.none)) = ro021 ∧
   (37 = 37 ∧
   (Bool.true = Bool.true ∧
   ((Value.int IntKind.i64 (0 : Int)) = (Value.int IntKind.i64 (0 : Int)) ∧
   ((Value.int IntKind.i64 (tagW key ((1000 : Int) + (0 : Int)) (0 : Int) (0 : Int))) = (Value.int IntKind.i64 (newMT key 0)) ∧
   ((Value.int IntKind.i64 (0 : Int)) = (Value.int IntKind.i64 (0 : Int)) ∧
   ((Value.int IntKind.i64 (tagW key ((1000 : Int) + (1 : Int)) (0 : Int) (0 : Int))) = (Value.int IntKind.i64 (newMT key 1)) ∧
   (2 = (ifN (isW key) 2) ∧
   (2 = rc022 ∧
   Bool.true = Bool.true)))))))))) ∧
   ((Bool.true = Bool.true ∧
   ((Option.some (Addr.mk b18 0 Option.none)) = ro123 ∧
   (37 = 37 ∧
   (Bool.true = Bool.true ∧
   ((Value.int IntKind.i64 (0 : Int)) = (Value.int IntKind.i64 (0 : Int)) ∧
   ((Value.int IntKind.i64 (tagW key ((2000 : Int) + (0 : Int)) (0 : Int) (0 : Int))) = (Value.int IntKind.i64 (newLT key 0)) ∧
   ((Value.int IntKind.i64 (0 : Int)) = (Value.int IntKind.i64 (0 : Int)) ∧
   ((Value.int IntKind.i64 (tagW key ((2000 : Int) + (1 : Int)) (0 : Int) (0 : Int))) = (Value.int IntKind.i64 (newLT key 1)) ∧
   ((Value.int IntKind.i64 (0 : Int)) = (Value.int IntKind.i64 (0 : Int)) ∧
   ((Value.int IntKind.i64 (tagW key ((2000 : Int) + (2 : Int)) (0 : Int) (0 : Int))) = (Value.int IntKind.i64 (newLT key 2)) ∧
   ((Value.int IntKind.i64 (0 : Int)) = (Value.int IntKind.i64 (0 : Int)) ∧
   ((Value.int IntKind.i64 (tagW key ((2000 : Int) + (3 : Int)) (0 : Int) (0 : Int))) = (Value.int IntKind.i64 (newLT key 3)) ∧
   ((Value.int IntKind.i64 (0 : Int)) = (Value.int IntKind.i64 (0 : Int)) ∧
   ((Value.int IntKind.i64 (tagW key ((2000 : Int) + (4 : Int)) (0 : Int) (0 : Int))) = (Value.int IntKind.i64 (newLT key 4)) ∧
   ((Value.int IntKind.i64 (0 : Int)) = (Value.int IntKind.i64 (0 : Int)) ∧
   ((Value.int IntKind.i64 (tagW key ((2000 : Int) + (5 : Int)) (0 : Int) (0 : Int))) = (Value.int IntKind.i64 (newLT key 5)) ∧
   ((Value.int IntKind.i64 (0 : Int)) = (Value.int IntKind.i64 (0 : Int)) ∧
   ((Value.int IntKind.i64 (tagW key ((2000 : Int) + (6 : Int)) (0 : Int) (0 : Int))) = (Value.int IntKind.i64 (newLT key 6)) ∧
   ((Value.int IntKind.i64 (0 : Int)) = (Value.int IntKind.i64 (0 : Int)) ∧
   ((Value.int IntKind.i64 (tagW key ((2000 : Int) + (7 : Int)) (0 : Int) (0 : Int))) = (Value.int IntKind.i64 (newLT key 7)) ∧
   (8 = (ifN (isW key) 8) ∧
   (8 = rc124 ∧
   Bool.true = Bool.true)))))))))))))))))))))) ∧
   True)) ∧
   Bool.true = Bool.true))))))))))))))))))))))))))))))))))))))))))))))))))))))))))))))))))))))))))))))))))))))))))))))))))) ∧
   (∀ b25 : Nat,
   (True ∧
   (∀ b26 : Nat,
   (True ∧
   (b25 = b25 ∧
   (True ∧
   (b25 = b25 ∧
   (b25 = b25 ∧
   (b25 = b25 ∧
   (b26 = b26 ∧
   (((0 ≤ (0 : Int) ∧ (0 : Int) < ((2 : Nat) : Int)) ∧
   (tagC (0 : Int))) ∧
   (True ∧
   (b26 = b26 ∧
   (True ∧
   (b25 = b25 ∧
   (b25 = b25 ∧
   (b26 = b26 ∧
   (((0 ≤ (1 : Int) ∧ (1 : Int) < ((2 : Nat) : Int)) ∧
   (tagC (1 : Int))) ∧
   (True ∧
   (b26 = b26 ∧
   (True ∧
   (b25 = b25 ∧
   (b25 = b25 ∧
   (b25 = b25 ∧
   (b26 = b26 ∧
   (b18 = b18 ∧
   (((0 ≤ (0 : Int) ∧ (0 : Int) < ((2 : Nat) : Int)) ∧
   ((0 ≤ (0 : Int) ∧ (0 : Int) < ((8 : Nat) : Int)) ∧
   (tagC (0 : Int)))) ∧
   (True ∧
   (b18 = b18 ∧
   (True ∧
   (b25 = b25 ∧
   (b25 = b25 ∧
   (b26 = b26 ∧
   (b18 = b18 ∧
   (((0 ≤ (0 : Int) ∧ (0 : Int) < ((2 : Nat) : Int)) ∧
   ((0 ≤ (1 : Int) ∧ (1 : Int) < ((8 : Nat) : Int)) ∧
   (tagC (1 : Int)))) ∧
   (True ∧
   (b18 = b18 ∧
   (True ∧
   (b25 = b25 ∧
   (b25 = b25 ∧
   (b26 = b26 ∧
   (b18 = b18 ∧
   (((0 ≤ (0 : Int) ∧ (0 : Int) < ((2 : Nat) : Int)) ∧
   ((0 ≤ (2 : Int) ∧ (2 : Int) < ((8 : Nat) : Int)) ∧
   (tagC (2 : Int)))) ∧
   (True ∧
   (b18 = b18 ∧
   (True ∧
   (b25 = b25 ∧
   (b25 = b25 ∧
   (b26 = b26 ∧
   (b18 = b18 ∧
   (((0 ≤ (0 : Int) ∧ (0 : Int) < ((2 : Nat) : Int)) ∧
   ((0 ≤ (3 : Int) ∧ (3 : Int) < ((8 : Nat) : Int)) ∧
   (tagC (3 : Int)))) ∧
   (True ∧
   (b18 = b18 ∧
   (True ∧
   (b25 = b25 ∧
   (b25 = b25 ∧
   (b26 = b26 ∧
   (b18 = b18 ∧
   (((0 ≤ (1 : Int) ∧ (1 : Int) < ((2 : Nat) : Int)) ∧
   ((0 ≤ (4 : Int) ∧ (4 : Int) < ((8 : Nat) : Int)) ∧
   (tagC (4 : Int)))) ∧
   (True ∧
   (b18 = b18 ∧
   (True ∧
   (b25 = b25 ∧
   (b25 = b25 ∧
   (b26 = b26 ∧
   (b18 = b18 ∧
   (((0 ≤ (1 : Int) ∧ (1 : Int) < ((2 : Nat) : Int)) ∧
   ((0 ≤ (5 : Int) ∧ (5 : Int) < ((8 : Nat) : Int)) ∧
   (tagC (5 : Int)))) ∧
   (True ∧
   (b18 = b18 ∧
   (True ∧
   (b25 = b25 ∧
   (b25 = b25 ∧
   (b26 = b26 ∧
   (b18 = b18 ∧
   (((0 ≤ (1 : Int) ∧ (1 : Int) < ((2 : Nat) : Int)) ∧
   ((0 ≤ (6 : Int) ∧ (6 : Int) < ((8 : Nat) : Int)) ∧
   (tagC (6 : Int)))) ∧
   (True ∧
   (b18 = b18 ∧
   (True ∧
   (b25 = b25 ∧
   (b25 = b25 ∧
   (b26 = b26 ∧
   (b18 = b18 ∧
   (((0 ≤ (1 : Int) ∧ (1 : Int) < ((2 : Nat) : Int)) ∧
   ((0 ≤ (7 : Int) ∧ (7 : Int) < ((8 : Nat) : Int)) ∧
   (tagC (7 : Int)))) ∧
   (True ∧
   (b18 = b18 ∧
   (True ∧
   (b25 = b25 ∧
   (b0 = b0 ∧
   (b0 = b0 ∧
   (Exists (fun (ro027 : (Option Addr)) => (Exists (fun (rc028 : Nat) => (Exists (fun (ro129 : (Option Addr)) => (Exists (fun (rc130 : Nat) => ((Value.tuple (List.toArray [(Value.agg (List.toArray [(Value.int IntKind.i64 (0 : Int)), (Value.slice (Option.some (Addr.mk b26 0 Option.none)) 2 2), (Value.slice (Option.some (Addr.mk b18 0 Option.none)) 8 8)])), (Value.bool Bool.true)])) = (Value.tuple (List.toArray [(Value.agg (List.toArray [(Value.int IntKind.i64 (0 : Int)), (Value.slice ro027 (ifN (isW key) 2) rc028), (Value.slice ro129 (ifN (isW key) 8) rc130)])), (Value.bool (isW key))])) ∧
   (((Bool.true = Bool.true ∧
   ((Option.some (Addr.mk b26 0 Option.none)) = ro027 ∧
   (37 = 37 ∧
   (Bool.true = Bool.true ∧
   ((Value.int IntKind.i64 (0 : Int)) = (Value.int IntKind.i64 (0 : Int)) ∧
   ((Value.int IntKind.i64 (tagW key ((1000 : Int) + (0 : Int)) (0 : Int) (0 : Int))) = (Value.int IntKind.i64 (newMT key 0)) ∧
   ((Value.int IntKind.i64 (0 : Int)) = (Value.int IntKind.i64 (0 : Int)) ∧
   ((Value.int IntKind.i64 (tagW key ((1000 : Int) + (1 : Int)) (0 : Int) (0 : Int))) = (Value.int IntKind.i64 (newMT key 1)) ∧
   (2 = (ifN (isW key) 2) ∧
   (2 = rc028 ∧
   Bool.true = Bool.true)))))))))) ∧
   ((Bool.true = Bool.true ∧
   ((Option.some (Addr.mk b18 0 Option.none)) = ro129 ∧
   (37 = 37 ∧
   (Bool.true = Bool.true ∧
   ((Value.int IntKind.i64 (0 : Int)) = (Value.int IntKind.i64 (0 : Int)) ∧
   ((Value.int IntKind.i64 (tagW key ((2000 : Int) + (0 : Int)) (0 : Int) (0 : Int))) = (Value.int IntKind.i64 (newLT key 0)) ∧
   ((Value.int IntKind.i64 (0 : Int)) = (Value.int IntKind.i64 (0 : Int)) ∧
   ((Value.int IntKind.i64 (tagW key ((2000 : Int) + (1 : Int)) (0 : Int) (0 : Int))) = (Value.int IntKind.i64 (newLT key 1)) ∧
   ((Value.int IntKind.i64 (0 : Int)) = (Value.int IntKind.i64 (0 : Int)) ∧
   ((Value.int IntKind.i64 (tagW key ((2000 : Int) + (2 : Int)) (0 : Int) (0 : Int))) = (Value.int IntKind.i64 (newLT key 2)) ∧
   ((Value.int IntKind.i64 (0 : Int)) = (Value.int IntKind.i64 (0 : Int)) ∧
   ((Value.int IntKind.i64 (tagW key ((2000 : Int) + (3 : Int)) (0 : Int) (0 : Int))) = (Value.int IntKind.i64 (newLT key 3)) ∧
   ((Value.int IntKind.i64 (0 : Int)) = (Value.int IntKind.i64 (0 : Int)) ∧
   ((Value.int IntKind.i64 (tagW key ((2000 : Int) + (4 : Int)) (0 : Int) (0 : Int))) = (Value.int IntKind.i64 (newLT key 4)) ∧
   ((Value.int IntKind.i64 (0 : Int)) = (Value.int IntKind.i64 (0 : Int)) ∧
   ((Value.int IntKind.i64 (tagW key ((2000 : Int) + (5 : Int)) (0 : Int) (0 : Int))) = (Value.int IntKind.i64 (newLT key 5)) ∧
   ((Value.int IntKind.i64 (0 : Int)) = (Value.int IntKind.i64 (0 : Int)) ∧
   ((Value.int IntKind.i64 (tagW key ((2000 : Int) + (6 : Int)) (0 : Int) (0 : Int))) = (Value.int IntKind.i64 (newLT key 6)) ∧
   ((Value.int IntKind.i64 (0 : Int)) = (Value.int IntKind.i64 (0 : Int)) ∧
   ((Value.int IntKind.i64 (tagW key ((2000 : Int) + (7 : Int)) (0 : Int) (0 : Int))) = (Value.int IntKind.i64 (newLT key 7)) ∧
   (8 = (ifN (isW key) 8) ∧
   (8 = rc130 ∧
   Bool.true = Bool.true)))))))))))))))))))))) ∧
   True)) ∧
   Bool.true = Bool.true)))))))))))))))))))))))))))))))))))))))))))))))))))))))))))))))))))))))))))))))))))))))))))))))))))))) ∧
   (∀ b31 : Nat,
   (True ∧
   ((∀ b32 : Nat,
   (True ∧
   (∀ b33 : Nat,
   (True ∧
   (b31 = b31 ∧
   (True ∧
   (b31 = b31 ∧
   (b31 = b31 ∧
   (b31 = b31 ∧
   (b32 = b32 ∧
   (((0 ≤ (0 : Int) ∧ (0 : Int) < ((2 : Nat) : Int)) ∧
   (tagC (0 : Int))) ∧
   (True ∧
   (b32 = b32 ∧
   (True ∧
   (b31 = b31 ∧
   (b31 = b31 ∧
   (b32 = b32 ∧
   (((0 ≤ (1 : Int) ∧ (1 : Int) < ((2 : Nat) : Int)) ∧
   (tagC (1 : Int))) ∧
   (True ∧
   (b32 = b32 ∧
   (True ∧
   (b31 = b31 ∧
   (b31 = b31 ∧
   (b31 = b31 ∧
   (b32 = b32 ∧
   (b33 = b33 ∧
   (((0 ≤ (0 : Int) ∧ (0 : Int) < ((2 : Nat) : Int)) ∧
   ((0 ≤ (0 : Int) ∧ (0 : Int) < ((8 : Nat) : Int)) ∧
   (tagC (0 : Int)))) ∧
   (True ∧
   (b33 = b33 ∧
   (True ∧
   (b31 = b31 ∧
   (b31 = b31 ∧
   (b32 = b32 ∧
   (b33 = b33 ∧
   (((0 ≤ (0 : Int) ∧ (0 : Int) < ((2 : Nat) : Int)) ∧
   ((0 ≤ (1 : Int) ∧ (1 : Int) < ((8 : Nat) : Int)) ∧
   (tagC (1 : Int)))) ∧
   (True ∧
   (b33 = b33 ∧
   (True ∧
   (b31 = b31 ∧
   (b31 = b31 ∧
   (b32 = b32 ∧
   (b33 = b33 ∧
   (((0 ≤ (0 : Int) ∧ (0 : Int) < ((2 : Nat) : Int)) ∧
   ((0 ≤ (2 : Int) ∧ (2 : Int) < ((8 : Nat) : Int)) ∧
   (tagC (2 : Int)))) ∧
   (True ∧
   (b33 = b33 ∧
   (True ∧
   (b31 = b31 ∧
   (b31 = b31 ∧
   (b32 = b32 ∧
   (b33 = b33 ∧
   (((0 ≤ (0 : Int) ∧ (0 : Int) < ((2 : Nat) : Int)) ∧
   ((0 ≤ (3 : Int) ∧ (3 : Int) < ((8 : Nat) : Int)) ∧
   (tagC (3 : Int)))) ∧
   (True ∧
   (b33 = b33 ∧
   (True ∧
   (b31 = b31 ∧
   (b31 = b31 ∧
   (b32 = b32 ∧
   (b33 = b33 ∧
   (((0 ≤ (1 : Int) ∧ (1 : Int) < ((2 : Nat) : Int)) ∧
   ((0 ≤ (4 : Int) ∧ (4 : Int) < ((8 : Nat) : Int)) ∧
   (tagC (4 : Int)))) ∧
   (True ∧
   (b33 = b33 ∧
   (True ∧
   (b31 = b31 ∧
   (b31 = b31 ∧
   (b32 = b32 ∧
   (b33 = b33 ∧
   (((0 ≤ (1 : Int) ∧ (1 : Int) < ((2 : Nat) : Int)) ∧
   ((0 ≤ (5 : Int) ∧ (5 : Int) < ((8 : Nat) : Int)) ∧
   (tagC (5 : Int)))) ∧
   (True ∧
   (b33 = b33 ∧
   (True ∧
   (b31 = b31 ∧
   (b31 = b31 ∧
   (b32 = b32 ∧
   (b33 = b33 ∧
   (((0 ≤ (1 : Int) ∧ (1 : Int) < ((2 : Nat) : Int)) ∧
   ((0 ≤ (6 : Int) ∧ (6 : Int) < ((8 : Nat) : Int)) ∧
   (tagC (6 : Int)))) ∧
   (True ∧
   (b33 = b33 ∧
   (True ∧
   (b31 = b31 ∧
   (b31 = b31 ∧
   (b32 = b32 ∧
   (b33 = b33 ∧
   (((0 ≤ (1 : Int) ∧ (1 : Int) < ((2 : Nat) : Int)) ∧
   ((0 ≤ (7 : Int) ∧ (7 : Int) < ((8 : Nat) : Int)) ∧
   (tagC (7 : Int)))) ∧
   (True ∧
   (b33 = b33 ∧
   (True ∧
   (b31 = b31 ∧
   (b0 = b0 ∧
   (b0 = b0 ∧
   (Exists (fun (ro034 : (Option Addr)) => (Exists (fun (rc035 : Nat) => (Exists (fun (ro136 : (Option Addr)) => (Exists (fun (rc137 : Nat) => ((Value.tuple (List.toArray [(Value.agg (List.toArray [(Value.int IntKind.i64 (0 : Int)), (Value.slice (Option.some (Addr.mk b32 0 Option.none)) 2 2), (Value.slice (Option.some (Addr.mk b33 0 Option.none)) 8 8)])), (Value.bool Bool.true)])) = (Value.tuple (List.toArray [(Value.agg (List.toArray [(Value.int IntKind.i64 (0 : Int)), (Value.slice ro034 (ifN (isW key) 2) rc035), (Value.slice ro136 (ifN (isW key) 8) rc137)])), (Value.bool (isW key))])) ∧
   (((Bool.true = Bool.true ∧
   ((Option.some (Addr.mk b32 0 Option.none)) = ro034 ∧
   (37 = 37 ∧
   (Bool.true = Bool.true ∧
   ((Value.int IntKind.i64 (0 : Int)) = (Value.int IntKind.i64 (0 : Int)) ∧
   ((Value.int IntKind.i64 (tagW key ((1000 : Int) + (0 : Int)) (0 : Int) (0 : Int))) = (Value.int IntKind.i64 (newMT key 0)) ∧
   ((Value.int IntKind.i64 (0 : Int)) = (Value.int IntKind.i64 (0 : Int)) ∧
   ((Value.int IntKind.i64 (tagW key ((1000 : Int) + (1 : Int)) (0 : Int) (0 : Int))) = (Value.int IntKind.i64 (newMT key 1)) ∧
   (2 = (ifN (isW key) 2) ∧
   (2 = rc035 ∧
   Bool.true = Bool.true)))))))))) ∧
   ((Bool.true = Bool.true ∧
   ((Option.some (Addr.mk b33 0 Option.none)) = ro136 ∧
   (37 = 37 ∧
   (Bool.true = Bool.true ∧
   ((Value.int IntKind.i64 (0 : Int)) = (Value.int IntKind.i64 (0 : Int)) ∧
   ((Value.int IntKind.i64 (tagW key ((2000 : Int) + (0 : Int)) (0 : Int) (0 : Int))) = (Value.int IntKind.i64 (newLT key 0)) ∧
   ((Value.int IntKind.i64 (0 : Int)) = (Value.int IntKind.i64 (0 : Int)) ∧
   ((Value.int IntKind.i64 (tagW key ((2000 : Int) + (1 : Int)) (0 : Int) (0 : Int))) = (Value.int IntKind.i64 (newLT key 1)) ∧
   ((Value.int IntKind.i64 (0 : Int)) = (Value.int IntKind.i64 (0 : Int)) ∧
   ((Value.int IntKind.i64 (tagW key ((2000 : Int) + (2 : Int)) (0 : Int) (0 : Int))) = (Value.int IntKind.i64 (newLT key 2)) ∧
   ((Value.int IntKind.i64 (0 : Int)) = (Value.int IntKind.i64 (0 : Int)) ∧
   ((Value.int IntKind.i64 (tagW key ((2000 : Int) + (3 : Int)) (0 : Int) (0 : Int))) = (Value.int IntKind.i64 (newLT key 3)) ∧
   ((Value.int IntKind.i64 (0 : Int)) = (Value.int IntKind.i64 (0 : Int)) ∧
   ((Value.int IntKind.i64 (tagW key ((2000 : Int) + (4 : Int)) (0 : Int) (0 : Int))) = (Value.int IntKind.i64 (newLT key 4)) ∧
   ((Value.int IntKind.i64 (0 : Int)) = (Value.int IntKind.i64 (0 : Int)) ∧
   ((Value.int IntKind.i64 (tagW key ((2000 : Int) + (5 : Int)) (0 : Int) (0 : Int))) = (Value.int IntKind.i64 (newLT key 5)) ∧
   ((Value.int IntKind.i64 (0 : Int)) = (Value.int IntKind.i64 (0 : Int)) ∧
   ((Value.int IntKind.i64 (tagW key ((2000 : Int) + (6 : Int)) (0 : Int) (0 : Int))) = (Value.int IntKind.i64 (newLT key 6)) ∧
   ((Value.int IntKind.i64 (0 : Int)) = (Value.int IntKind.i64 (0 : Int)) ∧
   ((Value.int IntKind.i64 (tagW key ((2000 : Int) + (7 : Int)) (0 : Int) (0 : Int))) = (Value.int IntKind.i64 (newLT key 7)) ∧
   (8 = (ifN (isW key) 8) ∧
   (8 = rc137 ∧
   Bool.true = Bool.true)))))))))))))))))))))) ∧
   True)) ∧
   Bool.true = Bool.true))))))))))))))))))))))))))))))))))))))))))))))))))))))))))))))))))))))))))))))))))))))))))))))))))) ∧
   (∀ b38 : Nat,
   (True ∧
   (∀ b39 : Nat,
   (True ∧
   (b31 = b31 ∧
   (True ∧
   (b31 = b31 ∧
   (b31 = b31 ∧
   (b31 = b31 ∧
   (b39 = b39 ∧
   (((0 ≤ (0 : Int) ∧ (0 : Int) < ((2 : Nat) : Int)) ∧
   (tagC (0 : Int))) ∧
   (True ∧
   (b39 = b39 ∧
   (True ∧
   (b31 = b31 ∧
   (b31 = b31 ∧
   (b39 = b39 ∧
   (((0 ≤ (1 : Int) ∧ (1 : Int) < ((2 : Nat) : Int)) ∧
   (tagC (1 : Int))) ∧
   (True ∧
   (b39 = b39 ∧
   (True ∧
   (b31 = b31 ∧
   (b31 = b31 ∧
   (b31 = b31 ∧
   (b39 = b39 ∧
   (b38 = b38 ∧
   (((0 ≤ (0 : Int) ∧ (0 : Int) < ((2 : Nat) : Int)) ∧
   ((0 ≤ (0 : Int) ∧ (0 : Int) < ((8 : Nat) : Int)) ∧
   (tagC (0 : Int)))) ∧
   (True ∧
   (b38 = b38 ∧
   (True ∧
   (b31 = b31 ∧
   (b31 = b31 ∧
   (b39 = b39 ∧
   (b38 = b38 ∧
   (((0 ≤ (0 : Int) ∧ (0 : Int) < ((2 : Nat) : Int)) ∧
   ((0 ≤ (1 : Int) ∧ (1 : Int) < ((8 : Nat) : Int)) ∧
   (tagC (1 : Int)))) ∧
   (True ∧
   (b38 = b38 ∧
   (True ∧
   (b31 = b31 ∧
   (b31 = b31 ∧
   (b39 = b39 ∧
   (b38 = b38 ∧
   (((0 ≤ (0 : Int) ∧ (0 : Int) < ((2 : Nat) : Int)) ∧
   ((0 ≤ (2 : Int) ∧ (2 : Int) < ((8 : Nat) : Int)) ∧
   (tagC (2 : Int)))) ∧
   (True ∧
   (b38 = b38 ∧
   (True ∧
   (b31 = b31 ∧
   (b31 = b31 ∧
   (b39 = b39 ∧
   (b38 = b38 ∧
   (((0 ≤ (0 : Int) ∧ (0 : Int) < ((2 : Nat) : Int)) ∧
   ((0 ≤ (3 : Int) ∧ (3 : Int) < ((8 : Nat) : Int)) ∧
   (tagC (3 : Int)))) ∧
   (True ∧
   (b38 = b38 ∧
   (True ∧
   (b31 = b31 ∧
   (b31 = b31 ∧
   (b39 = b39 ∧
   (b38 = b38 ∧
   (((0 ≤ (1 : Int) ∧ (1 : Int) < ((2 : Nat) : Int)) ∧
   ((0 ≤ (4 : Int) ∧ (4 : Int) < ((8 : Nat) : Int)) ∧
   (tagC (4 : Int)))) ∧
   (True ∧
   (b38 = b38 ∧
   (True ∧
   (b31 = b31 ∧
   (b31 = b31 ∧
   (b39 = b39 ∧
   (b38 = b38 ∧
   (((0 ≤ (1 : Int) ∧ (1 : Int) < ((2 : Nat) : Int)) ∧
   ((0 ≤ (5 : Int) ∧ (5 : Int) < ((8 : Nat) : Int)) ∧
   (tagC (5 : Int)))) ∧
   (True ∧
   (b38 = b38 ∧
   (True ∧
   (b31 = b31 ∧
   (b31 = b31 ∧
   (b39 = b39 ∧
   (b38 = b38 ∧
   (((0 ≤ (1 : Int) ∧ (1 : Int) < ((2 : Nat) : Int)) ∧
   ((0 ≤ (6 : Int) ∧ (6 : Int) < ((8 : Nat) : Int)) ∧
   (tagC (6 : Int)))) ∧
   (True ∧
   (b38 = b38 ∧
   (True ∧
   (b31 = b31 ∧
   (b31 = b31 ∧
   (b39 = b39 ∧
   (b38 = b38 ∧
   (((0 ≤ (1 : Int) ∧ (1 : Int) < ((2 : Nat) : Int)) ∧
   ((0 ≤ (7 : Int) ∧ (7 : Int) < ((8 : Nat) : Int)) ∧
   (tagC (7 : Int)))) ∧
   (True ∧
   (b38 = b38 ∧
   (True ∧
   (b31 = b31 ∧
   (b0 = b0 ∧
   (b0 = b0 ∧
   (Exists (fun (ro040 : (Option Addr)) => (Exists (fun (rc041 : Nat) => (Exists (fun (ro142 : (Option Addr)) => (Exists (fun (rc143 : Nat) => ((Value.tuple (List.toArray [(Value.agg (List.toArray [(Value.int IntKind.i64 (0 : Int)), (Value.slice (Option.some (Addr.mk b39 0 Option.none)) 2 2), (Value.slice (Option.some (Addr.mk b38 0 Option.none)) 8 8)])), (Value.bool Bool.true)])) = (Value.tuple (List.toArray [(Value.agg (List.toArray [(Value.int IntKind.i64 (0 : Int)), (Value.slice ro040 (ifN (isW key) 2) rc041), (Value.slice ro142 (ifN (isW key) 8) rc143)])), (Value.bool (isW key))])) ∧
   (((Bool.true = Bool.true ∧
   ((Option.some (Addr.mk b39 0 Option.none)) = ro040 ∧
   (37 = 37 ∧
   (Bool.true = Bool.true ∧
   ((Value.int IntKind.i64 (0 : Int)) = (Value.int IntKind.i64 (0 : Int)) ∧
   ((Value.int IntKind.i64 (tagW key ((1000 : Int) + (0 : Int)) (0 : Int) (0 : Int))) = (Value.int IntKind.i64 (newMT key 0)) ∧
   ((Value.int IntKind.i64 (0 : Int)) = (Value.int IntKind.i64 (0 : Int)) ∧
   ((Value.int IntKind.i64 (tagW key ((1000 : Int) + (1 : Int)) (0 : Int) (0 : Int))) = (Value.int IntKind.i64 (newMT key 1)) ∧
   (2 = (ifN (isW key) 2) ∧
   (2 = rc041 ∧
   Bool.true = Bool.true)))))))))) ∧
   ((Bool.true = Bool.true ∧
   ((Option.some (Addr.mk b38 0 Option.none)) = ro142 ∧
   (37 = 37 ∧
   (Bool.true = Bool.true ∧
   ((Value.int IntKind.i64 (0 : Int)) = (Value.int IntKind.i64 (0 : Int)) ∧
   ((Value.int IntKind.i64 (tagW key ((2000 : Int) + (0 : Int)) (0 : Int) (0 : Int))) = (Value.int IntKind.i64 (newLT key 0)) ∧
   ((Value.int IntKind.i64 (0 : Int)) = (Value.int IntKind.i64 (0 : Int)) ∧
   ((Value.int IntKind.i64 (tagW key ((2000 : Int) + (1 : Int)) (0 : Int) (0 : Int))) = (Value.int IntKind.i64 (newLT key 1)) ∧
   ((Value.int IntKind.i64 (0 : Int)) = (Value.int IntKind.i64 (0 : Int)) ∧
   ((Value.int IntKind.i64 (tagW key ((2000 : Int) + (2 : Int)) (0 : Int) (0 : Int))) = (Value.int IntKind.i64 (newLT key 2)) ∧
   ((Value.int IntKind.i64 (0 : Int)) = (Value.int IntKind.i64 (0 : Int)) ∧
   ((Value.int IntKind.i64 (tagW key ((2000 : Int) + (3 : Int)) (0 : Int) (0 : Int))) = (Value.int IntKind.i64 (newLT key 3)) ∧
   ((Value.int IntKind.i64 (0 : Int)) = (Value.int IntKind.i64 (0 : Int)) ∧
   ((Value.int IntKind.i64 (tagW key ((2000 : Int) + (4 : Int)) (0 : Int) (0 : Int))) = (Value.int IntKind.i64 (newLT key 4)) ∧
   ((Value.int IntKind.i64 (0 : Int)) = (Value.int IntKind.i64 (0 : Int)) ∧
   ((Value.int IntKind.i64 (tagW key ((2000 : Int) + (5 : Int)) (0 : Int) (0 : Int))) = (Value.int IntKind.i64 (newLT key 5)) ∧
   ((Value.int IntKind.i64 (0 : Int)) = (Value.int IntKind.i64 (0 : Int)) ∧
   ((Value.int IntKind.i64 (tagW key ((2000 : Int) + (6 : Int)) (0 : Int) (0 : Int))) = (Value.int IntKind.i64 (newLT key 6)) ∧
   ((Value.int IntKind.i64 (0 : Int)) = (Value.int IntKind.i64 (0 : Int)) ∧
   ((Value.int IntKind.i64 (tagW key ((2000 : Int) + (7 : Int)) (0 : Int) (0 : Int))) = (Value.int IntKind.i64 (newLT key 7)) ∧
   (8 = (ifN (isW key) 8) ∧
   (8 = rc143 ∧
   Bool.true = Bool.true)))))))))))))))))))))) ∧
   True)) ∧
   Bool.true = Bool.true)))))))))))))))))))))))))))))))))))))))))))))))))))))))))))))))))))))))))))))))))))))))))))))))))))))))))))) := by kernel_rfl
theorem newI_any (key : Int) (w : World) : Calls Try.prog 11 #[.int .i64 key] w fun e w' => ∃ (ro0 : Option Addr) (rc0 : Nat) (ro1 : Option Addr) (rc1 : Nat), e = .returned (.tuple #[.agg #[.int .i64 (0), .slice ro0 (ifN (isW key) 2) rc0, .slice ro1 (ifN (isW key) 8) rc1], .bool (isW key)]) ∧ HS ⟨w, fun _ => False⟩ [.row ⟨true, ro0, 37, 2, ifN (isW key) 2, rc0, [fun i => .int (0), fun i => .int (newMT key i)]⟩, .row ⟨true, ro1, 37, 2, ifN (isW key) 8, rc1, [fun i => .int (0), fun i => .int (newLT key i)]⟩] w' := by
  refine fnB (tb := [(29, sIsW), (30, sMidT), (31, sLeafT)]) ⟨sIsW_impl, sMidT_impl, sLeafT_impl, trivial⟩ Try.func11 (@Eq.mpr _ _ (newI_T key) ?_) (HS.start w (fun _ => False)) (fun v ch' w' ⟨ro0, rc0, ro1, rc1, hk⟩ hs => ⟨ro0, rc0, ro1, rc1, by rw [hk.1], hk.hs hs⟩)
  repeat' (first
    | exact rfl
    | exact True.intro
    | refine And.intro ?_ ?_
    | apply Exists.intro
    | assumption
    | omega
    | intro _)
  all_goals (try simp_all [ifN, newMT, newLT])
theorem newS_T (key : Int) : (exFn Try.prog {tb := [(34, sIsW), (35, sMidT), (36, sLeafT)]} 400 Try.f15 ([.a (.c (.int key))]) ([]) (fun v ch => ∃ (ro0 : Option Addr) (rc0 : Nat) (ro1 : Option Addr) (rc1 : Nat), OutR v ch (.tuple #[.agg #[.int .i64 (0), .slice ro0 (ifN (isW key) 2) rc0, .slice ro1 (ifN (isW key) 8) rc1], .bool (isW key)]) [.row ⟨true, ro0, 37, 2, ifN (isW key) 2, rc0, [fun i => .int (0), fun i => .int (newMT key i)]⟩, .row ⟨true, ro1, 37, 2, ifN (isW key) 8, rc1, [fun i => .int (0), fun i => .int (newLT key i)]⟩])) = (
  (∀ b0 : Nat,
  (((!(isW key)) = Bool.true →
  (b0 = b0 ∧
   (b0 = b0 ∧
   (Exists (fun (ro01 : (Option Addr)) => (Exists (fun (rc02 : Nat) => (Exists (fun (ro13 : (Option Addr)) => (Exists (fun (rc14 : Nat) => ((Value.tuple (List.toArray [(Value.agg (List.toArray [(Value.int IntKind.i64 (0 : Int)), (Value.slice Option.none 0 0), (Value.slice Option.none 0 0)])), (Value.bool Bool.false)])) = (Value.tuple (List.toArray [(Value.agg (List.toArray [(Value.int IntKind.i64 (0 : Int)), (Value.slice ro01 (ifN (isW key) 2) rc02), (Value.slice ro13 (ifN (isW key) 8) rc14)])), (Value.bool (isW key))])) ∧
   (((Bool.true = Bool.true ∧
   (Option.none = ro01 ∧
   (0 = (ifN (isW key) 2) ∧
   (0 = rc02 ∧
   Bool.true = Bool.true)))) ∧
   ((Bool.true = Bool.true ∧
   (Option.none = ro13 ∧
   (0 = (ifN (isW key) 8) ∧
   (0 = rc14 ∧
   Bool.true = Bool.true)))) ∧
   True)) ∧
   Bool.true = Bool.true))))))))))))) ∧
  ((!(isW key)) = Bool.false →
  ((∀ b5 : Nat,
   (True ∧
   ((∀ b6 : Nat,
   (True ∧
   (∀ b7 : Nat,
   (True ∧
   (b7 = b7 ∧
   (True ∧
   (b7 = b7 ∧
   (b7 = b7 ∧
   (b5 = b5 ∧
   (((0 ≤ (0 : Int) ∧ (0 : Int) < ((2 : Nat) : Int)) ∧
   (tagC (0 : Int))) ∧
   (True ∧
   (b5 = b5 ∧
   (True ∧
   (b7 = b7 ∧
   (b7 = b7 ∧
   (b5 = b5 ∧
   (((0 ≤ (1 : Int) ∧ (1 : Int) < ((2 : Nat) : Int)) ∧
   (tagC (1 : Int))) ∧
   (True ∧
   (b5 = b5 ∧
   (True ∧
   (b7 = b7 ∧
   (b7 = b7 ∧
   (b5 = b5 ∧
   (b6 = b6 ∧
   (((0 ≤ (0 : Int) ∧ (0 : Int) < ((2 : Nat) : Int)) ∧
   ((0 ≤ (0 : Int) ∧ (0 : Int) < ((8 : Nat) : Int)) ∧
   (tagC (0 : Int)))) ∧
   (True ∧
   (b6 = b6 ∧
   (True ∧
   (b7 = b7 ∧
   (b7 = b7 ∧
   (b5 = b5 ∧
   (b6 = b6 ∧
   (((0 ≤ (0 : Int) ∧ (0 : Int) < ((2 : Nat) : Int)) ∧
   ((0 ≤ (1 : Int) ∧ (1 : Int) < ((8 : Nat) : Int)) ∧
   (tagC (1 : Int)))) ∧
   (True ∧
   (b6 = b6 ∧
   (True ∧
   (b7 = b7 ∧
   (b7 = b7 ∧
   (b5 = b5 ∧
   (b6 = b6 ∧
   (((0 ≤ (0 : Int) ∧ (0 : Int) < ((2 : Nat) : Int)) ∧
   ((0 ≤ (2 : Int) ∧ (2 : Int) < ((8 : Nat) : Int)) ∧
   (tagC (2 : Int)))) ∧
   (True ∧
   (b6 = b6 ∧
   (True ∧
   (b7 = b7 ∧
   (b7 = b7 ∧
   (b5 = b5 ∧
   (b6 = b6 ∧
   (((0 ≤ (0 : Int) ∧ (0 : Int) < ((2 : Nat) : Int)) ∧
   ((0 ≤ (3 : Int) ∧ (3 : Int) < ((8 : Nat) : Int)) ∧
   (tagC (3 : Int)))) ∧
   (True ∧
   (b6 = b6 ∧
   (True ∧
   (b7 = b7 ∧
   (b7 = b7 ∧
   (b5 = b5 ∧
   (b6 = b6 ∧
   (((0 ≤ (1 : Int) ∧ (1 : Int) < ((2 : Nat) : Int)) ∧
   ((0 ≤ (4 : Int) ∧ (4 : Int) < ((8 : Nat) : Int)) ∧
   (tagC (4 : Int)))) ∧
   (True ∧
   (b6 = b6 ∧
   (True ∧
   (b7 = b7 ∧
   (b7 = b7 ∧
   (b5 = b5 ∧
   (b6 = b6 ∧
   (((0 ≤ (1 : Int) ∧ (1 : Int) < ((2 : Nat) : Int)) ∧
   ((0 ≤ (5 : Int) ∧ (5 : Int) < ((8 : Nat) : Int)) ∧
   (tagC (5 : Int)))) ∧
   (True ∧
   (b6 = b6 ∧
   (True ∧
   (b7 = b7 ∧
   (b7 = b7 ∧
   (b5 = b5 ∧
   (b6 = b6 ∧
   (((0 ≤ (1 : Int) ∧ (1 : Int) < ((2 : Nat) : Int)) ∧
   ((0 ≤ (6 : Int) ∧ (6 : Int) < ((8 : Nat) : Int)) ∧
   (tagC (6 : Int)))) ∧
   (True ∧
   (b6 = b6 ∧
   (True ∧
   (b7 = b7 ∧
   (b7 = b7 ∧
   (b5 = b5 ∧
   (b6 = b6 ∧
   (((0 ≤ (1 : Int) ∧ (1 : Int) < ((2 : Nat) : Int)) ∧
   ((0 ≤ (7 : Int) ∧ (7 : Int) < ((8 : Nat) : Int)) ∧
   (tagC (7 : Int)))) ∧
   (True ∧
   (b6 = b6 ∧
   (True ∧
   (b7 = b7 ∧
   (b0 = b0 ∧
   (b0 = b0 ∧
   (Exists (fun (ro08 : (Option Addr)) => (Exists (fun (rc09 : Nat) => (Exists (fun (ro110 : (Option Addr)) => (Exists (fun (rc111 : Nat) => ((Value.tuple (List.toArray [(Value.agg (List.toArray [(Value.int IntKind.i64 (0 : Int)), (Value.slice (Option.some (Addr.mk b5 0 Option.none)) 2 2), (Value.slice (Option.some (Addr.mk b6 0 Option.none)) 8 8)])), (Value.bool Bool.true)])) = (Value.tuple (List.toArray [(Value.agg (List.toArray [(Value.int IntKind.i64 (0 : Int)), (Value.slice ro08 (ifN (isW key) 2) rc09), (Value.slice ro110 (ifN (isW key) 8) rc111)])), (Value.bool (isW key))])) ∧
   (((Bool.true = Bool.true ∧
   ((Option.some (Addr.mk b5 0 Option.none)) = ro08 ∧
   (37 = 37 ∧
   (Bool.true = Bool.true ∧
   ((Value.int IntKind.i64 (0 : Int)) = (Value.int IntKind.i64 (0 : Int)) ∧
   ((Value.int IntKind.i64 (tagW key ((1000 : Int) + (0 : Int)) (0 : Int) (0 : Int))) = (Value.int IntKind.i64 (newMT key 0)) ∧
   ((Value.int IntKind.i64 (0 : Int)) = (Value.int IntKind.i64 (0 : Int)) ∧
   ((Value.int IntKind.i64 (tagW key ((1000 : Int) + (1 : Int)) (0 : Int) (0 : Int))) = (Value.int IntKind.i64 (newMT key 1)) ∧
   (2 = (ifN (isW key) 2) ∧
   (2 = rc09 ∧
   Bool.true = Bool.true)))))))))) ∧
   ((Bool.true = Bool.true ∧
   ((Option.some (Addr.mk b6 0 Option.none)) = ro110 ∧
   (37 = 37 ∧
   (Bool.true = Bool.true ∧
   ((Value.int IntKind.i64 (0 : Int)) = (Value.int IntKind.i64 (0 : Int)) ∧
   ((Value.int IntKind.i64 (tagW key ((2000 : Int) + (0 : Int)) (0 : Int) (0 : Int))) = (Value.int IntKind.i64 (newLT key 0)) ∧
   ((Value.int IntKind.i64 (0 : Int)) = (Value.int IntKind.i64 (0 : Int)) ∧
   ((Value.int IntKind.i64 (tagW key ((2000 : Int) + (1 : Int)) (0 : Int) (0 : Int))) = (Value.int IntKind.i64 (newLT key 1)) ∧
   ((Value.int IntKind.i64 (0 : Int)) = (Value.int IntKind.i64 (0 : Int)) ∧
   ((Value.int IntKind.i64 (tagW key ((2000 : Int) + (2 : Int)) (0 : Int) (0 : Int))) = (Value.int IntKind.i64 (newLT key 2)) ∧
   ((Value.int IntKind.i64 (0 : Int)) = (Value.int IntKind.i64 (0 : Int)) ∧
   ((Value.int IntKind.i64 (tagW key ((2000 : Int) + (3 : Int)) (0 : Int) (0 : Int))) = (Value.int IntKind.i64 (newLT key 3)) ∧
   ((Value.int IntKind.i64 (0 : Int)) = (Value.int IntKind.i64 (0 : Int)) ∧
   ((Value.int IntKind.i64 (tagW key ((2000 : Int) + (4 : Int)) (0 : Int) (0 : Int))) = (Value.int IntKind.i64 (newLT key 4)) ∧
   ((Value.int IntKind.i64 (0 : Int)) = (Value.int IntKind.i64 (0 : Int)) ∧
   ((Value.int IntKind.i64 (tagW key ((2000 : Int) + (5 : Int)) (0 : Int) (0 : Int))) = (Value.int IntKind.i64 (newLT key 5)) ∧
   ((Value.int IntKind.i64 (0 : Int)) = (Value.int IntKind.i64 (0 : Int)) ∧
   ((Value.int IntKind.i64 (tagW key ((2000 : Int) + (6 : Int)) (0 : Int) (0 : Int))) = (Value.int IntKind.i64 (newLT key 6)) ∧
   ((Value.int IntKind.i64 (0 : Int)) = (Value.int IntKind.i64 (0 : Int)) ∧
   ((Value.int IntKind.i64 (tagW key ((2000 : Int) + (7 : Int)) (0 : Int) (0 : Int))) = (Value.int IntKind.i64 (newLT key 7)) ∧
   (8 = (ifN (isW key) 8) ∧
   (8 = rc111 ∧
   Bool.true = Bool.true)))))))))))))))))))))) ∧
   True)) ∧
   Bool.true = Bool.true))))))))))))))))))))))))))))))))))))))))))))))))))))))))))))))))))))))))))))))))))))))))))))))))) ∧
   (∀ b12 : Nat,
   (True ∧
   (∀ b13 : Nat,
   (True ∧
   (b12 = b12 ∧
   (True ∧
   (b12 = b12 ∧
   (b12 = b12 ∧
   (b5 = b5 ∧
   (((0 ≤ (0 : Int) ∧ (0 : Int) < ((2 : Nat) : Int)) ∧
   (tagC (0 : Int))) ∧
   (True ∧
   (b5 = b5 ∧
   (True ∧
   (b12 = b12 ∧
   (b12 = b12 ∧
   (b5 = b5 ∧
   (((0 ≤ (1 : Int) ∧ (1 : Int) < ((2 : Nat) : Int)) ∧
   (tagC (1 : Int))) ∧
   (True ∧
   (b5 = b5 ∧
   (True ∧
   (b12 = b12 ∧
   (b12 = b12 ∧
   (b5 = b5 ∧
   (b13 = b13 ∧
   (((0 ≤ (0 : Int) ∧ (0 : Int) < ((2 : Nat) : Int)) ∧
   ((0 ≤ (0 : Int) ∧ (0 : Int) < ((8 : Nat) : Int)) ∧
   (tagC (0 : Int)))) ∧
   (True ∧
   (b13 = b13 ∧
   (True ∧
   (b12 = b12 ∧
   (b12 = b12 ∧
   (b5 = b5 ∧
   (b13 = b13 ∧
   (((0 ≤ (0 : Int) ∧ (0 : Int) < ((2 : Nat) : Int)) ∧
   ((0 ≤ (1 : Int) ∧ (1 : Int) < ((8 : Nat) : Int)) ∧
   (tagC (1 : Int)))) ∧
   (True ∧
   (b13 = b13 ∧
   (True ∧
   (b12 = b12 ∧
   (b12 = b12 ∧
   (b5 = b5 ∧
   (b13 = b13 ∧
   (((0 ≤ (0 : Int) ∧ (0 : Int) < ((2 : Nat) : Int)) ∧
   ((0 ≤ (2 : Int) ∧ (2 : Int) < ((8 : Nat) : Int)) ∧
   (tagC (2 : Int)))) ∧
   (True ∧
   (b13 = b13 ∧
   (True ∧
   (b12 = b12 ∧
   (b12 = b12 ∧
   (b5 = b5 ∧
   (b13 = b13 ∧
   (((0 ≤ (0 : Int) ∧ (0 : Int) < ((2 : Nat) : Int)) ∧
   ((0 ≤ (3 : Int) ∧ (3 : Int) < ((8 : Nat) : Int)) ∧
   (tagC (3 : Int)))) ∧
   (True ∧
   (b13 = b13 ∧
   (True ∧
   (b12 = b12 ∧
   (b12 = b12 ∧
   (b5 = b5 ∧
   (b13 = b13 ∧
   (((0 ≤ (1 : Int) ∧ (1 : Int) < ((2 : Nat) : Int)) ∧
   ((0 ≤ (4 : Int) ∧ (4 : Int) < ((8 : Nat) : Int)) ∧
   (tagC (4 : Int)))) ∧
   (True ∧
   (b13 = b13 ∧
   (True ∧
   (b12 = b12 ∧
   (b12 = b12 ∧
   (b5 = b5 ∧
   (b13 = b13 ∧
   (((0 ≤ (1 : Int) ∧ (1 : Int) < ((2 : Nat) : Int)) ∧
   ((0 ≤ (5 : Int) ∧ (5 : Int) < ((8 : Nat) : Int)) ∧
   (tagC (5 : Int)))) ∧
   (True ∧
   (b13 = b13 ∧
   (True ∧
   (b12 = b12 ∧
   (b12 = b12 ∧
   (b5 = b5 ∧
   (b13 = b13 ∧
   (((0 ≤ (1 : Int) ∧ (1 : Int) < ((2 : Nat) : Int)) ∧
   ((0 ≤ (6 : Int) ∧ (6 : Int) < ((8 : Nat) : Int)) ∧
   (tagC (6 : Int)))) ∧
   (True ∧
   (b13 = b13 ∧
   (True ∧
   (b12 = b12 ∧
   (b12 = b12 ∧
   (b5 = b5 ∧
   (b13 = b13 ∧
   (((0 ≤ (1 : Int) ∧ (1 : Int) < ((2 : Nat) : Int)) ∧
   ((0 ≤ (7 : Int) ∧ (7 : Int) < ((8 : Nat) : Int)) ∧
   (tagC (7 : Int)))) ∧
   (True ∧
   (b13 = b13 ∧
   (True ∧
   (b12 = b12 ∧
   (b0 = b0 ∧
   (b0 = b0 ∧
   (Exists (fun (ro014 : (Option Addr)) => (Exists (fun (rc015 : Nat) => (Exists (fun (ro116 : (Option Addr)) => (Exists (fun (rc117 : Nat) => ((Value.tuple (List.toArray [(Value.agg (List.toArray [(Value.int IntKind.i64 (0 : Int)), (Value.slice (Option.some (Addr.mk b5 0 Option.none)) 2 2), (Value.slice (Option.some (Addr.mk b13 0 Option.none)) 8 8)])), (Value.bool Bool.true)])) = (Value.tuple (List.toArray [(Value.agg (List.toArray [(Value.int IntKind.i64 (0 : Int)), (Value.slice ro014 (ifN (isW key) 2) rc015), (Value.slice ro116 (ifN (isW key) 8) rc117)])), (Value.bool (isW key))])) ∧
   (((Bool.true = Bool.true ∧
   ((Option.some (Addr.mk b5 0 Option.none)) = ro014 ∧
   (37 = 37 ∧
   (Bool.true = Bool.true ∧
   ((Value.int IntKind.i64 (0 : Int)) = (Value.int IntKind.i64 (0 : Int)) ∧
   ((Value.int IntKind.i64 (tagW key ((1000 : Int) + (0 : Int)) (0 : Int) (0 : Int))) = (Value.int IntKind.i64 (newMT key 0)) ∧
   ((Value.int IntKind.i64 (0 : Int)) = (Value.int IntKind.i64 (0 : Int)) ∧
   ((Value.int IntKind.i64 (tagW key ((1000 : Int) + (1 : Int)) (0 : Int) (0 : Int))) = (Value.int IntKind.i64 (newMT key 1)) ∧
   (2 = (ifN (isW key) 2) ∧
   (2 = rc015 ∧
   Bool.true = Bool.true)))))))))) ∧
   ((Bool.true = Bool.true ∧
   ((Option.some (Addr.mk b13 0 Option.none)) = ro116 ∧
   (37 = 37 ∧
   (Bool.true = Bool.true ∧
   ((Value.int IntKind.i64 (0 : Int)) = (Value.int IntKind.i64 (0 : Int)) ∧
   ((Value.int IntKind.i64 (tagW key ((2000 : Int) + (0 : Int)) (0 : Int) (0 : Int))) = (Value.int IntKind.i64 (newLT key 0)) ∧
   ((Value.int IntKind.i64 (0 : Int)) = (Value.int IntKind.i64 (0 : Int)) ∧
   ((Value.int IntKind.i64 (tagW key ((2000 : Int) + (1 : Int)) (0 : Int) (0 : Int))) = (Value.int IntKind.i64 (newLT key 1)) ∧
   ((Value.int IntKind.i64 (0 : Int)) = (Value.int IntKind.i64 (0 : Int)) ∧
   ((Value.int IntKind.i64 (tagW key ((2000 : Int) + (2 : Int)) (0 : Int) (0 : Int))) = (Value.int IntKind.i64 (newLT key 2)) ∧
   ((Value.int IntKind.i64 (0 : Int)) = (Value.int IntKind.i64 (0 : Int)) ∧
   ((Value.int IntKind.i64 (tagW key ((2000 : Int) + (3 : Int)) (0 : Int) (0 : Int))) = (Value.int IntKind.i64 (newLT key 3)) ∧
   ((Value.int IntKind.i64 (0 : Int)) = (Value.int IntKind.i64 (0 : Int)) ∧
   ((Value.int IntKind.i64 (tagW key ((2000 : Int) + (4 : Int)) (0 : Int) (0 : Int))) = (Value.int IntKind.i64 (newLT key 4)) ∧
   ((Value.int IntKind.i64 (0 : Int)) = (Value.int IntKind.i64 (0 : Int)) ∧
   ((Value.int IntKind.i64 (tagW key ((2000 : Int) + (5 : Int)) (0 : Int) (0 : Int))) = (Value.int IntKind.i64 (newLT key 5)) ∧
   ((Value.int IntKind.i64 (0 : Int)) = (Value.int IntKind.i64 (0 : Int)) ∧
   ((Value.int IntKind.i64 (tagW key ((2000 : Int) + (6 : Int)) (0 : Int) (0 : Int))) = (Value.int IntKind.i64 (newLT key 6)) ∧
   ((Value.int IntKind.i64 (0 : Int)) = (Value.int IntKind.i64 (0 : Int)) ∧
   ((Value.int IntKind.i64 (tagW key ((2000 : Int) + (7 : Int)) (0 : Int) (0 : Int))) = (Value.int IntKind.i64 (newLT key 7)) ∧
   (8 = (ifN (isW key) 8) ∧
   (8 = rc117 ∧
   Bool.true = Bool.true)))))))))))))))))))))) ∧
   True)) ∧
   Bool.true = Bool.true)))))))))))))))))))))))))))))))))))))))))))))))))))))))))))))))))))))))))))))))))))))))))))))))))))) ∧
   ((∀ b18 : Nat,
   (True ∧
   ((∀ b19 : Nat,
   (True ∧
   (∀ b20 : Nat,
   (True ∧
   (b20 = b20 ∧
   (True ∧
   (b20 = b20 ∧
   (b20 = b20 ∧
   (b19 = b19 ∧
   (((0 ≤ (0 : Int) ∧ (0 : Int) < ((2 : Nat) : Int)) ∧
   (tagC (0 : Int))) ∧
   (True ∧
   (b19 = b19 ∧
   (True ∧
   (b20 = b20 ∧
   (b20 = b20 ∧
   (b19 = b19 ∧
   (((0 ≤ (1 : Int) ∧ (1 : Int) < ((2 : Nat) : Int)) ∧
   (tagC (1 : Int))) ∧
   (True ∧
   (b19 = b19 ∧
   (True ∧
   (b20 = b20 ∧
   (b20 = b20 ∧
   (b19 = b19 ∧
   (b18 = b18 ∧
   (((0 ≤ (0 : Int) ∧ (0 : Int) < ((2 : Nat) : Int)) ∧
   ((0 ≤ (0 : Int) ∧ (0 : Int) < ((8 : Nat) : Int)) ∧
   (tagC (0 : Int)))) ∧
   (True ∧
   (b18 = b18 ∧
   (True ∧
   (b20 = b20 ∧
   (b20 = b20 ∧
   (b19 = b19 ∧
   (b18 = b18 ∧
   (((0 ≤ (0 : Int) ∧ (0 : Int) < ((2 : Nat) : Int)) ∧
   ((0 ≤ (1 : Int) ∧ (1 : Int) < ((8 : Nat) : Int)) ∧
   (tagC (1 : Int)))) ∧
   (True ∧
   (b18 = b18 ∧
   (True ∧
   (b20 = b20 ∧
   (b20 = b20 ∧
   (b19 = b19 ∧
   (b18 = b18 ∧
   (((0 ≤ (0 : Int) ∧ (0 : Int) < ((2 : Nat) : Int)) ∧
   ((0 ≤ (2 : Int) ∧ (2 : Int) < ((8 : Nat) : Int)) ∧
   (tagC (2 : Int)))) ∧
   (True ∧
   (b18 = b18 ∧
   (True ∧
   (b20 = b20 ∧
   (b20 = b20 ∧
   (b19 = b19 ∧
   (b18 = b18 ∧
   (((0 ≤ (0 : Int) ∧ (0 : Int) < ((2 : Nat) : Int)) ∧
   ((0 ≤ (3 : Int) ∧ (3 : Int) < ((8 : Nat) : Int)) ∧
   (tagC (3 : Int)))) ∧
   (True ∧
   (b18 = b18 ∧
   (True ∧
   (b20 = b20 ∧
   (b20 = b20 ∧
   (b19 = b19 ∧
   (b18 = b18 ∧
   (((0 ≤ (1 : Int) ∧ (1 : Int) < ((2 : Nat) : Int)) ∧
   ((0 ≤ (4 : Int) ∧ (4 : Int) < ((8 : Nat) : Int)) ∧
   (tagC (4 : Int)))) ∧
   (True ∧
   (b18 = b18 ∧
   (True ∧
   (b20 = b20 ∧
   (b20 = b20 ∧
   (b19 = b19 ∧
   (b18 = b18 ∧
   (((0 ≤ (1 : Int) ∧ (1 : Int) < ((2 : Nat) : Int)) ∧
   ((0 ≤ (5 : Int) ∧ (5 : Int) < ((8 : Nat) : Int)) ∧
   (tagC (5 : Int)))) ∧
   (True ∧
   (b18 = b18 ∧
   (True ∧
   (b20 = b20 ∧
   (b20 = b20 ∧
   (b19 = b19 ∧
   (b18 = b18 ∧
   (((0 ≤ (1 : Int) ∧ (1 : Int) < ((2 : Nat) : Int)) ∧
   ((0 ≤ (6 : Int) ∧ (6 : Int) < ((8 : Nat) : Int)) ∧
   (tagC (6 : Int)))) ∧
   (True ∧
   (b18 = b18 ∧
   (True ∧
   (b20 = b20 ∧
   (b20 = b20 ∧
   (b19 = b19 ∧
   (b18 = b18 ∧
   (((0 ≤ (1 : Int) ∧ (1 : Int) < ((2 : Nat) : Int)) ∧
   ((0 ≤ (7 : Int) ∧ (7 : Int) < ((8 : Nat) : Int)) ∧
   (tagC (7 : Int)))) ∧
   (True ∧
   (b18 = b18 ∧
   (True ∧
   (b20 = b20 ∧
   (b0 = b0 ∧
   (b0 = b0 ∧
   (Exists (fun (ro021 : (Option Addr)) => (Exists (fun (rc022 : Nat) => (Exists (fun (ro123 : (Option Addr)) => (Exists (fun (rc124 : Nat) => ((Value.tuple (List.toArray [(Value.agg (List.toArray [(Value.int IntKind.i64 (0 : Int)), (Value.slice (Option.some (Addr.mk b19 0 Option.none)) 2 2), (Value.slice (Option.some (Addr.mk b18 0 Option.none)) 8 8)])), (Value.bool Bool.true)])) = (Value.tuple (List.toArray [(Value.agg (List.toArray [(Value.int IntKind.i64 (0 : Int)), (Value.slice ro021 (ifN (isW key) 2) rc022), (Value.slice ro123 (ifN (isW key) 8) rc124)])), (Value.bool (isW key))])) ∧
   (((Bool.true = Bool.true ∧
   ((Option.some (Addr.mk b19 0 Option.none)) = ro021 ∧
   (37 = 37 ∧
   (Bool.true = Bool.true ∧
   ((Value.int IntKind.i64 (0 : Int)) = (Value.int IntKind.i64 (0 : Int)) ∧
   ((Value.int IntKind.i64 (tagW key ((1000 : Int) + (0 : Int)) (0 : Int) (0 : Int))) = (Value.int IntKind.i64 (newMT key 0)) ∧
   ((Value.int IntKind.i64 (0 : Int)) = (Value.int IntKind.i64 (0 : Int)) ∧
   ((Value.int IntKind.i64 (tagW key ((1000 : Int) + (1 : Int)) (0 : Int) (0 : Int))) = (Value.int IntKind.i64 (newMT key 1)) ∧
   (2 = (ifN (isW key) 2) ∧
   (2 = rc022 ∧
   Bool.true = Bool.true)))))))))) ∧
   ((Bool.true = Bool.true ∧
   ((Option.some (Addr.mk b18 0 Option.none)) = ro123 ∧
   (37 = 37 ∧
   (Bool.true = Bool.true ∧
   ((Value.int IntKind.i64 (0 : Int)) = (Value.int IntKind.i64 (0 : Int)) ∧
   ((Value.int IntKind.i64 (tagW key ((2000 : Int) + (0 : Int)) (0 : Int) (0 : Int))) = (Value.int IntKind.i64 (newLT key 0)) ∧
   ((Value.int IntKind.i64 (0 : Int)) = (Value.int IntKind.i64 (0 : Int)) ∧
   ((Value.int IntKind.i64 (tagW key ((2000 : Int) + (1 : Int)) (0 : Int) (0 : Int))) = (Value.int IntKind.i64 (newLT key 1)) ∧
   ((Value.int IntKind.i64 (0 : Int)) = (Value.int IntKind.i64 (0 : Int)) ∧
   ((Value.int IntKind.i64 (tagW key ((2000 : Int) + (2 : Int)) (0 : Int) (0 : Int))) = (Value.int IntKind.i64 (newLT key 2)) ∧
   ((Value.int IntKind.i64 (0 : Int)) = (Value.int IntKind.i64 (0 : Int)) ∧
   ((Value.int IntKind.i64 (tagW key ((2000 : Int) + (3 : Int)) (0 : Int) (0 : Int))) = (Value.int IntKind.i64 (newLT key 3)) ∧
   ((Value.int IntKind.i64 (0 : Int)) = (Value.int IntKind.i64 (0 : Int)) ∧
   ((Value.int IntKind.i64 (tagW key ((2000 : Int) + (4 : Int)) (0 : Int) (0 : Int))) = (Value.int IntKind.i64 (newLT key 4)) ∧
   ((Value.int IntKind.i64 (0 : Int)) = (Value.int IntKind.i64 (0 : Int)) ∧
   ((Value.int IntKind.i64 (tagW key ((2000 : Int) + (5 : Int)) (0 : Int) (0 : Int))) = (Value.int IntKind.i64 (newLT key 5)) ∧
   ((Value.int IntKind.i64 (0 : Int)) = (Value.int IntKind.i64 (0 : Int)) ∧
   ((Value.int IntKind.i64 (tagW key ((2000 : Int) + (6 : Int)) (0 : Int) (0 : Int))) = (Value.int IntKind.i64 (newLT key 6)) ∧
   ((Value.int IntKind.i64 (0 : Int)) = (Value.int IntKind.i64 (0 : Int)) ∧
   ((Value.int IntKind.i64 (tagW key ((2000 : Int) + (7 : Int)) (0 : Int) (0 : Int))) = (Value.int IntKind.i64 (newLT key 7)) ∧
   (8 = (ifN (isW key) 8) ∧
   (8 = rc124 ∧
   Bool.true = Bool.true)))))))))))))))))))))) ∧
   True)) ∧
   Bool.true = Bool.true))))))))))))))))))))))))))))))))))))))))))))))))))))))))))))))))))))))))))))))))))))))))))))))))) ∧
   (∀ b25 : Nat,
   (True ∧
   (∀ b26 : Nat,
   (True ∧
   (b25 = b25 ∧
   (True ∧
   (b25 = b25 ∧
   (b25 = b25 ∧
   (b26 = b26 ∧
   (((0 ≤ (0 : Int) ∧ (0 : Int) < ((2 : Nat) : Int)) ∧
   (tagC (0 : Int))) ∧
   (True ∧
   (b26 = b26 ∧
   (True ∧
   (b25 = b25 ∧
   (b25 = b25 ∧
   (b26 = b26 ∧
   (((0 ≤ (1 : Int) ∧ (1 : Int) < ((2 : Nat) : Int)) ∧
   (tagC (1 : Int))) ∧
   (True ∧
   (b26 = b26 ∧
   (True ∧
   (b25 = b25 ∧
   (b25 = b25 ∧
   (b26 = b26 ∧
   (b18 = b18 ∧
   (((0 ≤ (0 : Int) ∧ (0 : Int) < ((2 : Nat) : Int)) ∧
   ((0 ≤ (0 : Int) ∧ (0 : Int) < ((8 : Nat) : Int)) ∧
   (tagC (0 : Int)))) ∧
   (True ∧
   (b18 = b18 ∧
   (True ∧
   (b25 = b25 ∧
   (b25 = b25 ∧
   (b26 = b26 ∧
   (b18 = b18 ∧
   (((0 ≤ (0 : Int) ∧ (0 : Int) < ((2 : Nat) : Int)) ∧
   ((0 ≤ (1 : Int) ∧ (1 : Int) < ((8 : Nat) : Int)) ∧
   (tagC (1 : Int)))) ∧
   (True ∧
   (b18 = b18 ∧
   (True ∧
   (b25 = b25 ∧
   (b25 = b25 ∧
   (b26 = b26 ∧
   (b18 = b18 ∧
   (((0 ≤ (0 : Int) ∧ (0 : Int) < ((2 : Nat) : Int)) ∧
   ((0 ≤ (2 : Int) ∧ (2 : Int) < ((8 : Nat) : Int)) ∧
   (tagC (2 : Int)))) ∧
   (True ∧
   (b18 = b18 ∧
   (True ∧
   (b25 = b25 ∧
   (b25 = b25 ∧
   (b26 = b26 ∧
   (b18 = b18 ∧
   (((0 ≤ (0 : Int) ∧ (0 : Int) < ((2 : Nat) : Int)) ∧
   ((0 ≤ (3 : Int) ∧ (3 : Int) < ((8 : Nat) : Int)) ∧
   (tagC (3 : Int)))) ∧
   (True ∧
   (b18 = b18 ∧
   (True ∧
   (b25 = b25 ∧
   (b25 = b25 ∧
   (b26 = b26 ∧
   (b18 = b18 ∧
   (((0 ≤ (1 : Int) ∧ (1 : Int) < ((2 : Nat) : Int)) ∧
   ((0 ≤ (4 : Int) ∧ (4 : Int) < ((8 : Nat) : Int)) ∧
   (tagC (4 : Int)))) ∧
   (True ∧
   (b18 = b18 ∧
   (True ∧
   (b25 = b25 ∧
   (b25 = b25 ∧
   (b26 = b26 ∧
   (b18 = b18 ∧
   (((0 ≤ (1 : Int) ∧ (1 : Int) < ((2 : Nat) : Int)) ∧
   ((0 ≤ (5 : Int) ∧ (5 : Int) < ((8 : Nat) : Int)) ∧
   (tagC (5 : Int)))) ∧
   (True ∧
   (b18 = b18 ∧
   (True ∧
   (b25 = b25 ∧
   (b25 = b25 ∧
   (b26 = b26 ∧
   (b18 = b18 ∧
   (((0 ≤ (1 : Int) ∧ (1 : Int) < ((2 : Nat) : Int)) ∧
   ((0 ≤ (6 : Int) ∧ (6 : Int) < ((8 : Nat) : Int)) ∧
   (tagC (6 : Int)))) ∧
   (True ∧
   (b18 = b18 ∧
   (True ∧
   (b25 = b25 ∧
   (b25 = b25 ∧
   (b26 = b26 ∧
   (b18 = b18 ∧
   (((0 ≤ (1 : Int) ∧ (1 : Int) < ((2 : Nat) : Int)) ∧
   ((0 ≤ (7 : Int) ∧ (7 : Int) < ((8 : Nat) : Int)) ∧
   (tagC (7 : Int)))) ∧
   (True ∧
   (b18 = b18 ∧
   (True ∧
   (b25 = b25 ∧
   (b0 = b0 ∧
   (b0 = b0 ∧
   (Exists (fun (ro027 : (Option Addr)) => (Exists (fun (rc028 : Nat) => (Exists (fun (ro129 : (Option Addr)) => (Exists (fun (rc130 : Nat) => ((Value.tuple (List.toArray [(Value.agg (List.toArray [(Value.int IntKind.i64 (0 : Int)), (Value.slice (Option.some (Addr.mk b26 0 Option.none)) 2 2), (Value.slice (Option.some (Addr.mk b18 0 Option.none)) 8 8)])), (Value.bool Bool.true)])) = (Value.tuple (List.toArray [(Value.agg (List.toArray [(Value.int IntKind.i64 (0 : Int)), (Value.slice ro027 (ifN (isW key) 2) rc028), (Value.slice ro129 (ifN (isW key) 8) rc130)])), (Value.bool (isW key))])) ∧
   (((Bool.true = Bool.true ∧
   ((Option.some (Addr.mk b26 0 Option.none)) = ro027 ∧
   (37 = 37 ∧
   (Bool.true = Bool.true ∧
   ((Value.int IntKind.i64 (0 : Int)) = (Value.int IntKind.i64 (0 : Int)) ∧
   ((Value.int IntKind.i64 (tagW key ((1000 : Int) + (0 : Int)) (0 : Int) (0 : Int))) = (Value.int IntKind.i64 (newMT key 0)) ∧
   ((Value.int IntKind.i64 (0 : Int)) = (Value.int IntKind.i64 (0 : Int)) ∧
   ((Value.int IntKind.i64 (tagW key ((1000 : Int) + (1 : Int)) (0 : Int) (0 : Int))) = (Value.int IntKind.i64 (newMT key 1)) ∧
   (2 = (ifN (isW key) 2) ∧
   (2 = rc028 ∧
   Bool.true = Bool.true)))))))))) ∧
   ((Bool.true = Bool.true ∧
   ((Option.some (Addr.mk b18 0 Option.none)) = ro129 ∧
   (37 = 37 ∧
   (Bool.true = Bool.true ∧
   ((Value.int IntKind.i64 (0 : Int)) = (Value.int IntKind.i64 (0 : Int)) ∧
   ((Value.int IntKind.i64 (tagW key ((2000 : Int) + (0 : Int)) (0 : Int) (0 : Int))) = (Value.int IntKind.i64 (newLT key 0)) ∧
   ((Value.int IntKind.i64 (0 : Int)) = (Value.int IntKind.i64 (0 : Int)) ∧
   ((Value.int IntKind.i64 (tagW key ((2000 : Int) + (1 : Int)) (0 : Int) (0 : Int))) = (Value.int IntKind.i64 (newLT key 1)) ∧
   ((Value.int IntKind.i64 (0 : Int)) = (Value.int IntKind.i64 (0 : Int)) ∧
   ((Value.int IntKind.i64 (tagW key ((2000 : Int) + (2 : Int)) (0 : Int) (0 : Int))) = (Value.int IntKind.i64 (newLT key 2)) ∧
   ((Value.int IntKind.i64 (0 : Int)) = (Value.int IntKind.i64 (0 : Int)) ∧
   ((Value.int IntKind.i64 (tagW key ((2000 : Int) + (3 : Int)) (0 : Int) (0 : Int))) = (Value.int IntKind.i64 (newLT key 3)) ∧
   ((Value.int IntKind.i64 (0 : Int)) = (Value.int IntKind.i64 (0 : Int)) ∧
   ((Value.int IntKind.i64 (tagW key ((2000 : Int) + (4 : Int)) (0 : Int) (0 : Int))) = (Value.int IntKind.i64 (newLT key 4)) ∧
   ((Value.int IntKind.i64 (0 : Int)) = (Value.int IntKind.i64 (0 : Int)) ∧
   ((Value.int IntKind.i64 (tagW key ((2000 : Int) + (5 : Int)) (0 : Int) (0 : Int))) = (Value.int IntKind.i64 (newLT key 5)) ∧
   ((Value.int IntKind.i64 (0 : Int)) = (Value.int IntKind.i64 (0 : Int)) ∧
   ((Value.int IntKind.i64 (tagW key ((2000 : Int) + (6 : Int)) (0 : Int) (0 : Int))) = (Value.int IntKind.i64 (newLT key 6)) ∧
   ((Value.int IntKind.i64 (0 : Int)) = (Value.int IntKind.i64 (0 : Int)) ∧
   ((Value.int IntKind.i64 (tagW key ((2000 : Int) + (7 : Int)) (0 : Int) (0 : Int))) = (Value.int IntKind.i64 (newLT key 7)) ∧
   (8 = (ifN (isW key) 8) ∧
   (8 = rc130 ∧
   Bool.true = Bool.true)))))))))))))))))))))) ∧
   True)) ∧
   Bool.true = Bool.true)))))))))))))))))))))))))))))))))))))))))))))))))))))))))))))))))))))))))))))))))))))))))))))))))))) ∧
   (∀ b31 : Nat,
   (True ∧
   ((∀ b32 : Nat,
   (True ∧
   (∀ b33 : Nat,
   (True ∧
   (b31 = b31 ∧
   (True ∧
   (b31 = b31 ∧
   (b31 = b31 ∧
   (b32 = b32 ∧
   (((0 ≤ (0 : Int) ∧ (0 : Int) < ((2 : Nat) : Int)) ∧
   (tagC (0 : Int))) ∧
   (True ∧
   (b32 = b32 ∧
   (True ∧
   (b31 = b31 ∧
   (b31 = b31 ∧
   (b32 = b32 ∧
   (((0 ≤ (1 : Int) ∧ (1 : Int) < ((2 : Nat) : Int)) ∧
   (tagC (1 : Int))) ∧
   (True ∧
   (b32 = b32 ∧
   (True ∧
   (b31 = b31 ∧
   (b31 = b31 ∧
   (b32 = b32 ∧
   (b33 = b33 ∧
   (((0 ≤ (0 : Int) ∧ (0 : Int) < ((2 : Nat) : Int)) ∧
   ((0 ≤ (0 : Int) ∧ (0 : Int) < ((8 : Nat) : Int)) ∧
   (tagC (0 : Int)))) ∧
   (True ∧
   (b33 = b33 ∧
   (True ∧
   (b31 = b31 ∧
   (b31 = b31 ∧
   (b32 = b32 ∧
   (b33 = b33 ∧
   (((0 ≤ (0 : Int) ∧ (0 : Int) < ((2 : Nat) : Int)) ∧
   ((0 ≤ (1 : Int) ∧ (1 : Int) < ((8 : Nat) : Int)) ∧
   (tagC (1 : Int)))) ∧
   (True ∧
   (b33 = b33 ∧
   (True ∧
   (b31 = b31 ∧
   (b31 = b31 ∧
   (b32 = b32 ∧
   (b33 = b33 ∧
   (((0 ≤ (0 : Int) ∧ (0 : Int) < ((2 : Nat) : Int)) ∧
   ((0 ≤ (2 : Int) ∧ (2 : Int) < ((8 : Nat) : Int)) ∧
   (tagC (2 : Int)))) ∧
   (True ∧
   (b33 = b33 ∧
   (True ∧
   (b31 = b31 ∧
   (b31 = b31 ∧
   (b32 = b32 ∧
   (b33 = b33 ∧
   (((0 ≤ (0 : Int) ∧ (0 : Int) < ((2 : Nat) : Int)) ∧
   ((0 ≤ (3 : Int) ∧ (3 : Int) < ((8 : Nat) : Int)) ∧
   (tagC (3 : Int)))) ∧
   (True ∧
   (b33 = b33 ∧
   (True ∧
   (b31 = b31 ∧
   (b31 = b31 ∧
   (b32 = b32 ∧
   (b33 = b33 ∧
   (((0 ≤ (1 : Int) ∧ (1 : Int) < ((2 : Nat) : Int)) ∧
   ((0 ≤ (4 : Int) ∧ (4 : Int) < ((8 : Nat) : Int)) ∧
   (tagC (4 : Int)))) ∧
   (True ∧
   (b33 = b33 ∧
   (True ∧
   (b31 = b31 ∧
   (b31 = b31 ∧
   (b32 = b32 ∧
   (b33 = b33 ∧
   (((0 ≤ (1 : Int) ∧ (1 : Int) < ((2 : Nat) : Int)) ∧
   ((0 ≤ (5 : Int) ∧ (5 : Int) < ((8 : Nat) : Int)) ∧
   (tagC (5 : Int)))) ∧
   (True ∧
   (b33 = b33 ∧
   (True ∧
   (b31 = b31 ∧
   (b31 = b31 ∧
   (b32 = b32 ∧
   (b33 = b33 ∧
   (((0 ≤ (1 : Int) ∧ (1 : Int) < ((2 : Nat) : Int)) ∧
   ((0 ≤ (6 : Int) ∧ (6 : Int) < ((8 : Nat) : Int)) ∧
   (tagC (6 : Int)))) ∧
   (True ∧
   (b33 = b33 ∧
   (True ∧
   (b31 = b31 ∧
   (b31 = b31 ∧
   (b32 = b32 ∧
   (b33 = b33 ∧
   (((0 ≤ (1 : Int) ∧ (1 : Int) < ((2 : Nat) : Int)) ∧
   ((0 ≤ (7 : Int) ∧ (7 : Int) < ((8 : Nat) : Int)) ∧
   (tagC (7 : Int)))) ∧
   (True ∧
   (b33 = b33 ∧
   (True ∧
   (b31 = b31 ∧
   (b0 = b0 ∧
   (b0 = b0 ∧
   (Exists (fun (ro034 : (Option Addr)) => (Exists (fun (rc035 : Nat) => (Exists (fun (ro136 : (Option Addr)) => (Exists (fun (rc137 : Nat) => ((Value.tuple (List.toArray [(Value.agg (List.toArray [(Value.int IntKind.i64 (0 : Int)), (Value.slice (Option.some (Addr.mk b32 0 Option.none)) 2 2), (Value.slice (Option.some (Addr.mk b33 0 Option.none)) 8 8)])), (Value.bool Bool.true)])) = (Value.tuple (List.toArray [(Value.agg (List.toArray [(Value.int IntKind.i64 (0 : Int)), (Value.slice ro034 (ifN (isW key) 2) rc035), (Value.slice ro136 (ifN (isW key) 8) rc137)])), (Value.bool (isW key))])) ∧
   (((Bool.true = Bool.true ∧
   ((Option.some (Addr.mk b32 0 Option.none)) = ro034 ∧
   (37 = 37 ∧
   (Bool.true = Bool.true ∧
   ((Value.int IntKind.i64 (0 : Int)) = (Value.int IntKind.i64 (0 : Int)) ∧
   ((Value.int IntKind.i64 (tagW key ((1000 : Int) + (0 : Int)) (0 : Int) (0 : Int))) = (Value.int IntKind.i64 (newMT key 0)) ∧
   ((Value.int IntKind.i64 (0 : Int)) = (Value.int IntKind.i64 (0 : Int)) ∧
   ((Value.int IntKind.i64 (tagW key ((1000 : Int) + (1 : Int)) (0 : Int) (0 : Int))) = (Value.int IntKind.i64 (newMT key 1)) ∧
   (2 = (ifN (isW key) 2) ∧
   (2 = rc035 ∧
   Bool.true = Bool.true)))))))))) ∧
   ((Bool.true = Bool.true ∧
   ((Option.some (Addr.mk b33 0 Option.none)) = ro136 ∧
   (37 = 37 ∧
   (Bool.true = Bool.true ∧
   ((Value.int IntKind.i64 (0 : Int)) = (Value.int IntKind.i64 (0 : Int)) ∧
   ((Value.int IntKind.i64 (tagW key ((2000 : Int) + (0 : Int)) (0 : Int) (0 : Int))) = (Value.int IntKind.i64 (newLT key 0)) ∧
   ((Value.int IntKind.i64 (0 : Int)) = (Value.int IntKind.i64 (0 : Int)) ∧
   ((Value.int IntKind.i64 (tagW key ((2000 : Int) + (1 : Int)) (0 : Int) (0 : Int))) = (Value.int IntKind.i64 (newLT key 1)) ∧
   ((Value.int IntKind.i64 (0 : Int)) = (Value.int IntKind.i64 (0 : Int)) ∧
   ((Value.int IntKind.i64 (tagW key ((2000 : Int) + (2 : Int)) (0 : Int) (0 : Int))) = (Value.int IntKind.i64 (newLT key 2)) ∧
   ((Value.int IntKind.i64 (0 : Int)) = (Value.int IntKind.i64 (0 : Int)) ∧
   ((Value.int IntKind.i64 (tagW key ((2000 : Int) + (3 : Int)) (0 : Int) (0 : Int))) = (Value.int IntKind.i64 (newLT key 3)) ∧
   ((Value.int IntKind.i64 (0 : Int)) = (Value.int IntKind.i64 (0 : Int)) ∧
   ((Value.int IntKind.i64 (tagW key ((2000 : Int) + (4 : Int)) (0 : Int) (0 : Int))) = (Value.int IntKind.i64 (newLT key 4)) ∧
   ((Value.int IntKind.i64 (0 : Int)) = (Value.int IntKind.i64 (0 : Int)) ∧
   ((Value.int IntKind.i64 (tagW key ((2000 : Int) + (5 : Int)) (0 : Int) (0 : Int))) = (Value.int IntKind.i64 (newLT key 5)) ∧
   ((Value.int IntKind.i64 (0 : Int)) = (Value.int IntKind.i64 (0 : Int)) ∧
   ((Value.int IntKind.i64 (tagW key ((2000 : Int) + (6 : Int)) (0 : Int) (0 : Int))) = (Value.int IntKind.i64 (newLT key 6)) ∧
   ((Value.int IntKind.i64 (0 : Int)) = (Value.int IntKind.i64 (0 : Int)) ∧
   ((Value.int IntKind.i64 (tagW key ((2000 : Int) + (7 : Int)) (0 : Int) (0 : Int))) = (Value.int IntKind.i64 (newLT key 7)) ∧
   (8 = (ifN (isW key) 8) ∧
   (8 = rc137 ∧
   Bool.true = Bool.true)))))))))))))))))))))) ∧
   True)) ∧
   Bool.true = Bool.true))))))))))))))))))))))))))))))))))))))))))))))))))))))))))))))))))))))))))))))))))))))))))))))))) ∧
   (∀ b38 : Nat,
   (True ∧
   (∀ b39 : Nat,
   (True ∧
   (b31 = b31 ∧
   (True ∧
   (b31 = b31 ∧
   (b31 = b31 ∧
   (b39 = b39 ∧
   (((0 ≤ (0 : Int) ∧ (0 : Int) < ((2 : Nat) : Int)) ∧
   (tagC (0 : Int))) ∧
   (True ∧
   (b39 = b39 ∧
   (True ∧
   (b31 = b31 ∧
   (b31 = b31 ∧
   (b39 = b39 ∧
   (((0 ≤ (1 : Int) ∧ (1 : Int) < ((2 : Nat) : Int)) ∧
   (tagC (1 : Int))) ∧
   (True ∧
   (b39 = b39 ∧
   (True ∧
   (b31 = b31 ∧
   (b31 = b31 ∧
   (b39 = b39 ∧
   (b38 = b38 ∧
   (((0 ≤ (0 : Int) ∧ (0 : Int) < ((2 : Nat) : Int)) ∧
   ((0 ≤ (0 : Int) ∧ (0 : Int) < ((8 : Nat) : Int)) ∧
   (tagC (0 : Int)))) ∧
   (True ∧
   (b38 = b38 ∧
   (True ∧
   (b31 = b31 ∧
   (b31 = b31 ∧
   (b39 = b39 ∧
   (b38 = b38 ∧
   (((0 ≤ (0 : Int) ∧ (0 : Int) < ((2 : Nat) : Int)) ∧
   ((0 ≤ (1 : Int) ∧ (1 : Int) < ((8 : Nat) : Int)) ∧
   (tagC (1 : Int)))) ∧
   (True ∧
   (b38 = b38 ∧
   (True ∧
   (b31 = b31 ∧
   (b31 = b31 ∧
   (b39 = b39 ∧
   (b38 = b38 ∧
   (((0 ≤ (0 : Int) ∧ (0 : Int) < ((2 : Nat) : Int)) ∧
   ((0 ≤ (2 : Int) ∧ (2 : Int) < ((8 : Nat) : Int)) ∧
   (tagC (2 : Int)))) ∧
   (True ∧
   (b38 = b38 ∧
   (True ∧
   (b31 = b31 ∧
   (b31 = b31 ∧
   (b39 = b39 ∧
   (b38 = b38 ∧
   (((0 ≤ (0 : Int) ∧ (0 : Int) < ((2 : Nat) : Int)) ∧
   ((0 ≤ (3 : Int) ∧ (3 : Int) < ((8 : Nat) : Int)) ∧
   (tagC (3 : Int)))) ∧
   (True ∧
   (b38 = b38 ∧
   (True ∧
   (b31 = b31 ∧
   (b31 = b31 ∧
   (b39 = b39 ∧
   (b38 = b38 ∧
   (((0 ≤ (1 : Int) ∧ (1 : Int) < ((2 : Nat) : Int)) ∧
   ((0 ≤ (4 : Int) ∧ (4 : Int) < ((8 : Nat) : Int)) ∧
   (tagC (4 : Int)))) ∧
   (True ∧
   (b38 = b38 ∧
   (True ∧
   (b31 = b31 ∧
   (b31 = b31 ∧
   (b39 = b39 ∧
   (b38 = b38 ∧
   (((0 ≤ (1 : Int) ∧ (1 : Int) < ((2 : Nat) : Int)) ∧
   ((0 ≤ (5 : Int) ∧ (5 : Int) < ((8 : Nat) : Int)) ∧
   (tagC (5 : Int)))) ∧
   (True ∧
   (b38 = b38 ∧
   (True ∧
   (b31 = b31 ∧
   (b31 = b31 ∧
   (b39 = b39 ∧
   (b38 = b38 ∧
   (((0 ≤ (1 : Int) ∧ (1 : Int) < ((2 : Nat) : Int)) ∧
   ((0 ≤ (6 : Int) ∧ (6 : Int) < ((8 : Nat) : Int)) ∧
   (tagC (6 : Int)))) ∧
   (True ∧
   (b38 = b38 ∧
   (True ∧
   (b31 = b31 ∧
   (b31 = b31 ∧
   (b39 = b39 ∧
   (b38 = b38 ∧
   (((0 ≤ (1 : Int) ∧ (1 : Int) < ((2 : Nat) : Int)) ∧
   ((0 ≤ (7 : Int) ∧ (7 : Int) < ((8 : Nat) : Int)) ∧
   (tagC (7 : Int)))) ∧
   (True ∧
   (b38 = b38 ∧
   (True ∧
   (b31 = b31 ∧
   (b0 = b0 ∧
   (b0 = b0 ∧
   (Exists (fun (ro040 : (Option Addr)) => (Exists (fun (rc041 : Nat) => (Exists (fun (ro142 : (Option Addr)) => (Exists (fun (rc143 : Nat) => ((Value.tuple (List.toArray [(Value.agg (List.toArray [(Value.int IntKind.i64 (0 : Int)), (Value.slice (Option.some (Addr.mk b39 0 Option.none)) 2 2), (Value.slice (Option.some (Addr.mk b38 0 Option.none)) 8 8)])), (Value.bool Bool.true)])) = (Value.tuple (List.toArray [(Value.agg (List.toArray [(Value.int IntKind.i64 (0 : Int)), (Value.slice ro040 (ifN (isW key) 2) rc041), (Value.slice ro142 (ifN (isW key) 8) rc143)])), (Value.bool (isW key))])) ∧
   (((Bool.true = Bool.true ∧
   ((Option.some (Addr.mk b39 0 Option.none)) = ro040 ∧
   (37 = 37 ∧
   (Bool.true = Bool.true ∧
   ((Value.int IntKind.i64 (0 : Int)) = (Value.int IntKind.i64 (0 : Int)) ∧
   ((Value.int IntKind.i64 (tagW key ((1000 : Int) + (0 : Int)) (0 : Int) (0 : Int))) = (Value.int IntKind.i64 (newMT key 0)) ∧
   ((Value.int IntKind.i64 (0 : Int)) = (Value.int IntKind.i64 (0 : Int)) ∧
   ((Value.int IntKind.i64 (tagW key ((1000 : Int) + (1 : Int)) (0 : Int) (0 : Int))) = (Value.int IntKind.i64 (newMT key 1)) ∧
   (2 = (ifN (isW key) 2) ∧
   (2 = rc041 ∧
   Bool.true = Bool.true)))))))))) ∧
   ((Bool.true = Bool.true ∧
   ((Option.some (Addr.mk b38 0 Option.none)) = ro142 ∧
   (37 = 37 ∧
   (Bool.true = Bool.true ∧
   ((Value.int IntKind.i64 (0 : Int)) = (Value.int IntKind.i64 (0 : Int)) ∧
   ((Value.int IntKind.i64 (tagW key ((2000 : Int) + (0 : Int)) (0 : Int) (0 : Int))) = (Value.int IntKind.i64 (newLT key 0)) ∧
   ((Value.int IntKind.i64 (0 : Int)) = (Value.int IntKind.i64 (0 : Int)) ∧
   ((Value.int IntKind.i64 (tagW key ((2000 : Int) + (1 : Int)) (0 : Int) (0 : Int))) = (Value.int IntKind.i64 (newLT key 1)) ∧
   ((Value.int IntKind.i64 (0 : Int)) = (Value.int IntKind.i64 (0 : Int)) ∧
   ((Value.int IntKind.i64 (tagW key ((2000 : Int) + (2 : Int)) (0 : Int) (0 : Int))) = (Value.int IntKind.i64 (newLT key 2)) ∧
   ((Value.int IntKind.i64 (0 : Int)) = (Value.int IntKind.i64 (0 : Int)) ∧
   ((Value.int IntKind.i64 (tagW key ((2000 : Int) + (3 : Int)) (0 : Int) (0 : Int))) = (Value.int IntKind.i64 (newLT key 3)) ∧
   ((Value.int IntKind.i64 (0 : Int)) = (Value.int IntKind.i64 (0 : Int)) ∧
   ((Value.int IntKind.i64 (tagW key ((2000 : Int) + (4 : Int)) (0 : Int) (0 : Int))) = (Value.int IntKind.i64 (newLT key 4)) ∧
   ((Value.int IntKind.i64 (0 : Int)) = (Value.int IntKind.i64 (0 : Int)) ∧
   ((Value.int IntKind.i64 (tagW key ((2000 : Int) + (5 : Int)) (0 : Int) (0 : Int))) = (Value.int IntKind.i64 (newLT key 5)) ∧
   ((Value.int IntKind.i64 (0 : Int)) = (Value.int IntKind.i64 (0 : Int)) ∧
   ((Value.int IntKind.i64 (tagW key ((2000 : Int) + (6 : Int)) (0 : Int) (0 : Int))) = (Value.int IntKind.i64 (newLT key 6)) ∧
   ((Value.int IntKind.i64 (0 : Int)) = (Value.int IntKind.i64 (0 : Int)) ∧
   ((Value.int IntKind.i64 (tagW key ((2000 : Int) + (7 : Int)) (0 : Int) (0 : Int))) = (Value.int IntKind.i64 (newLT key 7)) ∧
   (8 = (ifN (isW key) 8) ∧
   (8 = rc143 ∧
   Bool.true = Bool.true)))))))))))))))))))))) ∧
   True)) ∧
   Bool.true = Bool.true)))))))))))))))))))))))))))))))))))))))))))))))))))))))))))))))))))))))))))))))))))))))))))))))))))))))))) := by kernel_rfl
theorem newS_any (key : Int) (w : World) : Calls Try.prog 15 #[.int .i64 key] w fun e w' => ∃ (ro0 : Option Addr) (rc0 : Nat) (ro1 : Option Addr) (rc1 : Nat), e = .returned (.tuple #[.agg #[.int .i64 (0), .slice ro0 (ifN (isW key) 2) rc0, .slice ro1 (ifN (isW key) 8) rc1], .bool (isW key)]) ∧ HS ⟨w, fun _ => False⟩ [.row ⟨true, ro0, 37, 2, ifN (isW key) 2, rc0, [fun i => .int (0), fun i => .int (newMT key i)]⟩, .row ⟨true, ro1, 37, 2, ifN (isW key) 8, rc1, [fun i => .int (0), fun i => .int (newLT key i)]⟩] w' := by
  refine fnB (tb := [(34, sIsW), (35, sMidT), (36, sLeafT)]) ⟨sIsW_spec, sMidT_spec, sLeafT_spec, trivial⟩ Try.func15 (@Eq.mpr _ _ (newS_T key) ?_) (HS.start w (fun _ => False)) (fun v ch' w' ⟨ro0, rc0, ro1, rc1, hk⟩ hs => ⟨ro0, rc0, ro1, rc1, by rw [hk.1], hk.hs hs⟩)
  repeat' (first
    | exact rfl
    | exact True.intro
    | refine And.intro ?_ ?_
    | apply Exists.intro
    | assumption
    | omega
    | intro _)
  all_goals (try simp_all [ifN, newMT, newLT])
def sTNew : Sm := fun args ch kk =>
  match args with
  | [.a (.c c0)] =>
    match ints [c0] with
    | some [key] => ∀ (ro0 : Option Addr) (rc0 : Nat), ∀ (ro1 : Option Addr) (rc1 : Nat), kk (.tup [.agg [.int (0), .sl (ch.length) ro0 (ifN (isW key) 2) rc0, .sl (ch.length + 1) ro1 (ifN (isW key) 8) rc1], .c (.bool (isW key))]) (ch ++ [.row ⟨true, ro0, 37, 2, ifN (isW key) 2, rc0, [fun i => .int (0), fun i => .int (newMT key i)]⟩, .row ⟨true, ro1, 37, 2, ifN (isW key) 8, rc1, [fun i => .int (0), fun i => .int (newLT key i)]⟩]) []
    | _ => False
  | _ => False
theorem sTNew_ok {f : FuncId} (hc : ∀ args w, (callFunc f args).run Try.prog w = .ok (.enter f args) w) (h : ∀ (key : Int) (w : World), Calls Try.prog f #[.int .i64 key] w fun e w' => ∃ (ro0 : Option Addr) (rc0 : Nat) (ro1 : Option Addr) (rc1 : Nat), e = .returned (.tuple #[.agg #[.int .i64 (0), .slice ro0 (ifN (isW key) 2) rc0, .slice ro1 (ifN (isW key) 8) rc1], .bool (isW key)]) ∧ HS ⟨w, fun _ => False⟩ [.row ⟨true, ro0, 37, 2, ifN (isW key) 2, rc0, [fun i => .int (0), fun i => .int (newMT key i)]⟩, .row ⟨true, ro1, 37, 2, ifN (isW key) 8, rc1, [fun i => .int (0), fun i => .int (newLT key i)]⟩] w') : SmOK Try.prog f sTNew := by
  refine smN hc fun args ch kk w X h0 hs => ?_
  unfold sTNew at h0
  split at h0
  · rename_i c0
    split at h0
    · rename_i key hi
      obtain ⟨ec0, hi⟩ := ints_cons hi
      refine Calls.mono (?_ : Calls Try.prog f _ w (fun e w' => ∃ (ro0 : Option Addr) (rc0 : Nat) (ro1 : Option Addr) (rc1 : Nat), e = .returned (.tuple #[.agg #[.int .i64 (0), .slice ro0 (ifN (isW key) 2) rc0, .slice ro1 (ifN (isW key) 8) rc1], .bool (isW key)]) ∧ HS ⟨w, fun _ => False⟩ [.row ⟨true, ro0, 37, 2, ifN (isW key) 2, rc0, [fun i => .int (0), fun i => .int (newMT key i)]⟩, .row ⟨true, ro1, 37, 2, ifN (isW key) 8, rc1, [fun i => .int (0), fun i => .int (newLT key i)]⟩] w')) (fun e w' ⟨ro0, rc0, ro1, rc1, he, hs'⟩ => ⟨_, _, ?_, hs', rfl, h0 ro0 rc0 ro1 rc1⟩)
      · simp only [List.map_cons, List.map_nil, den_a, den_c, SA.den, den_sl, ec0]
        exact h key w
      · rw [he]
        rfl
    · exact h0.elim
  · exact h0.elim
theorem sTNew_ok_newI : SmOK Try.prog 11 sTNew := sTNew_ok Try.call11 (fun key w => newI_any key w)
theorem sTNew_ok_newS : SmOK Try.prog 15 sTNew := sTNew_ok Try.call15 (fun key w => newS_any key w)
end Go.Proofs.Ytppeocfcdeiemaa
