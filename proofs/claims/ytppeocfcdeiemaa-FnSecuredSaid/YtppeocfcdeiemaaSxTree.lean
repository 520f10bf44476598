/-
  Words and trees, walked by symbols.
-/
import Derived.Test.YtppeocfcdeiemaaSxSlN
import Derived.Test.YtppeocfcdeiemaaPure
import Derived.Test.YtppeocfcdeiemaaSxOpen
namespace Go.Proofs.Ytppeocfcdeiemaa
set_option linter.unusedVariables false
set_option linter.unusedSimpArgs false
open Go.RowKit
set_option maxRecDepth 100000

theorem isWordI (x : Int) (w : World) : Calls Try.prog 29 #[.int .i64 x] w fun e w' => e = .returned (.bool (isW x)) ∧ w = w' := isWord_any x w _ rfl
theorem isWordS (x : Int) (w : World) : Calls Try.prog 34 #[.int .i64 x] w fun e w' => e = .returned (.bool (isW x)) ∧ w = w' := sIsWord_any x w _ rfl
def sIsW : Sm := fun args ch k =>
  match args with
  | [.a (.c c0)] =>
    match ints [c0], bools [] with
    | some [x], some [] => k (.a (.c (.bool (isW x)))) ch []
    | _, _ => False
  | _ => False
theorem sIsW_ok {f : FuncId} (hc : ∀ args w, (callFunc f args).run Try.prog w = .ok (.enter f args) w) (h : ∀ (x : Int) (w : World), Calls Try.prog f #[.int .i64 x] w fun e w' => e = .returned (.bool (isW x)) ∧ Below w.heap.size w w') : SmOK Try.prog f sIsW := by
  refine smB hc fun args ch k w X h0 hs => ?_
  unfold sIsW at h0
  split at h0
  · split at h0
    · rename_i x hi hb
      obtain ⟨e0, hi1⟩ := ints_cons hi
      refine ⟨_, h0, ?_⟩
      simp only [List.map_cons, List.map_nil, den_a, den_c, SA.den, e0]
      exact h x w
    · exact h0.elim
  · exact h0.elim
theorem sIsW_impl : SmOK Try.prog 29 sIsW := sIsW_ok Try.call29 (fun x w => Calls.mono (isWordI x w) fun e w' ⟨he, hw⟩ => ⟨he, by rw [← hw]; exact Below.refl _ _⟩)
theorem sIsW_spec : SmOK Try.prog 34 sIsW := sIsW_ok Try.call34 (fun x w => Calls.mono (isWordS x w) fun e w' ⟨he, hw⟩ => ⟨he, by rw [← hw]; exact Below.refl _ _⟩)
def sTag : Sm := fun args ch k =>
  match args with
  | [.a (.c c0), .a (.c c1), .a (.c c2), .a (.c c3)] =>
    match ints [c0, c1, c2, c3], bools [] with
    | some [ky, li, co, wd], some [] => k (.a (.c (.int (tagW ky li co wd)))) ch []
    | _, _ => False
  | _ => False
theorem sTag_ok {f : FuncId} (hc : ∀ args w, (callFunc f args).run Try.prog w = .ok (.enter f args) w) (h : ∀ (ky li co wd : Int) (w : World), Calls Try.prog f #[.int .i64 ky, .int .i64 li, .int .i64 co, .int .i64 wd] w fun e w' => e = .returned (.int .i64 (tagW ky li co wd)) ∧ Below w.heap.size w w') : SmOK Try.prog f sTag := by
  refine smB hc fun args ch k w X h0 hs => ?_
  unfold sTag at h0
  split at h0
  · split at h0
    · rename_i ky li co wd hi hb
      obtain ⟨e0, hi1⟩ := ints_cons hi
      obtain ⟨e1, hi2⟩ := ints_cons hi1
      obtain ⟨e2, hi3⟩ := ints_cons hi2
      obtain ⟨e3, hi4⟩ := ints_cons hi3
      refine ⟨_, h0, ?_⟩
      simp only [List.map_cons, List.map_nil, den_a, den_c, SA.den, e0, e1, e2, e3]
      exact h ky li co wd w
    · exact h0.elim
  · exact h0.elim
theorem sTag_impl : SmOK Try.prog 46 sTag := sTag_ok Try.call46 (fun ky li co wd w => tagOf_any ky li co wd w)
theorem sTag_spec : SmOK Try.prog 51 sTag := sTag_ok Try.call51 (fun ky li co wd w => Calls.mono (sTagOf_any ky li co wd w) fun e w' ⟨he, hw⟩ => ⟨he, by rw [← hw]; exact Below.refl _ _⟩)
def sSeal : Sm := fun args ch k =>
  match args with
  | [.a (.c c0), .a (.c c1), .a (.c c2), .a (.c c3)] =>
    match ints [c0, c1, c2, c3], bools [] with
    | some [ky, li, co, wd], some [] => k (.a (.c (.int (sealW ky li co wd)))) ch []
    | _, _ => False
  | _ => False
theorem sSeal_ok {f : FuncId} (hc : ∀ args w, (callFunc f args).run Try.prog w = .ok (.enter f args) w) (h : ∀ (ky li co wd : Int) (w : World), Calls Try.prog f #[.int .i64 ky, .int .i64 li, .int .i64 co, .int .i64 wd] w fun e w' => e = .returned (.int .i64 (sealW ky li co wd)) ∧ Below w.heap.size w w') : SmOK Try.prog f sSeal := by
  refine smB hc fun args ch k w X h0 hs => ?_
  unfold sSeal at h0
  split at h0
  · split at h0
    · rename_i ky li co wd hi hb
      obtain ⟨e0, hi1⟩ := ints_cons hi
      obtain ⟨e1, hi2⟩ := ints_cons hi1
      obtain ⟨e2, hi3⟩ := ints_cons hi2
      obtain ⟨e3, hi4⟩ := ints_cons hi3
      refine ⟨_, h0, ?_⟩
      simp only [List.map_cons, List.map_nil, den_a, den_c, SA.den, e0, e1, e2, e3]
      exact h ky li co wd w
    · exact h0.elim
  · exact h0.elim
theorem sSeal_impl : SmOK Try.prog 60 sSeal := sSeal_ok Try.call60 (fun ky li co wd w => sealWord_any ky li co wd w)
theorem sSeal_spec : SmOK Try.prog 50 sSeal := sSeal_ok Try.call50 (fun ky li co wd w => Calls.mono (sSealWord_any ky li co wd w) fun e w' ⟨he, hw⟩ => ⟨he, by rw [← hw]; exact Below.refl _ _⟩)
theorem sOpen_impl : SmOK Try.prog 47 sSeal := sSeal_ok Try.call47 (fun k l c x w => openWord_any k l c x w)
theorem sOpen_spec : SmOK Try.prog 54 sSeal := sSeal_ok Try.call54 (fun k l c x w => Calls.mono (sOpenWord_any k l c x w) fun e w' ⟨he, hw⟩ => ⟨he, by rw [← hw]; exact Below.refl _ _⟩)
def iMidTag : Sm := inlM Try.prog {tb := [(46, sTag)]} 300 Try.f30
theorem iMidTag_ok : SmOK Try.prog 30 iMidTag := inlM_ok mixed (E := {tb := [(46, sTag)]}) ⟨sTag_impl, trivial⟩ Try.func30 Try.call30 (fun _ _ _ => loopsOK_nil _ _ _)
def iLeafTag : Sm := inlM Try.prog {tb := [(46, sTag)]} 300 Try.f31
theorem iLeafTag_ok : SmOK Try.prog 31 iLeafTag := inlM_ok mixed (E := {tb := [(46, sTag)]}) ⟨sTag_impl, trivial⟩ Try.func31 Try.call31 (fun _ _ _ => loopsOK_nil _ _ _)
def iMidS : Sm := inlM Try.prog {tb := [(51, sTag)]} 300 Try.f35
theorem iMidS_ok : SmOK Try.prog 35 iMidS := inlM_ok mixed (E := {tb := [(51, sTag)]}) ⟨sTag_spec, trivial⟩ Try.func35 Try.call35 (fun _ _ _ => loopsOK_nil _ _ _)
def iLeafS : Sm := inlM Try.prog {tb := [(51, sTag)]} 300 Try.f36
theorem iLeafS_ok : SmOK Try.prog 36 iLeafS := inlM_ok mixed (E := {tb := [(51, sTag)]}) ⟨sTag_spec, trivial⟩ Try.func36 Try.call36 (fun _ _ _ => loopsOK_nil _ _ _)
def iNumber : Sm := inlM Try.prog {tb := [(39, sBtw)]} 300 Try.f40
theorem iNumber_ok : SmOK Try.prog 40 iNumber := inlM_ok mixed (E := {tb := [(39, sBtw)]}) ⟨sBtwS_ok, trivial⟩ Try.func40 Try.call40 (fun _ _ _ => loopsOK_nil _ _ _)
def lcOk (key root : Int) (n m : Nat) (mc mt lc lt : Nat → Int) (leaf : Int) : Bool := isW key && (n : Int) == 2 && (m : Int) == 8 && btw leaf 0 7 && btw root 0 1000000000 && btw (mc (leaf / 4).toNat) 0 1000000000 && btw (lc leaf.toNat) 0 1000000000 && mt (leaf / 4).toNat == tagW key (1000 + leaf / 4) root (mc (leaf / 4).toNat) && lt leaf.toNat == tagW key (2000 + leaf) (mc (leaf / 4).toNat) (lc leaf.toNat)
def lcV (key root : Int) (n m : Nat) (mc mt lc lt : Nat → Int) (leaf : Int) : Int := if lcOk key root n m mc mt lc lt leaf = true then lc leaf.toNat else 0
theorem lcI_T (key root : Int) (ao bo : Option Addr) (n c m d : Nat) (mc mt lc lt : Nat → Int) (leaf : Int) : (exFn Try.prog {tb := [(29, sIsW), (33, sBtw), (30, iMidTag), (31, iLeafTag)]} 400 Try.f14 ([.a (.c (.int key)), .a (.agg [.int root, .sl 0 ao n c, .sl 1 bo m d]), .a (.c (.int leaf))]) ([.row ⟨false, ao, 0, 2, n, 0, [fun i => .int (mc i), fun i => .int (mt i)]⟩, .row ⟨false, bo, 0, 2, m, 0, [fun i => .int (lc i), fun i => .int (lt i)]⟩]) (fun v _ => v.den = .tuple #[.int .i64 (lcV key root n m mc mt lc lt leaf), .bool (lcOk key root n m mc mt lc lt leaf)])) = (
  (∀ b0 : Nat,
  (((!(isW key)) = Bool.false →
  (b0 = b0 ∧
   (((((n : Nat) : Int) != (2 : Int)) = Bool.false →
   (b0 = b0 ∧
    (((((m : Nat) : Int) != (8 : Int)) = Bool.false →
    (((!(btw leaf (0 : Int) (7 : Int))) = Bool.true →
     (Value.tuple (List.toArray [(Value.int IntKind.i64 (0 : Int)), (Value.bool Bool.false)])) = (Value.tuple (List.toArray [(Value.int IntKind.i64 (lcV key root n m mc mt lc lt leaf)), (Value.bool (lcOk key root n m mc mt lc lt leaf))]))) ∧
     ((!(btw leaf (0 : Int) (7 : Int))) = Bool.false →
     ((divC leaf (4 : Int)) ∧
      (b0 = b0 ∧
      (((!(btw root (0 : Int) (1000000000 : Int))) = Bool.false →
      (b0 = b0 ∧
       (ao = ao ∧
       (n = n ∧
       ((0 ≤ (leaf / (4 : Int)) ∧ (leaf / (4 : Int)) < ((n : Nat) : Int)) ∧
       (ao = ao ∧
       ((Int.toNat (leaf / (4 : Int))) < n ∧
       (ao = ao ∧
       ((Int.toNat (leaf / (4 : Int))) < n ∧
       (((!(btw (mc (Int.toNat (leaf / (4 : Int)))) (0 : Int) (1000000000 : Int))) = Bool.false →
       (b0 = b0 ∧
        (bo = bo ∧
        (m = m ∧
        ((0 ≤ leaf ∧ leaf < ((m : Nat) : Int)) ∧
        (bo = bo ∧
        ((Int.toNat leaf) < m ∧
        (bo = bo ∧
        ((Int.toNat leaf) < m ∧
        (((!(btw (lc (Int.toNat leaf)) (0 : Int) (1000000000 : Int))) = Bool.true →
        (Value.tuple (List.toArray [(Value.int IntKind.i64 (0 : Int)), (Value.bool Bool.false)])) = (Value.tuple (List.toArray [(Value.int IntKind.i64 (lcV key root n m mc mt lc lt leaf)), (Value.bool (lcOk key root n m mc mt lc lt leaf))]))) ∧
        ((!(btw (lc (Int.toNat leaf)) (0 : Int) (1000000000 : Int))) = Bool.false →
        (b0 = b0 ∧
         (ao = ao ∧
         (n = n ∧
         ((0 ≤ (leaf / (4 : Int)) ∧ (leaf / (4 : Int)) < ((n : Nat) : Int)) ∧
         (ao = ao ∧
         ((Int.toNat (leaf / (4 : Int))) < n ∧
         (ao = ao ∧
         ((Int.toNat (leaf / (4 : Int))) < n ∧
         (b0 = b0 ∧
         (∀ b1 : Nat,
         ((rng ((1000 : Int) + (leaf / (4 : Int)))) ∧
         (b1 = b1 ∧
         (b1 = b1 ∧
         (ao = ao ∧
         (n = n ∧
         ((0 ≤ (leaf / (4 : Int)) ∧ (leaf / (4 : Int)) < ((n : Nat) : Int)) ∧
         (ao = ao ∧
         ((Int.toNat (leaf / (4 : Int))) < n ∧
         (ao = ao ∧
         ((Int.toNat (leaf / (4 : Int))) < n ∧
         (True ∧
         ([(Ch.row (Row.mk Bool.false ao 0 2 n 0 [(fun (i2 : Nat) => (SC.int (mc i2))), (fun (i3 : Nat) => (SC.int (mt i3)))])), (Ch.row (Row.mk Bool.false bo 0 2 m 0 [(fun (i4 : Nat) => (SC.int (lc i4))), (fun (i5 : Nat) => (SC.int (lt i5)))])), (Ch.cells b0 28 [(SC.int root), (SC.sl 0 ao n c), (SC.sl 1 bo m d)])] = [(Ch.row (Row.mk Bool.false ao 0 2 n 0 [(fun (i6 : Nat) => (SC.int (mc i6))), (fun (i7 : Nat) => (SC.int (mt i7)))])), (Ch.row (Row.mk Bool.false bo 0 2 m 0 [(fun (i8 : Nat) => (SC.int (lc i8))), (fun (i9 : Nat) => (SC.int (lt i9)))])), (Ch.cells b0 28 [(SC.int root), (SC.sl 0 ao n c), (SC.sl 1 bo m d)])] ∧
         ((((mt (Int.toNat (leaf / (4 : Int)))) != (tagW key ((1000 : Int) + (leaf / (4 : Int))) root (mc (Int.toNat (leaf / (4 : Int)))))) = Bool.false →
         (b0 = b0 ∧
          (bo = bo ∧
          (m = m ∧
          ((0 ≤ leaf ∧ leaf < ((m : Nat) : Int)) ∧
          (bo = bo ∧
          ((Int.toNat leaf) < m ∧
          (bo = bo ∧
          ((Int.toNat leaf) < m ∧
          (b0 = b0 ∧
          (∀ b10 : Nat,
          ((rng ((2000 : Int) + leaf)) ∧
          (b10 = b10 ∧
          ((divC leaf (4 : Int)) ∧
          (ao = ao ∧
          (n = n ∧
          ((0 ≤ (leaf / (4 : Int)) ∧ (leaf / (4 : Int)) < ((n : Nat) : Int)) ∧
          (ao = ao ∧
          ((Int.toNat (leaf / (4 : Int))) < n ∧
          (ao = ao ∧
          ((Int.toNat (leaf / (4 : Int))) < n ∧
          (b10 = b10 ∧
          (bo = bo ∧
          (m = m ∧
          ((0 ≤ leaf ∧ leaf < ((m : Nat) : Int)) ∧
          (bo = bo ∧
          ((Int.toNat leaf) < m ∧
          (bo = bo ∧
          ((Int.toNat leaf) < m ∧
          (True ∧
          ([(Ch.row (Row.mk Bool.false ao 0 2 n 0 [(fun (i11 : Nat) => (SC.int (mc i11))), (fun (i12 : Nat) => (SC.int (mt i12)))])), (Ch.row (Row.mk Bool.false bo 0 2 m 0 [(fun (i13 : Nat) => (SC.int (lc i13))), (fun (i14 : Nat) => (SC.int (lt i14)))])), (Ch.cells b0 28 [(SC.int root), (SC.sl 0 ao n c), (SC.sl 1 bo m d)])] = [(Ch.row (Row.mk Bool.false ao 0 2 n 0 [(fun (i15 : Nat) => (SC.int (mc i15))), (fun (i16 : Nat) => (SC.int (mt i16)))])), (Ch.row (Row.mk Bool.false bo 0 2 m 0 [(fun (i17 : Nat) => (SC.int (lc i17))), (fun (i18 : Nat) => (SC.int (lt i18)))])), (Ch.cells b0 28 [(SC.int root), (SC.sl 0 ao n c), (SC.sl 1 bo m d)])] ∧
          ((((lt (Int.toNat leaf)) != (tagW key ((2000 : Int) + leaf) (mc (Int.toNat (leaf / (4 : Int)))) (lc (Int.toNat leaf)))) = Bool.true →
          (Value.tuple (List.toArray [(Value.int IntKind.i64 (0 : Int)), (Value.bool Bool.false)])) = (Value.tuple (List.toArray [(Value.int IntKind.i64 (lcV key root n m mc mt lc lt leaf)), (Value.bool (lcOk key root n m mc mt lc lt leaf))]))) ∧
          (((lt (Int.toNat leaf)) != (tagW key ((2000 : Int) + leaf) (mc (Int.toNat (leaf / (4 : Int)))) (lc (Int.toNat leaf)))) = Bool.false →
          (b0 = b0 ∧
           (bo = bo ∧
           (m = m ∧
           ((0 ≤ leaf ∧ leaf < ((m : Nat) : Int)) ∧
           (bo = bo ∧
           ((Int.toNat leaf) < m ∧
           (bo = bo ∧
           ((Int.toNat leaf) < m ∧
           (Value.tuple (List.toArray [(Value.int IntKind.i64 (lc (Int.toNat leaf))), (Value.bool Bool.true)])) = (Value.tuple (List.toArray [(Value.int IntKind.i64 (lcV key root n m mc mt lc lt leaf)), (Value.bool (lcOk key root n m mc mt lc lt leaf))]))))))))))))))))))))))))))))))))))))))))))) ∧
         (((mt (Int.toNat (leaf / (4 : Int)))) != (tagW key ((1000 : Int) + (leaf / (4 : Int))) root (mc (Int.toNat (leaf / (4 : Int)))))) = Bool.true →
         (Value.tuple (List.toArray [(Value.int IntKind.i64 (0 : Int)), (Value.bool Bool.false)])) = (Value.tuple (List.toArray [(Value.int IntKind.i64 (lcV key root n m mc mt lc lt leaf)), (Value.bool (lcOk key root n m mc mt lc lt leaf))]))))))))))))))))))))))))))))))))))))) ∧
       ((!(btw (mc (Int.toNat (leaf / (4 : Int)))) (0 : Int) (1000000000 : Int))) = Bool.true →
       (Value.tuple (List.toArray [(Value.int IntKind.i64 (0 : Int)), (Value.bool Bool.false)])) = (Value.tuple (List.toArray [(Value.int IntKind.i64 (lcV key root n m mc mt lc lt leaf)), (Value.bool (lcOk key root n m mc mt lc lt leaf))]))))))))))))) ∧
      ((!(btw root (0 : Int) (1000000000 : Int))) = Bool.true →
      (Value.tuple (List.toArray [(Value.int IntKind.i64 (0 : Int)), (Value.bool Bool.false)])) = (Value.tuple (List.toArray [(Value.int IntKind.i64 (lcV key root n m mc mt lc lt leaf)), (Value.bool (lcOk key root n m mc mt lc lt leaf))]))))))))) ∧
    ((((m : Nat) : Int) != (8 : Int)) = Bool.true →
    (Value.tuple (List.toArray [(Value.int IntKind.i64 (0 : Int)), (Value.bool Bool.false)])) = (Value.tuple (List.toArray [(Value.int IntKind.i64 (lcV key root n m mc mt lc lt leaf)), (Value.bool (lcOk key root n m mc mt lc lt leaf))])))))) ∧
   ((((n : Nat) : Int) != (2 : Int)) = Bool.true →
   (Value.tuple (List.toArray [(Value.int IntKind.i64 (0 : Int)), (Value.bool Bool.false)])) = (Value.tuple (List.toArray [(Value.int IntKind.i64 (lcV key root n m mc mt lc lt leaf)), (Value.bool (lcOk key root n m mc mt lc lt leaf))])))))) ∧
  ((!(isW key)) = Bool.true →
  (Value.tuple (List.toArray [(Value.int IntKind.i64 (0 : Int)), (Value.bool Bool.false)])) = (Value.tuple (List.toArray [(Value.int IntKind.i64 (lcV key root n m mc mt lc lt leaf)), (Value.bool (lcOk key root n m mc mt lc lt leaf))])))))) := by kernel_rfl
theorem lcI_any (key root : Int) (ao bo : Option Addr) (n c m d : Nat) (mc mt lc lt : Nat → Int) (leaf : Int) (w : World) (h1 : Row.sat w ⟨false, ao, 0, 2, n, 0, [fun i => .int (mc i), fun i => .int (mt i)]⟩) (h2 : Row.sat w ⟨false, bo, 0, 2, m, 0, [fun i => .int (lc i), fun i => .int (lt i)]⟩) :
    Calls Try.prog 14 #[.int .i64 key, .agg #[.int .i64 root, .slice ao n c, .slice bo m d], .int .i64 leaf] w fun e w' => e = .returned (.tuple #[.int .i64 (lcV key root n m mc mt lc lt leaf), .bool (lcOk key root n m mc mt lc lt leaf)]) ∧ Below w.heap.size w w' := by
  refine fnB (tb := [(29, sIsW), (33, sBtw), (30, iMidTag), (31, iLeafTag)]) ⟨sIsW_impl, sBtwI_ok, iMidTag_ok, iLeafTag_ok, trivial⟩ Try.func14 (@Eq.mpr _ _ (lcI_T key root ao bo n c m d mc mt lc lt leaf) ?_) (HS.rows (fun _ => False) [⟨false, ao, 0, 2, n, 0, [fun i => .int (mc i), fun i => .int (mt i)]⟩, ⟨false, bo, 0, 2, m, 0, [fun i => .int (lc i), fun i => .int (lt i)]⟩] (by simpa using ⟨h1, h2⟩)) (fun v ch' w' hk hs => ⟨by rw [hk], hs.below⟩)
  repeat' (first | exact rfl | exact True.intro | refine And.intro ?_ ?_ | intro _)
  all_goals (try (simp_all [lcOk, lcV]; done))
  all_goals simp_all [btw]
  all_goals omega
theorem lcS_T (key root : Int) (ao bo : Option Addr) (n c m d : Nat) (mc mt lc lt : Nat → Int) (leaf : Int) : (exFn Try.prog {tb := [(34, sIsW), (39, sBtw), (40, iNumber), (35, iMidS), (36, iLeafS)]} 400 Try.f53 ([.a (.c (.int key)), .a (.agg [.int root, .sl 0 ao n c, .sl 1 bo m d]), .a (.c (.int leaf))]) ([.row ⟨false, ao, 0, 2, n, 0, [fun i => .int (mc i), fun i => .int (mt i)]⟩, .row ⟨false, bo, 0, 2, m, 0, [fun i => .int (lc i), fun i => .int (lt i)]⟩]) (fun v _ => v.den = .tuple #[.int .i64 (lcV key root n m mc mt lc lt leaf), .bool (lcOk key root n m mc mt lc lt leaf)])) = (
  (∀ b0 : Nat,
  (((!(isW key)) = Bool.false →
  (b0 = b0 ∧
   (((((n : Nat) : Int) != (2 : Int)) = Bool.false →
   (b0 = b0 ∧
    (((((m : Nat) : Int) != (8 : Int)) = Bool.false →
    (((!(btw leaf (0 : Int) (7 : Int))) = Bool.true →
     (Value.tuple (List.toArray [(Value.int IntKind.i64 (0 : Int)), (Value.bool Bool.false)])) = (Value.tuple (List.toArray [(Value.int IntKind.i64 (lcV key root n m mc mt lc lt leaf)), (Value.bool (lcOk key root n m mc mt lc lt leaf))]))) ∧
     ((!(btw leaf (0 : Int) (7 : Int))) = Bool.false →
     ((divC leaf (4 : Int)) ∧
      (b0 = b0 ∧
      ([(Ch.row (Row.mk Bool.false ao 0 2 n 0 [(fun (i1 : Nat) => (SC.int (mc i1))), (fun (i2 : Nat) => (SC.int (mt i2)))])), (Ch.row (Row.mk Bool.false bo 0 2 m 0 [(fun (i3 : Nat) => (SC.int (lc i3))), (fun (i4 : Nat) => (SC.int (lt i4)))])), (Ch.cells b0 28 [(SC.int root), (SC.sl 0 ao n c), (SC.sl 1 bo m d)])] = [(Ch.row (Row.mk Bool.false ao 0 2 n 0 [(fun (i5 : Nat) => (SC.int (mc i5))), (fun (i6 : Nat) => (SC.int (mt i6)))])), (Ch.row (Row.mk Bool.false bo 0 2 m 0 [(fun (i7 : Nat) => (SC.int (lc i7))), (fun (i8 : Nat) => (SC.int (lt i8)))])), (Ch.cells b0 28 [(SC.int root), (SC.sl 0 ao n c), (SC.sl 1 bo m d)])] ∧
      (((!(btw root (0 : Int) (1000000000 : Int))) = Bool.false →
      (b0 = b0 ∧
       (ao = ao ∧
       (n = n ∧
       ((0 ≤ (leaf / (4 : Int)) ∧ (leaf / (4 : Int)) < ((n : Nat) : Int)) ∧
       (ao = ao ∧
       ((Int.toNat (leaf / (4 : Int))) < n ∧
       (ao = ao ∧
       ((Int.toNat (leaf / (4 : Int))) < n ∧
       ([(Ch.row (Row.mk Bool.false ao 0 2 n 0 [(fun (i9 : Nat) => (SC.int (mc i9))), (fun (i10 : Nat) => (SC.int (mt i10)))])), (Ch.row (Row.mk Bool.false bo 0 2 m 0 [(fun (i11 : Nat) => (SC.int (lc i11))), (fun (i12 : Nat) => (SC.int (lt i12)))])), (Ch.cells b0 28 [(SC.int root), (SC.sl 0 ao n c), (SC.sl 1 bo m d)])] = [(Ch.row (Row.mk Bool.false ao 0 2 n 0 [(fun (i13 : Nat) => (SC.int (mc i13))), (fun (i14 : Nat) => (SC.int (mt i14)))])), (Ch.row (Row.mk Bool.false bo 0 2 m 0 [(fun (i15 : Nat) => (SC.int (lc i15))), (fun (i16 : Nat) => (SC.int (lt i16)))])), (Ch.cells b0 28 [(SC.int root), (SC.sl 0 ao n c), (SC.sl 1 bo m d)])] ∧
       (((!(btw (mc (Int.toNat (leaf / (4 : Int)))) (0 : Int) (1000000000 : Int))) = Bool.false →
       (b0 = b0 ∧
        (bo = bo ∧
        (m = m ∧
        ((0 ≤ leaf ∧ leaf < ((m : Nat) : Int)) ∧
        (bo = bo ∧
        ((Int.toNat leaf) < m ∧
        (bo = bo ∧
        ((Int.toNat leaf) < m ∧
        ([(Ch.row (Row.mk Bool.false ao 0 2 n 0 [(fun (i17 : Nat) => (SC.int (mc i17))), (fun (i18 : Nat) => (SC.int (mt i18)))])), (Ch.row (Row.mk Bool.false bo 0 2 m 0 [(fun (i19 : Nat) => (SC.int (lc i19))), (fun (i20 : Nat) => (SC.int (lt i20)))])), (Ch.cells b0 28 [(SC.int root), (SC.sl 0 ao n c), (SC.sl 1 bo m d)])] = [(Ch.row (Row.mk Bool.false ao 0 2 n 0 [(fun (i21 : Nat) => (SC.int (mc i21))), (fun (i22 : Nat) => (SC.int (mt i22)))])), (Ch.row (Row.mk Bool.false bo 0 2 m 0 [(fun (i23 : Nat) => (SC.int (lc i23))), (fun (i24 : Nat) => (SC.int (lt i24)))])), (Ch.cells b0 28 [(SC.int root), (SC.sl 0 ao n c), (SC.sl 1 bo m d)])] ∧
        (((!(btw (lc (Int.toNat leaf)) (0 : Int) (1000000000 : Int))) = Bool.false →
        (b0 = b0 ∧
         (ao = ao ∧
         (n = n ∧
         ((0 ≤ (leaf / (4 : Int)) ∧ (leaf / (4 : Int)) < ((n : Nat) : Int)) ∧
         (ao = ao ∧
         ((Int.toNat (leaf / (4 : Int))) < n ∧
         (ao = ao ∧
         ((Int.toNat (leaf / (4 : Int))) < n ∧
         (b0 = b0 ∧
         (∀ b25 : Nat,
         ((rng ((1000 : Int) + (leaf / (4 : Int)))) ∧
         (b25 = b25 ∧
         (b25 = b25 ∧
         (ao = ao ∧
         (n = n ∧
         ((0 ≤ (leaf / (4 : Int)) ∧ (leaf / (4 : Int)) < ((n : Nat) : Int)) ∧
         (ao = ao ∧
         ((Int.toNat (leaf / (4 : Int))) < n ∧
         (ao = ao ∧
         ((Int.toNat (leaf / (4 : Int))) < n ∧
         (True ∧
         ([(Ch.row (Row.mk Bool.false ao 0 2 n 0 [(fun (i26 : Nat) => (SC.int (mc i26))), (fun (i27 : Nat) => (SC.int (mt i27)))])), (Ch.row (Row.mk Bool.false bo 0 2 m 0 [(fun (i28 : Nat) => (SC.int (lc i28))), (fun (i29 : Nat) => (SC.int (lt i29)))])), (Ch.cells b0 28 [(SC.int root), (SC.sl 0 ao n c), (SC.sl 1 bo m d)])] = [(Ch.row (Row.mk Bool.false ao 0 2 n 0 [(fun (i30 : Nat) => (SC.int (mc i30))), (fun (i31 : Nat) => (SC.int (mt i31)))])), (Ch.row (Row.mk Bool.false bo 0 2 m 0 [(fun (i32 : Nat) => (SC.int (lc i32))), (fun (i33 : Nat) => (SC.int (lt i33)))])), (Ch.cells b0 28 [(SC.int root), (SC.sl 0 ao n c), (SC.sl 1 bo m d)])] ∧
         ((((mt (Int.toNat (leaf / (4 : Int)))) != (tagW key ((1000 : Int) + (leaf / (4 : Int))) root (mc (Int.toNat (leaf / (4 : Int)))))) = Bool.false →
         (b0 = b0 ∧
          (bo = bo ∧
          (m = m ∧
          ((0 ≤ leaf ∧ leaf < ((m : Nat) : Int)) ∧
          (bo = bo ∧
          ((Int.toNat leaf) < m ∧
          (bo = bo ∧
          ((Int.toNat leaf) < m ∧
          (b0 = b0 ∧
          (∀ b34 : Nat,
          ((rng ((2000 : Int) + leaf)) ∧
          (b34 = b34 ∧
          ((divC leaf (4 : Int)) ∧
          (ao = ao ∧
          (n = n ∧
          ((0 ≤ (leaf / (4 : Int)) ∧ (leaf / (4 : Int)) < ((n : Nat) : Int)) ∧
          (ao = ao ∧
          ((Int.toNat (leaf / (4 : Int))) < n ∧
          (ao = ao ∧
          ((Int.toNat (leaf / (4 : Int))) < n ∧
          (b34 = b34 ∧
          (bo = bo ∧
          (m = m ∧
          ((0 ≤ leaf ∧ leaf < ((m : Nat) : Int)) ∧
          (bo = bo ∧
          ((Int.toNat leaf) < m ∧
          (bo = bo ∧
          ((Int.toNat leaf) < m ∧
          (True ∧
          ([(Ch.row (Row.mk Bool.false ao 0 2 n 0 [(fun (i35 : Nat) => (SC.int (mc i35))), (fun (i36 : Nat) => (SC.int (mt i36)))])), (Ch.row (Row.mk Bool.false bo 0 2 m 0 [(fun (i37 : Nat) => (SC.int (lc i37))), (fun (i38 : Nat) => (SC.int (lt i38)))])), (Ch.cells b0 28 [(SC.int root), (SC.sl 0 ao n c), (SC.sl 1 bo m d)])] = [(Ch.row (Row.mk Bool.false ao 0 2 n 0 [(fun (i39 : Nat) => (SC.int (mc i39))), (fun (i40 : Nat) => (SC.int (mt i40)))])), (Ch.row (Row.mk Bool.false bo 0 2 m 0 [(fun (i41 : Nat) => (SC.int (lc i41))), (fun (i42 : Nat) => (SC.int (lt i42)))])), (Ch.cells b0 28 [(SC.int root), (SC.sl 0 ao n c), (SC.sl 1 bo m d)])] ∧
          ((((lt (Int.toNat leaf)) != (tagW key ((2000 : Int) + leaf) (mc (Int.toNat (leaf / (4 : Int)))) (lc (Int.toNat leaf)))) = Bool.true →
          (Value.tuple (List.toArray [(Value.int IntKind.i64 (0 : Int)), (Value.bool Bool.false)])) = (Value.tuple (List.toArray [(Value.int IntKind.i64 (lcV key root n m mc mt lc lt leaf)), (Value.bool (lcOk key root n m mc mt lc lt leaf))]))) ∧
          (((lt (Int.toNat leaf)) != (tagW key ((2000 : Int) + leaf) (mc (Int.toNat (leaf / (4 : Int)))) (lc (Int.toNat leaf)))) = Bool.false →
          (b0 = b0 ∧
           (bo = bo ∧
           (m = m ∧
           ((0 ≤ leaf ∧ leaf < ((m : Nat) : Int)) ∧
           (bo = bo ∧
           ((Int.toNat leaf) < m ∧
           (bo = bo ∧
           ((Int.toNat leaf) < m ∧
           (Value.tuple (List.toArray [(Value.int IntKind.i64 (lc (Int.toNat leaf))), (Value.bool Bool.true)])) = (Value.tuple (List.toArray [(Value.int IntKind.i64 (lcV key root n m mc mt lc lt leaf)), (Value.bool (lcOk key root n m mc mt lc lt leaf))]))))))))))))))))))))))))))))))))))))))))))) ∧
         (((mt (Int.toNat (leaf / (4 : Int)))) != (tagW key ((1000 : Int) + (leaf / (4 : Int))) root (mc (Int.toNat (leaf / (4 : Int)))))) = Bool.true →
         (Value.tuple (List.toArray [(Value.int IntKind.i64 (0 : Int)), (Value.bool Bool.false)])) = (Value.tuple (List.toArray [(Value.int IntKind.i64 (lcV key root n m mc mt lc lt leaf)), (Value.bool (lcOk key root n m mc mt lc lt leaf))]))))))))))))))))))))))))))) ∧
        ((!(btw (lc (Int.toNat leaf)) (0 : Int) (1000000000 : Int))) = Bool.true →
        (Value.tuple (List.toArray [(Value.int IntKind.i64 (0 : Int)), (Value.bool Bool.false)])) = (Value.tuple (List.toArray [(Value.int IntKind.i64 (lcV key root n m mc mt lc lt leaf)), (Value.bool (lcOk key root n m mc mt lc lt leaf))])))))))))))))) ∧
       ((!(btw (mc (Int.toNat (leaf / (4 : Int)))) (0 : Int) (1000000000 : Int))) = Bool.true →
       (Value.tuple (List.toArray [(Value.int IntKind.i64 (0 : Int)), (Value.bool Bool.false)])) = (Value.tuple (List.toArray [(Value.int IntKind.i64 (lcV key root n m mc mt lc lt leaf)), (Value.bool (lcOk key root n m mc mt lc lt leaf))])))))))))))))) ∧
      ((!(btw root (0 : Int) (1000000000 : Int))) = Bool.true →
      (Value.tuple (List.toArray [(Value.int IntKind.i64 (0 : Int)), (Value.bool Bool.false)])) = (Value.tuple (List.toArray [(Value.int IntKind.i64 (lcV key root n m mc mt lc lt leaf)), (Value.bool (lcOk key root n m mc mt lc lt leaf))])))))))))) ∧
    ((((m : Nat) : Int) != (8 : Int)) = Bool.true →
    (Value.tuple (List.toArray [(Value.int IntKind.i64 (0 : Int)), (Value.bool Bool.false)])) = (Value.tuple (List.toArray [(Value.int IntKind.i64 (lcV key root n m mc mt lc lt leaf)), (Value.bool (lcOk key root n m mc mt lc lt leaf))])))))) ∧
   ((((n : Nat) : Int) != (2 : Int)) = Bool.true →
   (Value.tuple (List.toArray [(Value.int IntKind.i64 (0 : Int)), (Value.bool Bool.false)])) = (Value.tuple (List.toArray [(Value.int IntKind.i64 (lcV key root n m mc mt lc lt leaf)), (Value.bool (lcOk key root n m mc mt lc lt leaf))])))))) ∧
  ((!(isW key)) = Bool.true →
  (Value.tuple (List.toArray [(Value.int IntKind.i64 (0 : Int)), (Value.bool Bool.false)])) = (Value.tuple (List.toArray [(Value.int IntKind.i64 (lcV key root n m mc mt lc lt leaf)), (Value.bool (lcOk key root n m mc mt lc lt leaf))])))))) := by kernel_rfl
theorem lcS_any (key root : Int) (ao bo : Option Addr) (n c m d : Nat) (mc mt lc lt : Nat → Int) (leaf : Int) (w : World) (h1 : Row.sat w ⟨false, ao, 0, 2, n, 0, [fun i => .int (mc i), fun i => .int (mt i)]⟩) (h2 : Row.sat w ⟨false, bo, 0, 2, m, 0, [fun i => .int (lc i), fun i => .int (lt i)]⟩) :
    Calls Try.prog 53 #[.int .i64 key, .agg #[.int .i64 root, .slice ao n c, .slice bo m d], .int .i64 leaf] w fun e w' => e = .returned (.tuple #[.int .i64 (lcV key root n m mc mt lc lt leaf), .bool (lcOk key root n m mc mt lc lt leaf)]) ∧ Below w.heap.size w w' := by
  refine fnB (tb := [(34, sIsW), (39, sBtw), (40, iNumber), (35, iMidS), (36, iLeafS)]) ⟨sIsW_spec, sBtwS_ok, iNumber_ok, iMidS_ok, iLeafS_ok, trivial⟩ Try.func53 (@Eq.mpr _ _ (lcS_T key root ao bo n c m d mc mt lc lt leaf) ?_) (HS.rows (fun _ => False) [⟨false, ao, 0, 2, n, 0, [fun i => .int (mc i), fun i => .int (mt i)]⟩, ⟨false, bo, 0, 2, m, 0, [fun i => .int (lc i), fun i => .int (lt i)]⟩] (by simpa using ⟨h1, h2⟩)) (fun v ch' w' hk hs => ⟨by rw [hk], hs.below⟩)
  repeat' (first | exact rfl | exact True.intro | refine And.intro ?_ ?_ | intro _)
  all_goals (try (simp_all [lcOk, lcV]; done))
  all_goals simp_all [btw]
  all_goals omega
def sLC : Sm := fun args ch k =>
  match args with
  | [.a (.c kc), .a (.agg [rc, .sl i1 ao n _, .sl i2 bo m _]), .a (.c lc')] =>
    match ch[i1]?, ch[i2]?, ints [kc, rc, lc'] with
    | some (.row r), some (.row r'), some [key, root, leaf] => ∃ mc mt lc lt : Nat → Int, (ao = r.ao ∧ n = r.n ∧ r.fld = [fun i => .int (mc i), fun i => .int (mt i)] ∧ bo = r'.ao ∧ m = r'.n ∧ r'.fld = [fun i => .int (lc i), fun i => .int (lt i)]) ∧
        k (.tup [.c (.int (lcV key root n m mc mt lc lt leaf)), .c (.bool (lcOk key root n m mc mt lc lt leaf))]) ch []
    | _, _, _ => False
  | _ => False
theorem sLC_ok {f : FuncId} (hc : ∀ args w, (callFunc f args).run Try.prog w = .ok (.enter f args) w) (h : ∀ (key root : Int) (ao bo : Option Addr) (n c m d : Nat) (mc mt lc lt : Nat → Int) (leaf : Int) (w : World), Row.sat w ⟨false, ao, 0, 2, n, 0, [fun i => .int (mc i), fun i => .int (mt i)]⟩ → Row.sat w ⟨false, bo, 0, 2, m, 0, [fun i => .int (lc i), fun i => .int (lt i)]⟩ → Calls Try.prog f #[.int .i64 key, .agg #[.int .i64 root, .slice ao n c, .slice bo m d], .int .i64 leaf] w fun e w' => e = .returned (.tuple #[.int .i64 (lcV key root n m mc mt lc lt leaf), .bool (lcOk key root n m mc mt lc lt leaf)]) ∧ Below w.heap.size w w') : SmOK Try.prog f sLC := by
  refine smB hc fun args ch k w X h0 hs => ?_
  unfold sLC at h0
  split at h0
  · rename_i kc rc i1 ao n c i2 bo m d lc'
    split at h0
    · rename_i r r' key root leaf hr hr' hi
      obtain ⟨mc, mt, lc, lt, ⟨rfl, rfl, hf, rfl, rfl, hf'⟩, h0⟩ := h0
      obtain ⟨e0, hi⟩ := ints_cons hi
      obtain ⟨e1, hi⟩ := ints_cons hi
      obtain ⟨e2, hi⟩ := ints_cons hi
      refine ⟨_, h0, ?_⟩
      simp only [List.map_cons, List.map_nil, den_a, den_c, SA.den, den_sl, e0, e1, e2]
      exact h key root r.ao r'.ao r.n c r'.n d mc mt lc lt leaf w (Row.seenAs (hs.sat i1 _ hr) hf rfl) (Row.seenAs (hs.sat i2 _ hr') hf' rfl)
    · exact h0.elim
  · exact h0.elim
theorem sLC_impl : SmOK Try.prog 14 sLC := sLC_ok Try.call14 lcI_any
theorem sLC_spec : SmOK Try.prog 53 sLC := sLC_ok Try.call53 lcS_any
end Go.Proofs.Ytppeocfcdeiemaa
