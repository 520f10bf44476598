/-
  Slices of flat elements: copied, compared, marked, held, counted. Written by program.
-/
import Derived.Test.YtppeocfcdeiemaaSxBtw
namespace Go.Proofs.Ytppeocfcdeiemaa
set_option linter.unusedVariables false
set_option linter.unusedSimpArgs false
open Go.RowKit
set_option maxRecDepth 100000

/-! laws.toIntS -/
def toIntH (ao : Option Addr) (n cap b : Nat) (i : SC) (g : Nat → Value) : List SV := [.a (.c (.sl 0 ao n cap)), .a (.c (.val (g 1))), .a (.c (.val (g 2))), .a (.c (.sl 1 (some ⟨b, 0, none⟩) n n)), .a (.c i), .a (.c (.val (g 5))), .a (.c (.val (g 6))), .a (.c (.val (g 7))), .a (.c (.val (g 8))), .a (.c (.val (g 9))), .a (.c (.val (g 10))), .a (.c (.val (g 11))), .a (.c (.val (g 12))), .a (.c (.val (g 13))), .a (.c (.val (g 14))), .a (.c (.val (g 15))), .a (.c (.val (g 16))), .a (.c (.val (g 17))), .a (.c (.val (g 18))), .a (.c (.val (g 19))), .a (.c (.val (g 20))), .a (.c (.val (g 21)))]
def toIntT (ao : Option Addr) (n b : Nat) (g0 : Nat → Int) (fs : List (Nat → SC)) : List Ch := [.row ⟨false, ao, 0, 1, n, 0, [fun i => .int (g0 i)]⟩, .row ⟨true, some ⟨b, 0, none⟩, 3, 1, n, n, fs⟩]
def sToIntL (ao : Option Addr) (n cap : Nat) (g0 : Nat → Int) : LSm := fun ts ch k =>
  ∃ b, (ts.map SV.den = (toIntH ao n cap b (.il 0) (fun d => (ts.getD d .undef).den)).map SV.den ∧ ch = toIntT ao n b g0 [fun _ => .il 0]) ∧
    ∀ g, k (.exit 0) (toIntH ao n cap b (.int (n : Int)) g) (toIntT ao n b g0 [fun i => .int (g0 i)])
def sToIntS : Sm := fun args ch k =>
  match args with
  | [.a (.c (.sl id ao n _))] =>
    match ch[id]? with
    | some (.row r) => ∃ g0 : Nat → Int, (ao = r.ao ∧ n = r.n ∧ r.fld = [fun i => .int (g0 i)] ∧ capC n) ∧
        ∀ b, k (.a (.c (.sl ch.length (some ⟨b, 0, none⟩) n n))) (ch ++ [.row ⟨true, some ⟨b, 0, none⟩, 3, 1, n, n, [fun i => .int (g0 i)]⟩]) []
    | _ => False
  | _ => False
/-! laws.eqIntS: where both read the same -/
def eqIntH (ao bo : Option Addr) (n c d : Nat) (i : SC) (g : Nat → Value) : List SV := [.a (.c (.sl 0 ao n c)), .a (.c (.sl 1 bo n d)), .a (.c (.val (g 2))), .a (.c (.val (g 3))), .a (.c (.lit false)), .a (.c i), .a (.c (.val (g 6))), .a (.c (.val (g 7))), .a (.c (.val (g 8))), .a (.c (.val (g 9))), .a (.c (.val (g 10))), .a (.c (.val (g 11))), .a (.c (.val (g 12))), .a (.c (.val (g 13))), .a (.c (.val (g 14))), .a (.c (.val (g 15))), .a (.c (.val (g 16))), .a (.c (.val (g 17))), .a (.c (.val (g 18))), .a (.c (.val (g 19))), .a (.c (.val (g 20))), .a (.c (.val (g 21))), .a (.c (.val (g 22))), .a (.c (.val (g 23))), .a (.c (.val (g 24))), .a (.c (.val (g 25)))]
def eqIntT (ao bo : Option Addr) (n : Nat) (g0 q0 : Nat → Int) : List Ch := [.row ⟨false, ao, 0, 1, n, 0, [fun i => .int (g0 i)]⟩, .row ⟨false, bo, 0, 1, n, 0, [fun i => .int (q0 i)]⟩]
def sEqIntL (ao bo : Option Addr) (n c d : Nat) (g0 q0 : Nat → Int) : LSm := fun ts ch k =>
  (ts.map SV.den = (eqIntH ao bo n c d (.il 0) (fun d => (ts.getD d .undef).den)).map SV.den ∧ ch = eqIntT ao bo n g0 q0) ∧
    ∀ g, k (.exit 0) (eqIntH ao bo n c d (.int (n : Int)) g) (eqIntT ao bo n g0 q0)
def sEqIntS : Sm := fun args ch k =>
  match args with
  | [.a (.c (.sl id ao n _)), .a (.c (.sl id' bo m _))] =>
    match ch[id]?, ch[id']? with
    | some (.row r), some (.row r') => ∃ g0 : Nat → Int, ∃ q0 : Nat → Int, (ao = r.ao ∧ n = r.n ∧ r.fld = [fun i => .int (g0 i)] ∧ bo = r'.ao ∧ m = r'.n ∧ r'.fld = [fun i => .int (q0 i)] ∧ n = m ∧ capC n) ∧ ((∀ i, ltN i n → g0 i = q0 i) ∧ k (.a (.c (.lit true))) ch [])
    | _, _ => False
  | _ => False
/-! laws.markIntS -/
def markIntH (ao : Option Addr) (n cap : Nat) (i kk : SC) (g : Nat → Value) : List SV := [.a (.c (.sl 0 ao n cap)), .a (.c kk), .a (.c (.val (g 2))), .a (.c (.val (g 3))), .a (.c (.val (g 4))), .a (.c i), .a (.c (.val (g 6))), .a (.c (.val (g 7))), .a (.c (.val (g 8))), .a (.c (.val (g 9))), .a (.c (.val (g 10))), .a (.c (.val (g 11))), .a (.c (.val (g 12))), .a (.c (.val (g 13))), .a (.c (.val (g 14))), .a (.c (.val (g 15))), .a (.c (.val (g 16))), .a (.c (.val (g 17))), .a (.c (.val (g 18)))]
def markIntT (ao : Option Addr) (t n rc : Nat) (fs : List (Nat → SC)) : List Ch := [.row ⟨true, ao, t, 1, n, rc, fs⟩]
def sMarkIntL (ao : Option Addr) (t n rc cap : Nat) (g0 : Nat → Int) (k0 : Int) : LSm := fun ts ch k =>
  (ts.map SV.den = (markIntH ao n cap (.il 0) (.int k0) (fun d => (ts.getD d .undef).den)).map SV.den ∧ ch = markIntT ao t n rc [fun i => .int (g0 i)]) ∧
    ∀ g, k (.exit 0) (markIntH ao n cap (.int (n : Int)) (.int (mk k0 1 0 n)) g) (markIntT ao t n rc [fun i => .int (mk k0 1 0 i)])
def sMarkIntS : Sm := fun args ch k =>
  match args with
  | [.a (.c (.sl id ao n _)), .a (.c kc)] =>
    match ch[id]?, asI kc with
    | some (.row r), some k0 =>
      match r.own with
      | true => ∃ g0 : Nat → Int, (ao = r.ao ∧ n = r.n ∧ r.fld = [fun i => .int (g0 i)] ∧ markC n k0) ∧ k (.a (.c (.int (mk k0 1 0 n)))) (ch.set id (.row { r with fld := [fun i => .int (mk k0 1 0 i)] })) [id]
      | false => False
    | _, _ => False
  | _ => False
/-! laws.heldIntS: where it holds the marks -/
def heldIntH (ao : Option Addr) (n cap : Nat) (i kk : SC) (g : Nat → Value) : List SV := [.a (.c (.sl 0 ao n cap)), .a (.c kk), .a (.c (.val (g 2))), .a (.c (.val (g 3))), .a (.c (.il 0)), .a (.c i), .a (.c (.val (g 6))), .a (.c (.val (g 7))), .a (.c (.val (g 8))), .a (.c (.val (g 9))), .a (.c (.val (g 10))), .a (.c (.val (g 11))), .a (.c (.val (g 12))), .a (.c (.val (g 13))), .a (.c (.val (g 14))), .a (.c (.val (g 15))), .a (.c (.val (g 16))), .a (.c (.val (g 17))), .a (.c (.val (g 18))), .a (.c (.val (g 19))), .a (.c (.val (g 20)))]
def heldIntT (ao : Option Addr) (n : Nat) (k0 : Int) : List Ch := [.row ⟨false, ao, 0, 1, n, 0, [fun i => .int (mk k0 1 0 i)]⟩]
def sHeldIntL (ao : Option Addr) (n cap : Nat) (k0 : Int) : LSm := fun ts ch k =>
  (ts.map SV.den = (heldIntH ao n cap (.il 0) (.int k0) (fun d => (ts.getD d .undef).den)).map SV.den ∧ ch = heldIntT ao n k0) ∧
    ∀ g, k (.exit 0) (heldIntH ao n cap (.int (n : Int)) (.int (mk k0 1 0 n)) g) (heldIntT ao n k0)
def sHeldIntS : Sm := fun args ch k =>
  match args with
  | [.a (.c (.sl id ao n _)), .a (.c kc)] =>
    match ch[id]?, asI kc with
    | some (.row r), some k0 => (ao = r.ao ∧ n = r.n ∧ r.fld = [fun i => .int (mk k0 1 0 i)] ∧ markC n k0) ∧ k (.a (.c (.int (mk k0 1 0 n)))) ch []
    | _, _ => False
  | _ => False
/-! laws.szIntS -/
def sSzIntS : Sm := fun args ch k =>
  match args with
  | [.a (.c (.sl _ _ n _)), .a (.c kc)] =>
    match asI kc with
    | some k0 => szC n k0 ∧ (szLt k0 n → k (.a (.c (.il (-1)))) ch []) ∧ (szGe k0 n → k (.a (.c (.int (szSub k0 n)))) ch [])
    | none => False
  | _ => False
/-! laws.toNodeS -/
def toNodeH (ao : Option Addr) (n cap b : Nat) (i : SC) (g : Nat → Value) : List SV := [.a (.c (.sl 0 ao n cap)), .a (.c (.val (g 1))), .a (.c (.val (g 2))), .a (.c (.sl 1 (some ⟨b, 0, none⟩) n n)), .a (.c i), .a (.c (.val (g 5))), .a (.c (.val (g 6))), .a (.c (.val (g 7))), .a (.c (.val (g 8))), .a (.c (.val (g 9))), .a (.c (.val (g 10))), .a (.c (.val (g 11))), .a (.c (.val (g 12))), .a (.c (.val (g 13))), .a (.c (.val (g 14))), .a (.c (.val (g 15))), .a (.c (.val (g 16))), .a (.c (.val (g 17))), .a (.c (.val (g 18))), .a (.c (.val (g 19))), .a (.c (.val (g 20))), .a (.c (.val (g 21))), .a (.c (.val (g 22)))]
def toNodeT (ao : Option Addr) (n b : Nat) (g0 g1 : Nat → Int) (fs : List (Nat → SC)) : List Ch := [.row ⟨false, ao, 0, 2, n, 0, [fun i => .int (g0 i), fun i => .int (g1 i)]⟩, .row ⟨true, some ⟨b, 0, none⟩, 37, 2, n, n, fs⟩]
def sToNodeL (ao : Option Addr) (n cap : Nat) (g0 g1 : Nat → Int) : LSm := fun ts ch k =>
  ∃ b, (ts.map SV.den = (toNodeH ao n cap b (.il 0) (fun d => (ts.getD d .undef).den)).map SV.den ∧ ch = toNodeT ao n b g0 g1 [fun _ => .il 0, fun _ => .il 0]) ∧
    ∀ g, k (.exit 0) (toNodeH ao n cap b (.int (n : Int)) g) (toNodeT ao n b g0 g1 [fun i => .int (g0 i), fun i => .int (g1 i)])
def sToNode : Sm := fun args ch k =>
  match args with
  | [.a (.agg [c0, c1])] =>
    match ints [c0, c1], bools [] with
    | some [aCount, aTag], some [] => k (.a (.agg [.int (aCount), .int (aTag)])) ch []
    | _, _ => False
  | _ => False
theorem sToNode_ok_ {f : FuncId} (hc : ∀ args w, (callFunc f args).run Try.prog w = .ok (.enter f args) w) (h : ∀ (aCount aTag : Int) (w : World), Calls Try.prog f #[.agg #[.int .i64 aCount, .int .i64 aTag]] w fun e w' => e = .returned (.agg #[.int .i64 (aCount), .int .i64 (aTag)]) ∧ Below w.heap.size w w') : SmOK Try.prog f sToNode := by
  refine smB hc fun args ch k w X h0 hs => ?_
  unfold sToNode at h0
  split at h0
  · split at h0
    · rename_i aCount aTag hi hb
      obtain ⟨e0, hi1⟩ := ints_cons hi
      obtain ⟨e1, hi2⟩ := ints_cons hi1
      refine ⟨_, h0, ?_⟩
      simp only [List.map_cons, List.map_nil, den_a, den_c, SA.den, e0, e1]
      exact h aCount aTag w
    · exact h0.elim
  · exact h0.elim
def sToNodeS : Sm := fun args ch k =>
  match args with
  | [.a (.c (.sl id ao n _))] =>
    match ch[id]? with
    | some (.row r) => ∃ g0 : Nat → Int, ∃ g1 : Nat → Int, (ao = r.ao ∧ n = r.n ∧ r.fld = [fun i => .int (g0 i), fun i => .int (g1 i)] ∧ capC n) ∧
        ∀ b, k (.a (.c (.sl ch.length (some ⟨b, 0, none⟩) n n))) (ch ++ [.row ⟨true, some ⟨b, 0, none⟩, 37, 2, n, n, [fun i => .int (g0 i), fun i => .int (g1 i)]⟩]) []
    | _ => False
  | _ => False
def eqNodeE (aCount aTag bCount bTag : Int) : Bool := aCount == bCount && aTag == bTag
def sEqNode : Sm := fun args ch k =>
  match args with
  | [.a (.agg [c0, c1]), .a (.agg [c2, c3])] =>
    match ints [c0, c1, c2, c3], bools [] with
    | some [aCount, aTag, bCount, bTag], some [] => k (.a (.c (.bool (eqNodeE aCount aTag bCount bTag)))) ch []
    | _, _ => False
  | _ => False
theorem sEqNode_ok_ {f : FuncId} (hc : ∀ args w, (callFunc f args).run Try.prog w = .ok (.enter f args) w) (h : ∀ (aCount aTag bCount bTag : Int) (w : World), Calls Try.prog f #[.agg #[.int .i64 aCount, .int .i64 aTag], .agg #[.int .i64 bCount, .int .i64 bTag]] w fun e w' => e = .returned (.bool (eqNodeE aCount aTag bCount bTag)) ∧ Below w.heap.size w w') : SmOK Try.prog f sEqNode := by
  refine smB hc fun args ch k w X h0 hs => ?_
  unfold sEqNode at h0
  split at h0
  · split at h0
    · rename_i aCount aTag bCount bTag hi hb
      obtain ⟨e0, hi1⟩ := ints_cons hi
      obtain ⟨e1, hi2⟩ := ints_cons hi1
      obtain ⟨e2, hi3⟩ := ints_cons hi2
      obtain ⟨e3, hi4⟩ := ints_cons hi3
      refine ⟨_, h0, ?_⟩
      simp only [List.map_cons, List.map_nil, den_a, den_c, SA.den, e0, e1, e2, e3]
      exact h aCount aTag bCount bTag w
    · exact h0.elim
  · exact h0.elim
/-! laws.eqNodeS: where both read the same -/
def eqNodeH (ao bo : Option Addr) (n c d : Nat) (i : SC) (g : Nat → Value) : List SV := [.a (.c (.sl 0 ao n c)), .a (.c (.sl 1 bo n d)), .a (.c (.val (g 2))), .a (.c (.val (g 3))), .a (.c (.lit false)), .a (.c i), .a (.c (.val (g 6))), .a (.c (.val (g 7))), .a (.c (.val (g 8))), .a (.c (.val (g 9))), .a (.c (.val (g 10))), .a (.c (.val (g 11))), .a (.c (.val (g 12))), .a (.c (.val (g 13))), .a (.c (.val (g 14))), .a (.c (.val (g 15))), .a (.c (.val (g 16))), .a (.c (.val (g 17))), .a (.c (.val (g 18))), .a (.c (.val (g 19))), .a (.c (.val (g 20))), .a (.c (.val (g 21))), .a (.c (.val (g 22))), .a (.c (.val (g 23))), .a (.c (.val (g 24))), .a (.c (.val (g 25))), .a (.c (.val (g 26)))]
def eqNodeT (ao bo : Option Addr) (n : Nat) (g0 g1 q0 q1 : Nat → Int) : List Ch := [.row ⟨false, ao, 0, 2, n, 0, [fun i => .int (g0 i), fun i => .int (g1 i)]⟩, .row ⟨false, bo, 0, 2, n, 0, [fun i => .int (q0 i), fun i => .int (q1 i)]⟩]
def sEqNodeL (ao bo : Option Addr) (n c d : Nat) (g0 g1 q0 q1 : Nat → Int) : LSm := fun ts ch k =>
  (ts.map SV.den = (eqNodeH ao bo n c d (.il 0) (fun d => (ts.getD d .undef).den)).map SV.den ∧ ch = eqNodeT ao bo n g0 g1 q0 q1) ∧
    ∀ g, k (.exit 0) (eqNodeH ao bo n c d (.int (n : Int)) g) (eqNodeT ao bo n g0 g1 q0 q1)
def sEqNodeS : Sm := fun args ch k =>
  match args with
  | [.a (.c (.sl id ao n _)), .a (.c (.sl id' bo m _))] =>
    match ch[id]?, ch[id']? with
    | some (.row r), some (.row r') => ∃ g0 : Nat → Int, ∃ g1 : Nat → Int, ∃ q0 : Nat → Int, ∃ q1 : Nat → Int, (ao = r.ao ∧ n = r.n ∧ r.fld = [fun i => .int (g0 i), fun i => .int (g1 i)] ∧ bo = r'.ao ∧ m = r'.n ∧ r'.fld = [fun i => .int (q0 i), fun i => .int (q1 i)] ∧ n = m ∧ capC n) ∧ ((∀ i, ltN i n → g0 i = q0 i ∧ g1 i = q1 i) ∧ k (.a (.c (.lit true))) ch [])
    | _, _ => False
  | _ => False
/-! laws.markNodeS -/
def markNodeH (ao : Option Addr) (n cap : Nat) (i kk : SC) (g : Nat → Value) : List SV := [.a (.c (.sl 0 ao n cap)), .a (.c kk), .a (.c (.val (g 2))), .a (.c (.val (g 3))), .a (.c (.val (g 4))), .a (.c i), .a (.c (.val (g 6))), .a (.c (.val (g 7))), .a (.c (.val (g 8))), .a (.c (.val (g 9))), .a (.c (.val (g 10))), .a (.c (.val (g 11))), .a (.c (.val (g 12))), .a (.c (.val (g 13))), .a (.c (.val (g 14))), .a (.c (.val (g 15))), .a (.c (.val (g 16))), .a (.c (.val (g 17))), .a (.c (.val (g 18))), .a (.c (.val (g 19))), .a (.c (.val (g 20))), .a (.c (.val (g 21))), .a (.c (.val (g 22))), .a (.c (.val (g 23))), .a (.c (.val (g 24))), .a (.c (.val (g 25))), .a (.c (.val (g 26)))]
def markNodeT (ao : Option Addr) (t n rc : Nat) (fs : List (Nat → SC)) : List Ch := [.row ⟨true, ao, t, 2, n, rc, fs⟩]
def sMarkNodeL (ao : Option Addr) (t n rc cap : Nat) (g0 g1 : Nat → Int) (k0 : Int) : LSm := fun ts ch k =>
  (ts.map SV.den = (markNodeH ao n cap (.il 0) (.int k0) (fun d => (ts.getD d .undef).den)).map SV.den ∧ ch = markNodeT ao t n rc [fun i => .int (g0 i), fun i => .int (g1 i)]) ∧
    ∀ g, k (.exit 0) (markNodeH ao n cap (.int (n : Int)) (.int (mk k0 2 0 n)) g) (markNodeT ao t n rc [fun i => .int (mk k0 2 0 i), fun i => .int (mk k0 2 1 i)])
def sMarkNodeS : Sm := fun args ch k =>
  match args with
  | [.a (.c (.sl id ao n _)), .a (.c kc)] =>
    match ch[id]?, asI kc with
    | some (.row r), some k0 =>
      match r.own with
      | true => ∃ g0 : Nat → Int, ∃ g1 : Nat → Int, (ao = r.ao ∧ n = r.n ∧ r.fld = [fun i => .int (g0 i), fun i => .int (g1 i)] ∧ markC n k0) ∧ k (.a (.c (.int (mk k0 2 0 n)))) (ch.set id (.row { r with fld := [fun i => .int (mk k0 2 0 i), fun i => .int (mk k0 2 1 i)] })) [id]
      | false => False
    | _, _ => False
  | _ => False
/-! laws.heldNodeS: where it holds the marks -/
def heldNodeH (ao : Option Addr) (n cap : Nat) (i kk : SC) (g : Nat → Value) : List SV := [.a (.c (.sl 0 ao n cap)), .a (.c kk), .a (.c (.val (g 2))), .a (.c (.val (g 3))), .a (.c (.il 0)), .a (.c i), .a (.c (.val (g 6))), .a (.c (.val (g 7))), .a (.c (.val (g 8))), .a (.c (.val (g 9))), .a (.c (.val (g 10))), .a (.c (.val (g 11))), .a (.c (.val (g 12))), .a (.c (.val (g 13))), .a (.c (.val (g 14))), .a (.c (.val (g 15))), .a (.c (.val (g 16))), .a (.c (.val (g 17))), .a (.c (.val (g 18))), .a (.c (.val (g 19))), .a (.c (.val (g 20))), .a (.c (.val (g 21))), .a (.c (.val (g 22))), .a (.c (.val (g 23))), .a (.c (.val (g 24))), .a (.c (.val (g 25))), .a (.c (.val (g 26))), .a (.c (.val (g 27))), .a (.c (.val (g 28))), .a (.c (.val (g 29))), .a (.c (.val (g 30)))]
def heldNodeT (ao : Option Addr) (n : Nat) (k0 : Int) : List Ch := [.row ⟨false, ao, 0, 2, n, 0, [fun i => .int (mk k0 2 0 i), fun i => .int (mk k0 2 1 i)]⟩]
def sHeldNodeL (ao : Option Addr) (n cap : Nat) (k0 : Int) : LSm := fun ts ch k =>
  (ts.map SV.den = (heldNodeH ao n cap (.il 0) (.int k0) (fun d => (ts.getD d .undef).den)).map SV.den ∧ ch = heldNodeT ao n k0) ∧
    ∀ g, k (.exit 0) (heldNodeH ao n cap (.int (n : Int)) (.int (mk k0 2 0 n)) g) (heldNodeT ao n k0)
def sHeldNodeS : Sm := fun args ch k =>
  match args with
  | [.a (.c (.sl id ao n _)), .a (.c kc)] =>
    match ch[id]?, asI kc with
    | some (.row r), some k0 => (ao = r.ao ∧ n = r.n ∧ r.fld = [fun i => .int (mk k0 2 0 i), fun i => .int (mk k0 2 1 i)] ∧ markC n k0) ∧ k (.a (.c (.int (mk k0 2 0 n)))) ch []
    | _, _ => False
  | _ => False
/-! laws.szNodeS -/
def sSzNodeS : Sm := fun args ch k =>
  match args with
  | [.a (.c (.sl _ _ n _)), .a (.c kc)] =>
    match asI kc with
    | some k0 => szC n k0 ∧ (szLt k0 n → k (.a (.c (.il (-1)))) ch []) ∧ (szGe k0 n → k (.a (.c (.int (szSub k0 n)))) ch [])
    | none => False
  | _ => False
end Go.Proofs.Ytppeocfcdeiemaa
