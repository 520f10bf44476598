/-
  Corrections as objects.
-/
import Derived.Test.YtddeinpnadfgmaaSxHA
import Derived.Test.YtddeinpnadfgmaaSxO
namespace Go.Proofs.Ytddeinpnadfgmaa
set_option linter.unusedVariables false
set_option linter.unusedSimpArgs false
open Go.RowKit
set_option maxRecDepth 100000
set_option maxHeartbeats 8000000

def iMarkC : Sm := inlM Try.prog {tb := [(59, sMarkIntS)]} 300 Try.f73
theorem iMarkC_ok : SmOK Try.prog 73 iMarkC := inlM_ok mixed (E := {tb := [(59, sMarkIntS)]}) ⟨sMarkIntS_ok, trivial⟩ Try.func73 Try.call73 (fun _ _ _ => loopsOK_nil _ _ _)
def iHeldC : Sm := inlM Try.prog {tb := [(61, sHeldIntS)]} 300 Try.f88
theorem iHeldC_ok : SmOK Try.prog 88 iHeldC := inlM_ok mixed (E := {tb := [(61, sHeldIntS)]}) ⟨sHeldIntS_ok, trivial⟩ Try.func88 Try.call88 (fun _ _ _ => loopsOK_nil _ _ _)
def iSzC : Sm := inlM Try.prog {tb := [(44, sSzIntS)]} 300 Try.f62
theorem iSzC_ok : SmOK Try.prog 62 iSzC := inlM_ok mixed (E := {tb := [(44, sSzIntS)]}) ⟨sSzIntS_ok, trivial⟩ Try.func62 Try.call62 (fun _ _ _ => loopsOK_nil _ _ _)
/-! Ticket -/
structure TicketD where
  Index : Int
  BeforeSymbolsN : Nat
  (BeforeSymbolsg0 : Nat → Int)
  BeforePoison : Bool
  AfterSymbolsN : Nat
  (AfterSymbolsg0 : Nat → Int)
  AfterPoison : Bool
  Code : Int
def isTicket (v : Value) (x : TicketD) (rs : List Row) : Prop :=
  ∃ (BeforeSymbolsO AfterSymbolsO : Option Addr) (BeforeSymbolsC BeforeSymbolsT BeforeSymbolsK AfterSymbolsC AfterSymbolsT AfterSymbolsK : Nat) (BeforeSymbolsB AfterSymbolsB : Bool), v = .agg #[.int .i64 x.Index, .slice BeforeSymbolsO x.BeforeSymbolsN BeforeSymbolsC, .bool x.BeforePoison, .slice AfterSymbolsO x.AfterSymbolsN AfterSymbolsC, .bool x.AfterPoison, .int .i64 x.Code] ∧ rs = [⟨BeforeSymbolsB, BeforeSymbolsO, BeforeSymbolsT, 1, x.BeforeSymbolsN, BeforeSymbolsK, [fun i => .int (x.BeforeSymbolsg0 i)]⟩, ⟨AfterSymbolsB, AfterSymbolsO, AfterSymbolsT, 1, x.AfterSymbolsN, AfterSymbolsK, [fun i => .int (x.AfterSymbolsg0 i)]⟩]
abbrev capTicket (x : TicketD) : Prop := x.BeforeSymbolsN ≤ 2097152 ∧ x.AfterSymbolsN ≤ 2097152
abbrev cap1Ticket (x : TicketD) : Prop := x.BeforeSymbolsN ≤ 1048576 ∧ x.AfterSymbolsN ≤ 1048576
theorem capOf1Ticket {x : TicketD} (h : cap1Ticket x) : capTicket x := by unfold cap1Ticket at h; unfold capTicket; omega
abbrev szPTicket (z k : Int) (BeforeSymbolsN AfterSymbolsN : Nat) : Prop := z = -1 ∨ (0 ≤ z ∧ z ≤ k ∧ BeforeSymbolsN ≤ 1048576 ∧ AfterSymbolsN ≤ 1048576)
abbrev lensTicket (x : TicketD) : Prop := x.BeforeSymbolsN ≤ 9223372036854775807 ∧ x.AfterSymbolsN ≤ 9223372036854775807
theorem wholeTicket {v : Value} {x : TicketD} {rs : List Row} (h : isTicket v x rs) : wholeC true v 6 := by
  obtain ⟨_, _, _, _, _, _, _, _, _, _, rfl, rfl⟩ := h
  exact ⟨_, rfl, rfl, List.all_eq_true.1 rfl⟩
def markTicketD (k : Int) (x : TicketD) : TicketD := ⟨x.Index, x.BeforeSymbolsN, fun i => mk (k) 1 0 i, x.BeforePoison, x.AfterSymbolsN, fun i => mk (mk (k) 1 0 x.BeforeSymbolsN) 1 0 i, x.AfterPoison, x.Code⟩
def endTicket (k : Int) (x : TicketD) : Int := mk (mk (k) 1 0 x.BeforeSymbolsN) 1 0 x.AfterSymbolsN
theorem toTicket_T (Index : Int) (BeforeSymbolsO : Option Addr) (BeforeSymbolsN BeforeSymbolsC : Nat) (BeforeSymbolsg0 : Nat → Int) (BeforePoison : Bool) (AfterSymbolsO : Option Addr) (AfterSymbolsN AfterSymbolsC : Nat) (AfterSymbolsg0 : Nat → Int) (AfterPoison : Bool) (Code : Int) : (exFn Try.prog {tb := [(66, sToC)]} 400 Try.f22 ([.a (.agg [.int Index, .sl 0 BeforeSymbolsO BeforeSymbolsN BeforeSymbolsC, .bool BeforePoison, .sl 1 AfterSymbolsO AfterSymbolsN AfterSymbolsC, .bool AfterPoison, .int Code])]) ([.row ⟨false, BeforeSymbolsO, 0, 1, BeforeSymbolsN, 0, [fun i => .int (BeforeSymbolsg0 i)]⟩, .row ⟨false, AfterSymbolsO, 0, 1, AfterSymbolsN, 0, [fun i => .int (AfterSymbolsg0 i)]⟩]) (fun v ch => ∃ (ro0 : Option Addr) (rc0 : Nat) (ro1 : Option Addr) (rc1 : Nat), OutR v ch (.agg #[.int .i64 (Index), .slice ro0 (BeforeSymbolsN) rc0, .bool (BeforePoison), .slice ro1 (AfterSymbolsN) rc1, .bool (AfterPoison), .int .i64 (Code)]) [.row ⟨true, ro0, 3, 1, BeforeSymbolsN, rc0, [fun i => .int (BeforeSymbolsg0 i)]⟩, .row ⟨true, ro1, 3, 1, AfterSymbolsN, rc1, [fun i => .int (AfterSymbolsg0 i)]⟩])) = (
  (∀ b0 : Nat,
 (∀ b1 : Nat,
 (∀ b2 : Nat,
 (b0 = b0 ∧
 (b2 = b2 ∧
 (b0 = b0 ∧
 (∃ g03 : (Nat →
 Int), ((BeforeSymbolsO = BeforeSymbolsO ∧
 (BeforeSymbolsN = BeforeSymbolsN ∧
 [(fun i4 => (Ci (BeforeSymbolsg0 i4)))] = [(fun i5 => (Ci (g03 i5)))])) ∧
 ((capC BeforeSymbolsN) ∧
 (∀ ro6 : (Option Addr),
 (∀ rc7 : Nat,
 (b2 = b2 ∧
 (b0 = b0 ∧
 (∃ g08 : (Nat →
 Int), ((AfterSymbolsO = AfterSymbolsO ∧
 (AfterSymbolsN = AfterSymbolsN ∧
 [(fun i9 => (Ci (AfterSymbolsg0 i9)))] = [(fun i10 => (Ci (g08 i10)))])) ∧
 ((capC AfterSymbolsN) ∧
 (∀ ro11 : (Option Addr),
 (∀ rc12 : Nat,
 (b2 = b2 ∧
 (b0 = b0 ∧
 (b2 = b2 ∧
 (b2 = b2 ∧
 (b1 = b1 ∧
 (b1 = b1 ∧
 (∃ ro013 : (Option Addr), (∃ rc014 : Nat, (∃ ro115 : (Option Addr), (∃ rc116 : Nat, ((Wa [(Wi Index), (Ws ro6 BeforeSymbolsN rc7), (Wb BeforePoison), (Ws ro11 AfterSymbolsN rc12), (Wb AfterPoison), (Wi Code)]) = (Wa [(Wi Index), (Ws ro013 BeforeSymbolsN rc014), (Wb BeforePoison), (Ws ro115 AfterSymbolsN rc116), (Wb AfterPoison), (Wi Code)]) ∧
 (((true = true ∧
 (ro6 = ro013 ∧
 (3 = 3 ∧
 (1 = 1 ∧
 (BeforeSymbolsN = BeforeSymbolsN ∧
 (rc7 = rc014 ∧
 ((∀ i17 : Nat,
 (i17 < BeforeSymbolsN →
 (Wi (g03 i17)) = (Wi (BeforeSymbolsg0 i17)))) ∧
 True))))))) ∧
 ((true = true ∧
 (ro11 = ro115 ∧
 (3 = 3 ∧
 (1 = 1 ∧
 (AfterSymbolsN = AfterSymbolsN ∧
 (rc12 = rc116 ∧
 ((∀ i18 : Nat,
 (i18 < AfterSymbolsN →
 (Wi (g08 i18)) = (Wi (AfterSymbolsg0 i18)))) ∧
 True))))))) ∧
 True)) ∧
 true = true))))))))))))))))))))))))))))))) := by kernel_rfl
theorem toTicket_any (Index : Int) (BeforeSymbolsO : Option Addr) (BeforeSymbolsN BeforeSymbolsC : Nat) (BeforeSymbolsg0 : Nat → Int) (BeforePoison : Bool) (AfterSymbolsO : Option Addr) (AfterSymbolsN AfterSymbolsC : Nat) (AfterSymbolsg0 : Nat → Int) (AfterPoison : Bool) (Code : Int) (w : World) (hrBeforeSymbols : Row.sat w ⟨false, BeforeSymbolsO, 0, 1, BeforeSymbolsN, 0, [fun i => .int (BeforeSymbolsg0 i)]⟩) (hrAfterSymbols : Row.sat w ⟨false, AfterSymbolsO, 0, 1, AfterSymbolsN, 0, [fun i => .int (AfterSymbolsg0 i)]⟩) (hpre : capC BeforeSymbolsN ∧ capC AfterSymbolsN) : Calls Try.prog 22 #[.agg #[.int .i64 Index, .slice BeforeSymbolsO BeforeSymbolsN BeforeSymbolsC, .bool BeforePoison, .slice AfterSymbolsO AfterSymbolsN AfterSymbolsC, .bool AfterPoison, .int .i64 Code]] w fun e w' => ∃ (ro0 : Option Addr) (rc0 : Nat) (ro1 : Option Addr) (rc1 : Nat), e = .returned (.agg #[.int .i64 (Index), .slice ro0 (BeforeSymbolsN) rc0, .bool (BeforePoison), .slice ro1 (AfterSymbolsN) rc1, .bool (AfterPoison), .int .i64 (Code)]) ∧ HS ⟨w, fun _ => False⟩ [.row ⟨true, ro0, 3, 1, BeforeSymbolsN, rc0, [fun i => .int (BeforeSymbolsg0 i)]⟩, .row ⟨true, ro1, 3, 1, AfterSymbolsN, rc1, [fun i => .int (AfterSymbolsg0 i)]⟩] w' := by
  refine fnB (tb := [(66, sToC)]) ⟨sToC_ok, trivial⟩ Try.func22 (@Eq.mpr _ _ (toTicket_T Index BeforeSymbolsO BeforeSymbolsN BeforeSymbolsC BeforeSymbolsg0 BeforePoison AfterSymbolsO AfterSymbolsN AfterSymbolsC AfterSymbolsg0 AfterPoison Code) ?_) (HS.rows (fun _ => False) [⟨false, BeforeSymbolsO, 0, 1, BeforeSymbolsN, 0, [fun i => .int (BeforeSymbolsg0 i)]⟩, ⟨false, AfterSymbolsO, 0, 1, AfterSymbolsN, 0, [fun i => .int (AfterSymbolsg0 i)]⟩] (by simp; exact ⟨hrBeforeSymbols, hrAfterSymbols⟩)) (fun v ch' w' ⟨ro0, rc0, ro1, rc1, hk⟩ hs => ⟨ro0, rc0, ro1, rc1, by rw [hk.1], hk.hs hs⟩)
  clear hrBeforeSymbols hrAfterSymbols
  repeat' (first
    | exact rfl
    | exact True.intro
    | refine And.intro ?_ ?_
    | apply Exists.intro
    | assumption
    | omega
    | intro _)
def sToTicketO : Sm := fun args ch k =>
  match args with
  | [.a (.c (.obj i0 v0))] =>
    match ch[i0]? with
    | some (.obj _ r0) => ∃ (x : TicketD), (isTicket v0 x r0 ∧ capTicket x) ∧ ∀ (v' : Value) (rs' : List Row), isTicket v' (x) rs' → k (.a (.c (.obj ch.length v'))) (ch ++ [.obj true rs']) []
    | _ => False
  | _ => False
theorem sToTicketO_ok_laws_toTicket : SmOK Try.prog 22 sToTicketO := by
  refine smN Try.call22 fun args ch k w X h0 hs => ?_
  unfold sToTicketO at h0
  split at h0
  · rename_i i0 v0
    split at h0
    · rename_i o0 r0 hi0
      obtain ⟨x, ⟨⟨_, _, _, _, _, _, _, _, _, _, rfl, rfl⟩, hpre⟩, h0⟩ := h0
      have hw0 := hs.seeObj hi0
      simp only [List.map_cons, List.map_nil, den_a, den_c, SA.den, den_obj]
      refine Calls.mono (toTicket_any x.Index _ x.BeforeSymbolsN _ x.BeforeSymbolsg0 x.BeforePoison _ x.AfterSymbolsN _ x.AfterSymbolsg0 x.AfterPoison x.Code w (Row.seenAs (hw0 _ (mem0)).2 rfl rfl) (Row.seenAs (hw0 _ ((memS mem0))).2 rfl rfl) hpre) fun e w' ⟨ro0, rc0, ro1, rc1, he, hs'⟩ => ⟨_, [.obj true _], ?_, hs'.pack (rs := [_, _]) (by simp), rfl, h0 _ _ ⟨ro0, ro1, rc0, _, _, rc1, _, _, _, _, rfl, rfl⟩⟩
      rw [he]
      rfl
    · exact h0.elim
  · exact h0.elim
theorem eqTicket_T (Index : Int) (BeforeSymbolsN : Nat) (BeforeSymbolsg0 : Nat → Int) (BeforePoison : Bool) (AfterSymbolsN : Nat) (AfterSymbolsg0 : Nat → Int) (AfterPoison : Bool) (Code : Int) (aBeforeSymbolsO : Option Addr) (aBeforeSymbolsC : Nat) (aAfterSymbolsO : Option Addr) (aAfterSymbolsC : Nat) (bBeforeSymbolsO : Option Addr) (bBeforeSymbolsC : Nat) (bAfterSymbolsO : Option Addr) (bAfterSymbolsC : Nat) : (exFn Try.prog {tb := [(72, sEqC)]} 400 Try.f24 ([.a (.agg [.int Index, .sl 0 aBeforeSymbolsO BeforeSymbolsN aBeforeSymbolsC, .bool BeforePoison, .sl 1 aAfterSymbolsO AfterSymbolsN aAfterSymbolsC, .bool AfterPoison, .int Code]), .a (.agg [.int Index, .sl 2 bBeforeSymbolsO BeforeSymbolsN bBeforeSymbolsC, .bool BeforePoison, .sl 3 bAfterSymbolsO AfterSymbolsN bAfterSymbolsC, .bool AfterPoison, .int Code])]) ([.row ⟨false, aBeforeSymbolsO, 0, 1, BeforeSymbolsN, 0, [fun i => .int (BeforeSymbolsg0 i)]⟩, .row ⟨false, aAfterSymbolsO, 0, 1, AfterSymbolsN, 0, [fun i => .int (AfterSymbolsg0 i)]⟩, .row ⟨false, bBeforeSymbolsO, 0, 1, BeforeSymbolsN, 0, [fun i => .int (BeforeSymbolsg0 i)]⟩, .row ⟨false, bAfterSymbolsO, 0, 1, AfterSymbolsN, 0, [fun i => .int (AfterSymbolsg0 i)]⟩]) (fun v _ => v.den = .bool true)) = (
  (∀ b0 : Nat,
 (∀ b1 : Nat,
 (b0 = b0 ∧
 (b1 = b1 ∧
 (((Index != Index) = true →
 (Wb false) = (Wb true)) ∧
 ((Index != Index) = false →
 (b0 = b0 ∧
 (b1 = b1 ∧
 (∃ g02 : (Nat →
 Int), ((aBeforeSymbolsO = aBeforeSymbolsO ∧
 (BeforeSymbolsN = BeforeSymbolsN ∧
 [(fun i3 => (Ci (BeforeSymbolsg0 i3)))] = [(fun i4 => (Ci (g02 i4)))])) ∧
 (∃ g05 : (Nat →
 Int), ((bBeforeSymbolsO = bBeforeSymbolsO ∧
 (BeforeSymbolsN = BeforeSymbolsN ∧
 [(fun i6 => (Ci (BeforeSymbolsg0 i6)))] = [(fun i7 => (Ci (g05 i7)))])) ∧
 ((BeforeSymbolsN = BeforeSymbolsN ∧
 (BeforePoison = BeforePoison ∧
 ((capC BeforeSymbolsN) ∧
 (allEq BeforeSymbolsN g02 g05)))) ∧
 (b0 = b0 ∧
 (b1 = b1 ∧
 (∃ g08 : (Nat →
 Int), ((aAfterSymbolsO = aAfterSymbolsO ∧
 (AfterSymbolsN = AfterSymbolsN ∧
 [(fun i9 => (Ci (AfterSymbolsg0 i9)))] = [(fun i10 => (Ci (g08 i10)))])) ∧
 (∃ g011 : (Nat →
 Int), ((bAfterSymbolsO = bAfterSymbolsO ∧
 (AfterSymbolsN = AfterSymbolsN ∧
 [(fun i12 => (Ci (AfterSymbolsg0 i12)))] = [(fun i13 => (Ci (g011 i13)))])) ∧
 ((AfterSymbolsN = AfterSymbolsN ∧
 (AfterPoison = AfterPoison ∧
 ((capC AfterSymbolsN) ∧
 (allEq AfterSymbolsN g08 g011)))) ∧
 (b0 = b0 ∧
 (b1 = b1 ∧
 (((Code != Code) = true →
 (Wb false) = (Wb true)) ∧
 ((Code != Code) = false →
 (Wb true) = (Wb true)))))))))))))))))))))))))) := by kernel_rfl
theorem eqTicket_any (Index : Int) (BeforeSymbolsN : Nat) (BeforeSymbolsg0 : Nat → Int) (BeforePoison : Bool) (AfterSymbolsN : Nat) (AfterSymbolsg0 : Nat → Int) (AfterPoison : Bool) (Code : Int) (aBeforeSymbolsO : Option Addr) (aBeforeSymbolsC : Nat) (aAfterSymbolsO : Option Addr) (aAfterSymbolsC : Nat) (bBeforeSymbolsO : Option Addr) (bBeforeSymbolsC : Nat) (bAfterSymbolsO : Option Addr) (bAfterSymbolsC : Nat) (w : World) (hra0 : Row.sat w ⟨false, aBeforeSymbolsO, 0, 1, BeforeSymbolsN, 0, [fun i => .int (BeforeSymbolsg0 i)]⟩) (hra1 : Row.sat w ⟨false, aAfterSymbolsO, 0, 1, AfterSymbolsN, 0, [fun i => .int (AfterSymbolsg0 i)]⟩) (hrb0 : Row.sat w ⟨false, bBeforeSymbolsO, 0, 1, BeforeSymbolsN, 0, [fun i => .int (BeforeSymbolsg0 i)]⟩) (hrb1 : Row.sat w ⟨false, bAfterSymbolsO, 0, 1, AfterSymbolsN, 0, [fun i => .int (AfterSymbolsg0 i)]⟩) (hcap : BeforeSymbolsN ≤ 2097152 ∧ AfterSymbolsN ≤ 2097152) : Calls Try.prog 24 #[.agg #[.int .i64 Index, .slice aBeforeSymbolsO BeforeSymbolsN aBeforeSymbolsC, .bool BeforePoison, .slice aAfterSymbolsO AfterSymbolsN aAfterSymbolsC, .bool AfterPoison, .int .i64 Code], .agg #[.int .i64 Index, .slice bBeforeSymbolsO BeforeSymbolsN bBeforeSymbolsC, .bool BeforePoison, .slice bAfterSymbolsO AfterSymbolsN bAfterSymbolsC, .bool AfterPoison, .int .i64 Code]] w fun e w' => e = .returned (.bool true) ∧ Below w.heap.size w w' := by
  refine fnB (tb := [(72, sEqC)]) ⟨sEqC_ok, trivial⟩ Try.func24 (@Eq.mpr _ _ (eqTicket_T Index BeforeSymbolsN BeforeSymbolsg0 BeforePoison AfterSymbolsN AfterSymbolsg0 AfterPoison Code aBeforeSymbolsO aBeforeSymbolsC aAfterSymbolsO aAfterSymbolsC bBeforeSymbolsO bBeforeSymbolsC bAfterSymbolsO bAfterSymbolsC) ?_) (HS.rows (fun _ => False) [⟨false, aBeforeSymbolsO, 0, 1, BeforeSymbolsN, 0, [fun i => .int (BeforeSymbolsg0 i)]⟩, ⟨false, aAfterSymbolsO, 0, 1, AfterSymbolsN, 0, [fun i => .int (AfterSymbolsg0 i)]⟩, ⟨false, bBeforeSymbolsO, 0, 1, BeforeSymbolsN, 0, [fun i => .int (BeforeSymbolsg0 i)]⟩, ⟨false, bAfterSymbolsO, 0, 1, AfterSymbolsN, 0, [fun i => .int (AfterSymbolsg0 i)]⟩] (by simp; exact ⟨hra0, hra1, hrb0, hrb1⟩)) (fun v ch' w' hk hs => ⟨by rw [hk], hs.below⟩)
  clear hra0 hra1 hrb0 hrb1
  repeat' (first
    | exact rfl
    | exact True.intro
    | assumption
    | refine And.intro ?_ ?_
    | apply Exists.intro
    | omega
    | (intro h; exfalso; simp at h; done)
    | (intro h; exfalso; simp at h; omega)
    | intro _)
def sEqTicketO : Sm := fun args ch k =>
  match args with
  | [.a (.c (.obj i v)), .a (.c (.obj j u))] =>
    match ch[i]?, ch[j]? with
    | some (.obj _ rs), some (.obj _ us) => ∃ x : TicketD, (isTicket v x rs ∧ isTicket u x us ∧ capTicket x) ∧ k (.a (.c (.lit true))) ch []
    | _, _ => False
  | _ => False
theorem sEqTicketO_ok : SmOK Try.prog 24 sEqTicketO := by
  refine smB Try.call24 fun args ch k w X h0 hs => ?_
  unfold sEqTicketO at h0
  split at h0
  · rename_i i v j u
    split at h0
    · rename_i o rs o' us hi hj
      obtain ⟨x, ⟨⟨_, _, _, _, _, _, _, _, _, _, rfl, rfl⟩, ⟨_, _, _, _, _, _, _, _, _, _, rfl, rfl⟩, hc⟩, h0⟩ := h0
      have h1 := hs.seeObj hi
      have h2 := hs.seeObj hj
      refine ⟨_, h0, ?_⟩
      exact eqTicket_any x.Index x.BeforeSymbolsN x.BeforeSymbolsg0 x.BeforePoison x.AfterSymbolsN x.AfterSymbolsg0 x.AfterPoison x.Code _ _ _ _ _ _ _ _ w (Row.seenAs (h1 _ (mem0)).2 rfl rfl) (Row.seenAs (h1 _ ((memS mem0))).2 rfl rfl) (Row.seenAs (h2 _ (mem0)).2 rfl rfl) (Row.seenAs (h2 _ ((memS mem0))).2 rfl rfl) hc
    · exact h0.elim
  · exact h0.elim
theorem markTicket_T (Index : Int) (BeforeSymbolsN : Nat) (BeforeSymbolsg0 : Nat → Int) (BeforePoison : Bool) (AfterSymbolsN : Nat) (AfterSymbolsg0 : Nat → Int) (AfterPoison : Bool) (Code : Int) (BeforeSymbolsO : Option Addr) (BeforeSymbolsC : Nat) (AfterSymbolsO : Option Addr) (AfterSymbolsC : Nat) (BeforeSymbolsT BeforeSymbolsK AfterSymbolsT AfterSymbolsK : Nat) (k0 : Int) : (exFn Try.prog {tb := [(73, iMarkC)]} 400 Try.f25 ([.a (.agg [.int Index, .sl 0 BeforeSymbolsO BeforeSymbolsN BeforeSymbolsC, .bool BeforePoison, .sl 1 AfterSymbolsO AfterSymbolsN AfterSymbolsC, .bool AfterPoison, .int Code]), .a (.c (.int k0))]) ([.row ⟨true, BeforeSymbolsO, BeforeSymbolsT, 1, BeforeSymbolsN, BeforeSymbolsK, [fun i => .int (BeforeSymbolsg0 i)]⟩, .row ⟨true, AfterSymbolsO, AfterSymbolsT, 1, AfterSymbolsN, AfterSymbolsK, [fun i => .int (AfterSymbolsg0 i)]⟩]) (fun v ch => v.den = .int .i64 (mk (mk (k0) 1 0 BeforeSymbolsN) 1 0 AfterSymbolsN) ∧ selC ch [0, 1] = [.row ⟨true, BeforeSymbolsO, BeforeSymbolsT, 1, BeforeSymbolsN, BeforeSymbolsK, [fun i => .int (mk (k0) 1 0 i)]⟩, .row ⟨true, AfterSymbolsO, AfterSymbolsT, 1, AfterSymbolsN, AfterSymbolsK, [fun i => .int (mk (mk (k0) 1 0 BeforeSymbolsN) 1 0 i)]⟩])) = (
  (∀ b0 : Nat,
 (b0 = b0 ∧
 (∀ b1 : Nat,
 (b1 = b1 ∧
 (∃ g02 : (Nat →
 Int), ((BeforeSymbolsO = BeforeSymbolsO ∧
 (BeforeSymbolsN = BeforeSymbolsN ∧
 ([(fun i3 => (Ci (BeforeSymbolsg0 i3)))] = [(fun i4 => (Ci (g02 i4)))] ∧
 (markC BeforeSymbolsN k0)))) ∧
 (b0 = b0 ∧
 (∀ b5 : Nat,
 (b5 = b5 ∧
 (∃ g06 : (Nat →
 Int), ((AfterSymbolsO = AfterSymbolsO ∧
 (AfterSymbolsN = AfterSymbolsN ∧
 ([(fun i7 => (Ci (AfterSymbolsg0 i7)))] = [(fun i8 => (Ci (g06 i8)))] ∧
 (markC AfterSymbolsN (mk k0 1 0 BeforeSymbolsN))))) ∧
 ((Wi (mk (mk k0 1 0 BeforeSymbolsN) 1 0 AfterSymbolsN)) = (Wi (mk (mk k0 1 0 BeforeSymbolsN) 1 0 AfterSymbolsN)) ∧
 [(Hr true BeforeSymbolsO BeforeSymbolsT 1 BeforeSymbolsN BeforeSymbolsK [(fun i9 => (Ci (mk k0 1 0 i9)))]), (Hr true AfterSymbolsO AfterSymbolsT 1 AfterSymbolsN AfterSymbolsK [(fun i10 => (Ci (mk (mk k0 1 0 BeforeSymbolsN) 1 0 i10)))])] = [(Hr true BeforeSymbolsO BeforeSymbolsT 1 BeforeSymbolsN BeforeSymbolsK [(fun i11 => (Ci (mk k0 1 0 i11)))]), (Hr true AfterSymbolsO AfterSymbolsT 1 AfterSymbolsN AfterSymbolsK [(fun i12 => (Ci (mk (mk k0 1 0 BeforeSymbolsN) 1 0 i12)))])]))))))))))))) := by kernel_rfl
theorem markTicket_any (Index : Int) (BeforeSymbolsN : Nat) (BeforeSymbolsg0 : Nat → Int) (BeforePoison : Bool) (AfterSymbolsN : Nat) (AfterSymbolsg0 : Nat → Int) (AfterPoison : Bool) (Code : Int) (BeforeSymbolsO : Option Addr) (BeforeSymbolsC : Nat) (AfterSymbolsO : Option Addr) (AfterSymbolsC : Nat) (BeforeSymbolsT BeforeSymbolsK AfterSymbolsT AfterSymbolsK : Nat) (k0 : Int) (w : World) (M : Nat → Prop) (hs : HS ⟨w, M⟩ [.row ⟨true, BeforeSymbolsO, BeforeSymbolsT, 1, BeforeSymbolsN, BeforeSymbolsK, [fun i => .int (BeforeSymbolsg0 i)]⟩, .row ⟨true, AfterSymbolsO, AfterSymbolsT, 1, AfterSymbolsN, AfterSymbolsK, [fun i => .int (AfterSymbolsg0 i)]⟩] w) (hcap : BeforeSymbolsN ≤ 2097152 ∧ AfterSymbolsN ≤ 2097152) (h0 : 0 ≤ k0 ∧ k0 ≤ 549755813888) : Calls Try.prog 25 #[.agg #[.int .i64 Index, .slice BeforeSymbolsO BeforeSymbolsN BeforeSymbolsC, .bool BeforePoison, .slice AfterSymbolsO AfterSymbolsN AfterSymbolsC, .bool AfterPoison, .int .i64 Code], .int .i64 k0] w fun e w' => e = .returned (.int .i64 (mk (mk (k0) 1 0 BeforeSymbolsN) 1 0 AfterSymbolsN)) ∧ HS ⟨w, M⟩ [.row ⟨true, BeforeSymbolsO, BeforeSymbolsT, 1, BeforeSymbolsN, BeforeSymbolsK, [fun i => .int (mk (k0) 1 0 i)]⟩, .row ⟨true, AfterSymbolsO, AfterSymbolsT, 1, AfterSymbolsN, AfterSymbolsK, [fun i => .int (mk (mk (k0) 1 0 BeforeSymbolsN) 1 0 i)]⟩] w' := by
  refine fnB (tb := [(73, iMarkC)]) ⟨iMarkC_ok, trivial⟩ Try.func25 (@Eq.mpr _ _ (markTicket_T Index BeforeSymbolsN BeforeSymbolsg0 BeforePoison AfterSymbolsN AfterSymbolsg0 AfterPoison Code BeforeSymbolsO BeforeSymbolsC AfterSymbolsO AfterSymbolsC BeforeSymbolsT BeforeSymbolsK AfterSymbolsT AfterSymbolsK k0) ?_) hs (fun v ch' w' ⟨hv, hc⟩ hs => ⟨by rw [hv], by rw [← hc]; exact hs.sel _ (by simp)⟩)
  clear hs
  have hb0 : 0 ≤ mk (k0) 1 0 BeforeSymbolsN ∧ mk (k0) 1 0 BeforeSymbolsN ≤ k0 + 16777216 := mk_more (by omega) (by omega) (by omega)
  have hb1 : 0 ≤ mk (mk (k0) 1 0 BeforeSymbolsN) 1 0 AfterSymbolsN ∧ mk (mk (k0) 1 0 BeforeSymbolsN) 1 0 AfterSymbolsN ≤ mk (k0) 1 0 BeforeSymbolsN + 16777216 := mk_more (by omega) (by omega) (by omega)
  repeat' (first
    | exact rfl
    | exact True.intro
    | assumption
    | refine And.intro ?_ ?_
    | apply Exists.intro
    | omega
    | (intro h; exfalso; simp at h; done)
    | (intro h; exfalso; simp at h; omega)
    | intro _)
def sMarkTicketO : Sm := fun args ch k =>
  match args with
  | [.a (.c (.obj i v)), .a (.c kc)] =>
    match ch[i]?, asI kc with
    | some (.obj true rs), some k0 => ∃ x : TicketD, (isTicket v x rs ∧ capTicket x ∧ mrkC k0) ∧ (endC k0 (endTicket k0 x) 33554432 → ∀ rs' : List Row, isTicket v (markTicketD k0 x) rs' → k (.a (.c (.int (endTicket k0 x)))) (ch.set i (.obj true rs')) [i])
    | _, _ => False
  | _ => False
theorem sMarkTicketO_ok : SmOK Try.prog 25 sMarkTicketO := by
  refine smTurnO Try.call25 fun args ch k w X h0 hs => ?_
  unfold sMarkTicketO at h0
  split at h0
  · rename_i i v kc
    split at h0
    · rename_i rs k0 hi hk
      obtain ⟨x, ⟨⟨BeforeSymbolsO, AfterSymbolsO, BeforeSymbolsC, BeforeSymbolsT, BeforeSymbolsK, AfterSymbolsC, AfterSymbolsT, AfterSymbolsK, BeforeSymbolsB, AfterSymbolsB, rfl, rfl⟩, hc, hk0⟩, h0⟩ := h0
      have h1 := hs.seeObj hi
      have eBeforeSymbols : BeforeSymbolsB = true := (h1 _ (mem0)).1
      subst eBeforeSymbols
      have eAfterSymbols : AfterSymbolsB = true := (h1 _ ((memS mem0))).1
      subst eAfterSymbols
      have hb0 : 0 ≤ mk (k0) 1 0 x.BeforeSymbolsN ∧ mk (k0) 1 0 x.BeforeSymbolsN ≤ k0 + 16777216 := mk_more (by omega) (by omega) (by omega)
      have hb1 : 0 ≤ mk (mk (k0) 1 0 x.BeforeSymbolsN) 1 0 x.AfterSymbolsN ∧ mk (mk (k0) 1 0 x.BeforeSymbolsN) 1 0 x.AfterSymbolsN ≤ mk (k0) 1 0 x.BeforeSymbolsN + 16777216 := mk_more (by omega) (by omega) (by omega)
      refine ⟨_, i, _, _, hi, h0 ⟨by unfold endTicket; omega, by unfold endTicket; omega⟩ [⟨true, BeforeSymbolsO, BeforeSymbolsT, 1, x.BeforeSymbolsN, BeforeSymbolsK, [fun i => .int ((markTicketD k0 x).BeforeSymbolsg0 i)]⟩, ⟨true, AfterSymbolsO, AfterSymbolsT, 1, x.AfterSymbolsN, AfterSymbolsK, [fun i => .int ((markTicketD k0 x).AfterSymbolsg0 i)]⟩] ⟨_, _, _, _, _, _, _, _, _, _, rfl, rfl⟩, by simp, (at_cons rfl rfl rfl ((at_cons rfl rfl rfl (fun _ h => h)))), ?_⟩
      simp only [List.map_cons, List.map_nil, den_a, den_c, asI_den hk]
      exact markTicket_any x.Index x.BeforeSymbolsN x.BeforeSymbolsg0 x.BeforePoison x.AfterSymbolsN x.AfterSymbolsg0 x.AfterPoison x.Code BeforeSymbolsO BeforeSymbolsC AfterSymbolsO AfterSymbolsC BeforeSymbolsT BeforeSymbolsK AfterSymbolsT AfterSymbolsK k0 w _ (hs.open hi) hc hk0
    · exact h0.elim
  · exact h0.elim
theorem heldTicket_T (Index : Int) (BeforePoison : Bool) (AfterPoison : Bool) (Code : Int) (BeforeSymbolsN AfterSymbolsN : Nat) (BeforeSymbolsO : Option Addr) (BeforeSymbolsC : Nat) (AfterSymbolsO : Option Addr) (AfterSymbolsC : Nat) (k0 : Int) : (exFn Try.prog {tb := [(88, iHeldC)]} 400 Try.f38 ([.a (.agg [.int Index, .sl 0 BeforeSymbolsO BeforeSymbolsN BeforeSymbolsC, .bool BeforePoison, .sl 1 AfterSymbolsO AfterSymbolsN AfterSymbolsC, .bool AfterPoison, .int Code]), .a (.c (.int k0))]) ([.row ⟨false, BeforeSymbolsO, 0, 1, BeforeSymbolsN, 0, [fun i => .int (mk (k0) 1 0 i)]⟩, .row ⟨false, AfterSymbolsO, 0, 1, AfterSymbolsN, 0, [fun i => .int (mk (mk (k0) 1 0 BeforeSymbolsN) 1 0 i)]⟩]) (fun v _ => v.den = .int .i64 (mk (mk (k0) 1 0 BeforeSymbolsN) 1 0 AfterSymbolsN))) = (
  (∀ b0 : Nat,
 (b0 = b0 ∧
 (∀ b1 : Nat,
 (b1 = b1 ∧
 ((BeforeSymbolsO = BeforeSymbolsO ∧
 (BeforeSymbolsN = BeforeSymbolsN ∧
 ([(fun i2 => (Ci (mk k0 1 0 i2)))] = [(fun i3 => (Ci (mk k0 1 0 i3)))] ∧
 (markC BeforeSymbolsN k0)))) ∧
 (((decide ((mk k0 1 0 BeforeSymbolsN) < (0 : Int))) = true →
 (Wi (-1)) = (Wi (mk (mk k0 1 0 BeforeSymbolsN) 1 0 AfterSymbolsN))) ∧
 ((decide ((mk k0 1 0 BeforeSymbolsN) < (0 : Int))) = false →
 (((decide ((mk k0 1 0 BeforeSymbolsN) < (0 : Int))) = true →
 (Wi (-1)) = (Wi (mk (mk k0 1 0 BeforeSymbolsN) 1 0 AfterSymbolsN))) ∧
 ((decide ((mk k0 1 0 BeforeSymbolsN) < (0 : Int))) = false →
 (b0 = b0 ∧
 (∀ b4 : Nat,
 (b4 = b4 ∧
 ((AfterSymbolsO = AfterSymbolsO ∧
 (AfterSymbolsN = AfterSymbolsN ∧
 ([(fun i5 => (Ci (mk (mk k0 1 0 BeforeSymbolsN) 1 0 i5)))] = [(fun i6 => (Ci (mk (mk k0 1 0 BeforeSymbolsN) 1 0 i6)))] ∧
 (markC AfterSymbolsN (mk k0 1 0 BeforeSymbolsN))))) ∧
 (((decide ((mk (mk k0 1 0 BeforeSymbolsN) 1 0 AfterSymbolsN) < (0 : Int))) = true →
 (Wi (-1)) = (Wi (mk (mk k0 1 0 BeforeSymbolsN) 1 0 AfterSymbolsN))) ∧
 ((decide ((mk (mk k0 1 0 BeforeSymbolsN) 1 0 AfterSymbolsN) < (0 : Int))) = false →
 (((decide ((mk (mk k0 1 0 BeforeSymbolsN) 1 0 AfterSymbolsN) < (0 : Int))) = true →
 (Wi (-1)) = (Wi (mk (mk k0 1 0 BeforeSymbolsN) 1 0 AfterSymbolsN))) ∧
 ((decide ((mk (mk k0 1 0 BeforeSymbolsN) 1 0 AfterSymbolsN) < (0 : Int))) = false →
 (Wi (mk (mk k0 1 0 BeforeSymbolsN) 1 0 AfterSymbolsN)) = (Wi (mk (mk k0 1 0 BeforeSymbolsN) 1 0 AfterSymbolsN)))))))))))))))))))) := by kernel_rfl
theorem heldTicket_any (Index : Int) (BeforePoison : Bool) (AfterPoison : Bool) (Code : Int) (BeforeSymbolsN AfterSymbolsN : Nat) (BeforeSymbolsO : Option Addr) (BeforeSymbolsC : Nat) (AfterSymbolsO : Option Addr) (AfterSymbolsC : Nat) (k0 : Int) (w : World) (hr0 : Row.sat w ⟨false, BeforeSymbolsO, 0, 1, BeforeSymbolsN, 0, [fun i => .int (mk (k0) 1 0 i)]⟩) (hr1 : Row.sat w ⟨false, AfterSymbolsO, 0, 1, AfterSymbolsN, 0, [fun i => .int (mk (mk (k0) 1 0 BeforeSymbolsN) 1 0 i)]⟩) (hcap : BeforeSymbolsN ≤ 2097152 ∧ AfterSymbolsN ≤ 2097152) (h0 : 0 ≤ k0 ∧ k0 ≤ 549755813888) : Calls Try.prog 38 #[.agg #[.int .i64 Index, .slice BeforeSymbolsO BeforeSymbolsN BeforeSymbolsC, .bool BeforePoison, .slice AfterSymbolsO AfterSymbolsN AfterSymbolsC, .bool AfterPoison, .int .i64 Code], .int .i64 k0] w fun e w' => e = .returned (.int .i64 (mk (mk (k0) 1 0 BeforeSymbolsN) 1 0 AfterSymbolsN)) ∧ Below w.heap.size w w' := by
  refine fnB (tb := [(88, iHeldC)]) ⟨iHeldC_ok, trivial⟩ Try.func38 (@Eq.mpr _ _ (heldTicket_T Index BeforePoison AfterPoison Code BeforeSymbolsN AfterSymbolsN BeforeSymbolsO BeforeSymbolsC AfterSymbolsO AfterSymbolsC k0) ?_) (HS.rows (fun _ => False) [⟨false, BeforeSymbolsO, 0, 1, BeforeSymbolsN, 0, [fun i => .int (mk (k0) 1 0 i)]⟩, ⟨false, AfterSymbolsO, 0, 1, AfterSymbolsN, 0, [fun i => .int (mk (mk (k0) 1 0 BeforeSymbolsN) 1 0 i)]⟩] (by simp; exact ⟨hr0, hr1⟩)) (fun v ch' w' hk hs => ⟨by rw [hk], hs.below⟩)
  clear hr0 hr1
  have hb0 : 0 ≤ mk (k0) 1 0 BeforeSymbolsN ∧ mk (k0) 1 0 BeforeSymbolsN ≤ k0 + 16777216 := mk_more (by omega) (by omega) (by omega)
  have hb1 : 0 ≤ mk (mk (k0) 1 0 BeforeSymbolsN) 1 0 AfterSymbolsN ∧ mk (mk (k0) 1 0 BeforeSymbolsN) 1 0 AfterSymbolsN ≤ mk (k0) 1 0 BeforeSymbolsN + 16777216 := mk_more (by omega) (by omega) (by omega)
  repeat' (first
    | exact rfl
    | exact True.intro
    | assumption
    | refine And.intro ?_ ?_
    | apply Exists.intro
    | omega
    | (intro h; exfalso; simp at h; done)
    | (intro h; exfalso; simp at h; omega)
    | intro _)
def sHeldTicketO : Sm := fun args ch k =>
  match args with
  | [.a (.c (.obj i v)), .a (.c kc)] =>
    match ch[i]?, asI kc with
    | some (.obj _ rs), some k0 => ∃ x : TicketD, (isTicket v (markTicketD k0 x) rs ∧ capTicket x ∧ mrkC k0) ∧ k (.a (.c (.int (endTicket k0 x)))) ch []
    | _, _ => False
  | _ => False
theorem sHeldTicketO_ok : SmOK Try.prog 38 sHeldTicketO := by
  refine smB Try.call38 fun args ch k w X h0 hs => ?_
  unfold sHeldTicketO at h0
  split at h0
  · rename_i i v kc
    split at h0
    · rename_i o rs k0 hi hk
      obtain ⟨x, ⟨⟨_, _, _, _, _, _, _, _, _, _, rfl, rfl⟩, hc, hk0⟩, h0⟩ := h0
      have h1 := hs.seeObj hi
      refine ⟨_, h0, ?_⟩
      simp only [List.map_cons, List.map_nil, den_a, den_c, asI_den hk]
      exact heldTicket_any x.Index x.BeforePoison x.AfterPoison x.Code x.BeforeSymbolsN x.AfterSymbolsN _ _ _ _ k0 w (Row.seenAs (h1 _ (mem0)).2 rfl rfl) (Row.seenAs (h1 _ ((memS mem0))).2 rfl rfl) hc hk0
    · exact h0.elim
  · exact h0.elim
theorem szTicket_T (Index : Int) (BeforePoison : Bool) (AfterPoison : Bool) (Code : Int) (BeforeSymbolsO : Option Addr) (BeforeSymbolsN BeforeSymbolsC : Nat) (AfterSymbolsO : Option Addr) (AfterSymbolsN AfterSymbolsC : Nat) (k0 : Int) : (exFn Try.prog {tb := [(62, iSzC)]} 400 Try.f20 ([.a (.agg [.int Index, .sl 0 BeforeSymbolsO BeforeSymbolsN BeforeSymbolsC, .bool BeforePoison, .sl 1 AfterSymbolsO AfterSymbolsN AfterSymbolsC, .bool AfterPoison, .int Code]), .a (.c (.int k0))]) ([]) (fun v _ => ∃ z : Int, v.den = .int .i64 z ∧ szPTicket z k0 BeforeSymbolsN AfterSymbolsN)) = (
  (∀ b0 : Nat,
 (b0 = b0 ∧
 (∀ b1 : Nat,
 (b1 = b1 ∧
 ((szC BeforeSymbolsN k0) ∧
 (((k0 < ((BeforeSymbolsN : Nat) : Int)) →
 (∃ z2 : Int, ((Wi (-1)) = (Wi z2) ∧
 (szPTicket z2 k0 BeforeSymbolsN AfterSymbolsN)))) ∧
 ((((BeforeSymbolsN : Nat) : Int) ≤ k0) →
 (((decide ((k0 - ((BeforeSymbolsN : Nat) : Int)) < (0 : Int))) = true →
 (∃ z3 : Int, ((Wi (-1)) = (Wi z3) ∧
 (szPTicket z3 k0 BeforeSymbolsN AfterSymbolsN)))) ∧
 ((decide ((k0 - ((BeforeSymbolsN : Nat) : Int)) < (0 : Int))) = false →
 (((decide ((k0 - ((BeforeSymbolsN : Nat) : Int)) < (0 : Int))) = true →
 (∃ z4 : Int, ((Wi (-1)) = (Wi z4) ∧
 (szPTicket z4 k0 BeforeSymbolsN AfterSymbolsN)))) ∧
 ((decide ((k0 - ((BeforeSymbolsN : Nat) : Int)) < (0 : Int))) = false →
 (b0 = b0 ∧
 (∀ b5 : Nat,
 (b5 = b5 ∧
 ((szC AfterSymbolsN (k0 - ((BeforeSymbolsN : Nat) : Int))) ∧
 ((((k0 - ((BeforeSymbolsN : Nat) : Int)) < ((AfterSymbolsN : Nat) : Int)) →
 (∃ z6 : Int, ((Wi (-1)) = (Wi z6) ∧
 (szPTicket z6 k0 BeforeSymbolsN AfterSymbolsN)))) ∧
 ((((AfterSymbolsN : Nat) : Int) ≤ (k0 - ((BeforeSymbolsN : Nat) : Int))) →
 (((decide (((k0 - ((BeforeSymbolsN : Nat) : Int)) - ((AfterSymbolsN : Nat) : Int)) < (0 : Int))) = true →
 (∃ z7 : Int, ((Wi (-1)) = (Wi z7) ∧
 (szPTicket z7 k0 BeforeSymbolsN AfterSymbolsN)))) ∧
 ((decide (((k0 - ((BeforeSymbolsN : Nat) : Int)) - ((AfterSymbolsN : Nat) : Int)) < (0 : Int))) = false →
 (((decide (((k0 - ((BeforeSymbolsN : Nat) : Int)) - ((AfterSymbolsN : Nat) : Int)) < (0 : Int))) = true →
 (∃ z8 : Int, ((Wi (-1)) = (Wi z8) ∧
 (szPTicket z8 k0 BeforeSymbolsN AfterSymbolsN)))) ∧
 ((decide (((k0 - ((BeforeSymbolsN : Nat) : Int)) - ((AfterSymbolsN : Nat) : Int)) < (0 : Int))) = false →
 (∃ z9 : Int, ((Wi ((k0 - ((BeforeSymbolsN : Nat) : Int)) - ((AfterSymbolsN : Nat) : Int))) = (Wi z9) ∧
 (szPTicket z9 k0 BeforeSymbolsN AfterSymbolsN))))))))))))))))))))))))) := by kernel_rfl
theorem szTicket_any (Index : Int) (BeforePoison : Bool) (AfterPoison : Bool) (Code : Int) (BeforeSymbolsO : Option Addr) (BeforeSymbolsN BeforeSymbolsC : Nat) (AfterSymbolsO : Option Addr) (AfterSymbolsN AfterSymbolsC : Nat) (k0 : Int) (w : World) (hn : BeforeSymbolsN ≤ 9223372036854775807 ∧ AfterSymbolsN ≤ 9223372036854775807) (h0 : 0 ≤ k0 ∧ k0 ≤ 1048576) : Calls Try.prog 20 #[.agg #[.int .i64 Index, .slice BeforeSymbolsO BeforeSymbolsN BeforeSymbolsC, .bool BeforePoison, .slice AfterSymbolsO AfterSymbolsN AfterSymbolsC, .bool AfterPoison, .int .i64 Code], .int .i64 k0] w fun e w' => ∃ z : Int, (z = -1 ∨ (0 ≤ z ∧ z ≤ k0 ∧ BeforeSymbolsN ≤ 1048576 ∧ AfterSymbolsN ≤ 1048576)) ∧ e = .returned (.int .i64 z) ∧ Below w.heap.size w w' := by
  refine fnB (tb := [(62, iSzC)]) ⟨iSzC_ok, trivial⟩ Try.func20 (@Eq.mpr _ _ (szTicket_T Index BeforePoison AfterPoison Code BeforeSymbolsO BeforeSymbolsN BeforeSymbolsC AfterSymbolsO AfterSymbolsN AfterSymbolsC k0) ?_) (HS.start w (fun _ => False)) (fun v ch' w' ⟨z, hv, hz⟩ hs => ⟨z, hz, by rw [hv], hs.below⟩)
  repeat' (first
    | (refine ⟨_, rfl, ?_⟩; first | exact .inl rfl | (refine .inr ?_; omega))
    | exact True.intro
    | assumption
    | refine And.intro ?_ ?_
    | omega
    | (intro h; exfalso; simp at h; done)
    | (intro h; exfalso; simp at h; omega)
    | intro _)
def sSzTicketO : Sm := fun args ch k =>
  match args with
  | [.a (.c (.obj i v)), .a (.c kc)] =>
    match ch[i]?, asI kc with
    | some (.obj _ rs), some k0 => ∃ x : TicketD, (isTicket v x rs ∧ lensTicket x ∧ szK k0) ∧ (k (.a (.c (.il (-1)))) ch [] ∧ ∀ z : Int, szO z k0 → cap1Ticket x → k (.a (.c (.int z))) ch [])
    | _, _ => False
  | _ => False
theorem sSzTicketO_ok : SmOK Try.prog 20 sSzTicketO := by
  refine smV Try.call20 fun args ch k w X h0 hs => ?_
  unfold sSzTicketO at h0
  split at h0
  · rename_i i v kc
    split at h0
    · rename_i o rs k0 hi hk
      obtain ⟨x, ⟨⟨_, _, _, _, _, _, _, _, _, _, rfl, rfl⟩, hc, hk0⟩, h1, h2⟩ := h0
      simp only [List.map_cons, List.map_nil, den_a, den_c, asI_den hk]
      refine Calls.mono (szTicket_any x.Index x.BeforePoison x.AfterPoison x.Code _ x.BeforeSymbolsN _ _ x.AfterSymbolsN _ k0 w hc hk0) fun e w' ⟨z, hz, he, hb⟩ => ?_
      rcases hz with rfl | ⟨hz0, hz1, hz2⟩
      · exact ⟨.a (.c (.il (-1))), he, hb, h1⟩
      · exact ⟨.a (.c (.int z)), he, hb, h2 z ⟨hz0, hz1⟩ hz2⟩
    · exact h0.elim
  · exact h0.elim
end Go.Proofs.Ytddeinpnadfgmaa
