/-
  Trees whose counts are right, whole.
-/
import Derived.Test.YtppeocfcdeiemaaSxTrN2
import Derived.Test.YtppeocfcdeiemaaSxTree6
import Derived.Test.YtppeocfcdeiemaaSxDr2
namespace Go.Proofs.Ytppeocfcdeiemaa
set_option linter.unusedVariables false
set_option linter.unusedSimpArgs false
open Go.RowKit
set_option maxRecDepth 100000
set_option maxHeartbeats 8000000

/-- A summary out of another one, whose answer may be written otherwise. -/
theorem smOf {P : Program} {f : FuncId} {S S' : Sm} (h : SmOK P f S) (hi : ∀ args ch k, S' args ch k → S args ch (fun v ch' m => ∃ v', v'.den = v.den ∧ k v' ch' m)) : SmOK P f S' :=
  ⟨h.1, fun X args ch k w hS hs => (h.2 X args ch _ w (hi args ch k hS) hs).mono fun e w' ⟨v, ch', m, he, hs', hag, v', hv, hk⟩ => ⟨v', ch', m, by rw [he, hv], hs', hag, hk⟩⟩
structure TrX where
  root : Int
  (mc mt lc lt : Nat → Int)
def GoodX (key : Int) (x : TrX) : Prop := GoodT key x.root x.mc x.mt x.lc x.lt x.root
def BumpX (x : TrX) (leaf : Int) (x' : TrX) : Prop := x'.root = x.root + 1 ∧ ∀ j : Nat, x'.lc j = if j = leaf.toNat then x.lc j + 1 else x.lc j
abbrev leZ (a b : Int) : Prop := a ≤ b
def sTNewX : Sm := fun args ch kk =>
  match args with
  | [.a (.c c0)] =>
    match ints [c0] with
    | some [key] => isW key = true ∧ ∀ (x : TrX) (ro0 : Option Addr) (rc0 : Nat) (ro1 : Option Addr) (rc1 : Nat), (GoodX key x ∧ x.root = 0) → kk (.tup [.agg [.int x.root, .sl (ch.length) ro0 2 rc0, .sl (ch.length + 1) ro1 8 rc1], .c (.lit true)]) (ch ++ [.row ⟨true, ro0, 37, 2, 2, rc0, [fun i => .int (x.mc i), fun i => .int (x.mt i)]⟩, .row ⟨true, ro1, 37, 2, 8, rc1, [fun i => .int (x.lc i), fun i => .int (x.lt i)]⟩]) []
    | _ => False
  | _ => False
theorem sTNewX_I : SmOK Try.prog 11 sTNewX := by
  refine smOf sTNew_ok_newI fun args ch kk h => ?_
  unfold sTNewX at h
  unfold sTNew
  split at h
  · split at h
    · rename_i c0 key hi
      obtain ⟨hk, h⟩ := h
      simp only [hi]
      intro ro0 rc0 ro1 rc1
      simp only [hk, ifN, if_true]
      refine ⟨_, ?_, h ⟨0, fun _ => 0, newMT key, fun _ => 0, newLT key⟩ ro0 rc0 ro1 rc1 ⟨good_new hk, rfl⟩⟩
      rfl
    · exact h.elim
  · exact h.elim
theorem sTNewX_S : SmOK Try.prog 15 sTNewX := by
  refine smOf sTNew_ok_newS fun args ch kk h => ?_
  unfold sTNewX at h
  unfold sTNew
  split at h
  · split at h
    · rename_i c0 key hi
      obtain ⟨hk, h⟩ := h
      simp only [hi]
      intro ro0 rc0 ro1 rc1
      simp only [hk, ifN, if_true]
      refine ⟨_, ?_, h ⟨0, fun _ => 0, newMT key, fun _ => 0, newLT key⟩ ro0 rc0 ro1 rc1 ⟨good_new hk, rfl⟩⟩
      rfl
    · exact h.elim
  · exact h.elim
def sBumpX : Sm := fun args ch kk =>
  match args with
  | [.a (.c c0), .a (.agg [c1, .sl i0 a0 n0 d0, .sl i1 a1 n1 d1]), .a (.c c2)] =>
    match ch[i0]?, ch[i1]?, ints [c0, c1, c2] with
    | some (.row r0), some (.row r1), some [key, root, leaf] => ∃ x : TrX, (a0 = r0.ao ∧ n0 = r0.n ∧ r0.fld = [fun i => .int (x.mc i), fun i => .int (x.mt i)] ∧ a1 = r1.ao ∧ n1 = r1.n ∧ r1.fld = [fun i => .int (x.lc i), fun i => .int (x.lt i)] ∧ r0.n = 2 ∧ r1.n = 8 ∧ root = x.root ∧ GoodX key x ∧ leZ x.root 1000 ∧ inR leaf 0 7) ∧
        ∀ (x' : TrX) (ro0 : Option Addr) (rc0 : Nat) (ro1 : Option Addr) (rc1 : Nat), (GoodX key x' ∧ BumpX x leaf x') → kk (.tup [.agg [.int x'.root, .sl (ch.length) ro0 2 rc0, .sl (ch.length + 1) ro1 8 rc1], .c (.lit true)]) (ch ++ [.row ⟨true, ro0, 37, 2, 2, rc0, [fun i => .int (x'.mc i), fun i => .int (x'.mt i)]⟩, .row ⟨true, ro1, 37, 2, 8, rc1, [fun i => .int (x'.lc i), fun i => .int (x'.lt i)]⟩]) []
    | _, _, _ => False
  | _ => False
theorem sBumpX_I : SmOK Try.prog 12 sBumpX := by
  refine smOf sBump_ok_bumpI fun args ch kk h => ?_
  unfold sBumpX at h
  unfold sBump
  split at h
  · split at h
    · rename_i hr0 hr1 hi
      rename_i r0 r1 key root leaf
      obtain ⟨x, ⟨ha0, rfl, hf0, ha1, rfl, hf1, hn0, hn1, rfl, hg, hb, hl⟩, h⟩ := h
      simp only [hr0, hr1, hi]
      refine ⟨x.mc, x.mt, x.lc, x.lt, ⟨ha0, (by first | rfl | exact True.intro), hf0, ha1, (by first | rfl | exact True.intro), hf1, by rw [hn0]; decide, by rw [hn1]; decide⟩, fun ro0 rc0 ro1 rc1 => ?_⟩
      rw [hn0, hn1]
      have hB := GoodT.bump hg (by have : x.root ≤ 1000 := hb; omega) hl
      refine ⟨_, ?_, h ⟨bR key x.root 2 8 x.mc x.mt x.lc x.lt leaf, bMc key x.root 2 8 x.mc x.mt x.lc x.lt leaf, bMt key x.root 2 8 x.mc x.mt x.lc x.lt leaf, bLc key x.root 2 8 x.mc x.mt x.lc x.lt leaf, bLt key x.root 2 8 x.mc x.mt x.lc x.lt leaf⟩ ro0 rc0 ro1 rc1 ⟨?_, hB.2.1, fun j => ?_⟩⟩
      · rw [hB.1]; rfl
      · show GoodT _ _ _ _ _ _ _
        dsimp only
        rw [hB.2.1]
        exact hB.2.2
      · dsimp only
        simp only [bLc, hB.1, true_and]
    · exact h.elim
  · exact h.elim
theorem sBumpX_S : SmOK Try.prog 16 sBumpX := by
  refine smOf sBump_ok_bumpS fun args ch kk h => ?_
  unfold sBumpX at h
  unfold sBump
  split at h
  · split at h
    · rename_i hr0 hr1 hi
      rename_i r0 r1 key root leaf
      obtain ⟨x, ⟨ha0, rfl, hf0, ha1, rfl, hf1, hn0, hn1, rfl, hg, hb, hl⟩, h⟩ := h
      simp only [hr0, hr1, hi]
      refine ⟨x.mc, x.mt, x.lc, x.lt, ⟨ha0, (by first | rfl | exact True.intro), hf0, ha1, (by first | rfl | exact True.intro), hf1, by rw [hn0]; decide, by rw [hn1]; decide⟩, fun ro0 rc0 ro1 rc1 => ?_⟩
      rw [hn0, hn1]
      have hB := GoodT.bump hg (by have : x.root ≤ 1000 := hb; omega) hl
      refine ⟨_, ?_, h ⟨bR key x.root 2 8 x.mc x.mt x.lc x.lt leaf, bMc key x.root 2 8 x.mc x.mt x.lc x.lt leaf, bMt key x.root 2 8 x.mc x.mt x.lc x.lt leaf, bLc key x.root 2 8 x.mc x.mt x.lc x.lt leaf, bLt key x.root 2 8 x.mc x.mt x.lc x.lt leaf⟩ ro0 rc0 ro1 rc1 ⟨?_, hB.2.1, fun j => ?_⟩⟩
      · rw [hB.1]; rfl
      · show GoodT _ _ _ _ _ _ _
        dsimp only
        rw [hB.2.1]
        exact hB.2.2
      · dsimp only
        simp only [bLc, hB.1, true_and]
    · exact h.elim
  · exact h.elim
end Go.Proofs.Ytppeocfcdeiemaa
