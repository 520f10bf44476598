/-
  Trees made.
-/
import Derived.Test.YtdaeikjpnejmdaaSxOTN
import Derived.Test.YtdaeikjpnejmdaaSxOpen
namespace Go.Proofs.Ytdaeikjpnejmdaa
open Go.RowKit
set_option maxRecDepth 100000
set_option maxHeartbeats 8000000

theorem law_FnExactTreeNew_T (aKey : Int) : (exFn Try.prog {tb := [(43, sToTreeO), (45, sEqTreeO), (46, sMarkTreeO), (47, sHeldTreeO), (41, sSzTreeO), (48, sTNewO), (53, sTNewO)]} 400 Try.f12 ([.a (.c (.int aKey))]) ([]) (fun v _ => v.den = .bool true)) = (
  (∀ v'0 : Value,
  (∀ rs'1 : (List Row),
  ((isTree v'0 (newD aKey) rs'1) →
  (∀ b2 : Nat,
   ((b2 = b2 ∧
   (wholeC Bool.true v'0 3)) ∧
   (∀ v'3 : Value,
   (∀ rs'4 : (List Row),
   ((isTree v'3 (newD aKey) rs'4) →
   (∀ b5 : Nat,
    ((b5 = b5 ∧
    (wholeC Bool.true v'3 3)) ∧
    (b5 = b5 ∧
    (b2 = b2 ∧
    (Exists (fun (x6 : TreeD) => (((isTree v'3 x6 rs'4) ∧
    ((isTree v'0 x6 rs'1) ∧
    (capTree x6))) ∧
    ((((isW aKey) != (isW aKey)) = Bool.true →
    (Value.bool Bool.false) = (Value.bool Bool.true)) ∧
    (((isW aKey) != (isW aKey)) = Bool.false →
    (b5 = b5 ∧
     (Exists (fun (x7 : TreeD) => (((isTree v'3 x7 rs'4) ∧
     ((capTree x7) ∧
     (mrkC (1 : Int)))) ∧
     ((endC (1 : Int) (endTree (1 : Int) x7) (33554432 : Int)) →
     (∀ rs'8 : (List Row),
      ((isTree v'3 (markTreeD (1 : Int) x7) rs'8) →
      (b5 = b5 ∧
       (Exists (fun (x9 : TreeD) => (((isTree v'3 (markTreeD (1 : Int) x9) rs'8) ∧
       ((capTree x9) ∧
       (mrkC (1 : Int)))) ∧
       (((decide ((endTree (1 : Int) x9) < (0 : Int))) = Bool.true →
       (Value.bool Bool.false) = (Value.bool Bool.true)) ∧
       ((decide ((endTree (1 : Int) x9) < (0 : Int))) = Bool.false →
       ((((endTree (1 : Int) x9) != (endTree (1 : Int) x7)) = Bool.true →
        (Value.bool Bool.false) = (Value.bool Bool.true)) ∧
        (((endTree (1 : Int) x9) != (endTree (1 : Int) x7)) = Bool.false →
        (∀ v'10 : Value,
         (∀ rs'11 : (List Row),
         ((isTree v'10 (newD aKey) rs'11) →
         (∀ b12 : Nat,
          ((b12 = b12 ∧
          (wholeC Bool.true v'10 3)) ∧
          (b12 = b12 ∧
          (b2 = b2 ∧
          (Exists (fun (x13 : TreeD) => (((isTree v'10 x13 rs'11) ∧
          ((isTree v'0 x13 rs'1) ∧
          (capTree x13))) ∧
          ((((isW aKey) != (isW aKey)) = Bool.true →
          (Value.bool Bool.false) = (Value.bool Bool.true)) ∧
          (((isW aKey) != (isW aKey)) = Bool.false →
          (b5 = b5 ∧
           (Exists (fun (x14 : TreeD) => (((isTree v'3 (markTreeD (1 : Int) x14) rs'8) ∧
           ((capTree x14) ∧
           (mrkC (1 : Int)))) ∧
           (((decide ((endTree (1 : Int) x14) < (0 : Int))) = Bool.true →
           (Value.bool Bool.false) = (Value.bool Bool.true)) ∧
           ((decide ((endTree (1 : Int) x14) < (0 : Int))) = Bool.false →
           ((((endTree (1 : Int) x14) != (endTree (1 : Int) x7)) = Bool.true →
            (Value.bool Bool.false) = (Value.bool Bool.true)) ∧
            (((endTree (1 : Int) x14) != (endTree (1 : Int) x7)) = Bool.false →
            (Value.bool Bool.true) = (Value.bool Bool.true)))))))))))))))))))))))))))))))))))))))))))))))))))))) := by kernel_rfl
theorem law_FnExactTreeNew_any (aKey : Int) (W : World) (baKey : -9223372036854775808 ≤ aKey ∧ aKey ≤ 9223372036854775807) : Calls Try.prog 12 #[.int .i64 aKey] W fun e W' => e = .returned (.bool true) ∧ Below W.heap.size W W' := by
  refine fnB (tb := [(43, sToTreeO), (45, sEqTreeO), (46, sMarkTreeO), (47, sHeldTreeO), (41, sSzTreeO), (48, sTNewO), (53, sTNewO)]) ⟨sToTreeO_ok_laws_toTree, sEqTreeO_ok, sMarkTreeO_ok, sHeldTreeO_ok, sSzTreeO_ok, sTNewO_ok_impl_TreeNew, sTNewO_ok_spec_TreeNew, trivial⟩ Try.func12 ((law_FnExactTreeNew_T aKey).mpr ?_) (HS.start W (fun _ => False)) (fun v ch' w' hk hs => ⟨by rw [hk], hs.below⟩)
  repeat' (first
    | exact rfl
    | exact True.intro
    | assumption
    | exact capNew _
    | exact wholeTree (by assumption)
    | refine And.intro ?_ ?_
    | apply Exists.intro
    | omega
    | (intro h; exfalso; revert h; simp; done)
    | (intro h; exfalso; simp at h; omega)
    | intro _)
theorem walk_FnExactTreeNew (aKey : Int) (W : World) (baKey : -9223372036854775808 ≤ aKey ∧ aKey ≤ 9223372036854775807) : Calls Try.prog 12 #[.int .i64 aKey] W fun e W' => e = .returned (.bool true) ∧ Below W.heap.size W W' := by
  exact law_FnExactTreeNew_any aKey W baKey
end Go.Proofs.Ytdaeikjpnejmdaa
