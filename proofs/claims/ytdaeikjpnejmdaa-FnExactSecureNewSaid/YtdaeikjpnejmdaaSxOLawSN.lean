/-
  FnExactSecureNew
-/
import Derived.Test.YtdaeikjpnejmdaaSxOSec
import Derived.Test.YtdaeikjpnejmdaaSxOpen
import Derived.Test.YtdaeikjpnejmdaaSxSec1
namespace Go.Proofs.Ytdaeikjpnejmdaa
open Go.RowKit
set_option maxRecDepth 100000
set_option maxHeartbeats 8000000

def snewD (key : Int) : SecureD := ⟨ifZ (isW key) key, 0, ifN (isW key) 2, fun _ => 0, newMT key, ifN (isW key) 8, fun _ => 0, newLT key, ifN (isW key) 8, newDa key, ifN (isW key) 8, newTa key⟩
theorem capSNew (key : Int) : capSecure (snewD key) := by
  simp only [capSecure, snewD, ifN]
  split <;> omega
def sSNewO : Sm := fun args ch k =>
  match args with
  | [.a (.c c0)] =>
    match ints [c0] with
    | some [key] => ∀ (v' : Value) (rs' : List Row), isSecure v' (snewD key) rs' → k (.tup [.c (.obj ch.length v'), .c (.bool (isW key))]) (ch ++ [.obj true rs']) []
    | _ => False
  | _ => False
theorem sSNewO_ok_impl_SecureNew : SmOK Try.prog 70 sSNewO := by
  refine smN Try.call70 fun args ch k w X h0 hs => ?_
  unfold sSNewO at h0
  split at h0
  · rename_i c0
    split at h0
    · rename_i key hI
      obtain ⟨ec0, hI⟩ := ints_cons hI
      simp only [List.map_cons, List.map_nil, den_a, den_c, SA.den, den_obj, ec0]
      refine Calls.mono (snewI_any key w ) fun e w' ⟨ro0, rc0, ro1, rc1, ro2, rc2, ro3, rc3, he, hs'⟩ => ⟨_, [.obj true _], ?_, hs'.pack (rs := [_, _, _, _]) (by simp), rfl, h0 _ _ ⟨ro0, ro1, ro2, ro3, rc0, _, _, rc1, _, _, rc2, _, _, rc3, _, _, _, _, _, _, rfl, rfl⟩⟩
      rw [he]
      rfl
    · exact h0.elim
  · exact h0.elim
theorem sSNewO_ok_spec_SecureNew : SmOK Try.prog 69 sSNewO := by
  refine smN Try.call69 fun args ch k w X h0 hs => ?_
  unfold sSNewO at h0
  split at h0
  · rename_i c0
    split at h0
    · rename_i key hI
      obtain ⟨ec0, hI⟩ := ints_cons hI
      simp only [List.map_cons, List.map_nil, den_a, den_c, SA.den, den_obj, ec0]
      refine Calls.mono (snewS_any key w ) fun e w' ⟨ro0, rc0, ro1, rc1, ro2, rc2, ro3, rc3, he, hs'⟩ => ⟨_, [.obj true _], ?_, hs'.pack (rs := [_, _, _, _]) (by simp), rfl, h0 _ _ ⟨ro0, ro1, ro2, ro3, rc0, _, _, rc1, _, _, rc2, _, _, rc3, _, _, _, _, _, _, rfl, rfl⟩⟩
      rw [he]
      rfl
    · exact h0.elim
  · exact h0.elim
theorem law_FnExactSecureNew_T (aKey : Int) : (exFn Try.prog {tb := [(59, sToSecureO), (61, sEqSecureO), (62, sMarkSecureO), (63, sHeldSecureO), (57, sSzSecureO), (70, sSNewO), (69, sSNewO)]} 400 Try.f21 ([.a (.c (.int aKey))]) ([]) (fun v _ => v.den = .bool true)) = (
  (∀ v'0 : Value,
  (∀ rs'1 : (List Row),
  ((isSecure v'0 (snewD aKey) rs'1) →
  (∀ b2 : Nat,
   ((b2 = b2 ∧
   (wholeC Bool.true v'0 6)) ∧
   (∀ v'3 : Value,
   (∀ rs'4 : (List Row),
   ((isSecure v'3 (snewD aKey) rs'4) →
   (∀ b5 : Nat,
    ((b5 = b5 ∧
    (wholeC Bool.true v'3 6)) ∧
    (b5 = b5 ∧
    (b2 = b2 ∧
    (Exists (fun (x6 : SecureD) => (((isSecure v'3 x6 rs'4) ∧
    ((isSecure v'0 x6 rs'1) ∧
    (capSecure x6))) ∧
    ((((isW aKey) != (isW aKey)) = Bool.true →
    (Value.bool Bool.false) = (Value.bool Bool.true)) ∧
    (((isW aKey) != (isW aKey)) = Bool.false →
    (b5 = b5 ∧
     (Exists (fun (x7 : SecureD) => (((isSecure v'3 x7 rs'4) ∧
     ((capSecure x7) ∧
     (mrkC (1 : Int)))) ∧
     ((endC (1 : Int) (endSecure (1 : Int) x7) (67108864 : Int)) →
     (∀ rs'8 : (List Row),
      ((isSecure v'3 (markSecureD (1 : Int) x7) rs'8) →
      (b5 = b5 ∧
       (Exists (fun (x9 : SecureD) => (((isSecure v'3 (markSecureD (1 : Int) x9) rs'8) ∧
       ((capSecure x9) ∧
       (mrkC (1 : Int)))) ∧
       (((decide ((endSecure (1 : Int) x9) < (0 : Int))) = Bool.true →
       (Value.bool Bool.false) = (Value.bool Bool.true)) ∧
       ((decide ((endSecure (1 : Int) x9) < (0 : Int))) = Bool.false →
       ((((endSecure (1 : Int) x9) != (endSecure (1 : Int) x7)) = Bool.true →
        (Value.bool Bool.false) = (Value.bool Bool.true)) ∧
        (((endSecure (1 : Int) x9) != (endSecure (1 : Int) x7)) = Bool.false →
        (∀ v'10 : Value,
         (∀ rs'11 : (List Row),
         ((isSecure v'10 (snewD aKey) rs'11) →
         (∀ b12 : Nat,
          ((b12 = b12 ∧
          (wholeC Bool.true v'10 6)) ∧
          (b12 = b12 ∧
          (b2 = b2 ∧
          (Exists (fun (x13 : SecureD) => (((isSecure v'10 x13 rs'11) ∧
          ((isSecure v'0 x13 rs'1) ∧
          (capSecure x13))) ∧
          ((((isW aKey) != (isW aKey)) = Bool.true →
          (Value.bool Bool.false) = (Value.bool Bool.true)) ∧
          (((isW aKey) != (isW aKey)) = Bool.false →
          (b5 = b5 ∧
           (Exists (fun (x14 : SecureD) => (((isSecure v'3 (markSecureD (1 : Int) x14) rs'8) ∧
           ((capSecure x14) ∧
           (mrkC (1 : Int)))) ∧
           (((decide ((endSecure (1 : Int) x14) < (0 : Int))) = Bool.true →
           (Value.bool Bool.false) = (Value.bool Bool.true)) ∧
           ((decide ((endSecure (1 : Int) x14) < (0 : Int))) = Bool.false →
           ((((endSecure (1 : Int) x14) != (endSecure (1 : Int) x7)) = Bool.true →
            (Value.bool Bool.false) = (Value.bool Bool.true)) ∧
            (((endSecure (1 : Int) x14) != (endSecure (1 : Int) x7)) = Bool.false →
            (Value.bool Bool.true) = (Value.bool Bool.true)))))))))))))))))))))))))))))))))))))))))))))))))))))) := by kernel_rfl
theorem law_FnExactSecureNew_any (aKey : Int) (W : World) (baKey : -9223372036854775808 ≤ aKey ∧ aKey ≤ 9223372036854775807) : Calls Try.prog 21 #[.int .i64 aKey] W fun e W' => e = .returned (.bool true) ∧ Below W.heap.size W W' := by
  refine fnB (tb := [(59, sToSecureO), (61, sEqSecureO), (62, sMarkSecureO), (63, sHeldSecureO), (57, sSzSecureO), (70, sSNewO), (69, sSNewO)]) ⟨sToSecureO_ok_laws_toSecure, sEqSecureO_ok, sMarkSecureO_ok, sHeldSecureO_ok, sSzSecureO_ok, sSNewO_ok_impl_SecureNew, sSNewO_ok_spec_SecureNew, trivial⟩ Try.func21 ((law_FnExactSecureNew_T aKey).mpr ?_) (HS.start W (fun _ => False)) (fun v ch' w' hk hs => ⟨by rw [hk], hs.below⟩)
  repeat' (first
    | exact rfl
    | exact True.intro
    | assumption
    | exact capSNew _
    | exact wholeSecure (by assumption)
    | refine And.intro ?_ ?_
    | apply Exists.intro
    | omega
    | (intro h; exfalso; revert h; simp; done)
    | (intro h; exfalso; simp at h; omega)
    | intro _)
theorem walk_FnExactSecureNew (aKey : Int) (W : World) (baKey : -9223372036854775808 ≤ aKey ∧ aKey ≤ 9223372036854775807) : Calls Try.prog 21 #[.int .i64 aKey] W fun e W' => e = .returned (.bool true) ∧ Below W.heap.size W W' := by
  exact law_FnExactSecureNew_any aKey W baKey
end Go.Proofs.Ytdaeikjpnejmdaa
