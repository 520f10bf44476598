/-
  Closed facts on the head of the cut, which the row's step of every law asks. Written by program.
-/
import Derived.Test.YtmgjmglmjfjliaaRows
import Derived.JoinedOf
import Derived.KernelRfl
namespace Go.Proofs.Ytmgjmglmjfjliaa
set_option maxRecDepth 100000
theorem make_cut (P : Program) (r : List (List Char)) (h : behindMainWord (wordsSigns P.initOrder.toList) = "cut".toList :: r) : P.make = some .cut := by
  unfold Program.make
  rw [h]
  rfl
theorem strip_cut (r : List (List Char)) : stripLifts liftWords ("cut".toList :: r) = ([], "cut".toList :: r) := by
  rfl
theorem lifts_cut (P : Program) (r : List (List Char)) (h : behindMainWord (wordsSigns P.initOrder.toList) = "cut".toList :: r) : P.liftsFinal = false := by
  unfold Program.liftsFinal Program.headLifts
  rw [h, strip_cut]
  rfl
theorem may_cut (P : Program) (r : List (List Char)) (h : behindMainWord (wordsSigns P.initOrder.toList) = "cut".toList :: r) (h1 : P.laysLater = false) (h2 : P.bearsReflect = false) (h3 : P.doorFits [] = true) : P.mayEnter = true := by
  unfold Program.mayEnter
  rw [h]
  simp only [strip_cut, h1, h2, h3]
  rfl
def iniSigns : List Char := List.map Char.ofNat [104, 97, 114, 110, 101, 115, 115, 32, 99, 97, 53, 98, 50, 56, 98, 101, 56, 102, 100, 49, 98, 49, 55, 100, 53, 54, 97, 98, 51, 98, 52, 101, 97, 48, 57, 100, 97, 98, 48, 54, 101, 54, 55, 102, 48, 50, 55, 54, 52, 52, 56, 50, 55, 56, 97, 49, 54, 101, 55, 51, 54, 48, 53, 53, 101, 52, 54, 48, 55, 99, 98, 53, 32, 99, 117, 116, 32, 97, 116, 32, 108, 111, 111, 112, 46, 101, 120, 97, 109, 112, 108, 101, 47, 103, 48, 48, 57, 55, 55, 47, 108, 97, 119, 115, 46, 70, 110, 83, 99, 114, 117, 98, 82, 97, 99, 101]
def iniRest : List (List Char) := List.map (List.map Char.ofNat) [[97, 116], [108, 111, 111, 112, 46, 101, 120, 97, 109, 112, 108, 101, 47, 103, 48, 48, 57, 55, 55, 47, 108, 97, 119, 115, 46, 70, 110, 83, 99, 114, 117, 98, 82, 97, 99, 101]]
theorem iniEq : Try.prog.initOrder = String.ofList iniSigns := by kernel_rfl
theorem iniList : Try.prog.initOrder.toList = iniSigns := by rw [iniEq]; exact String.toList_ofList
theorem iniWords : behindMainWord (wordsSigns Try.prog.initOrder.toList) = "cut".toList :: iniRest := by rw [iniList]; kernel_rfl
theorem mayIs : Try.prog.mayEnter = true := may_cut _ _ iniWords (by kernel_rfl) (by kernel_rfl) (by kernel_rfl)
theorem liftsIs : Try.prog.liftsFinal = false := lifts_cut _ _ iniWords
theorem makeIs : Try.prog.make = some .cut := make_cut _ _ iniWords
end Go.Proofs.Ytmgjmglmjfjliaa
