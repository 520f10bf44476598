/-
  Closed facts on the head of the cut, which the row's step of every law asks. Written by program.
-/
import Derived.Test.YtmgjmglmjfjliabRows
import Derived.JoinedOf
import Derived.KernelRfl
namespace Go.Proofs.Ytmgjmglmjfjliab
set_option maxRecDepth 100000
theorem make_cut (P : Program) (r : List (List Char)) (h : behindMainWord (wordsSigns P.initOrder.toList) = "cut".toList :: r) : P.make = some .cut := by
  unfold Program.make
  rw [h]
  rfl
theorem strip_cut (r : List (List Char)) : stripLifts liftWords ("cut".toList :: r) = ([], "cut".toList :: r) := by
  rfl
theorem lifts_cut (P : Program) (r : List (List Char)) (h : behindMainWord (wordsSigns P.initOrder.toList) = "cut".toList :: r) : P.liftsFinal = false := by
  unfold Program.liftsFinal Program.headLifts
  rw [h, strip_cut]
  rfl
theorem may_cut (P : Program) (r : List (List Char)) (h : behindMainWord (wordsSigns P.initOrder.toList) = "cut".toList :: r) (h1 : P.laysLater = false) (h2 : P.bearsReflect = false) (h3 : P.doorFits [] = true) : P.mayEnter = true := by
  unfold Program.mayEnter
  rw [h]
  simp only [strip_cut, h1, h2, h3]
  rfl
def iniSigns : List Char := List.map Char.ofNat [104, 97, 114, 110, 101, 115, 115, 32, 52, 56, 99, 99, 55, 99, 50, 97, 55, 53, 55, 52, 50, 99, 97, 52, 55, 57, 49, 50, 54, 48, 54, 48, 98, 50, 52, 55, 51, 53, 55, 99, 51, 51, 56, 57, 101, 97, 98, 101, 54, 102, 51, 97, 53, 52, 57, 101, 52, 55, 98, 97, 48, 49, 53, 57, 57, 100, 99, 51, 97, 55, 97, 56, 32, 99, 117, 116, 32, 97, 116, 32, 108, 111, 111, 112, 46, 101, 120, 97, 109, 112, 108, 101, 47, 103, 48, 48, 57, 55, 55, 47, 108, 97, 119, 115, 46, 70, 110, 77, 111, 118, 101, 100]
def iniRest : List (List Char) := List.map (List.map Char.ofNat) [[97, 116], [108, 111, 111, 112, 46, 101, 120, 97, 109, 112, 108, 101, 47, 103, 48, 48, 57, 55, 55, 47, 108, 97, 119, 115, 46, 70, 110, 77, 111, 118, 101, 100]]
theorem iniEq : Try.prog.initOrder = String.ofList iniSigns := by kernel_rfl
theorem iniList : Try.prog.initOrder.toList = iniSigns := by rw [iniEq]; exact String.toList_ofList
theorem iniWords : behindMainWord (wordsSigns Try.prog.initOrder.toList) = "cut".toList :: iniRest := by rw [iniList]; kernel_rfl
theorem mayIs : Try.prog.mayEnter = true := may_cut _ _ iniWords (by kernel_rfl) (by kernel_rfl) (by kernel_rfl)
theorem liftsIs : Try.prog.liftsFinal = false := lifts_cut _ _ iniWords
theorem makeIs : Try.prog.make = some .cut := make_cut _ _ iniWords
end Go.Proofs.Ytmgjmglmjfjliab
