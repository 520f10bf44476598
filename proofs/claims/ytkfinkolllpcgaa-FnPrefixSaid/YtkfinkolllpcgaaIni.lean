/-
  Closed facts on the head of the cut, which the row's step of every law asks. Written by program.
-/
import Derived.Test.YtkfinkolllpcgaaRows
import Derived.JoinedOf
import Derived.KernelRfl
namespace Go.Proofs.Ytkfinkolllpcgaa
set_option maxRecDepth 100000
theorem make_cut (P : Program) (r : List (List Char)) (h : behindMainWord (wordsSigns P.initOrder.toList) = "cut".toList :: r) : P.make = some .cut := by
  unfold Program.make
  rw [h]
  rfl
theorem strip_cut (r : List (List Char)) : stripLifts liftWords ("cut".toList :: r) = ([], "cut".toList :: r) := by
  rfl
theorem lifts_cut (P : Program) (r : List (List Char)) (h : behindMainWord (wordsSigns P.initOrder.toList) = "cut".toList :: r) : P.liftsFinal = false := by
  unfold Program.liftsFinal Program.headLifts
  rw [h, strip_cut]
  rfl
theorem may_cut (P : Program) (r : List (List Char)) (h : behindMainWord (wordsSigns P.initOrder.toList) = "cut".toList :: r) (h1 : P.laysLater = false) (h2 : P.bearsReflect = false) (h3 : P.doorFits [] = true) : P.mayEnter = true := by
  unfold Program.mayEnter
  rw [h]
  simp only [strip_cut, h1, h2, h3]
  rfl
def iniSigns : List Char := List.map Char.ofNat [104, 97, 114, 110, 101, 115, 115, 32, 52, 53, 55, 52, 51, 97, 98, 49, 52, 56, 99, 98, 100, 54, 55, 57, 56, 55, 51, 102, 49, 57, 97, 49, 101, 98, 53, 101, 97, 99, 100, 97, 51, 53, 54, 98, 57, 49, 51, 54, 51, 97, 99, 102, 100, 53, 49, 53, 49, 102, 57, 50, 102, 49, 98, 49, 97, 49, 56, 54, 97, 52, 53, 56, 32, 99, 117, 116, 32, 97, 116, 32, 108, 111, 111, 112, 46, 101, 120, 97, 109, 112, 108, 101, 47, 103, 48, 48, 57, 55, 55, 47, 108, 97, 119, 115, 46, 70, 110, 69, 120, 97, 99, 116, 82, 101, 119, 105, 110, 100, 32, 108, 111, 111, 112, 46, 101, 120, 97, 109, 112, 108, 101, 47, 103, 48, 48, 57, 55, 55, 47, 108, 97, 119, 115, 46, 70, 110, 69, 120, 97, 99, 116, 83, 101, 110, 100, 78, 101, 120, 116, 32, 108, 111, 111, 112, 46, 101, 120, 97, 109, 112, 108, 101, 47, 103, 48, 48, 57, 55, 55, 47, 108, 97, 119, 115, 46, 70, 110, 82, 101, 115, 101, 110, 100, 32, 108, 111, 111, 112, 46, 101, 120, 97, 109, 112, 108, 101, 47, 103, 48, 48, 57, 55, 55, 47, 108, 97, 119, 115, 46, 70, 110, 69, 120, 97, 99, 116, 83, 101, 110, 100, 101, 114, 78, 101, 119, 32, 108, 111, 111, 112, 46, 101, 120, 97, 109, 112, 108, 101, 47, 103, 48, 48, 57, 55, 55, 47, 108, 97, 119, 115, 46, 70, 110, 76, 105, 110, 107, 32, 108, 111, 111, 112, 46, 101, 120, 97, 109, 112, 108, 101, 47, 103, 48, 48, 57, 55, 55, 47, 108, 97, 119, 115, 46, 70, 110, 69, 120, 97, 99, 116, 82, 101, 99, 101, 105, 118, 101, 32, 108, 111, 111, 112, 46, 101, 120, 97, 109, 112, 108, 101, 47, 103, 48, 48, 57, 55, 55, 47, 108, 97, 119, 115, 46, 70, 110, 69, 120, 97, 99, 116, 76, 105, 110, 107, 82, 117, 110, 32, 108, 111, 111, 112, 46, 101, 120, 97, 109, 112, 108, 101, 47, 103, 48, 48, 57, 55, 55, 47, 108, 97, 119, 115, 46, 70, 110, 80, 114, 101, 102, 105, 120]
def iniRest : List (List Char) := List.map (List.map Char.ofNat) [[97, 116], [108, 111, 111, 112, 46, 101, 120, 97, 109, 112, 108, 101, 47, 103, 48, 48, 57, 55, 55, 47, 108, 97, 119, 115, 46, 70, 110, 69, 120, 97, 99, 116, 82, 101, 119, 105, 110, 100], [108, 111, 111, 112, 46, 101, 120, 97, 109, 112, 108, 101, 47, 103, 48, 48, 57, 55, 55, 47, 108, 97, 119, 115, 46, 70, 110, 69, 120, 97, 99, 116, 83, 101, 110, 100, 78, 101, 120, 116], [108, 111, 111, 112, 46, 101, 120, 97, 109, 112, 108, 101, 47, 103, 48, 48, 57, 55, 55, 47, 108, 97, 119, 115, 46, 70, 110, 82, 101, 115, 101, 110, 100], [108, 111, 111, 112, 46, 101, 120, 97, 109, 112, 108, 101, 47, 103, 48, 48, 57, 55, 55, 47, 108, 97, 119, 115, 46, 70, 110, 69, 120, 97, 99, 116, 83, 101, 110, 100, 101, 114, 78, 101, 119], [108, 111, 111, 112, 46, 101, 120, 97, 109, 112, 108, 101, 47, 103, 48, 48, 57, 55, 55, 47, 108, 97, 119, 115, 46, 70, 110, 76, 105, 110, 107], [108, 111, 111, 112, 46, 101, 120, 97, 109, 112, 108, 101, 47, 103, 48, 48, 57, 55, 55, 47, 108, 97, 119, 115, 46, 70, 110, 69, 120, 97, 99, 116, 82, 101, 99, 101, 105, 118, 101], [108, 111, 111, 112, 46, 101, 120, 97, 109, 112, 108, 101, 47, 103, 48, 48, 57, 55, 55, 47, 108, 97, 119, 115, 46, 70, 110, 69, 120, 97, 99, 116, 76, 105, 110, 107, 82, 117, 110], [108, 111, 111, 112, 46, 101, 120, 97, 109, 112, 108, 101, 47, 103, 48, 48, 57, 55, 55, 47, 108, 97, 119, 115, 46, 70, 110, 80, 114, 101, 102, 105, 120]]
theorem iniEq : Try.prog.initOrder = String.ofList iniSigns := by kernel_rfl
theorem iniList : Try.prog.initOrder.toList = iniSigns := by rw [iniEq]; exact String.toList_ofList
theorem iniWords : behindMainWord (wordsSigns Try.prog.initOrder.toList) = "cut".toList :: iniRest := by rw [iniList]; kernel_rfl
theorem mayIs : Try.prog.mayEnter = true := may_cut _ _ iniWords (by kernel_rfl) (by kernel_rfl) (by kernel_rfl)
theorem liftsIs : Try.prog.liftsFinal = false := lifts_cut _ _ iniWords
theorem makeIs : Try.prog.make = some .cut := make_cut _ _ iniWords
end Go.Proofs.Ytkfinkolllpcgaa
