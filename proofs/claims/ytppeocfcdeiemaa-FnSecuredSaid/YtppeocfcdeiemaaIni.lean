/-
  Closed facts on the head of the cut, which the row's step of every law asks. Written by program.
-/
import Derived.Test.YtppeocfcdeiemaaRows
import Derived.JoinedOf
import Derived.KernelRfl
namespace Go.Proofs.Ytppeocfcdeiemaa
set_option maxRecDepth 100000
theorem make_cut (P : Program) (r : List (List Char)) (h : behindMainWord (wordsSigns P.initOrder.toList) = "cut".toList :: r) : P.make = some .cut := by
  unfold Program.make
  rw [h]
  rfl
theorem strip_cut (r : List (List Char)) : stripLifts liftWords ("cut".toList :: r) = ([], "cut".toList :: r) := by
  rfl
theorem lifts_cut (P : Program) (r : List (List Char)) (h : behindMainWord (wordsSigns P.initOrder.toList) = "cut".toList :: r) : P.liftsFinal = false := by
  unfold Program.liftsFinal Program.headLifts
  rw [h, strip_cut]
  rfl
theorem may_cut (P : Program) (r : List (List Char)) (h : behindMainWord (wordsSigns P.initOrder.toList) = "cut".toList :: r) (h1 : P.laysLater = false) (h2 : P.bearsReflect = false) (h3 : P.doorFits [] = true) : P.mayEnter = true := by
  unfold Program.mayEnter
  rw [h]
  simp only [strip_cut, h1, h2, h3]
  rfl
def iniSigns : List Char := List.map Char.ofNat [104, 97, 114, 110, 101, 115, 115, 32, 51, 57, 57, 97, 48, 56, 100, 54, 56, 50, 49, 53, 98, 53, 53, 100, 57, 54, 48, 57, 51, 48, 53, 48, 98, 51, 99, 51, 53, 51, 100, 102, 100, 57, 52, 54, 51, 99, 100, 101, 57, 54, 50, 98, 57, 53, 48, 52, 97, 102, 100, 100, 52, 100, 52, 101, 102, 48, 55, 101, 55, 50, 53, 54, 32, 99, 117, 116, 32, 97, 116, 32, 108, 111, 111, 112, 46, 101, 120, 97, 109, 112, 108, 101, 47, 103, 48, 48, 57, 55, 55, 47, 108, 97, 119, 115, 46, 70, 110, 66, 117, 109, 112, 101, 100, 32, 108, 111, 111, 112, 46, 101, 120, 97, 109, 112, 108, 101, 47, 103, 48, 48, 57, 55, 55, 47, 108, 97, 119, 115, 46, 70, 110, 79, 108, 100, 78, 111, 100, 101, 115, 32, 108, 111, 111, 112, 46, 101, 120, 97, 109, 112, 108, 101, 47, 103, 48, 48, 57, 55, 55, 47, 108, 97, 119, 115, 46, 70, 110, 70, 111, 114, 103, 101, 100, 32, 108, 111, 111, 112, 46, 101, 120, 97, 109, 112, 108, 101, 47, 103, 48, 48, 57, 55, 55, 47, 108, 97, 119, 115, 46, 70, 110, 84, 97, 109, 112, 101, 114, 101, 100, 32, 108, 111, 111, 112, 46, 101, 120, 97, 109, 112, 108, 101, 47, 103, 48, 48, 57, 55, 55, 47, 108, 97, 119, 115, 46, 70, 110, 82, 101, 112, 108, 97, 121, 101, 100, 32, 108, 111, 111, 112, 46, 101, 120, 97, 109, 112, 108, 101, 47, 103, 48, 48, 57, 55, 55, 47, 108, 97, 119, 115, 46, 70, 110, 83, 101, 99, 117, 114, 101, 100]
def iniRest : List (List Char) := List.map (List.map Char.ofNat) [[97, 116], [108, 111, 111, 112, 46, 101, 120, 97, 109, 112, 108, 101, 47, 103, 48, 48, 57, 55, 55, 47, 108, 97, 119, 115, 46, 70, 110, 66, 117, 109, 112, 101, 100], [108, 111, 111, 112, 46, 101, 120, 97, 109, 112, 108, 101, 47, 103, 48, 48, 57, 55, 55, 47, 108, 97, 119, 115, 46, 70, 110, 79, 108, 100, 78, 111, 100, 101, 115], [108, 111, 111, 112, 46, 101, 120, 97, 109, 112, 108, 101, 47, 103, 48, 48, 57, 55, 55, 47, 108, 97, 119, 115, 46, 70, 110, 70, 111, 114, 103, 101, 100], [108, 111, 111, 112, 46, 101, 120, 97, 109, 112, 108, 101, 47, 103, 48, 48, 57, 55, 55, 47, 108, 97, 119, 115, 46, 70, 110, 84, 97, 109, 112, 101, 114, 101, 100], [108, 111, 111, 112, 46, 101, 120, 97, 109, 112, 108, 101, 47, 103, 48, 48, 57, 55, 55, 47, 108, 97, 119, 115, 46, 70, 110, 82, 101, 112, 108, 97, 121, 101, 100], [108, 111, 111, 112, 46, 101, 120, 97, 109, 112, 108, 101, 47, 103, 48, 48, 57, 55, 55, 47, 108, 97, 119, 115, 46, 70, 110, 83, 101, 99, 117, 114, 101, 100]]
theorem iniEq : Try.prog.initOrder = String.ofList iniSigns := by kernel_rfl
theorem iniList : Try.prog.initOrder.toList = iniSigns := by rw [iniEq]; exact String.toList_ofList
theorem iniWords : behindMainWord (wordsSigns Try.prog.initOrder.toList) = "cut".toList :: iniRest := by rw [iniList]; kernel_rfl
theorem mayIs : Try.prog.mayEnter = true := may_cut _ _ iniWords (by kernel_rfl) (by kernel_rfl) (by kernel_rfl)
theorem liftsIs : Try.prog.liftsFinal = false := lifts_cut _ _ iniWords
theorem makeIs : Try.prog.make = some .cut := make_cut _ _ iniWords
end Go.Proofs.Ytppeocfcdeiemaa
