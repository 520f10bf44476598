/-
  Closed facts on the head of the cut, which the row's step of every law asks. Written by program.
-/
import Derived.Test.YtbhfabaofhhkeaaGreatRows
import Derived.JoinedOf
import Derived.KernelRfl
namespace Go.Proofs.YtbhfabaofhhkeaaGreat
set_option maxRecDepth 100000
theorem make_cut (P : Program) (r : List (List Char)) (h : behindMainWord (wordsSigns P.initOrder.toList) = "cut".toList :: r) : P.make = some .cut := by
  unfold Program.make
  rw [h]
  rfl
theorem strip_cut (r : List (List Char)) : stripLifts liftWords ("cut".toList :: r) = ([], "cut".toList :: r) := by
  rfl
theorem lifts_cut (P : Program) (r : List (List Char)) (h : behindMainWord (wordsSigns P.initOrder.toList) = "cut".toList :: r) : P.liftsFinal = false := by
  unfold Program.liftsFinal Program.headLifts
  rw [h, strip_cut]
  rfl
theorem may_cut (P : Program) (r : List (List Char)) (h : behindMainWord (wordsSigns P.initOrder.toList) = "cut".toList :: r) (h1 : P.laysLater = false) (h2 : P.bearsReflect = false) (h3 : P.doorFits [] = true) : P.mayEnter = true := by
  unfold Program.mayEnter
  rw [h]
  simp only [strip_cut, h1, h2, h3]
  rfl
def iniSigns : List Char := List.map Char.ofNat [104, 97, 114, 110, 101, 115, 115, 32, 97, 102, 50, 55, 98, 48, 102, 52, 102, 48, 99, 98, 100, 97, 52, 55, 98, 51, 56, 54, 98, 50, 54, 48, 102, 53, 52, 57, 49, 55, 52, 54, 57, 98, 57, 50, 52, 98, 54, 51, 97, 55, 97, 48, 54, 97, 56, 53, 97, 102, 49, 102, 98, 51, 49, 97, 100, 53, 99, 99, 99, 101, 102, 48, 32, 99, 117, 116, 32, 97, 116, 32, 108, 111, 111, 112, 46, 101, 120, 97, 109, 112, 108, 101, 47, 103, 48, 48, 57, 55, 55, 47, 108, 97, 119, 115, 46, 70, 110, 69, 120, 97, 99, 116, 67, 111, 110, 116, 114, 111, 108, 108, 101, 114, 78, 101, 119]
def iniRest : List (List Char) := List.map (List.map Char.ofNat) [[97, 116], [108, 111, 111, 112, 46, 101, 120, 97, 109, 112, 108, 101, 47, 103, 48, 48, 57, 55, 55, 47, 108, 97, 119, 115, 46, 70, 110, 69, 120, 97, 99, 116, 67, 111, 110, 116, 114, 111, 108, 108, 101, 114, 78, 101, 119]]
theorem iniEq : Tryz.prog.initOrder = String.ofList iniSigns := by kernel_rfl
theorem iniList : Tryz.prog.initOrder.toList = iniSigns := by rw [iniEq]; exact String.toList_ofList
theorem iniWords : behindMainWord (wordsSigns Tryz.prog.initOrder.toList) = "cut".toList :: iniRest := by rw [iniList]; kernel_rfl
theorem mayIs : Tryz.prog.mayEnter = true := may_cut _ _ iniWords (by kernel_rfl) (by kernel_rfl) (by kernel_rfl)
theorem liftsIs : Tryz.prog.liftsFinal = false := lifts_cut _ _ iniWords
theorem makeIs : Tryz.prog.make = some .cut := make_cut _ _ iniWords
end Go.Proofs.YtbhfabaofhhkeaaGreat
