/-
  FnExactStoredAddr: a part of the walk (merged and squeezed by program: SxPrS).
-/
import Derived.Test.YtmnccapnjphmfaaGreatZbac
namespace Go.Proofs.YtmnccapnjphmfaaGreat
set_option linter.unusedVariables false
set_option linter.unusedSimpArgs false
open Go.RowKit
set_option maxRecDepth 100000
set_option maxHeartbeats 8000000
def sIsWordI:Sm:=inlM Tryz.prog {tb:=[(61,sBtw)]} 300 Tryz.f182
theorem sIsWordI_ok:SmOK Tryz.prog 182 sIsWordI:=inlM_ok mixed (E:={tb:=[(61,sBtw)]}) ⟨sBtwI_ok,trivial⟩ Tryz.func182 Tryz.call182 (fun _ _ _=>loopsOK_nil _ _ _)
def sIsWordS:Sm:=inlM Tryz.prog {tb:=[(28,sBtw)]} 300 Tryz.f169
theorem sIsWordS_ok:SmOK Tryz.prog 169 sIsWordS:=inlM_ok mixed (E:={tb:=[(28,sBtw)]}) ⟨sBtwS_ok,trivial⟩ Tryz.func169 Tryz.call169 (fun _ _ _=>loopsOK_nil _ _ _)
end Go.Proofs.YtmnccapnjphmfaaGreat
