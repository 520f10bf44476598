/-
  Objects: what the generated texts use.
-/
import Derived.Test.YtddeinpnadfgmaaSxP
namespace Go.Proofs.Ytddeinpnadfgmaa
set_option linter.unusedVariables false
set_option linter.unusedSimpArgs false
open Go.RowKit
theorem den_obj (id : Nat) (v : Value) : (SC.obj id v).den = v := rfl
end Go.Proofs.Ytddeinpnadfgmaa
