/-
  The witness of ScriptOps: its variables.
-/
import Derived.Test.YtbgbidpecmepmaaGreatDoorXE0
import Derived.Deep.DeepHandedRow
import Derived.Deep.DeepWitnessRowRef
set_option maxRecDepth 100000
namespace Go.Proofs.YtbgbidpecmepmaaGreatDoor
section
open Sy
open Sy Go.ChangeShapes Go.WideShapes Go.ChangeAt Go.RowKit
abbrev iv3:Input:=⟨#[],#[.slice none 0 0,.slice none 0 0],[]⟩
theorem w3_v (os:Os):((startW os).forCall (fun _ _=>0) iv3).variablesRefB Tryz.checked.prog=true:=by kernel_rfl
end
end Go.Proofs.YtbgbidpecmepmaaGreatDoor
