/-
  The witness of ScriptOps: the rest of its heap.
-/
import Derived.Test.YtbgbidpecmepmaaGreatDoorXE0
import Derived.Deep.DeepHandedRow
import Derived.Deep.DeepWitnessRowRef
set_option maxRecDepth 100000
namespace Go.Proofs.YtbgbidpecmepmaaGreatDoor
section
open Sy
open Sy Go.ChangeShapes Go.WideShapes Go.ChangeAt Go.RowKit
abbrev iv3b:Input:=⟨#[],#[.slice none 0 0,.slice none 0 0],[]⟩
theorem w3_r (os:Os):(((startW os).forCall (fun _ _=>0) iv3b).heap.toList.drop Tryz.checked.prog.globals.size).take ((begin Tryz.checked.prog (fun _ _=>0) default).world.heap.size - Tryz.checked.prog.globals.size) =
   (begin Tryz.checked.prog (fun _ _=>0) default).world.heap.toList.drop Tryz.checked.prog.globals.size:=by kernel_rfl
end
end Go.Proofs.YtbgbidpecmepmaaGreatDoor
