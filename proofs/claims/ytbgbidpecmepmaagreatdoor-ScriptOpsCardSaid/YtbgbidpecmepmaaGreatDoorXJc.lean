/-
  Closed facts of a row.
-/
import Derived.Test.YtbgbidpecmepmaaGreatDoorM0
import Derived.Test.YtbgbidpecmepmaaGreatDoorRows
import Derived.JoinedCond
set_option maxRecDepth 100000
namespace Go.Proofs.YtbgbidpecmepmaaGreatDoor
section
open Sy
open Go
theorem j3J_11:((Rows.scriptOpsRow.recurses == Tryz.pinned.checked.prog.recurses 3))=true:=by kernel_rfl
theorem j3J_12:((Rows.scriptOpsRow.named == Tryz.pinned.checked.prog.varsNamed 3))=true:=by kernel_rfl
end
end Go.Proofs.YtbgbidpecmepmaaGreatDoor
