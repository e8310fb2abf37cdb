/-
  Closed facts of a row.
-/
import Derived.Test.YtbgbidpecmepmaaGreatDoorM0
import Derived.Test.YtbgbidpecmepmaaGreatDoorRows
import Derived.JoinedCond
set_option maxRecDepth 100000
namespace Go.Proofs.YtbgbidpecmepmaaGreatDoor
section
open Sy
open Go
theorem j3J_9:((Rows.scriptOpsRow.inPlace == Tryz.pinned.checked.prog.inPlace 3))=true:=by kernel_rfl
theorem j3J_10:((Rows.scriptOpsRow.unfollowed == Tryz.pinned.checked.prog.unfollowed 3))=true:=by kernel_rfl
end
end Go.Proofs.YtbgbidpecmepmaaGreatDoor
