/-
  Facts of the card of ScriptOps.
-/
import Derived.Test.YtbgbidpecmepmaaGreatDoorM0
import Derived.Test.YtbgbidpecmepmaaGreatDoorCards
import Derived.Test.YtbgbidpecmepmaaGreatDoorTie
set_option maxRecDepth 100000
namespace Go.Proofs.YtbgbidpecmepmaaGreatDoor
section
open Sy
open Go
theorem goes3:false=Rows.scriptOpsRow.goesBy Tryz.pinned.checked.prog:=by kernel_rfl
end
end Go.Proofs.YtbgbidpecmepmaaGreatDoor
