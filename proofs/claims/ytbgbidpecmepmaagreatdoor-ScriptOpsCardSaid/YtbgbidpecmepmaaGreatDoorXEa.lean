/-
  Facts of the card of ScriptOps.
-/
import Derived.Test.YtbgbidpecmepmaaGreatDoorM0
import Derived.Test.YtbgbidpecmepmaaGreatDoorCards
import Derived.Test.YtbgbidpecmepmaaGreatDoorTie
set_option maxRecDepth 100000
namespace Go.Proofs.YtbgbidpecmepmaaGreatDoor
section
open Sy
open Go
theorem wf3:Rows.scriptOpsRow.wfByText (OpenSpec.ofChange Rows.scriptOpsSpec)=true:=by kernel_rfl
theorem main3:Tryz.pinned.checked.prog.mainIs=some (true,("793aeae2fe4261a0712159021ded88ee883803b7391efe64e55596fd5769a7f9":String).toList):=by kernel_rfl
theorem looks3:true=Tryz.pinned.checked.prog.looks []:=by kernel_rfl
end
end Go.Proofs.YtbgbidpecmepmaaGreatDoor
