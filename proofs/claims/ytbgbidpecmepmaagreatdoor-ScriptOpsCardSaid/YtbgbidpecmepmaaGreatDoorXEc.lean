/-
  Facts of the card of ScriptOps.
-/
import Derived.Test.YtbgbidpecmepmaaGreatDoorM0
import Derived.Test.YtbgbidpecmepmaaGreatDoorCards
import Derived.Test.YtbgbidpecmepmaaGreatDoorTie
set_option maxRecDepth 100000
namespace Go.Proofs.YtbgbidpecmepmaaGreatDoor
section
open Sy
open Go
theorem si22:Tryz.prog.wantsStandIn 22=false:=by kernel_rfl
theorem fn3':Tryz.prog.funcNamed "tithe/tithelaw28.ScriptOps"=some 3:=by kernel_rfl
end
end Go.Proofs.YtbgbidpecmepmaaGreatDoor
