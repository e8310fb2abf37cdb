/-
  Closed facts of a row.
-/
import Derived.Test.YtbgbidpecmepmaaGreatDoorM0
import Derived.Test.YtbgbidpecmepmaaGreatDoorRows
import Derived.JoinedCond
set_option maxRecDepth 100000
namespace Go.Proofs.YtbgbidpecmepmaaGreatDoor
section
open Sy
open Go
theorem j3J_0:(Rows.scriptOpsRow.wf (OpenSpec.ofChange (OpenSpec.ofChange Rows.scriptOpsSpec).bare))=true:=by kernel_rfl
theorem j3J_1:(laidOutB Tryz.pinned.checked.prog)=true:=by kernel_rfl
theorem j3J_2:(mapsRowed Tryz.pinned.checked.prog)=true:=by kernel_rfl
theorem j3J_3:(Tryz.f3.params.all (Tryz.pinned.checked.prog.readableRec ·))=true:=by kernel_rfl
theorem j3J_4:(namedTie Tryz.pinned.checked.prog Rows.scriptOpsRow.named (OpenSpec.ofChange Rows.scriptOpsSpec).bare.vars)=true:=by kernel_rfl
theorem j3J_5:((Rows.scriptOpsRow.stops == []))=true:=by kernel_rfl
theorem j3J_6:((Tryz.pinned.checked.prog.stops == []))=true:=by kernel_rfl
theorem j3J_7:((Rows.scriptOpsRow.knobs == []))=true:=by kernel_rfl
theorem j3J_8:((Tryz.pinned.checked.prog.stopKnobs == []))=true:=by kernel_rfl
end
end Go.Proofs.YtbgbidpecmepmaaGreatDoor
