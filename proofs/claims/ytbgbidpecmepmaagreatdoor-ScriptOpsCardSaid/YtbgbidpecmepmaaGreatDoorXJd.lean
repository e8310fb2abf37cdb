/-
  Closed facts of a row.
-/
import Derived.Test.YtbgbidpecmepmaaGreatDoorM0
import Derived.Test.YtbgbidpecmepmaaGreatDoorRows
import Derived.JoinedCond
set_option maxRecDepth 100000
namespace Go.Proofs.YtbgbidpecmepmaaGreatDoor
section
open Sy
open Go
theorem j3J_13:((Rows.scriptOpsRow.maps == (Tryz.f3.params.toList++(OpenSpec.ofChange Rows.scriptOpsSpec).bare.plain.varTypes Tryz.pinned.checked.prog).any (Tryz.pinned.checked.prog.mapsRec ·)))=true:=by kernel_rfl
theorem j3J_14:((Rows.scriptOpsRow.ifaces == (Tryz.f3.params.toList++(OpenSpec.ofChange Rows.scriptOpsSpec).bare.plain.varTypes Tryz.pinned.checked.prog).any (Tryz.pinned.checked.prog.ifacesRec ·)))=true:=by kernel_rfl
theorem j3J_15:((Rows.scriptOpsRow.mapsOut == Tryz.pinned.checked.prog.mapsAmong Tryz.f3.resultTypes.toList))=true:=by kernel_rfl
theorem j3J_16:((Rows.scriptOpsRow.loops == (Tryz.f3.params.toList++(OpenSpec.ofChange Rows.scriptOpsSpec).bare.plain.varTypes Tryz.pinned.checked.prog).any (Tryz.pinned.checked.prog.loopsFrom ·)))=true:=by kernel_rfl
theorem j3J_17:((Rows.scriptOpsRow.wideKeys == (Tryz.f3.params.toList++(OpenSpec.ofChange Rows.scriptOpsSpec).bare.plain.varTypes Tryz.pinned.checked.prog++Tryz.f3.resultTypes.toList).any (Tryz.pinned.checked.prog.wideKeysFrom ·)))=true:=by kernel_rfl
theorem j3J_18:((OpenSpec.ofChange Rows.scriptOpsSpec).bare.vars.all (Tryz.pinned.checked.prog.varReadable ·))=true:=by kernel_rfl
theorem j3J_19:(Tryz.f3.resultTypes.all (fun t=>Tryz.pinned.checked.prog.readableRec t && decide (t<Tryz.pinned.checked.prog.types.size)))=true:=by kernel_rfl
theorem j3J_20:((Rows.scriptOpsRow.ifacesOut == Tryz.f3.resultTypes.toList.any (Tryz.pinned.checked.prog.ifacesRec ·)))=true:=by kernel_rfl
theorem j3J_21:((Rows.scriptOpsRow.loopsOut == Tryz.f3.resultTypes.toList.any (Tryz.pinned.checked.prog.loopsFrom ·)))=true:=by kernel_rfl
theorem j3J_22:((Rows.scriptOpsRow.plainKeys == Tryz.pinned.checked.prog.plainKeys))=true:=by kernel_rfl
theorem j3J_23:(Rows.scriptOpsRow.shortTexts.isNone)=true:=by kernel_rfl
theorem j3J_24:(Tryz.pinned.checked.prog.stopsHeard)=true:=by kernel_rfl
theorem j3J_25:(Tryz.pinned.checked.prog.mayEnter)=true:=by kernel_rfl
theorem j3J_26:((Rows.scriptOpsRow.lifted == Tryz.pinned.checked.prog.liftsFinal))=true:=by kernel_rfl
theorem j3J_27:((Tryz.pinned.checked.prog.make == some Rows.scriptOpsRow.make))=true:=by kernel_rfl
theorem j3J_28:((Rows.scriptOpsRow.kinds == (if Rows.scriptOpsRow.domain.isEmpty then [] else Tryz.f3.params.toList.map fun t=>match Tryz.pinned.checked.prog.underlying t with | some (.int k)=>some k | _=>none)))=true:=by kernel_rfl
theorem j3J_29:((Rows.scriptOpsRow.pinned == Rows.scriptOpsRow.pinnedBy))=true:=by kernel_rfl
theorem j3J_30:((Rows.scriptOpsRow.veiled == (Tryz.f3.params.toList++(OpenSpec.ofChange Rows.scriptOpsSpec).bare.plain.varTypes Tryz.pinned.checked.prog++Tryz.f3.resultTypes.toList).any (Tryz.pinned.checked.prog.veiledRec ·)))=true:=by kernel_rfl
theorem j3J_31:(Rows.scriptOpsRow.veiledFits Tryz.pinned.checked.prog Tryz.f3.params.toList (Tryz.f3.params.toList++(OpenSpec.ofChange Rows.scriptOpsSpec).bare.plain.varTypes Tryz.pinned.checked.prog++Tryz.f3.resultTypes.toList))=true:=by kernel_rfl
end
end Go.Proofs.YtbgbidpecmepmaaGreatDoor
