/-
  ScriptOps: every row of steps over a new kernel, and a second one over its twin: the call returns true, and the input reads as it did. The condition: the listed package variables read as the program's text lays them (tied); every argument that the form lets in, shared memory too. (Behind: ).
-/
import Derived.Test.YtbgbidpecmepmaaGreatDoorM34
import Derived.Test.YtbgbidpecmepmaaGreatDoorXEa
import Derived.Test.YtbgbidpecmepmaaGreatDoorXEb
import Derived.Test.YtbgbidpecmepmaaGreatDoorXEc
set_option maxRecDepth 100000
namespace Go.Proofs.YtbgbidpecmepmaaGreatDoor
section
open Sy
open Go.ChangeShapes Go.WideShapes Go.ChangeAt Go.RowKit
theorem plain3 (f:FuncId) (fn:Func) (hf:Tryz.pinned.checked.prog.funcNamed "tithe/tithelaw28.ScriptOps"=some f) (hfn:Tryz.pinned.checked.prog.funcs[f]?=some fn) :
  true=Tryz.pinned.checked.prog.looks []∧∀ (j:Nat) t,fn.params[j]?=some t→Tryz.pinned.checked.prog.wantsStandIn t=false:=by
 obtain rfl:f=3:=Option.some.inj (fn3'.symm.trans hf) |>.symm
 obtain rfl:fn=Tryz.f3:=(Option.some.inj (Tryz.func3.symm.trans hfn)).symm
 refine ⟨looks3,fun j t ht=>?_⟩
 rw [par3] at ht
 obtain rfl:t=22:=by simpa using Array.mem_of_getElem? ht
 exact si22
theorem scriptOps_card:Rows.ScriptOpsCardSaid :=
 Claim7.holds_tied_plain_at .later [] _ _ _ _ scriptOps_said (fun _ h=>by cases h) wf3 (fun _ h=>by cases h) scriptOps_row_tie rfl ⟨rfl,rfl⟩ main3 rfl plain3 goes3
end
end Go.Proofs.YtbgbidpecmepmaaGreatDoor
