/-
  Closed facts of a row; ScriptOps: the statement of its row.
-/
import Derived.Test.YtbgbidpecmepmaaGreatDoorXJa
import Derived.Test.YtbgbidpecmepmaaGreatDoorXJb
import Derived.Test.YtbgbidpecmepmaaGreatDoorXJc
import Derived.Test.YtbgbidpecmepmaaGreatDoorXJd
import Derived.Test.YtbgbidpecmepmaaGreatDoorM27
import Derived.Test.YtbgbidpecmepmaaGreatDoorXE3
import Derived.Test.YtbgbidpecmepmaaGreatDoorXE4
set_option maxRecDepth 100000
namespace Go.Proofs.YtbgbidpecmepmaaGreatDoor
section
open Sy
open Go
theorem and_iJ {x y:Bool} (h:x=true) (k:y=true):(x && y)=true:=by rw [h,k]; rfl
theorem jf3J:joinedFacts Tryz.pinned.checked.prog 3 Tryz.f3 (OpenSpec.ofChange Rows.scriptOpsSpec).bare Rows.scriptOpsRow=true:=by
 unfold joinedFacts
 exact and_iJ (and_iJ (and_iJ (and_iJ (and_iJ (and_iJ (and_iJ (and_iJ (and_iJ (and_iJ (and_iJ (and_iJ (and_iJ (and_iJ (and_iJ (and_iJ (and_iJ (and_iJ (and_iJ (and_iJ (and_iJ (and_iJ (and_iJ (and_iJ (and_iJ (and_iJ (and_iJ (and_iJ (and_iJ (and_iJ (and_iJ (j3J_0) j3J_1) j3J_2) j3J_3) j3J_4) j3J_5) j3J_6) j3J_7) j3J_8) j3J_9) j3J_10) j3J_11) j3J_12) j3J_13) j3J_14) j3J_15) j3J_16) j3J_17) j3J_18) j3J_19) j3J_20) j3J_21) j3J_22) j3J_23) j3J_24) j3J_25) j3J_26) j3J_27) j3J_28) j3J_29) j3J_30) j3J_31
end
section
open Sy
open Go.ChangeShapes Go.WideShapes Go.ChangeAt Go.RowKit
theorem ni3:Tryz.checked.prog.inits.idxOf? 3=none:=by kernel_rfl
theorem w3_ok (os:Os):Input.okWideB Tryz.checked.prog ((startW os).forCall (fun _ _=>0) iv3) 3 iv3=true:=by kernel_rfl
theorem w3_sz (os:Os) {H:Type} (enc:TypeId × Value→H):(OpenSpec.ofChange Rows.scriptOpsSpec).bare.sizedB enc Tryz.prog Tryz.f3 false ((startW os).forCall (fun _ _=>0) iv3).memory iv3.args 8=true:=by kernel_rfl
theorem fn3:Tryz.pinned.checked.prog.funcNamed Rows.scriptOpsRow.func=some 3:=by kernel_rfl
theorem reads3 (os:Os) {H:Type} (enc:TypeId × Value→H):∃ places,DataW.whole enc Tryz.prog ((startW os).forCall (fun _ _=>0) ⟨#[],#[.slice none 0 0,.slice none 0 0],[]⟩).memory Tryz.f3.params.toList Rows.scriptOpsSpec.vars false #[Value.slice none 0 0,.slice none 0 0].toList 8=some ([.nil,.nil],[],places) :=
 ⟨[],by kernel_rfl⟩
theorem pre3 (os:Os) {H:Type} (enc:TypeId × Value→H):(OpenSpec.ofChange Rows.scriptOpsSpec).preRow enc Tryz.checked.prog Tryz.f3 Rows.scriptOpsRow.domain false Rows.scriptOpsRow.laid ((startW os).forCall (fun _ _=>0) ⟨#[],#[.slice none 0 0,.slice none 0 0],[]⟩).memory #[.slice none 0 0,.slice none 0 0]:=by
 obtain ⟨places,hx⟩:=reads3 os enc
 exact OpenSpec.preRow_of_cond 8 hx rfl (fun k hk=>by cases hk) (w3_sz os enc) (door_met os _)
theorem wit3 (os:Os) {H:Type} (enc:TypeId × Value→H):∃ (w:World) (tape:Tape) (i:Input),w.os=os∧(w.forCall tape i).Shaped Tryz.checked.prog∧i.vars=[]∧Input.okWide Tryz.checked.prog (w.forCall tape i) .any w.heap.size 3 i ∧
   (OpenSpec.ofChange Rows.scriptOpsSpec).preRow enc Tryz.checked.prog Tryz.f3 Rows.scriptOpsRow.domain false Rows.scriptOpsRow.laid (w.forCall tape i).memory i.args∧({ modest:=false }:Assume).holds Tryz.checked.prog (lone (Frame.enter Tryz.checked.prog 3 i.args .normal) [] (w.forCall tape i)) :=
 witness_row_atRef (enc:=enc) (C:=Tryz.checked) false (startW os) #[.slice none 0 0,.slice none 0 0] rfl (w3_v os) (w3_r os) (w3_ok os) (pre3 os enc)
set_option maxRecDepth 100000 in
theorem lifted3 (os:Os) (started:os.Started) (H:Type) (enc:TypeId × Value→H) (F:Stop.Interp) :
  ReturnsInHanded {} Tryz.checked os 3 .any ((OpenSpec.ofChange Rows.scriptOpsSpec).preRow enc Tryz.prog Tryz.f3 Rows.scriptOpsRow.domain false Rows.scriptOpsRow.laid) (((OpenSpec.ofChange Rows.scriptOpsSpec).at F).post enc Tryz.prog Tryz.f3 false true false false) :=
 returnsInHanded_of_row (C:=Tryz.checked) (s:=OpenSpec.ofChange Rows.scriptOpsSpec) own_ started ni3 Tryz.func3 (wit3 os enc) fun W base args ds gs before hval hW _ _ hz hL hS _=>contract3 H enc W base args ds gs before hval hW hz hL hS
theorem scriptOps_said:Rows.ScriptOpsSaid :=
 OpenClaim.holds_of_cond 3 Tryz.f3 rfl rfl rfl rfl rfl rfl rfl ⟨rfl,rfl,rfl,rfl,rfl⟩ rfl rfl rfl rfl rfl fn3 Tryz.func3 jf3J
  (of_decide_eq_true (by kernel_rfl)) (by unfold Func.isWrapper; first | (rw [if_pos (by decide +kernel)]; kernel_rfl) | (rw [if_neg (by decide +kernel)]; exact ⟨rfl,rfl⟩))
  (fun os started H enc _ F=>by rw [OpenClaim.pre_eq_preRow]; exact lifted3 os started H enc F)
end
end Go.Proofs.YtbgbidpecmepmaaGreatDoor
