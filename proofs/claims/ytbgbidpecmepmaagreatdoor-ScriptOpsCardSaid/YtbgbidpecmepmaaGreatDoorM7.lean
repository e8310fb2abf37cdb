/-
  Queues of jobs: rings.
-/
import Derived.Test.YtbgbidpecmepmaaGreatDoorM4
import Derived.Test.YtbgbidpecmepmaaGreatDoorM6
set_option maxRecDepth 100000
namespace Go.Proofs.YtbgbidpecmepmaaGreatDoor
section
open Sy
variable {K:Ko} {w:World}
def F376 (R:Ko) (x0:Int) (w:World):Prop:=Ifm (decide ((x0:Int)<1)) (R (.tuple #[.pointer none,.iface 129 (.int .i64 1)]) w) (Ifm (decide ((x0:Int) > 4096)) (R (.tuple #[.pointer none,.iface 129 (.int .i64 1)]) w) (New (.cells (.agg #[.slice none 0 0,.int .i64 0,.int .i64 0,.int .i64 x0]:Value).cells 539) w fun x13 w1=>R (.tuple #[.pointer (some x13),.nilIface]) w1))
noncomputable def b376:Code:=Tryz.f376.body.getD .skip
theorem c376 {R:Ko} {x0:Int} {w:World} (h:F376 R x0 w):Ct Tryz.prog 376 #[.int .i64 x0] w R :=
 ctS (args:=[.int .i64 x0]) (body:=b376) (n:=14) (rs:=[.tmp 2,.tmp 3]) Tryz.func376
  (sg (cuts:=[]) trivial h)
def F379 (R:Ko) (x0:Option Addr) (w:World):Prop:=Ifm x0.isNone (R (.int .i64 0) w) (onSome x0 fun x6=>Lc (x6.add 2) w fun v8=>onI v8 fun x8=>R (.int .i64 x8) w)
noncomputable def b379:Code:=Tryz.f379.body.getD .skip
theorem c379 {R:Ko} {x0:Option Addr} {w:World} (h:F379 R x0 w):Ct Tryz.prog 379 #[.pointer x0] w R :=
 ctS (args:=[.pointer x0]) (body:=b379) (n:=9) (rs:=[.tmp 2]) Tryz.func379
  (sg (cuts:=[]) trivial h)
def F395 (R:Ko) (x0:Option Addr) (w:World):Prop:=Ifm x0.isNone (R (.int .i64 0) w) (onSome x0 fun x6=>Lc (x6.add 3) w fun v8=>onI v8 fun x8=>R (.int .i64 x8) w)
noncomputable def b395:Code:=Tryz.f395.body.getD .skip
theorem c395 {R:Ko} {x0:Option Addr} {w:World} (h:F395 R x0 w):Ct Tryz.prog 395 #[.pointer x0] w R :=
 ctS (args:=[.pointer x0]) (body:=b395) (n:=9) (rs:=[.tmp 2]) Tryz.func395
  (sg (cuts:=[]) trivial h)
def F377 (R:Ko) (x0:Option Addr) (w:World):Prop:=Ct Tryz.prog 395 #[.pointer x0] w fun v4 w1=>onI v4 fun x4=>Ct Tryz.prog 379 #[.pointer x0] w1 fun v6 w2=>onI v6 fun x6=>R (.int .i64 (IntKind.i64.wrap (x4 - x6))) w2
noncomputable def b377:Code:=Tryz.f377.body.getD .skip
theorem c377 {R:Ko} {x0:Option Addr} {w:World} (h:F377 R x0 w):Ct Tryz.prog 377 #[.pointer x0] w R :=
 ctS (args:=[.pointer x0]) (body:=b377) (n:=8) (rs:=[.tmp 2]) Tryz.func377
  (sg (cuts:=[]) trivial h)
def F398 (R:Ko) (x0:Option Addr) (x1:Int) (w:World):Prop:=Ifm (!x0.isNone) (Ifm (decide ((x1:Int)≥0)) (onSome x0 fun x14=>Lc (x14.add 2) w fun v16=>onI v16 fun x16=>R (.bool (decide ((x1:Int)<x16))) w) (R (.bool false) w)) (R (.bool false) w)
noncomputable def b398:Code:=Tryz.f398.body.getD .skip
theorem c398 {R:Ko} {x0:Option Addr} {x1:Int} {w:World} (h:F398 R x0 x1 w):Ct Tryz.prog 398 #[.pointer x0,.int .i64 x1] w R :=
 ctS (args:=[.pointer x0,.int .i64 x1]) (body:=b398) (n:=19) (rs:=[.tmp 4]) Tryz.func398
  (sg (cuts:=[]) trivial h)
def F378 (R:Ko) (x0:Option Addr) (x1:Int) (w:World):Prop:=onSome x0 fun x6=>Lc (x6.add 1) w.drew fun v8=>onI v8 fun x8=>onSome x0 fun x12=>Lc (x12.add 0) w.drew fun v14=>onL v14 fun a14 l14 c14=>Rd Tryz.prog (Bin .rem 3 (.tmp 10) (.tmp 15) (.int .i64 (IntKind.i64.wrap (x8+x1))) (.int .i64 (l14:Nat))) w.drew fun v16=>onI v16 fun x16=>R (.int .i64 x16) w.drew
noncomputable def b378:Code:=Tryz.f378.body.getD .skip
theorem c378 {R:Ko} {x0:Option Addr} {x1:Int} {w:World} (h:F378 R x0 x1 w):Ct Tryz.prog 378 #[.pointer x0,.int .i64 x1] w R :=
 ctS (args:=[.pointer x0,.int .i64 x1]) (body:=b378) (n:=17) (rs:=[.tmp 4]) Tryz.func378
  (sg (cuts:=[]) trivial h)
def F338_0B (R:Ko) (C0:Option Addr→Option Addr→Nat→Nat→Int→Int→World→Prop) (x0:Option Addr) (a3:Option Addr) (l3 c3:Nat) (x6:Int) (x7:Int) (w:World):Prop:=Ifm (decide ((x7:Int)<x6)) (onSome x0 fun x12=>Lc (x12.add 0) w.drew fun v14=>onL v14 fun a14 l14 c14=>Ct Tryz.prog 378 #[.pointer x0,.int .i64 x7] w.drew fun v17 w2=>onI v17 fun x17=>Hc (x12.add 0) (.slice a14 l14 c14) w2∧Ix a14 l14 x17 4 fun x18=>La 4 x18 w2 fun x19=>Rv Tryz.prog (Instr.buildSlice 45 1 #[(0,.agg x19)]) w2 fun v20 w3=>onL v20 fun a20 l20 c20=>Rv Tryz.prog (Builtin.append_ #[45,45] 45 #[.slice a3 l3 c3,.slice a20 l20 c20]) w3 fun v21 w4=>onL v21 fun a21 l21 c21=>C0 x0 a21 l21 c21 x6 (IntKind.i64.wrap (x7+1)) w4) (R (.slice a3 l3 c3) w)
def F338_0 (R:Ko) (x0:Option Addr) (a3:Option Addr) (l3 c3:Nat) (x6:Int) (x7:Int) (w:World):Prop:=∃ (Inv:Option Addr→Option Addr→Nat→Nat→Int→Int→World→Prop) (μ:Option Addr→Option Addr→Nat→Nat→Int→Int→World→Nat),Inv x0 a3 l3 c3 x6 x7 w∧∀ x0 a3 l3 c3 x6 x7 w,Inv x0 a3 l3 c3 x6 x7 w→F338_0B R (fun x0' a3' l3' c3' x6' x7' w'=>Inv x0' a3' l3' c3' x6' x7' w'∧μ x0' a3' l3' c3' x6' x7' w'<μ x0 a3 l3 c3 x6 x7 w) x0 a3 l3 c3 x6 x7 w
def F338 (R:Ko) (x0:Option Addr) (w:World):Prop:=Ct Tryz.prog 379 #[.pointer x0] w fun v6 w1=>onI v6 fun x6=>F338_0 R x0 none 0 0 x6 0 w1
noncomputable def b338:Code:=Tryz.f338.body.getD .skip
def q338_0:List Bool:=[false,true,false,true,true]
def L338_0 (F:Option Addr→Option Addr→Nat→Nat→Int→Int→World→Prop):Env→World→Prop:=fun ρ w=>onP (ρ 0) fun x0=>onL (ρ 3) fun a3 l3 c3=>onI (ρ 6) fun x6=>onI (ρ 7) fun x7=>F x0 a3 l3 c3 x6 x7 w
abbrev T338 (z:Fr) (R:Ko) (p:List Bool) (ρ:Env) (w:World):Prop:=TW z Tryz.prog 24 (segTodo b338 p) (QR Tryz.prog [.tmp 2] R) ρ w
theorem s338_0 (R:Ko):∀ ρ w,(L338_0 (F338_0 R)) ρ w→T338 z0 R q338_0 ρ w:=by
 intro ρ w h
 obtain ⟨x0,e0,h⟩:=onP_of h
 obtain ⟨a3,l3,c3,e3,h⟩:=onL_of h
 obtain ⟨x6,e6,h⟩:=onI_of h
 obtain ⟨x7,e7,h⟩:=onI_of h
 obtain ⟨Inv,μ,hi,hb⟩:=h
 refine lpT (fun m=>L338_0 (fun x0 a3 l3 c3 x6 x7 w=>Inv x0 a3 l3 c3 x6 x7 w∧μ x0 a3 l3 c3 x6 x7 w=m)) ?_ (μ x0 a3 l3 c3 x6 x7 w) ρ w ?_
 ·intro m ρ w ih h
  obtain ⟨x0,e0,h⟩:=onP_of h
  obtain ⟨a3,l3,c3,e3,h⟩:=onL_of h
  obtain ⟨x6,e6,h⟩:=onI_of h
  obtain ⟨x7,e7,h⟩:=onI_of h
  obtain ⟨hv,hm⟩:=h
  subst hm
  have hh:=hb x0 a3 l3 c3 x6 x7 w hv
  obtain ⟨C0,hC⟩:∃ C,C=fun x0' a3' l3' c3' x6' x7' w'=>Inv x0' a3' l3' c3' x6' x7' w'∧μ x0' a3' l3' c3' x6' x7' w'<μ x0 a3 l3 c3 x6 x7 w:=⟨_,rfl⟩
  rw [← hC] at hh
  have h0:∀ ρ w,(L338_0 C0) ρ w→T338 z0 R q338_0 ρ w:=by
   intro ρ' w' h'
   refine ih ρ' w' ?_
   obtain ⟨x0',e0',h'⟩:=onP_of h'
   obtain ⟨a3',l3',c3',e3',h'⟩:=onL_of h'
   obtain ⟨x6',e6',h'⟩:=onI_of h'
   obtain ⟨x7',e7',h'⟩:=onI_of h'
   rw [hC] at h'
   refine ⟨_,h'.2,?_⟩
   simp only [e0',e3',e6',e7',L338_0,ons]
   exact ⟨h'.1,by trivial⟩
  rw [← upds_same (ρ:=ρ) [(0,.pointer x0),(3,.slice a3 l3 c3),(6,.int .i64 x6),(7,.int .i64 x7)] (alc e0 (alc e3 (alc e6 (alc e7 aln))))]
  exact sg (cuts:=[(q338_0,L338_0 C0)]) ⟨h0,trivial⟩ hh
 ·simp only [e0,e3,e6,e7,L338_0,ons]
  exact ⟨hi,by trivial⟩
theorem c338 {R:Ko} {x0:Option Addr} {w:World} (h:F338 R x0 w):Ct Tryz.prog 338 #[.pointer x0] w R :=
 ctS (args:=[.pointer x0]) (body:=b338) (n:=24) (rs:=[.tmp 2]) Tryz.func338
  (sg (cuts:=[(q338_0,L338_0 (F338_0 R))]) ⟨s338_0 R,trivial⟩ h)
def F337_0 (R:Ko) (x0:Option Addr) (x3:Addr) (w:World):Prop:=onSome x0 fun x44=>Lc (x44.add 0) w.drew fun v46=>onL v46 fun a46 l46 c46=>onSome x0 fun x49=>Lc (x49.add 2) w.drew fun v51=>onI v51 fun x51=>La 4 x3 w.drew fun x53=>Ct Tryz.prog 378 #[.pointer x0,.int .i64 x51] w.drew fun v52 w8=>onI v52 fun x52=>Ha 4 x3 x53 w8∧Hc (x44.add 0) (.slice a46 l46 c46) w8∧Ix a46 l46 x52 4 fun x54=>Sa 4 x54 x53 w8 fun w9=>onSome x0 fun x56=>Lc (x56.add 2) w9 fun v58=>onI v58 fun x58=>onSome x0 fun x60=>Sc (x60.add 2) (.int .i64 (IntKind.i64.wrap (x58+1))) w9 fun w10=>R (.nilIface) w10
def F337 (R:Ko) (x0:Option Addr) (x1:Array Value) (w:World):Prop:=New (.cells (.agg x1:Value).cells 37) w fun x3 w1=>Ct Tryz.prog 377 #[.pointer x0] w1 fun v7 w2=>onI v7 fun x7=>Ifm ((x7:Int) == 0) (R (.iface 129 (.int .i64 40)) w2) (onSome x0 fun x11=>Lc (x11.add 2) w2.drew fun v13=>onI v13 fun x13=>onSome x0 fun x15=>Lc (x15.add 0) w2.drew fun v17=>onL v17 fun a17 l17 c17=>Ifm ((x13:Int) == (l17:Nat)) (onSome x0 fun x21=>Lc (x21.add 3) w2.drew.drew fun v23=>onI v23 fun x23=>onSome x0 fun x25=>Lc (x25.add 2) w2.drew.drew fun v27=>onI v27 fun x27=>Rd Tryz.prog (Builtin.min_ #[3,3] 3 #[.int .i64 x23,.int .i64 (IntKind.i64.wrap ((IntKind.i64.wrap (2*x27))+1))]) w2.drew.drew fun v30=>onI v30 fun x30=>Rv Tryz.prog (Instr.makeSlice 45 (.int .i64 x30) (.int .i64 x30)) w2.drew.drew fun v31 w3=>onL v31 fun a31 l31 c31=>Ct Tryz.prog 338 #[.pointer x0] w3 fun v34 w4=>onL v34 fun a34 l34 c34=>Rv Tryz.prog (Builtin.copy_ #[45,45] 3 #[.slice a31 l31 c31,.slice a34 l34 c34]) w4 fun v35 w5=>onI v35 fun x35=>onSome x0 fun x39=>Sc (x39.add 0) (.slice a31 l31 c31) w5 fun w6=>onSome x0 fun x41=>Sc (x41.add 1) (.int .i64 0) w6 fun w7=>F337_0 R x0 x3 w7) (F337_0 R x0 x3 w2.drew))
noncomputable def b337:Code:=Tryz.f337.body.getD .skip
def q337_0:List Bool:=[false,true,true,true]
def L337_0 (F:Option Addr→Addr→World→Prop):Env→World→Prop:=fun ρ w=>onP (ρ 0) fun x0=>onA (ρ 3) fun x3=>F x0 x3 w
abbrev T337 (z:Fr) (R:Ko) (p:List Bool) (ρ:Env) (w:World):Prop:=TW z Tryz.prog 62 (segTodo b337 p) (QR Tryz.prog [.tmp 4] R) ρ w
theorem s337_0 (R:Ko):∀ ρ w,(L337_0 (F337_0 R)) ρ w→T337 z0 R q337_0 ρ w:=by
 intro ρ w h
 obtain ⟨x0,e0,h⟩:=onP_of h
 obtain ⟨x3,e3,h⟩:=onA_of h
 rw [← upds_same (ρ:=ρ) [(0,.pointer x0),(3,.pointer (some x3))] (alc e0 (alc e3 aln))]
 exact sg (cuts:=[]) trivial h
theorem c337 {R:Ko} {x0:Option Addr} {x1:Array Value} {w:World} (h:F337 R x0 x1 w):Ct Tryz.prog 337 #[.pointer x0,.agg x1] w R :=
 ctS (args:=[.pointer x0,.agg x1]) (body:=b337) (n:=62) (rs:=[.tmp 4]) Tryz.func337
  (sg (cuts:=[(q337_0,L337_0 (F337_0 R))]) ⟨s337_0 R,trivial⟩ h)
def F397 (R:Ko) (x0:Option Addr) (x1:Int) (w:World):Prop:=New (.cells (.agg #[.int .i64 0,.int .i64 0,.int .i64 0,.int .i64 0]:Value).cells 37) w fun x4 w1=>New (.cells (.agg #[.int .i64 0,.int .i64 0,.int .i64 0,.int .i64 0]:Value).cells 37) w1 fun x6 w2=>Ct Tryz.prog 398 #[.pointer x0,.int .i64 x1] w2 fun v9 w3=>onB v9 fun x9=>Ifm (!x9) (La 4 x6 w3 fun x11=>Sa 4 x4 x11 w3 fun w4=>Rd Tryz.prog (Instr.loadAt 37 (.pointer (some x4))) w4 fun r0=>R (.tuple #[r0,.bool false]) w4) (onSome x0 fun x13=>Lc (x13.add 0) w3.drew fun v15=>onL v15 fun a15 l15 c15=>Ct Tryz.prog 378 #[.pointer x0,.int .i64 x1] w3.drew fun v18 w5=>onI v18 fun x18=>Hc (x13.add 0) (.slice a15 l15 c15) w5∧Ix a15 l15 x18 4 fun x19=>La 4 x19 w5 fun x20=>Sa 4 x4 x20 w5 fun w6=>Rd Tryz.prog (Instr.loadAt 37 (.pointer (some x4))) w6 fun r0=>R (.tuple #[r0,.bool true]) w6)
noncomputable def b397:Code:=Tryz.f397.body.getD .skip
theorem c397 {R:Ko} {x0:Option Addr} {x1:Int} {w:World} (h:F397 R x0 x1 w):Ct Tryz.prog 397 #[.pointer x0,.int .i64 x1] w R :=
 ctS (args:=[.pointer x0,.int .i64 x1]) (body:=b397) (n:=21) (rs:=[.cell 4 37,.tmp 5]) Tryz.func397
  (sg (cuts:=[]) trivial h)
def F384 (R:Ko) (x0:Option Addr) (w:World):Prop:=New (.cells (.agg #[.int .i64 0,.int .i64 0,.int .i64 0,.int .i64 0]:Value).cells 37) w fun x2 w1=>Ct Tryz.prog 397 #[.pointer x0,.int .i64 0] w1 fun v5 w2=>on2 v5 fun y5_0 y5_1=>onG y5_0 fun x5_0=>onB y5_1 fun x5_1=>Sa 4 x2 x5_0 w2 fun w3=>Rd Tryz.prog (Instr.loadAt 37 (.pointer (some x2))) w3 fun r0=>R (.tuple #[r0,.bool x5_1]) w3
noncomputable def b384:Code:=Tryz.f384.body.getD .skip
theorem c384 {R:Ko} {x0:Option Addr} {w:World} (h:F384 R x0 w):Ct Tryz.prog 384 #[.pointer x0] w R :=
 ctS (args:=[.pointer x0]) (body:=b384) (n:=8) (rs:=[.cell 2 37,.tmp 3]) Tryz.func384
  (sg (cuts:=[]) trivial h)
def F385 (R:Ko) (x0:Option Addr) (x1:Int) (x2:Array Value) (w:World):Prop:=New (.cells (.agg x2:Value).cells 37) w fun x5 w1=>Ct Tryz.prog 398 #[.pointer x0,.int .i64 x1] w1 fun v9 w2=>onB v9 fun x9=>Ifm (!x9) (R (.iface 129 (.int .i64 50)) w2) (onSome x0 fun x13=>Lc (x13.add 0) w2.drew fun v15=>onL v15 fun a15 l15 c15=>La 4 x5 w2.drew fun x19=>Ct Tryz.prog 378 #[.pointer x0,.int .i64 x1] w2.drew fun v18 w3=>onI v18 fun x18=>Ha 4 x5 x19 w3∧Hc (x13.add 0) (.slice a15 l15 c15) w3∧Ix a15 l15 x18 4 fun x20=>Sa 4 x20 x19 w3 fun w4=>R (.nilIface) w4)
noncomputable def b385:Code:=Tryz.f385.body.getD .skip
theorem c385 {R:Ko} {x0:Option Addr} {x1:Int} {x2:Array Value} {w:World} (h:F385 R x0 x1 x2 w):Ct Tryz.prog 385 #[.pointer x0,.int .i64 x1,.agg x2] w R :=
 ctS (args:=[.pointer x0,.int .i64 x1,.agg x2]) (body:=b385) (n:=21) (rs:=[.tmp 6]) Tryz.func385
  (sg (cuts:=[]) trivial h)
def F386 (R:Ko) (x0:Option Addr) (w:World):Prop:=New (.cells (.agg #[.int .i64 0,.int .i64 0,.int .i64 0,.int .i64 0]:Value).cells 37) w fun x2 w1=>New (.cells (.agg #[.int .i64 0,.int .i64 0,.int .i64 0,.int .i64 0]:Value).cells 37) w1 fun x4 w2=>Ct Tryz.prog 398 #[.pointer x0,.int .i64 0] w2 fun v7 w3=>onB v7 fun x7=>Ifm (!x7) (La 4 x4 w3 fun x9=>Sa 4 x2 x9 w3 fun w4=>Rd Tryz.prog (Instr.loadAt 37 (.pointer (some x2))) w4 fun r0=>R (.tuple #[r0,.iface 129 (.int .i64 50)]) w4) (onSome x0 fun x12=>Lc (x12.add 0) w3.drew fun v14=>onL v14 fun a14 l14 c14=>onSome x0 fun x16=>Lc (x16.add 1) w3.drew fun v18=>onI v18 fun x18=>Ix a14 l14 x18 4 fun x19=>La 4 x19 w3.drew fun x20=>New (.cells (.agg #[.int .i64 0,.int .i64 0,.int .i64 0,.int .i64 0]:Value).cells 37) w3.drew fun x5 w5=>Ha 4 x19 x20 w5∧Hc (x16.add 1) (.int .i64 x18) w5∧Hc (x12.add 0) (.slice a14 l14 c14) w5∧Sa 4 x5 x20 w5 fun w6=>onSome x0 fun x22=>Lc (x22.add 0) w6.drew fun v24=>onL v24 fun a24 l24 c24=>onSome x0 fun x26=>Lc (x26.add 1) w6.drew fun v28=>onI v28 fun x28=>La 4 x4 w6.drew fun x29=>Ix a24 l24 x28 4 fun x30=>Sa 4 x30 x29 w6.drew fun w7=>Ct Tryz.prog 378 #[.pointer x0,.int .i64 1] w7 fun v33 w8=>onI v33 fun x33=>onSome x0 fun x34=>Sc (x34.add 1) (.int .i64 x33) w8 fun w9=>onSome x0 fun x37=>Lc (x37.add 2) w9 fun v39=>onI v39 fun x39=>onSome x0 fun x41=>Sc (x41.add 2) (.int .i64 (IntKind.i64.wrap (x39 - 1))) w9 fun w10=>La 4 x5 w10 fun x43=>Sa 4 x2 x43 w10 fun w11=>Rd Tryz.prog (Instr.loadAt 37 (.pointer (some x2))) w11 fun r0=>R (.tuple #[r0,.nilIface]) w11)
noncomputable def b386:Code:=Tryz.f386.body.getD .skip
theorem c386 {R:Ko} {x0:Option Addr} {w:World} (h:F386 R x0 w):Ct Tryz.prog 386 #[.pointer x0] w R :=
 ctS (args:=[.pointer x0]) (body:=b386) (n:=44) (rs:=[.cell 2 37,.tmp 3]) Tryz.func386
  (sg (cuts:=[]) trivial h)
structure Jb where
 n:Int
 c:Int
 a:Int
 d:Int
def Jb.cells (j:Jb):List Value:=[I j.n,I j.c,I j.a,I j.d]
def zJ:Jb:=⟨0,0,0,0⟩
theorem Jb.len (j:Jb):j.cells.length=4:=rfl
theorem Jb.one (j:Jb):∀ v∈j.cells,oneCell v=true:=by simp [Jb.cells,oneCell]
def jobC (js:List Jb) (i:Nat):List Value:=(js.getD i zJ).cells
theorem jobC_one (js:List Jb) (i:Nat):∀ v∈(jobC js i).toArray.toList,oneCell v=true:=Jb.one _
def cellsJ (js:List Jb):List Value:=Flat (jobC js) js.length
theorem jobC_len (js:List Jb):∀ i,(jobC js i).length=4:=fun _=>rfl
theorem cellsJ_len (js:List Jb):(cellsJ js).length=js.length*4:=Flat_length (jobC_len js)
theorem cellsJ_push (js:List Jb) (j:Jb):cellsJ (js++[j])=cellsJ js++j.cells:=by
 unfold cellsJ
 rw [List.length_append,List.length_singleton,Flat_succ]
 congr 1
 ·refine Flat_congr fun i hi=>?_
  simp [jobC,List.getElem?_append_left hi]
 ·simp [jobC]
theorem one_flat {f:Nat→List Value} (h:∀ i,∀ v∈f i,oneCell v=true) (n:Nat):∀ v∈Flat f n,oneCell v=true:=by
 intro v hv
 unfold Flat at hv
 rw [List.mem_flatMap] at hv
 obtain ⟨i,_,hv⟩:=hv
 exact h i v hv
theorem e45:∃ i z,Elem Tryz.prog 45 37 4 i z∧(∀ n,(madeCells z.cells (n*4)).toList=Flat (fun _=>zJ.cells) n):=by
 obtain ⟨i,z,E⟩:=elemB_of (P:=Tryz.prog) (t:=45) (e:=37) (sz:=4) (by kernel_rfl)
 refine ⟨i,z,E,fun n=>?_⟩
 have hz:i.zero=some (.agg zJ.cells.toArray):=by
  have h1:(Tryz.prog.info? 37).bind (·.zero)=some (.agg zJ.cells.toArray):=by kernel_rfl
  rw [E.hi] at h1; exact h1
 have:=E.hz
 rw [hz] at this
 injection this with this
 subst this
 refine Flat_ext (g:=fun _=>zJ.cells) (n:=n) (sz:=4) (fun _=>rfl) (by decide) (by simp [size_madeCells]) ?_
 intro q r hq hr
 have hlt:q*4+r<n*4:=lt_mul_of hq hr
 have hm:(q*4+r) % 4=r:=by omega
 simp only [madeCells,Array.toList_map,List.getElem?_map,Array.toList_range,List.getElem?_range hlt,Option.map_some,agg_cells]
 have h4:zJ.cells.toArray.size=4:=rfl
 rw [h4,hm]
 match r,hr with
 | 0,_=>rfl
 | 1,_=>rfl
 | 2,_=>rfl
 | 3,_=>rfl
theorem ld37:loadKind Tryz.prog 37=some (some 4):=by kernel_rfl
structure QAt (w:World) (B q:Nat) (a:Option Addr) (l c fi:Nat) (f:Nat→List Value) (js:List Jb):Prop where
 hd:Bk w q [.slice a l c,I fi,I js.length,I 8] 539
 hB:B≤q
 ring:w.ownsRow B 37 4 (.slice a l c) l (Flat f l)
 fl:∀ i,(f i).length=4
 fo:∀ i,∀ v∈f i,oneCell v=true
 fb:fi=0∨fi<l
 l8:l≤8
 many:js.length≤l
 el:∀ i,i<js.length→f ((fi+i) % l)=jobC js i
def QA (w:World) (B q:Nat) (a:Option Addr) (js:List Jb):Prop:=∃ l c fi f,QAt w B q a l c fi f js
def inQ (q:Nat) (a:Option Addr) (b:Nat):Prop:=b=q∨∃ x,a=some x∧b=x.block
section
variable {B q l c fi:Nat} {a:Option Addr} {f:Nat→List Value} {js:List Jb}
theorem QAt.kp {S:Nat→Prop} {w':World} (h:QAt w B q a l c fi f js) (k:Kp S w w') (hs:∀ b,inQ q a b→¬ S b):QAt w' B q a l c fi f js :=
 ⟨k.bk h.hd (hs _ (.inl rfl)),h.hB,own_kp h.ring k (fun b hb=>hs b (.inr (by
  cases a with
  | none=>cases hb
  | some x=>injection hb with hb; exact ⟨x,rfl,hb.symm⟩))),h.fl,h.fo,h.fb,h.l8,h.many,h.el⟩
theorem QAt.dr (h:QAt w B q a l c fi f js) (d:Nat):QAt (dr w d) B q a l c fi f js:=⟨h.hd,h.hB,h.ring,h.fl,h.fo,h.fb,h.l8,h.many,h.el⟩
theorem QAt.ne (h:QAt w B q a l c fi f js) {g:Nat} (hg:a=some ⟨g,0,none⟩):q≠g:=by
 subst hg
 have hl:∃ l',l'=l:=⟨l,rfl⟩
 rcases own_bk h.ring with ⟨h',_⟩ | ⟨g',cur,hg',_,_,hb,_⟩
 ·cases h'
 ·simp only [Option.some.injEq,Addr.mk.injEq,and_true] at hg'
  subst hg'
  exact ne_of_bk h.hd hb fun x=>by injection x with _ x; simp at x
theorem QAt.nz (h:QAt w B q a l c fi f js) (hl:0<l):∃ g,a=some ⟨g,0,none⟩∧B≤g∧g<w.heap.size:=by
 rcases own_bk h.ring with ⟨_,h',_⟩ | ⟨g,cur,rfl,_,hBg,hb,_⟩
 ·omega
 ·exact ⟨g,rfl,hBg,hb.lt⟩
theorem QA_base {B B' q:Nat} {a:Option Addr} {js:List Jb} (h:QA w B q a js) (hB:B'≤B):QA w B' q a js:=by
 obtain ⟨l,c,fi,f,h⟩:=h
 exact ⟨l,c,fi,f,h.hd,Nat.le_trans hB h.hB,own_base h.ring hB,h.fl,h.fo,h.fb,h.l8,h.many,h.el⟩
theorem QAt.inlt (h:QAt w B q a l c fi f js) (b:Nat) (hb:inQ q a b):b<w.heap.size:=by
 rcases hb with rfl | ⟨x,rfl,rfl⟩
 ·exact h.hd.lt
 ·rcases own_bk h.ring with ⟨h',_⟩ | ⟨g,cur,hg,_,_,hb,_⟩
  ·cases h'
  ·injection hg with hg; subst hg; exact hb.lt
theorem over_flat (js:List Jb) (n:Nat) (h:js.length≤n):∃ f':Nat→List Value,over (Flat (fun _=>zJ.cells) n) 0 (cellsJ js)=Flat f' n∧(∀ i,(f' i).length=4)∧(∀ i,∀ v∈f' i,oneCell v=true)∧∀ i,i<js.length→f' i=jobC js i:=by
 refine ⟨fun i=>if i<js.length then jobC js i else zJ.cells,?_,fun i=>?_,fun i=>?_,fun i hi=>by simp [hi]⟩
 ·refine Flat_ext (sz:=4) (fun i=>by split <;> rfl) (by decide) (by rw [over_length,Flat_length (sz:=4) fun _=>rfl]) fun i r hi hr=>?_
  rw [over_get,cellsJ_len,Nat.sub_zero]
  by_cases e:i<js.length
  ·rw [if_pos e,if_pos ⟨Nat.zero_le _,by have:=lt_mul_of (n:=js.length) e hr; omega,by rw [Flat_length (sz:=4) fun _=>rfl]; exact lt_mul_of hi hr⟩]
   exact Flat_get (jobC_len js) e hr
  ·rw [if_neg e,if_neg (by omega)]
   exact Flat_get (f:=fun _=>zJ.cells) (sz:=4) (fun _=>rfl) hi hr
 ·dsimp only; split <;> rfl
 ·dsimp only; split <;> exact Jb.one _
theorem k376 (h:∀ w',Kp No w w'→QA w' w.heap.size w.heap.size none []→K (.tuple #[Pt w.heap.size 0,.nilIface]) w'):Ct Tryz.prog 376 #[I 8] w K:=by
 refine c376 ?_
 unfold F376
 simp only [SS,New_eq]
 rw [if_neg (by omega),if_neg (by omega)]
 refine h _ (Kp.alloc _ _ _) ⟨0,0,0,fun _=>zJ.cells,bk_alloc _ _ _,Nat.le_refl _,?_,fun _=>rfl,fun _=>zJ.one,.inl rfl,by omega,by simp,by simp⟩
 exact World.ownsRow_nil _ _ _ _
theorem k379 (hq:QAt w B q a l c fi f js) (h:K (I js.length) w):Ct Tryz.prog 379 #[Pt q 0] w K:=by
 refine c379 ?_
 unfold F379
 simp only [SS,New_eq,hq.hd.rd (o:=2) (v:=I js.length) rfl]
 exact h
theorem k395 (hq:QAt w B q a l c fi f js) (h:K (I 8) w):Ct Tryz.prog 395 #[Pt q 0] w K:=by
 refine c395 ?_
 unfold F395
 simp only [SS,New_eq,hq.hd.rd (o:=3) (v:=I 8) rfl]
 exact h
theorem k377 (hq:QAt w B q a l c fi f js) (h:K (I (8 - js.length:Int)) w):Ct Tryz.prog 377 #[Pt q 0] w K:=by
 refine c377 ?_
 unfold F377
 refine k395 hq ?_
 simp only [SS,New_eq]
 refine k379 hq ?_
 simp only [SS,New_eq]
 have:=hq.many; have:=hq.l8
 rw [show IntKind.i64.wrap (8 - (js.length:Int))=8 - js.length by rw [IntKind.wrap_i64]; omega]
 exact h
theorem k398 (hq:QAt w B q a l c fi f js) {i:Nat} (h:K (.bool (decide (i<js.length))) w):Ct Tryz.prog 398 #[Pt q 0,I i] w K:=by
 refine c398 ?_
 unfold F398
 simp only [SS,New_eq,hq.hd.rd (o:=2) (v:=I js.length) rfl]
 rw [if_pos (by omega)]
 simpa using h
theorem k378' {m x:Value} (hd:Bk w q [.slice a l c,I fi,m,x] 539) {i:Nat} (hl:0<l) (hf:fi≤16) (hi:i≤16) (h:∀ d,K (I ((fi+i) % l:Nat)) (dr w d)):Ct Tryz.prog 378 #[Pt q 0,I i] w K:=by
 refine c378 ?_
 unfold F378
 simp only [SS,New_eq,hd.rd (o:=1) (v:=I fi) rfl,hd.rd (o:=0) (v:=.slice a l c) rfl]
 rw [show IntKind.i64.wrap ((fi:Int)+i)=((fi+i:Nat):Int) by rw [IntKind.wrap_i64]; omega,rem_c (by omega)]
 simp only [SS,New_eq]
 rw [show ((fi+i:Nat):Int).tmod (l:Int)=((fi+i) % l:Nat) by rw [Int.tmod_eq_emod_of_nonneg (by omega)]; exact (Int.natCast_emod _ _).symm]
 exact h _
theorem k378 (hq:QAt w B q a l c fi f js) {i:Nat} (hl:0<l) (hi:i≤16) (h:∀ d,K (I ((fi+i) % l:Nat)) (dr w d)):Ct Tryz.prog 378 #[Pt q 0,I i] w K :=
 k378' hq.hd hl (by have:=hq.fb; have:=hq.l8; omega) hi h
theorem k338 (hq:QAt w B q a l c fi f js) (h:∀ a' l' c' w',Kp No w w'→w'.ownsRow w.heap.size 37 4 (.slice a' l' c') js.length (cellsJ js)→l'=js.length→K (.slice a' l' c') w'):Ct Tryz.prog 338 #[Pt q 0] w K:=by
 refine c338 ?_
 unfold F338
 refine k379 hq ?_
 simp only [SS,New_eq]
 unfold F338_0
 obtain ⟨i45,z45,E45,_⟩:=e45
 refine ⟨fun y0 a3 l3 c3 x6 x7 w'=>y0=some ⟨q,0,none⟩∧x6=js.length∧Kp No w w'∧∃ i:Nat,x7=i∧i≤js.length∧w'.ownsRow w.heap.size 37 4 (.slice a3 l3 c3) i (Flat (jobC js) i)∧l3=i,
  fun _ _ _ _ _ x7 _=>js.length - x7.toNat,⟨rfl,rfl,Kp.refl _ _,0,rfl,Nat.zero_le _,World.ownsRow_nil _ _ _ _,rfl⟩,?_⟩
 rintro _ a3 l3 c3 _ _ w' ⟨rfl,rfl,hk,i,rfl,hi,ho,rfl⟩
 unfold F338_0B
 have hq':=hq.kp hk fun _ _=>id
 simp only [SS,New_eq,hq'.hd.rd (o:=0) (v:=.slice a l c) rfl]
 by_cases e1:l3<js.length
 case neg =>
  rw [if_neg (by omega)]
  have:l3=js.length:=by omega
  exact h _ _ _ _ hk (by rw [← this]; exact (by rw [this]; rfl:Flat (jobC js) l3=cellsJ js) ▸ ho) this
 rw [if_pos (by omega)]
 have hm:=hq.many; have h8:=hq.l8
 have hl:0<l:=by omega
 refine k378 (hq'.dr _) hl (by omega) fun d=>?_
 obtain ⟨g,rfl,hBg,hgs⟩:=hq'.nz hl
 have hmod:(fi+l3) % l<l:=Nat.mod_lt _ hl
 have la:=own_la hq'.ring (o:=((fi+l3) % l)*4) (m:=4) (by omega)
 have hp:=Flat_part hq.fl (j:=0) (m:=4) hmod (by omega)
 rw [Nat.add_zero] at hp
 rw [hp,hq.el l3 e1,List.drop_zero,List.take_of_length_le (by simp [jobC_len])] at la
 simp only [SS,New_eq,hq'.hd.hc (o:=0) (v:=.slice (some ⟨g,0,none⟩) l c) rfl,Ix_c hmod,la]
 refine app1 E45 (own_dr (d:=d) ho) (by have:=hk.size; show w.heap.size≤w'.heap.size; omega) (by omega) rfl (fun u hu=>by rw [← one_iff]; exact Jb.one _ u hu) fun g' c' w3 hg ho3 hk3=>?_
 have hw:IntKind.i64.wrap ((l3:Int)+1)=((l3+1:Nat):Int):=by rw [IntKind.wrap_i64]; omega
 refine ⟨⟨?_,l3+1,hw,by omega,?_,rfl⟩,?_⟩
 ·exact (hk.drR d).step hk3 fun b hb hs=>by have:=(own_lt ho hs).1; omega
 ·rw [Flat_succ]; exact ho3
 ·rw [hw]; simp only [Int.toNat_natCast]; omega
theorem zJ_eq:(#[.int .i64 0,.int .i64 0,.int .i64 0,.int .i64 0]:Array Value)=zJ.cells.toArray:=rfl
theorem ha_of_la {n:Nat} {a:Addr} {cs:Array Value} (h:∀ k:Array Value→Prop,La n a w k=k cs):Ha n a cs w:=by
 have h1:La n a w (fun x=>x=cs):=by rw [h]
 obtain ⟨x,hx,rfl⟩:=La_of h1
 exact hx
theorem mod_ne {x i j l:Nat} (h:i<j) (hl:j - i<l):(x+i) % l≠(x+j) % l:=by
 intro e
 have h1:=Nat.sub_mod_eq_zero_of_mod_eq e.symm
 rw [show x+j - (x+i)=j - i by omega,Nat.mod_eq_of_lt hl] at h1
 omega
theorem cast_succ (n:Nat) (h:n<1000000):IntKind.i64.wrap ((n:Int)+1)=((n+1:Nat):Int):=by rw [IntKind.wrap_i64]; omega
theorem p337 (hq:QAt w B q a l c fi f js) (hl:js.length<l) {x:Nat} {j:Jb} (hx:Bk w x j.cells 37) (hxr:a≠some ⟨x,0,none⟩) (h:∀ w',Kp (inQ q a) w w'→QA w' B q a (js++[j])→K .nilIface w'):F337_0 K (some ⟨q,0,none⟩) ⟨x,0,none⟩ w:=by
 unfold F337_0
 have hl0:0<l:=by omega
 have h8:=hq.l8
 obtain ⟨g,rfl,hBg,hgs⟩:=hq.nz hl0
 have hqg:q≠g:=hq.ne rfl
 have hqx:q≠x:=ne_of_bk hq.hd hx fun e=>by injection e with _ e; simp at e
 simp only [SS,New_eq,hq.hd.rd (o:=0) (v:=.slice (some ⟨g,0,none⟩) l c) rfl,hq.hd.rd (o:=2) (v:=I js.length) rfl,hx.la0 (n:=4) rfl]
 refine k378 (hq.dr _) hl0 (by omega) fun d=>?_
 have hmod:(fi+js.length) % l<l:=Nat.mod_lt _ hl0
 obtain ⟨p,hp⟩:∃ p,p=(fi+js.length) % l:=⟨_,rfl⟩
 rw [← hp] at hmod ⊢
 have sa:=own_sa hq.ring (o:=p*4) (m:=4) j.cells.toArray rfl (by omega) j.one
 simp only [SS,New_eq,hx.ha0 (n:=4) rfl,hq.hd.hc (o:=0) (v:=.slice (some ⟨g,0,none⟩) l c) rfl,Ix_c hmod,sa]
 have hr2:=own_setCs hq.ring (o:=p*4) j.cells (by simp [Jb.cells]; omega)
 have hov:=Flat_over hq.fl (j:=0) hmod j.cells (by simp [Jb.cells])
 rw [Nat.add_zero] at hov
 have hfp:over (f p) 0 j.cells=j.cells:=by
  have:=hq.fl p
  match hfp:f p,this with
  | [_,_,_,_],_=>simp [over,Jb.cells]
 rw [hov,hfp] at hr2
 have hd2:Bk (setCs w g (p*4) j.cells) q [.slice (some ⟨g,0,none⟩) l c,I fi,I js.length,I 8] 539:=by rw [Bk,heap_setCs _ _ hqg]; exact hq.hd
 have hk2:Kp (inQ q (some ⟨g,0,none⟩)) w (setCs w g (p*4) j.cells):=Kp.setCs _ _ _ _ fun _=>.inr ⟨_,rfl,rfl⟩
 obtain ⟨w2,hw2⟩:∃ y,y=setCs w g (p*4) j.cells:=⟨_,rfl⟩
 rw [← hw2] at hr2 hd2 hk2 ⊢
 simp only [SS,New_eq,hd2.rd (o:=2) (v:=I js.length) rfl]
 rw [hd2.st (by simp) _ rfl,cast_succ _ (by omega)]
 have hd3:=hd2.set 2 (I (js.length+1:Nat))
 have hk3:Kp (inQ q (some ⟨g,0,none⟩)) w2 (w2.setCell ⟨q,2,none⟩ (I (js.length+1:Nat))):=Kp.set _ _ _ fun _=>.inl rfl
 refine h _ ((hk2.trans hk3).drR d) ⟨l,c,fi,upd1 f p j.cells,?_⟩
 refine QAt.dr ⟨by simpa using hd3,hq.hB,?_,len_upd hq.fl rfl,?_,hq.fb,h8,by simp; omega,?_⟩ d
 ·exact own_kp hr2 (Kp.set (·=q) w2 _ fun _=>rfl) fun b hb e=>by injection hb with hb; exact hqg (e.symm.trans hb.symm)
 ·intro i
  by_cases e:i=p
  ·rw [e,upd1_same]; exact j.one
  ·rw [upd1_ne _ _ e]; exact hq.fo i
 ·intro i hi
  rw [List.length_append,List.length_singleton] at hi
  rcases Nat.lt_or_ge i js.length with h' | h'
  ·rw [upd1_ne _ _ (by rw [hp]; exact mod_ne h' (by omega)),hq.el i h']
   simp [jobC,List.getElem?_append_left h']
  ·have:i=js.length:=by omega
   subst this
   rw [← hp,upd1_same]
   simp [jobC]
theorem k337 (hq:QAt w B q a l c fi f js) (j:Jb) (h0:js.length=8→∀ w',Kp No w w'→K (Er 40) w') (h1:js.length<8→∀ a' w',Kp (inQ q a) w w'→QA w' B q a' (js++[j])→K .nilIface w') :
  Ct Tryz.prog 337 #[Pt q 0,.agg j.cells.toArray] w K:=by
 refine c337 ?_
 unfold F337
 have hqs:=hq.hd.lt
 have hax:a≠some ⟨w.heap.size,0,none⟩:=by
  intro e
  rcases Nat.eq_zero_or_pos l with h | h
  ·subst h
   rcases own_bk hq.ring with ⟨h',_⟩ | ⟨g,cur,hg,_,_,hb,_⟩
   ·rw [h'] at e; cases e
   ·have:=hb.lt; rw [hg] at e; injection e with e; injection e with e; omega
  ·obtain ⟨g,hg,_,hgs⟩:=hq.nz h
   rw [hg] at e; injection e with e; injection e with e; omega
 have hB:=bk_alloc w j.cells 37
 have hk1:=Kp.alloc No w (.cells j.cells.toArray 37)
 have hs1:(w.alloc (.cells j.cells.toArray 37)).heap.size=w.heap.size+1:=by simp
 simp only [New_eq,agg_cells]
 obtain ⟨w1,hw1⟩:∃ y,y=w.alloc (.cells j.cells.toArray 37):=⟨_,rfl⟩
 rw [← hw1] at hB hk1 hs1 ⊢
 have hq1:=hq.kp hk1 fun _ _=>id
 have hm:=hq.many; have h8:=hq.l8
 refine k377 hq1 ?_
 simp only [SS,New_eq]
 by_cases e8:js.length=8
 ·rw [if_pos (by omega)]; exact h0 e8 _ hk1
 rw [if_neg (by omega)]
 simp only [SS,New_eq,hq1.hd.rd (o:=0) (v:=.slice a l c) rfl,hq1.hd.rd (o:=2) (v:=I js.length) rfl]
 by_cases e1:js.length=l
 case neg =>
  rw [if_neg (by omega)]
  refine p337 (hq1.dr _) (by omega) (x:=w.heap.size) (j:=j) hB hax fun w' hk hQ=>?_
  exact h1 (by omega) a w' ((hk1.mono fun _ _ x=>x.elim).trans (hk.drL _)) hQ
 rw [if_pos (by omega)]
 simp only [SS,New_eq,hq1.hd.rd (o:=3) (v:=I 8) rfl,min_c]
 have hn:∃ n:Nat,n=(if 2*js.length+1<8 then 2*js.length+1 else 8):=⟨_,rfl⟩
 obtain ⟨n,hn⟩:=hn
 have hmin:(if IntKind.i64.wrap (IntKind.i64.wrap (2*(js.length:Int))+1)<8 then IntKind.i64.wrap (IntKind.i64.wrap (2*(js.length:Int))+1) else 8)=(n:Int):=by
  rw [show IntKind.i64.wrap (2*(js.length:Int))=2*js.length by rw [IntKind.wrap_i64]; omega,show IntKind.i64.wrap (2*(js.length:Int)+1)=2*js.length+1 by rw [IntKind.wrap_i64]; omega,hn]
  split <;> split <;> omega
 have hnl:js.length<n∧n≤8:=by rw [hn]; split <;> omega
 rw [hmin]
 obtain ⟨i45,z45,E45,hz45⟩:=e45
 refine mk_own E45 (B:=B) (by have:=hq.hB; show B≤w1.heap.size; omega) (by omega) fun w3 hr hk3=>?_
 rw [hz45] at hr
 have hk3':=hk3.drL
 have hq3:=hq1.kp hk3' fun _ _=>id
 simp only [SS,New_eq]
 refine k338 hq3 fun a4 l4 c4 w4 hk4 ho4 hl4=>?_
 simp only [SS,New_eq]
 have hq4:=hq3.kp hk4 fun _ _=>id
 have hr4:=own_kp hr hk4 fun _ _=>id
 have hcp:=copy_own (P:=Tryz.prog) (ty:=3) E45 hr4 ho4 (by omega) (one_flat (fun _=>Jb.one _) _)
 rw [dr_heap] at hr4 hcp
 rw [hcp]
 have hr5:=own_setCs hr4 (o:=0) (cellsJ js) (by rw [cellsJ_len]; omega)
 have hk5:Kp (·=w1.heap.size) w4 (setCs w4 w1.heap.size 0 (cellsJ js)):=Kp.setCs _ _ _ _ fun _=>rfl
 have hq5:=hq4.kp hk5 fun b hb e=>by
  have:=(hq1.inlt b hb); omega
 have hov:∃ f':Nat→List Value,over (Flat (fun _=>zJ.cells) n) 0 (cellsJ js)=Flat f' n∧(∀ i,(f' i).length=4)∧(∀ i,∀ v∈f' i,oneCell v=true)∧∀ i,i<js.length→f' i=jobC js i:=over_flat js n (by omega)
 obtain ⟨f',hf1,hf2,hf3,hf4⟩:=hov
 rw [hf1] at hr5
 have hxB:w.heap.size<w1.heap.size:=by omega
 have hB5:Bk (setCs w4 w1.heap.size 0 (cellsJ js)) w.heap.size j.cells 37:=hk5.bk (hk4.bk (hk3'.bk hB id) id) (by omega)
 have hkk:Kp (inQ q a) w1 (setCs w4 w1.heap.size 0 (cellsJ js)):=((hk3'.trans hk4).step hk5 fun b hb e=>by omega).mono fun _ _ x=>x.elim
 obtain ⟨w5,hw5⟩:∃ y,y=setCs w4 w1.heap.size 0 (cellsJ js):=⟨_,rfl⟩
 rw [← hw5] at hq5 hr5 hB5 hkk ⊢
 simp only [SS,New_eq]
 rw [hq5.hd.st (by simp) _ rfl]
 have d6:=hq5.hd.set 0 (.slice (some ⟨w1.heap.size,0,none⟩) n n)
 have r6:=own_kp hr5 (Kp.set (·=q) w5 (b:=q) (o:=0) (.slice (some ⟨w1.heap.size,0,none⟩) n n) fun _=>rfl) fun b hb e=>by injection hb with hb; have h1:w1.heap.size=b:=hb; omega
 have k6:Kp (inQ q a) w5 (w5.setCell ⟨q,0,none⟩ (.slice (some ⟨w1.heap.size,0,none⟩) n n)):=Kp.set _ _ _ fun _=>.inl rfl
 have b6:Bk (w5.setCell ⟨q,0,none⟩ (.slice (some ⟨w1.heap.size,0,none⟩) n n)) w.heap.size j.cells 37:=by rw [Bk,heap_set (by omega)]; exact hB5
 obtain ⟨w6,hw6⟩:∃ y,y=w5.setCell ⟨q,0,none⟩ (.slice (some ⟨w1.heap.size,0,none⟩) n n):=⟨_,rfl⟩
 rw [← hw6] at d6 r6 k6 b6 ⊢
 rw [Bk.st d6 (by simp) _ rfl]
 have d7:=d6.set 1 (I 0)
 have r7:=own_kp r6 (Kp.set (·=q) w6 (b:=q) (o:=1) (I 0) fun _=>rfl) fun b hb e=>by injection hb with hb; have h1:w1.heap.size=b:=hb; omega
 have k7:Kp (inQ q a) w6 (w6.setCell ⟨q,1,none⟩ (I 0)):=Kp.set _ _ _ fun _=>.inl rfl
 have b7:Bk (w6.setCell ⟨q,1,none⟩ (I 0)) w.heap.size j.cells 37:=by rw [Bk,heap_set (by omega)]; exact b6
 obtain ⟨w7,hw7⟩:∃ y,y=w6.setCell ⟨q,1,none⟩ (I 0):=⟨_,rfl⟩
 rw [← hw7] at d7 r7 k7 b7 ⊢
 have hq7:QAt w7 B q (some ⟨w1.heap.size,0,none⟩) n n 0 f' js:=⟨by simpa using d7,hq.hB,r7,hf2,hf3,.inl rfl,hnl.2,by omega,fun i hi=>by rw [Nat.zero_add,Nat.mod_eq_of_lt (by omega)]; exact hf4 i hi⟩
 refine p337 hq7 (by omega) b7 (by simp; omega) fun w8 hk8 hQ8=>?_
 refine h1 (by omega) _ w8 ?_ hQ8
 have ka:Kp (inQ q a) w w7:=(hk1.mono fun _ _ x=>x.elim).trans (hkk.trans (k6.trans k7))
 refine ka.step hk8 fun b hb hx=>?_
 rcases hx with hx | ⟨y,hy,hx⟩
 ·exact .inl hx
 ·injection hy with hy; subst hy; have h1:b=w1.heap.size:=hx; omega
theorem q_la (hq:QAt w B q a l c fi f js) {i:Nat} (hi:i<js.length):∃ g,a=some ⟨g,0,none⟩∧(fi+i) % l<l∧∀ k,La 4 ⟨g,((fi+i) % l)*4,none⟩ w k=k (jobC js i).toArray:=by
 have hm:=hq.many
 have hl:0<l:=by omega
 obtain ⟨g,rfl,_,_⟩:=hq.nz hl
 have hmod:(fi+i) % l<l:=Nat.mod_lt _ hl
 refine ⟨g,rfl,hmod,fun k=>?_⟩
 have la:=own_la hq.ring (o:=((fi+i) % l)*4) (m:=4) (by omega) k
 have hp:=Flat_part hq.fl (j:=0) (m:=4) hmod (by omega)
 rw [Nat.add_zero] at hp
 rw [hp,hq.el i hi,List.drop_zero,List.take_of_length_le (by simp [jobC_len])] at la
 exact la
theorem QAt.ne_new (hq:QAt w B q a l c fi f js) {b:Nat} (h:w.heap.size≤b):¬ inQ q a b:=fun x=>by have:=hq.inlt b x; omega
theorem over4 {c l:List Value} (hc:c.length=4) (hl:l.length=4):over c 0 l=l:=by
 match c,hc,l,hl with
 | [_,_,_,_],_,[_,_,_,_],_=>rfl
theorem k397 (hq:QAt w B q a l c fi f js) {i:Nat} (hi:i<js.length) (h:∀ w',Kp No w w'→K (.tuple #[.agg (jobC js i).toArray,.bool true]) w'):Ct Tryz.prog 397 #[Pt q 0,I i] w K:=by
 refine c397 ?_
 unfold F397
 simp only [New_eq,agg_cells]
 have b1:=bk_alloc w zJ.cells 37
 have k1:=Kp.alloc No w (.cells zJ.cells.toArray 37)
 have s1:(w.alloc (.cells zJ.cells.toArray 37)).heap.size=w.heap.size+1:=by simp
 show Ct _ _ _ ((w.alloc (.cells zJ.cells.toArray 37)).alloc (.cells zJ.cells.toArray 37)) _
 obtain ⟨w1,hw1⟩:∃ y,y=w.alloc (.cells zJ.cells.toArray 37):=⟨_,rfl⟩
 rw [← hw1] at b1 k1 s1 ⊢
 have k2:=Kp.alloc No w1 (.cells zJ.cells.toArray 37)
 obtain ⟨w2,hw2⟩:∃ y,y=w1.alloc (.cells zJ.cells.toArray 37):=⟨_,rfl⟩
 rw [← hw2] at k2 ⊢
 have b2:=k2.bk b1 id
 have hq2:=(hq.kp k1 fun _ _=>id).kp k2 fun _ _=>id
 refine k398 hq2 ?_
 simp only [SS,New_eq,hi]
 simp only [SS,New_eq,hq2.hd.rd (o:=0) (v:=.slice a l c) rfl]
 have hm:=hq.many; have h8:=hq.l8
 refine k378 (hq2.dr _) (by omega) (by omega) fun d=>?_
 obtain ⟨g,rfl,hmod,la⟩:=q_la hq2 hi
 simp only [SS,New_eq,hq2.hd.hc (o:=0) (v:=.slice (some ⟨g,0,none⟩) l c) rfl,Ix_c hmod,la]
 have hB2:Bk w2 w.heap.size zJ.cells 37:=b2
 rw [hB2.sa (o:=0) (n:=4) _ rfl (by decide) (jobC_one js i)]
 have b3:=hB2.setCs 0 (jobC js i)
 have k3:Kp No w (setCs w2 w.heap.size 0 (jobC js i)):=(k1.trans k2).step (Kp.setCs (·=w.heap.size) _ _ _ fun _=>rfl) fun b hb h=>by omega
 rw [over4 rfl rfl] at b3
 show Rd _ _ (dr (setCs w2 w.heap.size 0 (jobC js i)) d) fun r0=>K (.tuple #[r0,.bool true]) (dr (setCs w2 w.heap.size 0 (jobC js i)) d)
 obtain ⟨w3,hw3⟩:∃ y,y=setCs w2 w.heap.size 0 (jobC js i):=⟨_,rfl⟩
 rw [← hw3] at b3 k3 ⊢
 have b4:Bk (dr w3 d) w.heap.size (jobC js i) 37:=b3
 rw [res_ag (n:=4) ld37 b4 rfl]
 exact h _ (k3.drR d)
theorem k384 (hq:QAt w B q a l c fi f js) (hi:0<js.length) (h:∀ w',Kp No w w'→K (.tuple #[.agg (jobC js 0).toArray,.bool true]) w'):Ct Tryz.prog 384 #[Pt q 0] w K:=by
 refine c384 ?_
 unfold F384
 simp only [New_eq,agg_cells]
 have b1:Bk _ _ zJ.cells 37:=bk_alloc w zJ.cells 37
 have k1:=Kp.alloc No w (.cells zJ.cells.toArray 37)
 show Ct _ _ _ (w.alloc (.cells zJ.cells.toArray 37)) _
 obtain ⟨w1,hw1⟩:∃ y,y=w.alloc (.cells zJ.cells.toArray 37):=⟨_,rfl⟩
 rw [← hw1] at b1 k1 ⊢
 refine k397 (hq.kp k1 fun _ _=>id) (i:=0) hi fun w2 k2=>?_
 simp only [SS,New_eq]
 have b2:Bk w2 w.heap.size zJ.cells 37:=k2.bk b1 id
 rw [b2.sa (o:=0) (n:=4) _ rfl (by decide) (jobC_one js 0)]
 have b3:=b2.setCs 0 (jobC js 0)
 have k3:Kp No w (setCs w2 w.heap.size 0 (jobC js 0)):=(k1.trans k2).step (Kp.setCs (·=w.heap.size) _ _ _ fun _=>rfl) fun b hb h=>by omega
 rw [over4 rfl rfl] at b3
 show Rd _ _ (setCs w2 w.heap.size 0 (jobC js 0)) fun r0=>K (.tuple #[r0,.bool true]) (setCs w2 w.heap.size 0 (jobC js 0))
 obtain ⟨w3,hw3⟩:∃ y,y=setCs w2 w.heap.size 0 (jobC js 0):=⟨_,rfl⟩
 rw [← hw3] at b3 k3 ⊢
 rw [res_ag (n:=4) ld37 b3 rfl]
 exact h _ k3
theorem q_sa (hq:QAt w B q a l c fi f js) {p:Nat} (hp:p<l) (j:Jb):∃ g,a=some ⟨g,0,none⟩∧(∀ k,Sa 4 ⟨g,p*4,none⟩ j.cells.toArray w k=k (setCs w g (p*4) j.cells)) ∧
  Kp (inQ q a) w (setCs w g (p*4) j.cells)∧Bk (setCs w g (p*4) j.cells) q [.slice a l c,I fi,I js.length,I 8] 539∧(setCs w g (p*4) j.cells).ownsRow B 37 4 (.slice a l c) l (Flat (upd1 f p j.cells) l):=by
 obtain ⟨g,rfl,hBg,hgs⟩:=hq.nz (by omega)
 have hqg:q≠g:=hq.ne rfl
 have hr2:=own_setCs hq.ring (o:=p*4) j.cells (by simp [Jb.cells]; omega)
 have hov:=Flat_over hq.fl (j:=0) hp j.cells (by simp [Jb.cells])
 rw [Nat.add_zero,over4 (hq.fl p) rfl] at hov
 rw [hov] at hr2
 exact ⟨g,rfl,own_sa hq.ring (o:=p*4) (m:=4) j.cells.toArray rfl (by omega) j.one,Kp.setCs _ _ _ _ fun _=>.inr ⟨_,rfl,rfl⟩,by rw [Bk,heap_setCs _ _ hqg]; exact hq.hd,hr2⟩
theorem k385 (hq:QAt w B q a l c fi f js) {i:Nat} (hi:i<js.length) (j:Jb) (h:∀ w',Kp (inQ q a) w w'→QA w' B q a (js.set i j)→K .nilIface w'):Ct Tryz.prog 385 #[Pt q 0,I i,.agg j.cells.toArray] w K:=by
 refine c385 ?_
 unfold F385
 have b1:=bk_alloc w j.cells 37
 have k1:=Kp.alloc No w (.cells j.cells.toArray 37)
 simp only [New_eq,agg_cells]
 obtain ⟨w1,hw1⟩:∃ y,y=w.alloc (.cells j.cells.toArray 37):=⟨_,rfl⟩
 rw [← hw1] at b1 k1 ⊢
 have hq1:=hq.kp k1 fun _ _=>id
 refine k398 hq1 ?_
 simp only [SS,New_eq,hi]
 simp only [SS,New_eq,hq1.hd.rd (o:=0) (v:=.slice a l c) rfl,b1.la0 (n:=4) rfl]
 have hm:=hq.many; have h8:=hq.l8
 have hl:0<l:=by omega
 refine k378 (hq1.dr _) hl (by omega) fun d=>?_
 have hmod:(fi+i) % l<l:=Nat.mod_lt _ hl
 obtain ⟨p,hp⟩:∃ p,p=(fi+i) % l:=⟨_,rfl⟩
 rw [← hp] at hmod ⊢
 obtain ⟨g,rfl,sa,k2,d2,r2⟩:=q_sa hq1 hmod j
 simp only [SS,New_eq,b1.ha0 (n:=4) rfl,hq1.hd.hc (o:=0) (v:=.slice (some ⟨g,0,none⟩) l c) rfl,Ix_c hmod,sa]
 refine h _ (((k1.mono fun _ _ x=>x.elim).trans k2).drR d) ⟨l,c,fi,upd1 f p j.cells,?_⟩
 refine QAt.dr ⟨by rw [List.length_set]; exact d2,hq.hB,r2,len_upd hq.fl rfl,?_,hq.fb,h8,by rw [List.length_set]; exact hm,?_⟩ d
 ·intro i
  by_cases e:i=p
  ·rw [e,upd1_same]; exact j.one
  ·rw [upd1_ne _ _ e]; exact hq.fo i
 ·intro r hr
  rw [List.length_set] at hr
  by_cases e:r=i
  ·subst e
   rw [← hp,upd1_same]
   simp [jobC,hr]
  ·rw [upd1_ne _ _ (by
    rw [hp]
    rcases Nat.lt_or_ge r i with h' | h'
    ·exact mod_ne h' (by omega)
    ·exact (mod_ne (by omega:i<r) (by omega)).symm),hq.el r hr]
   simp [jobC,List.getElem?_set_ne (fun x=>e x.symm)]
set_option maxHeartbeats 1000000 in
theorem k386 (hq:QAt w B q a l c fi f js) (hi:0<js.length) (h:∀ w',Kp (inQ q a) w w'→QA w' B q a (js.drop 1)→K (.tuple #[.agg (jobC js 0).toArray,.nilIface]) w'):Ct Tryz.prog 386 #[Pt q 0] w K:=by
 refine c386 ?_
 unfold F386
 have b1:=bk_alloc w zJ.cells 37
 have k1:=Kp.alloc No w (.cells zJ.cells.toArray 37)
 have s1:(w.alloc (.cells zJ.cells.toArray 37)).heap.size=w.heap.size+1:=by simp
 simp only [New_eq,agg_cells,zJ_eq]
 obtain ⟨w1,hw1⟩:∃ y,y=w.alloc (.cells zJ.cells.toArray 37):=⟨_,rfl⟩
 rw [← hw1] at b1 k1 s1 ⊢
 have k2:=Kp.alloc No w1 (.cells zJ.cells.toArray 37)
 have n2:Bk _ _ zJ.cells 37:=bk_alloc w1 zJ.cells 37
 have s2:(w1.alloc (.cells zJ.cells.toArray 37)).heap.size=w1.heap.size+1:=by simp
 obtain ⟨w2,hw2⟩:∃ y,y=w1.alloc (.cells zJ.cells.toArray 37):=⟨_,rfl⟩
 rw [← hw2] at k2 n2 s2 ⊢
 have b2:Bk w2 w.heap.size zJ.cells 37:=k2.bk b1 id
 have k12:=k1.trans k2
 have hq2:=hq.kp k12 fun _ _=>id
 have hqs:=hq.hd.lt
 refine k398 hq2 (i:=0) ?_
 have hm:=hq.many; have h8:=hq.l8; have hfb:=hq.fb
 have hl:0<l:=by omega
 have hfl:fi<l:=by omega
 obtain ⟨g,rfl,hBg,hgs⟩:=hq.nz hl
 have hqg:q≠g:=hq.ne rfl
 obtain ⟨g',hg',hmod,la⟩:=q_la hq2 hi
 injection hg' with hg'; injection hg' with hg'; subst hg'
 rw [Nat.add_zero,Nat.mod_eq_of_lt hfl] at la
 simp only [hi,decide_true,SS,New_eq,hq2.hd.rd (o:=0) (v:=.slice (some ⟨g,0,none⟩) l c) rfl,hq2.hd.rd (o:=1) (v:=I fi) rfl,Ix_c hfl,la]
 obtain ⟨d2,hd2⟩:∃ d,d=w2.drawn+1:=⟨_,rfl⟩
 rw [← hd2]
 have k3:Kp No w2 ((dr w2 d2).alloc (.cells zJ.cells.toArray 37)):=(Kp.alloc No (dr w2 d2) _).drL
 have n3:Bk ((dr w2 d2).alloc (.cells zJ.cells.toArray 37)) w2.heap.size zJ.cells 37:=bk_alloc (dr w2 d2) zJ.cells 37
 have s3:((dr w2 d2).alloc (.cells zJ.cells.toArray 37)).heap.size=w2.heap.size+1:=by simp [dr_heap]
 obtain ⟨w3,hw3⟩:∃ y,y=(dr w2 d2).alloc (.cells zJ.cells.toArray 37):=⟨_,rfl⟩
 rw [← hw3] at k3 n3 s3 ⊢
 have hq3:=hq2.kp k3 fun _ _=>id
 have b3:Bk w3 w.heap.size zJ.cells 37:=k3.bk b2 id
 have c3:Bk w3 w1.heap.size zJ.cells 37:=k3.bk n2 id
 obtain ⟨g',hg',_,la3⟩:=q_la hq3 hi
 injection hg' with hg'; injection hg' with hg'; subst hg'
 rw [Nat.add_zero,Nat.mod_eq_of_lt hfl] at la3
 have ha3:Ha 4 ⟨g,fi*4,none⟩ (jobC js 0).toArray w3:=ha_of_la la3
 refine ⟨ha3,by rw [hq3.hd.hc (o:=1) (v:=I fi) rfl]; trivial,by rw [hq3.hd.hc (o:=0) (v:=.slice (some ⟨g,0,none⟩) l c) rfl]; trivial,?_⟩
 rw [n3.sa (o:=0) (n:=4) _ rfl (by decide) (jobC_one js 0)]
 have n4:=n3.setCs 0 (jobC js 0)
 rw [over4 rfl rfl] at n4
 have k4:Kp (·=w2.heap.size) w3 (setCs w3 w2.heap.size 0 (jobC js 0)):=Kp.setCs _ _ _ _ fun _=>rfl
 rw [show (jobC js 0).toArray.toList=jobC js 0 from rfl]
 obtain ⟨w4,hw4⟩:∃ y,y=setCs w3 w2.heap.size 0 (jobC js 0):=⟨_,rfl⟩
 rw [← hw4] at n4 k4 ⊢
 have hq4:=hq3.kp k4 fun b hb e=>by have:=hq2.inlt b hb; omega
 have b4:Bk w4 w.heap.size zJ.cells 37:=k4.bk b3 (by omega)
 have c4:Bk w4 w1.heap.size zJ.cells 37:=k4.bk c3 (by omega)
 obtain ⟨g',hg',sa,k5,d5,r5⟩:=q_sa hq4 hfl zJ
 injection hg' with hg'; injection hg' with hg'; subst hg'
 simp only [SS,New_eq,hq4.hd.rd (o:=0) (v:=.slice (some ⟨g,0,none⟩) l c) rfl,hq4.hd.rd (o:=1) (v:=I fi) rfl,Ix_c hfl,c4.la0 (n:=4) rfl,sa]
 have b5:Bk (setCs w4 g (fi*4) zJ.cells) w.heap.size zJ.cells 37:=by rw [Bk,heap_setCs _ _ (by omega)]; exact b4
 have n5:Bk (setCs w4 g (fi*4) zJ.cells) w2.heap.size (jobC js 0) 37:=by rw [Bk,heap_setCs _ _ (by omega)]; exact n4
 obtain ⟨w5,hw5⟩:∃ y,y=setCs w4 g (fi*4) zJ.cells:=⟨_,rfl⟩
 rw [← hw5] at k5 d5 r5 b5 n5 ⊢
 have d5':Bk (dr w5 (w4.drawn+1)) q [.slice (some ⟨g,0,none⟩) l c,I fi,I js.length,I 8] 539:=d5
 refine k378' (i:=1) d5' hl (by omega) (by omega) fun d=>?_
 simp only [SS,New_eq]
 rw [d5.st (by simp) _ rfl]
 have d6:=d5.set 1 (I ((fi+1) % l:Nat))
 have k6:Kp (·=q) w5 (w5.setCell ⟨q,1,none⟩ (I ((fi+1) % l:Nat))):=Kp.set _ _ _ fun _=>rfl
 obtain ⟨w6,hw6⟩:∃ y,y=w5.setCell ⟨q,1,none⟩ (I ((fi+1) % l:Nat)):=⟨_,rfl⟩
 rw [← hw6] at d6 k6 ⊢
 simp only [SS,New_eq,Bk.rd d6 (o:=2) (v:=I js.length) rfl]
 have hwr:IntKind.i64.wrap ((js.length:Int) - 1)=((js.length - 1:Nat):Int):=by rw [IntKind.wrap_i64]; omega
 rw [hwr,Bk.st d6 (by simp) _ rfl]
 have d7:=d6.set 2 (I (js.length - 1:Nat))
 have k7:Kp (·=q) w6 (w6.setCell ⟨q,2,none⟩ (I (js.length - 1:Nat))):=Kp.set _ _ _ fun _=>rfl
 obtain ⟨w7,hw7⟩:∃ y,y=w6.setCell ⟨q,2,none⟩ (I (js.length - 1:Nat)):=⟨_,rfl⟩
 rw [← hw7] at d7 k7 ⊢
 have k67:=k6.trans k7
 have r7:=own_kp r5 k67 fun b hb e=>by injection hb with hb; have h1:g=b:=hb; omega
 have b7:Bk w7 w.heap.size zJ.cells 37:=k67.bk b5 (by omega)
 have n7:Bk w7 w2.heap.size (jobC js 0) 37:=k67.bk n5 (by omega)
 have hq7:QAt w7 B q (some ⟨g,0,none⟩) l c ((fi+1) % l) (upd1 f fi zJ.cells) (js.drop 1):=by
  refine ⟨by simpa using d7,hq.hB,r7,len_upd hq.fl rfl,?_,.inr (Nat.mod_lt _ hl),h8,by simp; omega,?_⟩
  ·intro i
   by_cases e:i=fi
   ·rw [e,upd1_same]; exact Jb.one _
   ·rw [upd1_ne _ _ e]; exact hq.fo i
  ·intro i hi'
   rw [List.length_drop] at hi'
   have e1:((fi+1) % l+i) % l=(fi+(i+1)) % l:=by rw [Nat.mod_add_mod]; congr 1; omega
   have e2:(fi+(i+1)) % l≠fi:=by
    have:=mod_ne (x:=fi) (i:=0) (j:=i+1) (l:=l) (by omega) (by omega)
    rw [Nat.add_zero,Nat.mod_eq_of_lt hfl] at this
    exact this.symm
   rw [e1,upd1_ne _ _ e2,hq.el (i+1) (by omega)]
   simp [jobC,Nat.add_comm]
 simp only [n7.la0 (n:=4) rfl]
 rw [b7.sa (o:=0) (n:=4) _ rfl (by decide) (jobC_one js 0)]
 have b8:=b7.setCs 0 (jobC js 0)
 rw [over4 rfl rfl] at b8
 have k8:Kp (·=w.heap.size) w7 (setCs w7 w.heap.size 0 (jobC js 0)):=Kp.setCs _ _ _ _ fun _=>rfl
 show Rd _ _ (dr (setCs w7 w.heap.size 0 (jobC js 0)) d) fun r0=>K (.tuple #[r0,.nilIface]) (dr (setCs w7 w.heap.size 0 (jobC js 0)) d)
 obtain ⟨w8,hw8⟩:∃ y,y=setCs w7 w.heap.size 0 (jobC js 0):=⟨_,rfl⟩
 rw [← hw8] at b8 k8 ⊢
 have b9:Bk (dr w8 d) w.heap.size (jobC js 0) 37:=b8
 rw [res_ag (n:=4) ld37 b9 rfl]
 have hq8:=(hq7.kp k8 fun b hb e=>by
  rcases hb with hb | ⟨y,hy,hb⟩
  ·omega
  ·injection hy with hy; subst hy; have h1:b=g:=hb; omega).dr d
 refine h _ ?_ ⟨l,c,_,_,hq8⟩
 have ka:Kp (inQ q (some ⟨g,0,none⟩)) w w3:=(k12.trans k3).mono fun _ _ x=>x.elim
 have kb:Kp (inQ q (some ⟨g,0,none⟩)) w w4:=ka.step k4 fun b hb e=>by omega
 exact (((kb.trans k5).step k67 fun b hb e=>.inl e).step k8 fun b hb e=>by omega).drR d
end
end
end Go.Proofs.YtbgbidpecmepmaaGreatDoor
