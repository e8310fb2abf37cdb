/-
  Tasks and their jobs; Tasks: a job laid behind, a tick given, jobs of one's own.
-/
import Derived.Test.YtbgbidpecmepmaaGreatDoorM4
import Derived.Test.YtbgbidpecmepmaaGreatDoorM7
set_option maxRecDepth 100000
namespace Go.Proofs.YtbgbidpecmepmaaGreatDoor
section
open Sy
def F302 (R:Ko) (x0:Int) (x1:Int) (x2:Int) (w:World):Prop:=Ifm (decide ((x0:Int)≥x1)) (R (.bool (decide ((x0:Int)≤x2))) w) (R (.bool false) w)
noncomputable def b302:Code:=Tryz.f302.body.getD .skip
theorem c302 {R:Ko} {x0:Int} {x1:Int} {x2:Int} {w:World} (h:F302 R x0 x1 x2 w):Ct Tryz.prog 302 #[.int .i64 x0,.int .i64 x1,.int .i64 x2] w R :=
 ctS (args:=[.int .i64 x0,.int .i64 x1,.int .i64 x2]) (body:=b302) (n:=15) (rs:=[.tmp 6]) Tryz.func302
  (sg (cuts:=[]) trivial h)
def F329 (R:Ko) (x0:Array Value) (w:World):Prop:=New (.cells (.agg x0:Value).cells 37) w fun x1 w1=>Lc (x1.add 0) w1 fun v4=>onI v4 fun x4=>Ct Tryz.prog 302 #[.int .i64 x4,.int .i64 1,.int .i64 1048576] w1 fun v5 w2=>onB v5 fun x5=>Ifm x5 (Lc (x1.add 1) w2 fun v8=>onI v8 fun x8=>Ct Tryz.prog 302 #[.int .i64 x8,.int .i64 0,.int .i64 1048576] w2 fun v9 w3=>onB v9 fun x9=>Ifm x9 (Lc (x1.add 2) w3 fun v13=>onI v13 fun x13=>Ct Tryz.prog 302 #[.int .i64 x13,.int .i64 0,.int .i64 1073741824] w3 fun v14 w4=>onB v14 fun x14=>Ifm x14 (Lc (x1.add 3) w4 fun v18=>onI v18 fun x18=>Ct Tryz.prog 302 #[.int .i64 x18,.int .i64 0,.int .i64 1073741824] w4 fun v19 w5=>onB v19 fun x19=>R (.bool x19) w5) (R (.bool false) w4)) (R (.bool false) w3)) (R (.bool false) w2)
noncomputable def b329:Code:=Tryz.f329.body.getD .skip
theorem c329 {R:Ko} {x0:Array Value} {w:World} (h:F329 R x0 w):Ct Tryz.prog 329 #[.agg x0] w R :=
 ctS (args:=[.agg x0]) (body:=b329) (n:=21) (rs:=[.tmp 2]) Tryz.func329
  (sg (cuts:=[]) trivial h)
def F208 (R:Ko) (x0:Int) (w:World):Prop:=New (.cells (.agg #[.int .i64 0,.slice none 0 0,.int .i64 0,.int .i64 0,.int .i64 0,.int .i64 0,.int .i64 0,.int .i64 0]:Value).cells 47) w fun x2 w1=>Ct Tryz.prog 302 #[.int .i64 x0,.int .i64 0,.int .i64 31] w1 fun v5 w2=>onB v5 fun x5=>Ifm (!x5) (Sa 8 x2 (#[.int .i64 0,.slice none 0 0,.int .i64 0,.int .i64 0,.int .i64 0,.int .i64 0,.int .i64 0,.int .i64 0]) w2 fun w3=>Rd Tryz.prog (Instr.loadAt 47 (.pointer (some x2))) w3 fun r0=>R (.tuple #[r0,.iface 129 (.int .i64 2)]) w3) (Sa 8 x2 (#[.int .i64 x0,.slice none 0 0,.int .i64 0,.int .i64 0,.int .i64 0,.int .i64 0,.int .i64 0,.int .i64 0]) w2 fun w4=>Rd Tryz.prog (Instr.loadAt 47 (.pointer (some x2))) w4 fun r0=>R (.tuple #[r0,.nilIface]) w4)
noncomputable def b208:Code:=Tryz.f208.body.getD .skip
theorem c208 {R:Ko} {x0:Int} {w:World} (h:F208 R x0 w):Ct Tryz.prog 208 #[.int .i64 x0] w R :=
 ctS (args:=[.int .i64 x0]) (body:=b208) (n:=11) (rs:=[.cell 2 47,.tmp 3]) Tryz.func208
  (sg (cuts:=[]) trivial h)
def F250_0B (R:Ko) (C0:Bool→Option Addr→Nat→Nat→Int→Int→World→Prop) (x4:Bool) (a79:Option Addr) (l79 c79:Nat) (x80:Int) (x81:Int) (w:World):Prop:=Ifm (decide ((x81:Int)<x80)) (Ix a79 l79 x81 4 fun x83=>La 4 x83 w fun x84=>New (.cells (.agg #[.int .i64 0,.int .i64 0,.int .i64 0,.int .i64 0]:Value).cells 37) w fun x6 w6=>Sa 4 x6 x84 w6 fun w7=>Ifm x4 (La 4 x6 w7 fun x87=>Ct Tryz.prog 329 #[.agg x87] w7 fun v88 w8=>onB v88 fun x88=>C0 x88 a79 l79 c79 x80 (IntKind.i64.wrap (x81+1)) w8) (C0 false a79 l79 c79 x80 (IntKind.i64.wrap (x81+1)) w7)) (Ifm (!x4) (R (.iface 129 (.int .i64 270)) w) (R (.nilIface) w))
def F250_0 (R:Ko) (x4:Bool) (a79:Option Addr) (l79 c79:Nat) (x80:Int) (x81:Int) (w:World):Prop:=∃ (Inv:Bool→Option Addr→Nat→Nat→Int→Int→World→Prop) (μ:Bool→Option Addr→Nat→Nat→Int→Int→World→Nat),Inv x4 a79 l79 c79 x80 x81 w∧∀ x4 a79 l79 c79 x80 x81 w,Inv x4 a79 l79 c79 x80 x81 w→F250_0B R (fun x4' a79' l79' c79' x80' x81' w'=>Inv x4' a79' l79' c79' x80' x81' w'∧μ x4' a79' l79' c79' x80' x81' w'<μ x4 a79 l79 c79 x80 x81 w) x4 a79 l79 c79 x80 x81 w
def F250 (R:Ko) (x0:Array Value) (w:World):Prop:=New (.cells (.agg x0:Value).cells 47) w fun x1 w1=>La 6 (x1.add 2) w1 fun x8=>New (.cells (.agg #[.int .i64 0,.int .i64 0,.int .i64 0,.int .i64 0,.int .i64 0,.int .i64 0]:Value).cells 41) w1 fun x3 w2=>Sa 6 x3 x8 w2 fun w3=>Lc (x1.add 0) w3 fun v10=>onI v10 fun x10=>Ct Tryz.prog 302 #[.int .i64 x10,.int .i64 0,.int .i64 31] w3 fun v11 w4=>onB v11 fun x11=>Ifm x11 (Lc (x1.add 1) w4 fun v14=>onL v14 fun a14 l14 c14=>Ifm (decide (((l14:Nat):Int)≤8)) (Lc (x3.add 0) w4 fun v20=>onI v20 fun x20=>Ct Tryz.prog 302 #[.int .i64 x20,.int .i64 0,.int .i64 1073741824] w4 fun v21 w5=>onB v21 fun x21=>Ifm x21 (Lc (x3.add 1) w5 fun v25=>onI v25 fun x25=>Lc (x3.add 0) w5 fun v27=>onI v27 fun x27=>Ifm ((x25:Int) == x27) (Lc (x3.add 2) w5 fun v32=>onI v32 fun x32=>Ifm ((x32:Int) == 0) (Lc (x3.add 3) w5 fun v38=>onI v38 fun x38=>Ifm (decide ((x38:Int)≥0)) (Lc (x3.add 4) w5 fun v43=>onI v43 fun x43=>Ifm (decide ((x43:Int)≥0)) (Lc (x3.add 5) w5 fun v48=>onI v48 fun x48=>Ifm (decide ((x48:Int)≥0)) (Lc (x3.add 3) w5 fun v53=>onI v53 fun x53=>Lc (x3.add 0) w5 fun v55=>onI v55 fun x55=>Ifm (decide ((x53:Int)≤x55)) (Lc (x3.add 4) w5 fun v60=>onI v60 fun x60=>Lc (x3.add 0) w5 fun v62=>onI v62 fun x62=>Lc (x3.add 3) w5 fun v64=>onI v64 fun x64=>Ifm (decide ((x60:Int)≤(IntKind.i64.wrap (x62 - x64)))) (Lc (x3.add 5) w5 fun v70=>onI v70 fun x70=>Lc (x3.add 3) w5 fun v72=>onI v72 fun x72=>Lc (x3.add 4) w5 fun v74=>onI v74 fun x74=>Lc (x1.add 1) w5 fun v79=>onL v79 fun a79 l79 c79=>F250_0 R (decide ((x70:Int)≤(IntKind.i64.wrap (x72+x74)))) a79 l79 c79 (l79:Nat) 0 w5) (Lc (x1.add 1) w5 fun v79=>onL v79 fun a79 l79 c79=>F250_0 R false a79 l79 c79 (l79:Nat) 0 w5)) (Lc (x1.add 1) w5 fun v79=>onL v79 fun a79 l79 c79=>F250_0 R false a79 l79 c79 (l79:Nat) 0 w5)) (Lc (x1.add 1) w5 fun v79=>onL v79 fun a79 l79 c79=>F250_0 R false a79 l79 c79 (l79:Nat) 0 w5)) (Lc (x1.add 1) w5 fun v79=>onL v79 fun a79 l79 c79=>F250_0 R false a79 l79 c79 (l79:Nat) 0 w5)) (Lc (x1.add 1) w5 fun v79=>onL v79 fun a79 l79 c79=>F250_0 R false a79 l79 c79 (l79:Nat) 0 w5)) (Lc (x1.add 1) w5 fun v79=>onL v79 fun a79 l79 c79=>F250_0 R false a79 l79 c79 (l79:Nat) 0 w5)) (Lc (x1.add 1) w5 fun v79=>onL v79 fun a79 l79 c79=>F250_0 R false a79 l79 c79 (l79:Nat) 0 w5)) (Lc (x1.add 1) w5 fun v79=>onL v79 fun a79 l79 c79=>F250_0 R false a79 l79 c79 (l79:Nat) 0 w5)) (Lc (x1.add 1) w4 fun v79=>onL v79 fun a79 l79 c79=>F250_0 R false a79 l79 c79 (l79:Nat) 0 w4)) (Lc (x1.add 1) w4 fun v79=>onL v79 fun a79 l79 c79=>F250_0 R false a79 l79 c79 (l79:Nat) 0 w4)
noncomputable def b250:Code:=Tryz.f250.body.getD .skip
def q250_0:List Bool:=[false,true,false,true,true,true,true]
def L250_0 (F:Bool→Option Addr→Nat→Nat→Int→Int→World→Prop):Env→World→Prop:=fun ρ w=>onB (ρ 4) fun x4=>onL (ρ 79) fun a79 l79 c79=>onI (ρ 80) fun x80=>onI (ρ 81) fun x81=>F x4 a79 l79 c79 x80 x81 w
abbrev T250 (z:Fr) (R:Ko) (p:List Bool) (ρ:Env) (w:World):Prop:=TW z Tryz.prog 94 (segTodo b250 p) (QR Tryz.prog [.tmp 2] R) ρ w
theorem s250_0 (R:Ko):∀ ρ w,(L250_0 (F250_0 R)) ρ w→T250 z0 R q250_0 ρ w:=by
 intro ρ w h
 obtain ⟨x4,e4,h⟩:=onB_of h
 obtain ⟨a79,l79,c79,e79,h⟩:=onL_of h
 obtain ⟨x80,e80,h⟩:=onI_of h
 obtain ⟨x81,e81,h⟩:=onI_of h
 obtain ⟨Inv,μ,hi,hb⟩:=h
 refine lpT (fun m=>L250_0 (fun x4 a79 l79 c79 x80 x81 w=>Inv x4 a79 l79 c79 x80 x81 w∧μ x4 a79 l79 c79 x80 x81 w=m)) ?_ (μ x4 a79 l79 c79 x80 x81 w) ρ w ?_
 ·intro m ρ w ih h
  obtain ⟨x4,e4,h⟩:=onB_of h
  obtain ⟨a79,l79,c79,e79,h⟩:=onL_of h
  obtain ⟨x80,e80,h⟩:=onI_of h
  obtain ⟨x81,e81,h⟩:=onI_of h
  obtain ⟨hv,hm⟩:=h
  subst hm
  have hh:=hb x4 a79 l79 c79 x80 x81 w hv
  obtain ⟨C0,hC⟩:∃ C,C=fun x4' a79' l79' c79' x80' x81' w'=>Inv x4' a79' l79' c79' x80' x81' w'∧μ x4' a79' l79' c79' x80' x81' w'<μ x4 a79 l79 c79 x80 x81 w:=⟨_,rfl⟩
  rw [← hC] at hh
  have h0:∀ ρ w,(L250_0 C0) ρ w→T250 z0 R q250_0 ρ w:=by
   intro ρ' w' h'
   refine ih ρ' w' ?_
   obtain ⟨x4',e4',h'⟩:=onB_of h'
   obtain ⟨a79',l79',c79',e79',h'⟩:=onL_of h'
   obtain ⟨x80',e80',h'⟩:=onI_of h'
   obtain ⟨x81',e81',h'⟩:=onI_of h'
   rw [hC] at h'
   refine ⟨_,h'.2,?_⟩
   simp only [e4',e79',e80',e81',L250_0,ons]
   exact ⟨h'.1,by trivial⟩
  rw [← upds_same (ρ:=ρ) [(4,.bool x4),(79,.slice a79 l79 c79),(80,.int .i64 x80),(81,.int .i64 x81)] (alc e4 (alc e79 (alc e80 (alc e81 aln))))]
  exact sg (cuts:=[(q250_0,L250_0 C0)]) ⟨h0,trivial⟩ hh
 ·simp only [e4,e79,e80,e81,L250_0,ons]
  exact ⟨hi,by trivial⟩
theorem c250 {R:Ko} {x0:Array Value} {w:World} (h:F250 R x0 w):Ct Tryz.prog 250 #[.agg x0] w R :=
 ctS (args:=[.agg x0]) (body:=b250) (n:=94) (rs:=[.tmp 2]) Tryz.func250
  (sg (cuts:=[(q250_0,L250_0 (F250_0 R))]) ⟨s250_0 R,trivial⟩ h)
def F336_0B (R:Ko) (C0:Option Addr→Option Addr→Nat→Nat→Int→Int→World→Prop) (x3:Option Addr) (a12:Option Addr) (l12 c12:Nat) (x13:Int) (x14:Int) (w:World):Prop:=Ifm (decide ((x14:Int)<x13)) (Ix a12 l12 x14 4 fun x16=>La 4 x16 w fun x17=>New (.cells (.agg #[.int .i64 0,.int .i64 0,.int .i64 0,.int .i64 0]:Value).cells 37) w fun x6 w3=>Sa 4 x6 x17 w3 fun w4=>La 4 x6 w4 fun x19=>Ct Tryz.prog 337 #[.pointer x3,.agg x19] w4 fun v20 w5=>C0 x3 a12 l12 c12 x13 (IntKind.i64.wrap (x14+1)) w5) (R (.pointer x3) w)
def F336_0 (R:Ko) (x3:Option Addr) (a12:Option Addr) (l12 c12:Nat) (x13:Int) (x14:Int) (w:World):Prop:=∃ (Inv:Option Addr→Option Addr→Nat→Nat→Int→Int→World→Prop) (μ:Option Addr→Option Addr→Nat→Nat→Int→Int→World→Nat),Inv x3 a12 l12 c12 x13 x14 w∧∀ x3 a12 l12 c12 x13 x14 w,Inv x3 a12 l12 c12 x13 x14 w→F336_0B R (fun x3' a12' l12' c12' x13' x14' w'=>Inv x3' a12' l12' c12' x13' x14' w'∧μ x3' a12' l12' c12' x13' x14' w'<μ x3 a12 l12 c12 x13 x14 w) x3 a12 l12 c12 x13 x14 w
def F336 (R:Ko) (x0:Array Value) (w:World):Prop:=New (.cells (.agg x0:Value).cells 47) w fun x1 w1=>Ct Tryz.prog 376 #[.int .i64 8] w1 fun v8 w2=>on2 v8 fun y8_0 y8_1=>onP y8_0 fun x8_0=>Lc (x1.add 1) w2 fun v12=>onL v12 fun a12 l12 c12=>F336_0 R x8_0 a12 l12 c12 (l12:Nat) 0 w2
noncomputable def b336:Code:=Tryz.f336.body.getD .skip
def q336_0:List Bool:=[false,true,false,true,true]
def L336_0 (F:Option Addr→Option Addr→Nat→Nat→Int→Int→World→Prop):Env→World→Prop:=fun ρ w=>onP (ρ 3) fun x3=>onL (ρ 12) fun a12 l12 c12=>onI (ρ 13) fun x13=>onI (ρ 14) fun x14=>F x3 a12 l12 c12 x13 x14 w
abbrev T336 (z:Fr) (R:Ko) (p:List Bool) (ρ:Env) (w:World):Prop:=TW z Tryz.prog 23 (segTodo b336 p) (QR Tryz.prog [.tmp 2] R) ρ w
theorem s336_0 (R:Ko):∀ ρ w,(L336_0 (F336_0 R)) ρ w→T336 z0 R q336_0 ρ w:=by
 intro ρ w h
 obtain ⟨x3,e3,h⟩:=onP_of h
 obtain ⟨a12,l12,c12,e12,h⟩:=onL_of h
 obtain ⟨x13,e13,h⟩:=onI_of h
 obtain ⟨x14,e14,h⟩:=onI_of h
 obtain ⟨Inv,μ,hi,hb⟩:=h
 refine lpT (fun m=>L336_0 (fun x3 a12 l12 c12 x13 x14 w=>Inv x3 a12 l12 c12 x13 x14 w∧μ x3 a12 l12 c12 x13 x14 w=m)) ?_ (μ x3 a12 l12 c12 x13 x14 w) ρ w ?_
 ·intro m ρ w ih h
  obtain ⟨x3,e3,h⟩:=onP_of h
  obtain ⟨a12,l12,c12,e12,h⟩:=onL_of h
  obtain ⟨x13,e13,h⟩:=onI_of h
  obtain ⟨x14,e14,h⟩:=onI_of h
  obtain ⟨hv,hm⟩:=h
  subst hm
  have hh:=hb x3 a12 l12 c12 x13 x14 w hv
  obtain ⟨C0,hC⟩:∃ C,C=fun x3' a12' l12' c12' x13' x14' w'=>Inv x3' a12' l12' c12' x13' x14' w'∧μ x3' a12' l12' c12' x13' x14' w'<μ x3 a12 l12 c12 x13 x14 w:=⟨_,rfl⟩
  rw [← hC] at hh
  have h0:∀ ρ w,(L336_0 C0) ρ w→T336 z0 R q336_0 ρ w:=by
   intro ρ' w' h'
   refine ih ρ' w' ?_
   obtain ⟨x3',e3',h'⟩:=onP_of h'
   obtain ⟨a12',l12',c12',e12',h'⟩:=onL_of h'
   obtain ⟨x13',e13',h'⟩:=onI_of h'
   obtain ⟨x14',e14',h'⟩:=onI_of h'
   rw [hC] at h'
   refine ⟨_,h'.2,?_⟩
   simp only [e3',e12',e13',e14',L336_0,ons]
   exact ⟨h'.1,by trivial⟩
  rw [← upds_same (ρ:=ρ) [(3,.pointer x3),(12,.slice a12 l12 c12),(13,.int .i64 x13),(14,.int .i64 x14)] (alc e3 (alc e12 (alc e13 (alc e14 aln))))]
  exact sg (cuts:=[(q336_0,L336_0 C0)]) ⟨h0,trivial⟩ hh
 ·simp only [e3,e12,e13,e14,L336_0,ons]
  exact ⟨hi,by trivial⟩
theorem c336 {R:Ko} {x0:Array Value} {w:World} (h:F336 R x0 w):Ct Tryz.prog 336 #[.agg x0] w R :=
 ctS (args:=[.agg x0]) (body:=b336) (n:=23) (rs:=[.tmp 2]) Tryz.func336
  (sg (cuts:=[(q336_0,L336_0 (F336_0 R))]) ⟨s336_0 R,trivial⟩ h)
def F266 (R:Ko) (x0:Array Value) (x1:Array Value) (x2:Int) (w:World):Prop:=New (.cells (.agg x0:Value).cells 47) w fun x3 w1=>New (.cells (.agg x1:Value).cells 37) w1 fun x4 w2=>New (.cells (.agg #[.int .i64 0,.slice none 0 0,.int .i64 0,.int .i64 0,.int .i64 0,.int .i64 0,.int .i64 0,.int .i64 0]:Value).cells 47) w2 fun x6 w3=>La 8 x3 w3 fun x11=>Ct Tryz.prog 250 #[.agg x11] w3 fun v12 w4=>Nl v12 fun x14=>Ifm (!x14) (Sa 8 x6 (#[.int .i64 0,.slice none 0 0,.int .i64 0,.int .i64 0,.int .i64 0,.int .i64 0,.int .i64 0,.int .i64 0]) w4 fun w5=>Rd Tryz.prog (Instr.loadAt 47 (.pointer (some x6))) w5 fun r0=>R (.tuple #[r0,v12]) w5) (Ct Tryz.prog 302 #[.int .i64 x2,.int .i64 0,.int .i64 1073741824] w4 fun v18 w6=>onB v18 fun x18=>Ifm (!x18) (Sa 8 x6 (#[.int .i64 0,.slice none 0 0,.int .i64 0,.int .i64 0,.int .i64 0,.int .i64 0,.int .i64 0,.int .i64 0]) w6 fun w7=>Rd Tryz.prog (Instr.loadAt 47 (.pointer (some x6))) w7 fun r0=>R (.tuple #[r0,.iface 129 (.int .i64 1)]) w7) (Sc (x4.add 2) (.int .i64 x2) w6 fun w8=>La 4 x4 w8 fun x24=>Ct Tryz.prog 329 #[.agg x24] w8 fun v25 w9=>onB v25 fun x25=>Ifm (!x25) (Sa 8 x6 (#[.int .i64 0,.slice none 0 0,.int .i64 0,.int .i64 0,.int .i64 0,.int .i64 0,.int .i64 0,.int .i64 0]) w9 fun w10=>Rd Tryz.prog (Instr.loadAt 47 (.pointer (some x6))) w10 fun r0=>R (.tuple #[r0,.iface 129 (.int .i64 2)]) w10) (La 8 x3 w9 fun x29=>Ct Tryz.prog 336 #[.agg x29] w9 fun v30 w11=>onP v30 fun x30=>La 4 x4 w11 fun x32=>Ct Tryz.prog 337 #[.pointer x30,.agg x32] w11 fun v33 w12=>Nl v33 fun x35=>Ifm (!x35) (Sa 8 x6 (#[.int .i64 0,.slice none 0 0,.int .i64 0,.int .i64 0,.int .i64 0,.int .i64 0,.int .i64 0,.int .i64 0]) w12 fun w13=>Rd Tryz.prog (Instr.loadAt 47 (.pointer (some x6))) w13 fun r0=>R (.tuple #[r0,v33]) w13) (Ct Tryz.prog 338 #[.pointer x30] w12 fun v39 w14=>onL v39 fun a39 l39 c39=>Sc (x3.add 1) (.slice a39 l39 c39) w14 fun w15=>La 8 x3 w15 fun x41=>Sa 8 x6 x41 w15 fun w16=>Rd Tryz.prog (Instr.loadAt 47 (.pointer (some x6))) w16 fun r0=>R (.tuple #[r0,.nilIface]) w16))))
noncomputable def b266:Code:=Tryz.f266.body.getD .skip
theorem c266 {R:Ko} {x0:Array Value} {x1:Array Value} {x2:Int} {w:World} (h:F266 R x0 x1 x2 w):Ct Tryz.prog 266 #[.agg x0,.agg x1,.int .i64 x2] w R :=
 ctS (args:=[.agg x0,.agg x1,.int .i64 x2]) (body:=b266) (n:=42) (rs:=[.cell 6 47,.tmp 7]) Tryz.func266
  (sg (cuts:=[]) trivial h)
def F383 (R:Ko) (x0:Array Value) (w:World):Prop:=New (.cells (.agg x0:Value).cells 47) w fun x1 w1=>Lc (x1.add 1) w1 fun v4=>onL v4 fun a4 l4 c4=>R (.bool (decide (((l4:Nat):Int) > 0))) w1
noncomputable def b383:Code:=Tryz.f383.body.getD .skip
theorem c383 {R:Ko} {x0:Array Value} {w:World} (h:F383 R x0 w):Ct Tryz.prog 383 #[.agg x0] w R :=
 ctS (args:=[.agg x0]) (body:=b383) (n:=7) (rs:=[.tmp 2]) Tryz.func383
  (sg (cuts:=[]) trivial h)
def F226 (R:Ko) (x0:Array Value) (w:World):Prop:=New (.cells (.agg x0:Value).cells 47) w fun x1 w1=>New (.cells (.agg #[.int .i64 0,.slice none 0 0,.int .i64 0,.int .i64 0,.int .i64 0,.int .i64 0,.int .i64 0,.int .i64 0]:Value).cells 47) w1 fun x2 w2=>Lc (x1.add 1) w2 fun v5=>onL v5 fun a5 l5 c5=>Rv Tryz.prog (Instr.makeSlice 45 (.int .i64 (l5:Nat)) (.int .i64 (l5:Nat))) w2 fun v7 w3=>onL v7 fun a7 l7 c7=>Lc (x1.add 1) w3 fun v10=>onL v10 fun a10 l10 c10=>Rv Tryz.prog (Builtin.copy_ #[45,45] 3 #[.slice a7 l7 c7,.slice a10 l10 c10]) w3 fun v11 w4=>onI v11 fun x11=>Sc (x1.add 1) (.slice a7 l7 c7) w4 fun w5=>La 8 x1 w5 fun x14=>Sa 8 x2 x14 w5 fun w6=>Rd Tryz.prog (Instr.loadAt 47 (.pointer (some x2))) w6 fun r0=>R r0 w6
noncomputable def b226:Code:=Tryz.f226.body.getD .skip
theorem c226 {R:Ko} {x0:Array Value} {w:World} (h:F226 R x0 w):Ct Tryz.prog 226 #[.agg x0] w R :=
 ctS (args:=[.agg x0]) (body:=b226) (n:=15) (rs:=[.cell 2 47]) Tryz.func226
  (sg (cuts:=[]) trivial h)
def F227 (R:Ko) (x0:Array Value) (w:World):Prop:=New (.cells (.agg x0:Value).cells 47) w fun x1 w1=>New (.cells (.agg #[.int .i64 0,.slice none 0 0,.int .i64 0,.int .i64 0,.int .i64 0,.int .i64 0,.int .i64 0,.int .i64 0]:Value).cells 47) w1 fun x2 w2=>Lc (x1.add 1) w2 fun v4=>onL v4 fun a4 l4 c4=>Rv Tryz.prog (Builtin.append_ #[45,45] 45 #[.slice none 0 0,.slice a4 l4 c4]) w2 fun v5 w3=>onL v5 fun a5 l5 c5=>Sc (x1.add 1) (.slice a5 l5 c5) w3 fun w4=>La 8 x1 w4 fun x7=>Sa 8 x2 x7 w4 fun w5=>Rd Tryz.prog (Instr.loadAt 47 (.pointer (some x2))) w5 fun r0=>R r0 w5
noncomputable def b227:Code:=Tryz.f227.body.getD .skip
theorem c227 {R:Ko} {x0:Array Value} {w:World} (h:F227 R x0 w):Ct Tryz.prog 227 #[.agg x0] w R :=
 ctS (args:=[.agg x0]) (body:=b227) (n:=8) (rs:=[.cell 2 47]) Tryz.func227
  (sg (cuts:=[]) trivial h)
variable {K:Ko} {w:World}
structure Tk where
 prio:Int
 jobs:List Jb
 acc:Ac
structure TkAt (w:World) (v:TkV) (t:Tk):Prop where
 prio:v.prio=t.prio
 acc:v.acc=t.acc
 jobs:w.ownsRow 0 37 4 (.slice v.ja v.jl v.jc) t.jobs.length (cellsJ t.jobs)
 few:t.jobs.length≤8
theorem TkAt.kp {S:Nat→Prop} {w':World} {v:TkV} {t:Tk} (h:TkAt w v t) (k:Kp S w w') (hs:∀ x,v.ja=some x→¬ S x.block):TkAt w' v t :=
 ⟨h.prio,h.acc,own_kp h.jobs k fun b hb=>by
  cases e:v.ja with
  | none=>rw [e] at hb; cases hb
  | some x=>rw [e] at hb; injection hb with hb; exact hb ▸ hs x e,h.few⟩
theorem TkAt.jl {v:TkV} {t:Tk} (h:TkAt w v t):v.jl=t.jobs.length:=by
 rcases own_bk h.jobs with ⟨_,h1,_,h2,_⟩ | ⟨_,_,_,h1,_⟩
 ·rw [h1,h2]
 ·exact h1
def isB (n lo hi:Int):Bool:=decide (lo≤n) && decide (n≤hi)
def mayB (j:Jb):Bool:=isB j.n 1 1048576 && isB j.c 0 1048576 && isB j.a 0 1073741824 && isB j.d 0 1073741824
def accB (a:Ac):Bool:=isB a.g 0 1073741824 && (a.o == a.g) && (a.l == 0) && decide (0≤a.d) && decide (0≤a.c) && decide (0≤a.t) && decide (a.d≤a.g) && decide (a.c≤IntKind.i64.wrap (a.g - a.d)) && decide (a.t≤IntKind.i64.wrap (a.d+a.c))
def validB (t:Tk):Bool:=isB t.prio 0 31 && decide (t.jobs.length≤8) && accB t.acc && t.jobs.all mayB
theorem k302 {x lo hi:Int} (h:K (.bool (isB x lo hi)) w):Ct Tryz.prog 302 #[I x,I lo,I hi] w K:=by
 refine c302 ?_
 unfold F302
 simp only [SS]
 unfold isB at h
 split
 ·rename_i e; simpa [e] using h
 ·rename_i e; simpa [show ¬ lo≤x from e] using h
theorem k329 {j:Jb} (h:∀ w',Kp No w w'→K (.bool (mayB j)) w'):Ct Tryz.prog 329 #[.agg j.cells.toArray] w K:=by
 refine c329 ?_
 unfold F329
 refine new_k j.cells fun w1 k1 b1 s1=>?_
 have h:=h w1 k1
 unfold mayB at h
 simp only [SS,b1.rd (o:=0) (v:=I j.n) rfl,b1.rd (o:=1) (v:=I j.c) rfl,b1.rd (o:=2) (v:=I j.a) rfl,b1.rd (o:=3) (v:=I j.d) rfl]
 refine k302 ?_
 cases e1:isB j.n 1 1048576 <;> simp only [SS,e1,Bool.false_and,Bool.true_and,b1.rd (o:=1) (v:=I j.c) rfl] at h ⊢
 ·exact h
 refine k302 ?_
 cases e2:isB j.c 0 1048576 <;> simp only [SS,e2,Bool.false_and,Bool.true_and,b1.rd (o:=2) (v:=I j.a) rfl] at h ⊢
 ·exact h
 refine k302 ?_
 cases e3:isB j.a 0 1073741824 <;> simp only [SS,e3,Bool.false_and,Bool.true_and,b1.rd (o:=3) (v:=I j.d) rfl] at h ⊢
 ·exact h
 refine k302 ?_
 simp only [SS]
 exact h
theorem k208 {x:Int} (h:∀ w',Kp No w w'→K (if isB x 0 31=true then .tuple #[.agg (TkV.mk x none 0 0 ⟨0,0,0,0,0,0⟩).cells.toArray,.nilIface] else .tuple #[.agg zT.toArray,Er 2]) w'):Ct Tryz.prog 208 #[I x] w K:=by
 refine c208 ?_
 unfold F208
 refine new_k zT fun w1 k1 b1 s1=>?_
 refine k302 ?_
 cases e1:isB x 0 31 <;> simp only [SS]
 ·refine res_k (c:=zT) (cs:=zT) (k:=fun r0 w4=>K (.tuple #[r0,Er 2]) w4) ld47 b1 rfl rfl (by simp [zT,oneCell]) fun w2 k2=>?_
  have:=h w2 (k1.own k2 (Nat.le_refl _))
  rw [e1] at this
  exact this
 ·refine res_k (c:=zT) (cs:=(TkV.mk x none 0 0 ⟨0,0,0,0,0,0⟩).cells) (k:=fun r0 w4=>K (.tuple #[r0,.nilIface]) w4) ld47 b1 rfl rfl (by simp [TkV.cells,oneCell]) fun w2 k2=>?_
  have:=h w2 (k1.own k2 (Nat.le_refl _))
  rw [e1] at this
  exact this
theorem k383 {v:TkV} (h:∀ w',Kp No w w'→K (.bool (decide (0<v.jl))) w'):Ct Tryz.prog 383 #[.agg v.cells.toArray] w K:=by
 refine c383 ?_
 unfold F383
 refine new_k v.cells fun w1 k1 b1 s1=>?_
 simp only [SS,b1.rd (o:=1) (v:=.slice v.ja v.jl v.jc) rfl]
 have:=h w1 k1
 simpa using this
theorem job_la {B l c:Nat} {a:Option Addr} {js:List Jb} (h:w.ownsRow B 37 4 (.slice a l c) js.length (cellsJ js)) {i:Nat} (hi:i<js.length):∃ g,a=some ⟨g,0,none⟩∧l=js.length∧∀ k,La 4 ⟨g,i*4,none⟩ w k=k (jobC js i).toArray:=by
 rcases own_bk h with ⟨_,_,_,h1,_⟩ | ⟨g,cur,rfl,rfl,_⟩
 ·omega
 ·refine ⟨g,rfl,rfl,fun k=>?_⟩
  have la:=own_la h (o:=i*4) (m:=4) (by omega) k
  have hp:=Flat_part (f:=jobC js) (n:=js.length) (jobC_len js) (i:=i) (j:=0) (m:=4) hi (by omega)
  rw [Nat.add_zero] at hp
  rw [show cellsJ js=Flat (jobC js) js.length from rfl,hp,List.drop_zero,List.take_of_length_le (by simp [jobC_len])] at la
  exact la
theorem take_all {α:Type} (p:α→Bool) (l:List α) {i:Nat} (hi:i<l.length):(l.take (i+1)).all p=((l.take i).all p && p l[i]):=by
 rw [List.take_succ_eq_append_getElem hi,List.all_append]; simp
theorem p250 {v:TkV} {t:Tk} {x:Bool} {l:Nat} (hv:TkAt w v t) (hl:v.jl=l) (h:∀ w',Kp No w w'→K (if (x && t.jobs.all mayB)=true then .nilIface else Er 270) w'):F250_0 K x v.ja l v.jc (l:Nat) 0 w:=by
 subst hl
 unfold F250_0
 refine ⟨fun x4 a l c x80 x81 w'=>v.ja=a∧v.jl=l∧v.jc=c∧x80=v.jl∧Kp No w w'∧∃ i:Nat,x81=i∧i≤t.jobs.length∧x4=(x && (t.jobs.take i).all mayB),fun _ _ _ _ _ x81 _=>t.jobs.length - x81.toNat,
  ⟨rfl,rfl,rfl,rfl,Kp.refl _ _,0,rfl,Nat.zero_le _,by simp⟩,?_⟩
 rintro x4 _ _ _ _ _ w1 ⟨rfl,rfl,rfl,rfl,k1,i,rfl,hi,hx⟩
 unfold F250_0B
 simp only [SS]
 have hjl:=hv.jl
 have hfew:=hv.few
 by_cases e1:i<t.jobs.length
 case neg =>
  rw [if_neg (by omega)]
  have:i=t.jobs.length:=by omega
  subst this
  rw [List.take_length] at hx
  have:=h w1 k1
  rw [← hx] at this
  cases x4 <;> simpa [SS] using this
 rw [if_pos (by omega)]
 have hv1:=hv.kp k1 fun _ _=>id
 obtain ⟨g,hg,_,la⟩:=job_la hv1.jobs e1
 rw [hg,Ix_c (by omega)]
 simp only [la]
 refine new_k zJ.cells fun w2 k2 b2 s2=>?_
 refine sa_k (cs:=jobC t.jobs i) b2 rfl (by decide) (Jb.one _) fun w3 k3 b3 s3=>?_
 rw [over4 rfl rfl] at b3
 have k13:Kp No w1 w3:=k2.own k3 (Nat.le_refl _)
 have hn:(x && (t.jobs.take (i+1)).all mayB)=(x4 && mayB (t.jobs.getD i zJ)):=by
  rw [take_all mayB _ e1,hx,Bool.and_assoc]; simp [e1]
 cases x4 with
 | false =>
  simp only [SS,true_and]
  refine ⟨⟨k1.trans k13,i+1,by rw [cast_succ _ (by omega)],by omega,by rw [hn]; rfl⟩,by rw [cast_succ _ (by omega)]; simp; omega⟩
 | true =>
  simp only [SS,b3.la0 (n:=4) rfl]
  refine k329 (j:=t.jobs.getD i zJ) fun w4 k4=>?_
  simp only [SS,true_and]
  refine ⟨⟨(k1.trans k13).trans k4,i+1,by rw [cast_succ _ (by omega)],by omega,by rw [hn]; simp⟩,by rw [cast_succ _ (by omega)]; simp; omega⟩
theorem k250 {v:TkV} {t:Tk} (hv:TkAt w v t) (h:∀ w',Kp No w w'→K (if validB t=true then .nilIface else Er 270) w'):Ct Tryz.prog 250 #[.agg v.cells.toArray] w K:=by
 refine c250 ?_
 unfold F250
 refine new_k v.cells fun w1 k1 b1 s1=>?_
 have la:∀ k,La 6 ⟨w.heap.size,2,none⟩ w1 k=k v.acc.cells.toArray:=fun k=>by rw [b1.la (by simp [TkV.cells])]; rfl
 simp only [SS,la]
 refine new_k [I 0,I 0,I 0,I 0,I 0,I 0] fun w2 k2 b2 s2=>?_
 refine sa_k (cs:=v.acc.cells) b2 rfl (by simp) (by simp [Ac.cells,oneCell]) fun w3 k3 b3 s3=>?_
 rw [over_all _ _ (show [I 0,I 0,I 0,I 0,I 0,I 0].length=v.acc.cells.length from rfl)] at b3
 have b1':Bk w3 w.heap.size v.cells 47:=k3.bk (k2.bk b1 id) (by omega)
 have k13:Kp No w w3:=(k1.trans k2).own k3 (by omega)
 have hv3:=hv.kp k13 fun _ _=>id
 have h1:∀ x:Bool,(x=(isB t.prio 0 31 && decide (t.jobs.length≤8) && accB t.acc))→F250_0 K x v.ja v.jl v.jc (v.jl:Nat) 0 w3:=fun x hx =>
  p250 hv3 rfl fun w4 k4=>by
   have:=h w4 (k13.trans k4)
   unfold validB at this
   rw [← hx] at this
   exact this
 have hf:=hv.few; have hjl:=hv.jl; have hp:=hv.prio; have ha:=hv.acc
 unfold accB at h1
 have r0:=b1'.rd (o:=0) (v:=I v.prio) rfl
 have r1:=b1'.rd (o:=1) (v:=.slice v.ja v.jl v.jc) rfl
 have q0:=b3.rd (o:=0) (v:=I v.acc.g) rfl
 have q1:=b3.rd (o:=1) (v:=I v.acc.o) rfl
 have q2:=b3.rd (o:=2) (v:=I v.acc.l) rfl
 have q3:=b3.rd (o:=3) (v:=I v.acc.d) rfl
 have q4:=b3.rd (o:=4) (v:=I v.acc.c) rfl
 have q5:=b3.rd (o:=5) (v:=I v.acc.t) rfl
 simp only [SS,r0]
 refine k302 ?_
 rw [← hp,← ha] at h1
 cases e1:isB v.prio 0 31 <;> simp only [SS,r1]
 ·exact h1 _ (by simp [e1])
 rw [if_pos (by omega)]
 simp only [SS,q0]
 refine k302 ?_
 cases e2:isB v.acc.g 0 1073741824 <;> simp only [SS,r1,q0,q1]
 ·exact h1 _ (by simp [e2])
 split
 case isFalse e3=>exact h1 _ (by simp [show v.acc.o≠v.acc.g from e3])
 rename_i e3
 simp only [SS,q2]
 split
 case isFalse e4=>exact h1 _ (by simp [show v.acc.l≠0 from e4])
 rename_i e4
 simp only [SS,q3]
 split
 case isFalse e5=>exact h1 _ (by simp [show ¬ 0≤v.acc.d from e5])
 rename_i e5
 simp only [SS,q4]
 split
 case isFalse e6=>exact h1 _ (by simp [show ¬ 0≤v.acc.c from e6])
 rename_i e6
 simp only [SS,q5]
 split
 case isFalse e7=>exact h1 _ (by simp [show ¬ 0≤v.acc.t from e7])
 rename_i e7
 split
 case isFalse e8=>exact h1 _ (by simp [e8])
 rename_i e8
 split
 case isFalse e9=>exact h1 _ (by simp [e9])
 rename_i e9
 refine h1 _ ?_
 have e5':0≤v.acc.d:=e5
 have e6':0≤v.acc.c:=e6
 have e7':0≤v.acc.t:=e7
 simp [e1,e2,e3,e4,e5',e6',e7',e8,e9,show t.jobs.length≤8 from hf]
theorem k336 {v:TkV} {t:Tk} (hv:TkAt w v t) (h:∀ q a w',Kp No w w'→QA w' w.heap.size q a t.jobs→q<w'.heap.size→K (Pt q 0) w'):Ct Tryz.prog 336 #[.agg v.cells.toArray] w K:=by
 refine c336 ?_
 unfold F336
 refine new_k v.cells fun w1 k1 b1 s1=>?_
 refine k376 fun w2 k2 hQ=>?_
 have b2:Bk w2 w.heap.size v.cells 47:=k2.bk b1 id
 simp only [SS,b2.rd (o:=1) (v:=.slice v.ja v.jl v.jc) rfl]
 have hjl:=hv.jl; have hf:=hv.few
 obtain ⟨q,hq⟩:∃ q,q=w1.heap.size:=⟨_,rfl⟩
 rw [← hq] at hQ ⊢
 have k12:=k1.trans k2
 unfold F336_0
 refine ⟨fun x3 a l c x13 x14 w'=>x3=some ⟨q,0,none⟩∧v.ja=a∧v.jl=l∧v.jc=c∧x13=v.jl∧Kp No w w'∧∃ i:Nat,x14=i∧i≤t.jobs.length∧∃ a',QA w' w.heap.size q a' (t.jobs.take i),fun _ _ _ _ _ x14 _=>t.jobs.length - x14.toNat,
  ⟨rfl,rfl,rfl,rfl,rfl,k12,0,rfl,Nat.zero_le _,none,QA_base hQ (by omega)⟩,?_⟩
 rintro _ _ _ _ _ _ w3 ⟨rfl,rfl,rfl,rfl,rfl,k3,i,rfl,hi,a',hQ3⟩
 unfold F336_0B
 simp only [SS]
 by_cases e1:i<t.jobs.length
 case neg =>
  rw [if_neg (by omega)]
  have:i=t.jobs.length:=by omega
  subst this
  rw [List.take_length] at hQ3
  obtain ⟨_,_,_,_,hq3⟩:=id hQ3
  exact h q a' w3 k3 hQ3 hq3.hd.lt
 rw [if_pos (by omega)]
 have hv3:=hv.kp k3 fun _ _=>id
 obtain ⟨g,hg,_,la⟩:=job_la hv3.jobs e1
 rw [hg,Ix_c (by omega)]
 simp only [la]
 obtain ⟨l3,c3,fi3,f3,hq3⟩:=hQ3
 refine new_k zJ.cells fun w4 k4 b4 s4=>?_
 refine sa_k (cs:=jobC t.jobs i) b4 rfl (by decide) (Jb.one _) fun w5 k5 b5 s5=>?_
 rw [over4 rfl rfl] at b5
 have k35:Kp No w3 w5:=k4.own k5 (Nat.le_refl _)
 simp only [SS,b5.la0 (n:=4) rfl]
 have hq5:=hq3.kp k35 fun _ _=>id
 have hlt:(t.jobs.take i).length=i:=by simp; omega
 refine k337 hq5 (t.jobs.getD i zJ) (fun e=>by omega) fun _ a6 w6 k6 hQ6=>?_
 refine ⟨⟨?_,i+1,by rw [cast_succ _ (by omega)],by omega,a6,?_⟩,by rw [cast_succ _ (by omega)]; simp; omega⟩
 ·refine (k3.trans k35).step k6 fun b hb hx=>?_
  rcases hx with hx | ⟨y,hy,hx⟩
  ·have:=hq5.hB; omega
  ·have hr:=hq5.ring
   rw [hy] at hr
   have:=(own_lt hr (b:=y.block) rfl).1
   omega
 ·rw [List.take_succ_eq_append_getElem e1]
  simpa [e1] using hQ6
end
section
open Sy
def F344_1 (R:Ko) (x2:Addr) (x4:Addr) (x10:Option Addr) (x14:Int) (x15:Int) (w:World):Prop:=Ct Tryz.prog 338 #[.pointer x10] w fun v124 w20=>onL v124 fun a124 l124 c124=>Sc (x2.add 1) (.slice a124 l124 c124) w20 fun w21=>La 8 x2 w21 fun x126=>Sa 8 x4 x126 w21 fun w22=>Rd Tryz.prog (Instr.loadAt 47 (.pointer (some x4))) w22 fun r0=>R (.tuple #[r0,.int .i64 x14,.int .i64 x15,.nilIface]) w22
def F344_5 (R:Ko) (x2:Addr) (x4:Addr) (x10:Option Addr) (x14:Int) (x15:Int) (x16:Int) (x115:Bool) (w:World):Prop:=Ifm x115 (Lc ((x2.add 2).add 5) w fun v119=>onI v119 fun x119=>Sc ((x2.add 2).add 5) (.int .i64 (IntKind.i64.wrap (x119+1))) w fun w23=>F344_1 R x2 x4 x10 x14 x16 w23) (F344_1 R x2 x4 x10 x14 x15 w)
def F344_4 (R:Ko) (x2:Addr) (x4:Addr) (x10:Option Addr) (x11:Addr) (x14:Int) (x15:Int) (x16:Int) (w:World):Prop:=Lc (x11.add 3) w fun v110=>onI v110 fun x110=>Ifm (decide ((x110:Int) > 0)) (F344_5 R x2 x4 x10 x14 x15 x16 (decide ((x16:Int) > 0)) w) (F344_5 R x2 x4 x10 x14 x15 x16 false w)
def F344_2 (R:Ko) (x1:Int) (x2:Addr) (x4:Addr) (x10:Option Addr) (x11:Addr) (x14:Int) (x15:Int) (w:World):Prop:=Ct Tryz.prog 386 #[.pointer x10] w fun v100 w24=>on2 v100 fun y100_0 y100_1=>onG y100_0 fun x100_0=>Lc (x11.add 2) w24 fun v104=>onI v104 fun x104=>Lc (x11.add 3) w24 fun v107=>onI v107 fun x107=>F344_4 R x2 x4 x10 x11 x14 x15 (IntKind.i64.wrap ((IntKind.i64.wrap ((IntKind.i64.wrap (x1+1)) - x104)) - x107)) w24
def F344_3 (R:Ko) (x1:Int) (x2:Addr) (x4:Addr) (x10:Option Addr) (x11:Addr) (x14:Int) (x15:Int) (w:World):Prop:=Lc ((x2.add 2).add 3) w fun v87=>onI v87 fun x87=>Sc ((x2.add 2).add 3) (.int .i64 (IntKind.i64.wrap (x87+1))) w fun w25=>Ifm ((x14:Int) == 0) (Lc ((x2.add 2).add 4) w25 fun v95=>onI v95 fun x95=>Sc ((x2.add 2).add 4) (.int .i64 (IntKind.i64.wrap (x95+1))) w25 fun w26=>F344_2 R x1 x2 x4 x10 x11 2 x15 w26) (F344_2 R x1 x2 x4 x10 x11 x14 x15 w25)
def F344_6 (R:Ko) (x1:Int) (x2:Addr) (x4:Addr) (x10:Option Addr) (x11:Addr) (x14:Int) (x15:Int) (x83:Bool) (w:World):Prop:=Ifm x83 (Ifm ((x14:Int) == 0) (Lc ((x2.add 2).add 4) w fun v95=>onI v95 fun x95=>Sc ((x2.add 2).add 4) (.int .i64 (IntKind.i64.wrap (x95+1))) w fun w27=>F344_2 R x1 x2 x4 x10 x11 2 x15 w27) (F344_2 R x1 x2 x4 x10 x11 x14 x15 w)) (F344_1 R x2 x4 x10 x14 x15 w)
def F344_0 (R:Ko) (x1:Int) (x2:Addr) (x4:Addr) (x10:Option Addr) (x11:Addr) (x13:Bool) (w:World):Prop:=La 4 x11 w fun x77=>Ct Tryz.prog 385 #[.pointer x10,.int .i64 0,.agg x77] w fun v78 w28=>Lc (x11.add 0) w28 fun v81=>onI v81 fun x81=>Ifm ((x81:Int) == 0) (F344_3 R x1 x2 x4 x10 x11 1 0 w28) (F344_6 R x1 x2 x4 x10 x11 0 0 x13 w28)
def F344 (R:Ko) (x0:Array Value) (x1:Int) (w:World):Prop:=New (.cells (.agg x0:Value).cells 47) w fun x2 w1=>New (.cells (.agg #[.int .i64 0,.slice none 0 0,.int .i64 0,.int .i64 0,.int .i64 0,.int .i64 0,.int .i64 0,.int .i64 0]:Value).cells 47) w1 fun x4 w2=>New (.cells (.agg #[.int .i64 0,.slice none 0 0,.int .i64 0,.int .i64 0,.int .i64 0,.int .i64 0,.int .i64 0,.int .i64 0]:Value).cells 47) w2 fun x8 w3=>Sa 8 x8 (#[.int .i64 0,.slice none 0 0,.int .i64 0,.int .i64 0,.int .i64 0,.int .i64 0,.int .i64 0,.int .i64 0]) w3 fun w4=>La 8 x2 w4 fun x18=>Ct Tryz.prog 250 #[.agg x18] w4 fun v19 w5=>Nl v19 fun x21=>Ifm (!x21) (La 8 x8 w5 fun x22=>Sa 8 x4 x22 w5 fun w6=>Rd Tryz.prog (Instr.loadAt 47 (.pointer (some x4))) w6 fun r0=>R (.tuple #[r0,.int .i64 0,.int .i64 0,v19]) w6) (Ct Tryz.prog 302 #[.int .i64 x1,.int .i64 0,.int .i64 1073741823] w5 fun v26 w7=>onB v26 fun x26=>Ifm (!x26) (La 8 x8 w7 fun x28=>Sa 8 x4 x28 w7 fun w8=>Rd Tryz.prog (Instr.loadAt 47 (.pointer (some x4))) w8 fun r0=>R (.tuple #[r0,.int .i64 0,.int .i64 0,.iface 129 (.int .i64 1)]) w8) (La 8 x2 w7 fun x31=>Ct Tryz.prog 383 #[.agg x31] w7 fun v32 w9=>onB v32 fun x32=>Ifm (!x32) (La 8 x8 w9 fun x34=>Sa 8 x4 x34 w9 fun w10=>Rd Tryz.prog (Instr.loadAt 47 (.pointer (some x4))) w10 fun r0=>R (.tuple #[r0,.int .i64 0,.int .i64 0,.iface 129 (.int .i64 50)]) w10) (Lc ((x2.add 2).add 0) w9 fun v39=>onI v39 fun x39=>Ifm ((x39:Int) == 1073741824) (La 8 x8 w9 fun x41=>Sa 8 x4 x41 w9 fun w11=>Rd Tryz.prog (Instr.loadAt 47 (.pointer (some x4))) w11 fun r0=>R (.tuple #[r0,.int .i64 0,.int .i64 0,.iface 129 (.int .i64 60)]) w11) (La 8 x2 w9 fun x43=>Ct Tryz.prog 336 #[.agg x43] w9 fun v44 w12=>onP v44 fun x44=>Ct Tryz.prog 384 #[.pointer x44] w12 fun v47 w13=>on2 v47 fun y47_0 y47_1=>onG y47_0 fun x47_0=>onB y47_1 fun x47_1=>New (.cells (.agg #[.int .i64 0,.int .i64 0,.int .i64 0,.int .i64 0]:Value).cells 37) w13 fun x11 w14=>Sa 4 x11 x47_0 w14 fun w15=>Lc ((x2.add 2).add 0) w15 fun v52=>onI v52 fun x52=>Sc ((x2.add 2).add 0) (.int .i64 (IntKind.i64.wrap (x52+1))) w15 fun w16=>Lc ((x2.add 2).add 1) w16 fun v58=>onI v58 fun x58=>Sc ((x2.add 2).add 1) (.int .i64 (IntKind.i64.wrap (x58+1))) w16 fun w17=>Lc (x11.add 0) w17 fun v63=>onI v63 fun x63=>Sc (x11.add 0) (.int .i64 (IntKind.i64.wrap (x63 - 1))) w17 fun w18=>Lc (x11.add 1) w18 fun v67=>onI v67 fun x67=>Lc (x11.add 1) w18 fun v70=>onI v70 fun x70=>Ifm (decide ((x70:Int) > 0)) (Lc (x11.add 1) w18 fun v73=>onI v73 fun x73=>Sc (x11.add 1) (.int .i64 (IntKind.i64.wrap (x73 - 1))) w18 fun w19=>F344_0 R x1 x2 x4 x44 x11 ((x67:Int) == 1) w19) (F344_0 R x1 x2 x4 x44 x11 ((x67:Int) == 1) w18)))))
noncomputable def b344:Code:=Tryz.f344.body.getD .skip
def q344_1:List Bool:=[false,true,true,true,true,true,true,true,true,true,true,true,true,true,true]
def L344_1 (F:Addr→Addr→Option Addr→Int→Int→World→Prop):Env→World→Prop:=fun ρ w=>onA (ρ 2) fun x2=>onA (ρ 4) fun x4=>onP (ρ 10) fun x10=>onI (ρ 14) fun x14=>onI (ρ 15) fun x15=>F x2 x4 x10 x14 x15 w
def q344_5:List Bool:=[true,true,true,true,false,true,false,false,true,true,true,true,true,true,true,true,true,true,true,true,true]
def L344_5 (F:Addr→Addr→Option Addr→Int→Int→Int→Bool→World→Prop):Env→World→Prop:=fun ρ w=>onA (ρ 2) fun x2=>onA (ρ 4) fun x4=>onP (ρ 10) fun x10=>onI (ρ 14) fun x14=>onI (ρ 15) fun x15=>onI (ρ 16) fun x16=>onB (ρ 115) fun x115=>F x2 x4 x10 x14 x15 x16 x115 w
def q344_4:List Bool:=[false,true,true,true,false,true,false,false,true,true,true,true,true,true,true,true,true,true,true,true,true]
def L344_4 (F:Addr→Addr→Option Addr→Addr→Int→Int→Int→World→Prop):Env→World→Prop:=fun ρ w=>onA (ρ 2) fun x2=>onA (ρ 4) fun x4=>onP (ρ 10) fun x10=>onA (ρ 11) fun x11=>onI (ρ 14) fun x14=>onI (ρ 15) fun x15=>onI (ρ 16) fun x16=>F x2 x4 x10 x11 x14 x15 x16 w
def q344_2:List Bool:=[false,true,false,true,false,false,true,true,true,true,true,true,true,true,true,true,true,true,true]
def L344_2 (F:Int→Addr→Addr→Option Addr→Addr→Int→Int→World→Prop):Env→World→Prop:=fun ρ w=>onI (ρ 1) fun x1=>onA (ρ 2) fun x2=>onA (ρ 4) fun x4=>onP (ρ 10) fun x10=>onA (ρ 11) fun x11=>onI (ρ 14) fun x14=>onI (ρ 15) fun x15=>F x1 x2 x4 x10 x11 x14 x15 w
def q344_3:List Bool:=[false,true,true,false,false,false,false,true,true,true,true,true,true,true,true,true,true,true,true,true]
def L344_3 (F:Int→Addr→Addr→Option Addr→Addr→Int→Int→World→Prop):Env→World→Prop:=fun ρ w=>onI (ρ 1) fun x1=>onA (ρ 2) fun x2=>onA (ρ 4) fun x4=>onP (ρ 10) fun x10=>onA (ρ 11) fun x11=>onI (ρ 14) fun x14=>onI (ρ 15) fun x15=>F x1 x2 x4 x10 x11 x14 x15 w
def q344_6:List Bool:=[true,true,false,false,false,false,false,false,false,true,true,true,true,true,true,true,true,true,true,true,true,true]
def L344_6 (F:Int→Addr→Addr→Option Addr→Addr→Int→Int→Bool→World→Prop):Env→World→Prop:=fun ρ w=>onI (ρ 1) fun x1=>onA (ρ 2) fun x2=>onA (ρ 4) fun x4=>onP (ρ 10) fun x10=>onA (ρ 11) fun x11=>onI (ρ 14) fun x14=>onI (ρ 15) fun x15=>onB (ρ 83) fun x83=>F x1 x2 x4 x10 x11 x14 x15 x83 w
def q344_0:List Bool:=[false,true,true,true,true,true,true,true,true,true,true,true]
def L344_0 (F:Int→Addr→Addr→Option Addr→Addr→Bool→World→Prop):Env→World→Prop:=fun ρ w=>onI (ρ 1) fun x1=>onA (ρ 2) fun x2=>onA (ρ 4) fun x4=>onP (ρ 10) fun x10=>onA (ρ 11) fun x11=>onB (ρ 13) fun x13=>F x1 x2 x4 x10 x11 x13 w
abbrev T344 (z:Fr) (R:Ko) (p:List Bool) (ρ:Env) (w:World):Prop:=TW z Tryz.prog 129 (segTodo b344 p) (QR Tryz.prog [.cell 4 47,.tmp 5,.tmp 6,.tmp 7] R) ρ w
theorem s344_1 (R:Ko):∀ ρ w,(L344_1 (F344_1 R)) ρ w→T344 z0 R q344_1 ρ w:=by
 intro ρ w h
 obtain ⟨x2,e2,h⟩:=onA_of h
 obtain ⟨x4,e4,h⟩:=onA_of h
 obtain ⟨x10,e10,h⟩:=onP_of h
 obtain ⟨x14,e14,h⟩:=onI_of h
 obtain ⟨x15,e15,h⟩:=onI_of h
 rw [← upds_same (ρ:=ρ) [(2,.pointer (some x2)),(4,.pointer (some x4)),(10,.pointer x10),(14,.int .i64 x14),(15,.int .i64 x15)] (alc e2 (alc e4 (alc e10 (alc e14 (alc e15 aln)))))]
 exact sg (cuts:=[]) trivial h
theorem s344_5 (R:Ko):∀ ρ w,(L344_5 (F344_5 R)) ρ w→T344 z0 R q344_5 ρ w:=by
 intro ρ w h
 obtain ⟨x2,e2,h⟩:=onA_of h
 obtain ⟨x4,e4,h⟩:=onA_of h
 obtain ⟨x10,e10,h⟩:=onP_of h
 obtain ⟨x14,e14,h⟩:=onI_of h
 obtain ⟨x15,e15,h⟩:=onI_of h
 obtain ⟨x16,e16,h⟩:=onI_of h
 obtain ⟨x115,e115,h⟩:=onB_of h
 rw [← upds_same (ρ:=ρ) [(2,.pointer (some x2)),(4,.pointer (some x4)),(10,.pointer x10),(14,.int .i64 x14),(15,.int .i64 x15),(16,.int .i64 x16),(115,.bool x115)] (alc e2 (alc e4 (alc e10 (alc e14 (alc e15 (alc e16 (alc e115 aln)))))))]
 exact sg (cuts:=[(q344_1,L344_1 (F344_1 R))]) ⟨s344_1 R,trivial⟩ h
theorem s344_4 (R:Ko):∀ ρ w,(L344_4 (F344_4 R)) ρ w→T344 z0 R q344_4 ρ w:=by
 intro ρ w h
 obtain ⟨x2,e2,h⟩:=onA_of h
 obtain ⟨x4,e4,h⟩:=onA_of h
 obtain ⟨x10,e10,h⟩:=onP_of h
 obtain ⟨x11,e11,h⟩:=onA_of h
 obtain ⟨x14,e14,h⟩:=onI_of h
 obtain ⟨x15,e15,h⟩:=onI_of h
 obtain ⟨x16,e16,h⟩:=onI_of h
 rw [← upds_same (ρ:=ρ) [(2,.pointer (some x2)),(4,.pointer (some x4)),(10,.pointer x10),(11,.pointer (some x11)),(14,.int .i64 x14),(15,.int .i64 x15),(16,.int .i64 x16)] (alc e2 (alc e4 (alc e10 (alc e11 (alc e14 (alc e15 (alc e16 aln)))))))]
 exact sg (cuts:=[(q344_5,L344_5 (F344_5 R))]) ⟨s344_5 R,trivial⟩ h
theorem s344_2 (R:Ko):∀ ρ w,(L344_2 (F344_2 R)) ρ w→T344 z0 R q344_2 ρ w:=by
 intro ρ w h
 obtain ⟨x1,e1,h⟩:=onI_of h
 obtain ⟨x2,e2,h⟩:=onA_of h
 obtain ⟨x4,e4,h⟩:=onA_of h
 obtain ⟨x10,e10,h⟩:=onP_of h
 obtain ⟨x11,e11,h⟩:=onA_of h
 obtain ⟨x14,e14,h⟩:=onI_of h
 obtain ⟨x15,e15,h⟩:=onI_of h
 rw [← upds_same (ρ:=ρ) [(1,.int .i64 x1),(2,.pointer (some x2)),(4,.pointer (some x4)),(10,.pointer x10),(11,.pointer (some x11)),(14,.int .i64 x14),(15,.int .i64 x15)] (alc e1 (alc e2 (alc e4 (alc e10 (alc e11 (alc e14 (alc e15 aln)))))))]
 exact sg (cuts:=[(q344_4,L344_4 (F344_4 R))]) ⟨s344_4 R,trivial⟩ h
theorem s344_3 (R:Ko):∀ ρ w,(L344_3 (F344_3 R)) ρ w→T344 z0 R q344_3 ρ w:=by
 intro ρ w h
 obtain ⟨x1,e1,h⟩:=onI_of h
 obtain ⟨x2,e2,h⟩:=onA_of h
 obtain ⟨x4,e4,h⟩:=onA_of h
 obtain ⟨x10,e10,h⟩:=onP_of h
 obtain ⟨x11,e11,h⟩:=onA_of h
 obtain ⟨x14,e14,h⟩:=onI_of h
 obtain ⟨x15,e15,h⟩:=onI_of h
 rw [← upds_same (ρ:=ρ) [(1,.int .i64 x1),(2,.pointer (some x2)),(4,.pointer (some x4)),(10,.pointer x10),(11,.pointer (some x11)),(14,.int .i64 x14),(15,.int .i64 x15)] (alc e1 (alc e2 (alc e4 (alc e10 (alc e11 (alc e14 (alc e15 aln)))))))]
 exact sg (cuts:=[(q344_2,L344_2 (F344_2 R))]) ⟨s344_2 R,trivial⟩ h
theorem s344_6 (R:Ko):∀ ρ w,(L344_6 (F344_6 R)) ρ w→T344 z0 R q344_6 ρ w:=by
 intro ρ w h
 obtain ⟨x1,e1,h⟩:=onI_of h
 obtain ⟨x2,e2,h⟩:=onA_of h
 obtain ⟨x4,e4,h⟩:=onA_of h
 obtain ⟨x10,e10,h⟩:=onP_of h
 obtain ⟨x11,e11,h⟩:=onA_of h
 obtain ⟨x14,e14,h⟩:=onI_of h
 obtain ⟨x15,e15,h⟩:=onI_of h
 obtain ⟨x83,e83,h⟩:=onB_of h
 rw [← upds_same (ρ:=ρ) [(1,.int .i64 x1),(2,.pointer (some x2)),(4,.pointer (some x4)),(10,.pointer x10),(11,.pointer (some x11)),(14,.int .i64 x14),(15,.int .i64 x15),(83,.bool x83)] (alc e1 (alc e2 (alc e4 (alc e10 (alc e11 (alc e14 (alc e15 (alc e83 aln))))))))]
 exact sg (cuts:=[(q344_1,L344_1 (F344_1 R)),(q344_2,L344_2 (F344_2 R))]) ⟨s344_1 R,s344_2 R,trivial⟩ h
theorem s344_0 (R:Ko):∀ ρ w,(L344_0 (F344_0 R)) ρ w→T344 z0 R q344_0 ρ w:=by
 intro ρ w h
 obtain ⟨x1,e1,h⟩:=onI_of h
 obtain ⟨x2,e2,h⟩:=onA_of h
 obtain ⟨x4,e4,h⟩:=onA_of h
 obtain ⟨x10,e10,h⟩:=onP_of h
 obtain ⟨x11,e11,h⟩:=onA_of h
 obtain ⟨x13,e13,h⟩:=onB_of h
 rw [← upds_same (ρ:=ρ) [(1,.int .i64 x1),(2,.pointer (some x2)),(4,.pointer (some x4)),(10,.pointer x10),(11,.pointer (some x11)),(13,.bool x13)] (alc e1 (alc e2 (alc e4 (alc e10 (alc e11 (alc e13 aln))))))]
 exact sg (cuts:=[(q344_3,L344_3 (F344_3 R)),(q344_6,L344_6 (F344_6 R))]) ⟨s344_3 R,s344_6 R,trivial⟩ h
theorem c344 {R:Ko} {x0:Array Value} {x1:Int} {w:World} (h:F344 R x0 x1 w):Ct Tryz.prog 344 #[.agg x0,.int .i64 x1] w R :=
 ctS (args:=[.agg x0,.int .i64 x1]) (body:=b344) (n:=129) (rs:=[.cell 4 47,.tmp 5,.tmp 6,.tmp 7]) Tryz.func344
  (sg (cuts:=[(q344_0,L344_0 (F344_0 R))]) ⟨s344_0 R,trivial⟩ h)
variable {K:Ko} {w:World}
abbrev wr (x:Int):Int:=IntKind.i64.wrap x
def pushT (t:Tk) (j:Jb) (now:Int):Except Int Tk :=
 if validB t=false then .error 270 else if isB now 0 1073741824=false then .error 1 else if mayB { j with a:=now }=false then .error 2
 else if t.jobs.length=8 then .error 40 else .ok { t with jobs:=t.jobs++[{ j with a:=now }] }
def outT (w0:World) (K:Ko):Except Int Tk→Prop
 | .error e=>∀ w',Kp No w0 w'→K (.tuple #[.agg zT.toArray,Er e]) w'
 | .ok t=>∀ v w',Kp No w0 w'→TkAt w' v t→(∀ x,v.ja=some x→w0.heap.size≤x.block)→K (.tuple #[.agg v.cells.toArray,.nilIface]) w'
theorem k266 {v:TkV} {t:Tk} {j:Jb} {now:Int} (hv:TkAt w v t) (h:outT w K (pushT t j now)):Ct Tryz.prog 266 #[.agg v.cells.toArray,.agg j.cells.toArray,I now] w K:=by
 refine c266 ?_
 unfold F266
 refine new_k v.cells fun w1 k1 b1 s1=>?_
 refine new_k j.cells fun w2 k2 j2 s2=>?_
 refine new_k zT fun w3 k3 z3 s3=>?_
 have b3:Bk w3 w.heap.size v.cells 47:=k3.bk (k2.bk b1 id) id
 have j3:Bk w3 w1.heap.size j.cells 37:=k3.bk j2 id
 have k03:=(k1.trans k2).trans k3
 obtain ⟨b,hb⟩:∃ b,b=w.heap.size:=⟨_,rfl⟩
 obtain ⟨x,hx⟩:∃ x,x=w1.heap.size:=⟨_,rfl⟩
 obtain ⟨r,hr⟩:∃ r,r=w2.heap.size:=⟨_,rfl⟩
 rw [← hb] at b3 ⊢
 rw [← hx] at j3 ⊢
 rw [← hr] at z3 ⊢
 simp only [b3.la0 (n:=8) rfl]
 have fail:∀ (w':World) (e:Int),Kp No w3 w'→(∀ w',Kp No w w'→K (.tuple #[.agg zT.toArray,Er e]) w') →
   Sa 8 ⟨r,0,none⟩ zT.toArray w' fun w5=>Rd Tryz.prog (Instr.loadAt 47 (.pointer (some ⟨r,0,none⟩))) w5 fun r0=>K (.tuple #[r0,Er e]) w5:=by
  intro w' e hk he
  exact res_k (c:=zT) (cs:=zT) (k:=fun r0 w4=>K (.tuple #[r0,Er e]) w4) ld47 (hk.bk z3 id) rfl rfl (by simp [zT,oneCell]) fun w4 k4=>he w4 ((k03.trans hk).own k4 (by omega))
 refine k250 (hv.kp k03 fun _ _=>id) fun w4 k4=>?_
 unfold pushT at h
 cases e1:validB t with
 | false =>
  rw [e1] at h
  rw [if_neg (by simp)]
  simp only [SS]
  exact fail w4 270 k4 h
 | true =>
 rw [e1,if_neg (by simp)] at h
 rw [if_pos rfl]
 simp only [SS]
 refine k302 ?_
 cases e2:isB now 0 1073741824 with
 | false=>rw [e2] at h; simp only [SS]; exact fail w4 1 k4 h
 | true =>
 rw [e2,if_neg (by simp)] at h
 simp only [SS]
 refine sc_k (k4.bk j3 id) (by simp [Jb.cells]) rfl fun w5 k5 j5 s5=>?_
 have j5:Bk w5 x (Jb.mk j.n j.c now j.d).cells 37:=j5
 simp only [j5.la0 (n:=4) rfl]
 have b5:Bk w5 b v.cells 47:=k5.bk (k4.bk b3 id) (by omega)
 have z5:Bk w5 r zT 47:=k5.bk (k4.bk z3 id) (by omega)
 have k05:Kp No w w5:=(k03.trans k4).own k5 (by omega)
 refine k329 fun w6 k6=>?_
 have fail':∀ (w':World) (e:Int),Kp No w5 w'→(∀ w',Kp No w w'→K (.tuple #[.agg zT.toArray,Er e]) w') →
   Sa 8 ⟨r,0,none⟩ zT.toArray w' fun w5=>Rd Tryz.prog (Instr.loadAt 47 (.pointer (some ⟨r,0,none⟩))) w5 fun r0=>K (.tuple #[r0,Er e]) w5:=by
  intro w' e hk he
  exact res_k (c:=zT) (cs:=zT) (k:=fun r0 w4=>K (.tuple #[r0,Er e]) w4) ld47 (hk.bk z5 id) rfl rfl (by simp [zT,oneCell]) fun w4 k4=>he w4 ((k05.trans hk).own k4 (by omega))
 cases e3:mayB (Jb.mk j.n j.c now j.d) with
 | false=>rw [if_pos e3] at h; simp only [SS]; exact fail' w6 2 k6 h
 | true =>
 rw [if_neg (by simp [e3])] at h
 have b6:Bk w6 b v.cells 47:=k6.bk b5 id
 simp only [SS,b6.la0 (n:=8) rfl]
 have k06:=k05.trans k6
 refine k336 (hv.kp k06 fun _ _=>id) fun q a w7 k7 hQ hqlt=>?_
 have j7:Bk w7 x (Jb.mk j.n j.c now j.d).cells 37:=k7.bk (k6.bk j5 id) id
 simp only [SS,j7.la0 (n:=4) rfl]
 obtain ⟨l,c,fi,f,hq⟩:=hQ
 have hsz5:w3.heap.size≤w6.heap.size:=by have:=k4.size; have:=k6.size; omega
 refine k337 hq (Jb.mk j.n j.c now j.d) (fun e8 w8 k8=>?_) (fun e8 a8 w8 k8 hQ8=>?_)
 ·rw [if_pos e8] at h
  simp only [SS]
  exact fail' w8 40 ((k6.trans k7).trans k8) h
 ·rw [if_neg (by omega)] at h
  simp only [SS]
  obtain ⟨l8,c8,fi8,f8,hq8⟩:=hQ8
  have hk8:Kp No w6 w8:=k7.step k8 fun i hi hx=>by
   rcases hx with hx | ⟨y,hy,hx⟩
   ·have:=hq.hB; omega
   ·have hr:=hq.ring; rw [hy] at hr; have:=(own_lt hr (b:=y.block) rfl).1; omega
  refine k338 hq8 fun a9 l9 c9 w9 k9 ho9 hl9=>?_
  have hk9:=hk8.trans k9
  have b9:Bk w9 b v.cells 47:=hk9.bk b6 id
  simp only [SS]
  refine sc_k b9 (by simp [TkV.cells]) rfl fun w10 k10 b10 s10=>?_
  have b10:Bk w10 b (TkV.mk v.prio a9 l9 c9 v.acc).cells 47:=b10
  have z10:Bk w10 r zT 47:=k10.bk (hk9.bk (k6.bk z5 id) id) (by omega)
  simp only [b10.la0 (n:=8) rfl]
  refine res_k (c:=zT) (cs:=(TkV.mk v.prio a9 l9 c9 v.acc).cells) (k:=fun r0 w4=>K (.tuple #[r0,.nilIface]) w4) ld47 z10 rfl rfl (by simp [TkV.cells,oneCell]) fun w11 k11=>?_
  have hs8:w6.heap.size≤w8.heap.size:=hk8.size
  have ho11:=own_kp (own_kp ho9 k10 fun y hy e=>by have:=(own_lt ho9 hy).1; omega) k11 fun y hy e=>by have:=(own_lt ho9 hy).1; omega
  refine h _ _ (((k06.trans hk9).own k10 (by omega)).own k11 (by omega)) ⟨hv.prio,hv.acc,own_base ho11 (Nat.zero_le _),by have:=hv.few; simp; omega⟩ fun y hy=>?_
  rw [show (TkV.mk v.prio a9 l9 c9 v.acc).ja=a9 from rfl] at hy
  subst hy
  have:=(own_lt ho9 (b:=y.block) rfl).1
  have:=k06.size
  omega
def lateT (a:Ac) (over due:Int):Ac × Int:=if 0<due∧0<over then ({ a with t:=wr (a.t+1) },over) else (a,0)
def stepJ (j:Jb):Jb:={ j with n:=wr (j.n - 1),c:=if 0<j.c then wr (j.c - 1) else j.c }
def incT (a:Ac):Ac:={ a with g:=wr (a.g+1),o:=wr (a.o+1) }
def runT (t:Tk) (now:Int):Except Int (Tk × Int × Int) :=
 if validB t=false then .error 270 else if isB now 0 1073741823=false then .error 1 else
 match t.jobs with
 | []=>.error 50
 | j :: rest=>if t.acc.g=1073741824 then .error 60 else
  if wr (j.n - 1)=0 then (let x:=lateT { incT t.acc with d:=wr (t.acc.d+1) } (wr (wr (wr (now+1) - j.a) - j.d)) j.d
   .ok ({ t with jobs:=rest,acc:=x.1 },1,x.2))
  else if j.c=1 then (let x:=lateT { incT t.acc with c:=wr (t.acc.c+1) } (wr (wr (wr (now+1) - j.a) - j.d)) j.d
   .ok ({ t with jobs:=rest,acc:=x.1 },2,x.2))
  else .ok ({ t with jobs:=stepJ j :: rest,acc:=incT t.acc },0,0)
structure RF (w0 w:World) (b r q:Nat) (a:Option Addr) (js:List Jb) (tv:TkV):Prop where
 k:Kp No w0 w
 hb:Bk w b tv.cells 47
 hr:Bk w r zT 47
 br:b≠r
 b0:w0.heap.size≤b
 r0:w0.heap.size≤r
 Q:QA w w0.heap.size q a js
theorem RF.inq {w0:World} {b r q:Nat} {a:Option Addr} {js:List Jb} {tv:TkV} (h:RF w0 w b r q a js tv) {y:Nat} (hy:inQ q a y):w0.heap.size≤y∧y≠b∧y≠r:=by
 obtain ⟨l,c,fi,f,hq⟩:=h.Q
 rcases hy with rfl | ⟨x,hx,rfl⟩
 ·exact ⟨hq.hB,ne_of_bk hq.hd h.hb fun e=>by injection e with _ e; simp at e,ne_of_bk hq.hd h.hr fun e=>by injection e with _ e; simp at e⟩
 ·have hr:=hq.ring
  rw [hx] at hr
  rcases own_bk hr with ⟨h',_⟩ | ⟨g,cur,hg,_,hBg,hb,_⟩
  ·cases h'
  ·injection hg with hg
   subst hg
   exact ⟨hBg,ne_of_bk hb h.hb fun e=>by injection e with _ e; simp at e,ne_of_bk hb h.hr fun e=>by injection e with _ e; simp at e⟩
theorem RF.set {w0 w':World} {b r q:Nat} {a:Option Addr} {js:List Jb} {tv tv':TkV} (h:RF w0 w b r q a js tv) (k:Kp (·=b) w w') (hb:Bk w' b tv'.cells 47):RF w0 w' b r q a js tv':=by
 obtain ⟨l,c,fi,f,hq⟩:=h.Q
 exact ⟨h.k.own k h.b0,hb,k.bk h.hr fun e=>h.br e.symm,h.br,h.b0,h.r0,l,c,fi,f,hq.kp k fun y hy e=>(h.inq hy).2.1 e⟩
def GR (w0:World) (K:Ko) (prio:Int) (acc:Ac) (js:List Jb) (what late:Int):Prop :=
 ∀ v w',Kp No w0 w'→TkAt w' v ⟨prio,js,acc⟩→(∀ x,v.ja=some x→w0.heap.size≤x.block)→K (.tuple #[.agg v.cells.toArray,I what,I late,.nilIface]) w'
section
variable {w0:World} {b r q x:Nat} {a:Option Addr} {js:List Jb} {tv:TkV} {now x14 x15 x16:Int}
theorem p344_1 (H:RF w0 w b r q a js tv) (h8:js.length≤8) (h:GR w0 K tv.prio tv.acc js x14 x15):F344_1 K ⟨b,0,none⟩ ⟨r,0,none⟩ (some ⟨q,0,none⟩) x14 x15 w:=by
 unfold F344_1
 obtain ⟨l,c,fi,f,hq⟩:=H.Q
 refine k338 hq fun a9 l9 c9 w9 k9 ho9 hl9=>?_
 simp only [SS]
 refine sc_k (k9.bk H.hb id) (by simp [TkV.cells]) rfl fun w10 k10 b10 s10=>?_
 have b10:Bk w10 b (TkV.mk tv.prio a9 l9 c9 tv.acc).cells 47:=b10
 have z10:Bk w10 r zT 47:=k10.bk (k9.bk H.hr id) fun e=>H.br e.symm
 simp only [b10.la0 (n:=8) rfl]
 refine res_k (c:=zT) (cs:=(TkV.mk tv.prio a9 l9 c9 tv.acc).cells) (k:=fun r0 w4=>K (.tuple #[r0,I x14,I x15,.nilIface]) w4) ld47 z10 rfl rfl (by simp [TkV.cells,oneCell]) fun w11 k11=>?_
 have hlb:=H.hb.lt; have hlr:=H.hr.lt
 have ho11:=own_kp (own_kp ho9 k10 fun y hy e=>by have:=(own_lt ho9 hy).1; omega) k11 fun y hy e=>by have:=(own_lt ho9 hy).1; omega
 refine h _ _ (((H.k.trans k9).own k10 H.b0).own k11 H.r0) ⟨rfl,rfl,own_base ho11 (Nat.zero_le _),h8⟩ fun y hy=>?_
 rw [show (TkV.mk tv.prio a9 l9 c9 tv.acc).ja=a9 from rfl] at hy
 subst hy
 have:=(own_lt ho9 (b:=y.block) rfl).1
 have:=H.k.size
 omega
theorem p344_5 {y:Bool} (H:RF w0 w b r q a js tv) (h8:js.length≤8) (h:if y=true then GR w0 K tv.prio { tv.acc with t:=wr (tv.acc.t+1) } js x14 x16 else GR w0 K tv.prio tv.acc js x14 x15):F344_5 K ⟨b,0,none⟩ ⟨r,0,none⟩ (some ⟨q,0,none⟩) x14 x15 x16 y w:=by
 unfold F344_5
 cases y with
 | false=>simp only [SS]; exact p344_1 H h8 (by simpa using h)
 | true =>
  simp only [SS,H.hb.rd (o:=7) (v:=I tv.acc.t) rfl]
  refine sc_k H.hb (by simp [TkV.cells]) rfl fun w1 k1 b1 s1=>?_
  exact p344_1 (tv:=⟨tv.prio,tv.ja,tv.jl,tv.jc,{ tv.acc with t:=wr (tv.acc.t+1) }⟩) (H.set k1 b1) h8 (by simpa using h)
theorem p344_2 {j:Jb} (H:RF w0 w b r q a js tv) (h8:js.length≤8) (hne:0<js.length) (hx:Bk w x j.cells 37) (hxq:¬ inQ q a x)
  (h:GR w0 K tv.prio (lateT tv.acc (wr (wr (wr (now+1) - j.a) - j.d)) j.d).1 (js.drop 1) x14 (lateT tv.acc (wr (wr (wr (now+1) - j.a) - j.d)) j.d).2) :
  F344_2 K now ⟨b,0,none⟩ ⟨r,0,none⟩ (some ⟨q,0,none⟩) ⟨x,0,none⟩ x14 0 w:=by
 unfold F344_2
 obtain ⟨l,c,fi,f,hq⟩:=id H.Q
 refine k386 hq hne fun w1 k1 hQ1=>?_
 have hx1:=k1.bk hx hxq
 have hx1:Bk w1 x j.cells 37:=hx1
 have H1:RF w0 w1 b r q a (js.drop 1) tv:=⟨H.k.step k1 fun i hi hy=>by have:=(H.inq hy).1; omega,k1.bk H.hb fun hy=>(H.inq hy).2.1 rfl,k1.bk H.hr fun hy=>(H.inq hy).2.2 rfl,H.br,H.b0,H.r0,hQ1⟩
 have h8':(js.drop 1).length≤8:=by simp; omega
 simp only [SS,hx1.rd (o:=2) (v:=I j.a) rfl,hx1.rd (o:=3) (v:=I j.d) rfl]
 unfold F344_4
 simp only [SS,hx1.rd (o:=3) (v:=I j.d) rfl]
 unfold lateT at h
 by_cases e1:j.d > 0
 ·rw [if_pos e1]
  refine p344_5 H1 h8' ?_
  by_cases e2:IntKind.i64.wrap (IntKind.i64.wrap (IntKind.i64.wrap (now+1) - j.a) - j.d) > 0
  ·rw [if_pos ⟨e1,e2⟩] at h; simpa [e2] using h
  ·rw [if_neg (fun z=>e2 z.2)] at h; simpa [e2] using h
 ·rw [if_neg e1]
  refine p344_5 H1 h8' ?_
  rw [if_neg (fun z=>e1 z.1)] at h; simpa using h
theorem k344_go (hk:Kp No w0 w) {j:Jb} {rest:List Jb} (H:RF w0 w b r q a (j :: rest) tv) (h8:rest.length<8) (hx:Bk w x zJ.cells 37) (hxq:¬ inQ q a x) (hxb:w0.heap.size≤x)
  (h:if wr (j.n - 1)=0 then GR w0 K tv.prio (lateT { incT tv.acc with d:=wr (tv.acc.d+1) } (wr (wr (wr (now+1) - j.a) - j.d)) j.d).1 rest 1 (lateT { incT tv.acc with d:=wr (tv.acc.d+1) } (wr (wr (wr (now+1) - j.a) - j.d)) j.d).2
   else if j.c=1 then GR w0 K tv.prio (lateT { incT tv.acc with c:=wr (tv.acc.c+1) } (wr (wr (wr (now+1) - j.a) - j.d)) j.d).1 rest 2 (lateT { incT tv.acc with c:=wr (tv.acc.c+1) } (wr (wr (wr (now+1) - j.a) - j.d)) j.d).2
   else GR w0 K tv.prio (incT tv.acc) (stepJ j :: rest) 0 0):Sa 4 ⟨x,0,none⟩ j.cells.toArray w fun w15=>Lc ((Addr.add ⟨b,0,none⟩ 2).add 0) w15 fun v52=>onI v52 fun x52=>Sc ((Addr.add ⟨b,0,none⟩ 2).add 0) (.int .i64 (IntKind.i64.wrap (x52+1))) w15 fun w16=>Lc ((Addr.add ⟨b,0,none⟩ 2).add 1) w16 fun v58=>onI v58 fun x58=>Sc ((Addr.add ⟨b,0,none⟩ 2).add 1) (.int .i64 (IntKind.i64.wrap (x58+1))) w16 fun w17 =>
   Lc (Addr.add ⟨x,0,none⟩ 0) w17 fun v63=>onI v63 fun x63=>Sc (Addr.add ⟨x,0,none⟩ 0) (.int .i64 (IntKind.i64.wrap (x63 - 1))) w17 fun w18=>Lc (Addr.add ⟨x,0,none⟩ 1) w18 fun v67=>onI v67 fun x67=>Lc (Addr.add ⟨x,0,none⟩ 1) w18 fun v70=>onI v70 fun x70 =>
   Ifm (decide ((x70:Int) > 0)) (Lc (Addr.add ⟨x,0,none⟩ 1) w18 fun v73=>onI v73 fun x73=>Sc (Addr.add ⟨x,0,none⟩ 1) (.int .i64 (IntKind.i64.wrap (x73 - 1))) w18 fun w19=>F344_0 K now ⟨b,0,none⟩ ⟨r,0,none⟩ (some ⟨q,0,none⟩) ⟨x,0,none⟩ ((x67:Int) == 1) w19) (F344_0 K now ⟨b,0,none⟩ ⟨r,0,none⟩ (some ⟨q,0,none⟩) ⟨x,0,none⟩ ((x67:Int) == 1) w18):=by
 have xb:x≠b:=ne_of_bk hx H.hb fun e=>by injection e with _ e; simp at e
 have xr:x≠r:=ne_of_bk hx H.hr fun e=>by injection e with _ e; simp at e
 have own:∀ {w1 w2:World} {tv':TkV},RF w0 w1 b r q a (j :: rest) tv'→Kp (·=x) w1 w2→RF w0 w2 b r q a (j :: rest) tv':=by
  intro w1 w2 tv' H1 k1
  obtain ⟨l,c,fi,f,hq⟩:=id H1.Q
  exact ⟨H1.k.own k1 hxb,k1.bk H1.hb fun e=>xb e.symm,k1.bk H1.hr fun e=>xr e.symm,H1.br,H1.b0,H1.r0,l,c,fi,f,hq.kp k1 fun y hy e=>hxq (e ▸ hy)⟩
 refine sa_k hx rfl (by decide) (Jb.one _) fun w1 k1 x1 _=>?_
 rw [over4 rfl rfl] at x1
 have H1:=own H k1
 simp only [SS,H1.hb.rd (o:=2) (v:=I tv.acc.g) rfl]
 refine sc_k H1.hb (by simp [TkV.cells]) rfl fun w2 k2 b2 _=>?_
 have H2:=H1.set (tv':=⟨tv.prio,tv.ja,tv.jl,tv.jc,{ tv.acc with g:=wr (tv.acc.g+1) }⟩) k2 b2
 have x2:Bk w2 x j.cells 37:=k2.bk x1 xb
 simp only [SS,H2.hb.rd (o:=3) (v:=I tv.acc.o) rfl]
 refine sc_k H2.hb (by simp [TkV.cells]) rfl fun w3 k3 b3 _=>?_
 have H3:=H2.set (tv':=⟨tv.prio,tv.ja,tv.jl,tv.jc,incT tv.acc⟩) k3 b3
 have x3:Bk w3 x j.cells 37:=k3.bk x2 xb
 simp only [SS,x3.rd (o:=0) (v:=I j.n) rfl]
 refine sc_k x3 (by simp [Jb.cells]) rfl fun w4 k4 x4 _=>?_
 have H4:=own H3 k4
 have x4:Bk w4 x (Jb.mk (wr (j.n - 1)) j.c j.a j.d).cells 37:=x4
 simp only [SS,x4.rd (o:=1) (v:=I j.c) rfl]
 have go:∀ w5,RF w0 w5 b r q a (j :: rest) ⟨tv.prio,tv.ja,tv.jl,tv.jc,incT tv.acc⟩→Bk w5 x (stepJ j).cells 37→F344_0 K now ⟨b,0,none⟩ ⟨r,0,none⟩ (some ⟨q,0,none⟩) ⟨x,0,none⟩ (j.c == 1) w5:=by
  intro w5 H5 x5
  unfold F344_0
  simp only [x5.la0 (n:=4) rfl]
  obtain ⟨l,c,fi,f,hq⟩:=id H5.Q
  refine k385 hq (i:=0) (by simp) (stepJ j) fun w6 k6 hQ6=>?_
  have x6:Bk w6 x (stepJ j).cells 37:=k6.bk x5 hxq
  have H6:RF w0 w6 b r q a (stepJ j :: rest) ⟨tv.prio,tv.ja,tv.jl,tv.jc,incT tv.acc⟩:=⟨H5.k.step k6 fun i hi hy=>by have:=(H5.inq hy).1; omega,k6.bk H5.hb fun hy=>(H5.inq hy).2.1 rfl,k6.bk H5.hr fun hy=>(H5.inq hy).2.2 rfl,H5.br,H5.b0,H5.r0,hQ6⟩
  have h8':(stepJ j :: rest).length≤8:=by simp; omega
  simp only [SS,x6.rd (o:=0) (v:=I (wr (j.n - 1))) rfl]
  by_cases e1:wr (j.n - 1)=0
  ·rw [if_pos e1] at h ⊢
   unfold F344_3
   simp only [SS,H6.hb.rd (o:=5) (v:=I tv.acc.d) rfl]
   refine sc_k H6.hb (by simp [TkV.cells]) rfl fun w7 k7 b7 _=>?_
   have H7:=H6.set (tv':=⟨tv.prio,tv.ja,tv.jl,tv.jc,{ incT tv.acc with d:=wr (tv.acc.d+1) }⟩) k7 b7
   rw [if_neg (by omega)]
   exact p344_2 (j:=stepJ j) H7 h8' (by simp) (k7.bk x6 xb) hxq h
  ·rw [if_neg e1] at h ⊢
   unfold F344_6
   by_cases e2:j.c=1
   ·rw [if_pos e2] at h
    rw [e2]
    simp only [SS,show ((1:Int) == 1)=true from rfl]
    simp only [SS,H6.hb.rd (o:=6) (v:=I tv.acc.c) rfl]
    refine sc_k H6.hb (by simp [TkV.cells]) rfl fun w7 k7 b7 _=>?_
    have H7:=H6.set (tv':=⟨tv.prio,tv.ja,tv.jl,tv.jc,{ incT tv.acc with c:=wr (tv.acc.c+1) }⟩) k7 b7
    exact p344_2 (j:=stepJ j) H7 h8' (by simp) (k7.bk x6 xb) hxq h
   ·rw [if_neg e2] at h
    rw [show (j.c == 1)=false by simpa using e2]
    simp only [SS]
    exact p344_1 H6 h8' h
 by_cases e1:j.c > 0
 ·rw [if_pos e1]
  refine sc_k x4 (by simp [Jb.cells]) rfl fun w5 k5 x5 _=>?_
  refine go w5 (own H4 k5) ?_
  have:stepJ j=⟨wr (j.n - 1),wr (j.c - 1),j.a,j.d⟩:=by unfold stepJ; rw [if_pos e1]
  rw [this]; exact x5
 ·rw [if_neg e1]
  refine go w4 H4 ?_
  have:stepJ j=⟨wr (j.n - 1),j.c,j.a,j.d⟩:=by unfold stepJ; rw [if_neg e1]
  rw [this]; exact x4
end
def outR (w0:World) (K:Ko):Except Int (Tk × Int × Int)→Prop
 | .error e=>∀ w',Kp No w0 w'→K (.tuple #[.agg zT.toArray,I 0,I 0,Er e]) w'
 | .ok (t,what,late)=>∀ v w',Kp No w0 w'→TkAt w' v t→(∀ x,v.ja=some x→w0.heap.size≤x.block)→K (.tuple #[.agg v.cells.toArray,I what,I late,.nilIface]) w'
theorem k344 {v:TkV} {t:Tk} {now:Int} (hv:TkAt w v t) (h:outR w K (runT t now)):Ct Tryz.prog 344 #[.agg v.cells.toArray,I now] w K:=by
 refine c344 ?_
 unfold F344
 refine new_k v.cells fun w1 k1 b1 s1=>?_
 refine new_k zT fun w2 k2 z2 s2=>?_
 refine new_k zT fun w3 k3 n3 s3=>?_
 have b3:Bk w3 w.heap.size v.cells 47:=k3.bk (k2.bk b1 id) id
 have z3:Bk w3 w1.heap.size zT 47:=k3.bk z2 id
 have k03:=(k1.trans k2).trans k3
 obtain ⟨b,hb⟩:∃ b,b=w.heap.size:=⟨_,rfl⟩
 obtain ⟨r,hr⟩:∃ r,r=w1.heap.size:=⟨_,rfl⟩
 obtain ⟨n,hn⟩:∃ n,n=w2.heap.size:=⟨_,rfl⟩
 rw [← hb] at b3 ⊢
 rw [← hr] at z3 ⊢
 rw [← hn] at n3 ⊢
 refine sa_k (cs:=zT) n3 rfl (by decide) (by simp [zT,oneCell]) fun w4 k4 n4 s4=>?_
 rw [over_all _ _ rfl] at n4
 have b4:Bk w4 b v.cells 47:=k4.bk b3 (by omega)
 have z4:Bk w4 r zT 47:=k4.bk z3 (by omega)
 have k04:Kp No w w4:=k03.own k4 (by omega)
 simp only [b4.la0 (n:=8) rfl]
 have fail:∀ (w':World) (e:Int),Kp No w4 w'→(∀ w',Kp No w w'→K (.tuple #[.agg zT.toArray,I 0,I 0,Er e]) w') →
   La 8 ⟨n,0,none⟩ w' fun cs=>Sa 8 ⟨r,0,none⟩ cs w' fun w5=>Rd Tryz.prog (Instr.loadAt 47 (.pointer (some ⟨r,0,none⟩))) w5 fun r0=>K (.tuple #[r0,I 0,I 0,Er e]) w5:=by
  intro w' e hk he
  have hn':Bk w' n zT 47:=hk.bk n4 id
  rw [hn'.la0 (n:=8) rfl]
  exact res_k (c:=zT) (cs:=zT) (k:=fun r0 w4=>K (.tuple #[r0,I 0,I 0,Er e]) w4) ld47 (hk.bk z4 id) rfl rfl (by simp [zT,oneCell]) fun w4 k4=>he w4 ((k04.trans hk).own k4 (by omega))
 refine k250 (hv.kp k04 fun _ _=>id) fun w5 k5=>?_
 unfold runT at h
 cases e1:validB t with
 | false=>rw [e1] at h; rw [if_neg (by simp)]; simp only [SS]; exact fail w5 270 k5 h
 | true =>
 rw [e1,if_neg (by simp)] at h
 rw [if_pos rfl]
 simp only [SS]
 refine k302 ?_
 cases e2:isB now 0 1073741823 with
 | false=>rw [e2] at h; simp only [SS]; exact fail w5 1 k5 h
 | true =>
 rw [e2,if_neg (by simp)] at h
 have b5:Bk w5 b v.cells 47:=k5.bk b4 id
 simp only [SS,b5.la0 (n:=8) rfl]
 refine k383 fun w6 k6=>?_
 have b6:Bk w6 b v.cells 47:=k6.bk b5 id
 have hjl:=hv.jl
 have k56:=k5.trans k6
 cases e3:t.jobs with
 | nil =>
  rw [e3] at h
  rw [show v.jl=0 by rw [hjl,e3]; rfl]
  simp only [SS,show decide (0<0)=false from rfl]
  exact fail w6 50 k56 h
 | cons j rest =>
 rw [e3] at h
 simp only at h
 have h0:0<v.jl:=by rw [hjl,e3]; simp
 have hacc:=hv.acc
 simp only [SS,h0,decide_true,b6.rd (o:=2+0) (v:=I v.acc.g) rfl,b6.la0 (n:=8) rfl]
 rw [hacc]
 by_cases e4:t.acc.g=1073741824
 ·rw [if_pos e4] at h ⊢
  exact fail w6 60 k56 h
 rw [if_neg e4] at h ⊢
 have k06:=k04.trans k56
 refine k336 (hv.kp k06 fun _ _=>id) fun q a w7 k7 hQ7 hqlt=>?_
 simp only [SS]
 obtain ⟨l,c,fi,f,hq⟩:=id hQ7
 refine k384 hq (by rw [e3]; simp) fun w8 k8=>?_
 simp only [SS]
 refine new_k zJ.cells fun w9 k9 x9 s9=>?_
 have hq8:=hq.kp k8 fun _ _=>id
 have hxq:¬ inQ q a w8.heap.size:=hq8.ne_new (Nat.le_refl _)
 have hq9:=hq8.kp k9 fun _ _=>id
 have k69:=(k7.trans k8).trans k9
 have b9:Bk w9 b v.cells 47:=k69.bk b6 id
 have z9:Bk w9 r zT 47:=k69.bk (k56.bk z4 id) id
 have hs6:=k06.size; have hs7:=k7.size; have hs8:=k8.size
 have H:RF w w9 b r q a (j :: rest) v:=⟨k06.trans k69,b9,z9,by omega,by omega,by omega,QA_base ⟨l,c,fi,f,e3 ▸ hq9⟩ hs6⟩
 rw [show jobC t.jobs 0=j.cells by rw [e3]; rfl]
 have fin:=k344_go (now:=now) (K:=K) (k06.trans k69) H (by have:=hv.few; rw [e3,List.length_cons] at this; omega) x9 hxq (by omega)
 simp only [SS] at fin ⊢
 refine fin ?_
 have hp:=hv.prio
 rw [hp,hacc]
 by_cases e5:wr (j.n - 1)=0
 ·rw [if_pos e5] at h ⊢; exact h
 rw [if_neg e5] at h ⊢
 by_cases e6:j.c=1
 ·rw [if_pos e6] at h ⊢; exact h
 rw [if_neg e6] at h ⊢; exact h
def Frsh (w:World) (v:TkV):Prop:=∀ a,v.ja=some a→w.heap.size≤a.block
theorem k226 {v:TkV} {t:Tk} (hv:TkAt w v t) (h:∀ v' w',Kp No w w'→TkAt w' v' t→Frsh w v'→K (.agg v'.cells.toArray) w'):Ct Tryz.prog 226 #[.agg v.cells.toArray] w K:=by
 refine c226 ?_
 unfold F226
 refine new_k v.cells fun w1 k1 b1 s1=>?_
 refine new_k zT fun w2 k2 z2 s2=>?_
 have b2:Bk w2 w.heap.size v.cells 47:=k2.bk b1 id
 simp only [SS,b2.rd (o:=1) (v:=.slice v.ja v.jl v.jc) rfl]
 have hjl:=hv.jl; have hf:=hv.few
 rw [hjl]
 obtain ⟨i45,z45,E45,hz45⟩:=e45
 refine mk_own E45 (B:=0) (Nat.zero_le _) (by omega) fun w3 hr k3=>?_
 rw [hz45] at hr
 have b3:Bk w3 w.heap.size v.cells 47:=k3.bk b2 id
 have z3:Bk w3 w1.heap.size zT 47:=k3.bk z2 id
 have k03:=(k1.trans k2).trans k3
 have hv3:=hv.kp k03 fun _ _=>id
 simp only [SS,b3.rd (o:=1) (v:=.slice v.ja v.jl v.jc) rfl]
 rw [copy_own (P:=Tryz.prog) (ty:=3) E45 hr hv3.jobs (Nat.le_refl _) (one_flat (fun _=>Jb.one _) _)]
 have hr4:=own_setCs hr (o:=0) (cellsJ t.jobs) (by rw [cellsJ_len]; omega)
 rw [over_all _ _ (by rw [cellsJ_len,Flat_length (sz:=4) fun _=>rfl])] at hr4
 have k4:Kp (·=w2.heap.size) w3 (setCs w3 w2.heap.size 0 (cellsJ t.jobs)):=Kp.setCs _ _ _ _ fun _=>rfl
 have s4:=size_setCs w3 w2.heap.size 0 (cellsJ t.jobs)
 obtain ⟨w4,hw4⟩:∃ y,y=setCs w3 w2.heap.size 0 (cellsJ t.jobs):=⟨_,rfl⟩
 rw [← hw4] at hr4 k4 s4 ⊢
 have b4:Bk w4 w.heap.size v.cells 47:=k4.bk b3 (by omega)
 have z4:Bk w4 w1.heap.size zT 47:=k4.bk z3 (by omega)
 have k04:Kp No w w4:=k03.own k4 (by omega)
 simp only [SS]
 refine sc_k b4 (by simp [TkV.cells]) rfl fun w5 k5 b5 s5=>?_
 have b5:Bk w5 w.heap.size (TkV.mk v.prio (some ⟨w2.heap.size,0,none⟩) t.jobs.length t.jobs.length v.acc).cells 47:=b5
 simp only [b5.la0 (n:=8) rfl]
 refine res_k (c:=zT) (cs:=(TkV.mk v.prio (some ⟨w2.heap.size,0,none⟩) t.jobs.length t.jobs.length v.acc).cells) (k:=fun r0 w4=>K r0 w4) ld47 (k5.bk z4 (by omega)) rfl rfl (by simp [TkV.cells,oneCell]) fun w6 k6=>?_
 have ho6:=own_kp (own_kp hr4 k5 fun y hy e=>by injection hy with hy; have h1:w2.heap.size=y:=hy; omega) k6 fun y hy e=>by injection hy with hy; have h1:w2.heap.size=y:=hy; omega
 exact h _ _ ((k04.own k5 (by omega)).own k6 (by omega)) ⟨hv.prio,hv.acc,ho6,hf⟩ fun a ha=>by injection ha with ha; subst ha; show w.heap.size≤w2.heap.size; omega
theorem app_nil {P:Program} {t e sz ty:Nat} {i:TypeInfo} {z:Value} (E:Elem P t e sz i z) {w:World} {B m l' c':Nat} {a:Option Addr} {ys:List Value} (hs:w.ownsRow B e sz (.slice a l' c') m ys) (hm:m<1000000) (h1:∀ v∈ys,oneCell v=true)
  {k:Ko} (h:∀ a2 l2 c2 w',w'.ownsRow w.heap.size e sz (.slice a2 l2 c2) m ys→Kp No w w'→k (.slice a2 l2 c2) w'):Rv P (Builtin.append_ #[t,t] ty #[.slice none 0 0,.slice a l' c']) w k:=by
 have hb:=E.hb
 rcases own_bk hs with ⟨rfl,rfl,rfl,rfl,rfl⟩ | ⟨s,cur,rfl,rfl,_,hbk,hnc,hl,ht⟩
 ·have:=run_append_owned_none (P:=P) (w:=w) w.heap.size t ty e i sz E.ht E.hi (.slice none 0 0) 0 [] (World.ownsRow_nil _ _ _ _)
  exact ⟨_,_,this,h _ _ _ _ (World.ownsRow_nil _ _ _ _) (Kp.refl _ _)⟩
 ·have hlen:ys.length=l'*sz:=hs.1
  obtain ⟨v',w',hr,ho,hg,hnil⟩:=run_append_own (P:=P) w w.heap.size t ty e i z sz i.bytes E.ht E.hi E.hz E.hs rfl E.hzs E.h0 (.slice none 0 0) 0 [] (World.ownsRow_nil _ _ _ _) ⟨s,0,none⟩ l' c' ys hlen
   (fun j u hj=>by
    rw [add_eq,Nat.zero_add,hbk.cell]
    rw [← ht,List.getElem?_take] at hj
    split at hj
    ·exact hj
    ·cases hj) (fun u hu=>by rw [← one_iff]; exact h1 u hu) (by simp [maxLen]; omega) (by
    have:(0+l')*i.bytes≤1000000*65536:=Nat.mul_le_mul (by omega) hb
    omega) (Nat.le_refl _)
  refine ⟨v',w',hr,?_⟩
  rw [Nat.zero_add,List.nil_append] at ho
  have hk:Kp No w w':=Kp.grown hg fun k hk=>by cases hk
  rcases ho.2 with ⟨rfl,h0⟩ | ⟨g,cap,cur',rfl,_⟩
  ·exact h _ _ _ _ ho hk
  ·exact h _ _ _ _ ho hk
theorem k227 {v:TkV} {t:Tk} (hv:TkAt w v t) (h:∀ v' w',Kp No w w'→TkAt w' v' t→Frsh w v'→K (.agg v'.cells.toArray) w'):Ct Tryz.prog 227 #[.agg v.cells.toArray] w K:=by
 refine c227 ?_
 unfold F227
 refine new_k v.cells fun w1 k1 b1 s1=>?_
 refine new_k zT fun w2 k2 z2 s2=>?_
 have b2:Bk w2 w.heap.size v.cells 47:=k2.bk b1 id
 simp only [SS,b2.rd (o:=1) (v:=.slice v.ja v.jl v.jc) rfl]
 have hf:=hv.few
 obtain ⟨i45,z45,E45,_⟩:=e45
 have k02:=k1.trans k2
 refine app_nil E45 (hv.kp k02 fun _ _=>id).jobs (by omega) (one_flat (fun _=>Jb.one _) _) fun a3 l3 c3 w3 ho3 k3=>?_
 have b3:Bk w3 w.heap.size v.cells 47:=k3.bk b2 id
 have z3:Bk w3 w1.heap.size zT 47:=k3.bk z2 id
 simp only [SS]
 refine sc_k b3 (by simp [TkV.cells]) rfl fun w5 k5 b5 s5=>?_
 have b5:Bk w5 w.heap.size (TkV.mk v.prio a3 l3 c3 v.acc).cells 47:=b5
 simp only [b5.la0 (n:=8) rfl]
 refine res_k (c:=zT) (cs:=(TkV.mk v.prio a3 l3 c3 v.acc).cells) (k:=fun r0 w4=>K r0 w4) ld47 (k5.bk z3 (by omega)) rfl rfl (by simp [TkV.cells,oneCell]) fun w6 k6=>?_
 have ho6:=own_kp (own_kp ho3 k5 fun y hy e=>by have:=(own_lt ho3 hy).1; omega) k6 fun y hy e=>by have:=(own_lt ho3 hy).1; omega
 exact h _ _ (((k02.trans k3).own k5 (by omega)).own k6 (by omega)) ⟨hv.prio,hv.acc,own_base ho6 (Nat.zero_le _),hf⟩ fun a ha=>by have h1:a3=some a:=ha; subst h1; have:=(own_lt ho3 rfl).1; have:=k02.size; show w.heap.size≤a.block; omega
end
end Go.Proofs.YtbgbidpecmepmaaGreatDoor
