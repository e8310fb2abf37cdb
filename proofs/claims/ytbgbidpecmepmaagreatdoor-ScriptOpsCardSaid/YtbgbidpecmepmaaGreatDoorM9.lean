/-
  Tables of tasks; leaves; Leaves, second half: a tick offered, a task told, a new table, a new leaf; New tables; a new leaf; a new pool.
-/
import Derived.Test.YtbgbidpecmepmaaGreatDoorM8
set_option maxRecDepth 100000
namespace Go.Proofs.YtbgbidpecmepmaaGreatDoor
section
open Sy
def F210 (R:Ko) (x0:Option Addr) (w:World):Prop:=Ifm x0.isNone (R (.pointer none) w) (onSome x0 fun x6=>Lc (x6.add 0) w fun v8=>onP v8 fun x8=>R (.pointer x8) w)
noncomputable def b210:Code:=Tryz.f210.body.getD .skip
theorem c210 {R:Ko} {x0:Option Addr} {w:World} (h:F210 R x0 w):Ct Tryz.prog 210 #[.pointer x0] w R :=
 ctS (args:=[.pointer x0]) (body:=b210) (n:=9) (rs:=[.tmp 2]) Tryz.func210
  (sg (cuts:=[]) trivial h)
def F132 (R:Ko) (x0:Option Addr) (x1:Int) (w:World):Prop:=Ct Tryz.prog 208 #[.int .i64 x1] w fun v10 w1=>on2 v10 fun y10_0 y10_1=>onG y10_0 fun x10_0=>New (.cells (.agg #[.int .i64 0,.slice none 0 0,.int .i64 0,.int .i64 0,.int .i64 0,.int .i64 0,.int .i64 0,.int .i64 0]:Value).cells 47) w1 fun x6 w2=>Sa 8 x6 x10_0 w2 fun w3=>Nl y10_1 fun x14=>Ifm (!x14) (R (.tuple #[.int .i64 0,y10_1]) w3) (La 8 x6 w3.drew fun x18=>Ct Tryz.prog 210 #[.pointer x0] w3.drew fun v17 w4=>onP v17 fun x17=>Ha 8 x6 x18 w4∧Ct Tryz.prog 209 #[.pointer x17,.agg x18] w4 fun v19 w5=>on2 v19 fun y19_0 y19_1=>onI y19_0 fun x19_0=>R (.tuple #[.int .i64 x19_0,y19_1]) w5)
noncomputable def b132:Code:=Tryz.f132.body.getD .skip
theorem c132 {R:Ko} {x0:Option Addr} {x1:Int} {w:World} (h:F132 R x0 x1 w):Ct Tryz.prog 132 #[.pointer x0,.int .i64 x1] w R :=
 ctS (args:=[.pointer x0,.int .i64 x1]) (body:=b132) (n:=22) (rs:=[.tmp 4,.tmp 5]) Tryz.func132
  (sg (cuts:=[]) trivial h)
def F174 (R:Ko) (x0:Option Addr) (x1:Int) (w:World):Prop:=New (.cells (.agg #[.int .i64 0,.int .i64 0,.int .i64 0,.int .i64 0,.int .i64 0,.int .i64 0]:Value).cells 41) w fun x4 w1=>Ct Tryz.prog 210 #[.pointer x0] w1 fun v10 w2=>onP v10 fun x10=>Ct Tryz.prog 225 #[.pointer x10,.int .i64 x1] w2 fun v12 w3=>on2 v12 fun y12_0 y12_1=>onG y12_0 fun x12_0=>New (.cells (.agg #[.int .i64 0,.slice none 0 0,.int .i64 0,.int .i64 0,.int .i64 0,.int .i64 0,.int .i64 0,.int .i64 0]:Value).cells 47) w3 fun x6 w4=>Sa 8 x6 x12_0 w4 fun w5=>Nl y12_1 fun x16=>Ifm (!x16) (Sa 6 x4 (#[.int .i64 0,.int .i64 0,.int .i64 0,.int .i64 0,.int .i64 0,.int .i64 0]) w5 fun w6=>Rd Tryz.prog (Instr.loadAt 41 (.pointer (some x4))) w6 fun r0=>R (.tuple #[r0,y12_1]) w6) (La 6 (x6.add 2) w5.drew fun x20=>Ct Tryz.prog 210 #[.pointer x0] w5.drew fun v22 w7=>onP v22 fun x22=>Ha 6 (x6.add 2) x20 w7∧Ct Tryz.prog 265 #[.pointer x22,.int .i64 x1] w7 fun v24 w8=>Ha 6 (x6.add 2) x20 w8∧Sa 6 x4 x20 w8 fun w9=>Rd Tryz.prog (Instr.loadAt 41 (.pointer (some x4))) w9 fun r0=>R (.tuple #[r0,v24]) w9)
noncomputable def b174:Code:=Tryz.f174.body.getD .skip
theorem c174 {R:Ko} {x0:Option Addr} {x1:Int} {w:World} (h:F174 R x0 x1 w):Ct Tryz.prog 174 #[.pointer x0,.int .i64 x1] w R :=
 ctS (args:=[.pointer x0,.int .i64 x1]) (body:=b174) (n:=25) (rs:=[.cell 4 41,.tmp 5]) Tryz.func174
  (sg (cuts:=[]) trivial h)
def F176 (R:Ko) (x0:Option Addr) (x1:Int) (x2:Array Value) (x3:Int) (w:World):Prop:=New (.cells (.agg x2:Value).cells 37) w fun x6 w1=>Ct Tryz.prog 210 #[.pointer x0] w1 fun v13 w2=>onP v13 fun x13=>Ct Tryz.prog 225 #[.pointer x13,.int .i64 x1] w2 fun v15 w3=>on2 v15 fun y15_0 y15_1=>onG y15_0 fun x15_0=>New (.cells (.agg #[.int .i64 0,.slice none 0 0,.int .i64 0,.int .i64 0,.int .i64 0,.int .i64 0,.int .i64 0,.int .i64 0]:Value).cells 47) w3 fun x9 w4=>Sa 8 x9 x15_0 w4 fun w5=>Nl y15_1 fun x19=>Ifm x19 (La 8 x9 w5 fun x21=>La 4 x6 w5 fun x22=>Ct Tryz.prog 266 #[.agg x21,.agg x22,.int .i64 x3] w5 fun v24 w6=>on2 v24 fun y24_0 y24_1=>onG y24_0 fun x24_0=>Sa 8 x9 x24_0 w6 fun w7=>Nl y24_1 fun x28=>Ifm (!x28) (R y24_1 w7) (La 8 x9 w7.drew fun x33=>Ct Tryz.prog 210 #[.pointer x0] w7.drew fun v31 w8=>onP v31 fun x31=>Ha 8 x9 x33 w8∧Ct Tryz.prog 267 #[.pointer x31,.int .i64 x1,.agg x33] w8 fun v34 w9=>R v34 w9)) (Nl y15_1 fun x28=>Ifm (!x28) (R y15_1 w5) (La 8 x9 w5.drew fun x33=>Ct Tryz.prog 210 #[.pointer x0] w5.drew fun v31 w10=>onP v31 fun x31=>Ha 8 x9 x33 w10∧Ct Tryz.prog 267 #[.pointer x31,.int .i64 x1,.agg x33] w10 fun v34 w11=>R v34 w11))
noncomputable def b176:Code:=Tryz.f176.body.getD .skip
theorem c176 {R:Ko} {x0:Option Addr} {x1:Int} {x2:Array Value} {x3:Int} {w:World} (h:F176 R x0 x1 x2 x3 w):Ct Tryz.prog 176 #[.pointer x0,.int .i64 x1,.agg x2,.int .i64 x3] w R :=
 ctS (args:=[.pointer x0,.int .i64 x1,.agg x2,.int .i64 x3]) (body:=b176) (n:=35) (rs:=[.tmp 8]) Tryz.func176
  (sg (cuts:=[]) trivial h)
def F343_0B (R:Ko) (C0:Option Addr→Int→Int→Option Addr→Nat→Nat→Int→Int→World→Prop) (x0:Option Addr) (x3:Int) (x4:Int) (a10:Option Addr) (l10 c10:Nat) (x11:Int) (x12:Int) (w:World):Prop:=Ifm (decide ((x12:Int)<x11)) (Ix a10 l10 x12 1 fun x14=>Lc x14 w fun v15=>onI v15 fun x15=>onSome x0 fun x18=>Lc (x18.add 0) w fun v20=>onP v20 fun x20=>Ct Tryz.prog 225 #[.pointer x20,.int .i64 x15] w fun v22 w2=>on2 v22 fun y22_0 y22_1=>onG y22_0 fun x22_0=>New (.cells (.agg #[.int .i64 0,.slice none 0 0,.int .i64 0,.int .i64 0,.int .i64 0,.int .i64 0,.int .i64 0,.int .i64 0]:Value).cells 47) w2 fun x7 w3=>Sa 8 x7 x22_0 w3 fun w4=>La 8 x7 w4 fun x25=>Ct Tryz.prog 383 #[.agg x25] w4 fun v26 w5=>onB v26 fun x26=>Ifm x26 (Lc (x7.add 0) w5 fun v29=>onI v29 fun x29=>Ifm (decide ((x29:Int)<x4)) (Lc (x7.add 0) w5.drew fun v35=>onI v35 fun x35=>C0 x0 x15 x35 a10 l10 c10 x11 (IntKind.i64.wrap (x12+1)) w5.drew) (C0 x0 x3 x4 a10 l10 c10 x11 (IntKind.i64.wrap (x12+1)) w5)) (C0 x0 x3 x4 a10 l10 c10 x11 (IntKind.i64.wrap (x12+1)) w5)) (R (.int .i64 x3) w)
def F343_0 (R:Ko) (x0:Option Addr) (x3:Int) (x4:Int) (a10:Option Addr) (l10 c10:Nat) (x11:Int) (x12:Int) (w:World):Prop:=∃ (Inv:Option Addr→Int→Int→Option Addr→Nat→Nat→Int→Int→World→Prop) (μ:Option Addr→Int→Int→Option Addr→Nat→Nat→Int→Int→World→Nat),Inv x0 x3 x4 a10 l10 c10 x11 x12 w∧∀ x0 x3 x4 a10 l10 c10 x11 x12 w,Inv x0 x3 x4 a10 l10 c10 x11 x12 w→F343_0B R (fun x0' x3' x4' a10' l10' c10' x11' x12' w'=>Inv x0' x3' x4' a10' l10' c10' x11' x12' w'∧μ x0' x3' x4' a10' l10' c10' x11' x12' w'<μ x0 x3 x4 a10 l10 c10 x11 x12 w) x0 x3 x4 a10 l10 c10 x11 x12 w
def F343 (R:Ko) (x0:Option Addr) (w:World):Prop:=Ct Tryz.prog 146 #[.pointer x0] w fun v10 w1=>onL v10 fun a10 l10 c10=>F343_0 R x0 0 32 a10 l10 c10 (l10:Nat) 0 w1
noncomputable def b343:Code:=Tryz.f343.body.getD .skip
def q343_0:List Bool:=[false,true,false,true,true]
def L343_0 (F:Option Addr→Int→Int→Option Addr→Nat→Nat→Int→Int→World→Prop):Env→World→Prop:=fun ρ w=>onP (ρ 0) fun x0=>onI (ρ 3) fun x3=>onI (ρ 4) fun x4=>onL (ρ 10) fun a10 l10 c10=>onI (ρ 11) fun x11=>onI (ρ 12) fun x12=>F x0 x3 x4 a10 l10 c10 x11 x12 w
abbrev T343 (z:Fr) (R:Ko) (p:List Bool) (ρ:Env) (w:World):Prop:=TW z Tryz.prog 38 (segTodo b343 p) (QR Tryz.prog [.tmp 2] R) ρ w
theorem s343_0 (R:Ko):∀ ρ w,(L343_0 (F343_0 R)) ρ w→T343 z0 R q343_0 ρ w:=by
 intro ρ w h
 obtain ⟨x0,e0,h⟩:=onP_of h
 obtain ⟨x3,e3,h⟩:=onI_of h
 obtain ⟨x4,e4,h⟩:=onI_of h
 obtain ⟨a10,l10,c10,e10,h⟩:=onL_of h
 obtain ⟨x11,e11,h⟩:=onI_of h
 obtain ⟨x12,e12,h⟩:=onI_of h
 obtain ⟨Inv,μ,hi,hb⟩:=h
 refine lpT (fun m=>L343_0 (fun x0 x3 x4 a10 l10 c10 x11 x12 w=>Inv x0 x3 x4 a10 l10 c10 x11 x12 w∧μ x0 x3 x4 a10 l10 c10 x11 x12 w=m)) ?_ (μ x0 x3 x4 a10 l10 c10 x11 x12 w) ρ w ?_
 ·intro m ρ w ih h
  obtain ⟨x0,e0,h⟩:=onP_of h
  obtain ⟨x3,e3,h⟩:=onI_of h
  obtain ⟨x4,e4,h⟩:=onI_of h
  obtain ⟨a10,l10,c10,e10,h⟩:=onL_of h
  obtain ⟨x11,e11,h⟩:=onI_of h
  obtain ⟨x12,e12,h⟩:=onI_of h
  obtain ⟨hv,hm⟩:=h
  subst hm
  have hh:=hb x0 x3 x4 a10 l10 c10 x11 x12 w hv
  obtain ⟨C0,hC⟩:∃ C,C=fun x0' x3' x4' a10' l10' c10' x11' x12' w'=>Inv x0' x3' x4' a10' l10' c10' x11' x12' w'∧μ x0' x3' x4' a10' l10' c10' x11' x12' w'<μ x0 x3 x4 a10 l10 c10 x11 x12 w:=⟨_,rfl⟩
  rw [← hC] at hh
  have h0:∀ ρ w,(L343_0 C0) ρ w→T343 z0 R q343_0 ρ w:=by
   intro ρ' w' h'
   refine ih ρ' w' ?_
   obtain ⟨x0',e0',h'⟩:=onP_of h'
   obtain ⟨x3',e3',h'⟩:=onI_of h'
   obtain ⟨x4',e4',h'⟩:=onI_of h'
   obtain ⟨a10',l10',c10',e10',h'⟩:=onL_of h'
   obtain ⟨x11',e11',h'⟩:=onI_of h'
   obtain ⟨x12',e12',h'⟩:=onI_of h'
   rw [hC] at h'
   refine ⟨_,h'.2,?_⟩
   simp only [e0',e3',e4',e10',e11',e12',L343_0,ons]
   exact ⟨h'.1,by trivial⟩
  rw [← upds_same (ρ:=ρ) [(0,.pointer x0),(3,.int .i64 x3),(4,.int .i64 x4),(10,.slice a10 l10 c10),(11,.int .i64 x11),(12,.int .i64 x12)] (alc e0 (alc e3 (alc e4 (alc e10 (alc e11 (alc e12 aln))))))]
  exact sg (cuts:=[(q343_0,L343_0 C0)]) ⟨h0,trivial⟩ hh
 ·simp only [e0,e3,e4,e10,e11,e12,L343_0,ons]
  exact ⟨hi,by trivial⟩
theorem c343 {R:Ko} {x0:Option Addr} {w:World} (h:F343 R x0 w):Ct Tryz.prog 343 #[.pointer x0] w R :=
 ctS (args:=[.pointer x0]) (body:=b343) (n:=38) (rs:=[.tmp 2]) Tryz.func343
  (sg (cuts:=[(q343_0,L343_0 (F343_0 R))]) ⟨s343_0 R,trivial⟩ h)
def F273 (R:Ko) (x0:Option Addr) (x1:Int) (w:World):Prop:=Ct Tryz.prog 343 #[.pointer x0] w fun v13 w1=>onI v13 fun x13=>Ct Tryz.prog 210 #[.pointer x0] w1 fun v16 w2=>onP v16 fun x16=>Ct Tryz.prog 225 #[.pointer x16,.int .i64 x13] w2 fun v18 w3=>on2 v18 fun y18_0 y18_1=>onG y18_0 fun x18_0=>New (.cells (.agg #[.int .i64 0,.slice none 0 0,.int .i64 0,.int .i64 0,.int .i64 0,.int .i64 0,.int .i64 0,.int .i64 0]:Value).cells 47) w3 fun x8 w4=>Sa 8 x8 x18_0 w4 fun w5=>Nl y18_1 fun x22=>Ifm (!x22) (R (.tuple #[.int .i64 0,.int .i64 0,.int .i64 0]) w5) (La 8 x8 w5 fun x24=>Ct Tryz.prog 344 #[.agg x24,.int .i64 x1] w5 fun v26 w6=>on4 v26 fun y26_0 y26_1 y26_2 y26_3=>onG y26_0 fun x26_0=>onI y26_1 fun x26_1=>onI y26_2 fun x26_2=>Sa 8 x8 x26_0 w6 fun w7=>Nl y26_3 fun x32=>Ifm (!x32) (R (.tuple #[.int .i64 0,.int .i64 0,.int .i64 0]) w7) (onSome x0 fun x34=>Lc (x34.add 0) w7.drew fun v36=>onP v36 fun x36=>La 8 x8 w7.drew fun x38=>Ct Tryz.prog 267 #[.pointer x36,.int .i64 x13,.agg x38] w7.drew fun v39 w8=>Ifm ((x26_1:Int) == 1) (R (.tuple #[.int .i64 x13,.int .i64 8,.int .i64 x26_2]) w8) (Ifm ((x26_1:Int) == 2) (R (.tuple #[.int .i64 x13,.int .i64 9,.int .i64 x26_2]) w8) (R (.tuple #[.int .i64 x13,.int .i64 x26_1,.int .i64 x26_2]) w8))))
noncomputable def b273:Code:=Tryz.f273.body.getD .skip
theorem c273 {R:Ko} {x0:Option Addr} {x1:Int} {w:World} (h:F273 R x0 x1 w):Ct Tryz.prog 273 #[.pointer x0,.int .i64 x1] w R :=
 ctS (args:=[.pointer x0,.int .i64 x1]) (body:=b273) (n:=48) (rs:=[.tmp 4,.tmp 5,.tmp 6]) Tryz.func273
  (sg (cuts:=[]) trivial h)
def F152 (R:Ko) (x0:Option Addr) (x1:Int) (w:World):Prop:=New (.cells (.agg #[.int .i64 0,.slice none 0 0,.int .i64 0,.int .i64 0,.int .i64 0,.int .i64 0,.int .i64 0,.int .i64 0]:Value).cells 47) w fun x4 w1=>Ct Tryz.prog 210 #[.pointer x0] w1 fun v10 w2=>onP v10 fun x10=>Ct Tryz.prog 225 #[.pointer x10,.int .i64 x1] w2 fun v12 w3=>on2 v12 fun y12_0 y12_1=>onG y12_0 fun x12_0=>New (.cells (.agg #[.int .i64 0,.slice none 0 0,.int .i64 0,.int .i64 0,.int .i64 0,.int .i64 0,.int .i64 0,.int .i64 0]:Value).cells 47) w3 fun x6 w4=>Sa 8 x6 x12_0 w4 fun w5=>Nl y12_1 fun x16=>Ifm (!x16) (Sa 8 x4 (#[.int .i64 0,.slice none 0 0,.int .i64 0,.int .i64 0,.int .i64 0,.int .i64 0,.int .i64 0,.int .i64 0]) w5 fun w6=>Rd Tryz.prog (Instr.loadAt 47 (.pointer (some x4))) w6 fun r0=>R (.tuple #[r0,y12_1]) w6) (La 8 x6 w5 fun x19=>Ct Tryz.prog 227 #[.agg x19] w5 fun v20 w7=>onG v20 fun x20=>Sa 8 x4 x20 w7 fun w8=>Rd Tryz.prog (Instr.loadAt 47 (.pointer (some x4))) w8 fun r0=>R (.tuple #[r0,.nilIface]) w8)
noncomputable def b152:Code:=Tryz.f152.body.getD .skip
theorem c152 {R:Ko} {x0:Option Addr} {x1:Int} {w:World} (h:F152 R x0 x1 w):Ct Tryz.prog 152 #[.pointer x0,.int .i64 x1] w R :=
 ctS (args:=[.pointer x0,.int .i64 x1]) (body:=b152) (n:=21) (rs:=[.cell 4 47,.tmp 5]) Tryz.func152
  (sg (cuts:=[]) trivial h)
def F146 (R:Ko) (x0:Option Addr) (w:World):Prop:=Ct Tryz.prog 210 #[.pointer x0] w fun v4 w1=>onP v4 fun x4=>Ct Tryz.prog 220 #[.pointer x4] w1 fun v5 w2=>onL v5 fun a5 l5 c5=>R (.slice a5 l5 c5) w2
noncomputable def b146:Code:=Tryz.f146.body.getD .skip
theorem c146 {R:Ko} {x0:Option Addr} {w:World} (h:F146 R x0 w):Ct Tryz.prog 146 #[.pointer x0] w R :=
 ctS (args:=[.pointer x0]) (body:=b146) (n:=6) (rs:=[.tmp 2]) Tryz.func146
  (sg (cuts:=[]) trivial h)
variable {K:Ko} {w w':World} {F C:Nat→Prop}
def SlR (w:World) (F:Nat→Prop) (x:Int × Option TkV) (y:Int × Option Tk):Prop:=x.1=y.1∧((x.2=none∧y.2=none)∨∃ v t,x.2=some v∧y.2=some t∧TkAt w v t∧∀ a,v.ja=some a→F a.block)
theorem SlR.isS {x:Int × Option TkV} {y:Int × Option Tk} (h:SlR w F x y):x.2.isSome=y.2.isSome:=by
 rcases h.2 with ⟨h1,h2⟩ | ⟨v,t,h1,h2,_⟩ <;> simp [h1,h2]
theorem findS_congr {α β:Type} {S:Slots α} {V:Slots β} (h:∀ i,(V i).1=(S i).1∧(V i).2.isSome=(S i).2.isSome) (kind:Int) (n:Nat) (x:Int):findS V kind n x=findS S kind n x:=by
 unfold findS; rw [(h _).1,(h _).2]
theorem freeS_congr {α β:Type} {S:Slots α} {V:Slots β} (h:∀ i,(V i).1=(S i).1∧(V i).2.isSome=(S i).2.isSome) (n:Nat):freeS V n=freeS S n:=by
 unfold freeS
 congr 1
 funext i
 unfold openS
 rw [(h _).1,(h _).2]
theorem allS_congr {α β:Type} {S:Slots α} {V:Slots β} (h:∀ i,(V i).1=(S i).1∧(V i).2.isSome=(S i).2.isSome) (kind:Int) (n:Nat):allS V kind n=allS S kind n:=by
 unfold allS
 congr 1
 funext i
 rw [(h _).1,(h _).2]
structure TTV (w:World) (F C:Nat→Prop) (b L:Nat) (V:Slots TkV) (kind:Int) (n:Nat) (S:Slots Tk):Prop where
 tab:Tab w 311 313 10 n kind b L (fun i=>slotC TkV.cells zT (V i))
 fb:C b
 fL:F L
 sl:∀ i,SlR w F (V i) (S i)
def TT (w:World) (F C:Nat→Prop) (b:Nat) (kind:Int) (n:Nat) (S:Slots Tk):Prop:=∃ L V,TTV w F C b L V kind n S
section
variable {b n L:Nat} {kind:Int} {S:Slots Tk} {V:Slots TkV}
theorem TTV.al (h:TTV w F C b L V kind n S):∀ i,(V i).1=(S i).1∧(V i).2.isSome=(S i).2.isSome:=fun i=>⟨(h.sl i).1,(h.sl i).isS⟩
theorem SlR.kp {X:Nat→Prop} {x:Int × Option TkV} {y:Int × Option Tk} (h:SlR w F x y) (k:Kp X w w') (hs:∀ b,F b→¬ X b):SlR w' F x y:=by
 refine ⟨h.1,?_⟩
 rcases h.2 with h | ⟨v,t,h1,h2,h3,h4⟩
 ·exact .inl h
 ·exact .inr ⟨v,t,h1,h2,h3.kp k fun a ha=>hs _ (h4 a ha),h4⟩
theorem SlR.mono {F':Nat→Prop} {x:Int × Option TkV} {y:Int × Option Tk} (h:SlR w F x y) (hF:∀ b,F b→F' b):SlR w F' x y:=by
 refine ⟨h.1,?_⟩
 rcases h.2 with h | ⟨v,t,h1,h2,h3,h4⟩
 ·exact .inl h
 ·exact .inr ⟨v,t,h1,h2,h3,fun a ha=>hF _ (h4 a ha)⟩
theorem TT.kp {X:Nat→Prop} (h:TT w F C b kind n S) (k:Kp X w w') (hs:∀ b,F b→¬ X b) (hc:∀ b,C b→¬ X b):TT w' F C b kind n S:=by
 obtain ⟨L,V,h⟩:=h
 exact ⟨L,V,h.tab.kp k (hc _ h.fb) (hs _ h.fL),h.fb,h.fL,fun i=>(h.sl i).kp k hs⟩
theorem TT.mono {F' C':Nat→Prop} (h:TT w F C b kind n S) (hF:∀ b,F b→F' b) (hC:∀ b,C b→C' b):TT w F' C' b kind n S:=by
 obtain ⟨L,V,h⟩:=h
 exact ⟨L,V,h.tab,hC _ h.fb,hF _ h.fL,fun i=>(h.sl i).mono hF⟩
theorem TTV.jobs {i:Nat} (h:TTV w F C b L V kind n S) {x:Int × Option TkV} {y:Int × Option Tk} (hs:SlR w F x y) (k:Kp (·=L) w w'):SlR w' F x y:=by
 refine ⟨hs.1,?_⟩
 rcases hs.2 with h' | ⟨v,t,h1,h2,h3,h4⟩
 ·exact .inl h'
 ·refine .inr ⟨v,t,h1,h2,h3.kp k fun a ha e=>?_,h4⟩
  have hj:=h3.jobs
  rw [ha] at hj
  rcases own_bk hj with ⟨h',_⟩ | ⟨g,cur,hg,_,_,hb,_⟩
  ·cases h'
  ·injection hg with hg
   subst hg
   exact ne_of_bk hb h.tab.row (fun e=>by injection e with _ e; simp at e) e
theorem tt_get {h:Int} (hT:TT w F C b kind n S) (h0:findS S kind n h=none→∀ w',Kp No w w'→K (.tuple #[.agg zT.toArray,Er 20]) w')
  (h1:∀ i t,i<n→findS S kind n h=some i→(S i).2=some t→∀ v w',Kp No w w'→TkAt w' v t→(∀ a,v.ja=some a→F a.block)→K (.tuple #[.agg v.cells.toArray,.nilIface]) w'):Ct Tryz.prog 225 #[Pt b 0,I h] w K:=by
 obtain ⟨L,V,hT⟩:=hT
 have hc:=findS_congr hT.al kind n h
 refine k225 hT.tab (fun e=>h0 (hc ▸ e)) fun i v hi e hv w1 k1=>?_
 rcases (hT.sl i).2 with ⟨h',_⟩ | ⟨v',t,h3,h4,h5,h6⟩
 ·rw [h'] at hv; cases hv
 ·rw [h3] at hv; injection hv with hv; subst hv
  exact h1 i t hi (hc ▸ e) h4 v' w1 k1 (h5.kp k1 fun _ _=>id) h6
theorem tt_put {i:Nat} {v:TkV} {t:Tk} {g:Int} (hT:TTV w F C b L V kind n S) (hg:(S i).1=g) (hv:TkAt w v t) (hF:∀ a,v.ja=some a→F a.block) (k:Kp (·=L) w w')
  (hTab:Tab w' 311 313 10 n kind b L (fun k=>slotC TkV.cells zT (upd1 V i ((V i).1,some v) k))):TT w' F C b kind n (upd1 S i (g,some t)):=by
 refine ⟨L,_,hTab,hT.fb,hT.fL,fun k'=>?_⟩
 have hr:=TTV.jobs (i:=i) hT (x:=(g,some v)) (y:=(g,some t)) ⟨rfl,.inr ⟨v,t,rfl,rfl,hv,hF⟩⟩ k
 by_cases e:k'=i
 ·subst e
  rw [upd1_same,upd1_same]
  rw [(hT.sl k').1,hg]; exact hr
 ·rw [upd1_ne _ _ e,upd1_ne _ _ e]; exact TTV.jobs (i:=i) hT (hT.sl k') k
theorem tt_set {h:Int} {v:TkV} {t:Tk} (hT:TT w F C b kind n S) (hv:TkAt w v t) (hF:∀ a,v.ja=some a→F a.block) (h0:findS S kind n h=none→∀ w',Kp No w w'→K (Er 20) w')
  (h1:∀ i,i<n→findS S kind n h=some i→∀ w',Kp F w w'→TT w' F C b kind n (upd1 S i ((S i).1,some t))→K .nilIface w'):Ct Tryz.prog 267 #[Pt b 0,I h,.agg v.cells.toArray] w K:=by
 obtain ⟨L,V,hT⟩:=hT
 have hc:=findS_congr hT.al kind n h
 refine k267 hT.tab (fun e=>h0 (hc ▸ e)) fun i hi e w1 k1 hTab=>?_
 exact h1 i hi (hc ▸ e) w1 (k1.mono fun x _ hx=>hx ▸ hT.fL) (tt_put hT rfl hv hF k1 hTab)
theorem tt_add {v:TkV} {t:Tk} (hT:TT w F C b kind n S) (hn:n≤4096) (hv:TkAt w v t) (hF:∀ a,v.ja=some a→F a.block) (h0:freeS S n=none→∀ w',Kp No w w'→K (.tuple #[I 0,Er 30]) w')
  (h1:∀ i,i<n→freeS S n=some i→∀ w',Kp F w w'→TT w' F C b kind n (upd1 S i ((S i).1,some t))→K (.tuple #[I (nameS kind i (S i).1),.nilIface]) w'):Ct Tryz.prog 209 #[Pt b 0,.agg v.cells.toArray] w K:=by
 obtain ⟨L,V,hT⟩:=hT
 have hc:=freeS_congr hT.al n
 refine k209 v hT.tab hn (fun e=>h0 (hc ▸ e)) fun i hi e w1 k1 hTab=>?_
 rw [(hT.sl i).1]
 exact h1 i hi (hc ▸ e) w1 (k1.mono fun x _ hx=>hx ▸ hT.fL) (tt_put hT rfl hv hF k1 hTab)
theorem tt_drop {h:Int} (hT:TT w F C b kind n S) (h0:findS S kind n h=none→∀ w',Kp No w w'→K (Er 20) w')
  (h1:∀ i,i<n→findS S kind n h=some i→∀ w',Kp F w w'→TT w' F C b kind n (upd1 S i (wr ((S i).1+1),none))→K .nilIface w'):Ct Tryz.prog 265 #[Pt b 0,I h] w K:=by
 obtain ⟨L,V,hT⟩:=hT
 have hc:=findS_congr hT.al kind n h
 refine k265 hT.tab (fun e d=>h0 (hc ▸ e) _ (Kp.dr _ _ _)) fun i hi e w1 k1 hTab=>?_
 refine h1 i hi (hc ▸ e) w1 (k1.mono fun x _ hx=>hx ▸ hT.fL) ⟨L,_,hTab,hT.fb,hT.fL,fun k'=>?_⟩
 by_cases e:k'=i
 ·subst e
  rw [upd1_same,upd1_same,(hT.sl k').1]
  exact ⟨rfl,.inl ⟨rfl,rfl⟩⟩
 ·rw [upd1_ne _ _ e,upd1_ne _ _ e]; exact TTV.jobs (i:=i) hT (hT.sl k') k1
theorem tt_all (hT:TT w F C b kind n S) (hn:n≤4096) (h:∀ a l c w',Kp No w w'→w'.ownsRow w.heap.size 33 1 (.slice a l c) (allS S kind n).length ((allS S kind n).map I)→K (.slice a l c) w'):Ct Tryz.prog 220 #[Pt b 0] w K:=by
 obtain ⟨L,V,hT⟩:=hT
 have hc:=allS_congr hT.al kind n
 rw [← hc] at h
 exact k220 hT.tab hn h
end
def LF (w:World) (F C:Nat→Prop) (l:Nat) (S:Slots Tk):Prop:=∃ b,Bk w l [Pt b 0] 208∧C l∧¬ F l∧(∀ x,F x∨C x→x<w.heap.size)∧TT w F C b 2 8 S
theorem LF.kp {X:Nat→Prop} {l:Nat} {S:Slots Tk} (h:LF w F C l S) (k:Kp X w w') (hs:∀ b,F b→¬ X b) (hc:∀ b,C b→¬ X b):LF w' F C l S:=by
 obtain ⟨b,h1,h2,h3,hb,h4⟩:=h
 exact ⟨b,k.bk h1 (hc _ h2),h2,h3,fun x hx=>Nat.lt_of_lt_of_le (hb x hx) k.size,h4.kp k hs hc⟩
theorem LF.no {l:Nat} {S:Slots Tk} (h:LF w F C l S) (k:Kp No w w'):LF w' F C l S:=h.kp k (fun _ _=>id) fun _ _=>id
theorem LF.lt {l:Nat} {S:Slots Tk} (h:LF w F C l S):∀ x,F x∨C x→x<w.heap.size:=by obtain ⟨_,_,_,_,h,_⟩:=h; exact h
theorem LF.ltl {l:Nat} {S:Slots Tk} (h:LF w F C l S):l<w.heap.size:=by obtain ⟨_,h,_⟩:=h; exact h.lt
theorem LF.grow {w2:World} {l:Nat} {S:Slots Tk} (h:LF w2 F C l S) (hw:l<w.heap.size):LF w2 (gr F w w2) C l S:=by
 obtain ⟨b,h1,h2,h3,hb,h4⟩:=h
 exact ⟨b,h1,h2,fun x=>by rcases x with x | x; exact h3 x; omega,fun x hx=>by rcases hx with (hx | hx) | hx; exact hb x (.inl hx); exact hx.2; exact hb x (.inr hx),h4.mono (fun _=>.inl) fun _=>id⟩
theorem k210 {l b:Nat} (h1:Bk w l [Pt b 0] 208) (h:K (Pt b 0) w):Ct Tryz.prog 210 #[Pt l 0] w K:=by
 refine c210 ?_
 unfold F210
 simp only [SS,h1.rd (o:=0) (v:=Pt b 0) rfl]
 exact h
def newTk (prio:Int):Tk:=⟨prio,[],⟨0,0,0,0,0,0⟩⟩
def newS (i:Nat):Int × Option Tk:=(1,none)
def addT (S:Slots Tk) (kind:Int) (n:Nat) (prio:Int):Except Int (Int × Slots Tk) :=
 if isB prio 0 31=false then .error 2 else match freeS S n with
 | none=>.error 30
 | some i=>.ok (nameS kind i (S i).1,upd1 S i ((S i).1,some (newTk prio)))
def dropT (S:Slots Tk) (kind:Int) (n:Nat) (h:Int):Except Int (Slots Tk):=match findS S kind n h with
 | none=>.error 20
 | some i=>.ok (upd1 S i (wr ((S i).1+1),none))
def getT (S:Slots Tk) (kind:Int) (n:Nat) (h:Int):Option (Nat × Tk):=match findS S kind n h with
 | none=>none
 | some i=>(S i).2.map fun t=>(i,t)
def pushL (S:Slots Tk) (kind:Int) (n:Nat) (h:Int) (j:Jb) (now:Int):Except Int (Slots Tk):=match getT S kind n h with
 | none=>.error 20
 | some (i,t)=>match pushT t j now with
  | .error e=>.error e
  | .ok t'=>.ok (upd1 S i ((S i).1,some t'))
theorem tkAt_new (w:World) (prio:Int):TkAt w ⟨prio,none,0,0,⟨0,0,0,0,0,0⟩⟩ (newTk prio):=⟨rfl,rfl,World.ownsRow_nil _ _ _ _,by simp [newTk]⟩
theorem ld41:loadKind Tryz.prog 41=some (some 6):=by kernel_rfl
theorem k132 {l:Nat} {S:Slots Tk} {prio:Int} (hl:LF w F C l S) (h:match addT S 2 8 prio with
  | .error e=>∀ w',Kp No w w'→K (.tuple #[I 0,Er e]) w'
  | .ok (x,S')=>∀ w',Kp F w w'→LF w' F C l S'→K (.tuple #[I x,.nilIface]) w'):Ct Tryz.prog 132 #[Pt l 0,I prio] w K:=by
 refine c132 ?_
 unfold F132
 refine k208 fun w1 k1=>?_
 unfold addT at h
 cases e1:isB prio 0 31 with
 | false =>
  rw [e1] at h
  rw [if_pos rfl] at h
  rw [if_neg (by simp)]
  simp only [SS]
  refine new_k zT fun w2 k2 b2 s2=>?_
  refine sa_k (cs:=zT) b2 rfl (by decide) (by simp [zT,oneCell]) fun w3 k3 b3 s3=>?_
  exact h _ ((k1.trans k2).own k3 (by have:=k1.size; omega))
 | true =>
  rw [e1,if_neg (by simp)] at h
  simp only [SS]
  obtain ⟨v,hv⟩:∃ v,v=TkV.mk prio none 0 0 ⟨0,0,0,0,0,0⟩:=⟨_,rfl⟩
  rw [← hv]
  refine new_k zT fun w2 k2 b2 s2=>?_
  refine sa_k (cs:=v.cells) b2 rfl (by decide) (by simpa using v.one) fun w3 k3 b3 s3=>?_
  rw [over_all _ _ (show zT.length=v.cells.length from rfl)] at b3
  have k13:Kp No w w3:=(k1.trans k2).own k3 (by have:=k1.size; omega)
  have hl3:=hl.no k13
  obtain ⟨b,hb,hCl,hFl,hFs,hT⟩:=hl3
  simp only [SS,b3.la0 (n:=8) v.len]
  refine k210 (w:=dr w3 _) hb ?_
  simp only [SS,b3.ha0 (n:=8) v.len]
  have hTd:=hT.kp (Kp.dr No w3 (w3.drawn+1)) (fun _ _=>id) fun _ _=>id
  refine tt_add (t:=newTk prio) hTd (by decide) (by rw [hv]; exact tkAt_new _ _) (fun a ha=>by rw [hv] at ha; cases ha) (fun e w4 k4=>?_) fun i hi e w4 k4 hT4=>?_
  ·rw [e] at h
   simp only [SS]
   exact h _ (k13.trans k4.drL)
  ·rw [e] at h
   simp only [SS]
   refine h w4 ((k13.no F).trans k4.drL) ⟨b,k4.drL.bk hb hFl,hCl,hFl,fun x hx=>Nat.lt_of_lt_of_le (hFs x hx) k4.drL.size,hT4⟩
theorem var_k {k:Addr→World→Prop} {v:TkV} (h:∀ w',Kp No w w'→Bk w' w.heap.size v.cells 47→w.heap.size<w'.heap.size→k ⟨w.heap.size,0,none⟩ w'):New (.cells zT.toArray 47) w fun x w1=>Sa 8 x v.cells.toArray w1 fun w2=>k x w2:=by
 refine new_k zT fun w2 k2 b2 s2=>?_
 refine sa_k (cs:=v.cells) b2 rfl (by decide) (by simpa using v.one) fun w3 k3 b3 s3=>?_
 rw [over_all _ _ (show zT.length=v.cells.length from rfl)] at b3
 exact h w3 (k2.own k3 (Nat.le_refl _)) b3 (by omega)
def zTV:TkV:=⟨0,none,0,0,⟨0,0,0,0,0,0⟩⟩
theorem getT_of {S:Slots Tk} {kind h:Int} {n i:Nat} {t:Tk} (e:findS S kind n h=some i) (ht:(S i).2=some t):getT S kind n h=some (i,t):=by simp [getT,e,ht]
theorem getT_no {S:Slots Tk} {kind h:Int} {n:Nat} (e:findS S kind n h=none):getT S kind n h=none:=by simp [getT,e]
theorem k174 {l:Nat} {S:Slots Tk} {x:Int} (hl:LF w F C l S) (h0:getT S 2 8 x=none→∀ w',Kp No w w'→K (.tuple #[.agg (Ac.mk 0 0 0 0 0 0).cells.toArray,Er 20]) w')
  (h1:∀ i t,getT S 2 8 x=some (i,t)→∀ w',Kp F w w'→LF w' F C l (upd1 S i (wr ((S i).1+1),none))→K (.tuple #[.agg t.acc.cells.toArray,.nilIface]) w'):Ct Tryz.prog 174 #[Pt l 0,I x] w K:=by
 refine c174 ?_
 unfold F174
 refine new_k (Ac.mk 0 0 0 0 0 0).cells fun w1 k1 b1 s1=>?_
 have hl1:=hl.no k1
 obtain ⟨b,hb,hCl,hFl,hFs,hT⟩:=hl1
 refine k210 hb ?_
 simp only [SS]
 refine tt_get hT (fun e w2 k2=>?_) (fun i t hi e ht v w2 k2 hv hF=>?_)
 ·simp only [SS]
  refine var_k (v:=zTV) fun w3 k3 b3 s3=>?_
  exact res_k (c:=(Ac.mk 0 0 0 0 0 0).cells) (cs:=(Ac.mk 0 0 0 0 0 0).cells) (k:=fun r0 w4=>K (.tuple #[r0,Er 20]) w4) ld41 (k3.bk (k2.bk b1 id) id) rfl rfl (by simp [Ac.cells,oneCell]) fun w4 k4=>h0 (getT_no e) w4 (((k1.trans k2).trans k3).own k4 (Nat.le_refl _))
 ·simp only [SS]
  refine var_k fun w3 k3 b3 s3=>?_
  have la:∀ k,La 6 ⟨w2.heap.size,2,none⟩ w3 k=k v.acc.cells.toArray:=fun k=>by rw [b3.la (by simp [TkV.cells])]; rfl
  simp only [SS,la]
  have k23:=k2.trans k3
  have hT3:=hT.kp k23 (fun _ _=>id) fun _ _=>id
  have hb3:Bk w3 l [Pt b 0] 208:=k23.bk hb id
  refine k210 (w:=dr w3 _) hb3 ?_
  have ha:∀ w',Bk w' w2.heap.size v.cells 47→Ha 6 ⟨w2.heap.size,2,none⟩ v.acc.cells.toArray w':=fun w' hb'=>by rw [hb'.ha (by simp [TkV.cells]) (cs:=v.acc.cells.toArray) rfl]; trivial
  simp only [SS]
  refine ⟨ha w3 b3,?_⟩
  refine tt_drop (hT3.kp (Kp.dr No w3 (w3.drawn+1)) (fun _ _=>id) fun _ _=>id) (fun e'=>?_) fun i' hi' e' w4 k4 hT4=>?_
  ·rw [e] at e'; cases e'
  ·rw [e] at e'; injection e' with e'; subst e'
   have hnF:∀ x,w.heap.size≤x→¬ F x:=fun x hx hF=>by have:=hl.lt x (.inl hF); omega
   have k4':=k4.drL
   have b4:Bk w4 w2.heap.size v.cells 47:=k4'.bk b3 (hnF _ (by have:=k1.size; have:=k2.size; omega))
   have c4:Bk w4 w.heap.size (Ac.mk 0 0 0 0 0 0).cells 41:=k4'.bk (k23.bk b1 id) (hnF _ (Nat.le_refl _))
   refine ⟨ha w4 b4,?_⟩
   have hk:Kp F w w4:=((k1.trans k23).no F).trans k4'
   refine res_k (c:=(Ac.mk 0 0 0 0 0 0).cells) (cs:=v.acc.cells) (k:=fun r0 w4=>K (.tuple #[r0,.nilIface]) w4) ld41 c4 rfl rfl (by simp [Ac.cells,oneCell]) fun w5 k5=>?_
   rw [hv.acc]
   have hl4:LF w4 F C l (upd1 S i (wr ((S i).1+1),none)):=⟨b,k4'.bk hb3 hFl,hCl,hFl,fun x hx=>by have:=hl.lt x hx; have:=hk.size; omega,hT4⟩
   exact h1 i t (getT_of e ht) w5 (hk.own k5 (Nat.le_refl _)) (hl4.kp k5 (fun x hx e=>by have:=hl.lt x (.inl hx); omega) fun x hx e=>by have:=hl.lt x (.inr hx); omega)
theorem LF.own {w1 w2:World} {x l:Nat} {S:Slots Tk} (h:LF w F C l S) (h1:LF w1 F C l S) (k:Kp (·=x) w1 w2) (hx:w.heap.size≤x):LF w2 F C l S :=
 h1.kp k (fun y hy e=>by have:=h.lt y (.inl hy); omega) fun y hy e=>by have:=h.lt y (.inr hy); omega
theorem k176 {l:Nat} {S:Slots Tk} {x now:Int} {j:Jb} (hl:LF w F C l S) (h:match pushL S 2 8 x j now with
  | .error e=>∀ w',Kp No w w'→K (Er e) w'
  | .ok S'=>∀ w',Kp F w w'→LF w' (gr F w w') C l S'→K .nilIface w'):Ct Tryz.prog 176 #[Pt l 0,I x,.agg j.cells.toArray,I now] w K:=by
 refine c176 ?_
 unfold F176
 refine new_k j.cells fun w1 k1 b1 s1=>?_
 have hl1:=hl.no k1
 obtain ⟨b,hb,hCl,hFl,hFs,hT⟩:=id hl1
 refine k210 hb ?_
 simp only [SS]
 refine tt_get hT (fun e w2 k2=>?_) (fun i t hi e ht v w2 k2 hv hF=>?_)
 ·simp only [SS]
  refine var_k (v:=zTV) fun w3 k3 b3 s3=>?_
  unfold pushL at h
  rw [getT_no e] at h
  exact h w3 ((k1.trans k2).trans k3)
 ·unfold pushL at h
  rw [getT_of e ht] at h
  simp only [SS] at h ⊢
  refine var_k fun w3 k3 b3 s3=>?_
  have k23:=k2.trans k3
  have j3:Bk w3 w.heap.size j.cells 37:=k23.bk b1 id
  simp only [b3.la0 (n:=8) v.len,j3.la0 (n:=4) rfl]
  have hv3:=hv.kp k3 fun _ _=>id
  refine k266 hv3 ?_
  cases ep:pushT t j now with
  | error er =>
   rw [ep] at h
   intro w4 k4
   simp only [SS]
   have b4:Bk w4 w2.heap.size v.cells 47:=k4.bk b3 id
   refine sa_k (cs:=zT) b4 rfl (by simp [TkV.cells]) (by simp [zT,oneCell]) fun w5 k5 b5 s5=>?_
   exact h w5 (((k1.trans k23).trans k4).own k5 (by have:=k1.size; have:=k2.size; omega))
  | ok t' =>
   rw [ep] at h
   intro v' w4 k4 hv' hF'
   simp only [SS]
   have b4:Bk w4 w2.heap.size v.cells 47:=k4.bk b3 id
   refine sa_k (cs:=v'.cells) b4 rfl (by simp [TkV.cells]) (by simpa using v'.one) fun w5 k5 b5 s5=>?_
   rw [over_all _ _ (show v.cells.length=v'.cells.length from rfl)] at b5
   have k05:Kp No w w5:=((k1.trans k23).trans k4).own k5 (by have:=k1.size; have:=k2.size; omega)
   have hv5:TkAt w5 v' t':=hv'.kp k5 fun y hy e=>by have:=hF' y hy; omega
   have k15:Kp No w1 w5:=(k23.trans k4).own k5 (by have:=k2.size; omega)
   have hb5:Bk w5 l [Pt b 0] 208:=k15.bk hb id
   have hT5:=((hT.kp k15 (fun _ _=>id) fun _ _=>id).mono (F':=gr F w w5) (C':=C) (fun _=>.inl) fun _=>id).kp (Kp.dr No w5 (w5.drawn+1)) (fun _ _=>id) fun _ _=>id
   simp only [SS,b5.la0 (n:=8) v'.len]
   refine k210 (w:=dr w5 _) hb5 ?_
   simp only [SS,b5.ha0 (n:=8) v'.len]
   refine tt_set (v:=v') (t:=t') hT5 (hv5.kp (Kp.dr No _ _) fun _ _=>id) (fun y hy=>.inr ⟨by have:=k23.size; have:=k1.size; have:=hF' y hy; omega,?_⟩) (fun e'=>?_) fun i' hi' e' w6 k6 hT6=>?_
   ·have hj:=hv5.jobs
    rw [hy] at hj
    exact (own_lt hj (b:=y.block) rfl).2
   ·rw [e] at e'; cases e'
   ·rw [e] at e'; injection e' with e'; subst e'
    have k6':=k6.drL
    have k06:Kp F w w6:=(k05.no F).gr k6'
    have hlw:=hl.ltl
    refine h w6 k06 ⟨b,k6'.bk hb5 (fun x=>by rcases x with x | x; exact hFl x; omega),hCl,fun x=>by rcases x with x | x; exact hFl x; omega,?_,hT6.mono (fun y hy=>?_) fun _=>id⟩
    ·intro y hy
     rcases hy with (hy | hy) | hy
     ·have:=hl.lt y (.inl hy); have:=k06.size; omega
     ·exact hy.2
     ·have:=hl.lt y (.inr hy); have:=k06.size; omega
    ·rcases hy with hy | hy
     ·exact .inl hy
     ·exact .inr ⟨hy.1,Nat.lt_of_lt_of_le hy.2 k6'.size⟩
def readyF (S:Slots Tk) (kind:Int) (n:Nat) (p:Int × Int) (h:Int):Int × Int:=match getT S kind n h with
 | some (_,t)=>if 0<t.jobs.length∧t.prio<p.2 then (h,t.prio) else p
 | none=>p
def readyL (S:Slots Tk) (kind:Int) (n:Nat):Int:=((allS S kind n).foldl (readyF S kind n) (0,32)).1
theorem k146 {l:Nat} {S:Slots Tk} (hl:LF w F C l S) (h:∀ a l c w',Kp No w w'→w'.ownsRow w.heap.size 33 1 (.slice a l c) (allS S 2 8).length ((allS S 2 8).map I)→K (.slice a l c) w'):Ct Tryz.prog 146 #[Pt l 0] w K:=by
 refine c146 ?_
 unfold F146
 obtain ⟨b,hb,hCl,hFl,hFs,hT⟩:=hl
 refine k210 hb ?_
 simp only [SS]
 exact tt_all hT (by decide) h
theorem foldl_take {α β:Type} (f:β→α→β) (l:List α) (b:β) {i:Nat} (hi:i<l.length):(l.take (i+1)).foldl f b=f ((l.take i).foldl f b) l[i]:=by
 rw [List.take_succ_eq_append_getElem hi,List.foldl_append]; rfl
theorem hd_lc {B l c:Nat} {a:Option Addr} {hs:List Int} (h:w.ownsRow B 33 1 (.slice a l c) hs.length (hs.map I)) {i:Nat} (hi:i<hs.length):∃ g,a=some ⟨g,0,none⟩∧l=hs.length∧∀ k,Lc ⟨g,i*1,none⟩ w k=k (I hs[i]):=by
 rcases own_bk h with ⟨_,_,_,h1,_⟩ | ⟨g,cur,rfl,rfl,_⟩
 ·omega
 ·exact ⟨g,rfl,rfl,fun k=>own_lc h (o:=i*1) (v:=I hs[i]) (by omega) (by simp [hi]) k⟩
theorem own_len {B l c:Nat} {a:Option Addr} {hs:List Int} (h:w.ownsRow B 33 1 (.slice a l c) hs.length (hs.map I)):l=hs.length:=by
 rcases own_bk h with ⟨_,h1,_,h2,_⟩ | ⟨_,_,_,h1,_⟩
 ·omega
 ·exact h1
theorem k343 {l:Nat} {S:Slots Tk} (hl:LF w F C l S) (h:∀ w',Kp No w w'→K (I (readyL S 2 8)) w'):Ct Tryz.prog 343 #[Pt l 0] w K:=by
 refine c343 ?_
 unfold F343
 refine k146 hl fun a0 l0 c0 w1 k1 ho1=>?_
 simp only [SS]
 have hlen:=allS_len S 2 8
 have hl0:=own_len ho1
 unfold F343_0
 refine ⟨fun y0 x3 x4 a10 l10 c10 x11 x12 w'=>y0=some ⟨l,0,none⟩∧a0=a10∧l0=l10∧c0=c10∧x11=l0∧Kp No w1 w'∧∃ i:Nat,x12=i∧i≤(allS S 2 8).length∧(x3,x4)=((allS S 2 8).take i).foldl (readyF S 2 8) (0,32),
  fun _ _ _ _ _ _ _ x12 _=>(allS S 2 8).length - x12.toNat,⟨rfl,rfl,rfl,rfl,rfl,Kp.refl _ _,0,rfl,Nat.zero_le _,by simp⟩,?_⟩
 rintro _ x3 x4 _ _ _ _ _ w2 ⟨rfl,rfl,rfl,rfl,rfl,k2,i,rfl,hi,hx⟩
 unfold F343_0B
 simp only [SS]
 by_cases e1:i<l0
 case neg =>
  rw [if_neg (by omega)]
  have:i=(allS S 2 8).length:=by omega
  subst this
  rw [List.take_length] at hx
  have:=h w2 (k1.trans k2)
  unfold readyL at this
  rw [← hx] at this
  exact this
 rw [if_pos (by omega)]
 have hi':i<(allS S 2 8).length:=by omega
 have ho2:=own_kp ho1 k2 fun _ _=>id
 obtain ⟨g,rfl,_,hlc⟩:=hd_lc ho2 hi'
 have hl2:=hl.no (k1.trans k2)
 obtain ⟨b,hb,hCl,hFl,hFs,hT⟩:=id hl2
 have hstep:=foldl_take (readyF S 2 8) (allS S 2 8) (0,32) hi'
 rw [← hx] at hstep
 simp only [SS,Ix_c e1,hlc,hb.rd (o:=0) (v:=Pt b 0) rfl]
 obtain ⟨hd,hhd⟩:∃ y,y=(allS S 2 8)[i]:=⟨_,rfl⟩
 rw [← hhd] at hstep ⊢
 have next:∀ w3,Kp No w2 w3→∀ y3 y4,(y3,y4)=readyF S 2 8 (x3,x4) hd→(Kp No w1 w3∧∃ j:Nat,IntKind.i64.wrap ((i:Int)+1)=j∧j≤(allS S 2 8).length∧(y3,y4)=((allS S 2 8).take j).foldl (readyF S 2 8) (0,32))∧(allS S 2 8).length - (IntKind.i64.wrap ((i:Int)+1)).toNat<(allS S 2 8).length - i:=by
  intro w3 k3 y3 y4 hy
  rw [cast_succ _ (by omega)]
  exact ⟨⟨k2.trans k3,i+1,rfl,by omega,by rw [hstep]; exact hy⟩,by simp; omega⟩
 refine tt_get hT (fun e w3 k3=>?_) (fun i' t hi' e ht v w3 k3 hv hF=>?_)
 ·simp only [SS]
  refine var_k (v:=zTV) fun w4 k4 b4 s4=>?_
  simp only [SS,b4.la0 (n:=8) rfl]
  refine k383 fun w5 k5=>?_
  simp only [SS,show decide (0<zTV.jl)=false from rfl]
  exact next w5 ((k3.trans k4).trans k5) _ _ (by unfold readyF; rw [getT_no e])
 ·simp only [SS]
  refine var_k (v:=v) fun w4 k4 b4 s4=>?_
  simp only [SS,b4.la0 (n:=8) v.len]
  refine k383 fun w5 k5=>?_
  have b5:Bk w5 w3.heap.size v.cells 47:=k5.bk b4 id
  have k25:=(k3.trans k4).trans k5
  have hr:readyF S 2 8 (x3,x4) hd=if 0<t.jobs.length∧t.prio<x4 then (hd,t.prio) else (x3,x4):=by unfold readyF; rw [getT_of e ht]
  simp only [SS,b5.rd (o:=0) (v:=I v.prio) rfl,hv.jl,hv.prio]
  by_cases e3:0<t.jobs.length
  ·simp only [e3,decide_true,SS]
   by_cases e4:t.prio<x4
   ·rw [if_pos e4]
    exact next _ (k25.drR _) _ _ (by rw [hr,if_pos ⟨e3,e4⟩])
   ·rw [if_neg e4]
    exact next _ k25 _ _ (by rw [hr,if_neg fun z=>e4 z.2])
  ·simp only [e3,decide_false,SS]
   exact next _ k25 _ _ (by rw [hr,if_neg fun z=>e3 z.1])
end
section
open Sy
variable {K:Ko} {w w':World} {F C:Nat→Prop}
def offerL (S:Slots Tk) (kind:Int) (n:Nat) (now:Int):Option (Int × Int × Int × Slots Tk):=match getT S kind n (readyL S kind n) with
 | none=>none
 | some (i,t)=>match runT t now with
  | .error _=>none
  | .ok (t',what,late)=>some (readyL S kind n,if what=1 then 8 else if what=2 then 9 else what,late,upd1 S i ((S i).1,some t'))
theorem lf_set {l b i d:Nat} {S:Slots Tk} {h:Int} {t':Tk} {v':TkV} {w5:World} (hl:LF w F C l S) (k05:Kp No w w5) (hb:Bk w5 l [Pt b 0] 208) (hT:TT w5 F C b 2 8 S) (e:findS S 2 8 h=some i) (hv:TkAt w5 v' t') (hF:∀ a,v'.ja=some a→w.heap.size≤a.block)
  {k:World→Prop} (hk:∀ w6,Kp F w w6→LF w6 (gr F w w6) C l (upd1 S i ((S i).1,some t'))→k w6):Ct Tryz.prog 267 #[Pt b 0,I h,.agg v'.cells.toArray] (dr w5 d) (fun _ w6=>k w6):=by
 have hT5:=((hT.mono (F':=gr F w w5) (C':=C) (fun _=>.inl) fun _=>id)).kp (Kp.dr No w5 d) (fun _ _=>id) fun _ _=>id
 obtain ⟨_,_,hCl,hFl,_,_⟩:=id hl
 refine tt_set (v:=v') (t:=t') hT5 (hv.kp (Kp.dr No _ _) fun _ _=>id) (fun y hy=>.inr ⟨hF y hy,?_⟩) (fun e'=>?_) fun i' hi' e' w6 k6 hT6=>?_
 ·have hj:=hv.jobs
  rw [hy] at hj
  exact (own_lt hj (b:=y.block) rfl).2
 ·rw [e] at e'; cases e'
 ·rw [e] at e'; injection e' with e'; subst e'
  have k6':=k6.drL
  have k06:Kp F w w6:=(k05.no F).gr k6'
  have hlw:=hl.ltl
  refine hk w6 k06 ⟨b,k6'.bk hb (fun x=>by rcases x with x | x; exact hFl x; omega),hCl,fun x=>by rcases x with x | x; exact hFl x; omega,?_,hT6.mono (fun y hy=>?_) fun _=>id⟩
  ·intro y hy
   rcases hy with (hy | hy) | hy
   ·have:=hl.lt y (.inl hy); have:=k06.size; omega
   ·exact hy.2
   ·have:=hl.lt y (.inr hy); have:=k06.size; omega
  ·rcases hy with hy | hy
   ·exact .inl hy
   ·exact .inr ⟨hy.1,Nat.lt_of_lt_of_le hy.2 k6'.size⟩
theorem k273 {l:Nat} {S:Slots Tk} {now:Int} (hl:LF w F C l S) (h:match offerL S 2 8 now with
  | none=>∀ w',Kp No w w'→K (.tuple #[I 0,I 0,I 0]) w'
  | some (x,what,late,S')=>∀ w',Kp F w w'→LF w' (gr F w w') C l S'→K (.tuple #[I x,I what,I late]) w'):Ct Tryz.prog 273 #[Pt l 0,I now] w K:=by
 refine c273 ?_
 unfold F273
 refine k343 hl fun w1 k1=>?_
 have hl1:=hl.no k1
 obtain ⟨b,hb,hCl,hFl,hFs,hT⟩:=id hl1
 simp only [SS]
 refine k210 hb ?_
 simp only [SS]
 unfold offerL at h
 refine tt_get hT (fun e w2 k2=>?_) (fun i t hi e ht v w2 k2 hv hF=>?_)
 ·simp only [SS]
  refine var_k (v:=zTV) fun w3 k3 b3 s3=>?_
  rw [getT_no e] at h
  exact h w3 ((k1.trans k2).trans k3)
 ·rw [getT_of e ht] at h
  simp only [SS] at h ⊢
  refine var_k fun w3 k3 b3 s3=>?_
  have k23:=k2.trans k3
  simp only [b3.la0 (n:=8) v.len]
  have hv3:=hv.kp k3 fun _ _=>id
  refine k344 hv3 ?_
  cases ep:runT t now with
  | error er =>
   rw [ep] at h
   intro w4 k4
   simp only [SS]
   have b4:Bk w4 w2.heap.size v.cells 47:=k4.bk b3 id
   refine sa_k (cs:=zT) b4 rfl (by simp [TkV.cells]) (by simp [zT,oneCell]) fun w5 k5 b5 s5=>?_
   try simp only [SS]
   exact h w5 (((k1.trans k23).trans k4).own k5 (by have:=k1.size; have:=k2.size; omega))
  | ok r =>
   obtain ⟨t',what,late⟩:=r
   rw [ep] at h
   intro v' w4 k4 hv' hF'
   simp only [SS]
   have b4:Bk w4 w2.heap.size v.cells 47:=k4.bk b3 id
   refine sa_k (cs:=v'.cells) b4 rfl (by simp [TkV.cells]) (by simpa using v'.one) fun w5 k5 b5 s5=>?_
   rw [over_all _ _ (show v.cells.length=v'.cells.length from rfl)] at b5
   have k15:Kp No w1 w5:=(k23.trans k4).own k5 (by have:=k2.size; omega)
   have k05:=k1.trans k15
   have hb5:Bk w5 l [Pt b 0] 208:=k15.bk hb id
   have hv5:TkAt w5 v' t':=hv'.kp k5 fun y hy e=>by have:=hF' y hy; omega
   simp only [SS,hb5.rd (o:=0) (v:=Pt b 0) rfl,b5.la0 (n:=8) v'.len]
   refine lf_set hl k05 hb5 (hT.kp k15 (fun _ _=>id) fun _ _=>id) e hv5 (fun a ha=>by have:=hF' a ha; have:=k1.size; have:=k23.size; omega) fun w6 k6 hl6=>?_
   have hh:=h w6 k6 hl6
   split
   ·rename_i e1; rw [if_pos e1] at hh; exact hh
   ·rename_i e1
    rw [if_neg e1] at hh
    split
    ·rename_i e2; rw [if_pos e2] at hh; exact hh
    ·rename_i e2; rw [if_neg e2] at hh; exact hh
theorem k152 {l:Nat} {S:Slots Tk} {x:Int} (hl:LF w F C l S) (h:match getT S 2 8 x with
  | none=>∀ w',Kp No w w'→K (.tuple #[.agg zT.toArray,Er 20]) w'
  | some (_,t)=>∀ v w',Kp No w w'→TkAt w' v t→Frsh w v→K (.tuple #[.agg v.cells.toArray,.nilIface]) w'):Ct Tryz.prog 152 #[Pt l 0,I x] w K:=by
 refine c152 ?_
 unfold F152
 refine new_k zT fun w1 k1 b1 s1=>?_
 have hl1:=hl.no k1
 obtain ⟨b,hb,hCl,hFl,hFs,hT⟩:=id hl1
 refine k210 hb ?_
 simp only [SS]
 refine tt_get hT (fun e w2 k2=>?_) (fun i t hi e ht v w2 k2 hv hF=>?_)
 ·simp only [SS]
  refine var_k (v:=zTV) fun w3 k3 b3 s3=>?_
  rw [getT_no e] at h
  exact res_k (c:=zT) (cs:=zT) (k:=fun r0 w4=>K (.tuple #[r0,Er 20]) w4) ld47 (k3.bk (k2.bk b1 id) id) rfl rfl (by simp [zT,oneCell]) fun w4 k4=>h w4 (((k1.trans k2).trans k3).own k4 (Nat.le_refl _))
 ·simp only [SS]
  refine var_k fun w3 k3 b3 s3=>?_
  rw [getT_of e ht] at h
  simp only [SS,b3.la0 (n:=8) v.len]
  refine k227 (hv.kp k3 fun _ _=>id) fun v' w4 k4 hv' hfr=>?_
  simp only [SS]
  have b4:Bk w4 w.heap.size zT 47:=k4.bk (k3.bk (k2.bk b1 id) id) id
  refine res_k (c:=zT) (cs:=v'.cells) (k:=fun r0 w4=>K (.tuple #[r0,.nilIface]) w4) ld47 b4 rfl rfl (by simpa using v'.one) fun w5 k5=>?_
  refine h v' w5 ((((k1.trans k2).trans k3).trans k4).own k5 (Nat.le_refl _)) (hv'.kp k5 fun y hy e=>?_) fun y hy=>Nat.le_trans ((k1.trans k2).trans k3).size (hfr y hy)
  have hj:=hv'.jobs
  rw [hy] at hj
  rcases own_bk hj with ⟨h',_⟩ | ⟨g,cur,hg,_,_,hbk,_⟩
  ·cases h'
  ·injection hg with hg
   subst hg
   exact ne_of_bk hbk b4 (fun e=>by injection e with _ e; simp at e) e
end
section
open Sy
def F29_0B (R:Ko) (C0:Addr→Int→Int→World→Prop) (x6:Addr) (x32:Int) (x33:Int) (w:World):Prop:=Ifm (decide ((x33:Int)<x32)) (Lc (x6.add 1) w fun v39=>onL v39 fun a39 l39 c39=>Ix a39 l39 x33 3 fun x41=>Sc (x41.add 0) (.int .i64 1) w fun w3=>C0 x6 x32 (IntKind.i64.wrap (x33+1)) w3) (R (.tuple #[.pointer (some x6),.nilIface]) w)
def F29_0 (R:Ko) (x6:Addr) (x32:Int) (x33:Int) (w:World):Prop:=∃ (Inv:Addr→Int→Int→World→Prop) (μ:Addr→Int→Int→World→Nat),Inv x6 x32 x33 w∧∀ x6 x32 x33 w,Inv x6 x32 x33 w→F29_0B R (fun x6' x32' x33' w'=>Inv x6' x32' x33' w'∧μ x6' x32' x33' w'<μ x6 x32 x33 w) x6 x32 x33 w
def F29 (R:Ko) (x0:Int) (x1:Int) (w:World):Prop:=Ifm (decide ((x0:Int)<1)) (R (.tuple #[.pointer none,.iface 129 (.int .i64 1)]) w) (Ifm (decide ((x0:Int) > 3)) (R (.tuple #[.pointer none,.iface 129 (.int .i64 1)]) w) (Ifm (decide ((x1:Int)<1)) (R (.tuple #[.pointer none,.iface 129 (.int .i64 1)]) w) (Ifm (decide ((x1:Int) > 4096)) (R (.tuple #[.pointer none,.iface 129 (.int .i64 1)]) w) (Rv Tryz.prog (Instr.makeSlice 197 (.int .i64 x1) (.int .i64 x1)) w fun v25 w1=>onL v25 fun a25 l25 c25=>New (.cells (.agg #[.int .i64 x0,.slice a25 l25 c25]:Value).cells 199) w1 fun x27 w2=>Lc (x27.add 1) w2 fun v31=>onL v31 fun a31 l31 c31=>F29_0 R x27 (l31:Nat) 0 w2))))
noncomputable def b29:Code:=Tryz.f29.body.getD .skip
def q29_0:List Bool:=[false,true,false,true,true,true]
def L29_0 (F:Addr→Int→Int→World→Prop):Env→World→Prop:=fun ρ w=>onA (ρ 6) fun x6=>onI (ρ 32) fun x32=>onI (ρ 33) fun x33=>F x6 x32 x33 w
abbrev T29 (z:Fr) (R:Ko) (p:List Bool) (ρ:Env) (w:World):Prop:=TW z Tryz.prog 45 (segTodo b29 p) (QR Tryz.prog [.tmp 4,.tmp 5] R) ρ w
theorem s29_0 (R:Ko):∀ ρ w,(L29_0 (F29_0 R)) ρ w→T29 z0 R q29_0 ρ w:=by
 intro ρ w h
 obtain ⟨x6,e6,h⟩:=onA_of h
 obtain ⟨x32,e32,h⟩:=onI_of h
 obtain ⟨x33,e33,h⟩:=onI_of h
 obtain ⟨Inv,μ,hi,hb⟩:=h
 refine lpT (fun m=>L29_0 (fun x6 x32 x33 w=>Inv x6 x32 x33 w∧μ x6 x32 x33 w=m)) ?_ (μ x6 x32 x33 w) ρ w ?_
 ·intro m ρ w ih h
  obtain ⟨x6,e6,h⟩:=onA_of h
  obtain ⟨x32,e32,h⟩:=onI_of h
  obtain ⟨x33,e33,h⟩:=onI_of h
  obtain ⟨hv,hm⟩:=h
  subst hm
  have hh:=hb x6 x32 x33 w hv
  obtain ⟨C0,hC⟩:∃ C,C=fun x6' x32' x33' w'=>Inv x6' x32' x33' w'∧μ x6' x32' x33' w'<μ x6 x32 x33 w:=⟨_,rfl⟩
  rw [← hC] at hh
  have h0:∀ ρ w,(L29_0 C0) ρ w→T29 z0 R q29_0 ρ w:=by
   intro ρ' w' h'
   refine ih ρ' w' ?_
   obtain ⟨x6',e6',h'⟩:=onA_of h'
   obtain ⟨x32',e32',h'⟩:=onI_of h'
   obtain ⟨x33',e33',h'⟩:=onI_of h'
   rw [hC] at h'
   refine ⟨_,h'.2,?_⟩
   simp only [e6',e32',e33',L29_0,ons]
   exact ⟨h'.1,by trivial⟩
  rw [← upds_same (ρ:=ρ) [(6,.pointer (some x6)),(32,.int .i64 x32),(33,.int .i64 x33)] (alc e6 (alc e32 (alc e33 aln)))]
  exact sg (cuts:=[(q29_0,L29_0 C0)]) ⟨h0,trivial⟩ hh
 ·simp only [e6,e32,e33,L29_0,ons]
  exact ⟨hi,by trivial⟩
theorem c29 {R:Ko} {x0:Int} {x1:Int} {w:World} (h:F29 R x0 x1 w):Ct Tryz.prog 29 #[.int .i64 x0,.int .i64 x1] w R :=
 ctS (args:=[.int .i64 x0,.int .i64 x1]) (body:=b29) (n:=45) (rs:=[.tmp 4,.tmp 5]) Tryz.func29
  (sg (cuts:=[(q29_0,L29_0 (F29_0 R))]) ⟨s29_0 R,trivial⟩ h)
def F81_0B (R:Ko) (C0:Addr→Int→Int→World→Prop) (x6:Addr) (x32:Int) (x33:Int) (w:World):Prop:=Ifm (decide ((x33:Int)<x32)) (Lc (x6.add 1) w fun v39=>onL v39 fun a39 l39 c39=>Ix a39 l39 x33 10 fun x41=>Sc (x41.add 0) (.int .i64 1) w fun w3=>C0 x6 x32 (IntKind.i64.wrap (x33+1)) w3) (R (.tuple #[.pointer (some x6),.nilIface]) w)
def F81_0 (R:Ko) (x6:Addr) (x32:Int) (x33:Int) (w:World):Prop:=∃ (Inv:Addr→Int→Int→World→Prop) (μ:Addr→Int→Int→World→Nat),Inv x6 x32 x33 w∧∀ x6 x32 x33 w,Inv x6 x32 x33 w→F81_0B R (fun x6' x32' x33' w'=>Inv x6' x32' x33' w'∧μ x6' x32' x33' w'<μ x6 x32 x33 w) x6 x32 x33 w
def F81 (R:Ko) (x0:Int) (x1:Int) (w:World):Prop:=Ifm (decide ((x0:Int)<1)) (R (.tuple #[.pointer none,.iface 129 (.int .i64 1)]) w) (Ifm (decide ((x0:Int) > 3)) (R (.tuple #[.pointer none,.iface 129 (.int .i64 1)]) w) (Ifm (decide ((x1:Int)<1)) (R (.tuple #[.pointer none,.iface 129 (.int .i64 1)]) w) (Ifm (decide ((x1:Int) > 4096)) (R (.tuple #[.pointer none,.iface 129 (.int .i64 1)]) w) (Rv Tryz.prog (Instr.makeSlice 309 (.int .i64 x1) (.int .i64 x1)) w fun v25 w1=>onL v25 fun a25 l25 c25=>New (.cells (.agg #[.int .i64 x0,.slice a25 l25 c25]:Value).cells 311) w1 fun x27 w2=>Lc (x27.add 1) w2 fun v31=>onL v31 fun a31 l31 c31=>F81_0 R x27 (l31:Nat) 0 w2))))
noncomputable def b81:Code:=Tryz.f81.body.getD .skip
def q81_0:List Bool:=[false,true,false,true,true,true]
def L81_0 (F:Addr→Int→Int→World→Prop):Env→World→Prop:=fun ρ w=>onA (ρ 6) fun x6=>onI (ρ 32) fun x32=>onI (ρ 33) fun x33=>F x6 x32 x33 w
abbrev T81 (z:Fr) (R:Ko) (p:List Bool) (ρ:Env) (w:World):Prop:=TW z Tryz.prog 45 (segTodo b81 p) (QR Tryz.prog [.tmp 4,.tmp 5] R) ρ w
theorem s81_0 (R:Ko):∀ ρ w,(L81_0 (F81_0 R)) ρ w→T81 z0 R q81_0 ρ w:=by
 intro ρ w h
 obtain ⟨x6,e6,h⟩:=onA_of h
 obtain ⟨x32,e32,h⟩:=onI_of h
 obtain ⟨x33,e33,h⟩:=onI_of h
 obtain ⟨Inv,μ,hi,hb⟩:=h
 refine lpT (fun m=>L81_0 (fun x6 x32 x33 w=>Inv x6 x32 x33 w∧μ x6 x32 x33 w=m)) ?_ (μ x6 x32 x33 w) ρ w ?_
 ·intro m ρ w ih h
  obtain ⟨x6,e6,h⟩:=onA_of h
  obtain ⟨x32,e32,h⟩:=onI_of h
  obtain ⟨x33,e33,h⟩:=onI_of h
  obtain ⟨hv,hm⟩:=h
  subst hm
  have hh:=hb x6 x32 x33 w hv
  obtain ⟨C0,hC⟩:∃ C,C=fun x6' x32' x33' w'=>Inv x6' x32' x33' w'∧μ x6' x32' x33' w'<μ x6 x32 x33 w:=⟨_,rfl⟩
  rw [← hC] at hh
  have h0:∀ ρ w,(L81_0 C0) ρ w→T81 z0 R q81_0 ρ w:=by
   intro ρ' w' h'
   refine ih ρ' w' ?_
   obtain ⟨x6',e6',h'⟩:=onA_of h'
   obtain ⟨x32',e32',h'⟩:=onI_of h'
   obtain ⟨x33',e33',h'⟩:=onI_of h'
   rw [hC] at h'
   refine ⟨_,h'.2,?_⟩
   simp only [e6',e32',e33',L81_0,ons]
   exact ⟨h'.1,by trivial⟩
  rw [← upds_same (ρ:=ρ) [(6,.pointer (some x6)),(32,.int .i64 x32),(33,.int .i64 x33)] (alc e6 (alc e32 (alc e33 aln)))]
  exact sg (cuts:=[(q81_0,L81_0 C0)]) ⟨h0,trivial⟩ hh
 ·simp only [e6,e32,e33,L81_0,ons]
  exact ⟨hi,by trivial⟩
theorem c81 {R:Ko} {x0:Int} {x1:Int} {w:World} (h:F81 R x0 x1 w):Ct Tryz.prog 81 #[.int .i64 x0,.int .i64 x1] w R :=
 ctS (args:=[.int .i64 x0,.int .i64 x1]) (body:=b81) (n:=45) (rs:=[.tmp 4,.tmp 5]) Tryz.func81
  (sg (cuts:=[(q81_0,L81_0 (F81_0 R))]) ⟨s81_0 R,trivial⟩ h)
def F31 (R:Ko)  (w:World):Prop:=Ct Tryz.prog 81 #[.int .i64 2,.int .i64 8] w fun v4 w1=>on2 v4 fun y4_0 y4_1=>onP y4_0 fun x4_0=>New (.cells (.agg #[.pointer x4_0]:Value).cells 208) w1 fun x9 w2=>R (.pointer (some x9)) w2
noncomputable def b31:Code:=Tryz.f31.body.getD .skip
theorem c31 {R:Ko}  {w:World} (h:F31 R  w):Ct Tryz.prog 31 #[] w R :=
 ctS (args:=[]) (body:=b31) (n:=10) (rs:=[.tmp 0]) Tryz.func31
  (sg (cuts:=[]) trivial h)
def F33 (R:Ko)  (w:World):Prop:=Ct Tryz.prog 81 #[.int .i64 3,.int .i64 16] w fun v4 w1=>on2 v4 fun y4_0 y4_1=>onP y4_0 fun x4_0=>New (.cells (.agg #[.pointer x4_0,.int .i64 (-1)]:Value).cells 215) w1 fun x9 w2=>R (.pointer (some x9)) w2
noncomputable def b33:Code:=Tryz.f33.body.getD .skip
theorem c33 {R:Ko}  {w:World} (h:F33 R  w):Ct Tryz.prog 33 #[] w R :=
 ctS (args:=[]) (body:=b33) (n:=10) (rs:=[.tmp 0]) Tryz.func33
  (sg (cuts:=[]) trivial h)
variable {K:Ko} {w w':World} {F C:Nat→Prop}
theorem made_flat (z:Array Value) {sz n:Nat} (hz:z.size=sz) (h0:0<sz):(madeCells z (n*sz)).toList=Flat (fun _=>z.toList) n:=by
 subst hz
 refine Flat_ext (g:=fun _=>z.toList) (n:=n) (sz:=z.size) (fun _=>by simp) h0 (by simp [size_madeCells]) ?_
 intro q r hq hr
 have hlt:q*z.size+r<n*z.size:=lt_mul_of hq hr
 have hm:(q*z.size+r) % z.size=r:=by rw [Nat.mul_comm,Nat.mul_add_mod,Nat.mod_eq_of_lt hr]
 simp only [madeCells,Array.toList_map,List.getElem?_map,Array.toList_range,List.getElem?_range hlt,Option.map_some,hm]
 simp [hr]
theorem e197:∃ i z,Elem Tryz.prog 197 201 3 i z∧z.cells.toList=slotC ptC [.pointer none] (0,none):=by
 obtain ⟨i,z,E⟩:=elemB_of (P:=Tryz.prog) (t:=197) (e:=201) (sz:=3) (by kernel_rfl)
 refine ⟨i,z,E,?_⟩
 have h1:(Tryz.prog.info? 201).bind (·.zero)=some (.agg (slotC ptC [.pointer none] (0,none)).toArray):=by kernel_rfl
 rw [E.hi] at h1
 have:=E.hz
 rw [show i.zero=some (.agg (slotC ptC [.pointer none] (0,none)).toArray) from h1] at this
 injection this with this
 subst this
 rfl
theorem k29 {kind:Int} {n:Nat} (hk1:1≤kind) (hk3:kind≤3) (hn1:1≤n) (hn:n≤4096)
  (h:∀ b L w',Kp No w w'→w.heap.size≤b→w.heap.size≤L→Tab w' 199 201 3 n kind b L (fun _=>slotC ptC [.pointer none] (1,none))→K (.tuple #[Pt b 0,.nilIface]) w'):Ct Tryz.prog 29 #[I kind,I n] w K:=by
 refine c29 ?_
 unfold F29
 simp only [SS]
 rw [if_neg (by omega),if_neg (by omega),if_neg (by omega),if_neg (by omega)]
 obtain ⟨i,z,E,hz⟩:=e197
 refine mk_own E (B:=0) (Nat.zero_le _) (by omega) fun w1 hr k1=>?_
 rw [made_flat z.cells E.hzs E.h0,hz] at hr
 have hrow:Bk w1 w.heap.size (Flat (fun _=>slotC ptC [.pointer none] (0,none)) n) 201:=by
  rcases own_bk hr with ⟨h',_⟩ | ⟨g,cur,hg,_,_,hb,_,hl,ht⟩
  ·cases h'
  ·simp only [Option.some.injEq,Addr.mk.injEq,and_true] at hg
   subst hg
   rw [List.take_of_length_le (by omega)] at ht
   rw [← ht]; exact hb
 simp only [SS]
 refine new_k [I kind,.slice (some ⟨w.heap.size,0,none⟩) n n] fun w2 k2 b2 s2=>?_
 have k02:=k1.trans k2
 simp only [SS,b2.rd (o:=1) (v:=.slice (some ⟨w.heap.size,0,none⟩) n n) rfl]
 obtain ⟨b,hb⟩:∃ b,b=w1.heap.size:=⟨_,rfl⟩
 obtain ⟨L,hL⟩:∃ L,L=w.heap.size:=⟨_,rfl⟩
 have hrow2:Bk w2 w.heap.size (Flat (fun _=>slotC ptC [.pointer none] (0,none)) n) 201:=k2.bk hrow id
 have hs1:=k1.size
 rw [← hb] at b2 ⊢
 rw [← hL] at b2 hrow2
 unfold F29_0
 refine ⟨fun x6 x32 x33 w'=>x6=⟨b,0,none⟩∧x32=n∧Kp No w w'∧∃ i:Nat,x33=i∧i≤n∧Tab w' 199 201 3 n kind b L (fun k=>slotC ptC [.pointer none] (if k<i then 1 else 0,none)),fun _ _ x33 _=>n - x33.toNat,
  ⟨rfl,rfl,k02,0,rfl,Nat.zero_le _,⟨b2,by simpa using hrow2,fun _=>rfl⟩⟩,?_⟩
 rintro _ _ _ w3 ⟨rfl,rfl,k3,i,rfl,hi,hT⟩
 unfold F29_0B
 simp only [SS]
 by_cases e1:i<n
 case neg =>
  rw [if_neg (by omega)]
  exact h b L w3 k3 (by omega) (by omega) (hT.congr (fun k hk=>by rw [if_pos (by omega)]) fun _=>rfl)
 rw [if_pos (by omega)]
 simp only [SS,hT.hd.rd (o:=1) (v:=.slice (some ⟨L,0,none⟩) n n) rfl,Ix_c e1]
 have st:=hT.st (j:=0) e1 (by decide) (.int .i64 1) rfl
 have s1:=hT.set (by decide) (j:=0) e1 (by decide) (.int .i64 1)
 rw [Nat.add_zero] at st s1
 rw [st,cast_succ _ (by omega)]
 simp only [SS]
 refine ⟨⟨k3.own (Kp.set (·=L) _ _ fun _=>rfl) (by omega),i+1,rfl,by omega,s1.congr (fun k hk=>?_) fun _=>rfl⟩,by omega⟩
 by_cases e:k=i
 ·subst e; rw [upd1_same,if_neg (by omega),if_pos (by omega)]; rfl
 ·rw [upd1_ne _ _ e]
  by_cases e':k<i
  ·rw [if_pos e',if_pos (by omega)]
  ·rw [if_neg e',if_neg (by omega)]
theorem e309:∃ i z,Elem Tryz.prog 309 313 10 i z∧z.cells.toList=slotC TkV.cells zT (0,none):=by
 obtain ⟨i,z,E⟩:=elemB_of (P:=Tryz.prog) (t:=309) (e:=313) (sz:=10) (by kernel_rfl)
 refine ⟨i,z,E,?_⟩
 have h1:(Tryz.prog.info? 313).bind (·.zero)=some (.agg (slotC TkV.cells zT (0,none)).toArray):=by kernel_rfl
 rw [E.hi] at h1
 have:=E.hz
 rw [show i.zero=some (.agg (slotC TkV.cells zT (0,none)).toArray) from h1] at this
 injection this with this
 subst this
 rfl
theorem k81 {kind:Int} {n:Nat} (hk1:1≤kind) (hk3:kind≤3) (hn1:1≤n) (hn:n≤4096)
  (h:∀ b L w',Kp No w w'→w.heap.size≤b→w.heap.size≤L→Tab w' 311 313 10 n kind b L (fun _=>slotC TkV.cells zT (1,none))→K (.tuple #[Pt b 0,.nilIface]) w'):Ct Tryz.prog 81 #[I kind,I n] w K:=by
 refine c81 ?_
 unfold F81
 simp only [SS]
 rw [if_neg (by omega),if_neg (by omega),if_neg (by omega),if_neg (by omega)]
 obtain ⟨i,z,E,hz⟩:=e309
 refine mk_own E (B:=0) (Nat.zero_le _) (by omega) fun w1 hr k1=>?_
 rw [made_flat z.cells E.hzs E.h0,hz] at hr
 have hrow:Bk w1 w.heap.size (Flat (fun _=>slotC TkV.cells zT (0,none)) n) 313:=by
  rcases own_bk hr with ⟨h',_⟩ | ⟨g,cur,hg,_,_,hb,_,hl,ht⟩
  ·cases h'
  ·simp only [Option.some.injEq,Addr.mk.injEq,and_true] at hg
   subst hg
   rw [List.take_of_length_le (by omega)] at ht
   rw [← ht]; exact hb
 simp only [SS]
 refine new_k [I kind,.slice (some ⟨w.heap.size,0,none⟩) n n] fun w2 k2 b2 s2=>?_
 have k02:=k1.trans k2
 simp only [SS,b2.rd (o:=1) (v:=.slice (some ⟨w.heap.size,0,none⟩) n n) rfl]
 obtain ⟨b,hb⟩:∃ b,b=w1.heap.size:=⟨_,rfl⟩
 obtain ⟨L,hL⟩:∃ L,L=w.heap.size:=⟨_,rfl⟩
 have hrow2:Bk w2 w.heap.size (Flat (fun _=>slotC TkV.cells zT (0,none)) n) 313:=k2.bk hrow id
 have hs1:=k1.size
 rw [← hb] at b2 ⊢
 rw [← hL] at b2 hrow2
 unfold F81_0
 refine ⟨fun x6 x32 x33 w'=>x6=⟨b,0,none⟩∧x32=n∧Kp No w w'∧∃ i:Nat,x33=i∧i≤n∧Tab w' 311 313 10 n kind b L (fun k=>slotC TkV.cells zT (if k<i then 1 else 0,none)),fun _ _ x33 _=>n - x33.toNat,
  ⟨rfl,rfl,k02,0,rfl,Nat.zero_le _,⟨b2,by simpa using hrow2,fun _=>rfl⟩⟩,?_⟩
 rintro _ _ _ w3 ⟨rfl,rfl,k3,i,rfl,hi,hT⟩
 unfold F81_0B
 simp only [SS]
 by_cases e1:i<n
 case neg =>
  rw [if_neg (by omega)]
  exact h b L w3 k3 (by omega) (by omega) (hT.congr (fun k hk=>by rw [if_pos (by omega)]) fun _=>rfl)
 rw [if_pos (by omega)]
 simp only [SS,hT.hd.rd (o:=1) (v:=.slice (some ⟨L,0,none⟩) n n) rfl,Ix_c e1]
 have st:=hT.st (j:=0) e1 (by decide) (.int .i64 1) rfl
 have s1:=hT.set (by decide) (j:=0) e1 (by decide) (.int .i64 1)
 rw [Nat.add_zero] at st s1
 rw [st,cast_succ _ (by omega)]
 simp only [SS]
 refine ⟨⟨k3.own (Kp.set (·=L) _ _ fun _=>rfl) (by omega),i+1,rfl,by omega,s1.congr (fun k hk=>?_) fun _=>rfl⟩,by omega⟩
 by_cases e:k=i
 ·subst e; rw [upd1_same,if_neg (by omega),if_pos (by omega)]; rfl
 ·rw [upd1_ne _ _ e]
  by_cases e':k<i
  ·rw [if_pos e',if_pos (by omega)]
  ·rw [if_neg e',if_neg (by omega)]
theorem sl_new (w:World) (F:Nat→Prop):SlR w F (1,none) (1,none):=⟨rfl,.inl ⟨rfl,rfl⟩⟩
def emptyS {α:Type}:Slots α:=fun _=>(1,none)
theorem k31 (h:∀ l b L w',Kp No w w'→w.heap.size≤l→w.heap.size≤b→w.heap.size≤L→l≠L→Bk w' l [Pt b 0] 208→TTV w' (·=L) (fun x=>x=l∨x=b) b L emptyS 2 8 emptyS→K (Pt l 0) w'):Ct Tryz.prog 31 #[] w K:=by
 refine c31 ?_
 unfold F31
 refine k81 (n:=8) (by omega) (by omega) (by omega) (by omega) fun b L w1 k1 hb hL hT=>?_
 simp only [SS]
 refine new_k [Pt b 0] fun w2 k2 b2 s2=>?_
 have:=k1.size
 refine h w1.heap.size b L w2 (k1.trans k2) (by omega) hb hL ?_ b2 ⟨hT.kp k2 id id,.inr rfl,rfl,fun i=>sl_new _ _⟩
 have:=hT.row.lt
 omega
theorem k33 (h:∀ p b L w',Kp No w w'→w.heap.size≤p→w.heap.size≤b→w.heap.size≤L→p≠L→Bk w' p [Pt b 0,I (-1)] 215→TTV w' (·=L) (fun x=>x=b) b L emptyS 3 16 emptyS→K (Pt p 0) w'):Ct Tryz.prog 33 #[] w K:=by
 refine c33 ?_
 unfold F33
 refine k81 (n:=16) (by omega) (by omega) (by omega) (by omega) fun b L w1 k1 hb hL hT=>?_
 simp only [SS]
 refine new_k [Pt b 0,I (-1)] fun w2 k2 b2 s2=>?_
 have:=k1.size
 refine h w1.heap.size b L w2 (k1.trans k2) (by omega) hb hL ?_ b2 ⟨hT.kp k2 id id,rfl,rfl,fun i=>sl_new _ _⟩
 have:=hT.row.lt
 omega
end
end Go.Proofs.YtbgbidpecmepmaaGreatDoor
