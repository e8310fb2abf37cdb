/-
  Operations as records: valid ones; without what is not their field; A loop over a function: the statement, a round; The library's way back over a row: its closure; A kernel of which a part has turned; The kernel's operations: a task made; The kernel's operations: a task taken out; The kernel's operations: a job put to a task; The kernel's operations: a node that can be asked for a change; The kernel's operations: a node that is to go.
-/
import Derived.Test.YtbgbidpecmepmaaGreatDoorM12
import Derived.Test.YtbgbidpecmepmaaGreatDoorM3
import Derived.Test.YtbgbidpecmepmaaGreatDoorM4
import Derived.Test.YtbgbidpecmepmaaGreatDoorM6
set_option maxRecDepth 100000
namespace Go.Proofs.YtbgbidpecmepmaaGreatDoor
section
open Sy
def F86 (R:Ko) (x0:Int) (w:World):Prop:=Ifm (decide ((x0:Int)≥1)) (R (.bool (decide ((x0:Int)≤9))) w) (R (.bool false) w)
noncomputable def b86:Code:=Tryz.f86.body.getD .skip
theorem c86 {R:Ko} {x0:Int} {w:World} (h:F86 R x0 w):Ct Tryz.prog 86 #[.int .i64 x0] w R :=
 ctS (args:=[.int .i64 x0]) (body:=b86) (n:=9) (rs:=[.tmp 2]) Tryz.func86
  (sg (cuts:=[]) trivial h)
def F39 (R:Ko) (x0:Array Value) (w:World):Prop:=New (.cells (.agg x0:Value).cells 39) w fun x1 w1=>Lc (x1.add 0) w1 fun v5=>onI v5 fun x5=>Ct Tryz.prog 86 #[.int .i64 x5] w1 fun v6 w2=>onB v6 fun x6=>Ifm (!x6) (R (.iface 129 (.int .i64 1)) w2) (Lc (x1.add 0) w2 fun v11=>onI v11 fun x11=>Ifm ((x11:Int) == 7) (Lc (x1.add 9) w2 fun v15=>onI v15 fun x15=>Ifm (decide ((x15:Int)<1)) (R (.iface 129 (.int .i64 2)) w2) (Lc (x1.add 9) w2 fun v19=>onI v19 fun x19=>Ifm (decide ((x19:Int) > 4096)) (R (.iface 129 (.int .i64 2)) w2) (R (.nilIface) w2))) (R (.nilIface) w2))
noncomputable def b39:Code:=Tryz.f39.body.getD .skip
theorem c39 {R:Ko} {x0:Array Value} {w:World} (h:F39 R x0 w):Ct Tryz.prog 39 #[.agg x0] w R :=
 ctS (args:=[.agg x0]) (body:=b39) (n:=24) (rs:=[.tmp 2]) Tryz.func39
  (sg (cuts:=[]) trivial h)
def F83_0 (R:Ko) (x1:Addr) (x2:Addr) (x3:Addr) (w:World):Prop:=Lc (x1.add 9) w.drew fun v47=>onI v47 fun x47=>Sc (x3.add 1) (.int .i64 0) w.drew fun w9=>Hc (x1.add 9) (.int .i64 x47) w9∧Sc (x3.add 9) (.int .i64 x47) w9 fun w10=>La 10 x3 w10 fun x51=>Sa 10 x2 x51 w10 fun w11=>Rd Tryz.prog (Instr.loadAt 39 (.pointer (some x2))) w11 fun r0=>R r0 w11
def F83_1 (R:Ko) (x1:Addr) (x2:Addr) (x3:Addr) (w:World):Prop:=Lc ((x1.add 5).add 0) w fun v34=>onI v34 fun x34=>Lc ((x1.add 5).add 1) w fun v37=>onI v37 fun x37=>Lc ((x1.add 5).add 3) w fun v40=>onI v40 fun x40=>Sa 4 (x3.add 5) (#[.int .i64 x34,.int .i64 x37,.int .i64 0,.int .i64 x40]) w fun w15=>Lc (x1.add 2) w15 fun v44=>onI v44 fun x44=>Sc (x3.add 2) (.int .i64 x44) w15 fun w16=>La 10 x3 w16 fun x51=>Sa 10 x2 x51 w16 fun w17=>Rd Tryz.prog (Instr.loadAt 39 (.pointer (some x2))) w17 fun r0=>R r0 w17
def F83_5 (R:Ko) (x1:Addr) (x2:Addr) (x3:Addr) (x24:Bool) (w:World):Prop:=Ifm x24 (F83_0 R x1 x2 x3 w) (Sa 10 x2 (#[.int .i64 0,.int .i64 0,.int .i64 0,.int .i64 0,.int .i64 0,.int .i64 0,.int .i64 0,.int .i64 0,.int .i64 0,.int .i64 0]) w fun w12=>Rd Tryz.prog (Instr.loadAt 39 (.pointer (some x2))) w12 fun r0=>R r0 w12)
def F83_4 (R:Ko) (x1:Addr) (x2:Addr) (x3:Addr) (x10:Int) (x21:Bool) (w:World):Prop:=Ifm x21 (Lc (x1.add 2) w fun v44=>onI v44 fun x44=>Sc (x3.add 2) (.int .i64 x44) w fun w13=>La 10 x3 w13 fun x51=>Sa 10 x2 x51 w13 fun w14=>Rd Tryz.prog (Instr.loadAt 39 (.pointer (some x2))) w14 fun r0=>R r0 w14) (F83_5 R x1 x2 x3 ((x10:Int) == 7) w)
def F83_3 (R:Ko) (x1:Addr) (x2:Addr) (x3:Addr) (x10:Int) (x17:Bool) (w:World):Prop:=Ifm x17 (Lc (x1.add 9) w fun v30=>onI v30 fun x30=>Sc (x3.add 9) (.int .i64 x30) w fun w18=>La 10 x3 w18 fun x51=>Sa 10 x2 x51 w18 fun w19=>Rd Tryz.prog (Instr.loadAt 39 (.pointer (some x2))) w19 fun r0=>R r0 w19) (Ifm ((x10:Int) == 6) (F83_1 R x1 x2 x3 w) (Ifm ((x10:Int) == 5) (F83_4 R x1 x2 x3 x10 ((x10:Int) == 5) w) (F83_4 R x1 x2 x3 x10 ((x10:Int) == 9) w)))
def F83_2 (R:Ko) (x1:Addr) (x2:Addr) (x3:Addr) (x10:Int) (x14:Bool) (w:World):Prop:=Ifm x14 (Ifm x14 (La 10 x3 w fun x51=>Sa 10 x2 x51 w fun w20=>Rd Tryz.prog (Instr.loadAt 39 (.pointer (some x2))) w20 fun r0=>R r0 w20) (F83_3 R x1 x2 x3 x10 ((x10:Int) == 4) w)) (Ifm ((x10:Int) == 8) (La 10 x3 w fun x51=>Sa 10 x2 x51 w fun w21=>Rd Tryz.prog (Instr.loadAt 39 (.pointer (some x2))) w21 fun r0=>R r0 w21) (F83_3 R x1 x2 x3 x10 ((x10:Int) == 4) w))
def F83 (R:Ko) (x0:Array Value) (w:World):Prop:=New (.cells (.agg x0:Value).cells 39) w fun x1 w1=>New (.cells (.agg #[.int .i64 0,.int .i64 0,.int .i64 0,.int .i64 0,.int .i64 0,.int .i64 0,.int .i64 0,.int .i64 0,.int .i64 0,.int .i64 0]:Value).cells 39) w1 fun x2 w2=>Lc (x1.add 0) w2 fun v5=>onI v5 fun x5=>Lc (x1.add 1) w2 fun v7=>onI v7 fun x7=>New (.cells (.agg #[.int .i64 0,.int .i64 0,.int .i64 0,.int .i64 0,.int .i64 0,.int .i64 0,.int .i64 0,.int .i64 0,.int .i64 0,.int .i64 0]:Value).cells 39) w2 fun x3 w3=>Sa 10 x3 (#[.int .i64 x5,.int .i64 x7,.int .i64 0,.int .i64 0,.int .i64 0,.int .i64 0,.int .i64 0,.int .i64 0,.int .i64 0,.int .i64 0]) w3 fun w4=>Lc (x1.add 0) w4 fun v10=>onI v10 fun x10=>Ifm ((x10:Int) == 1) (Ifm ((x10:Int) == 1) (La 2 (x1.add 3) w4 fun x27=>Sa 2 (x3.add 3) x27 w4 fun w5=>La 10 x3 w5 fun x51=>Sa 10 x2 x51 w5 fun w6=>Rd Tryz.prog (Instr.loadAt 39 (.pointer (some x2))) w6 fun r0=>R r0 w6) (F83_2 R x1 x2 x3 x10 ((x10:Int) == 3) w4)) (Ifm ((x10:Int) == 2) (La 2 (x1.add 3) w4 fun x27=>Sa 2 (x3.add 3) x27 w4 fun w7=>La 10 x3 w7 fun x51=>Sa 10 x2 x51 w7 fun w8=>Rd Tryz.prog (Instr.loadAt 39 (.pointer (some x2))) w8 fun r0=>R r0 w8) (F83_2 R x1 x2 x3 x10 ((x10:Int) == 3) w4))
noncomputable def b83:Code:=Tryz.f83.body.getD .skip
def q83_0:List Bool:=[false,true,false,false,false,true,false,true,true]
def L83_0 (F:Addr→Addr→Addr→World→Prop):Env→World→Prop:=fun ρ w=>onA (ρ 1) fun x1=>onA (ρ 2) fun x2=>onA (ρ 3) fun x3=>F x1 x2 x3 w
def q83_1:List Bool:=[true,false,false,false,false,false,false,false,true,false,true,true]
def L83_1 (F:Addr→Addr→Addr→World→Prop):Env→World→Prop:=fun ρ w=>onA (ρ 1) fun x1=>onA (ρ 2) fun x2=>onA (ρ 3) fun x3=>F x1 x2 x3 w
def q83_5:List Bool:=[true,true,true,true,true,true,false,false,false,false,false,false,false,false,false,false,false,false,false,false,false,false,true,false,true,true]
def L83_5 (F:Addr→Addr→Addr→Bool→World→Prop):Env→World→Prop:=fun ρ w=>onA (ρ 1) fun x1=>onA (ρ 2) fun x2=>onA (ρ 3) fun x3=>onB (ρ 24) fun x24=>F x1 x2 x3 x24 w
def q83_4:List Bool:=[true,false,true,true,true,true,false,false,false,false,false,false,false,false,false,false,false,false,false,false,false,false,true,false,true,true]
def L83_4 (F:Addr→Addr→Addr→Int→Bool→World→Prop):Env→World→Prop:=fun ρ w=>onA (ρ 1) fun x1=>onA (ρ 2) fun x2=>onA (ρ 3) fun x3=>onI (ρ 10) fun x10=>onB (ρ 21) fun x21=>F x1 x2 x3 x10 x21 w
def q83_3:List Bool:=[true,false,true,true,false,false,false,false,false,false,false,false,false,false,false,false,false,false,false,false,true,false,true,true]
def L83_3 (F:Addr→Addr→Addr→Int→Bool→World→Prop):Env→World→Prop:=fun ρ w=>onA (ρ 1) fun x1=>onA (ρ 2) fun x2=>onA (ρ 3) fun x3=>onI (ρ 10) fun x10=>onB (ρ 17) fun x17=>F x1 x2 x3 x10 x17 w
def q83_2:List Bool:=[true,false,false,true,false,false,false,false,false,false,false,false,false,false,false,false,false,false,false,false,true,false,true,true]
def L83_2 (F:Addr→Addr→Addr→Int→Bool→World→Prop):Env→World→Prop:=fun ρ w=>onA (ρ 1) fun x1=>onA (ρ 2) fun x2=>onA (ρ 3) fun x3=>onI (ρ 10) fun x10=>onB (ρ 14) fun x14=>F x1 x2 x3 x10 x14 w
abbrev T83 (z:Fr) (R:Ko) (p:List Bool) (ρ:Env) (w:World):Prop:=TW z Tryz.prog 52 (segTodo b83 p) (QR Tryz.prog [.cell 2 39] R) ρ w
theorem s83_0 (R:Ko):∀ ρ w,(L83_0 (F83_0 R)) ρ w→T83 z0 R q83_0 ρ w:=by
 intro ρ w h
 obtain ⟨x1,e1,h⟩:=onA_of h
 obtain ⟨x2,e2,h⟩:=onA_of h
 obtain ⟨x3,e3,h⟩:=onA_of h
 rw [← upds_same (ρ:=ρ) [(1,.pointer (some x1)),(2,.pointer (some x2)),(3,.pointer (some x3))] (alc e1 (alc e2 (alc e3 aln)))]
 exact sg (cuts:=[]) trivial h
theorem s83_1 (R:Ko):∀ ρ w,(L83_1 (F83_1 R)) ρ w→T83 z0 R q83_1 ρ w:=by
 intro ρ w h
 obtain ⟨x1,e1,h⟩:=onA_of h
 obtain ⟨x2,e2,h⟩:=onA_of h
 obtain ⟨x3,e3,h⟩:=onA_of h
 rw [← upds_same (ρ:=ρ) [(1,.pointer (some x1)),(2,.pointer (some x2)),(3,.pointer (some x3))] (alc e1 (alc e2 (alc e3 aln)))]
 exact sg (cuts:=[]) trivial h
theorem s83_5 (R:Ko):∀ ρ w,(L83_5 (F83_5 R)) ρ w→T83 z0 R q83_5 ρ w:=by
 intro ρ w h
 obtain ⟨x1,e1,h⟩:=onA_of h
 obtain ⟨x2,e2,h⟩:=onA_of h
 obtain ⟨x3,e3,h⟩:=onA_of h
 obtain ⟨x24,e24,h⟩:=onB_of h
 rw [← upds_same (ρ:=ρ) [(1,.pointer (some x1)),(2,.pointer (some x2)),(3,.pointer (some x3)),(24,.bool x24)] (alc e1 (alc e2 (alc e3 (alc e24 aln))))]
 exact sg (cuts:=[(q83_0,L83_0 (F83_0 R))]) ⟨s83_0 R,trivial⟩ h
theorem s83_4 (R:Ko):∀ ρ w,(L83_4 (F83_4 R)) ρ w→T83 z0 R q83_4 ρ w:=by
 intro ρ w h
 obtain ⟨x1,e1,h⟩:=onA_of h
 obtain ⟨x2,e2,h⟩:=onA_of h
 obtain ⟨x3,e3,h⟩:=onA_of h
 obtain ⟨x10,e10,h⟩:=onI_of h
 obtain ⟨x21,e21,h⟩:=onB_of h
 rw [← upds_same (ρ:=ρ) [(1,.pointer (some x1)),(2,.pointer (some x2)),(3,.pointer (some x3)),(10,.int .i64 x10),(21,.bool x21)] (alc e1 (alc e2 (alc e3 (alc e10 (alc e21 aln)))))]
 exact sg (cuts:=[(q83_5,L83_5 (F83_5 R))]) ⟨s83_5 R,trivial⟩ h
theorem s83_3 (R:Ko):∀ ρ w,(L83_3 (F83_3 R)) ρ w→T83 z0 R q83_3 ρ w:=by
 intro ρ w h
 obtain ⟨x1,e1,h⟩:=onA_of h
 obtain ⟨x2,e2,h⟩:=onA_of h
 obtain ⟨x3,e3,h⟩:=onA_of h
 obtain ⟨x10,e10,h⟩:=onI_of h
 obtain ⟨x17,e17,h⟩:=onB_of h
 rw [← upds_same (ρ:=ρ) [(1,.pointer (some x1)),(2,.pointer (some x2)),(3,.pointer (some x3)),(10,.int .i64 x10),(17,.bool x17)] (alc e1 (alc e2 (alc e3 (alc e10 (alc e17 aln)))))]
 exact sg (cuts:=[(q83_1,L83_1 (F83_1 R)),(q83_4,L83_4 (F83_4 R))]) ⟨s83_1 R,s83_4 R,trivial⟩ h
theorem s83_2 (R:Ko):∀ ρ w,(L83_2 (F83_2 R)) ρ w→T83 z0 R q83_2 ρ w:=by
 intro ρ w h
 obtain ⟨x1,e1,h⟩:=onA_of h
 obtain ⟨x2,e2,h⟩:=onA_of h
 obtain ⟨x3,e3,h⟩:=onA_of h
 obtain ⟨x10,e10,h⟩:=onI_of h
 obtain ⟨x14,e14,h⟩:=onB_of h
 rw [← upds_same (ρ:=ρ) [(1,.pointer (some x1)),(2,.pointer (some x2)),(3,.pointer (some x3)),(10,.int .i64 x10),(14,.bool x14)] (alc e1 (alc e2 (alc e3 (alc e10 (alc e14 aln)))))]
 exact sg (cuts:=[(q83_3,L83_3 (F83_3 R))]) ⟨s83_3 R,trivial⟩ h
theorem c83 {R:Ko} {x0:Array Value} {w:World} (h:F83 R x0 w):Ct Tryz.prog 83 #[.agg x0] w R :=
 ctS (args:=[.agg x0]) (body:=b83) (n:=52) (rs:=[.cell 2 39]) Tryz.func83
  (sg (cuts:=[(q83_2,L83_2 (F83_2 R))]) ⟨s83_2 R,trivial⟩ h)
variable {K:Ko} {w w':World}
structure OpV where
 k:Int
 a:Int
 t:Int
 q:Int
 p:Int
 jl:Int
 jc:Int
 ja:Int
 jd:Int
 n:Int
def OpV.cells (o:OpV):List Value:=[I o.k,I o.a,I o.t,I o.q,I o.p,I o.jl,I o.jc,I o.ja,I o.jd,I o.n]
def zO:OpV:=⟨0,0,0,0,0,0,0,0,0,0⟩
theorem OpV.one (o:OpV):∀ v∈o.cells,oneCell v=true:=by simp [OpV.cells,oneCell]
theorem OpV.len (o:OpV):o.cells.length=10:=rfl
def validO (o:OpV):Int:=if o.k<1∨9<o.k then 1 else if o.k=7∧(o.n<1∨4096<o.n) then 2 else 0
def cleanO (o:OpV):OpV :=
 if o.k=1∨o.k=2 then { zO with k:=o.k,a:=o.a,q:=o.q,p:=o.p }
 else if o.k=3∨o.k=8 then { zO with k:=o.k,a:=o.a }
 else if o.k=4 then { zO with k:=o.k,a:=o.a,n:=o.n }
 else if o.k=6 then { zO with k:=o.k,a:=o.a,t:=o.t,jl:=o.jl,jc:=o.jc,jd:=o.jd }
 else if o.k=5∨o.k=9 then { zO with k:=o.k,a:=o.a,t:=o.t }
 else if o.k=7 then { zO with k:=o.k,n:=o.n }
 else zO
theorem k86 {x:Int} (h:K (.bool (decide (1≤x∧x≤9))) w):Ct Tryz.prog 86 #[I x] w K:=by
 refine c86 ?_
 unfold F86
 simp only [SS]
 by_cases h1:x≥1
 ·rw [if_pos h1]
  rw [show decide (1≤x∧x≤9)=decide (x≤9) by simp; omega] at h
  exact h
 ·rw [if_neg h1]
  rw [show decide (1≤x∧x≤9)=false by simp; omega] at h
  exact h
theorem k39 {o:OpV} (h:∀ w',Kp No w w'→K (if validO o=0 then .nilIface else Er (validO o)) w'):Ct Tryz.prog 39 #[.agg o.cells.toArray] w K:=by
 refine c39 ?_
 unfold F39
 refine new_k o.cells fun w1 k1 b1 s1=>?_
 have h:=h w1 k1
 simp only [SS,b1.rd (o:=0) (v:=I o.k) rfl]
 refine k86 ?_
 simp only [SS]
 by_cases e1:o.k<1∨9<o.k
 ·have e:validO o=1:=by unfold validO; rw [if_pos e1]
  rw [e,if_neg (by decide)] at h
  rw [if_neg (by omega)]
  exact h
 ·rw [if_pos (by omega)]
  simp only [SS,b1.rd (o:=0) (v:=I o.k) rfl,b1.rd (o:=9) (v:=I o.n) rfl]
  by_cases e2:o.k=7
  ·rw [if_pos e2]
   by_cases e3:o.n<1
   ·have e:validO o=2:=by unfold validO; rw [if_neg e1,if_pos ⟨e2,.inl e3⟩]
    rw [e,if_neg (by decide)] at h
    rw [if_pos e3]
    exact h
   ·rw [if_neg e3]
    by_cases e4:o.n > 4096
    ·have e:validO o=2:=by unfold validO; rw [if_neg e1,if_pos ⟨e2,.inr e4⟩]
     rw [e,if_neg (by decide)] at h
     rw [if_pos e4]
     exact h
    ·have e:validO o=0:=by unfold validO; rw [if_neg e1,if_neg (by omega)]
     rw [e,if_pos rfl] at h
     rw [if_neg e4]
     exact h
  ·have e:validO o=0:=by unfold validO; rw [if_neg e1,if_neg (by omega)]
   rw [e,if_pos rfl] at h
   rw [if_neg e2]
   exact h
theorem ld39:loadKind Tryz.prog 39=some (some 10):=by kernel_rfl
theorem f83 {w0:World} {x2 x3:Nat} {cs c2:List Value} (kp:Kp No w0 w) (h3:Bk w x3 cs 39) (h2:Bk w x2 c2 39) (l3:cs.length=10) (l2:c2.length=10) (ho:∀ v∈cs,oneCell v=true) (hx:w0.heap.size≤x2) (h:∀ w',Kp No w0 w'→K (.agg cs.toArray) w') :
  La 10 ⟨x3,0,none⟩ w fun x51=>Sa 10 ⟨x2,0,none⟩ x51 w fun w11=>Rd Tryz.prog (Instr.loadAt 39 (.pointer (some ⟨x2,0,none⟩))) w11 fun r0=>K r0 w11:=by
 rw [h3.la0 l3]
 exact res_k (c:=c2) (cs:=cs) (k:=fun r0 w5=>K r0 w5) ld39 h2 l2 l3 ho fun w5 k5=>h w5 (kp.own k5 hx)
theorem k83 {o:OpV} (h:∀ w',Kp No w w'→K (.agg (cleanO o).cells.toArray) w'):Ct Tryz.prog 83 #[.agg o.cells.toArray] w K:=by
 refine c83 ?_
 unfold F83
 refine new_k o.cells fun w1 k1 b1 s1=>?_
 refine new_k zO.cells fun w2 k2 b2 s2=>?_
 have b12:Bk w2 w.heap.size o.cells 39:=k2.bk b1 id
 simp only [SS,b12.rd (o:=0) (v:=I o.k) rfl,b12.rd (o:=1) (v:=I o.a) rfl]
 refine new_k zO.cells fun w3 k3 b3 s3=>?_
 refine sa_k (cs:=({ zO with k:=o.k,a:=o.a }:OpV).cells) b3 rfl (by decide) (OpV.one _) fun w4 k4 b4 s4=>?_
 rw [over_all _ _ (by rfl)] at b4
 have k04:Kp No w w4:=((k1.trans k2).trans k3).own k4 (by omega)
 have b14:Bk w4 w.heap.size o.cells 39:=k4.bk (k3.bk b12 id) (by omega)
 have b24:Bk w4 w1.heap.size zO.cells 39:=k4.bk (k3.bk b2 id) (by omega)
 have hx:w.heap.size≤w1.heap.size:=by omega
 have lq:∀ {w':World},Bk w' w.heap.size o.cells 39→∀ k,La 2 ⟨w.heap.size,3,none⟩ w' k=k #[I o.q,I o.p]:=fun hb k=>by rw [hb.la (by simp [OpV.cells])]; rfl
 have rest:∀ {kk:World→Prop} {off:Nat} {cs:List Value} {c:OpV} {n:Nat},Bk w4 w2.heap.size ({ zO with k:=o.k,a:=o.a }:OpV).cells 39→cs.length=n→off+n≤10→(∀ v∈cs,oneCell v=true)→over ({ zO with k:=o.k,a:=o.a }:OpV).cells off cs=c.cells →
   (∀ w5,Kp No w w5→Bk w5 w2.heap.size c.cells 39→Bk w5 w1.heap.size zO.cells 39→Bk w5 w.heap.size o.cells 39→kk w5)→Sa n ⟨w2.heap.size,off,none⟩ cs.toArray w4 kk:=by
  intro kk off cs c n hb hn ho h1 he hk
  refine sa_k hb hn (by simp [OpV.cells]; omega) h1 fun w5 k5 b5 s5=>?_
  rw [he] at b5
  exact hk w5 (k04.own k5 (by omega)) b5 (k5.bk b24 (by omega)) (k5.bk b14 (by omega))
 have rest1:∀ {kk:World→Prop} {off:Nat} {v:Value} {c c':OpV} {w5:World},Kp No w w5→Bk w5 w2.heap.size c.cells 39→Bk w5 w1.heap.size zO.cells 39→Bk w5 w.heap.size o.cells 39→off<10→oneCell v=true→c.cells.set off v=c'.cells →
   (∀ w6,Kp No w w6→Bk w6 w2.heap.size c'.cells 39→Bk w6 w1.heap.size zO.cells 39→Bk w6 w.heap.size o.cells 39→kk w6)→Sc ⟨w2.heap.size,off,none⟩ v w5 kk:=by
  intro kk off v c c' w5 k5 hb hb2 hb1 ho h1 he hk
  refine sc_k hb (by simp [OpV.cells]; omega) h1 fun w6 k6 b6 s6=>?_
  rw [he] at b6
  exact hk w6 (k5.own k6 (by omega)) b6 (k6.bk hb2 (by omega)) (k6.bk hb1 (by omega))
 unfold cleanO at h
 simp only [SS,b14.rd (o:=0) (v:=I o.k) rfl]
 by_cases e1:o.k=1
 ·simp only [if_pos e1,lq b14]
  rw [if_pos (.inl e1)] at h
  exact rest (c:={ zO with k:=o.k,a:=o.a,q:=o.q,p:=o.p }) b4 rfl (by omega) (by simp [oneCell]) rfl fun w5 k5 c5 d5 o5=>f83 k5 c5 d5 rfl rfl (OpV.one _) hx h
 by_cases e2:o.k=2
 ·simp only [if_neg e1,if_pos e2,lq b14]
  rw [if_pos (.inr e2)] at h
  exact rest (c:={ zO with k:=o.k,a:=o.a,q:=o.q,p:=o.p }) b4 rfl (by omega) (by simp [oneCell]) rfl fun w5 k5 c5 d5 o5=>f83 k5 c5 d5 rfl rfl (OpV.one _) hx h
 rw [if_neg (by omega)] at h
 simp only [if_neg e1,if_neg e2,F83_2,SS]
 by_cases e3:o.k=3
 ·simp only [if_pos e3]
  rw [if_pos (.inl e3)] at h
  exact f83 k04 b4 b24 rfl rfl (OpV.one _) hx h
 by_cases e8:o.k=8
 ·simp only [if_neg e3,if_pos e8]
  rw [if_pos (.inr e8)] at h
  exact f83 k04 b4 b24 rfl rfl (OpV.one _) hx h
 rw [if_neg (by omega)] at h
 simp only [if_neg e3,if_neg e8,F83_3,SS]
 by_cases e4:o.k=4
 ·simp only [if_pos e4,b14.rd (o:=9) (v:=I o.n) rfl,SS]
  rw [if_pos e4] at h
  exact rest1 (c':={ zO with k:=o.k,a:=o.a,n:=o.n }) k04 b4 b24 b14 (by omega) rfl rfl fun w5 k5 c5 d5 o5=>f83 k5 c5 d5 rfl rfl (OpV.one _) hx h
 rw [if_neg e4] at h
 simp only [if_neg e4,SS]
 by_cases e6:o.k=6
 ·simp only [if_pos e6,F83_1,SS,Nat.reduceAdd,b14.rd (o:=5) (v:=I o.jl) rfl,b14.rd (o:=6) (v:=I o.jc) rfl,b14.rd (o:=8) (v:=I o.jd) rfl]
  rw [if_pos e6] at h
  refine rest (c:={ zO with k:=o.k,a:=o.a,jl:=o.jl,jc:=o.jc,jd:=o.jd }) b4 rfl (by omega) (by simp [oneCell]) rfl fun w5 k5 c5 d5 o5=>?_
  simp only [o5.rd (o:=2) (v:=I o.t) rfl,SS]
  exact rest1 (c':={ zO with k:=o.k,a:=o.a,t:=o.t,jl:=o.jl,jc:=o.jc,jd:=o.jd }) k5 c5 d5 o5 (by omega) rfl rfl fun w5 k5 c5 d5 o5=>f83 k5 c5 d5 rfl rfl (OpV.one _) hx h
 rw [if_neg e6] at h
 simp only [if_neg e6,F83_4,SS]
 by_cases e5:o.k=5
 ·simp only [if_pos e5,b14.rd (o:=2) (v:=I o.t) rfl,SS]
  rw [if_pos (.inl e5)] at h
  exact rest1 (c':={ zO with k:=o.k,a:=o.a,t:=o.t }) k04 b4 b24 b14 (by omega) rfl rfl fun w5 k5 c5 d5 o5=>f83 k5 c5 d5 rfl rfl (OpV.one _) hx h
 by_cases e9:o.k=9
 ·simp only [if_neg e5,if_pos e9,b14.rd (o:=2) (v:=I o.t) rfl,SS]
  rw [if_pos (.inr e9)] at h
  exact rest1 (c':={ zO with k:=o.k,a:=o.a,t:=o.t }) k04 b4 b24 b14 (by omega) rfl rfl fun w5 k5 c5 d5 o5=>f83 k5 c5 d5 rfl rfl (OpV.one _) hx h
 rw [if_neg (by omega)] at h
 simp only [if_neg e5,if_neg e9,F83_5,F83_0,SS]
 by_cases e7:o.k=7
 ·simp only [if_pos e7,b14.rd (o:=9) (v:=I o.n) rfl,SS]
  rw [if_pos e7] at h
  refine rest1 (c':={ zO with k:=o.k }) k04 b4 b24 b14 (by omega) rfl rfl fun w5 k5 c5 d5 o5=>?_
  have k5':Kp No w (dr w5 (w4.drawn+1)):=k5.drR _
  simp only [SS,o5.hc (o:=9) (v:=I o.n) rfl]
  refine rest1 (c':={ zO with k:=o.k,n:=o.n }) k5 c5 d5 o5 (by omega) rfl rfl fun w6 k6 c6 d6 o6=>?_
  rw [show ∀ k,La 10 ⟨w2.heap.size,0,none⟩ w6 k=k ({ zO with k:=o.k,n:=o.n }:OpV).cells.toArray from fun k=>c6.la0 rfl k]
  exact res_dr (k:=fun r0 w5=>K r0 w5) ld39 d6 rfl rfl (OpV.one _) fun w7 k7=>h w7 (k6.own (by exact ⟨k7.os,k7.tape,k7.output,k7.size,k7.block⟩) hx)
 ·simp only [if_neg e7]
  rw [if_neg e7] at h
  exact res_k (c:=zO.cells) (cs:=zO.cells) (k:=fun r0 w5=>K r0 w5) ld39 b24 rfl rfl (OpV.one _) fun w5 k5=>h w5 (k04.own k5 hx)
end
section
namespace Sy
section
variable {P:Program} {n:Nat} {ρ:Env} {w:World}
def mark (r:Nat):Deferred:={ target:=.collected r,args:=#[] }
abbrev Rec (fn:FuncId) (tmps:Array Value) (ps:Array Tmp) (assign body:Code) (r:Nat):Loop:={ state:=.ready,pending:=none,fn,tmps,params:=ps,assign,body,defers:=r }
abbrev RecX (fn:FuncId) (tmps:Array Value) (ps:Array Tmp) (assign body:Code) (r:Nat):Loop:={ state:=.exhausted,pending:=none,fn,tmps,params:=ps,assign,body,defers:=r }
abbrev RecB (fn:FuncId) (tmps:Array Value) (ps:Array Tmp) (assign body:Code) (r:Nat):Loop:={ state:=.busy,pending:=none,fn,tmps,params:=ps,assign,body,defers:=r }
theorem rf_TW {p:List Bool} {k:List It} {g:Operand} {ps:Array Tmp} {assign body:Code} {Q:Exit→Env→World→Prop} {gf:Nat} {lb:Array Value} (hg:evE ρ g=.func (.func gf) #[] lb) (eg:∀ args w,(callFunc gf args).run P w=.ok (.enter gf args) w)
  (H:∀ fn tmps,tmps.size=n→(∀ i,tmps.getD i undef=ρ i)→Ct P gf (#[.func (.yield (w.heap.size+1)) #[] #[]]++lb) ((w.alloc (.deferred (some []))).alloc (.loop (Rec fn tmps ps assign body w.heap.size))) fun _ w3 =>
   w3.heap[w.heap.size+1]?=some (.loop (Rec fn tmps ps assign body w.heap.size))∧TW ⟨[mark w.heap.size],none⟩ P n k (fun e ρ' w4=>∃ w5,Shed [mark w.heap.size] w4 w5∧Q e ρ' w5) ρ (w3.putObj (w.heap.size+1) (.loop (RecX fn tmps ps assign body w.heap.size)))) :
  TW z0 P n (.c p (.rangeFunc g ps assign body) :: k) Q ρ w:=by
 intro a hr b k0 cs hb
 have hc:=H b.fn a.tmps hr.size hr.get
 have he:(Instr.enterLoop b.fn a.tmps ps assign body b.roundOf).run P w=.ok (w.heap.size+1,[mark w.heap.size]) ((w.alloc (.deferred (some []))).alloc (.loop (Rec b.fn a.tmps ps assign body w.heap.size))):=by
  rw [hb]; exact run_enterLoop_outer _ _ _ _ _
 obtain ⟨w1,hw1⟩:∃ w1,w1=(w.alloc (.deferred (some []))).alloc (.loop (Rec b.fn a.tmps ps assign body w.heap.size)):=⟨_,rfl⟩
 rw [← hw1] at he hc
 have hge:a.eval g=.func (.func gf) #[] lb:=by rw [hr.eval]; exact hg
 have hres:(resolve a.eval (rangeCall g (w.heap.size+1)) 0).run P w1=.ok { target:=.fn (.func gf) lb,args:=#[.func (.yield (w.heap.size+1)) #[] #[]] } w1:=by
  simp only [resolve,hge]
  simp [go_sem]
 have hinv:(invoke (.fn (.func gf) lb) #[.func (.yield (w.heap.size+1)) #[] #[]]).run P w1=.ok (.enter gf (#[.func (.yield (w.heap.size+1)) #[] #[]]++lb)) w1:=by
  simp [invoke,go_sem,eg]
 have s1:=stepR_rangeFunc (P:=P) (b:=b) (a:=a) (k:=k.map It.item++k0) (cs:=cs) (w:=w) (body:=body) (assign:=assign) (ps:=ps) he hres hinv
 obtain ⟨e,w3,fr,hR,hsteps,hfn,hleave⟩:=hc (b.atR { a with defers:=[mark w.heap.size]++a.defers } (.inRangeFunc (w.heap.size+1) :: (k.map It.item++k0)) :: cs)
 cases e with
 | outgrown=>exact hR.elim
 | panicked chain=>exact hR.elim
 | returned v =>
  obtain ⟨hl,hT⟩:=hR
  have s3:=step_leave_returned (c:=b.atR { a with defers:=[mark w.heap.size]++a.defers } (.inRangeFunc (w.heap.size+1) :: (k.map It.item++k0))) (cs:=cs) hleave
  rw [finish_atR_inRangeFunc] at s3
  have s4:=stepR_endRangeFunc (P:=P) (b:=b) (a:={ a with defers:=[mark w.heap.size]++a.defers }) (k:=k.map It.item++k0) (cs:=cs) (run_endLoop (P:=P) hl (by simp))
  simp only [Option.map_none,Option.toList_none,List.nil_append] at s4
  have hr2:Rel [mark w.heap.size] n { a with defers:=[mark w.heap.size]++a.defers } ρ:=⟨by have:=hr.defers; simp [z0] at this; simp [this],hr.size,hr.get⟩
  obtain ⟨e,a',w',ρ',new,w'',hr',⟨hsh,_⟩,⟨w5,hsh5,hq⟩,harr⟩:=hT _ hr2 b k0 cs hb
  have shed2:∀ (l1 l2:List Deferred) (x y u:World),Shed l1 x y→Shed l2 y u→Shed (l1++l2) x u:=by
   intro l1
   induction l1 with
   | nil=>intro l2 x y u h1 h2; have h1:y=x:=h1; subst h1; exact h2
   | cons d l1 ih=>intro l2 x y u ⟨r,h1,h2,h3⟩ h4; exact ⟨r,h1,h2,ih l2 _ y u h3 h4⟩
  refine ⟨e,a',w',ρ',new++[mark w.heap.size],w5,by simpa [z0] using hr',⟨shed2 _ _ _ _ _ hsh hsh5,.inl rfl⟩,hq,?_⟩
  have hst:Steps P (lone (b.atR a (.code (.rangeFunc g ps assign body) :: (k.map It.item++k0))) cs w) (lone (b.atR { a with defers:=[mark w.heap.size]++a.defers } (k.map It.item++k0)) cs (w3.putObj (w.heap.size+1) (.loop (RecX b.fn a.tmps ps assign body w.heap.size)))) :=
   .head s1 (Steps.trans hsteps (.head s3 (.one s4)))
  exact .of_steps (stepsIn_wide.2 hst) harr
theorem TW.wpR {l:Nat} {c:Code} {p:List Bool} {Q:Exit→Env→World→Prop} (h:TW ⟨[],some l⟩ P n [.c p c] Q ρ w) {a:Act} (hr:Rel [] n a ρ):c.wpIn (Fence.wide.inRound l) 0 P (fun e a' w'=>∃ ρ',Rel [] n a' ρ'∧Q e ρ' w') a w:=by
 intro b k cs hro _ _
 obtain ⟨e,a',w',ρ',new,w'',h1,⟨h2,h3⟩,h4,h5⟩:=h a hr b k cs hro
 rcases h3 with h3 | rfl
 ·cases h3
 ·have h2:w''=w':=h2
  subst h2
  exact ⟨e,a',w'',⟨ρ',h1,h4⟩,h5⟩
def parE:List (Nat × Value)→Env→Env
 | [],ρ=>ρ
 | (d,v) :: l,ρ=>parE l (upd ρ d v)
theorem parE_rel:∀ (l:List (Nat × Value)) (t:Array Value) (ρ:Env),t.size=n→(∀ i,t.getD i undef=ρ i)→(l.all fun x=>Nat.blt x.1 n)=true→Rel [] n { tmps:=l.foldl (fun t x=>t.setIfInBounds x.1 x.2) t,defers:=[] } (parE l ρ)
 | [],t,ρ,hs,hg,_=>⟨rfl,hs,hg⟩
 | (d,v) :: l,t,ρ,hs,hg,hb=>by
  simp only [List.all_cons,Bool.and_eq_true] at hb
  have h0:Rel [] n { tmps:=t,defers:=[] } ρ:=⟨rfl,hs,hg⟩
  have h1:=h0.put (d:=some d) hb.1 v
  exact parE_rel l _ _ h1.size h1.get hb.2
theorem round_of_TW {l:Nat} {fn:FuncId} {tmps:Array Value} {ps:Array Tmp} {assign body:Code} {r:Nat} {args:Array Value} {K:Ko} (hs:tmps.size=n) (hg:∀ i,tmps.getD i undef=ρ i)
  (hb:(((ps.zip args).toList).all fun x=>Nat.blt x.1 n)=true) (hl:w.heap[l]?=some (.loop (Rec fn tmps ps assign body r)))
  (h:TW ⟨[],some l⟩ P n [.c [] assign] (fun e ρ1 w1=>e=.normal∧w1.heap[l]?=some (.loop (Rec fn tmps ps assign body r)) ∧
   TW ⟨[],some l⟩ P n [.c [] body] (fun e _ w2=>e=.normal∧w2.heap[l]?=some (.loop (RecB fn tmps ps assign body r))∧K (.bool true) (w2.putObj l (.loop (Rec fn tmps ps assign body r)))) ρ1 (w1.putObj l (.loop (RecB fn tmps ps assign body r)))) (parE (ps.zip args).toList ρ) w) :
  RoundIn Fence.wide 0 P l fn ((ps.zip args).foldl (fun tmps (t,a)=>tmps.setIfInBounds t a) tmps) assign body w (fun e w'=>match e with | .returned v=>K v w' | _=>False):=by
 refine roundIn_of_wpIn (F:=Fence.wide) trivial ?_
 have hrel:=parE_rel (n:=n) (ps.zip args).toList tmps ρ hs hg hb
 have e1:(ps.zip args).foldl (fun tmps (t,a)=>tmps.setIfInBounds t a) tmps=(ps.zip args).toList.foldl (fun t x=>t.setIfInBounds x.1 x.2) tmps:=by rw [← Array.foldl_toList]
 rw [e1]
 refine wpIn_mono (h.wpR hrel) fun e a1 w1 hq=>?_
 obtain ⟨ρ1,hr1,rfl,hl1,hT⟩:=hq
 refine ⟨_,run_beginRound hl1 rfl,?_⟩
 refine wpIn_mono (hT.wpR hr1) fun e a2 w2 hq=>?_
 obtain ⟨ρ2,hr2,rfl,hl2,hK⟩:=hq
 exact ⟨_,_,run_endRound none hl2,hK⟩
def QN (R:Ko):Exit→Env→World→Prop
 | .normal,_,w=>R (.tuple #[]) w
 | _,_,_=>False
def rfBody:Code→Code
 | .rangeFunc _ _ _ b=>b
 | _=>.skip
def rfAsg:Code→Code
 | .rangeFunc _ _ a _=>a
 | _=>.skip
theorem segT {z:Fr} {go:Nat→Bool} {td:Nat→TD} {Q:Exit→Env→World→Prop} {cuts:List Cut} {body:Code} (hgo:GoFn P go) (hm:P.follows .mixedOrders=true) {f:Nat} {p:List Bool} (H:AllC z P n body Q cuts) {F:Prop} (hF:F=ev P go td false n cuts Q f (contOf body p) ρ w) (h:F) (hz:z.r=none) :
  TW z P n (contOf body p) Q ρ w:=ev_sound (.inl hz) hgo hm H.mem f _ ρ w (Ok_contOf body p) (hF ▸ h)
theorem TW.mono {z:Fr} {todo:List It} {Q Q':Exit→Env→World→Prop} (h:TW z P n todo Q ρ w) (hq:∀ e ρ w,Q e ρ w→Q' e ρ w):TW z P n todo Q' ρ w :=
 fun a hr b k cs hb=>let ⟨e,a',w',ρ',new,w'',h1,h2,h3,h4⟩:=h a hr b k cs hb; ⟨e,a',w',ρ',new,w'',h1,h2,hq _ _ _ h3,h4⟩
def RfF (P:Program) (gf:Nat) (lb:Array Value) (w:World) (body:Array Value→World→(World→Prop)→Prop) (post:World→Prop):Prop :=
 ∀ rec recB recX:Loop,(∀ args w1 k,w1.heap[w.heap.size+1]?=some (.loop rec)→body args (w1.putObj (w.heap.size+1) (.loop recB)) (fun w2=>w2.heap[w.heap.size+1]?=some (.loop recB)∧k (.bool true) (w2.putObj (w.heap.size+1) (.loop rec)))→Yd P (w.heap.size+1) args w1 k) →
  Ct P gf (#[.func (.yield (w.heap.size+1)) #[] #[]]++lb) ((w.alloc (.deferred (some []))).alloc (.loop rec)) fun _ w3=>w3.heap[w.heap.size+1]?=some (.loop rec)∧post (w3.putObj (w.heap.size+1) (.loop recX))
theorem rf_gen {B:Code} {p:List Bool} {g:Operand} {ps:Array Tmp} {assign bd:Code} {Q:Exit→Env→World→Prop} {gf:Nat} {lb:Array Value} (hp:segTodo B p=.c p (.rangeFunc g ps assign bd) :: contOf B p)
  (hg:evE ρ g=.func (.func gf) #[] lb) (eg:∀ args w,(callFunc gf args).run P w=.ok (.enter gf args) w) {body:Array Value→World→(World→Prop)→Prop} {post:World→Prop}
  (hb:∀ (l:Nat) (args:Array Value) (w1:World) (C:World→Prop),body args w1 C→(((ps.zip args).toList).all fun x=>Nat.blt x.1 n)=true∧args.size=ps.size ∧
   ∃ ρ1,(∀ Qa w0,Qa .normal ρ1 w0→TW ⟨[],some l⟩ P n [.c [] assign] Qa (parE (ps.zip args).toList ρ) w0)∧TW ⟨[],some l⟩ P n [.c [] bd] (QN fun _=>C) ρ1 w1)
  (hpost:∀ w3,post w3→TW ⟨[mark w.heap.size],none⟩ P n (contOf B p) (fun e ρ' w4=>∃ w5,Shed [mark w.heap.size] w4 w5∧Q e ρ' w5) ρ w3) (h:RfF P gf lb w body post):TW z0 P n (segTodo B p) Q ρ w:=by
 rw [hp]
 refine rf_TW hg eg fun fn tmps hs hgt=>?_
 refine (h (Rec fn tmps ps assign bd w.heap.size) (RecB fn tmps ps assign bd w.heap.size) (RecX fn tmps ps assign bd w.heap.size) (fun args w1 k hl hbody=>?_)).mono fun v w3 ⟨h1,h2⟩=>⟨h1,hpost _ h2⟩
 obtain ⟨h1,h2,ρ1,h3,h4⟩:=hb (w.heap.size+1) _ _ _ hbody
 refine ⟨_,_,_,_,run_yield hl h2,?_⟩
 refine round_of_TW hs hgt h1 hl (h3 _ _ ⟨rfl,hl,h4.mono fun e ρ2 w2 hq=>?_⟩)
 cases e <;> first | exact hq.elim | exact ⟨rfl,hq.1,hq.2⟩
theorem shed_one {r:Nat} {w w':World} (h:w.heap[r]?=some (.deferred (some []))) (hw:w'=w.putObj r (.deferred none)):Shed [mark r] w w':=⟨r,rfl,h,hw⟩
end
end Sy
end
section
open Sy
def F179 (R:Ko) (a0:Option Addr) (l0 c0:Nat) (w:World):Prop:=New (.cells (.slice a0 l0 c0:Value).cells 42) w fun x1 w1=>R (.func (.func 276) #[] #[.pointer (some x1)]) w1
noncomputable def b179:Code:=Tryz.f179.body.getD .skip
theorem c179 {R:Ko} {a0:Option Addr} {l0 c0:Nat} {w:World} (h:F179 R a0 l0 c0 w):Ct Tryz.prog 179 #[.slice a0 l0 c0] w R :=
 ctS (args:=[.slice a0 l0 c0]) (body:=b179) (n:=4) (rs:=[.tmp 2]) Tryz.func179
  (sg (cuts:=[]) trivial h)
def F276_0B (R:Ko) (C0:Value→Addr→Int→World→Prop) (x0:Value) (x1:Addr) (x3:Int) (w:World):Prop:=Ifm (decide ((x3:Int)≥0)) (Lc x1 w fun v13=>onL v13 fun a13 l13 c13=>Ix a13 l13 x3 1 fun x15=>Lc x15 w fun v16=>onI v16 fun x16=>YdV Tryz.prog x0 #[.int .i64 x3,.int .i64 x16] w fun v17 w1=>onB v17 fun x17=>Ifm (!x17) (R (.tuple #[]) w1) (C0 x0 x1 (IntKind.i64.wrap (x3 - 1)) w1)) (R (.tuple #[]) w)
def F276_0 (R:Ko) (x0:Value) (x1:Addr) (x3:Int) (w:World):Prop:=∃ (Inv:Value→Addr→Int→World→Prop) (μ:Value→Addr→Int→World→Nat),Inv x0 x1 x3 w∧∀ x0 x1 x3 w,Inv x0 x1 x3 w→F276_0B R (fun x0' x1' x3' w'=>Inv x0' x1' x3' w'∧μ x0' x1' x3' w'<μ x0 x1 x3 w) x0 x1 x3 w
def F276 (R:Ko) (x0:Value) (x1:Addr) (w:World):Prop:=Lc x1 w fun v4=>onL v4 fun a4 l4 c4=>F276_0 R x0 x1 (IntKind.i64.wrap ((l4:Nat) - 1)) w
noncomputable def b276:Code:=Tryz.f276.body.getD .skip
def q276_0:List Bool:=[false,true]
def L276_0 (F:Value→Addr→Int→World→Prop):Env→World→Prop:=fun ρ w=>onA (ρ 1) fun x1=>onI (ρ 3) fun x3=>F (ρ 0) x1 x3 w
abbrev T276 (z:Fr) (R:Ko) (p:List Bool) (ρ:Env) (w:World):Prop:=TW z Tryz.prog 19 (segTodo b276 p) (QR Tryz.prog [] R) ρ w
theorem s276_0 (R:Ko):∀ ρ w,(L276_0 (F276_0 R)) ρ w→T276 z0 R q276_0 ρ w:=by
 intro ρ w h
 unfold L276_0 at h
 generalize e0:ρ 0=x0 at h
 obtain ⟨x1,e1,h⟩:=onA_of h
 obtain ⟨x3,e3,h⟩:=onI_of h
 obtain ⟨Inv,μ,hi,hb⟩:=h
 refine lpT (fun m=>L276_0 (fun x0 x1 x3 w=>Inv x0 x1 x3 w∧μ x0 x1 x3 w=m)) ?_ (μ x0 x1 x3 w) ρ w ?_
 ·intro m ρ w ih h
  unfold L276_0 at h
  generalize e0:ρ 0=x0 at h
  obtain ⟨x1,e1,h⟩:=onA_of h
  obtain ⟨x3,e3,h⟩:=onI_of h
  obtain ⟨hv,hm⟩:=h
  subst hm
  have hh:=hb x0 x1 x3 w hv
  obtain ⟨C0,hC⟩:∃ C,C=fun x0' x1' x3' w'=>Inv x0' x1' x3' w'∧μ x0' x1' x3' w'<μ x0 x1 x3 w:=⟨_,rfl⟩
  rw [← hC] at hh
  have h0:∀ ρ w,(L276_0 C0) ρ w→T276 z0 R q276_0 ρ w:=by
   intro ρ' w' h'
   refine ih ρ' w' ?_
   unfold L276_0 at h'
   generalize e0':ρ' 0=x0' at h'
   obtain ⟨x1',e1',h'⟩:=onA_of h'
   obtain ⟨x3',e3',h'⟩:=onI_of h'
   rw [hC] at h'
   refine ⟨_,h'.2,?_⟩
   simp only [e0',e1',e3',L276_0,ons]
   exact ⟨h'.1,by trivial⟩
  rw [← upds_same (ρ:=ρ) [(0,x0),(1,.pointer (some x1)),(3,.int .i64 x3)] (alc e0 (alc e1 (alc e3 aln)))]
  exact sgY (cuts:=[(q276_0,L276_0 C0)]) ⟨h0,trivial⟩ hh
 ·simp only [e0,e1,e3,L276_0,ons]
  exact ⟨hi,by trivial⟩
theorem c276 {R:Ko} {x0:Value} {x1:Addr} {w:World} (h:F276 R x0 x1 w):Ct Tryz.prog 276 #[x0,.pointer (some x1)] w R :=
 ctS (args:=[x0,.pointer (some x1)]) (body:=b276) (n:=19) (rs:=[]) Tryz.func276
  (sgY (cuts:=[(q276_0,L276_0 (F276_0 R))]) ⟨s276_0 R,trivial⟩ h)
variable {K:Ko} {w w':World}
theorem k179 {a:Option Addr} {l c:Nat} (h:∀ p w',Kp No w w'→w.heap.size≤p→Bk w' p [.slice a l c] 42→K (.func (.func 276) #[] #[Pt p 0]) w'):Ct Tryz.prog 179 #[.slice a l c] w K:=by
 refine c179 ?_
 unfold F179
 refine new_k [.slice a l c] fun w1 k1 b1 s1=>?_
 exact h _ w1 k1 (Nat.le_refl _) b1
theorem k276 {y p g len c:Nat} {xs:List Int} (J:Nat→World→Prop) (hl:len=xs.length) (hs:xs.length<1000000)
  (hrd:∀ i w,J i w→Bk w p [.slice (some ⟨g,0,none⟩) len c] 42∧∀ k (h:k<xs.length),w.cell? ⟨g,k,none⟩=some (I xs[k])) (h0:J len w)
  (hround:∀ i w (h:i<xs.length),J (i+1) w→∀ K,(∀ w',J i w'→K (.bool true) w')→Yd Tryz.prog y #[I i,I xs[i]] w K) (hd:∀ w',J 0 w'→K (.tuple #[]) w'):Ct Tryz.prog 276 #[.func (.yield y) #[] #[],Pt p 0] w K:=by
 refine c276 ?_
 unfold F276
 obtain ⟨hb,_⟩:=hrd _ _ h0
 simp only [SS,hb.rd (o:=0) (v:=.slice (some ⟨g,0,none⟩) len c) rfl]
 unfold F276_0
 refine ⟨fun x0 x1 x3 w'=>.func (.yield y) #[] #[]=x0∧⟨p,0,none⟩=x1∧∃ i:Nat,x3=(i:Int) - 1∧i≤len∧J i w',fun _ _ x3 _=>(x3+1).toNat,⟨rfl,rfl,len,by rw [wr_id (by omega) (by omega)],Nat.le_refl _,h0⟩,?_⟩
 rintro _ _ _ w1 ⟨rfl,rfl,i,rfl,hi,hJ⟩
 unfold F276_0B
 obtain ⟨hb1,hx1⟩:=hrd _ _ hJ
 cases i with
 | zero =>
  simp only [SS]
  rw [if_neg (by omega)]
  exact hd _ hJ
 | succ i =>
  have hil:i<xs.length:=by omega
  have ei:((i+1:Nat):Int) - 1=(i:Nat):=by omega
  simp only [ei,SS,hb1.rd (o:=0) (v:=.slice (some ⟨g,0,none⟩) len c) rfl]
  rw [if_pos (by omega)]
  have hix:∀ k:Addr→Prop,Ix (some ⟨g,0,none⟩) len (i:Int) 1 k=k ⟨g,i,none⟩:=fun k=>by
   rw [Ix_c (by omega) k,Nat.mul_one]
  simp only [hix,Lc_c (hx1 i hil),SS]
  refine hround i w1 hil hJ _ fun w2 hJ2=>?_
  simp only [SS]
  refine ⟨⟨i,by rw [wr_id (by omega) (by omega)],by omega,hJ2⟩,?_⟩
  rw [wr_id (by omega) (by omega)]
  omega
end
section
open Sy
variable {w w':World}
def AlikeN (N N':Nds):Prop:=∀ j,(N' j).1=(N j).1∧(N' j).2.map (·.par)=(N j).2.map (·.par)
theorem AlikeN.isS {N N':Nds} (h:AlikeN N N') (j:Nat):(N' j).2.isSome=(N j).2.isSome:=by
 have:=congrArg Option.isSome (h j).2
 simpa using this
theorem AlikeN.get {N N':Nds} (h:AlikeN N N') {x:Int} {i:Nat} {n:Nd} (hg:getN N x=some (i,n)):∃ n',getN N' x=some (i,n')∧n'.par=n.par:=by
 obtain ⟨h1,h2⟩:=getN_some hg
 have hc:=findS_congr (S:=N) (V:=N') (fun j=>⟨(h j).1,h.isS j⟩) 1 64 x
 rw [h1] at hc
 have hp:=(h i).2
 rw [h2] at hp
 cases hn:(N' i).2 with
 | none=>rw [hn] at hp; cases hp
 | some n' =>
  rw [hn] at hp
  injection hp with hp
  exact ⟨n',by simp [getN,hc,hn],hp⟩
theorem AlikeN.up {N N':Nds} (h:AlikeN N N') {x:Int} {l:List Int} (hU:Up N x l):Up N' x l:=by
 induction hU with
 | top=>exact .top
 | step hne hg _ ih =>
  obtain ⟨n',hg',hp⟩:=h.get hg
  exact .step hne hg' (hp ▸ ih)
theorem Kn.Ok.alike {K:Kn} {N':Nds} (h:K.Ok) (ha:AlikeN K.n N'):({ K with n:=N' }:Kn).Ok:=by
 refine ⟨fun i n hn=>?_,?_,fun i=>by show 1≤(N' i).1; rw [(ha i).1]; exact h.gens i⟩
 ·have hs:=ha.isS i
  have hn:(N' i).2=some n:=hn
  rw [hn] at hs
  obtain ⟨n0,hn0⟩:=Option.isSome_iff_exists.1 hs.symm
  obtain ⟨l,hl,h9⟩:=h.up i n0 hn0
  refine ⟨l,?_,h9⟩
  show Up N' (nameS 1 i (N' i).1) l
  rw [(ha i).1]
  exact ha.up hl
 ·obtain ⟨n,hn,hp⟩:=h.root
  have h1:=(ha 0).1
  have h2:=(ha 0).2
  rw [hn] at h1 h2
  cases hn':(N' 0).2 with
  | none=>rw [hn'] at h2; cases h2
  | some n' =>
   rw [hn'] at h2
   injection h2 with h2
   exact ⟨n',Prod.ext h1 hn',h2.trans hp⟩
def modN (N:Nds) (i:Nat) (f:Nd→Nd):Nds:=upd1 N i ((N i).1,(N i).2.map f)
theorem modN_alike (N:Nds) (i:Nat) (f:Nd→Nd) (hf:∀ n,(f n).par=n.par):AlikeN N (modN N i f):=by
 intro j
 unfold modN
 by_cases h:j=i
 ·subst h
  rw [upd1_same]
  refine ⟨rfl,?_⟩
  cases (N j).2 <;> simp [hf]
 ·rw [upd1_ne _ _ h]; exact ⟨rfl,rfl⟩
theorem modN_nv (nb:Nat→Nat) (N:Nds) (i:Nat) (f:Nd→Nd):nv nb (modN N i f)=nv nb N:=by
 funext j
 unfold nv modN
 by_cases h:j=i
 ·subst h; rw [upd1_same]; cases (N j).2 <;> rfl
 ·rw [upd1_ne _ _ h]
theorem KRv.setLeaf {lab:Nat→Nat} {q k t L bk m p i:Nat} {nb lf:Nat→Nat} {K:Kn} {n:Nd} {S':Slots Tk} (h:KRv w lab q k t L bk m p nb lf K) (hn:(K.n i).2=some n) (kp:Kp (fun x=>lab x=q+200+i) w w')
  (hl:LF w' (gr (fun x=>lab x=q+200+i) w w') (fun x=>lab x=q+1) (lf i) S'):KRv w' (nl lab w w' (q+200+i)) q k t L bk m p nb lf { K with n:=modN K.n i fun n=>{ n with leaf:=S' } }:=by
 have h0:=h.q0
 have hi64:=(h.nt.nd i n hn).1
 have ns:∀ {x r:Nat},lab x=q+r→r≠200+i→¬ lab x=q+200+i:=fun hx hr he=>hr (by omega)
 obtain ⟨r,hr⟩:=h.nt.kt
 have lold:∀ {x s:Nat},lab x=s→s≠0→nl lab w w' (q+200+i) x=s:=fun {x s} hx hs=>by rw [nl_old (h.bd x (by omega)),hx]
 have o1:∀ s,s≠0→s≠q+200+i→(fun x=>nl lab w w' (q+200+i) x=s)=(fun x=>lab x=s):=fun s hs hne=>nl_other h.bd hs hne
 have og:(fun x=>nl lab w w' (q+200+i) x=q+200+i)=gr (fun x=>lab x=q+200+i) w w':=nl_gr h.bd kp.size (by omega)
 refine ⟨kp.bk h.kh (ns h.lk (by omega)),⟨⟨r,kp.bk hr (ns h.lk (by omega))⟩,?_,?_,?_⟩,h.book.kp kp (ns h.lbk (by omega)) (ns h.lm (by omega)),?_,?_,lold h.lk (by omega),lold h.lt (by omega),lold h.lL (by omega),lold h.lbk (by omega),lold h.lm (by omega),lold h.lp (by omega),?_,?_,h0,h.ok.alike (modN_alike _ _ _ fun _=>rfl)⟩
 ·show Tab w' 199 201 3 64 1 t L fun j=>slotC ptC [.pointer none] (nv nb (modN K.n i _) j)
  rw [modN_nv]
  exact h.nt.tab.kp kp (ns h.lt (by omega)) (ns h.lL (by omega))
 ·intro j nj hj
  have hj:(modN K.n i (fun n=>{ n with leaf:=S' }) j).2=some nj:=hj
  unfold modN at hj
  by_cases e:j=i
  ·subst e
   rw [upd1_same,hn] at hj
   injection hj with hj
   subst hj
   exact ⟨hi64,kp.bk (h.nt.nd j n hn).2 (ns (r:=100+j) (by have:=h.ln j n hn; omega) (by omega))⟩
  ·rw [upd1_ne _ _ e] at hj
   have:=(h.nt.nd j nj hj).1
   exact ⟨this,kp.bk (h.nt.nd j nj hj).2 (ns (r:=100+j) (by have:=h.ln j nj hj; omega) (by omega))⟩
 ·intro j hj
  have ha:=modN_alike K.n i (fun n=>{ n with leaf:=S' }) fun _=>rfl
  rw [(ha j).1]
  exact h.nt.gen j (by rw [← ha.isS j]; exact hj)
 ·rw [o1 (q+6) (by omega) (by omega),o1 (q+1) (by omega) (by omega)]
  exact h.pool.kp kp (fun x hx=>ns hx (by omega)) (fun x hx=>ns hx (by omega)) (ns h.lp (by omega))
 ·intro j nj hj
  have hj:(modN K.n i (fun n=>{ n with leaf:=S' }) j).2=some nj:=hj
  unfold modN at hj
  rw [o1 (q+1) (by omega) (by omega)]
  by_cases e:j=i
  ·subst e
   rw [upd1_same,hn] at hj
   injection hj with hj
   subst hj
   rw [og]
   exact hl
  ·rw [upd1_ne _ _ e] at hj
   rw [o1 (q+200+j) (by omega) (by omega)]
   exact (h.leaf j nj hj).kp kp (fun x hx he=>e (by omega)) (fun x hx=>ns hx (by omega))
 ·intro j nj hj
  have hj:(modN K.n i (fun n=>{ n with leaf:=S' }) j).2=some nj:=hj
  unfold modN at hj
  by_cases e:j=i
  ·subst e; exact lold (h.ln j n hn) (by omega)
  ·rw [upd1_ne _ _ e] at hj; exact lold (h.ln j nj hj) (by omega)
 ·intro x hx
  unfold nl at hx
  split at hx
  ·exact Nat.lt_of_lt_of_le (h.bd x hx) kp.size
  ·split at hx
   ·assumption
   ·exact absurd rfl hx
theorem KRv.setNode {lab:Nat→Nat} {q k t L bk m p i:Nat} {nb lf:Nat→Nat} {K:Kn} {n:Nd} {f:Nd→Nd} (h:KRv w lab q k t L bk m p nb lf K) (hn:(K.n i).2=some n) (hf:∀ n,(f n).par=n.par∧(f n).leaf=n.leaf) (kp:Kp (·=nb i) w w')
  (hb:Bk w' (nb i) (ndC (f n) (lf i)) 122):KRv w' lab q k t L bk m p nb lf { K with n:=modN K.n i f }:=by
 have h0:=h.q0
 have hln:=h.ln i n hn
 have hi64:=(h.nt.nd i n hn).1
 have ns:∀ {x r:Nat},lab x=q+r→r≠100+i→¬ x=nb i:=fun hx hr he=>by rw [he] at hx; omega
 obtain ⟨r,hr⟩:=h.nt.kt
 refine ⟨kp.bk h.kh (ns h.lk (by omega)),⟨⟨r,kp.bk hr (ns h.lk (by omega))⟩,?_,?_,?_⟩,h.book.kp kp (ns h.lbk (by omega)) (ns h.lm (by omega)),h.pool.kp kp (fun x hx=>ns hx (by omega)) (fun x hx=>ns hx (by omega)) (ns h.lp (by omega)),?_,h.lk,h.lt,h.lL,h.lbk,h.lm,h.lp,?_,fun x hx=>Nat.lt_of_lt_of_le (h.bd x hx) kp.size,h0,h.ok.alike (modN_alike _ _ _ fun n=>(hf n).1)⟩
 ·show Tab w' 199 201 3 64 1 t L fun j=>slotC ptC [.pointer none] (nv nb (modN K.n i f) j)
  rw [modN_nv]
  exact h.nt.tab.kp kp (ns h.lt (by omega)) (ns h.lL (by omega))
 ·intro j nj hj
  have hj:(modN K.n i f j).2=some nj:=hj
  unfold modN at hj
  by_cases e:j=i
  ·subst e
   rw [upd1_same,hn] at hj
   injection hj with hj
   subst hj
   exact ⟨hi64,hb⟩
  ·rw [upd1_ne _ _ e] at hj
   have:=(h.nt.nd j nj hj).1
   exact ⟨this,kp.bk (h.nt.nd j nj hj).2 (ns (r:=100+j) (by have:=h.ln j nj hj; omega) (by omega))⟩
 ·intro j hj
  have ha:=modN_alike K.n i f fun n=>(hf n).1
  rw [(ha j).1]
  exact h.nt.gen j (by rw [← ha.isS j]; exact hj)
 ·intro j nj hj
  have hj:(modN K.n i f j).2=some nj:=hj
  unfold modN at hj
  have key:∀ nj',(K.n j).2=some nj'→nj'.leaf=nj.leaf→LF w' (fun x=>lab x=q+200+j) (fun x=>lab x=q+1) (lf j) nj.leaf:=fun nj' h1 h2=>by
   have:=(h.nt.nd j nj' h1).1
   rw [← h2]
   exact (h.leaf j nj' h1).kp kp (fun x hx=>ns (r:=200+j) (by omega) (by omega)) (fun x hx=>ns hx (by omega))
  by_cases e:j=i
  ·subst e
   rw [upd1_same,hn] at hj
   injection hj with hj
   exact key n hn (by rw [← hj]; exact (hf n).2.symm)
  ·rw [upd1_ne _ _ e] at hj
   exact key nj hj rfl
 ·intro j nj hj
  have hj:(modN K.n i f j).2=some nj:=hj
  unfold modN at hj
  by_cases e:j=i
  ·subst e; exact hln
  ·rw [upd1_ne _ _ e] at hj; exact h.ln j nj hj
theorem KRv.setBook {lab:Nat→Nat} {q k t L bk m p:Nat} {nb lf:Nat→Nat} {K:Kn} {g':Int→Option En} (h:KRv w lab q k t L bk m p nb lf K) (kp:Kp (·=m) w w') (hb:BL w' bk m rootH g'):KRv w' lab q k t L bk m p nb lf { K with g:=g' }:=by
 have h0:=h.q0
 have hlm:=h.lm
 have ns:∀ {x r:Nat},lab x=q+r→r≠4→¬ x=m:=fun hx hr he=>by rw [he] at hx; omega
 obtain ⟨r,hr⟩:=h.nt.kt
 refine ⟨kp.bk h.kh (ns h.lk (by omega)),⟨⟨r,kp.bk hr (ns h.lk (by omega))⟩,h.nt.tab.kp kp (ns h.lt (by omega)) (ns h.lL (by omega)),fun j nj hj=>?_,h.nt.gen⟩,hb,h.pool.kp kp (fun x hx=>ns hx (by omega)) (fun x hx=>ns hx (by omega)) (ns h.lp (by omega)),fun j nj hj=>?_,h.lk,h.lt,h.lL,h.lbk,h.lm,h.lp,h.ln,fun x hx=>Nat.lt_of_lt_of_le (h.bd x hx) kp.size,h0,⟨h.ok.up,h.ok.root,h.ok.gens⟩⟩
 ·have:=(h.nt.nd j nj hj).1
  exact ⟨this,kp.bk (h.nt.nd j nj hj).2 (ns (r:=100+j) (by have:=h.ln j nj hj; omega) (by omega))⟩
 ·exact (h.leaf j nj hj).kp kp (fun x hx=>ns (r:=200+j) (by omega) (by omega)) (fun x hx=>ns hx (by omega))
theorem KRv.setPool {lab:Nat→Nat} {q k t L bk m p:Nat} {nb lf:Nat→Nat} {K:Kn} {S':Slots Tk} {last':Int} (h:KRv w lab q k t L bk m p nb lf K) (kp:Kp (fun x=>lab x=q+6∨x=p) w w')
  (hl:PL w' (gr (fun x=>lab x=q+6) w w') (fun x=>lab x=q+1) p S' last'):KRv w' (nl lab w w' (q+6)) q k t L bk m p nb lf { K with pool:=S',last:=last' }:=by
 have h0:=h.q0
 have hlp:=h.lp
 have ns:∀ {x r:Nat},lab x=q+r→r≠6→r≠5→¬ (lab x=q+6∨x=p):=fun hx hr hr' he=>by
  rcases he with he | he
  ·omega
  ·rw [he] at hx; omega
 obtain ⟨r,hr⟩:=h.nt.kt
 have lold:∀ {x s:Nat},lab x=s→s≠0→nl lab w w' (q+6) x=s:=fun {x s} hx hs=>by rw [nl_old (h.bd x (by omega)),hx]
 have o1:∀ s,s≠0→s≠q+6→(fun x=>nl lab w w' (q+6) x=s)=(fun x=>lab x=s):=fun s hs hne=>nl_other h.bd hs hne
 have og:(fun x=>nl lab w w' (q+6) x=q+6)=gr (fun x=>lab x=q+6) w w':=nl_gr h.bd kp.size (by omega)
 refine ⟨kp.bk h.kh (ns h.lk (by omega) (by omega)),⟨⟨r,kp.bk hr (ns h.lk (by omega) (by omega))⟩,h.nt.tab.kp kp (ns h.lt (by omega) (by omega)) (ns h.lL (by omega) (by omega)),fun j nj hj=>?_,h.nt.gen⟩,h.book.kp kp (ns h.lbk (by omega) (by omega)) (ns h.lm (by omega) (by omega)),?_,fun j nj hj=>?_,lold h.lk (by omega),lold h.lt (by omega),lold h.lL (by omega),lold h.lbk (by omega),lold h.lm (by omega),lold h.lp (by omega),fun j nj hj=>lold (h.ln j nj hj) (by omega),fun x hx=>?_,h0,⟨h.ok.up,h.ok.root,h.ok.gens⟩⟩
 ·have:=(h.nt.nd j nj hj).1
  exact ⟨this,kp.bk (h.nt.nd j nj hj).2 (ns (r:=100+j) (by have:=h.ln j nj hj; omega) (by omega) (by omega))⟩
 ·rw [og,o1 (q+1) (by omega) (by omega)]; exact hl
 ·rw [o1 (q+200+j) (by omega) (by omega),o1 (q+1) (by omega) (by omega)]
  exact (h.leaf j nj hj).kp kp (fun x hx=>ns (r:=200+j) (by omega) (by omega) (by omega)) (fun x hx=>ns hx (by omega) (by omega))
 ·unfold nl at hx
  split at hx
  ·exact Nat.lt_of_lt_of_le (h.bd x hx) kp.size
  ·split at hx
   ·assumption
   ·exact absurd rfl hx
end
section
open Sy
def F54 (R:Ko) (x0:Option Addr) (x1:Int) (x2:Int) (w:World):Prop:=Ct Tryz.prog 130 #[.pointer x0,.int .i64 x1] w fun v14 w1=>on2 v14 fun y14_0 y14_1=>onP y14_0 fun x14_0=>Ifm x0.isNone (Ct Tryz.prog 129 #[.int .i64 4,.int .i64 x1,y14_1] w1 fun v55 w2=>R (.tuple #[.int .i64 0,v55]) w2) (Ifm ((x1:Int) == 0) (onSome x0 fun x34=>Lc (x34.add 3) w1 fun v36=>onP v36 fun x36=>Ct Tryz.prog 131 #[.pointer x36,.int .i64 x2] w1 fun v38 w3=>on2 v38 fun y38_0 y38_1=>onI y38_0 fun x38_0=>Ct Tryz.prog 129 #[.int .i64 4,.int .i64 x1,y38_1] w3 fun v55 w4=>R (.tuple #[.int .i64 x38_0,v55]) w4) (Nl y14_1 fun x43=>Ifm (!x43) (Ct Tryz.prog 129 #[.int .i64 4,.int .i64 x1,y14_1] w1 fun v55 w5=>R (.tuple #[.int .i64 0,v55]) w5) (onSome x0 fun x47=>Lc (x47.add 1) w1 fun v49=>onI v49 fun x49=>Ifm ((x1:Int) == x49) (Ct Tryz.prog 129 #[.int .i64 4,.int .i64 x1,.iface 129 (.int .i64 91)] w1 fun v55 w6=>R (.tuple #[.int .i64 0,v55]) w6) (onSome x14_0 fun x19=>Lc (x19.add 10) w1 fun v21=>onP v21 fun x21=>Ct Tryz.prog 132 #[.pointer x21,.int .i64 x2] w1 fun v23 w7=>on2 v23 fun y23_0 y23_1=>onI y23_0 fun x23_0=>Ct Tryz.prog 129 #[.int .i64 4,.int .i64 x1,y23_1] w7 fun v55 w8=>R (.tuple #[.int .i64 x23_0,v55]) w8))))
noncomputable def b54:Code:=Tryz.f54.body.getD .skip
theorem c54 {R:Ko} {x0:Option Addr} {x1:Int} {x2:Int} {w:World} (h:F54 R x0 x1 x2 w):Ct Tryz.prog 54 #[.pointer x0,.int .i64 x1,.int .i64 x2] w R :=
 ctS (args:=[.pointer x0,.int .i64 x1,.int .i64 x2]) (body:=b54) (n:=56) (rs:=[.tmp 6,.tmp 7]) Tryz.func54
  (sg (cuts:=[]) trivial h)
variable {K:Ko} {w w':World}
structure Stp (w w':World) (lab lab':Nat→Nat) (q:Nat):Prop where
 kp:Kp (fun x=>inK q (lab x)) w w'
 old:∀ x,x<w.heap.size→lab' x=lab x
 new:∀ x,w.heap.size≤x→lab' x≠0→inK q (lab' x)
theorem Stp.no {lab:Nat→Nat} {q:Nat} (kp:Kp No w w') (bd:∀ x,lab x≠0→x<w.heap.size):Stp w w' lab lab q:=⟨kp.no _,fun _ _=>rfl,fun x hx hn=>by have:=bd x hn; omega⟩
theorem Stp.lab {lab:Nat→Nat} {q r:Nat} (kp:Kp (fun x=>inK q (lab x)) w w') (hr:inK q r):Stp w w' lab (nl lab w w' r) q:=⟨kp,fun x hx=>nl_old hx,fun x hx hn=>by
 have e:nl lab w w' r x=if x<w.heap.size then lab x else if x<w'.heap.size then r else 0:=rfl
 rw [e] at hn ⊢
 rw [if_neg (by omega)] at hn ⊢
 split at hn
 ·rename_i h; rw [if_pos h]; exact hr
 ·exact absurd rfl hn⟩
theorem Stp.tail {lab lab':Nat→Nat} {q:Nat} {w2:World} (h:Stp w w' lab lab' q) (kp:Kp No w' w2):Stp w w2 lab lab' q:=⟨h.kp.trans (kp.no _),h.old,h.new⟩
theorem PL.grow {w2:World} {F C:Nat→Prop} {p:Nat} {S:Slots Tk} {last:Int} (h:PL w2 F C p S last) (hw:p<w.heap.size):PL w2 (gr F w w2) C p S last:=by
 obtain ⟨b,h1,h2,h3,hb,h4⟩:=h
 exact ⟨b,h1,fun x=>by rcases x with x | x; exact h2 x; omega,h3,fun x hx=>by rcases hx with (hx | hx) | hx; exact hb x (.inl hx); exact hx.2; exact hb x (.inr hx),h4.mono (fun _=>.inl) fun _=>id⟩
def taskK (K:Kn) (h prio:Int):Except Int (Int × Kn) :=
 if h=0 then (match addT K.pool 3 16 prio with
  | .error e=>.error e
  | .ok (x,S)=>.ok (x,{ K with pool:=S }))
 else match getN K.n h with
  | none=>.error 20
  | some (i,n)=>if h=rootH then .error 91 else match addT n.leaf 2 8 prio with
   | .error e=>.error e
   | .ok (x,S)=>.ok (x,{ K with n:=modN K.n i fun n=>{ n with leaf:=S } })
theorem addT_err {S:Slots Tk} {kind prio:Int} {n:Nat} {e:Int} (h:addT S kind n prio=.error e):e≠0:=by
 unfold addT at h
 split at h
 ·injection h with h; omega
 ·split at h
  ·injection h with h; omega
  ·cases h
theorem k54 {lab:Nat→Nat} {q k:Nat} {Kk:Kn} {h prio:Int} (hK:KR w lab q k Kk) (hR:match taskK Kk h prio with
  | .error e=>∀ v w',Kp No w w'→Flt w' v e→K (.tuple #[I 0,v]) w'
  | .ok (x,K')=>∀ w' lab',Stp w w' lab lab' q→KR w' lab' q k K'→K (.tuple #[I x,.nilIface]) w'):Ct Tryz.prog 54 #[Pt k 0,I h,I prio] w K:=by
 refine c54 ?_
 unfold F54
 obtain ⟨t,L,bk,m,p,nb,lf,hv⟩:=id hK
 refine k130 hv.nt ?_
 unfold taskK at hR
 have pool:h=0→∀ (d:Nat) (v1 v2:Value),Lc ⟨k,3,none⟩ (dr w d) (fun v36=>onP v36 fun x36=>Ct Tryz.prog 131 #[.pointer x36,.int .i64 prio] (dr w d) fun v38 w3=>on2 v38 fun yv38_0 yv38_1=>onI yv38_0 fun xyv38_0=>Ct Tryz.prog 129 #[.int .i64 4,.int .i64 h,yv38_1] w3 fun v55 w4=>K (.tuple #[.int .i64 xyv38_0,v55]) w4):=by
  intro h0 d _ _
  rw [if_pos h0] at hR
  have hv':=hv.kp (Kp.dr No w d) fun _ _=>id
  rw [hv'.kh.rd (o:=3) (v:=Pt p 0) rfl]
  simp only [onP_eq]
  refine k131 hv'.pool ?_
  cases e:addT Kk.pool 3 16 prio with
  | error er =>
   rw [e] at hR
   intro w3 k3
   simp only [SS]
   exact k129 (addT_err e) fun v w4 k4 hf=>hR v w4 (k3.drL.trans k4) hf
  | ok r =>
   obtain ⟨x,S⟩:=r
   rw [e] at hR
   intro w3 k3 hp3
   simp only [SS]
   refine k129_no ?_
   have k3':=k3.drL
   have hv3:=hv.setPool (S':=S) (last':=Kk.last) (k3'.mono fun _ _=>.inl) (PL.grow hp3 hv.pool.ltp)
   exact hR w3 _ (Stp.lab (k3'.mono fun x _ hx=>by unfold inK; omega) (by unfold inK; omega)) ⟨t,L,bk,m,p,nb,lf,hv3⟩
 by_cases h0:h=0
 ·cases e:getN Kk.n h with
  | none=>intro d; simp only [SS]; rw [if_pos h0]; have:=pool h0 d .nilIface .nilIface; simp only [SS] at this; exact this
  | some r=>intro d; simp only [SS]; rw [if_pos h0]; have:=pool h0 d .nilIface .nilIface; simp only [SS] at this; exact this
 rw [if_neg h0] at hR
 cases e:getN Kk.n h with
 | none =>
  rw [e] at hR
  intro d
  simp only [SS]
  rw [if_neg h0]
  exact k129 (by omega) fun v w4 k4 hf=>hR v w4 k4.drL hf
 | some r =>
  obtain ⟨i,n⟩:=r
  rw [e] at hR
  intro d
  have hn:=(getN_some e).2
  have hnb:=(hv.nt.nd i n hn).2
  simp only at hR
  simp only [SS,hv.kh.rd (o:=1) (v:=I rootH) rfl,hnb.rd (o:=10) (v:=Pt (lf i) 0) rfl]
  rw [if_neg h0]
  by_cases h1:h=rootH
  ·rw [if_pos h1] at hR ⊢
   exact k129 (by omega) fun v w4 k4 hf=>hR v w4 k4.drL hf
  rw [if_neg h1] at hR ⊢
  have hv':=hv.kp (Kp.dr No w d) fun _ _=>id
  refine k132 (hv'.leaf i n hn) ?_
  cases ea:addT n.leaf 2 8 prio with
  | error er =>
   rw [ea] at hR
   intro w3 k3
   simp only [SS]
   exact k129 (addT_err ea) fun v w4 k4 hf=>hR v w4 (k3.drL.trans k4) hf
  | ok r =>
   obtain ⟨x,S⟩:=r
   rw [ea] at hR
   intro w3 k3 hl3
   simp only [SS]
   refine k129_no ?_
   have k3':=k3.drL
   have hi:=(hv.nt.nd i n hn).1
   have hv3:=hv.setLeaf hn k3' (LF.grow hl3 (hv.leaf i n hn).ltl)
   exact hR w3 _ (Stp.lab (k3'.mono fun x _ hx=>by unfold inK; omega) (by unfold inK; omega)) ⟨t,L,bk,m,p,nb,lf,hv3⟩
end
section
open Sy
def F95 (R:Ko) (x0:Option Addr) (x1:Int) (x2:Int) (w:World):Prop:=Ct Tryz.prog 130 #[.pointer x0,.int .i64 x1] w fun v12 w1=>on2 v12 fun y12_0 y12_1=>onP y12_0 fun x12_0=>Ifm x0.isNone (Ct Tryz.prog 129 #[.int .i64 5,.int .i64 x1,y12_1] w1 fun v41 w2=>R v41 w2) (Ifm ((x1:Int) == 0) (onSome x0 fun x22=>Lc (x22.add 3) w1 fun v24=>onP v24 fun x24=>Ct Tryz.prog 173 #[.pointer x24,.int .i64 x2] w1 fun v26 w3=>Ct Tryz.prog 129 #[.int .i64 5,.int .i64 x1,v26] w3 fun v41 w4=>R v41 w4) (Nl y12_1 fun x29=>Ifm x29 (onSome x12_0 fun x32=>Lc (x32.add 10) w1 fun v34=>onP v34 fun x34=>Ct Tryz.prog 174 #[.pointer x34,.int .i64 x2] w1 fun v36 w5=>on2 v36 fun y36_0 y36_1=>onG y36_0 fun x36_0=>Ct Tryz.prog 129 #[.int .i64 5,.int .i64 x1,y36_1] w5 fun v41 w6=>R v41 w6) (Ct Tryz.prog 129 #[.int .i64 5,.int .i64 x1,y12_1] w1 fun v41 w7=>R v41 w7)))
noncomputable def b95:Code:=Tryz.f95.body.getD .skip
theorem c95 {R:Ko} {x0:Option Addr} {x1:Int} {x2:Int} {w:World} (h:F95 R x0 x1 x2 w):Ct Tryz.prog 95 #[.pointer x0,.int .i64 x1,.int .i64 x2] w R :=
 ctS (args:=[.pointer x0,.int .i64 x1,.int .i64 x2]) (body:=b95) (n:=42) (rs:=[.tmp 6]) Tryz.func95
  (sg (cuts:=[]) trivial h)
variable {K:Ko} {w w':World}
def untaskK (K:Kn) (h x:Int):Except Int Kn :=
 if h=0 then (match dropT K.pool 3 16 x with
  | .error e=>.error e
  | .ok S=>.ok { K with pool:=S })
 else match getN K.n h with
  | none=>.error 20
  | some (i,n)=>match getT n.leaf 2 8 x with
   | none=>.error 20
   | some (j,_)=>.ok { K with n:=modN K.n i fun n'=>{ n' with leaf:=upd1 n.leaf j (wr ((n.leaf j).1+1),none) } }
theorem k95 {lab:Nat→Nat} {q k:Nat} {Kk:Kn} {h x:Int} (hK:KR w lab q k Kk) (hR:match untaskK Kk h x with
  | .error e=>∀ v w',Kp No w w'→Flt w' v e→K v w'
  | .ok K'=>∀ w' lab',Stp w w' lab lab' q→KR w' lab' q k K'→K .nilIface w'):Ct Tryz.prog 95 #[Pt k 0,I h,I x] w K:=by
 refine c95 ?_
 unfold F95
 obtain ⟨t,L,bk,m,p,nb,lf,hv⟩:=id hK
 refine k130 hv.nt ?_
 unfold untaskK at hR
 have pool:h=0→∀ d:Nat,Lc ⟨k,3,none⟩ (dr w d) (fun v24=>onP v24 fun x24=>Ct Tryz.prog 173 #[.pointer x24,.int .i64 x] (dr w d) fun v26 w3=>Ct Tryz.prog 129 #[.int .i64 5,.int .i64 h,v26] w3 fun v41 w4=>K v41 w4):=by
  intro h0 d
  rw [if_pos h0] at hR
  have hv':=hv.kp (Kp.dr No w d) fun _ _=>id
  rw [hv'.kh.rd (o:=3) (v:=Pt p 0) rfl]
  simp only [onP_eq]
  refine k173 hv'.pool ?_
  cases e:dropT Kk.pool 3 16 x with
  | error er =>
   rw [e] at hR
   intro w3 k3
   have he:er≠0:=by
    unfold dropT at e
    split at e
    ·injection e with e; omega
    ·cases e
   exact k129 he fun v w4 k4 hf=>hR v w4 (k3.drL.trans k4) hf
  | ok S =>
   rw [e] at hR
   intro w3 k3 hp3
   refine k129_no ?_
   have k3':=k3.drL
   have hv3:=hv.setPool (S':=S) (last':=Kk.last) (k3'.mono fun _ _=>.inl) (PL.grow hp3 hv.pool.ltp)
   exact hR w3 _ (Stp.lab (k3'.mono fun x _ hx=>by unfold inK; omega) (by unfold inK; omega)) ⟨t,L,bk,m,p,nb,lf,hv3⟩
 by_cases h0:h=0
 ·cases e:getN Kk.n h with
  | none=>intro d; simp only [SS]; rw [if_pos h0]; have:=pool h0 d; simp only [SS] at this; exact this
  | some r=>intro d; simp only [SS]; rw [if_pos h0]; have:=pool h0 d; simp only [SS] at this; exact this
 rw [if_neg h0] at hR
 cases e:getN Kk.n h with
 | none =>
  rw [e] at hR
  intro d
  simp only [SS]
  rw [if_neg h0]
  exact k129 (by omega) fun v w4 k4 hf=>hR v w4 k4.drL hf
 | some r =>
  obtain ⟨i,n⟩:=r
  rw [e] at hR
  intro d
  have hn:=(getN_some e).2
  have hnb:=(hv.nt.nd i n hn).2
  simp only at hR
  simp only [SS,hnb.rd (o:=10) (v:=Pt (lf i) 0) rfl]
  rw [if_neg h0]
  have hv':=hv.kp (Kp.dr No w d) fun _ _=>id
  refine k174 (hv'.leaf i n hn) (fun et w3 k3=>?_) (fun j t' et w3 k3 hl3=>?_)
  ·rw [et] at hR
   simp only [SS]
   exact k129 (by omega) fun v w4 k4 hf=>hR v w4 (k3.drL.trans k4) hf
  ·rw [et] at hR
   simp only [SS]
   refine k129_no ?_
   have k3':=k3.drL
   have hi:=(hv.nt.nd i n hn).1
   have hv3:=hv.setLeaf hn k3' (LF.grow hl3 (hv.leaf i n hn).ltl)
   exact hR w3 _ (Stp.lab (k3'.mono fun x _ hx=>by unfold inK; omega) (by unfold inK; omega)) ⟨t,L,bk,m,p,nb,lf,hv3⟩
end
section
open Sy
def F97 (R:Ko) (x0:Option Addr) (x1:Int) (x2:Int) (x3:Array Value) (w:World):Prop:=New (.cells (.agg x3:Value).cells 37) w fun x7 w1=>Ct Tryz.prog 130 #[.pointer x0,.int .i64 x1] w1 fun v14 w2=>on2 v14 fun y14_0 y14_1=>onP y14_0 fun x14_0=>Ifm x0.isNone (Ct Tryz.prog 129 #[.int .i64 6,.int .i64 x1,y14_1] w2 fun v50 w3=>R v50 w3) (Ifm ((x1:Int) == 0) (onSome x0 fun x24=>Lc (x24.add 3) w2.drew fun v26=>onP v26 fun x26=>La 4 x7 w2.drew fun x28=>onSome x0 fun x30=>Lc (x30.add 4) w2.drew fun v32=>onI v32 fun x32=>Ct Tryz.prog 175 #[.pointer x26,.int .i64 x2,.agg x28,.int .i64 x32] w2.drew fun v33 w4=>Ct Tryz.prog 129 #[.int .i64 6,.int .i64 x1,v33] w4 fun v50 w5=>R v50 w5) (Nl y14_1 fun x36=>Ifm x36 (onSome x14_0 fun x38=>Lc (x38.add 10) w2.drew fun v40=>onP v40 fun x40=>La 4 x7 w2.drew fun x42=>onSome x0 fun x44=>Lc (x44.add 4) w2.drew fun v46=>onI v46 fun x46=>Ct Tryz.prog 176 #[.pointer x40,.int .i64 x2,.agg x42,.int .i64 x46] w2.drew fun v47 w6=>Ct Tryz.prog 129 #[.int .i64 6,.int .i64 x1,v47] w6 fun v50 w7=>R v50 w7) (Ct Tryz.prog 129 #[.int .i64 6,.int .i64 x1,y14_1] w2 fun v50 w8=>R v50 w8)))
noncomputable def b97:Code:=Tryz.f97.body.getD .skip
theorem c97 {R:Ko} {x0:Option Addr} {x1:Int} {x2:Int} {x3:Array Value} {w:World} (h:F97 R x0 x1 x2 x3 w):Ct Tryz.prog 97 #[.pointer x0,.int .i64 x1,.int .i64 x2,.agg x3] w R :=
 ctS (args:=[.pointer x0,.int .i64 x1,.int .i64 x2,.agg x3]) (body:=b97) (n:=51) (rs:=[.tmp 8]) Tryz.func97
  (sg (cuts:=[]) trivial h)
variable {K:Ko} {w w':World}
def jobK (K:Kn) (h x:Int) (j:Jb):Except Int Kn :=
 if h=0 then (match pushL K.pool 3 16 x j K.now with
  | .error e=>.error e
  | .ok S=>.ok { K with pool:=S })
 else match getN K.n h with
  | none=>.error 20
  | some (i,n)=>match pushL n.leaf 2 8 x j K.now with
   | .error e=>.error e
   | .ok S=>.ok { K with n:=modN K.n i fun n'=>{ n' with leaf:=S } }
theorem pushL_err {S:Slots Tk} {kind x now:Int} {n:Nat} {j:Jb} {e:Int} (h:pushL S kind n x j now=.error e):e≠0:=by
 unfold pushL at h
 split at h
 ·injection h with h; omega
 ·split at h
  ·rename_i e' he
   injection h with h
   subst h
   unfold pushT at he
   split at he
   ·injection he with he; omega
   ·split at he
    ·injection he with he; omega
    ·split at he
     ·injection he with he; omega
     ·split at he
      ·injection he with he; omega
      ·cases he
  ·cases h
theorem k97 {lab:Nat→Nat} {q k:Nat} {Kk:Kn} {h x:Int} {j:Jb} (hK:KR w lab q k Kk) (hR:match jobK Kk h x j with
  | .error e=>∀ v w',Kp No w w'→Flt w' v e→K v w'
  | .ok K'=>∀ w' lab',Stp w w' lab lab' q→KR w' lab' q k K'→K .nilIface w'):Ct Tryz.prog 97 #[Pt k 0,I h,I x,.agg j.cells.toArray] w K:=by
 refine c97 ?_
 unfold F97
 refine new_k j.cells fun w1 k1 b1 s1=>?_
 obtain ⟨t,L,bk,m,p,nb,lf,hv0⟩:=id hK
 have hv:=hv0.kp k1 fun _ _=>id
 have hnew:∀ {lab':Nat→Nat} {w2:World} {r:Nat},Kp (fun x=>lab x=r) w w2→True:=fun _=>trivial
 refine k130 hv.nt ?_
 unfold jobK at hR
 have stp:∀ {w2:World} {r:Nat},Kp (fun x=>inK q (lab x)) w1 w2→inK q r→Stp w w2 lab (nl lab w1 w2 r) q:=fun {w2 r} kp hr=>by
  have s:=Stp.lab (w:=w1) kp hr
  exact ⟨(k1.no _).trans kp,fun x hx=>s.old x (by omega),fun x hx hn=>by
   rcases Nat.lt_or_ge x w1.heap.size with hlt | hge
   ·rw [s.old x hlt] at hn; have:=hv0.bd x hn; omega
   ·exact s.new x hge hn⟩
 by_cases h0:h=0
 ·have pool:∀ d:Nat,Lc ⟨k,3,none⟩ (dr w1 d) (fun v26=>onP v26 fun x26=>Ct Tryz.prog 175 #[.pointer x26,.int .i64 x,.agg j.cells.toArray,.int .i64 Kk.now] (dr w1 d) fun v33 w4=>Ct Tryz.prog 129 #[.int .i64 6,.int .i64 h,v33] w4 fun v50 w5=>K v50 w5):=by
   intro d
   rw [if_pos h0] at hR
   have hv':=hv.kp (Kp.dr No w1 d) fun _ _=>id
   rw [hv'.kh.rd (o:=3) (v:=Pt p 0) rfl]
   simp only [onP_eq]
   refine k175 hv'.pool ?_
   cases e:pushL Kk.pool 3 16 x j Kk.now with
   | error er =>
    rw [e] at hR
    intro w3 k3
    exact k129 (pushL_err e) fun v w4 k4 hf=>hR v w4 ((k1.trans k3.drL).trans k4) hf
   | ok S =>
    rw [e] at hR
    intro w3 k3 hp3
    refine k129_no ?_
    have k3':=k3.drL
    have hv3:=hv.setPool (S':=S) (last':=Kk.last) (k3'.mono fun _ _=>.inl) hp3
    exact hR w3 _ (stp (k3'.mono fun x _ hx=>by unfold inK; omega) (by unfold inK; omega)) ⟨t,L,bk,m,p,nb,lf,hv3⟩
  have fin:∀ d,Lc ⟨k,3,none⟩ w1 (fun v26=>onP v26 fun x26=>La 4 ⟨w.heap.size,0,none⟩ w1 fun x28=>Lc ⟨k,4,none⟩ w1 fun v32=>onI v32 fun x32=>Ct Tryz.prog 175 #[.pointer x26,.int .i64 x,.agg x28,.int .i64 x32] (dr w1 (d+1)) fun v33 w4=>Ct Tryz.prog 129 #[.int .i64 6,.int .i64 h,v33] w4 fun v50 w5=>K v50 w5):=by
   intro d
   have:=pool (d+1)
   simp only [Lc_dr,hv.kh.rd (o:=3) (v:=Pt p 0) rfl,onP_eq] at this
   simp only [hv.kh.rd (o:=3) (v:=Pt p 0) rfl,hv.kh.rd (o:=4) (v:=I Kk.now) rfl,onP_eq,onI_eq,b1.la0 (n:=4) rfl]
   exact this
  cases e:getN Kk.n h with
  | none=>intro d; simp only [SS]; rw [if_pos h0]; exact fin d
  | some r=>intro d; simp only [SS]; rw [if_pos h0]; exact fin d
 rw [if_neg h0] at hR
 cases e:getN Kk.n h with
 | none =>
  rw [e] at hR
  intro d
  simp only [SS]
  rw [if_neg h0]
  exact k129 (by omega) fun v w4 k4 hf=>hR v w4 (k1.trans k4.drL) hf
 | some r =>
  obtain ⟨i,n⟩:=r
  rw [e] at hR
  intro d
  have hn:=(getN_some e).2
  have hnb:=(hv.nt.nd i n hn).2
  simp only at hR
  simp only [SS,hnb.rd (o:=10) (v:=Pt (lf i) 0) rfl,hv.kh.rd (o:=4) (v:=I Kk.now) rfl,b1.la0 (n:=4) rfl]
  rw [if_neg h0]
  have hv':=hv.kp (Kp.dr No w1 (d+1)) fun _ _=>id
  refine k176 (hv'.leaf i n hn) ?_
  cases ea:pushL n.leaf 2 8 x j Kk.now with
  | error er =>
   rw [ea] at hR
   intro w3 k3
   exact k129 (pushL_err ea) fun v w4 k4 hf=>hR v w4 ((k1.trans k3.drL).trans k4) hf
  | ok S =>
   rw [ea] at hR
   intro w3 k3 hl3
   refine k129_no ?_
   have k3':=k3.drL
   have hi:=(hv.nt.nd i n hn).1
   have hv3:=hv.setLeaf hn k3' hl3
   exact hR w3 _ (stp (k3'.mono fun x _ hx=>by unfold inK; omega) (by unfold inK; omega)) ⟨t,L,bk,m,p,nb,lf,hv3⟩
end
section
open Sy
def F171 (R:Ko) (x0:Option Addr) (x1:Int) (w:World):Prop:=Ct Tryz.prog 130 #[.pointer x0,.int .i64 x1] w fun v11 w1=>on2 v11 fun y11_0 y11_1=>onP y11_0 fun x11_0=>Nl y11_1 fun x16=>Ifm (!x16) (R (.tuple #[.pointer none,y11_1]) w1) (onSome x0 fun x21=>Lc (x21.add 1) w1 fun v23=>onI v23 fun x23=>Ifm ((x1:Int) == x23) (R (.tuple #[.pointer none,.iface 129 (.int .i64 91)]) w1) (Ct Tryz.prog 200 #[.pointer x0,.int .i64 x1] w1 fun v29 w2=>onB v29 fun x29=>Ifm x29 (R (.tuple #[.pointer none,.iface 129 (.int .i64 92)]) w2) (R (.tuple #[.pointer x11_0,.nilIface]) w2)))
noncomputable def b171:Code:=Tryz.f171.body.getD .skip
theorem c171 {R:Ko} {x0:Option Addr} {x1:Int} {w:World} (h:F171 R x0 x1 w):Ct Tryz.prog 171 #[.pointer x0,.int .i64 x1] w R :=
 ctS (args:=[.pointer x0,.int .i64 x1]) (body:=b171) (n:=32) (rs:=[.tmp 4,.tmp 5]) Tryz.func171
  (sg (cuts:=[]) trivial h)
variable {K:Ko} {w w':World}
theorem mk_parts {h:Int} (hv:okV h=true):mkH (pK h) (pS h) (pG h)=h:=by
 unfold okV at hv
 rw [mkH_eq hv]
 unfold okH at hv
 simp only [Bool.and_eq_true,decide_eq_true_eq] at hv
 obtain ⟨⟨⟨⟨⟨h1,h2⟩,_⟩,_⟩,_⟩,_⟩:=hv
 have hs:∀ n:Nat,n≤64→shrV .i64 h n=h.fdiv (2 ^ n):=fun n hn=>by
  unfold shrV
  show h.fdiv (2 ^ (min n 64))=_
  rw [Nat.min_eq_left hn]
 have eK:pK h=h / 1099511627776:=by
  unfold pK; rw [hs 40 (by omega),Int.fdiv_eq_ediv_of_nonneg _ (by decide)]; rfl
 rw [eK] at h1 h2
 have eS:pS h=(h / 1048576) % 1048576:=by
  unfold pS
  rw [hs 20 (by omega),Int.fdiv_eq_ediv_of_nonneg _ (by decide)]
  show andV .i64 (h / 1048576) 1048575=_
  rw [andV_nat (by omega) (by omega) (by omega) (by omega)]
  have:=Nat.and_two_pow_sub_one_eq_mod (h / 1048576).toNat 20
  rw [show (1048575:Int).toNat=2 ^ 20 - 1 by rfl,this]
  omega
 have eG:pG h=h % 1048576:=by
  unfold pG
  rw [andV_nat (by omega) (by omega) (by omega) (by omega)]
  have:=Nat.and_two_pow_sub_one_eq_mod h.toNat 20
  rw [show (1048575:Int).toNat=2 ^ 20 - 1 by rfl,this]
  omega
 rw [eK,eS,eG]
 omega
theorem found_name {α:Type} {S:Slots α} {kind h:Int} {n i:Nat} (hk:kind≠0) (e:findS S kind n h=some i):h=nameS kind i (S i).1∧okH kind i (S i).1=true:=by
 unfold findS at e
 split at e
 ·rename_i hc
  injection e with e
  obtain ⟨h1,h2,_,_,h5⟩:=hc
  rw [e] at h5
  have hv:okV h=true:=by
   cases hv:okV h with
   | true=>rfl
   | false=>unfold kindH at h1; rw [hv,if_neg (by simp)] at h1; exact absurd h1.symm hk
  have a1:pK h=kind:=by unfold kindH at h1; rw [if_pos hv] at h1; exact h1
  have a2:pS h=i:=by
   have:slotH h=pS h:=by unfold slotH; rw [if_pos hv]
   rw [this] at h2 e; omega
  have a3:pG h=(S i).1:=by unfold genH at h5; rw [if_pos hv] at h5; exact h5.symm
  have hm:=mk_parts hv
  rw [a1,a2,a3] at hm
  have hok:okH kind i (S i).1=true:=by unfold okV at hv; rw [a1,a2,a3] at hv; exact hv
  exact ⟨by unfold nameS; rw [if_pos hok]; exact hm.symm,hok⟩
 ·cases e
theorem Kn.Ok.found {Kk:Kn} (hO:Kk.Ok) {h:Int} {i:Nat} {n:Nd} (e:getN Kk.n h=some (i,n)):∃ l,Up Kk.n h l∧l.length≤9:=by
 obtain ⟨h1,h2⟩:=getN_some e
 obtain ⟨hn,_⟩:=found_name (by decide) h1
 rw [hn]
 exact hO.up i n h2
def goesB (N:Nds):Nat→Int→Bool
 | 0,_=>false
 | f+1,h=>if h=0 then false else match getN N h with
  | none=>false
  | some (_,n)=>n.bg.dy || goesB N f n.par
theorem goes_up {N:Nds} {h:Int} {l:List Int} (hU:Up N h l):∀ f,l.length≤f→goesB N f h=l.any (dyB N):=by
 induction hU with
 | top=>intro f _; cases f <;> simp [goesB]
 | step hne hg _ ih =>
  intro f hf
  cases f with
  | zero=>simp at hf
  | succ f =>
   rw [List.length_cons] at hf
   rw [List.any_cons]
   simp only [goesB,if_neg hne,hg,ih f (by omega),dyB]
def changeK (K:Kn) (h:Int):Except Int (Nat × Nd):=match getN K.n h with
 | none=>.error 20
 | some (i,n)=>if h=rootH then .error 91 else if goesB K.n 9 h=true then .error 92 else .ok (i,n)
theorem k171 {lab:Nat→Nat} {q k t L bk m p:Nat} {nb lf:Nat→Nat} {Kk:Kn} {h:Int} (hv:KRv w lab q k t L bk m p nb lf Kk) (hR:match changeK Kk h with
  | .error e=>∀ w',Kp No w w'→K (.tuple #[.pointer none,Er e]) w'
  | .ok (i,_)=>∀ w',Kp No w w'→K (.tuple #[Pt (nb i) 0,.nilIface]) w'):Ct Tryz.prog 171 #[Pt k 0,I h] w K:=by
 refine c171 ?_
 unfold F171
 unfold changeK at hR
 refine k130 hv.nt ?_
 cases e:getN Kk.n h with
 | none=>rw [e] at hR; intro d; simp only [SS]; exact hR _ (Kp.dr _ _ _)
 | some r =>
  obtain ⟨i,n⟩:=r
  rw [e] at hR
  intro d
  simp only at hR
  simp only [SS,hv.kh.rd (o:=1) (v:=I rootH) rfl]
  by_cases h1:h=rootH
  ·rw [if_pos h1] at hR ⊢; exact hR _ (Kp.dr _ _ _)
  rw [if_neg h1] at hR ⊢
  obtain ⟨l,hU,h9⟩:=hv.ok.found e
  rw [goes_up hU 9 h9] at hR
  refine k200 (hv.nt.no (Kp.dr No w d)) hU (by omega) fun w2 k2=>?_
  cases e2:l.any (dyB Kk.n) with
  | true=>rw [if_pos e2] at hR; simp only [SS]; exact hR w2 k2.drL
  | false=>rw [if_neg (by simp [e2])] at hR; simp only [SS]; exact hR w2 k2.drL
end
section
open Sy
def F92 (R:Ko) (x0:Option Addr) (x1:Int) (w:World):Prop:=Ct Tryz.prog 171 #[.pointer x0,.int .i64 x1] w fun v10 w1=>on2 v10 fun y10_0 y10_1=>onP y10_0 fun x10_0=>Nl y10_1 fun x14=>Ifm x14 (onSome x10_0 fun x18=>La 8 (x18.add 1) w1 fun x20=>Ct Tryz.prog 172 #[.agg x20] w1 fun v21 w2=>on2 v21 fun y21_0 y21_1=>onG y21_0 fun x21_0=>onSome x10_0 fun x24=>Sa 8 (x24.add 1) x21_0 w2 fun w3=>Ct Tryz.prog 129 #[.int .i64 3,.int .i64 x1,y21_1] w3 fun v28 w4=>R v28 w4) (Ct Tryz.prog 129 #[.int .i64 3,.int .i64 x1,y10_1] w1 fun v28 w5=>R v28 w5)
noncomputable def b92:Code:=Tryz.f92.body.getD .skip
theorem c92 {R:Ko} {x0:Option Addr} {x1:Int} {w:World} (h:F92 R x0 x1 w):Ct Tryz.prog 92 #[.pointer x0,.int .i64 x1] w R :=
 ctS (args:=[.pointer x0,.int .i64 x1]) (body:=b92) (n:=29) (rs:=[.tmp 4]) Tryz.func92
  (sg (cuts:=[]) trivial h)
variable {K:Ko} {w w':World}
def deleteK (K:Kn) (h:Int):Int × Kn:=match changeK K h with
 | .error e=>(e,K)
 | .ok (i,n)=>match deleteB n.bg with
  | .error e=>(e,{ K with n:=modN K.n i fun n=>{ n with bg:=zB } })
  | .ok b=>(0,{ K with n:=modN K.n i fun n=>{ n with bg:=b } })
theorem changeK_err {Kk:Kn} {h e:Int} (hc:changeK Kk h=.error e):e≠0:=by
 unfold changeK at hc
 split at hc
 ·injection hc with hc; omega
 ·split at hc
  ·injection hc with hc; omega
  ·split at hc
   ·injection hc with hc; omega
   ·cases hc
theorem changeK_ok {Kk:Kn} {h:Int} {i:Nat} {n:Nd} (hc:changeK Kk h=.ok (i,n)):getN Kk.n h=some (i,n):=by
 unfold changeK at hc
 split at hc
 ·cases hc
 ·rename_i e
  split at hc
  ·cases hc
  ·split at hc
   ·cases hc
   ·injection hc with hc; injection hc with h1 h2; rw [e,h1,h2]
theorem k92 {lab:Nat→Nat} {q k:Nat} {Kk:Kn} {h:Int} (hK:KR w lab q k Kk) (hR:∀ v w',Stp w w' lab lab q→KR w' lab q k (deleteK Kk h).2→Flt w' v (deleteK Kk h).1→K v w'):Ct Tryz.prog 92 #[Pt k 0,I h] w K:=by
 refine c92 ?_
 unfold F92
 obtain ⟨t,L,bk,m,p,nb,lf,hv⟩:=id hK
 refine k171 hv ?_
 unfold deleteK at hR
 cases ec:changeK Kk h with
 | error e =>
  rw [ec] at hR
  intro w1 k1
  simp only [SS]
  refine k129 (changeK_err ec) fun v w2 k2 hf=>?_
  have k02:=k1.trans k2
  exact hR v w2 (Stp.no k02 hv.bd) (hK.no k02) hf
 | ok r =>
  obtain ⟨i,n⟩:=r
  rw [ec] at hR
  intro w1 k1
  have hn:=(getN_some (changeK_ok ec)).2
  have hv1:=hv.kp k1 fun _ _=>id
  have hnb:=(hv1.nt.nd i n hn).2
  have hln:=hv.ln i n hn
  have hi:=(hv.nt.nd i n hn).1
  have la:∀ k,La 8 ⟨nb i,1,none⟩ w1 k=k n.bg.cells.toArray:=fun k=>by rw [hnb.la (by simp [ndC,Bg.cells])]; rfl
  simp only [SS,la]
  have fin:∀ (w2:World) (b:Bg),Kp No w1 w2→∀ {kk:World→Prop},(∀ w3,Stp w w3 lab lab q→KR w3 lab q k { Kk with n:=modN Kk.n i fun n=>{ n with bg:=b } }→kk w3)→Sa 8 ⟨nb i,1,none⟩ b.cells.toArray w2 kk:=by
   intro w2 b k2 kk hk
   have hv2:=hv1.kp k2 fun _ _=>id
   refine sa_k (k2.bk hnb id) rfl (by simp [ndC,Bg.cells]) (Bg.one _) fun w3 k3 b3 s3=>?_
   have hv3:=hv2.setNode (f:=fun n=>{ n with bg:=b }) hn (fun _=>⟨rfl,rfl⟩) k3 b3
   have kk':Kp (fun x=>inK q (lab x)) w w3:=((k1.trans k2).no _).trans (k3.mono fun x _ hx=>by rw [hx,hln]; unfold inK; omega)
   exact hk w3 ⟨kk',fun _ _=>rfl,fun x hx hne=>by have:=hv.bd x hne; omega⟩ ⟨t,L,bk,m,p,nb,lf,hv3⟩
  refine k172 ?_
  cases ed:deleteB n.bg with
  | error e =>
   simp only [ed] at hR
   intro w2 k2
   simp only [SS]
   refine fin w2 zB k2 fun w3 hs hk3=>?_
   refine k129 (by
    unfold deleteB at ed
    split at ed
    ·split at ed
     ·injection ed with ed; omega
     ·cases ed
    ·injection ed with ed; omega) fun v w4 k4 hf=>hR v w4 (hs.tail k4) (hk3.no k4) hf
  | ok b =>
   simp only [ed] at hR
   intro w2 k2
   simp only [SS]
   refine fin w2 b k2 fun w3 hs hk3=>?_
   exact k129_no (hR _ w3 hs hk3 (Flt.nil _))
end
end Go.Proofs.YtbgbidpecmepmaaGreatDoor
