/-
  The pool of best-effort tasks; A budget's boundary; who is picked.
-/
import Derived.Test.YtbgbidpecmepmaaGreatDoorM9
import Derived.Test.YtbgbidpecmepmaaGreatDoorM5
set_option maxRecDepth 100000
namespace Go.Proofs.YtbgbidpecmepmaaGreatDoor
section
open Sy
def F131 (R:Ko) (x0:Option Addr) (x1:Int) (w:World):Prop:=Ifm x0.isNone (R (.tuple #[.int .i64 0,.iface 129 (.int .i64 50)]) w) (Ct Tryz.prog 208 #[.int .i64 x1] w fun v13 w1=>on2 v13 fun y13_0 y13_1=>onG y13_0 fun x13_0=>New (.cells (.agg #[.int .i64 0,.slice none 0 0,.int .i64 0,.int .i64 0,.int .i64 0,.int .i64 0,.int .i64 0,.int .i64 0]:Value).cells 47) w1 fun x6 w2=>Sa 8 x6 x13_0 w2 fun w3=>Nl y13_1 fun x17=>Ifm (!x17) (R (.tuple #[.int .i64 0,y13_1]) w3) (onSome x0 fun x20=>Lc (x20.add 0) w3.drew fun v22=>onP v22 fun x22=>La 8 x6 w3.drew fun x23=>Ct Tryz.prog 209 #[.pointer x22,.agg x23] w3.drew fun v24 w4=>on2 v24 fun y24_0 y24_1=>onI y24_0 fun x24_0=>R (.tuple #[.int .i64 x24_0,y24_1]) w4))
noncomputable def b131:Code:=Tryz.f131.body.getD .skip
theorem c131 {R:Ko} {x0:Option Addr} {x1:Int} {w:World} (h:F131 R x0 x1 w):Ct Tryz.prog 131 #[.pointer x0,.int .i64 x1] w R :=
 ctS (args:=[.pointer x0,.int .i64 x1]) (body:=b131) (n:=27) (rs:=[.tmp 4,.tmp 5]) Tryz.func131
  (sg (cuts:=[]) trivial h)
def F173 (R:Ko) (x0:Option Addr) (x1:Int) (w:World):Prop:=Ifm x0.isNone (R (.iface 129 (.int .i64 50)) w) (onSome x0 fun x9=>Lc (x9.add 0) w fun v11=>onP v11 fun x11=>Ct Tryz.prog 265 #[.pointer x11,.int .i64 x1] w fun v13 w1=>R v13 w1)
noncomputable def b173:Code:=Tryz.f173.body.getD .skip
theorem c173 {R:Ko} {x0:Option Addr} {x1:Int} {w:World} (h:F173 R x0 x1 w):Ct Tryz.prog 173 #[.pointer x0,.int .i64 x1] w R :=
 ctS (args:=[.pointer x0,.int .i64 x1]) (body:=b173) (n:=14) (rs:=[.tmp 4]) Tryz.func173
  (sg (cuts:=[]) trivial h)
def F175 (R:Ko) (x0:Option Addr) (x1:Int) (x2:Array Value) (x3:Int) (w:World):Prop:=New (.cells (.agg x2:Value).cells 37) w fun x6 w1=>Ct Tryz.prog 151 #[.pointer x0,.int .i64 x1] w1 fun v14 w2=>on2 v14 fun y14_0 y14_1=>onG y14_0 fun x14_0=>New (.cells (.agg #[.int .i64 0,.slice none 0 0,.int .i64 0,.int .i64 0,.int .i64 0,.int .i64 0,.int .i64 0,.int .i64 0]:Value).cells 47) w2 fun x9 w3=>Sa 8 x9 x14_0 w3 fun w4=>Nl y14_1 fun x18=>Ifm (!x18) (R y14_1 w4) (La 8 x9 w4 fun x21=>La 4 x6 w4 fun x22=>Ct Tryz.prog 266 #[.agg x21,.agg x22,.int .i64 x3] w4 fun v24 w5=>on2 v24 fun y24_0 y24_1=>onG y24_0 fun x24_0=>Sa 8 x9 x24_0 w5 fun w6=>Nl y24_1 fun x28=>Ifm (!x28) (R y24_1 w6) (onSome x0 fun x31=>Lc (x31.add 0) w6.drew fun v33=>onP v33 fun x33=>La 8 x9 w6.drew fun x35=>Ct Tryz.prog 267 #[.pointer x33,.int .i64 x1,.agg x35] w6.drew fun v36 w7=>R v36 w7))
noncomputable def b175:Code:=Tryz.f175.body.getD .skip
theorem c175 {R:Ko} {x0:Option Addr} {x1:Int} {x2:Array Value} {x3:Int} {w:World} (h:F175 R x0 x1 x2 x3 w):Ct Tryz.prog 175 #[.pointer x0,.int .i64 x1,.agg x2,.int .i64 x3] w R :=
 ctS (args:=[.pointer x0,.int .i64 x1,.agg x2,.int .i64 x3]) (body:=b175) (n:=37) (rs:=[.tmp 8]) Tryz.func175
  (sg (cuts:=[]) trivial h)
def F151 (R:Ko) (x0:Option Addr) (x1:Int) (w:World):Prop:=New (.cells (.agg #[.int .i64 0,.slice none 0 0,.int .i64 0,.int .i64 0,.int .i64 0,.int .i64 0,.int .i64 0,.int .i64 0]:Value).cells 47) w fun x4 w1=>Ifm x0.isNone (Sa 8 x4 (#[.int .i64 0,.slice none 0 0,.int .i64 0,.int .i64 0,.int .i64 0,.int .i64 0,.int .i64 0,.int .i64 0]) w1 fun w2=>Rd Tryz.prog (Instr.loadAt 47 (.pointer (some x4))) w2 fun r0=>R (.tuple #[r0,.iface 129 (.int .i64 50)]) w2) (onSome x0 fun x14=>Lc (x14.add 0) w1 fun v16=>onP v16 fun x16=>Ct Tryz.prog 225 #[.pointer x16,.int .i64 x1] w1 fun v18 w3=>on2 v18 fun y18_0 y18_1=>onG y18_0 fun x18_0=>New (.cells (.agg #[.int .i64 0,.slice none 0 0,.int .i64 0,.int .i64 0,.int .i64 0,.int .i64 0,.int .i64 0,.int .i64 0]:Value).cells 47) w3 fun x6 w4=>Sa 8 x6 x18_0 w4 fun w5=>Nl y18_1 fun x22=>Ifm (!x22) (Sa 8 x4 (#[.int .i64 0,.slice none 0 0,.int .i64 0,.int .i64 0,.int .i64 0,.int .i64 0,.int .i64 0,.int .i64 0]) w5 fun w6=>Rd Tryz.prog (Instr.loadAt 47 (.pointer (some x4))) w6 fun r0=>R (.tuple #[r0,y18_1]) w6) (La 8 x6 w5 fun x25=>Ct Tryz.prog 226 #[.agg x25] w5 fun v26 w7=>onG v26 fun x26=>Sa 8 x4 x26 w7 fun w8=>Rd Tryz.prog (Instr.loadAt 47 (.pointer (some x4))) w8 fun r0=>R (.tuple #[r0,.nilIface]) w8))
noncomputable def b151:Code:=Tryz.f151.body.getD .skip
theorem c151 {R:Ko} {x0:Option Addr} {x1:Int} {w:World} (h:F151 R x0 x1 w):Ct Tryz.prog 151 #[.pointer x0,.int .i64 x1] w R :=
 ctS (args:=[.pointer x0,.int .i64 x1]) (body:=b151) (n:=27) (rs:=[.cell 4 47,.tmp 5]) Tryz.func151
  (sg (cuts:=[]) trivial h)
def F382_0B (R:Ko) (C0:Option Addr→Int→Int→Int→Option Addr→Nat→Nat→Int→Int→World→Prop) (x0:Option Addr) (x4:Int) (x5:Int) (x6:Int) (a18:Option Addr) (l18 c18:Nat) (x19:Int) (x20:Int) (w:World):Prop:=Ifm (decide ((x20:Int)<x19)) (Ix a18 l18 x20 1 fun x22=>Lc x22 w fun v23=>onI v23 fun x23=>onSome x0 fun x26=>Lc (x26.add 0) w fun v28=>onP v28 fun x28=>Ct Tryz.prog 225 #[.pointer x28,.int .i64 x23] w fun v30 w2=>on2 v30 fun y30_0 y30_1=>onG y30_0 fun x30_0=>New (.cells (.agg #[.int .i64 0,.slice none 0 0,.int .i64 0,.int .i64 0,.int .i64 0,.int .i64 0,.int .i64 0,.int .i64 0]:Value).cells 47) w2 fun x9 w3=>Sa 8 x9 x30_0 w3 fun w4=>La 8 x9 w4 fun x33=>Ct Tryz.prog 383 #[.agg x33] w4 fun v34 w5=>onB v34 fun x34=>Ifm (!x34) (C0 x0 x4 x5 x6 a18 l18 c18 x19 (IntKind.i64.wrap (x20+1)) w5) (onSome x0 fun x39=>Lc (x39.add 1) w5.drew fun v41=>onI v41 fun x41=>Ct Tryz.prog 268 #[.int .i64 x23] w5.drew fun v37 w6=>onI v37 fun x37=>Hc (x39.add 1) (.int .i64 x41) w6∧Rd Tryz.prog (Bin .rem 3 (.tmp 44) (.const (.int .i64 16)) (.int .i64 (IntKind.i64.wrap ((IntKind.i64.wrap ((IntKind.i64.wrap (x37 - x41)) - 1))+16))) (.int .i64 16)) w6 fun v45=>onI v45 fun x45=>Ifm ((x4:Int) == 0) (Lc (x9.add 0) w6.drew fun v67=>onI v67 fun x67=>C0 x0 x23 x67 x45 a18 l18 c18 x19 (IntKind.i64.wrap (x20+1)) w6.drew) (Lc (x9.add 0) w6 fun v50=>onI v50 fun x50=>Ifm (decide ((x50:Int)<x5)) (Lc (x9.add 0) w6.drew fun v67=>onI v67 fun x67=>C0 x0 x23 x67 x45 a18 l18 c18 x19 (IntKind.i64.wrap (x20+1)) w6.drew) (Lc (x9.add 0) w6 fun v56=>onI v56 fun x56=>Ifm ((x56:Int) == x5) (Ifm (decide ((x45:Int)<x6)) (Lc (x9.add 0) w6.drew fun v67=>onI v67 fun x67=>C0 x0 x23 x67 x45 a18 l18 c18 x19 (IntKind.i64.wrap (x20+1)) w6.drew) (C0 x0 x4 x5 x6 a18 l18 c18 x19 (IntKind.i64.wrap (x20+1)) w6)) (C0 x0 x4 x5 x6 a18 l18 c18 x19 (IntKind.i64.wrap (x20+1)) w6))))) (R (.tuple #[.int .i64 x4,.bool ((x4:Int) != 0)]) w)
def F382_0 (R:Ko) (x0:Option Addr) (x4:Int) (x5:Int) (x6:Int) (a18:Option Addr) (l18 c18:Nat) (x19:Int) (x20:Int) (w:World):Prop:=∃ (Inv:Option Addr→Int→Int→Int→Option Addr→Nat→Nat→Int→Int→World→Prop) (μ:Option Addr→Int→Int→Int→Option Addr→Nat→Nat→Int→Int→World→Nat),Inv x0 x4 x5 x6 a18 l18 c18 x19 x20 w∧∀ x0 x4 x5 x6 a18 l18 c18 x19 x20 w,Inv x0 x4 x5 x6 a18 l18 c18 x19 x20 w→F382_0B R (fun x0' x4' x5' x6' a18' l18' c18' x19' x20' w'=>Inv x0' x4' x5' x6' a18' l18' c18' x19' x20' w'∧μ x0' x4' x5' x6' a18' l18' c18' x19' x20' w'<μ x0 x4 x5 x6 a18 l18 c18 x19 x20 w) x0 x4 x5 x6 a18 l18 c18 x19 x20 w
def F382 (R:Ko) (x0:Option Addr) (w:World):Prop:=Ifm x0.isNone (R (.tuple #[.int .i64 0,.bool false]) w) (onSome x0 fun x15=>Lc (x15.add 0) w fun v17=>onP v17 fun x17=>Ct Tryz.prog 220 #[.pointer x17] w fun v18 w1=>onL v18 fun a18 l18 c18=>F382_0 R x0 0 0 0 a18 l18 c18 (l18:Nat) 0 w1)
noncomputable def b382:Code:=Tryz.f382.body.getD .skip
def q382_0:List Bool:=[false,true,false,true,true,true,false,true]
def L382_0 (F:Option Addr→Int→Int→Int→Option Addr→Nat→Nat→Int→Int→World→Prop):Env→World→Prop:=fun ρ w=>onP (ρ 0) fun x0=>onI (ρ 4) fun x4=>onI (ρ 5) fun x5=>onI (ρ 6) fun x6=>onL (ρ 18) fun a18 l18 c18=>onI (ρ 19) fun x19=>onI (ρ 20) fun x20=>F x0 x4 x5 x6 a18 l18 c18 x19 x20 w
abbrev T382 (z:Fr) (R:Ko) (p:List Bool) (ρ:Env) (w:World):Prop:=TW z Tryz.prog 73 (segTodo b382 p) (QR Tryz.prog [.tmp 2,.tmp 3] R) ρ w
theorem s382_0 (R:Ko):∀ ρ w,(L382_0 (F382_0 R)) ρ w→T382 z0 R q382_0 ρ w:=by
 intro ρ w h
 obtain ⟨x0,e0,h⟩:=onP_of h
 obtain ⟨x4,e4,h⟩:=onI_of h
 obtain ⟨x5,e5,h⟩:=onI_of h
 obtain ⟨x6,e6,h⟩:=onI_of h
 obtain ⟨a18,l18,c18,e18,h⟩:=onL_of h
 obtain ⟨x19,e19,h⟩:=onI_of h
 obtain ⟨x20,e20,h⟩:=onI_of h
 obtain ⟨Inv,μ,hi,hb⟩:=h
 refine lpT (fun m=>L382_0 (fun x0 x4 x5 x6 a18 l18 c18 x19 x20 w=>Inv x0 x4 x5 x6 a18 l18 c18 x19 x20 w∧μ x0 x4 x5 x6 a18 l18 c18 x19 x20 w=m)) ?_ (μ x0 x4 x5 x6 a18 l18 c18 x19 x20 w) ρ w ?_
 ·intro m ρ w ih h
  obtain ⟨x0,e0,h⟩:=onP_of h
  obtain ⟨x4,e4,h⟩:=onI_of h
  obtain ⟨x5,e5,h⟩:=onI_of h
  obtain ⟨x6,e6,h⟩:=onI_of h
  obtain ⟨a18,l18,c18,e18,h⟩:=onL_of h
  obtain ⟨x19,e19,h⟩:=onI_of h
  obtain ⟨x20,e20,h⟩:=onI_of h
  obtain ⟨hv,hm⟩:=h
  subst hm
  have hh:=hb x0 x4 x5 x6 a18 l18 c18 x19 x20 w hv
  obtain ⟨C0,hC⟩:∃ C,C=fun x0' x4' x5' x6' a18' l18' c18' x19' x20' w'=>Inv x0' x4' x5' x6' a18' l18' c18' x19' x20' w'∧μ x0' x4' x5' x6' a18' l18' c18' x19' x20' w'<μ x0 x4 x5 x6 a18 l18 c18 x19 x20 w:=⟨_,rfl⟩
  rw [← hC] at hh
  have h0:∀ ρ w,(L382_0 C0) ρ w→T382 z0 R q382_0 ρ w:=by
   intro ρ' w' h'
   refine ih ρ' w' ?_
   obtain ⟨x0',e0',h'⟩:=onP_of h'
   obtain ⟨x4',e4',h'⟩:=onI_of h'
   obtain ⟨x5',e5',h'⟩:=onI_of h'
   obtain ⟨x6',e6',h'⟩:=onI_of h'
   obtain ⟨a18',l18',c18',e18',h'⟩:=onL_of h'
   obtain ⟨x19',e19',h'⟩:=onI_of h'
   obtain ⟨x20',e20',h'⟩:=onI_of h'
   rw [hC] at h'
   refine ⟨_,h'.2,?_⟩
   simp only [e0',e4',e5',e6',e18',e19',e20',L382_0,ons]
   exact ⟨h'.1,by trivial⟩
  rw [← upds_same (ρ:=ρ) [(0,.pointer x0),(4,.int .i64 x4),(5,.int .i64 x5),(6,.int .i64 x6),(18,.slice a18 l18 c18),(19,.int .i64 x19),(20,.int .i64 x20)] (alc e0 (alc e4 (alc e5 (alc e6 (alc e18 (alc e19 (alc e20 aln)))))))]
  exact sg (cuts:=[(q382_0,L382_0 C0)]) ⟨h0,trivial⟩ hh
 ·simp only [e0,e4,e5,e6,e18,e19,e20,L382_0,ons]
  exact ⟨hi,by trivial⟩
theorem c382 {R:Ko} {x0:Option Addr} {w:World} (h:F382 R x0 w):Ct Tryz.prog 382 #[.pointer x0] w R :=
 ctS (args:=[.pointer x0]) (body:=b382) (n:=73) (rs:=[.tmp 2,.tmp 3]) Tryz.func382
  (sg (cuts:=[(q382_0,L382_0 (F382_0 R))]) ⟨s382_0 R,trivial⟩ h)
def F341 (R:Ko) (x0:Option Addr) (x1:Int) (w:World):Prop:=Ct Tryz.prog 382 #[.pointer x0] w fun v17 w1=>on2 v17 fun y17_0 y17_1=>onI y17_0 fun x17_0=>onB y17_1 fun x17_1=>Ifm (!x17_1) (R (.tuple #[.int .i64 0,.int .i64 0,.int .i64 0,.bool false]) w1) (onSome x0 fun x24=>Lc (x24.add 0) w1 fun v26=>onP v26 fun x26=>Ct Tryz.prog 225 #[.pointer x26,.int .i64 x17_0] w1 fun v28 w2=>on2 v28 fun y28_0 y28_1=>onG y28_0 fun x28_0=>New (.cells (.agg #[.int .i64 0,.slice none 0 0,.int .i64 0,.int .i64 0,.int .i64 0,.int .i64 0,.int .i64 0,.int .i64 0]:Value).cells 47) w2 fun x10 w3=>Sa 8 x10 x28_0 w3 fun w4=>La 8 x10 w4 fun x32=>Ct Tryz.prog 344 #[.agg x32,.int .i64 x1] w4 fun v34 w5=>on4 v34 fun y34_0 y34_1 y34_2 y34_3=>onG y34_0 fun x34_0=>onI y34_1 fun x34_1=>onI y34_2 fun x34_2=>Sa 8 x10 x34_0 w5 fun w6=>Nl y34_3 fun x40=>Ifm (!x40) (R (.tuple #[.int .i64 0,.int .i64 0,.int .i64 0,.bool false]) w6) (onSome x0 fun x42=>Lc (x42.add 0) w6.drew fun v44=>onP v44 fun x44=>La 8 x10 w6.drew fun x46=>Ct Tryz.prog 267 #[.pointer x44,.int .i64 x17_0,.agg x46] w6.drew fun v47 w7=>Ct Tryz.prog 268 #[.int .i64 x17_0] w7 fun v50 w8=>onI v50 fun x50=>onSome x0 fun x51=>Sc (x51.add 1) (.int .i64 x50) w8 fun w9=>R (.tuple #[.int .i64 x17_0,.int .i64 x34_1,.int .i64 x34_2,.bool true]) w9))
noncomputable def b341:Code:=Tryz.f341.body.getD .skip
theorem c341 {R:Ko} {x0:Option Addr} {x1:Int} {w:World} (h:F341 R x0 x1 w):Ct Tryz.prog 341 #[.pointer x0,.int .i64 x1] w R :=
 ctS (args:=[.pointer x0,.int .i64 x1]) (body:=b341) (n:=56) (rs:=[.tmp 4,.tmp 5,.tmp 6,.tmp 7]) Tryz.func341
  (sg (cuts:=[]) trivial h)
variable {K:Ko} {w w':World} {F C:Nat→Prop}
def PL (w:World) (F C:Nat→Prop) (p:Nat) (S:Slots Tk) (last:Int):Prop:=∃ b,Bk w p [Pt b 0,I last] 215∧¬ F p∧¬ C p∧(∀ x,F x∨C x→x<w.heap.size)∧TT w F C b 3 16 S
section
variable {p:Nat} {S:Slots Tk} {last:Int}
theorem PL.kp {X:Nat→Prop} (h:PL w F C p S last) (k:Kp X w w') (hs:∀ b,F b→¬ X b) (hc:∀ b,C b→¬ X b) (hp:¬ X p):PL w' F C p S last:=by
 obtain ⟨b,h1,h2,h3,hb,h4⟩:=h
 exact ⟨b,k.bk h1 hp,h2,h3,fun x hx=>Nat.lt_of_lt_of_le (hb x hx) k.size,h4.kp k hs hc⟩
theorem PL.no (h:PL w F C p S last) (k:Kp No w w'):PL w' F C p S last:=h.kp k (fun _ _=>id) (fun _ _=>id) id
theorem PL.lt (h:PL w F C p S last):∀ x,F x∨C x→x<w.heap.size:=by obtain ⟨_,_,_,_,h,_⟩:=h; exact h
theorem PL.ltp (h:PL w F C p S last):p<w.heap.size:=by obtain ⟨_,h,_⟩:=h; exact h.lt
theorem pl_in {S':Slots Tk} {b:Nat} {w1:World} (hl:PL w F C p S last) (k1:Kp F w w1) (h1:Bk w p [Pt b 0,I last] 215) (hT:TT w1 F C b 3 16 S'):PL w1 F C p S' last:=by
 obtain ⟨_,_,h2,h3,hb,_⟩:=hl
 exact ⟨b,k1.bk h1 h2,h2,h3,fun x hx=>Nat.lt_of_lt_of_le (hb x hx) k1.size,hT⟩
theorem k131 {prio:Int} (hl:PL w F C p S last) (h:match addT S 3 16 prio with
  | .error e=>∀ w',Kp No w w'→K (.tuple #[I 0,Er e]) w'
  | .ok (x,S')=>∀ w',Kp F w w'→PL w' F C p S' last→K (.tuple #[I x,.nilIface]) w'):Ct Tryz.prog 131 #[Pt p 0,I prio] w K:=by
 refine c131 ?_
 unfold F131
 simp only [SS]
 refine k208 fun w1 k1=>?_
 unfold addT at h
 cases e1:isB prio 0 31 with
 | false =>
  rw [e1] at h
  rw [if_pos rfl] at h
  rw [if_neg (by simp)]
  simp only [SS]
  refine new_k zT fun w2 k2 b2 s2=>?_
  refine sa_k (cs:=zT) b2 rfl (by decide) (by simp [zT,oneCell]) fun w3 k3 b3 s3=>?_
  exact h _ ((k1.trans k2).own k3 (by have:=k1.size; omega))
 | true =>
  rw [e1,if_neg (by simp)] at h
  simp only [SS]
  obtain ⟨v,hv⟩:∃ v,v=TkV.mk prio none 0 0 ⟨0,0,0,0,0,0⟩:=⟨_,rfl⟩
  rw [← hv]
  refine var_k (v:=v) fun w3 k3 b3 s3=>?_
  have k13:Kp No w w3:=k1.trans k3
  have hl3:=hl.no k13
  obtain ⟨b,hb,hFp,hCp,hFs,hT⟩:=id hl3
  simp only [SS,hb.rd (o:=0) (v:=Pt b 0) rfl,b3.la0 (n:=8) v.len]
  have hTd:=hT.kp (Kp.dr No w3 (w3.drawn+1)) (fun _ _=>id) fun _ _=>id
  refine tt_add (t:=newTk prio) hTd (by decide) (by rw [hv]; exact tkAt_new _ _) (fun a ha=>by rw [hv] at ha; cases ha) (fun e w4 k4=>?_) fun i hi e w4 k4 hT4=>?_
  ·rw [e] at h
   simp only [SS]
   exact h _ (k13.trans k4.drL)
  ·rw [e] at h
   simp only [SS]
   exact h w4 ((k13.no F).trans k4.drL) (pl_in hl3 k4.drL hb hT4)
theorem k173 {x:Int} (hl:PL w F C p S last) (h:match dropT S 3 16 x with
  | .error e=>∀ w',Kp No w w'→K (Er e) w'
  | .ok S'=>∀ w',Kp F w w'→PL w' F C p S' last→K .nilIface w'):Ct Tryz.prog 173 #[Pt p 0,I x] w K:=by
 refine c173 ?_
 unfold F173
 obtain ⟨b,hb,hFp,hCp,hFs,hT⟩:=id hl
 simp only [SS,hb.rd (o:=0) (v:=Pt b 0) rfl]
 unfold dropT at h
 refine tt_drop hT (fun e w1 k1=>?_) fun i hi e w1 k1 hT1=>?_
 ·rw [e] at h; exact h w1 k1
 ·rw [e] at h; exact h w1 k1 (pl_in hl k1 hb hT1)
theorem k151 {x:Int} (hl:PL w F C p S last) (h:match getT S 3 16 x with
  | none=>∀ w',Kp No w w'→K (.tuple #[.agg zT.toArray,Er 20]) w'
  | some (_,t)=>∀ v w',Kp No w w'→TkAt w' v t→Frsh w v→K (.tuple #[.agg v.cells.toArray,.nilIface]) w'):Ct Tryz.prog 151 #[Pt p 0,I x] w K:=by
 refine c151 ?_
 unfold F151
 refine new_k zT fun w1 k1 b1 s1=>?_
 have hl1:=hl.no k1
 obtain ⟨b,hb,hFp,hCp,hFs,hT⟩:=id hl1
 simp only [SS,hb.rd (o:=0) (v:=Pt b 0) rfl]
 refine tt_get hT (fun e w2 k2=>?_) (fun i t hi e ht v w2 k2 hv hF=>?_)
 ·simp only [SS]
  refine var_k (v:=zTV) fun w3 k3 b3 s3=>?_
  rw [getT_no e] at h
  exact res_k (c:=zT) (cs:=zT) (k:=fun r0 w4=>K (.tuple #[r0,Er 20]) w4) ld47 (k3.bk (k2.bk b1 id) id) rfl rfl (by simp [zT,oneCell]) fun w4 k4=>h w4 (((k1.trans k2).trans k3).own k4 (Nat.le_refl _))
 ·simp only [SS]
  refine var_k fun w3 k3 b3 s3=>?_
  rw [getT_of e ht] at h
  simp only [SS,b3.la0 (n:=8) v.len]
  refine k226 (hv.kp k3 fun _ _=>id) fun v' w4 k4 hv' hfr=>?_
  simp only [SS]
  have b4:Bk w4 w.heap.size zT 47:=k4.bk (k3.bk (k2.bk b1 id) id) id
  refine res_k (c:=zT) (cs:=v'.cells) (k:=fun r0 w4=>K (.tuple #[r0,.nilIface]) w4) ld47 b4 rfl rfl (by simpa using v'.one) fun w5 k5=>?_
  refine h v' w5 ((((k1.trans k2).trans k3).trans k4).own k5 (Nat.le_refl _)) (hv'.kp k5 fun y hy e=>?_) fun y hy=>Nat.le_trans ((k1.trans k2).trans k3).size (hfr y hy)
  have hj:=hv'.jobs
  rw [hy] at hj
  rcases own_bk hj with ⟨h',_⟩ | ⟨g,cur,hg,_,_,hbk,_⟩
  ·cases h'
  ·injection hg with hg
   subst hg
   exact ne_of_bk hbk b4 (fun e=>by injection e with _ e; simp at e) e
theorem pl_set {b i d:Nat} {h:Int} {t':Tk} {v':TkV} {w5:World} (hl:PL w F C p S last) (k05:Kp No w w5) (hb:Bk w5 p [Pt b 0,I last] 215) (hT:TT w5 F C b 3 16 S) (e:findS S 3 16 h=some i) (hv:TkAt w5 v' t') (hF:∀ a,v'.ja=some a→w.heap.size≤a.block)
  {k:Ko} (hk:∀ w6,Kp F w w6→PL w6 (gr F w w6) C p (upd1 S i ((S i).1,some t')) last→k .nilIface w6):Ct Tryz.prog 267 #[Pt b 0,I h,.agg v'.cells.toArray] (dr w5 d) k:=by
 have hT5:=((hT.mono (F':=gr F w w5) (C':=C) (fun _=>.inl) fun _=>id)).kp (Kp.dr No w5 d) (fun _ _=>id) fun _ _=>id
 obtain ⟨_,_,hFp,hCp,_,_⟩:=id hl
 refine tt_set (v:=v') (t:=t') hT5 (hv.kp (Kp.dr No _ _) fun _ _=>id) (fun y hy=>.inr ⟨hF y hy,?_⟩) (fun e'=>?_) fun i' hi' e' w6 k6 hT6=>?_
 ·have hj:=hv.jobs
  rw [hy] at hj
  exact (own_lt hj (b:=y.block) rfl).2
 ·rw [e] at e'; cases e'
 ·rw [e] at e'; injection e' with e'; subst e'
  have k6':=k6.drL
  have k06:Kp F w w6:=(k05.no F).gr k6'
  have hlw:=hl.ltp
  have hpg:∀ w9,¬ gr F w w9 p:=fun w9 x=>by rcases x with x | x; exact hFp x; omega
  refine hk w6 k06 ⟨b,k6'.bk hb (hpg _),hpg _,hCp,?_,hT6.mono (fun y hy=>?_) fun _=>id⟩
  ·intro y hy
   rcases hy with (hy | hy) | hy
   ·have:=hl.lt y (.inl hy); have:=k06.size; omega
   ·exact hy.2
   ·have:=hl.lt y (.inr hy); have:=k06.size; omega
  ·rcases hy with hy | hy
   ·exact .inl hy
   ·exact .inr ⟨hy.1,Nat.lt_of_lt_of_le hy.2 k6'.size⟩
theorem getT_find {S:Slots Tk} {kind h:Int} {n i:Nat} {t:Tk} (e:getT S kind n h=some (i,t)):findS S kind n h=some i∧(S i).2=some t:=by
 unfold getT at e
 split at e
 ·cases e
 ·rename_i j hj
  cases hs:(S j).2 with
  | none=>rw [hs] at e; cases e
  | some t'=>rw [hs] at e; simp only [Option.map_some,Option.some.injEq,Prod.mk.injEq] at e; obtain ⟨rfl,rfl⟩:=e; exact ⟨hj,hs⟩
theorem k175 {x now:Int} {j:Jb} (hl:PL w F C p S last) (h:match pushL S 3 16 x j now with
  | .error e=>∀ w',Kp No w w'→K (Er e) w'
  | .ok S'=>∀ w',Kp F w w'→PL w' (gr F w w') C p S' last→K .nilIface w'):Ct Tryz.prog 175 #[Pt p 0,I x,.agg j.cells.toArray,I now] w K:=by
 refine c175 ?_
 unfold F175
 refine new_k j.cells fun w1 k1 b1 s1=>?_
 have hl1:=hl.no k1
 obtain ⟨b,hb,hFp,hCp,hFs,hT⟩:=id hl1
 simp only [SS]
 unfold pushL at h
 refine k151 hl1 ?_
 cases eg:getT S 3 16 x with
 | none =>
  rw [eg] at h
  intro w2 k2
  simp only [SS]
  refine var_k (v:=zTV) fun w3 k3 b3 s3=>?_
  exact h w3 ((k1.trans k2).trans k3)
 | some it =>
  obtain ⟨i,t⟩:=it
  rw [eg] at h
  intro v w2 k2 hv _
  simp only [SS] at h ⊢
  refine var_k fun w3 k3 b3 s3=>?_
  have k23:=k2.trans k3
  have j3:Bk w3 w.heap.size j.cells 37:=k23.bk b1 id
  simp only [b3.la0 (n:=8) v.len,j3.la0 (n:=4) rfl]
  refine k266 (hv.kp k3 fun _ _=>id) ?_
  cases ep:pushT t j now with
  | error er =>
   rw [ep] at h
   intro w4 k4
   simp only [SS]
   have b4:Bk w4 w2.heap.size v.cells 47:=k4.bk b3 id
   refine sa_k (cs:=zT) b4 rfl (by simp [TkV.cells]) (by simp [zT,oneCell]) fun w5 k5 b5 s5=>?_
   exact h w5 (((k1.trans k23).trans k4).own k5 (by have:=k1.size; have:=k2.size; omega))
  | ok t' =>
   rw [ep] at h
   intro v' w4 k4 hv' hF'
   simp only [SS]
   have b4:Bk w4 w2.heap.size v.cells 47:=k4.bk b3 id
   refine sa_k (cs:=v'.cells) b4 rfl (by simp [TkV.cells]) (by simpa using v'.one) fun w5 k5 b5 s5=>?_
   rw [over_all _ _ (show v.cells.length=v'.cells.length from rfl)] at b5
   have k15:Kp No w1 w5:=(k23.trans k4).own k5 (by have:=k2.size; omega)
   have hb5:Bk w5 p [Pt b 0,I last] 215:=k15.bk hb id
   have hv5:TkAt w5 v' t':=hv'.kp k5 fun y hy e=>by have:=hF' y hy; omega
   simp only [SS,hb5.rd (o:=0) (v:=Pt b 0) rfl,b5.la0 (n:=8) v'.len]
   obtain ⟨ef,et⟩:=getT_find eg
   have hT5:=(hT.kp k15 (fun _ _=>id) fun _ _=>id)
   refine pl_set hl (k1.trans k15) hb5 hT5 ef hv5 (fun a ha=>by have:=hF' a ha; have:=k1.size; have:=k23.size; omega) fun w6 k6 hl6=>?_
   exact h w6 k6 hl6
abbrev Nx:=Int × Int × Int
def wayS (last h:Int):Int:=(wr (wr (wr (slotH h - last) - 1)+16)).tmod 16
def nextF (S:Slots Tk) (last:Int) (q:Nx) (h:Int):Nx:=match getT S 3 16 h with
 | some (_,t)=>if 0<t.jobs.length then
   if q.1=0 then (h,t.prio,wayS last h) else if t.prio<q.2.1 then (h,t.prio,wayS last h) else if t.prio=q.2.1 then (if wayS last h<q.2.2 then (h,t.prio,wayS last h) else q) else q
  else q
 | none=>q
def nextL (S:Slots Tk) (last:Int):Int:=((allS S 3 16).foldl (nextF S last) (0,0,0)).1
theorem k382 (hl:PL w F C p S last) (h:∀ w',Kp No w w'→K (.tuple #[I (nextL S last),.bool (nextL S last != 0)]) w'):Ct Tryz.prog 382 #[Pt p 0] w K:=by
 refine c382 ?_
 unfold F382
 obtain ⟨b,hb,hFp,hCp,hFs,hT⟩:=id hl
 simp only [SS,hb.rd (o:=0) (v:=Pt b 0) rfl]
 refine tt_all hT (by decide) fun a0 l0 c0 w1 k1 ho1=>?_
 simp only [SS]
 have hlen:=allS_len S 3 16
 have hl0:=own_len ho1
 unfold F382_0
 refine ⟨fun y0 x4 x5 x6 a18 l18 c18 x19 x20 w'=>y0=some ⟨p,0,none⟩∧a0=a18∧l0=l18∧c0=c18∧x19=l0∧Kp No w1 w'∧∃ i:Nat,x20=i∧i≤(allS S 3 16).length∧(x4,x5,x6)=((allS S 3 16).take i).foldl (nextF S last) (0,0,0),
  fun _ _ _ _ _ _ _ _ x20 _=>(allS S 3 16).length - x20.toNat,⟨rfl,rfl,rfl,rfl,rfl,Kp.refl _ _,0,rfl,Nat.zero_le _,by simp⟩,?_⟩
 rintro _ x4 x5 x6 _ _ _ _ _ w2 ⟨rfl,rfl,rfl,rfl,rfl,k2,i,rfl,hi,hx⟩
 unfold F382_0B
 simp only [SS]
 by_cases e1:i<l0
 case neg =>
  rw [if_neg (by omega)]
  have:i=(allS S 3 16).length:=by omega
  subst this
  rw [List.take_length] at hx
  have:=h w2 (k1.trans k2)
  unfold nextL at this
  rw [← hx] at this
  exact this
 rw [if_pos (by omega)]
 have hi':i<(allS S 3 16).length:=by omega
 have ho2:=own_kp ho1 k2 fun _ _=>id
 obtain ⟨g,rfl,_,hlc⟩:=hd_lc ho2 hi'
 have hl2:=hl.no (k1.trans k2)
 obtain ⟨b',hb',_,_,_,hT'⟩:=id hl2
 have hstep:=foldl_take (nextF S last) (allS S 3 16) (0,0,0) hi'
 rw [← hx] at hstep
 simp only [SS,Ix_c e1,hlc,hb'.rd (o:=0) (v:=Pt b' 0) rfl]
 obtain ⟨hd,hhd⟩:∃ y,y=(allS S 3 16)[i]:=⟨_,rfl⟩
 rw [← hhd] at hstep ⊢
 have next:∀ w3,Kp No w2 w3→∀ y3 y4 y5,(y3,y4,y5)=nextF S last (x4,x5,x6) hd→(Kp No w1 w3∧∃ j:Nat,IntKind.i64.wrap ((i:Int)+1)=j∧j≤(allS S 3 16).length∧(y3,y4,y5)=((allS S 3 16).take j).foldl (nextF S last) (0,0,0))∧(allS S 3 16).length - (IntKind.i64.wrap ((i:Int)+1)).toNat<(allS S 3 16).length - i:=by
  intro w3 k3 y3 y4 y5 hy
  rw [cast_succ _ (by omega)]
  exact ⟨⟨k2.trans k3,i+1,rfl,by omega,by rw [hstep]; exact hy⟩,by simp; omega⟩
 refine tt_get hT' (fun e w3 k3=>?_) (fun i' t hi' e ht v w3 k3 hv hF=>?_)
 ·simp only [SS]
  refine var_k (v:=zTV) fun w4 k4 b4 s4=>?_
  simp only [SS,b4.la0 (n:=8) rfl]
  refine k383 fun w5 k5=>?_
  simp only [SS,show decide (0<zTV.jl)=false from rfl]
  exact next w5 ((k3.trans k4).trans k5) _ _ _ (by unfold nextF; rw [getT_no e])
 ·simp only [SS]
  refine var_k (v:=v) fun w4 k4 b4 s4=>?_
  simp only [SS,b4.la0 (n:=8) v.len]
  refine k383 fun w5 k5=>?_
  have b5:Bk w5 w3.heap.size v.cells 47:=k5.bk b4 id
  have k25:=(k3.trans k4).trans k5
  have hb5:Bk w5 p [Pt b' 0,I last] 215:=k25.bk hb' id
  have hr:nextF S last (x4,x5,x6) hd=if 0<t.jobs.length then
   if x4=0 then (hd,t.prio,wayS last hd) else if t.prio<x5 then (hd,t.prio,wayS last hd) else if t.prio=x5 then (if wayS last hd<x6 then (hd,t.prio,wayS last hd) else (x4,x5,x6)) else (x4,x5,x6)
   else (x4,x5,x6):=by unfold nextF; rw [getT_of e ht]
  simp only [SS,hb5.rd (o:=1) (v:=I last) rfl,hv.jl]
  by_cases e3:0<t.jobs.length
  ·rw [if_pos e3] at hr
   simp only [e3,decide_true,SS]
   refine k268 ?_
   simp only [SS,hb5.hc (o:=1) (v:=I last) rfl,rem_c (show (16:Int)≠0 by decide),b5.rd (o:=0) (v:=I v.prio) rfl,hv.prio]
   by_cases e4:x4=0
   ·rw [if_pos e4] at hr ⊢
    exact next _ (k25.drR _) _ _ _ (by rw [hr]; rfl)
   rw [if_neg e4] at hr ⊢
   by_cases e5:t.prio<x5
   ·rw [if_pos e5] at hr ⊢
    exact next _ (k25.drR _) _ _ _ (by rw [hr]; rfl)
   rw [if_neg e5] at hr ⊢
   by_cases e6:t.prio=x5
   ·rw [if_pos e6] at hr ⊢
    by_cases e7:wayS last hd<x6
    ·rw [if_pos e7] at hr
     rw [if_pos (by exact e7)]
     exact next _ (k25.drR _) _ _ _ (by rw [hr]; rfl)
    ·rw [if_neg e7] at hr
     rw [if_neg (by exact e7)]
     exact next _ (k25.drR _) _ _ _ (by rw [hr])
   ·rw [if_neg e6] at hr ⊢
    exact next _ (k25.drR _) _ _ _ (by rw [hr])
  ·rw [if_neg e3] at hr
   simp only [e3,decide_false,SS]
   exact next _ k25 _ _ _ (by rw [hr])
def giveL (S:Slots Tk) (last now:Int):Option (Int × Int × Int × Slots Tk):=if nextL S last=0 then none else match getT S 3 16 (nextL S last) with
 | none=>none
 | some (i,t)=>match runT t now with
  | .error _=>none
  | .ok (t',what,late)=>some (nextL S last,what,late,upd1 S i ((S i).1,some t'))
theorem run_none (now:Int):∃ e,runT (newTk 0) now=.error e:=by
 unfold runT newTk
 split
 ·exact ⟨_,rfl⟩
 ·split
  ·exact ⟨_,rfl⟩
  ·exact ⟨_,rfl⟩
theorem k341 {now:Int} (hl:PL w F C p S last) (h:match giveL S last now with
  | none=>∀ w',Kp No w w'→K (.tuple #[I 0,I 0,I 0,.bool false]) w'
  | some (x,what,late,S')=>∀ w',Kp (fun b=>F b∨b=p) w w'→PL w' (gr F w w') C p S' (slotH x)→K (.tuple #[I x,I what,I late,.bool true]) w'):Ct Tryz.prog 341 #[Pt p 0,I now] w K:=by
 refine c341 ?_
 unfold F341
 refine k382 hl fun w1 k1=>?_
 unfold giveL at h
 simp only [SS]
 by_cases e0:nextL S last=0
 ·rw [if_pos e0] at h ⊢
  exact h w1 k1
 rw [if_neg e0] at h ⊢
 have hl1:=hl.no k1
 obtain ⟨b,hb,hFp,hCp,hFs,hT⟩:=id hl1
 simp only [SS,hb.rd (o:=0) (v:=Pt b 0) rfl]
 have hltp:=hl.ltp
 have fin:∀ (v:TkV) (t:Tk) (i:Nat) w2,Kp No w1 w2→TkAt w2 v t→(∀ e,runT t now=.error e→∀ w',Kp No w w'→K (.tuple #[I 0,I 0,I 0,.bool false]) w') →
   (∀ t' what late,runT t now=.ok (t',what,late)→findS S 3 16 (nextL S last)=some i∧∀ w',Kp (fun b=>F b∨b=p) w w'→PL w' (gr F w w') C p (upd1 S i ((S i).1,some t')) (slotH (nextL S last))→K (.tuple #[I (nextL S last),I what,I late,.bool true]) w') →
   New (.cells zT.toArray 47) w2 fun x10 w3=>Sa 8 x10 v.cells.toArray w3 fun w4=>La 8 x10 w4 fun x32=>Ct Tryz.prog 344 #[.agg x32,I now] w4 fun v34 w5=>on4 v34 fun yv34_0 yv34_1 yv34_2 yv34_3=>onG yv34_0 fun xyv34_0=>onI yv34_1 fun xyv34_1=>onI yv34_2 fun xyv34_2=>Sa 8 x10 xyv34_0 w5 fun w6=>Nl yv34_3 fun x40=>Ifm (!x40) (K (.tuple #[.int .i64 0,.int .i64 0,.int .i64 0,.bool false]) w6) (onSome (some (Addr.mk p 0 none)) fun x42=>Lc (x42.add 0) w6.drew fun v44=>onP v44 fun x44=>La 8 x10 w6.drew fun x46=>Ct Tryz.prog 267 #[.pointer x44,I (nextL S last),.agg x46] w6.drew fun v47 w7=>Ct Tryz.prog 268 #[I (nextL S last)] w7 fun v50 w8=>onI v50 fun x50=>onSome (some (Addr.mk p 0 none)) fun x51=>Sc (x51.add 1) (.int .i64 x50) w8 fun w9=>K (.tuple #[I (nextL S last),I xyv34_1,I xyv34_2,.bool true]) w9):=by
  intro v t i w2 k2 hv he ho
  refine var_k (v:=v) fun w3 k3 b3 s3=>?_
  have k23:=k2.trans k3
  simp only [b3.la0 (n:=8) v.len]
  refine k344 (hv.kp k3 fun _ _=>id) ?_
  cases ep:runT t now with
  | error er =>
   intro w4 k4
   simp only [SS]
   have b4:Bk w4 w2.heap.size v.cells 47:=k4.bk b3 id
   refine sa_k (cs:=zT) b4 rfl (by simp [TkV.cells]) (by simp [zT,oneCell]) fun w5 k5 b5 s5=>?_
   exact he er ep w5 (((k1.trans k23).trans k4).own k5 (by have:=k1.size; have:=k2.size; omega))
  | ok r =>
   obtain ⟨t',what,late⟩:=r
   obtain ⟨ef,ho⟩:=ho t' what late ep
   intro v' w4 k4 hv' hF'
   simp only [SS]
   have b4:Bk w4 w2.heap.size v.cells 47:=k4.bk b3 id
   refine sa_k (cs:=v'.cells) b4 rfl (by simp [TkV.cells]) (by simpa using v'.one) fun w5 k5 b5 s5=>?_
   rw [over_all _ _ (show v.cells.length=v'.cells.length from rfl)] at b5
   have k15:Kp No w1 w5:=(k23.trans k4).own k5 (by have:=k2.size; omega)
   have hb5:Bk w5 p [Pt b 0,I last] 215:=k15.bk hb id
   have hv5:TkAt w5 v' t':=hv'.kp k5 fun y hy e=>by have:=hF' y hy; omega
   simp only [SS,hb5.rd (o:=0) (v:=Pt b 0) rfl,b5.la0 (n:=8) v'.len]
   refine pl_set hl (k1.trans k15) hb5 (hT.kp k15 (fun _ _=>id) fun _ _=>id) ef hv5 (fun a ha=>by have:=hF' a ha; have:=k1.size; have:=k23.size; omega) fun w6 k6 hl6=>?_
   refine k268 ?_
   simp only [SS]
   obtain ⟨b6,hb6,hF6,hC6,hs6,hT6⟩:=id hl6
   refine sc_k hb6 (by simp) rfl fun w7 k7 b7 s7=>?_
   refine ho w7 ((k6.mono fun _ _=>.inl).trans (k7.mono fun _ _=>.inr)) ⟨b6,b7,fun x=>?_,hC6,?_,?_⟩
   ·rcases x with x | x
    ·exact hF6 (.inl x)
    ·omega
   ·intro y hy
    rw [s7]
    rcases hy with (hy | hy) | hy
    ·exact hs6 y (.inl (.inl hy))
    ·exact hs6 y (.inl (.inr (by rw [s7] at hy; exact hy)))
    ·exact hs6 y (.inr hy)
   ·refine (hT6.mono (F':=gr F w w7) (C':=C) (fun y hy=>?_) fun _=>id).kp k7 (fun y hy e=>?_) (fun y hy e=>hC6 (e ▸ hy))
    ·rcases hy with hy | hy
     ·exact .inl hy
     ·exact .inr (by rw [s7]; exact hy)
    ·rcases hy with hy | hy
     ·exact hF6 (e ▸ .inl hy)
     ·omega
 refine tt_get hT (fun e w2 k2=>?_) (fun i t hi e ht v w2 k2 hv hF=>?_)
 ·rw [getT_no e] at h
  simp only [on2_eq,onG_eq]
  obtain ⟨er,her⟩:=run_none now
  have:=fin zTV (newTk 0) 0 w2 k2 (tkAt_new _ _) (fun _ _=>h) (fun t' what late ho=>by rw [her] at ho; cases ho)
  simp only [SS] at this ⊢
  exact this
 ·rw [getT_of e ht] at h
  have:=fin v t i w2 k2 hv (fun er her=>by simp only [her] at h; exact h) (fun t' what late ho=>⟨e,by simp only [ho] at h; exact h⟩)
  simp only [SS] at this ⊢
  exact this
end
end
section
open Sy
def F269_0B (R:Ko) (C0:Option Addr→Nat→Nat→Int→Option Addr→Nat→Nat→Int→Int→World→Prop) (a0:Option Addr) (l0 c0:Nat) (x3:Int) (a6:Option Addr) (l6 c6:Nat) (x7:Int) (x8:Int) (w:World):Prop:=Ifm (decide ((x8:Int)<x7)) (Ix a6 l6 x8 3 fun x11=>La 3 x11 w fun x12=>New (.cells (.agg #[.int .i64 0,.int .i64 0,.int .i64 0]:Value).cells 439) w fun x5 w1=>Sa 3 x5 x12 w1 fun w2=>Lc (x5.add 1) w2.drew fun v14=>onI v14 fun x14=>Ifm (decide ((x14:Int) > 0)) (Ifm (decide ((x3:Int)<0)) (C0 a0 l0 c0 x8 a6 l6 c6 x7 (IntKind.i64.wrap (x8+1)) w2.drew) (La 3 x5 w2.drew fun x20=>Ix a0 l0 x3 3 fun x23=>La 3 x23 w2.drew fun x24=>Ct Tryz.prog 339 #[.agg x20,.agg x24] w2.drew fun v25 w3=>onI v25 fun x25=>Ifm (decide ((x25:Int)<0)) (C0 a0 l0 c0 x8 a6 l6 c6 x7 (IntKind.i64.wrap (x8+1)) w3) (C0 a0 l0 c0 x3 a6 l6 c6 x7 (IntKind.i64.wrap (x8+1)) w3))) (C0 a0 l0 c0 x3 a6 l6 c6 x7 (IntKind.i64.wrap (x8+1)) w2.drew)) (R (.int .i64 x3) w)
def F269_0 (R:Ko) (a0:Option Addr) (l0 c0:Nat) (x3:Int) (a6:Option Addr) (l6 c6:Nat) (x7:Int) (x8:Int) (w:World):Prop:=∃ (Inv:Option Addr→Nat→Nat→Int→Option Addr→Nat→Nat→Int→Int→World→Prop) (μ:Option Addr→Nat→Nat→Int→Option Addr→Nat→Nat→Int→Int→World→Nat),Inv a0 l0 c0 x3 a6 l6 c6 x7 x8 w∧∀ a0 l0 c0 x3 a6 l6 c6 x7 x8 w,Inv a0 l0 c0 x3 a6 l6 c6 x7 x8 w→F269_0B R (fun a0' l0' c0' x3' a6' l6' c6' x7' x8' w'=>Inv a0' l0' c0' x3' a6' l6' c6' x7' x8' w'∧μ a0' l0' c0' x3' a6' l6' c6' x7' x8' w'<μ a0 l0 c0 x3 a6 l6 c6 x7 x8 w) a0 l0 c0 x3 a6 l6 c6 x7 x8 w
def F269 (R:Ko) (a0:Option Addr) (l0 c0:Nat) (w:World):Prop:=F269_0 R a0 l0 c0 (-1) a0 l0 c0 (l0:Nat) 0 w
noncomputable def b269:Code:=Tryz.f269.body.getD .skip
def q269_0:List Bool:=[false,true,false,true,true]
def L269_0 (F:Option Addr→Nat→Nat→Int→Option Addr→Nat→Nat→Int→Int→World→Prop):Env→World→Prop:=fun ρ w=>onL (ρ 0) fun a0 l0 c0=>onI (ρ 3) fun x3=>onL (ρ 6) fun a6 l6 c6=>onI (ρ 7) fun x7=>onI (ρ 8) fun x8=>F a0 l0 c0 x3 a6 l6 c6 x7 x8 w
abbrev T269 (z:Fr) (R:Ko) (p:List Bool) (ρ:Env) (w:World):Prop:=TW z Tryz.prog 32 (segTodo b269 p) (QR Tryz.prog [.tmp 2] R) ρ w
theorem s269_0 (R:Ko):∀ ρ w,(L269_0 (F269_0 R)) ρ w→T269 z0 R q269_0 ρ w:=by
 intro ρ w h
 obtain ⟨a0,l0,c0,e0,h⟩:=onL_of h
 obtain ⟨x3,e3,h⟩:=onI_of h
 obtain ⟨a6,l6,c6,e6,h⟩:=onL_of h
 obtain ⟨x7,e7,h⟩:=onI_of h
 obtain ⟨x8,e8,h⟩:=onI_of h
 obtain ⟨Inv,μ,hi,hb⟩:=h
 refine lpT (fun m=>L269_0 (fun a0 l0 c0 x3 a6 l6 c6 x7 x8 w=>Inv a0 l0 c0 x3 a6 l6 c6 x7 x8 w∧μ a0 l0 c0 x3 a6 l6 c6 x7 x8 w=m)) ?_ (μ a0 l0 c0 x3 a6 l6 c6 x7 x8 w) ρ w ?_
 ·intro m ρ w ih h
  obtain ⟨a0,l0,c0,e0,h⟩:=onL_of h
  obtain ⟨x3,e3,h⟩:=onI_of h
  obtain ⟨a6,l6,c6,e6,h⟩:=onL_of h
  obtain ⟨x7,e7,h⟩:=onI_of h
  obtain ⟨x8,e8,h⟩:=onI_of h
  obtain ⟨hv,hm⟩:=h
  subst hm
  have hh:=hb a0 l0 c0 x3 a6 l6 c6 x7 x8 w hv
  obtain ⟨C0,hC⟩:∃ C,C=fun a0' l0' c0' x3' a6' l6' c6' x7' x8' w'=>Inv a0' l0' c0' x3' a6' l6' c6' x7' x8' w'∧μ a0' l0' c0' x3' a6' l6' c6' x7' x8' w'<μ a0 l0 c0 x3 a6 l6 c6 x7 x8 w:=⟨_,rfl⟩
  rw [← hC] at hh
  have h0:∀ ρ w,(L269_0 C0) ρ w→T269 z0 R q269_0 ρ w:=by
   intro ρ' w' h'
   refine ih ρ' w' ?_
   obtain ⟨a0',l0',c0',e0',h'⟩:=onL_of h'
   obtain ⟨x3',e3',h'⟩:=onI_of h'
   obtain ⟨a6',l6',c6',e6',h'⟩:=onL_of h'
   obtain ⟨x7',e7',h'⟩:=onI_of h'
   obtain ⟨x8',e8',h'⟩:=onI_of h'
   rw [hC] at h'
   refine ⟨_,h'.2,?_⟩
   simp only [e0',e3',e6',e7',e8',L269_0,ons]
   exact ⟨h'.1,by trivial⟩
  rw [← upds_same (ρ:=ρ) [(0,.slice a0 l0 c0),(3,.int .i64 x3),(6,.slice a6 l6 c6),(7,.int .i64 x7),(8,.int .i64 x8)] (alc e0 (alc e3 (alc e6 (alc e7 (alc e8 aln)))))]
  exact sg (cuts:=[(q269_0,L269_0 C0)]) ⟨h0,trivial⟩ hh
 ·simp only [e0,e3,e6,e7,e8,L269_0,ons]
  exact ⟨hi,by trivial⟩
theorem c269 {R:Ko} {a0:Option Addr} {l0 c0:Nat} {w:World} (h:F269 R a0 l0 c0 w):Ct Tryz.prog 269 #[.slice a0 l0 c0] w R :=
 ctS (args:=[.slice a0 l0 c0]) (body:=b269) (n:=32) (rs:=[.tmp 2]) Tryz.func269
  (sg (cuts:=[(q269_0,L269_0 (F269_0 R))]) ⟨s269_0 R,trivial⟩ h)
def F339 (R:Ko) (x0:Array Value) (x1:Array Value) (w:World):Prop:=New (.cells (.agg x0:Value).cells 439) w fun x2 w1=>New (.cells (.agg x1:Value).cells 439) w1 fun x3 w2=>Lc (x2.add 2) w2.drew fun v6=>onI v6 fun x6=>Lc (x3.add 2) w2.drew fun v8=>onI v8 fun x8=>Lc (x2.add 0) w2.drew fun v11=>onI v11 fun x11=>Lc (x3.add 0) w2.drew fun v13=>onI v13 fun x13=>Ct Tryz.prog 381 #[.int .i64 x6,.int .i64 x8] w2.drew fun v9 w3=>onI v9 fun x9=>Hc (x3.add 0) (.int .i64 x13) w3∧Hc (x2.add 0) (.int .i64 x11) w3∧Ct Tryz.prog 381 #[.int .i64 x11,.int .i64 x13] w3 fun v14 w4=>onI v14 fun x14=>Rv Tryz.prog (Instr.buildSlice 63 2 #[(0,.int .i64 x9),(1,.int .i64 x14)]) w4 fun v15 w5=>onL v15 fun a15 l15 c15=>Ct Tryz.prog 380 #[.slice a15 l15 c15] w5 fun v16 w6=>onI v16 fun x16=>R (.int .i64 x16) w6
noncomputable def b339:Code:=Tryz.f339.body.getD .skip
theorem c339 {R:Ko} {x0:Array Value} {x1:Array Value} {w:World} (h:F339 R x0 x1 w):Ct Tryz.prog 339 #[.agg x0,.agg x1] w R :=
 ctS (args:=[.agg x0,.agg x1]) (body:=b339) (n:=17) (rs:=[.tmp 4]) Tryz.func339
  (sg (cuts:=[]) trivial h)
def F380_0B (R:Ko) (C0:Int→Option Addr→Nat→Nat→Int→Int→World→Prop) (x3:Int) (a6:Option Addr) (l6 c6:Nat) (x7:Int) (x8:Int) (w:World):Prop:=Ifm (decide ((x8:Int)<x7)) (Ix a6 l6 x8 1 fun x10=>Lc x10 w fun v11=>onI v11 fun x11=>Ifm ((x11:Int) != x3) (R (.int .i64 x11) w) (C0 x3 a6 l6 c6 x7 (IntKind.i64.wrap (x8+1)) w)) (R (.int .i64 x3) w)
def F380_0 (R:Ko) (x3:Int) (a6:Option Addr) (l6 c6:Nat) (x7:Int) (x8:Int) (w:World):Prop:=∃ (Inv:Int→Option Addr→Nat→Nat→Int→Int→World→Prop) (μ:Int→Option Addr→Nat→Nat→Int→Int→World→Nat),Inv x3 a6 l6 c6 x7 x8 w∧∀ x3 a6 l6 c6 x7 x8 w,Inv x3 a6 l6 c6 x7 x8 w→F380_0B R (fun x3' a6' l6' c6' x7' x8' w'=>Inv x3' a6' l6' c6' x7' x8' w'∧μ x3' a6' l6' c6' x7' x8' w'<μ x3 a6 l6 c6 x7 x8 w) x3 a6 l6 c6 x7 x8 w
def F380 (R:Ko) (a0:Option Addr) (l0 c0:Nat) (w:World):Prop:=F380_0 R 0 a0 l0 c0 (l0:Nat) 0 w
noncomputable def b380:Code:=Tryz.f380.body.getD .skip
def q380_0:List Bool:=[false,true,false,true,true]
def L380_0 (F:Int→Option Addr→Nat→Nat→Int→Int→World→Prop):Env→World→Prop:=fun ρ w=>onI (ρ 3) fun x3=>onL (ρ 6) fun a6 l6 c6=>onI (ρ 7) fun x7=>onI (ρ 8) fun x8=>F x3 a6 l6 c6 x7 x8 w
abbrev T380 (z:Fr) (R:Ko) (p:List Bool) (ρ:Env) (w:World):Prop:=TW z Tryz.prog 18 (segTodo b380 p) (QR Tryz.prog [.tmp 2] R) ρ w
theorem s380_0 (R:Ko):∀ ρ w,(L380_0 (F380_0 R)) ρ w→T380 z0 R q380_0 ρ w:=by
 intro ρ w h
 obtain ⟨x3,e3,h⟩:=onI_of h
 obtain ⟨a6,l6,c6,e6,h⟩:=onL_of h
 obtain ⟨x7,e7,h⟩:=onI_of h
 obtain ⟨x8,e8,h⟩:=onI_of h
 obtain ⟨Inv,μ,hi,hb⟩:=h
 refine lpT (fun m=>L380_0 (fun x3 a6 l6 c6 x7 x8 w=>Inv x3 a6 l6 c6 x7 x8 w∧μ x3 a6 l6 c6 x7 x8 w=m)) ?_ (μ x3 a6 l6 c6 x7 x8 w) ρ w ?_
 ·intro m ρ w ih h
  obtain ⟨x3,e3,h⟩:=onI_of h
  obtain ⟨a6,l6,c6,e6,h⟩:=onL_of h
  obtain ⟨x7,e7,h⟩:=onI_of h
  obtain ⟨x8,e8,h⟩:=onI_of h
  obtain ⟨hv,hm⟩:=h
  subst hm
  have hh:=hb x3 a6 l6 c6 x7 x8 w hv
  obtain ⟨C0,hC⟩:∃ C,C=fun x3' a6' l6' c6' x7' x8' w'=>Inv x3' a6' l6' c6' x7' x8' w'∧μ x3' a6' l6' c6' x7' x8' w'<μ x3 a6 l6 c6 x7 x8 w:=⟨_,rfl⟩
  rw [← hC] at hh
  have h0:∀ ρ w,(L380_0 C0) ρ w→T380 z0 R q380_0 ρ w:=by
   intro ρ' w' h'
   refine ih ρ' w' ?_
   obtain ⟨x3',e3',h'⟩:=onI_of h'
   obtain ⟨a6',l6',c6',e6',h'⟩:=onL_of h'
   obtain ⟨x7',e7',h'⟩:=onI_of h'
   obtain ⟨x8',e8',h'⟩:=onI_of h'
   rw [hC] at h'
   refine ⟨_,h'.2,?_⟩
   simp only [e3',e6',e7',e8',L380_0,ons]
   exact ⟨h'.1,by trivial⟩
  rw [← upds_same (ρ:=ρ) [(3,.int .i64 x3),(6,.slice a6 l6 c6),(7,.int .i64 x7),(8,.int .i64 x8)] (alc e3 (alc e6 (alc e7 (alc e8 aln))))]
  exact sg (cuts:=[(q380_0,L380_0 C0)]) ⟨h0,trivial⟩ hh
 ·simp only [e3,e6,e7,e8,L380_0,ons]
  exact ⟨hi,by trivial⟩
theorem c380 {R:Ko} {a0:Option Addr} {l0 c0:Nat} {w:World} (h:F380 R a0 l0 c0 w):Ct Tryz.prog 380 #[.slice a0 l0 c0] w R :=
 ctS (args:=[.slice a0 l0 c0]) (body:=b380) (n:=18) (rs:=[.tmp 2]) Tryz.func380
  (sg (cuts:=[(q380_0,L380_0 (F380_0 R))]) ⟨s380_0 R,trivial⟩ h)
def F381 (R:Ko) (x0:Int) (x1:Int) (w:World):Prop:=Ct Tryz.prog 396 #[.int .i64 x0] w fun v8 w1=>onB v8 fun x8=>Ct Tryz.prog 396 #[.int .i64 x1] w1 fun v10 w2=>onB v10 fun x10=>Ifm x8 (Ifm x10 (R (.int .i64 0) w2) (R (.int .i64 (-1)) w2)) (Ifm x10 (R (.int .i64 1) w2) (Ifm (decide ((x0:Int)<x1)) (R (.int .i64 (-1)) w2) (Ifm (decide ((x0:Int) > x1)) (R (.int .i64 1) w2) (R (.int .i64 0) w2))))
noncomputable def b381:Code:=Tryz.f381.body.getD .skip
theorem c381 {R:Ko} {x0:Int} {x1:Int} {w:World} (h:F381 R x0 x1 w):Ct Tryz.prog 381 #[.int .i64 x0,.int .i64 x1] w R :=
 ctS (args:=[.int .i64 x0,.int .i64 x1]) (body:=b381) (n:=20) (rs:=[.tmp 4]) Tryz.func381
  (sg (cuts:=[]) trivial h)
def F396 (R:Ko) (x0:Int) (w:World):Prop:=R (.bool ((x0:Int) != x0)) w
noncomputable def b396:Code:=Tryz.f396.body.getD .skip
theorem c396 {R:Ko} {x0:Int} {w:World} (h:F396 R x0 w):Ct Tryz.prog 396 #[.int .i64 x0] w R :=
 ctS (args:=[.int .i64 x0]) (body:=b396) (n:=6) (rs:=[.tmp 2]) Tryz.func396
  (sg (cuts:=[]) trivial h)
variable {K:Ko} {w:World}
def nowB (b:Bg):Int × Int:=if b.xq=0∧b.xp=0 then (b.nq,b.np) else (b.xq,b.xp)
def crossR (b:Bg) (at_:Int):Except Int Bg:=if at_=b.en then (if at_ > 1073741824 then .error 60 else if b.dy=true then .ok zB else
 .ok ⟨(nowB b).1,(nowB b).2,0,0,false,(nowB b).1,at_,IntKind.i64.wrap (at_+(nowB b).2)⟩) else .error 1
def goneB (b:Bg) (at_:Int):Bool:=validBg b && decide (at_=b.en) && !decide (at_ > 1073741824) && b.dy
def crossB (b:Bg) (at_:Int):Except Int Bg:=if validBg b=true then crossR b at_ else .error 270
theorem p347_0 {x y:Nat} {b:Bg} {at_:Int} (hb:Bk w x b.cells 120) (ha:Bk w y [I at_] 3) (h:∀ w',Kp (·=x) w w'→Bk w' x (Bg.mk b.nq b.np 0 0 false b.nq at_ (IntKind.i64.wrap (at_+b.np))).cells 120→K .nilIface w'):F347_0 K (some ⟨x,0,none⟩) ⟨y,0,none⟩ w:=by
 unfold F347_0
 have la0:∀ k,La 2 ⟨x,0,none⟩ w k=k #[I b.nq,I b.np]:=fun k=>by rw [hb.la (by simp [Bg.cells])]; rfl
 simp only [SS,la0,hb.rd (o:=0) (v:=I b.nq) rfl,hb.rd (o:=1) (v:=I b.np) rfl,ha.rd (o:=0) (v:=I at_) rfl,bld120]
 refine sa_k (cs:=(Bg.mk b.nq b.np 0 0 false b.nq at_ (IntKind.i64.wrap (at_+b.np))).cells) hb rfl (by simp [Bg.cells]) (Bg.one _) fun w1 k1 b1 s1=>?_
 rw [over_all _ _ (by rfl)] at b1
 exact h _ (k1.drR _) b1
theorem k278 {b:Bg} {at_:Int} (h:match crossB b at_ with
  | .error e=>∀ w',Kp No w w'→K (.tuple #[.agg zB.cells.toArray,.bool (goneB b at_),Er e]) w'
  | .ok b'=>∀ w',Kp No w w'→K (.tuple #[.agg b'.cells.toArray,.bool (goneB b at_),.nilIface]) w'):Ct Tryz.prog 278 #[.agg b.cells.toArray,I at_] w K:=by
 refine c278 ?_
 unfold F278
 refine new_k b.cells fun w1 k1 b1 s1=>?_
 refine new_k [I at_] fun w2 k2 a2 s2=>?_
 refine new_k zB.cells fun w3 k3 z3 s3=>?_
 refine new_k [.bool false] fun w4 k4 g4 s4=>?_
 refine sc_k g4 (by simp) rfl fun w5 k5 g5 s5=>?_
 have b5:Bk w5 w.heap.size b.cells 120:=k5.bk (k4.bk (k3.bk (k2.bk b1 id) id) id) (by omega)
 have a5:Bk w5 w1.heap.size [I at_] 3:=k5.bk (k4.bk (k3.bk a2 id) id) (by omega)
 have z5:Bk w5 w2.heap.size zB.cells 120:=k5.bk (k4.bk z3 id) (by omega)
 have k05:Kp No w w5:=(((k1.trans k2).trans k3).trans k4).own k5 (by omega)
 have g5:Bk w5 w3.heap.size [.bool false] 4:=g5
 simp only [b5.la0 (n:=8) b.len]
 have fin:∀ (w6:World) (c:Bg) (v:Value),Kp (·=w3.heap.size) w5 w6→Bk w6 w3.heap.size [.bool (goneB b at_)] 4→(∀ w',Kp No w w'→K (.tuple #[.agg c.cells.toArray,.bool (goneB b at_),v]) w') →
   New (.cells zB.cells.toArray 120) w6 fun x8 w7=>Sa 8 x8 c.cells.toArray w7 fun w8=>La 8 x8 w8.drew fun x16=>Lc ⟨w3.heap.size,0,none⟩ w8.drew fun v17=>onB v17 fun x17=>Sa 8 ⟨w2.heap.size,0,none⟩ x16 w8.drew fun w9=>Hc ⟨w3.heap.size,0,none⟩ (.bool x17) w9∧Rd Tryz.prog (Instr.loadAt 120 (.pointer (some ⟨w2.heap.size,0,none⟩))) w9 fun r0=>K (.tuple #[r0,.bool x17,v]) w9:=by
  intro w6 c v k6 g6 hK
  refine new_k zB.cells fun w7 k7 b7 s7=>?_
  have s6:=k6.size
  refine sa_k (cs:=c.cells) b7 rfl (by decide) (Bg.one _) fun w8 k8 b8 s8=>?_
  rw [over_all _ _ (by rfl)] at b8
  have g8:Bk w8 w3.heap.size [.bool (goneB b at_)] 4:=k8.bk (k7.bk g6 id) (by omega)
  have z8:Bk w8 w2.heap.size zB.cells 120:=k8.bk (k7.bk (k6.bk z5 (by omega)) id) (by omega)
  have k08:Kp No w w8:=((k05.own k6 (by omega)).trans k7).own k8 (by omega)
  simp only [SS,b8.la0 (n:=8) c.len,g8.rd (o:=0) (v:=.bool (goneB b at_)) rfl]
  refine sa_k (cs:=c.cells) z8 rfl (by decide) (Bg.one _) fun w9 k9 b9 s9=>?_
  rw [over_all _ _ (by rfl)] at b9
  have g9:Bk w9 w3.heap.size [.bool (goneB b at_)] 4:=k9.bk g8 (by omega)
  refine ⟨by rw [g9.hc (o:=0) (v:=.bool (goneB b at_)) rfl]; trivial,?_⟩
  have b9':Bk (dr w9 (w8.drawn+1)) w2.heap.size c.cells 120:=b9
  rw [res_ag ld120 b9' c.len]
  exact hK _ ((k08.own k9 (by omega)).drR _)
 refine k263 (R:=crossR b at_) (·=w3.heap.size) (fun w'=>Bk w' w3.heap.size [.bool (goneB b at_)] 4) (fun x hx=>by omega) (fun a c y q k hy=>k.bk q (by omega)) (fun hi w' k=>by
   have:goneB b at_=false:=by unfold goneB; rw [hi]; rfl
   rw [this]; exact k.bk g5 id) (by kernel_rfl) (fun hv x w6 k6 hx b6 K' hK'=>?_) ?_
 ·refine c347 ?_
  unfold F347
  have a6:Bk w6 w1.heap.size [I at_] 3:=k6.bk a5 id
  have g6:Bk w6 w3.heap.size [.bool false] 4:=k6.bk g5 id
  simp only [SS,a6.rd (o:=0) (v:=I at_) rfl,b6.rd (o:=7) (v:=I b.en) rfl]
  unfold crossR at hK'
  have hg:goneB b at_=(decide (at_=b.en) && !decide (at_ > 1073741824) && b.dy):=by unfold goneB; rw [hv]; simp
  rw [hg] at hK'
  by_cases e1:at_=b.en
  case neg=>rw [if_neg e1] at hK' ⊢; exact hK' _ (Kp.dr _ _ _) (by rw [decide_eq_false e1]; exact g6)
  rw [if_pos e1] at hK' ⊢
  rw [decide_eq_true e1] at hK'
  by_cases e2:at_ > 1073741824
  ·rw [if_pos e2] at hK' ⊢; exact hK' _ (Kp.dr _ _ _) (by rw [decide_eq_true e2]; exact g6)
  rw [if_neg e2] at hK' ⊢
  rw [decide_eq_false e2] at hK'
  simp only [SS,b6.rd (o:=4) (v:=.bool b.dy) rfl]
  cases e3:b.dy with
  | true =>
   rw [if_pos e3,e3] at hK'
   simp only [SS]
   refine sc_k g6 (by simp) rfl fun w7 k7 g7 s7=>?_
   have b7:Bk w7 x b.cells 120:=k7.bk b6 (by omega)
   have g7:Bk w7 w3.heap.size [.bool true] 4:=g7
   refine sa_k (cs:=zB.cells) b7 rfl (by simp [Bg.cells]) (Bg.one _) fun w8 k8 b8 s8=>?_
   rw [over_all _ _ (by rfl)] at b8
   exact hK' _ (((k7.mono fun _ _ e=>.inr e).trans (k8.mono fun _ _ e=>.inl e)).drR _) (k8.bk g7 (by omega)) b8
  | false =>
   rw [if_neg (by simp [e3]),e3] at hK'
   have la2:∀ k,La 2 ⟨x,2,none⟩ w6 k=k #[I b.xq,I b.xp]:=fun k=>by rw [b6.la (by simp [Bg.cells])]; rfl
   simp only [SS,la2,ne35]
   have hxa:x≠w1.heap.size:=by omega
   by_cases e4:b.xq=0∧b.xp=0
   ·have hn:nowB b=(b.nq,b.np):=by unfold nowB; rw [if_pos e4]
    rw [hn] at hK'
    simp only [e4,and_self,decide_true,SS]
    exact p347_0 (w:=dr w6 _) b6 a6 fun w7 k7 b7=>hK' _ ((k7.mono fun _ _ e=>.inl e).drL) (k7.bk g6 (by omega)) b7
   ·have hn:nowB b=(b.xq,b.xp):=by unfold nowB; rw [if_neg e4]
    rw [hn] at hK'
    simp only [e4,decide_false,SS,la2]
    refine sa_k (cs:=[I b.xq,I b.xp]) b6 rfl (by simp [Bg.cells]) (by simp [oneCell]) fun w7 k7 b7 s7=>?_
    have b7:Bk w7 x { b with nq:=b.xq,np:=b.xp }.cells 120:=b7
    exact p347_0 (w:=dr w7 _) (b:={ b with nq:=b.xq,np:=b.xp }) b7 (k7.bk a6 fun e=>hxa e.symm) fun w8 k8 b8=>hK' _ ((k7.mono fun _ _ e=>.inl e).trans ((k8.mono fun _ _ e=>.inl e).drL)) (k8.bk (k7.bk g6 (by omega)) (by omega)) b8
 ·unfold crossB at h
  cases eR:(if validBg b=true then crossR b at_ else .error 270) with
  | error e =>
   rw [eR] at h
   intro w6 k6 g6
   simp only [SS]
   have:=fin w6 zB (Er e) k6 g6 h
   simp only [SS] at this
   exact this
  | ok b' =>
   rw [eR] at h
   intro w6 k6 g6
   simp only [SS]
   have:=fin w6 b' .nilIface k6 g6 h
   simp only [SS] at this
   exact this
theorem bs_flat {t e:Nat} {i:TypeInfo} {z:Value} (E:Elem Tryz.prog t e 1 i z) (vs:List Value) (hv:∀ v∈vs,v.cells=#[v]) (h0:0<vs.length) (hn:vs.length<65536) {parts:Array (Nat × Value)} (hp:parts.toList=(vs.zipIdx 0).map fun x=>(x.2,x.1)) {k:Ko}
  (h:∀ w',Kp No w w'→w'.ownsRow w.heap.size e 1 (.slice (some ⟨w.heap.size,0,none⟩) vs.length vs.length) vs.length vs→k (.slice (some ⟨w.heap.size,0,none⟩) vs.length vs.length) w'):Rv Tryz.prog (Instr.buildSlice t vs.length parts) w k:=by
 have hr:=run_buildSlice (P:=Tryz.prog) w t e vs.length parts vs.toArray i z E.ht E.hi E.hz (by rw [E.hs]; omega) (by rw [E.hs]; omega) (by
  rw [hp,E.hs]
  exact Great.fill_flat vs _ hv (by simp))
 refine ⟨_,_,hr,h _ (Kp.alloc _ _ _) ?_⟩
 have:=World.ownsRow_lit (base:=w.heap.size) (e:=e) (size:=1) w vs.toArray vs.length (Nat.le_refl _) (by simp [maxLen]; omega) (by simp)
 simpa using this
theorem e63:∃ i z,Elem Tryz.prog 63 3 1 i z:=elemB_of (by kernel_rfl)
def cmpI (a b:Int):Int:=if a<b then -1 else if b<a then 1 else 0
theorem k381 {a b:Int} (h:K (I (cmpI a b)) w):Ct Tryz.prog 381 #[I a,I b] w K:=by
 refine c381 ?_
 unfold F381
 refine c396 ?_
 unfold F396
 simp only [SS]
 refine c396 ?_
 unfold F396
 unfold cmpI at h
 simp only [show (b != b)=false by simp,SS]
 split
 ·rename_i e; rw [if_pos e] at h; exact h
 ·rename_i e
  rw [if_neg e] at h
  split
  ·rename_i e2; rw [if_pos e2] at h; exact h
  ·rename_i e2; rw [if_neg e2] at h; exact h
def orL:List Int→Int
 | []=>0
 | x :: l=>if x=0 then orL l else x
theorem k380 {B l c:Nat} {a:Option Addr} {xs:List Int} (hl:xs.length<1000000) (ho:w.ownsRow B 3 1 (.slice a l c) xs.length (xs.map I)) (h:K (I (orL xs)) w):Ct Tryz.prog 380 #[.slice a l c] w K:=by
 refine c380 ?_
 unfold F380
 have hlen:l=xs.length:=by
  rcases own_bk ho with ⟨_,h1,_,h2,_⟩ | ⟨_,_,_,h1,_⟩
  ·omega
  ·exact h1
 unfold F380_0
 refine ⟨fun x3 a6 l6 c6 x7 x8 w'=>x3=0∧a=a6∧l=l6∧c=c6∧x7=l∧w=w'∧∃ i:Nat,x8=i∧i≤xs.length∧orL xs=orL (xs.drop i),fun _ _ _ _ _ x8 _=>xs.length - x8.toNat,⟨rfl,rfl,rfl,rfl,rfl,rfl,0,rfl,Nat.zero_le _,rfl⟩,?_⟩
 rintro _ _ _ _ _ _ _ ⟨rfl,rfl,rfl,rfl,rfl,rfl,i,rfl,hi,hx⟩
 unfold F380_0B
 simp only [SS]
 by_cases e1:i<l
 case neg =>
  rw [if_neg (by omega)]
  rw [hx,List.drop_eq_nil_of_le (by omega)] at h
  exact h
 rw [if_pos (by omega)]
 have hi':i<xs.length:=by omega
 rcases own_bk ho with ⟨_,h1,_,h2,_⟩ | ⟨g,cur,rfl,rfl,_⟩
 ·omega
 have lc:=own_lc ho (o:=i*1) (v:=I xs[i]) (by omega) (by simp [hi'])
 simp only [SS,Ix_c hi',lc]
 rw [List.drop_eq_getElem_cons hi'] at hx
 by_cases e2:xs[i]=0
 ·rw [if_pos e2,cast_succ _ (by omega)]
  refine ⟨⟨i+1,rfl,by omega,?_⟩,by simp; omega⟩
  rw [hx,orL,if_pos e2]
 ·rw [if_neg e2]
  rw [hx,orL,if_neg e2] at h
  exact h
structure Ch where
 s:Int
 l:Int
 e:Int
def Ch.cells (c:Ch):List Value:=[I c.s,I c.l,I c.e]
def zCh:Ch:=⟨0,0,0⟩
theorem Ch.one (c:Ch):∀ v∈c.cells,oneCell v=true:=by simp [Ch.cells,oneCell]
def chC (l:List Ch) (i:Nat):List Value:=(l.getD i zCh).cells
def orderC (a b:Ch):Int:=orL [cmpI a.e b.e,cmpI a.s b.s]
theorem k339 {a b:Ch} (h:∀ w',Kp No w w'→K (I (orderC a b)) w'):Ct Tryz.prog 339 #[.agg a.cells.toArray,.agg b.cells.toArray] w K:=by
 refine c339 ?_
 unfold F339
 refine new_k a.cells fun w1 k1 a1 s1=>?_
 refine new_k b.cells fun w2 k2 b2 s2=>?_
 have a2:Bk w2 w.heap.size a.cells 439:=k2.bk a1 id
 simp only [SS,a2.rd (o:=2) (v:=I a.e) rfl,b2.rd (o:=2) (v:=I b.e) rfl,a2.rd (o:=0) (v:=I a.s) rfl,b2.rd (o:=0) (v:=I b.s) rfl]
 refine k381 ?_
 simp only [SS,a2.hc (o:=0) (v:=I a.s) rfl,b2.hc (o:=0) (v:=I b.s) rfl]
 refine k381 ?_
 simp only [SS]
 obtain ⟨i,z,E⟩:=e63
 refine bs_flat E [I (cmpI a.e b.e),I (cmpI a.s b.s)] (by simp [Value.cells]) (by simp) (by simp) rfl fun w3 k3 ho3=>?_
 simp only [SS]
 refine k380 (xs:=[cmpI a.e b.e,cmpI a.s b.s]) (by simp) ho3 ?_
 simp only [SS]
 exact h w3 ((k1.trans k2).trans k3.drL)
def pickF (l:List Ch) (best:Int) (i:Nat):Int:=if 0<(l.getD i zCh).l then (if best<0 then (i:Int) else if orderC (l.getD i zCh) (l.getD best.toNat zCh)<0 then (i:Int) else best) else best
def pickL (l:List Ch):Int:=(List.range l.length).foldl (pickF l) (-1)
theorem pick_lt (l:List Ch):∀ n,(List.range n).foldl (pickF l) (-1)<n ∧ -1≤(List.range n).foldl (pickF l) (-1):=by
 intro n
 induction n with
 | zero=>simp
 | succ n ih =>
  rw [List.range_succ,List.foldl_append]
  simp only [List.foldl_cons,List.foldl_nil]
  generalize (List.range n).foldl (pickF l) (-1)=m at ih ⊢
  unfold pickF
  split
  ·split
   ·omega
   ·split <;> omega
  ·omega
theorem ch_la {B l c:Nat} {a:Option Addr} {cs:List Ch} (h:w.ownsRow B 439 3 (.slice a l c) cs.length (Flat (chC cs) cs.length)) {i:Nat} (hi:i<cs.length):∃ g,a=some ⟨g,0,none⟩∧∀ k,La 3 ⟨g,i*3,none⟩ w k=k (cs.getD i zCh).cells.toArray:=by
 rcases own_bk h with ⟨_,_,_,h1,_⟩ | ⟨g,cur,rfl,rfl,_⟩
 ·omega
 ·refine ⟨g,rfl,fun k=>?_⟩
  have la:=own_la h (o:=i*3) (m:=3) (by omega) k
  have hp:=Flat_part (f:=chC cs) (n:=cs.length) (sz:=3) (fun _=>rfl) (i:=i) (j:=0) (m:=3) hi (by omega)
  rw [Nat.add_zero] at hp
  rw [hp,List.drop_zero,List.take_of_length_le (by simp [chC,Ch.cells])] at la
  exact la
theorem k269 {B l c:Nat} {a:Option Addr} {cs:List Ch} (hl:cs.length<1000000) (ho:w.ownsRow B 439 3 (.slice a l c) cs.length (Flat (chC cs) cs.length)) (h:∀ w',Kp No w w'→K (I (pickL cs)) w'):Ct Tryz.prog 269 #[.slice a l c] w K:=by
 refine c269 ?_
 unfold F269
 have hlen:l=cs.length:=by
  rcases own_bk ho with ⟨_,h1,_,h2,_⟩ | ⟨_,_,_,h1,_⟩
  ·omega
  ·exact h1
 unfold F269_0
 refine ⟨fun a0 l0 c0 x3 a6 l6 c6 x7 x8 w'=>a=a0∧l=l0∧c=c0∧a=a6∧l=l6∧c=c6∧x7=l∧Kp No w w'∧∃ i:Nat,x8=i∧i≤cs.length∧x3=(List.range i).foldl (pickF cs) (-1),fun _ _ _ _ _ _ _ _ x8 _=>cs.length - x8.toNat,
  ⟨rfl,rfl,rfl,rfl,rfl,rfl,rfl,Kp.refl _ _,0,rfl,Nat.zero_le _,rfl⟩,?_⟩
 rintro _ _ _ x3 _ _ _ _ _ w1 ⟨rfl,rfl,rfl,rfl,rfl,rfl,rfl,k1,i,rfl,hi,hx⟩
 unfold F269_0B
 simp only [SS]
 by_cases e1:i<l
 case neg =>
  rw [if_neg (by omega)]
  have hh:=h w1 k1
  unfold pickL at hh
  rw [show cs.length=i by omega,← hx] at hh
  exact hh
 rw [if_pos (by omega)]
 have hi':i<cs.length:=by omega
 have ho1:=own_kp ho k1 fun _ _=>id
 obtain ⟨g,rfl,la⟩:=ch_la ho1 hi'
 simp only [SS,Ix_c e1,la]
 obtain ⟨ci,hci⟩:∃ y,y=cs.getD i zCh:=⟨_,rfl⟩
 rw [← hci]
 have hp:=pick_lt cs i
 rw [← hx] at hp
 have hstep:(List.range (i+1)).foldl (pickF cs) (-1)=pickF cs x3 i:=by rw [List.range_succ,List.foldl_append,← hx]; rfl
 have next:∀ w3,Kp No w1 w3→∀ y,y=pickF cs x3 i→(Kp No w w3∧∃ j:Nat,IntKind.i64.wrap ((i:Int)+1)=j∧j≤cs.length∧y=(List.range j).foldl (pickF cs) (-1))∧cs.length - (IntKind.i64.wrap ((i:Int)+1)).toNat<cs.length - i:=by
  intro w3 k3 y hy
  rw [cast_succ _ (by omega)]
  exact ⟨⟨k1.trans k3,i+1,rfl,by omega,by rw [hstep]; exact hy⟩,by simp; omega⟩
 unfold pickF at next
 rw [← hci] at next
 refine new_k zCh.cells fun w2 k2 b2 s2=>?_
 refine sa_k (cs:=ci.cells) b2 rfl (by decide) (Ch.one _) fun w3 k3 b3 s3=>?_
 rw [over_all _ _ (by rfl)] at b3
 have k13:Kp No w1 w3:=k2.own k3 (Nat.le_refl _)
 simp only [SS,b3.rd (o:=1) (v:=I ci.l) rfl]
 by_cases e2:ci.l > 0
 case neg =>
  rw [if_neg e2]
  exact next _ (k13.drR _) _ (by rw [if_neg e2])
 rw [if_pos e2]
 by_cases e3:x3<0
 ·rw [if_pos e3]
  exact next _ (k13.drR _) _ (by rw [if_pos e2,if_pos e3])
 rw [if_neg e3]
 obtain ⟨m,rfl⟩:∃ m:Nat,x3=m:=⟨x3.toNat,by omega⟩
 have ho3:=own_kp ho1 k13 fun _ _=>id
 obtain ⟨g',hg',lam⟩:=ch_la ho3 (i:=m) (by omega)
 injection hg' with hg'; injection hg' with hg'; subst hg'
 simp only [SS,b3.la0 (n:=3) rfl,Ix_c (show m<l by omega),lam]
 refine k339 fun w4 k4=>?_
 simp only [SS]
 have k14:=k13.trans k4.drL
 by_cases e4:orderC ci (cs.getD m zCh)<0
 ·rw [if_pos e4]
  exact next _ k14 _ (by rw [if_pos e2,if_neg e3,Int.toNat_natCast,if_pos e4])
 ·rw [if_neg e4]
  exact next _ k14 _ (by rw [if_pos e2,if_neg e3,Int.toNat_natCast,if_neg e4])
end
end Go.Proofs.YtbgbidpecmepmaaGreatDoor
