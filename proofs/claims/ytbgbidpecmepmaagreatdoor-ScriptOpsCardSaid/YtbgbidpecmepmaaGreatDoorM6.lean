/-
  Tables of slots: of nodes, of tasks.
-/
import Derived.Test.YtbgbidpecmepmaaGreatDoorM4
import Derived.Test.YtbgbidpecmepmaaGreatDoorM5
set_option maxRecDepth 100000
namespace Go.Proofs.YtbgbidpecmepmaaGreatDoor
section
open Sy
variable {K:Ko} {w:World}
theorem Ix_c {L n i sz:Nat} (hi:i<n) (k:Addr→Prop):Ix (some ⟨L,0,none⟩) n (i:Int) sz k=k ⟨L,i*sz,none⟩:=by
 simp only [Ix,onSome,add_eq,Int.toNat_natCast,Nat.zero_add,eq_iff_iff]
 constructor
 ·exact fun h=>h.2.2
 ·exact fun h=>⟨by omega,by omega,h⟩
def findS {α:Type} (S:Slots α) (kind:Int) (n:Nat) (h:Int):Option Nat :=
 if kindH h=kind∧0≤slotH h∧slotH h<n∧(S (slotH h).toNat).2.isSome=true∧(S (slotH h).toNat).1=genH h then some (slotH h).toNat else none
def openS {α:Type} (S:Slots α) (i:Nat):Bool := !(S i).2.isSome && decide ((S i).1≤1023)
def freeS {α:Type} (S:Slots α) (n:Nat):Option Nat:=(List.range n).find? (openS S)
def nameS (kind:Int) (i:Nat) (g:Int):Int:=if okH kind i g=true then mkH kind i g else 0
theorem freeS_none {α:Type} {S:Slots α} {n:Nat}:freeS S n=none↔∀ k,k<n→openS S k=false:=by
 unfold freeS; rw [List.find?_eq_none]; simp
theorem freeS_some {α:Type} {S:Slots α} {n i:Nat}:freeS S n=some i↔i<n∧openS S i=true∧∀ k,k<i→openS S k=false:=by
 unfold freeS
 rw [List.find?_range_eq_some]
 constructor
 ·rintro ⟨h1,h2,h3⟩; exact ⟨by simpa using h2,h1,fun k hk=>by simpa using h3 k hk⟩
 ·rintro ⟨h1,h2,h3⟩; exact ⟨h2,by simpa using h1,fun k hk=>by simpa using h3 k hk⟩
def ptC (p:Option Addr):List Value:=[.pointer p]
structure Ac where
 g:Int
 o:Int
 l:Int
 d:Int
 c:Int
 t:Int
structure TkV where
 prio:Int
 ja:Option Addr
 jl:Nat
 jc:Nat
 acc:Ac
def Ac.cells (a:Ac):List Value:=[I a.g,I a.o,I a.l,I a.d,I a.c,I a.t]
def TkV.cells (t:TkV):List Value:=[I t.prio,.slice t.ja t.jl t.jc,I t.acc.g,I t.acc.o,I t.acc.l,I t.acc.d,I t.acc.c,I t.acc.t]
def zT:List Value:=[I 0,.slice none 0 0,I 0,I 0,I 0,I 0,I 0,I 0]
theorem TkV.one (t:TkV):∀ v∈t.cells.toArray.toList,oneCell v=true:=by simp [TkV.cells,oneCell]
theorem TkV.len (t:TkV):t.cells.length=8:=rfl
theorem onePt (s:Int × Option (Option Addr)):∀ v∈(slotC ptC [.pointer none] s).toArray.toList,oneCell v=true:=by unfold slotC; split <;> simp [ptC,oneCell]
theorem oneTk (s:Int × Option TkV):∀ v∈(slotC TkV.cells zT s).toArray.toList,oneCell v=true:=by unfold slotC; split <;> simp [TkV.cells,zT,oneCell]
theorem e42:∃ i z,Elem Tryz.prog 42 33 1 i z:=elemB_of (by kernel_rfl)
theorem ld47:loadKind Tryz.prog 47=some (some 8):=by kernel_rfl
def allS {α:Type} (S:Slots α) (kind:Int) (n:Nat):List Int:=(List.range n).filterMap fun i=>if (S i).2.isSome=true then some (nameS kind i (S i).1) else none
theorem allS_yes {α:Type} {S:Slots α} {kind:Int} {i:Nat} (h:(S i).2.isSome=true):allS S kind (i+1)=allS S kind i++[nameS kind i (S i).1]:=by simp [allS,List.range_succ,h]
theorem allS_no {α:Type} {S:Slots α} {kind:Int} {i:Nat} (h:(S i).2.isSome=false):allS S kind (i+1)=allS S kind i:=by simp [allS,List.range_succ,h]
theorem allS_len {α:Type} (S:Slots α) (kind:Int) (n:Nat):(allS S kind n).length≤n:=by
 unfold allS; exact Nat.le_trans (List.length_filterMap_le _ _) (by simp)
theorem findS_some {α:Type} {S:Slots α} {kind:Int} {n i:Nat} {h:Int} (e:findS S kind n h=some i):∃ a,(S i).2=some a:=by
 unfold findS at e
 split at e
 ·rename_i hc
  injection e with e
  subst e
  exact Option.isSome_iff_exists.1 hc.2.2.2.1
 ·cases e
theorem lenPt (s:Int × Option (Option Addr)):(slotC ptC [.pointer none] s).length=3:=by unfold slotC; split <;> rfl
theorem lenTk (s:Int × Option TkV):(slotC TkV.cells zT s).length=10:=by unfold slotC; split <;> rfl
def F277 (R:Ko) (x0:Option Addr) (x1:Int) (w:World):Prop:=Ifm x0.isNone (R (.tuple #[.pointer none,.iface 129 (.int .i64 20)]) w.drew) (onSome x0 fun x13=>Lc (x13.add 0) w.drew fun v15=>onI v15 fun x15=>Ct Tryz.prog 345 #[.int .i64 x1] w.drew fun v11 w1=>onI v11 fun x11=>Hc (x13.add 0) (.int .i64 x15) w1∧Ifm ((x11:Int) != x15) (R (.tuple #[.pointer none,.iface 129 (.int .i64 20)]) w1) (Ct Tryz.prog 268 #[.int .i64 x1] w1 fun v20 w2=>onI v20 fun x20=>Ifm (decide ((x20:Int)<0)) (R (.tuple #[.pointer none,.iface 129 (.int .i64 20)]) w2.drew) (onSome x0 fun x26=>Lc (x26.add 1) w2.drew fun v28=>onL v28 fun a28 l28 c28=>Ifm (decide ((x20:Int)≥(l28:Nat))) (R (.tuple #[.pointer none,.iface 129 (.int .i64 20)]) w2.drew) (onSome x0 fun x34=>Lc (x34.add 1) w2.drew fun v36=>onL v36 fun a36 l36 c36=>Ix a36 l36 x20 3 fun x38=>Lc (x38.add 1) w2.drew fun v40=>onB v40 fun x40=>Ifm (!x40) (R (.tuple #[.pointer none,.iface 129 (.int .i64 20)]) w2.drew) (onSome x0 fun x45=>Lc (x45.add 1) w2.drew fun v47=>onL v47 fun a47 l47 c47=>Ix a47 l47 x20 3 fun x49=>Lc (x49.add 0) w2.drew fun v51=>onI v51 fun x51=>Ct Tryz.prog 346 #[.int .i64 x1] w2.drew fun v53 w3=>onI v53 fun x53=>Hc (x49.add 0) (.int .i64 x51) w3∧Hc (x45.add 1) (.slice a47 l47 c47) w3∧Ifm ((x51:Int) != x53) (R (.tuple #[.pointer none,.iface 129 (.int .i64 20)]) w3) (onSome x0 fun x58=>Lc (x58.add 1) w3 fun v60=>onL v60 fun a60 l60 c60=>Ix a60 l60 x20 3 fun x62=>R (.tuple #[.pointer (some x62),.nilIface]) w3))))))
noncomputable def b277:Code:=Tryz.f277.body.getD .skip
theorem c277 {R:Ko} {x0:Option Addr} {x1:Int} {w:World} (h:F277 R x0 x1 w):Ct Tryz.prog 277 #[.pointer x0,.int .i64 x1] w R :=
 ctS (args:=[.pointer x0,.int .i64 x1]) (body:=b277) (n:=63) (rs:=[.tmp 4,.tmp 5]) Tryz.func277
  (sg (cuts:=[]) trivial h)
def F80 (R:Ko) (x0:Option Addr) (x1:Int) (w:World):Prop:=onSome x0 fun x9=>Lc (x9.add 0) w.drew fun v11=>onI v11 fun x11=>onSome x0 fun x14=>Lc (x14.add 1) w.drew fun v16=>onL v16 fun a16 l16 c16=>Ix a16 l16 x1 3 fun x18=>Lc (x18.add 0) w.drew fun v20=>onI v20 fun x20=>Ct Tryz.prog 163 #[.int .i64 x11,.int .i64 x1,.int .i64 x20] w.drew fun v21 w1=>on2 v21 fun y21_0 y21_1=>onI y21_0 fun x21_0=>R (.int .i64 x21_0) w1
noncomputable def b80:Code:=Tryz.f80.body.getD .skip
theorem c80 {R:Ko} {x0:Option Addr} {x1:Int} {w:World} (h:F80 R x0 x1 w):Ct Tryz.prog 80 #[.pointer x0,.int .i64 x1] w R :=
 ctS (args:=[.pointer x0,.int .i64 x1]) (body:=b80) (n:=25) (rs:=[.tmp 4]) Tryz.func80
  (sg (cuts:=[]) trivial h)
def F30_0B (R:Ko) (C0:Option Addr→Option Addr→Int→Int→World→Prop) (x0:Option Addr) (x1:Option Addr) (x15:Int) (x16:Int) (w:World):Prop:=Ifm (decide ((x16:Int)<x15)) (onSome x0 fun x20=>Lc (x20.add 1) w fun v22=>onL v22 fun a22 l22 c22=>Ix a22 l22 x16 3 fun x24=>Lc (x24.add 1) w fun v28=>onB v28 fun x28=>Ifm (!x28) (Lc (x24.add 0) w fun v34=>onI v34 fun x34=>Ifm (decide ((x34:Int)≤1023)) (Sc (x24.add 1) (.bool true) w fun w1=>Sc (x24.add 2) (.pointer x1) w1 fun w2=>Ct Tryz.prog 80 #[.pointer x0,.int .i64 x16] w2 fun v46 w3=>onI v46 fun x46=>R (.tuple #[.int .i64 x46,.nilIface]) w3) (C0 x0 x1 x15 (IntKind.i64.wrap (x16+1)) w)) (C0 x0 x1 x15 (IntKind.i64.wrap (x16+1)) w)) (R (.tuple #[.int .i64 0,.iface 129 (.int .i64 30)]) w)
def F30_0 (R:Ko) (x0:Option Addr) (x1:Option Addr) (x15:Int) (x16:Int) (w:World):Prop:=∃ (Inv:Option Addr→Option Addr→Int→Int→World→Prop) (μ:Option Addr→Option Addr→Int→Int→World→Nat),Inv x0 x1 x15 x16 w∧∀ x0 x1 x15 x16 w,Inv x0 x1 x15 x16 w→F30_0B R (fun x0' x1' x15' x16' w'=>Inv x0' x1' x15' x16' w'∧μ x0' x1' x15' x16' w'<μ x0 x1 x15 x16 w) x0 x1 x15 x16 w
def F30 (R:Ko) (x0:Option Addr) (x1:Option Addr) (w:World):Prop:=Ifm x0.isNone (R (.tuple #[.int .i64 0,.iface 129 (.int .i64 30)]) w) (onSome x0 fun x12=>Lc (x12.add 1) w fun v14=>onL v14 fun a14 l14 c14=>F30_0 R x0 x1 (l14:Nat) 0 w)
noncomputable def b30:Code:=Tryz.f30.body.getD .skip
def q30_0:List Bool:=[false,true,false,true,true]
def L30_0 (F:Option Addr→Option Addr→Int→Int→World→Prop):Env→World→Prop:=fun ρ w=>onP (ρ 0) fun x0=>onP (ρ 1) fun x1=>onI (ρ 15) fun x15=>onI (ρ 16) fun x16=>F x0 x1 x15 x16 w
abbrev T30 (z:Fr) (R:Ko) (p:List Bool) (ρ:Env) (w:World):Prop:=TW z Tryz.prog 49 (segTodo b30 p) (QR Tryz.prog [.tmp 4,.tmp 5] R) ρ w
theorem s30_0 (R:Ko):∀ ρ w,(L30_0 (F30_0 R)) ρ w→T30 z0 R q30_0 ρ w:=by
 intro ρ w h
 obtain ⟨x0,e0,h⟩:=onP_of h
 obtain ⟨x1,e1,h⟩:=onP_of h
 obtain ⟨x15,e15,h⟩:=onI_of h
 obtain ⟨x16,e16,h⟩:=onI_of h
 obtain ⟨Inv,μ,hi,hb⟩:=h
 refine lpT (fun m=>L30_0 (fun x0 x1 x15 x16 w=>Inv x0 x1 x15 x16 w∧μ x0 x1 x15 x16 w=m)) ?_ (μ x0 x1 x15 x16 w) ρ w ?_
 ·intro m ρ w ih h
  obtain ⟨x0,e0,h⟩:=onP_of h
  obtain ⟨x1,e1,h⟩:=onP_of h
  obtain ⟨x15,e15,h⟩:=onI_of h
  obtain ⟨x16,e16,h⟩:=onI_of h
  obtain ⟨hv,hm⟩:=h
  subst hm
  have hh:=hb x0 x1 x15 x16 w hv
  obtain ⟨C0,hC⟩:∃ C,C=fun x0' x1' x15' x16' w'=>Inv x0' x1' x15' x16' w'∧μ x0' x1' x15' x16' w'<μ x0 x1 x15 x16 w:=⟨_,rfl⟩
  rw [← hC] at hh
  have h0:∀ ρ w,(L30_0 C0) ρ w→T30 z0 R q30_0 ρ w:=by
   intro ρ' w' h'
   refine ih ρ' w' ?_
   obtain ⟨x0',e0',h'⟩:=onP_of h'
   obtain ⟨x1',e1',h'⟩:=onP_of h'
   obtain ⟨x15',e15',h'⟩:=onI_of h'
   obtain ⟨x16',e16',h'⟩:=onI_of h'
   rw [hC] at h'
   refine ⟨_,h'.2,?_⟩
   simp only [e0',e1',e15',e16',L30_0,ons]
   exact ⟨h'.1,by trivial⟩
  rw [← upds_same (ρ:=ρ) [(0,.pointer x0),(1,.pointer x1),(15,.int .i64 x15),(16,.int .i64 x16)] (alc e0 (alc e1 (alc e15 (alc e16 aln))))]
  exact sg (cuts:=[(q30_0,L30_0 C0)]) ⟨h0,trivial⟩ hh
 ·simp only [e0,e1,e15,e16,L30_0,ons]
  exact ⟨hi,by trivial⟩
theorem c30 {R:Ko} {x0:Option Addr} {x1:Option Addr} {w:World} (h:F30 R x0 x1 w):Ct Tryz.prog 30 #[.pointer x0,.pointer x1] w R :=
 ctS (args:=[.pointer x0,.pointer x1]) (body:=b30) (n:=49) (rs:=[.tmp 4,.tmp 5]) Tryz.func30
  (sg (cuts:=[(q30_0,L30_0 (F30_0 R))]) ⟨s30_0 R,trivial⟩ h)
def F280 (R:Ko) (x0:Option Addr) (x1:Int) (w:World):Prop:=Ct Tryz.prog 277 #[.pointer x0,.int .i64 x1] w fun v10 w1=>on2 v10 fun y10_0 y10_1=>onP y10_0 fun x10_0=>Nl y10_1 fun x14=>Ifm x14 (onSome x10_0 fun x17=>Lc (x17.add 0) w1 fun v19=>onI v19 fun x19=>onSome x10_0 fun x22=>Sa 3 x22 (#[.int .i64 (IntKind.i64.wrap (x19+1)),.bool false,.pointer none]) w1 fun w2=>R y10_1 w2) (R y10_1 w1)
noncomputable def b280:Code:=Tryz.f280.body.getD .skip
theorem c280 {R:Ko} {x0:Option Addr} {x1:Int} {w:World} (h:F280 R x0 x1 w):Ct Tryz.prog 280 #[.pointer x0,.int .i64 x1] w R :=
 ctS (args:=[.pointer x0,.int .i64 x1]) (body:=b280) (n:=24) (rs:=[.tmp 4]) Tryz.func280
  (sg (cuts:=[]) trivial h)
def F180 (R:Ko) (x0:Option Addr) (x1:Int) (w:World):Prop:=Ct Tryz.prog 277 #[.pointer x0,.int .i64 x1] w fun v12 w1=>on2 v12 fun y12_0 y12_1=>onP y12_0 fun x12_0=>Nl y12_1 fun x16=>Ifm (!x16) (R (.tuple #[.pointer none,y12_1]) w1) (onSome x12_0 fun x20=>Lc (x20.add 2) w1 fun v22=>onP v22 fun x22=>R (.tuple #[.pointer x22,.nilIface]) w1)
noncomputable def b180:Code:=Tryz.f180.body.getD .skip
theorem c180 {R:Ko} {x0:Option Addr} {x1:Int} {w:World} (h:F180 R x0 x1 w):Ct Tryz.prog 180 #[.pointer x0,.int .i64 x1] w R :=
 ctS (args:=[.pointer x0,.int .i64 x1]) (body:=b180) (n:=23) (rs:=[.tmp 4,.tmp 5]) Tryz.func180
  (sg (cuts:=[]) trivial h)
def F222_0B (R:Ko) (C0:Option Addr→Option Addr→Nat→Nat→Option Addr→Nat→Nat→Int→Int→World→Prop) (x0:Option Addr) (a3:Option Addr) (l3 c3:Nat) (a11:Option Addr) (l11 c11:Nat) (x12:Int) (x13:Int) (w:World):Prop:=Ifm (decide ((x13:Int)<x12)) (Ix a11 l11 x13 3 fun x16=>La 3 x16 w fun x17=>New (.cells (.agg #[.int .i64 0,.bool false,.pointer none]:Value).cells 201) w fun x5 w1=>Sa 3 x5 x17 w1 fun w2=>Lc (x5.add 1) w2 fun v19=>onB v19 fun x19=>Ifm x19 (Ct Tryz.prog 80 #[.pointer x0,.int .i64 x13] w2 fun v23 w3=>onI v23 fun x23=>Rv Tryz.prog (Instr.buildSlice 42 1 #[(0,.int .i64 x23)]) w3 fun v24 w4=>onL v24 fun a24 l24 c24=>Rv Tryz.prog (Builtin.append_ #[42,42] 42 #[.slice a3 l3 c3,.slice a24 l24 c24]) w4 fun v25 w5=>onL v25 fun a25 l25 c25=>C0 x0 a25 l25 c25 a11 l11 c11 x12 (IntKind.i64.wrap (x13+1)) w5) (C0 x0 a3 l3 c3 a11 l11 c11 x12 (IntKind.i64.wrap (x13+1)) w2)) (R (.slice a3 l3 c3) w)
def F222_0 (R:Ko) (x0:Option Addr) (a3:Option Addr) (l3 c3:Nat) (a11:Option Addr) (l11 c11:Nat) (x12:Int) (x13:Int) (w:World):Prop:=∃ (Inv:Option Addr→Option Addr→Nat→Nat→Option Addr→Nat→Nat→Int→Int→World→Prop) (μ:Option Addr→Option Addr→Nat→Nat→Option Addr→Nat→Nat→Int→Int→World→Nat),Inv x0 a3 l3 c3 a11 l11 c11 x12 x13 w∧∀ x0 a3 l3 c3 a11 l11 c11 x12 x13 w,Inv x0 a3 l3 c3 a11 l11 c11 x12 x13 w→F222_0B R (fun x0' a3' l3' c3' a11' l11' c11' x12' x13' w'=>Inv x0' a3' l3' c3' a11' l11' c11' x12' x13' w'∧μ x0' a3' l3' c3' a11' l11' c11' x12' x13' w'<μ x0 a3 l3 c3 a11 l11 c11 x12 x13 w) x0 a3 l3 c3 a11 l11 c11 x12 x13 w
def F222 (R:Ko) (x0:Option Addr) (w:World):Prop:=Ifm x0.isNone (R (.slice none 0 0) w) (onSome x0 fun x9=>Lc (x9.add 1) w fun v11=>onL v11 fun a11 l11 c11=>F222_0 R x0 none 0 0 a11 l11 c11 (l11:Nat) 0 w)
noncomputable def b222:Code:=Tryz.f222.body.getD .skip
def q222_0:List Bool:=[false,true,false,true,true,true]
def L222_0 (F:Option Addr→Option Addr→Nat→Nat→Option Addr→Nat→Nat→Int→Int→World→Prop):Env→World→Prop:=fun ρ w=>onP (ρ 0) fun x0=>onL (ρ 3) fun a3 l3 c3=>onL (ρ 11) fun a11 l11 c11=>onI (ρ 12) fun x12=>onI (ρ 13) fun x13=>F x0 a3 l3 c3 a11 l11 c11 x12 x13 w
abbrev T222 (z:Fr) (R:Ko) (p:List Bool) (ρ:Env) (w:World):Prop:=TW z Tryz.prog 28 (segTodo b222 p) (QR Tryz.prog [.tmp 2] R) ρ w
theorem s222_0 (R:Ko):∀ ρ w,(L222_0 (F222_0 R)) ρ w→T222 z0 R q222_0 ρ w:=by
 intro ρ w h
 obtain ⟨x0,e0,h⟩:=onP_of h
 obtain ⟨a3,l3,c3,e3,h⟩:=onL_of h
 obtain ⟨a11,l11,c11,e11,h⟩:=onL_of h
 obtain ⟨x12,e12,h⟩:=onI_of h
 obtain ⟨x13,e13,h⟩:=onI_of h
 obtain ⟨Inv,μ,hi,hb⟩:=h
 refine lpT (fun m=>L222_0 (fun x0 a3 l3 c3 a11 l11 c11 x12 x13 w=>Inv x0 a3 l3 c3 a11 l11 c11 x12 x13 w∧μ x0 a3 l3 c3 a11 l11 c11 x12 x13 w=m)) ?_ (μ x0 a3 l3 c3 a11 l11 c11 x12 x13 w) ρ w ?_
 ·intro m ρ w ih h
  obtain ⟨x0,e0,h⟩:=onP_of h
  obtain ⟨a3,l3,c3,e3,h⟩:=onL_of h
  obtain ⟨a11,l11,c11,e11,h⟩:=onL_of h
  obtain ⟨x12,e12,h⟩:=onI_of h
  obtain ⟨x13,e13,h⟩:=onI_of h
  obtain ⟨hv,hm⟩:=h
  subst hm
  have hh:=hb x0 a3 l3 c3 a11 l11 c11 x12 x13 w hv
  obtain ⟨C0,hC⟩:∃ C,C=fun x0' a3' l3' c3' a11' l11' c11' x12' x13' w'=>Inv x0' a3' l3' c3' a11' l11' c11' x12' x13' w'∧μ x0' a3' l3' c3' a11' l11' c11' x12' x13' w'<μ x0 a3 l3 c3 a11 l11 c11 x12 x13 w:=⟨_,rfl⟩
  rw [← hC] at hh
  have h0:∀ ρ w,(L222_0 C0) ρ w→T222 z0 R q222_0 ρ w:=by
   intro ρ' w' h'
   refine ih ρ' w' ?_
   obtain ⟨x0',e0',h'⟩:=onP_of h'
   obtain ⟨a3',l3',c3',e3',h'⟩:=onL_of h'
   obtain ⟨a11',l11',c11',e11',h'⟩:=onL_of h'
   obtain ⟨x12',e12',h'⟩:=onI_of h'
   obtain ⟨x13',e13',h'⟩:=onI_of h'
   rw [hC] at h'
   refine ⟨_,h'.2,?_⟩
   simp only [e0',e3',e11',e12',e13',L222_0,ons]
   exact ⟨h'.1,by trivial⟩
  rw [← upds_same (ρ:=ρ) [(0,.pointer x0),(3,.slice a3 l3 c3),(11,.slice a11 l11 c11),(12,.int .i64 x12),(13,.int .i64 x13)] (alc e0 (alc e3 (alc e11 (alc e12 (alc e13 aln)))))]
  exact sg (cuts:=[(q222_0,L222_0 C0)]) ⟨h0,trivial⟩ hh
 ·simp only [e0,e3,e11,e12,e13,L222_0,ons]
  exact ⟨hi,by trivial⟩
theorem c222 {R:Ko} {x0:Option Addr} {w:World} (h:F222 R x0 w):Ct Tryz.prog 222 #[.pointer x0] w R :=
 ctS (args:=[.pointer x0]) (body:=b222) (n:=28) (rs:=[.tmp 2]) Tryz.func222
  (sg (cuts:=[(q222_0,L222_0 (F222_0 R))]) ⟨s222_0 R,trivial⟩ h)
def F314 (R:Ko) (x0:Option Addr) (x1:Int) (w:World):Prop:=Ifm x0.isNone (R (.tuple #[.pointer none,.iface 129 (.int .i64 20)]) w.drew) (onSome x0 fun x13=>Lc (x13.add 0) w.drew fun v15=>onI v15 fun x15=>Ct Tryz.prog 345 #[.int .i64 x1] w.drew fun v11 w1=>onI v11 fun x11=>Hc (x13.add 0) (.int .i64 x15) w1∧Ifm ((x11:Int) != x15) (R (.tuple #[.pointer none,.iface 129 (.int .i64 20)]) w1) (Ct Tryz.prog 268 #[.int .i64 x1] w1 fun v20 w2=>onI v20 fun x20=>Ifm (decide ((x20:Int)<0)) (R (.tuple #[.pointer none,.iface 129 (.int .i64 20)]) w2.drew) (onSome x0 fun x26=>Lc (x26.add 1) w2.drew fun v28=>onL v28 fun a28 l28 c28=>Ifm (decide ((x20:Int)≥(l28:Nat))) (R (.tuple #[.pointer none,.iface 129 (.int .i64 20)]) w2.drew) (onSome x0 fun x34=>Lc (x34.add 1) w2.drew fun v36=>onL v36 fun a36 l36 c36=>Ix a36 l36 x20 10 fun x38=>Lc (x38.add 1) w2.drew fun v40=>onB v40 fun x40=>Ifm (!x40) (R (.tuple #[.pointer none,.iface 129 (.int .i64 20)]) w2.drew) (onSome x0 fun x45=>Lc (x45.add 1) w2.drew fun v47=>onL v47 fun a47 l47 c47=>Ix a47 l47 x20 10 fun x49=>Lc (x49.add 0) w2.drew fun v51=>onI v51 fun x51=>Ct Tryz.prog 346 #[.int .i64 x1] w2.drew fun v53 w3=>onI v53 fun x53=>Hc (x49.add 0) (.int .i64 x51) w3∧Hc (x45.add 1) (.slice a47 l47 c47) w3∧Ifm ((x51:Int) != x53) (R (.tuple #[.pointer none,.iface 129 (.int .i64 20)]) w3) (onSome x0 fun x58=>Lc (x58.add 1) w3 fun v60=>onL v60 fun a60 l60 c60=>Ix a60 l60 x20 10 fun x62=>R (.tuple #[.pointer (some x62),.nilIface]) w3))))))
noncomputable def b314:Code:=Tryz.f314.body.getD .skip
theorem c314 {R:Ko} {x0:Option Addr} {x1:Int} {w:World} (h:F314 R x0 x1 w):Ct Tryz.prog 314 #[.pointer x0,.int .i64 x1] w R :=
 ctS (args:=[.pointer x0,.int .i64 x1]) (body:=b314) (n:=63) (rs:=[.tmp 4,.tmp 5]) Tryz.func314
  (sg (cuts:=[]) trivial h)
def F303 (R:Ko) (x0:Option Addr) (x1:Int) (w:World):Prop:=onSome x0 fun x9=>Lc (x9.add 0) w.drew fun v11=>onI v11 fun x11=>onSome x0 fun x14=>Lc (x14.add 1) w.drew fun v16=>onL v16 fun a16 l16 c16=>Ix a16 l16 x1 10 fun x18=>Lc (x18.add 0) w.drew fun v20=>onI v20 fun x20=>Ct Tryz.prog 163 #[.int .i64 x11,.int .i64 x1,.int .i64 x20] w.drew fun v21 w1=>on2 v21 fun y21_0 y21_1=>onI y21_0 fun x21_0=>R (.int .i64 x21_0) w1
noncomputable def b303:Code:=Tryz.f303.body.getD .skip
theorem c303 {R:Ko} {x0:Option Addr} {x1:Int} {w:World} (h:F303 R x0 x1 w):Ct Tryz.prog 303 #[.pointer x0,.int .i64 x1] w R :=
 ctS (args:=[.pointer x0,.int .i64 x1]) (body:=b303) (n:=25) (rs:=[.tmp 4]) Tryz.func303
  (sg (cuts:=[]) trivial h)
def F209_0B (R:Ko) (C0:Option Addr→Addr→Int→Int→World→Prop) (x0:Option Addr) (x3:Addr) (x15:Int) (x16:Int) (w:World):Prop:=Ifm (decide ((x16:Int)<x15)) (onSome x0 fun x20=>Lc (x20.add 1) w fun v22=>onL v22 fun a22 l22 c22=>Ix a22 l22 x16 10 fun x24=>Lc (x24.add 1) w fun v28=>onB v28 fun x28=>Ifm (!x28) (Lc (x24.add 0) w fun v34=>onI v34 fun x34=>Ifm (decide ((x34:Int)≤1023)) (La 8 x3 w.drew fun x39=>Sc (x24.add 1) (.bool true) w.drew fun w2=>Ha 8 x3 x39 w2∧Sa 8 (x24.add 2) x39 w2 fun w3=>Ct Tryz.prog 303 #[.pointer x0,.int .i64 x16] w3 fun v46 w4=>onI v46 fun x46=>R (.tuple #[.int .i64 x46,.nilIface]) w4) (C0 x0 x3 x15 (IntKind.i64.wrap (x16+1)) w)) (C0 x0 x3 x15 (IntKind.i64.wrap (x16+1)) w)) (R (.tuple #[.int .i64 0,.iface 129 (.int .i64 30)]) w)
def F209_0 (R:Ko) (x0:Option Addr) (x3:Addr) (x15:Int) (x16:Int) (w:World):Prop:=∃ (Inv:Option Addr→Addr→Int→Int→World→Prop) (μ:Option Addr→Addr→Int→Int→World→Nat),Inv x0 x3 x15 x16 w∧∀ x0 x3 x15 x16 w,Inv x0 x3 x15 x16 w→F209_0B R (fun x0' x3' x15' x16' w'=>Inv x0' x3' x15' x16' w'∧μ x0' x3' x15' x16' w'<μ x0 x3 x15 x16 w) x0 x3 x15 x16 w
def F209 (R:Ko) (x0:Option Addr) (x1:Array Value) (w:World):Prop:=New (.cells (.agg x1:Value).cells 47) w fun x3 w1=>Ifm x0.isNone (R (.tuple #[.int .i64 0,.iface 129 (.int .i64 30)]) w1) (onSome x0 fun x12=>Lc (x12.add 1) w1 fun v14=>onL v14 fun a14 l14 c14=>F209_0 R x0 x3 (l14:Nat) 0 w1)
noncomputable def b209:Code:=Tryz.f209.body.getD .skip
def q209_0:List Bool:=[false,true,false,true,true]
def L209_0 (F:Option Addr→Addr→Int→Int→World→Prop):Env→World→Prop:=fun ρ w=>onP (ρ 0) fun x0=>onA (ρ 3) fun x3=>onI (ρ 15) fun x15=>onI (ρ 16) fun x16=>F x0 x3 x15 x16 w
abbrev T209 (z:Fr) (R:Ko) (p:List Bool) (ρ:Env) (w:World):Prop:=TW z Tryz.prog 49 (segTodo b209 p) (QR Tryz.prog [.tmp 4,.tmp 5] R) ρ w
theorem s209_0 (R:Ko):∀ ρ w,(L209_0 (F209_0 R)) ρ w→T209 z0 R q209_0 ρ w:=by
 intro ρ w h
 obtain ⟨x0,e0,h⟩:=onP_of h
 obtain ⟨x3,e3,h⟩:=onA_of h
 obtain ⟨x15,e15,h⟩:=onI_of h
 obtain ⟨x16,e16,h⟩:=onI_of h
 obtain ⟨Inv,μ,hi,hb⟩:=h
 refine lpT (fun m=>L209_0 (fun x0 x3 x15 x16 w=>Inv x0 x3 x15 x16 w∧μ x0 x3 x15 x16 w=m)) ?_ (μ x0 x3 x15 x16 w) ρ w ?_
 ·intro m ρ w ih h
  obtain ⟨x0,e0,h⟩:=onP_of h
  obtain ⟨x3,e3,h⟩:=onA_of h
  obtain ⟨x15,e15,h⟩:=onI_of h
  obtain ⟨x16,e16,h⟩:=onI_of h
  obtain ⟨hv,hm⟩:=h
  subst hm
  have hh:=hb x0 x3 x15 x16 w hv
  obtain ⟨C0,hC⟩:∃ C,C=fun x0' x3' x15' x16' w'=>Inv x0' x3' x15' x16' w'∧μ x0' x3' x15' x16' w'<μ x0 x3 x15 x16 w:=⟨_,rfl⟩
  rw [← hC] at hh
  have h0:∀ ρ w,(L209_0 C0) ρ w→T209 z0 R q209_0 ρ w:=by
   intro ρ' w' h'
   refine ih ρ' w' ?_
   obtain ⟨x0',e0',h'⟩:=onP_of h'
   obtain ⟨x3',e3',h'⟩:=onA_of h'
   obtain ⟨x15',e15',h'⟩:=onI_of h'
   obtain ⟨x16',e16',h'⟩:=onI_of h'
   rw [hC] at h'
   refine ⟨_,h'.2,?_⟩
   simp only [e0',e3',e15',e16',L209_0,ons]
   exact ⟨h'.1,by trivial⟩
  rw [← upds_same (ρ:=ρ) [(0,.pointer x0),(3,.pointer (some x3)),(15,.int .i64 x15),(16,.int .i64 x16)] (alc e0 (alc e3 (alc e15 (alc e16 aln))))]
  exact sg (cuts:=[(q209_0,L209_0 C0)]) ⟨h0,trivial⟩ hh
 ·simp only [e0,e3,e15,e16,L209_0,ons]
  exact ⟨hi,by trivial⟩
theorem c209 {R:Ko} {x0:Option Addr} {x1:Array Value} {w:World} (h:F209 R x0 x1 w):Ct Tryz.prog 209 #[.pointer x0,.agg x1] w R :=
 ctS (args:=[.pointer x0,.agg x1]) (body:=b209) (n:=49) (rs:=[.tmp 4,.tmp 5]) Tryz.func209
  (sg (cuts:=[(q209_0,L209_0 (F209_0 R))]) ⟨s209_0 R,trivial⟩ h)
def F265 (R:Ko) (x0:Option Addr) (x1:Int) (w:World):Prop:=Ct Tryz.prog 314 #[.pointer x0,.int .i64 x1] w fun v10 w1=>on2 v10 fun y10_0 y10_1=>onP y10_0 fun x10_0=>Nl y10_1 fun x14=>Ifm x14 (onSome x10_0 fun x17=>Lc (x17.add 0) w1 fun v19=>onI v19 fun x19=>onSome x10_0 fun x22=>Sa 10 x22 (#[.int .i64 (IntKind.i64.wrap (x19+1)),.bool false,.int .i64 0,.slice none 0 0,.int .i64 0,.int .i64 0,.int .i64 0,.int .i64 0,.int .i64 0,.int .i64 0]) w1 fun w2=>R y10_1 w2) (R y10_1 w1)
noncomputable def b265:Code:=Tryz.f265.body.getD .skip
theorem c265 {R:Ko} {x0:Option Addr} {x1:Int} {w:World} (h:F265 R x0 x1 w):Ct Tryz.prog 265 #[.pointer x0,.int .i64 x1] w R :=
 ctS (args:=[.pointer x0,.int .i64 x1]) (body:=b265) (n:=24) (rs:=[.tmp 4]) Tryz.func265
  (sg (cuts:=[]) trivial h)
def F225 (R:Ko) (x0:Option Addr) (x1:Int) (w:World):Prop:=New (.cells (.agg #[.int .i64 0,.slice none 0 0,.int .i64 0,.int .i64 0,.int .i64 0,.int .i64 0,.int .i64 0,.int .i64 0]:Value).cells 47) w fun x4 w1=>Ct Tryz.prog 314 #[.pointer x0,.int .i64 x1] w1 fun v12 w2=>on2 v12 fun y12_0 y12_1=>onP y12_0 fun x12_0=>Nl y12_1 fun x16=>Ifm (!x16) (New (.cells (.agg #[.int .i64 0,.slice none 0 0,.int .i64 0,.int .i64 0,.int .i64 0,.int .i64 0,.int .i64 0,.int .i64 0]:Value).cells 47) w2 fun x8 w3=>La 8 x8 w3 fun x17=>Sa 8 x4 x17 w3 fun w4=>Rd Tryz.prog (Instr.loadAt 47 (.pointer (some x4))) w4 fun r0=>R (.tuple #[r0,y12_1]) w4) (onSome x12_0 fun x20=>La 8 (x20.add 2) w2 fun x22=>Sa 8 x4 x22 w2 fun w5=>Rd Tryz.prog (Instr.loadAt 47 (.pointer (some x4))) w5 fun r0=>R (.tuple #[r0,.nilIface]) w5)
noncomputable def b225:Code:=Tryz.f225.body.getD .skip
theorem c225 {R:Ko} {x0:Option Addr} {x1:Int} {w:World} (h:F225 R x0 x1 w):Ct Tryz.prog 225 #[.pointer x0,.int .i64 x1] w R :=
 ctS (args:=[.pointer x0,.int .i64 x1]) (body:=b225) (n:=23) (rs:=[.cell 4 47,.tmp 5]) Tryz.func225
  (sg (cuts:=[]) trivial h)
def F267 (R:Ko) (x0:Option Addr) (x1:Int) (x2:Array Value) (w:World):Prop:=New (.cells (.agg x2:Value).cells 47) w fun x5 w1=>Ct Tryz.prog 314 #[.pointer x0,.int .i64 x1] w1 fun v12 w2=>on2 v12 fun y12_0 y12_1=>onP y12_0 fun x12_0=>Nl y12_1 fun x16=>Ifm x16 (La 8 x5 w2 fun x18=>onSome x12_0 fun x19=>Sa 8 (x19.add 2) x18 w2 fun w3=>R y12_1 w3) (R y12_1 w2)
noncomputable def b267:Code:=Tryz.f267.body.getD .skip
theorem c267 {R:Ko} {x0:Option Addr} {x1:Int} {x2:Array Value} {w:World} (h:F267 R x0 x1 x2 w):Ct Tryz.prog 267 #[.pointer x0,.int .i64 x1,.agg x2] w R :=
 ctS (args:=[.pointer x0,.int .i64 x1,.agg x2]) (body:=b267) (n:=22) (rs:=[.tmp 6]) Tryz.func267
  (sg (cuts:=[]) trivial h)
def F220_0B (R:Ko) (C0:Option Addr→Option Addr→Nat→Nat→Option Addr→Nat→Nat→Int→Int→World→Prop) (x0:Option Addr) (a3:Option Addr) (l3 c3:Nat) (a11:Option Addr) (l11 c11:Nat) (x12:Int) (x13:Int) (w:World):Prop:=Ifm (decide ((x13:Int)<x12)) (Ix a11 l11 x13 10 fun x16=>La 10 x16 w fun x17=>New (.cells (.agg #[.int .i64 0,.bool false,.int .i64 0,.slice none 0 0,.int .i64 0,.int .i64 0,.int .i64 0,.int .i64 0,.int .i64 0,.int .i64 0]:Value).cells 313) w fun x5 w1=>Sa 10 x5 x17 w1 fun w2=>Lc (x5.add 1) w2 fun v19=>onB v19 fun x19=>Ifm x19 (Ct Tryz.prog 303 #[.pointer x0,.int .i64 x13] w2 fun v23 w3=>onI v23 fun x23=>Rv Tryz.prog (Instr.buildSlice 42 1 #[(0,.int .i64 x23)]) w3 fun v24 w4=>onL v24 fun a24 l24 c24=>Rv Tryz.prog (Builtin.append_ #[42,42] 42 #[.slice a3 l3 c3,.slice a24 l24 c24]) w4 fun v25 w5=>onL v25 fun a25 l25 c25=>C0 x0 a25 l25 c25 a11 l11 c11 x12 (IntKind.i64.wrap (x13+1)) w5) (C0 x0 a3 l3 c3 a11 l11 c11 x12 (IntKind.i64.wrap (x13+1)) w2)) (R (.slice a3 l3 c3) w)
def F220_0 (R:Ko) (x0:Option Addr) (a3:Option Addr) (l3 c3:Nat) (a11:Option Addr) (l11 c11:Nat) (x12:Int) (x13:Int) (w:World):Prop:=∃ (Inv:Option Addr→Option Addr→Nat→Nat→Option Addr→Nat→Nat→Int→Int→World→Prop) (μ:Option Addr→Option Addr→Nat→Nat→Option Addr→Nat→Nat→Int→Int→World→Nat),Inv x0 a3 l3 c3 a11 l11 c11 x12 x13 w∧∀ x0 a3 l3 c3 a11 l11 c11 x12 x13 w,Inv x0 a3 l3 c3 a11 l11 c11 x12 x13 w→F220_0B R (fun x0' a3' l3' c3' a11' l11' c11' x12' x13' w'=>Inv x0' a3' l3' c3' a11' l11' c11' x12' x13' w'∧μ x0' a3' l3' c3' a11' l11' c11' x12' x13' w'<μ x0 a3 l3 c3 a11 l11 c11 x12 x13 w) x0 a3 l3 c3 a11 l11 c11 x12 x13 w
def F220 (R:Ko) (x0:Option Addr) (w:World):Prop:=Ifm x0.isNone (R (.slice none 0 0) w) (onSome x0 fun x9=>Lc (x9.add 1) w fun v11=>onL v11 fun a11 l11 c11=>F220_0 R x0 none 0 0 a11 l11 c11 (l11:Nat) 0 w)
noncomputable def b220:Code:=Tryz.f220.body.getD .skip
def q220_0:List Bool:=[false,true,false,true,true,true]
def L220_0 (F:Option Addr→Option Addr→Nat→Nat→Option Addr→Nat→Nat→Int→Int→World→Prop):Env→World→Prop:=fun ρ w=>onP (ρ 0) fun x0=>onL (ρ 3) fun a3 l3 c3=>onL (ρ 11) fun a11 l11 c11=>onI (ρ 12) fun x12=>onI (ρ 13) fun x13=>F x0 a3 l3 c3 a11 l11 c11 x12 x13 w
abbrev T220 (z:Fr) (R:Ko) (p:List Bool) (ρ:Env) (w:World):Prop:=TW z Tryz.prog 28 (segTodo b220 p) (QR Tryz.prog [.tmp 2] R) ρ w
theorem s220_0 (R:Ko):∀ ρ w,(L220_0 (F220_0 R)) ρ w→T220 z0 R q220_0 ρ w:=by
 intro ρ w h
 obtain ⟨x0,e0,h⟩:=onP_of h
 obtain ⟨a3,l3,c3,e3,h⟩:=onL_of h
 obtain ⟨a11,l11,c11,e11,h⟩:=onL_of h
 obtain ⟨x12,e12,h⟩:=onI_of h
 obtain ⟨x13,e13,h⟩:=onI_of h
 obtain ⟨Inv,μ,hi,hb⟩:=h
 refine lpT (fun m=>L220_0 (fun x0 a3 l3 c3 a11 l11 c11 x12 x13 w=>Inv x0 a3 l3 c3 a11 l11 c11 x12 x13 w∧μ x0 a3 l3 c3 a11 l11 c11 x12 x13 w=m)) ?_ (μ x0 a3 l3 c3 a11 l11 c11 x12 x13 w) ρ w ?_
 ·intro m ρ w ih h
  obtain ⟨x0,e0,h⟩:=onP_of h
  obtain ⟨a3,l3,c3,e3,h⟩:=onL_of h
  obtain ⟨a11,l11,c11,e11,h⟩:=onL_of h
  obtain ⟨x12,e12,h⟩:=onI_of h
  obtain ⟨x13,e13,h⟩:=onI_of h
  obtain ⟨hv,hm⟩:=h
  subst hm
  have hh:=hb x0 a3 l3 c3 a11 l11 c11 x12 x13 w hv
  obtain ⟨C0,hC⟩:∃ C,C=fun x0' a3' l3' c3' a11' l11' c11' x12' x13' w'=>Inv x0' a3' l3' c3' a11' l11' c11' x12' x13' w'∧μ x0' a3' l3' c3' a11' l11' c11' x12' x13' w'<μ x0 a3 l3 c3 a11 l11 c11 x12 x13 w:=⟨_,rfl⟩
  rw [← hC] at hh
  have h0:∀ ρ w,(L220_0 C0) ρ w→T220 z0 R q220_0 ρ w:=by
   intro ρ' w' h'
   refine ih ρ' w' ?_
   obtain ⟨x0',e0',h'⟩:=onP_of h'
   obtain ⟨a3',l3',c3',e3',h'⟩:=onL_of h'
   obtain ⟨a11',l11',c11',e11',h'⟩:=onL_of h'
   obtain ⟨x12',e12',h'⟩:=onI_of h'
   obtain ⟨x13',e13',h'⟩:=onI_of h'
   rw [hC] at h'
   refine ⟨_,h'.2,?_⟩
   simp only [e0',e3',e11',e12',e13',L220_0,ons]
   exact ⟨h'.1,by trivial⟩
  rw [← upds_same (ρ:=ρ) [(0,.pointer x0),(3,.slice a3 l3 c3),(11,.slice a11 l11 c11),(12,.int .i64 x12),(13,.int .i64 x13)] (alc e0 (alc e3 (alc e11 (alc e12 (alc e13 aln)))))]
  exact sg (cuts:=[(q220_0,L220_0 C0)]) ⟨h0,trivial⟩ hh
 ·simp only [e0,e3,e11,e12,e13,L220_0,ons]
  exact ⟨hi,by trivial⟩
theorem c220 {R:Ko} {x0:Option Addr} {w:World} (h:F220 R x0 w):Ct Tryz.prog 220 #[.pointer x0] w R :=
 ctS (args:=[.pointer x0]) (body:=b220) (n:=28) (rs:=[.tmp 2]) Tryz.func220
  (sg (cuts:=[(q220_0,L220_0 (F220_0 R))]) ⟨s220_0 R,trivial⟩ h)
theorem k277 {S:Slots (Option Addr)} {n b L:Nat} {kind h:Int} (hT:Tab w 199 201 3 n kind b L (fun i=>slotC ptC [.pointer none] (S i))) (h0:findS S kind n h=none→∀ d,K (.tuple #[.pointer none,Er 20]) (dr w d))
  (h1:∀ i,i<n→findS S kind n h=some i→∀ d,K (.tuple #[Pt L (i*3),.nilIface]) (dr w d)):Ct Tryz.prog 277 #[Pt b 0,I h] w K:=by
 refine c277 ?_
 unfold F277
 have r0:=hT.hd.rd (o:=0) (v:=I kind) rfl
 have r1:=hT.hd.rd (o:=1) (v:=.slice (some ⟨L,0,none⟩) n n) rfl
 have q0:=hT.hd.hc (o:=0) (v:=I kind) rfl
 have q1:=hT.hd.hc (o:=1) (v:=.slice (some ⟨L,0,none⟩) n n) rfl
 unfold findS at h0 h1
 simp only [SS,New_eq,r0]
 refine k345 ?_
 simp only [SS,New_eq,q0]
 by_cases e1:kindH h=kind
 case neg=>rw [if_neg e1]; rw [if_neg (fun x=>e1 x.1)] at h0; exact h0 rfl _
 rw [if_pos e1]
 refine k268 ?_
 simp only [SS,New_eq,r1]
 by_cases e2:slotH h<0
 case pos=>rw [if_pos e2]; rw [if_neg (by omega)] at h0; exact h0 rfl _
 rw [if_neg e2]
 by_cases e3:slotH h≥n
 case pos=>rw [if_pos e3]; rw [if_neg (by omega)] at h0; exact h0 rfl _
 rw [if_neg e3]
 obtain ⟨i,hi⟩:∃ i:Nat,slotH h=i:=⟨(slotH h).toNat,by omega⟩
 have hin:i<n:=by omega
 have ix:∀ k:Addr→Prop,Ix (some ⟨L,0,none⟩) n (slotH h) 3 k=k ⟨L,i*3,none⟩:=fun k=>by rw [hi]; exact Ix_c hin k
 have t0:=hT.rd (j:=0) hin (by decide) (v:=I (S i).1) rfl
 have t1:=hT.rd (j:=1) hin (by decide) (v:=.bool (S i).2.isSome) rfl
 have u0:=hT.hc (j:=0) hin (by decide) (v:=I (S i).1) rfl
 simp only [Nat.add_zero] at t0 u0
 rw [hi,Int.toNat_natCast] at h0 h1
 simp only [ix,SS,New_eq,t1]
 cases e4:(S i).2.isSome with
 | false=>rw [if_neg (by simp [e4])] at h0; exact h0 rfl _
 | true =>
  simp only [SS,New_eq,t0]
  refine k346 ?_
  simp only [SS,New_eq,u0,q1,r1,ix]
  by_cases e5:(S i).1=genH h
  case neg=>rw [if_neg e5]; rw [if_neg (fun x=>e5 x.2.2.2.2)] at h0; exact h0 rfl _
  rw [if_pos e5]
  rw [if_pos ⟨e1,by omega,by omega,e4,e5⟩] at h1
  exact h1 i hin rfl _
theorem k80 {S:Slots (Option Addr)} {n b L i:Nat} {kind:Int} (hT:Tab w 199 201 3 n kind b L (fun i=>slotC ptC [.pointer none] (S i))) (hi:i<n)
  (h:∀ d,K (I (if okH kind i (S i).1=true then mkH kind i (S i).1 else 0)) (dr w d)):Ct Tryz.prog 80 #[Pt b 0,I i] w K:=by
 refine c80 ?_
 unfold F80
 have r0:=hT.hd.rd (o:=0) (v:=I kind) rfl
 have r1:=hT.hd.rd (o:=1) (v:=.slice (some ⟨L,0,none⟩) n n) rfl
 have t0:=hT.rd (j:=0) hi (by decide) (v:=I (S i).1) rfl
 simp only [Nat.add_zero] at t0
 simp only [SS,New_eq,r0,r1,Ix_c hi,t0]
 refine k163 ?_
 cases e:okH kind i (S i).1 with
 | true=>rw [if_pos rfl]; simp only [SS,New_eq]; have:=h (w.drawn+1); rw [e] at this; exact this
 | false=>rw [if_neg (by simp)]; simp only [SS,New_eq]; have:=h (w.drawn+1); rw [e] at this; exact this
theorem k30 {S:Slots (Option Addr)} {n b L:Nat} {kind:Int} (p:Option Addr) (hT:Tab w 199 201 3 n kind b L (fun i=>slotC ptC [.pointer none] (S i))) (hn:n≤4096)
  (h0:freeS S n=none→∀ w',Kp No w w'→K (.tuple #[I 0,Er 30]) w')
  (h1:∀ i,i<n→freeS S n=some i→∀ w',Kp (·=L) w w'→Tab w' 199 201 3 n kind b L (fun k=>slotC ptC [.pointer none] (upd1 S i ((S i).1,some p) k))→K (.tuple #[I (nameS kind i (S i).1),.nilIface]) w') :
  Ct Tryz.prog 30 #[Pt b 0,.pointer p] w K:=by
 refine c30 ?_
 unfold F30
 obtain ⟨w1,hw1⟩:∃ x,x=w:=⟨_,rfl⟩
 have hk1:Kp No w w1:=by rw [hw1]; exact Kp.refl _ _
 rw [← hw1]
 replace hT:=hT.kp hk1 id id
 clear hw1
 have r1:=hT.hd.rd (o:=1) (v:=.slice (some ⟨L,0,none⟩) n n) rfl
 simp only [SS,New_eq,r1]
 unfold F30_0
 refine ⟨fun y0 y1 x15 x16 w'=>y0=some ⟨b,0,none⟩∧p=y1∧x15=n∧w1=w'∧∃ i:Nat,x16=i∧i≤n∧∀ k,k<i→openS S k=false,fun _ _ _ x16 _=>n - x16.toNat,⟨rfl,rfl,rfl,rfl,0,rfl,Nat.zero_le _,fun k hk=>absurd hk (Nat.not_lt_zero k)⟩,?_⟩
 rintro _ _ _ _ _ ⟨rfl,rfl,rfl,rfl,i,rfl,hi,hk⟩
 unfold F30_0B
 simp only [SS,New_eq,r1]
 by_cases e1:i<n
 case neg =>
  rw [if_neg (by omega)]
  exact h0 (freeS_none.2 fun k hkn=>hk k (by omega)) _ hk1
 rw [if_pos (by omega)]
 have t0:=hT.rd (j:=0) e1 (by decide) (v:=I (S i).1) rfl
 have t1:=hT.rd (j:=1) e1 (by decide) (v:=.bool (S i).2.isSome) rfl
 simp only [Nat.add_zero] at t0
 have next:openS S i=false→(∃ j:Nat,IntKind.i64.wrap ((i:Int)+1)=j∧j≤n∧∀ k,k<j→openS S k=false)∧n - (IntKind.i64.wrap ((i:Int)+1)).toNat<n - (i:Int).toNat:=by
  intro ho
  have hw:IntKind.i64.wrap ((i:Int)+1)=((i+1:Nat):Int):=by rw [IntKind.wrap_i64]; omega
  rw [hw]
  refine ⟨⟨i+1,rfl,by omega,fun k hk'=>?_⟩,by omega⟩
  rcases Nat.lt_or_ge k i with h | h
  ·exact hk k h
  ·have:k=i:=by omega
   subst this; exact ho
 simp only [SS,New_eq,Ix_c e1,t0,t1]
 cases e2:(S i).2.isSome with
 | true=>simp only [SS,New_eq]; have:=next (by simp [openS,e2]); exact ⟨this.1,this.2⟩
 | false =>
  simp only [SS,New_eq]
  by_cases e3:(S i).1≤1023
  case neg=>rw [if_neg e3]; have:=next (by simp [openS,e3]); exact ⟨this.1,this.2⟩
  rw [if_pos e3]
  have s1:=hT.set (by decide) (j:=1) e1 (by decide) (.bool true)
  simp only [hT.st (j:=1) e1 (by decide) (.bool true) rfl]
  have s2:=s1.set (by decide) (j:=2) e1 (by decide) (.pointer p)
  simp only [s1.st (j:=2) e1 (by decide) (.pointer p) rfl]
  obtain ⟨w2,hw2⟩:∃ x,x=((w1.setCell ⟨L,i*3+1,none⟩ (.bool true)).setCell ⟨L,i*3+2,none⟩ (.pointer p)):=⟨_,rfl⟩
  have hkp:Kp (·=L) w1 w2:=by rw [hw2]; exact (Kp.set (·=L) _ _ fun _=>rfl).trans (Kp.set (·=L) _ _ fun _=>rfl)
  rw [← hw2] at s2 ⊢
  have e2':(S i).2=none:=by cases h:(S i).2 <;> simp_all
  have hT2:Tab w2 199 201 3 n kind b L (fun k=>slotC ptC [.pointer none] (upd1 S i ((S i).1,some p) k)):=by
   refine s2.congr (fun k hk=>?_) (fun k=>?_)
   ·by_cases h:k=i
    ·subst h; simp [upd1_same,slotC,e2',over,ptC]
    ·simp [upd1_ne _ _ h]
   ·exact lenPt _
  refine k80 hT2 e1 ?_
  intro d
  simp only [SS,New_eq,upd1_same]
  have hf:freeS S n=some i:=freeS_some.2 ⟨e1,by simp [openS,e2,e3],fun k hk'=>hk k hk'⟩
  exact h1 i e1 hf _ (((hk1.mono fun _ _ x=>x.elim).trans hkp).drR d) (hT2.dr d)
theorem k280 {S:Slots (Option Addr)} {n b L:Nat} {kind h:Int} (hT:Tab w 199 201 3 n kind b L (fun i=>slotC ptC [.pointer none] (S i))) (h0:findS S kind n h=none→∀ d,K (Er 20) (dr w d))
  (h1:∀ i,i<n→findS S kind n h=some i→∀ w',Kp (·=L) w w'→Tab w' 199 201 3 n kind b L (fun k=>slotC ptC [.pointer none] (upd1 S i (IntKind.i64.wrap ((S i).1+1),none) k))→K .nilIface w') :
  Ct Tryz.prog 280 #[Pt b 0,I h] w K:=by
 refine c280 ?_
 unfold F280
 refine k277 hT (fun e d=>?_) (fun i hi e d=>?_)
 ·simp only [SS,New_eq]; exact h0 e d
 ·have t0:=hT.rd (j:=0) hi (by decide) (v:=I (S i).1) rfl
  have s0:=hT.sa (j:=0) (m:=3) hi (by decide) #[I (IntKind.i64.wrap ((S i).1+1)),.bool false,.pointer none] rfl (by simp [oneCell])
  have s1:=hT.setCs (by decide) (j:=0) hi [I (IntKind.i64.wrap ((S i).1+1)),.bool false,.pointer none] (by simp)
  simp only [Nat.add_zero] at t0 s0 s1
  simp only [SS,New_eq,t0]
  rw [s0]
  refine h1 i hi e _ ((Kp.setCs (·=L) _ _ _ fun _=>rfl).drR d) ((s1.congr (fun k hk=>?_) (fun k=>lenPt _)).dr d)
  by_cases h:k=i
  ·subst h; cases e:(S k).2 <;> simp [upd1_same,slotC,over,e,ptC]
  ·simp [upd1_ne _ _ h]
theorem k222 {S:Slots (Option Addr)} {n b L:Nat} {kind:Int} (hT:Tab w 199 201 3 n kind b L (fun i=>slotC ptC [.pointer none] (S i))) (hn:n≤4096)
  (h:∀ a l c w',Kp No w w'→w'.ownsRow w.heap.size 33 1 (.slice a l c) (allS S kind n).length ((allS S kind n).map I)→K (.slice a l c) w'):Ct Tryz.prog 222 #[Pt b 0] w K:=by
 refine c222 ?_
 unfold F222
 obtain ⟨i42,z42,E42⟩:=e42
 have r1:=hT.hd.rd (o:=1) (v:=.slice (some ⟨L,0,none⟩) n n) rfl
 simp only [SS,New_eq,r1]
 unfold F222_0
 refine ⟨fun y0 a3 l3 c3 a11 l11 c11 x12 x13 w'=>y0=some ⟨b,0,none⟩∧a11=some ⟨L,0,none⟩∧n=l11∧n=c11∧x12=n∧Kp No w w'∧∃ i:Nat,x13=i∧i≤n ∧
  w'.ownsRow w.heap.size 33 1 (.slice a3 l3 c3) (allS S kind i).length ((allS S kind i).map I),fun _ _ _ _ _ _ _ _ x13 _=>n - x13.toNat,⟨rfl,rfl,rfl,rfl,rfl,Kp.refl _ _,0,rfl,Nat.zero_le _,World.ownsRow_nil _ _ _ _⟩,?_⟩
 rintro _ a3 l3 c3 _ _ _ _ _ w' ⟨rfl,rfl,rfl,rfl,rfl,hk,i,rfl,hi,ho⟩
 unfold F222_0B
 simp only [SS,New_eq]
 by_cases e1:i<n
 case neg =>
  rw [if_neg (by omega)]
  have:i=n:=by omega
  subst this
  exact h _ _ _ _ hk ho
 rw [if_pos (by omega)]
 have hT':=hT.kp hk id id
 have la:=hT'.la (j:=0) (m:=3) e1 (by decide)
 simp only [Nat.add_zero] at la
 simp only [Ix_c e1,SS,New_eq,la]
 have hw:IntKind.i64.wrap ((i:Int)+1)=((i+1:Nat):Int):=by rw [IntKind.wrap_i64]; omega
 have hB:=bk_alloc w' [I 0,.bool false,.pointer none] 201
 have hdt:List.take 3 (List.drop 0 (slotC ptC [.pointer none] (S i)))=slotC ptC [.pointer none] (S i):=by rw [List.drop_zero,List.take_of_length_le (by rw [lenPt _]; omega)]
 rw [hdt]
 have sa:=hB.sa (o:=0) (n:=3) (slotC ptC [.pointer none] (S i)).toArray (by simpa using lenPt _) (by simp) (onePt (S i))
 rw [sa]
 have hB2:=hB.setCs 0 (slotC ptC [.pointer none] (S i))
 have hov:over [I 0,.bool false,.pointer none] 0 (slotC ptC [.pointer none] (S i))=slotC ptC [.pointer none] (S i):=by unfold slotC; split <;> rfl
 rw [show (slotC ptC [.pointer none] (S i)).toArray.toList=slotC ptC [.pointer none] (S i) from rfl]
 rw [hov] at hB2
 obtain ⟨w2,hw2⟩:∃ x,x=setCs (w'.alloc (.cells [I 0,.bool false,.pointer none].toArray 201)) w'.heap.size 0 (slotC ptC [.pointer none] (S i)):=⟨_,rfl⟩
 rw [← hw2] at hB2 ⊢
 have hk2:Kp No w' w2:=by rw [hw2]; exact (Kp.alloc No _ _).step (Kp.setCs (·=w'.heap.size) _ _ _ fun _=>rfl) fun i hi h=>by omega
 have rr:=hB2.rd (o:=1) (v:=.bool (S i).2.isSome) rfl
 simp only [SS,New_eq,rr]
 have hT2:=hT'.kp hk2 id id
 cases e2:(S i).2.isSome with
 | false =>
  simp only [SS,New_eq]
  refine ⟨⟨hk.trans hk2,i+1,hw,by omega,?_⟩,?_⟩
  ·rw [allS_no e2]; exact own_kp ho hk2 fun _ _=>id
  ·rw [hw]; simp only [Int.toNat_natCast]; omega
 | true =>
  simp only [SS,New_eq]
  refine k80 hT2 e1 fun d=>?_
  simp only [SS,New_eq]
  have ho2:=own_kp ho hk2 (fun _ _=>id)
  refine app1 E42 (own_dr (d:=d) ho2) (by have:=hk.size; have:=hk2.size; show w.heap.size≤w2.heap.size; omega) (by have:=allS_len S kind i; omega) rfl (by simp [Value.cells,Value.oneCell']) fun g c' w3 hg ho3 hk3=>?_
  refine ⟨⟨?_,i+1,hw,by omega,?_⟩,?_⟩
  ·exact (hk.trans (hk2.drR d)).step hk3 fun b hb hs=>by have:=(own_lt ho hs).1; omega
  ·rw [allS_yes e2]; simpa [nameS,Value.cells] using ho3
  ·rw [hw]; simp only [Int.toNat_natCast]; omega
theorem k180 {S:Slots (Option Addr)} {n b L:Nat} {kind h:Int} (hT:Tab w 199 201 3 n kind b L (fun i=>slotC ptC [.pointer none] (S i))) (h0:findS S kind n h=none→∀ d,K (.tuple #[.pointer none,Er 20]) (dr w d))
  (h1:∀ i p,i<n→findS S kind n h=some i→(S i).2=some p→∀ d,K (.tuple #[.pointer p,.nilIface]) (dr w d)):Ct Tryz.prog 180 #[Pt b 0,I h] w K:=by
 refine c180 ?_
 unfold F180
 refine k277 hT (fun e d=>?_) (fun i hi e d=>?_)
 ·simp only [SS,New_eq]; exact h0 e d
 ·obtain ⟨p,hp⟩:=findS_some e
  have t0:=hT.rd (j:=2) hi (by decide) (v:=.pointer p) (by simp [slotC,hp,ptC])
  simp only [SS,New_eq,t0]
  exact h1 i p hi e hp d
theorem k314 {S:Slots TkV} {n b L:Nat} {kind h:Int} (hT:Tab w 311 313 10 n kind b L (fun i=>slotC TkV.cells zT (S i))) (h0:findS S kind n h=none→∀ d,K (.tuple #[.pointer none,Er 20]) (dr w d))
  (h1:∀ i,i<n→findS S kind n h=some i→∀ d,K (.tuple #[Pt L (i*10),.nilIface]) (dr w d)):Ct Tryz.prog 314 #[Pt b 0,I h] w K:=by
 refine c314 ?_
 unfold F314
 have r0:=hT.hd.rd (o:=0) (v:=I kind) rfl
 have r1:=hT.hd.rd (o:=1) (v:=.slice (some ⟨L,0,none⟩) n n) rfl
 have q0:=hT.hd.hc (o:=0) (v:=I kind) rfl
 have q1:=hT.hd.hc (o:=1) (v:=.slice (some ⟨L,0,none⟩) n n) rfl
 unfold findS at h0 h1
 simp only [SS,New_eq,r0]
 refine k345 ?_
 simp only [SS,New_eq,q0]
 by_cases e1:kindH h=kind
 case neg=>rw [if_neg e1]; rw [if_neg (fun x=>e1 x.1)] at h0; exact h0 rfl _
 rw [if_pos e1]
 refine k268 ?_
 simp only [SS,New_eq,r1]
 by_cases e2:slotH h<0
 case pos=>rw [if_pos e2]; rw [if_neg (by omega)] at h0; exact h0 rfl _
 rw [if_neg e2]
 by_cases e3:slotH h≥n
 case pos=>rw [if_pos e3]; rw [if_neg (by omega)] at h0; exact h0 rfl _
 rw [if_neg e3]
 obtain ⟨i,hi⟩:∃ i:Nat,slotH h=i:=⟨(slotH h).toNat,by omega⟩
 have hin:i<n:=by omega
 have ix:∀ k:Addr→Prop,Ix (some ⟨L,0,none⟩) n (slotH h) 10 k=k ⟨L,i*10,none⟩:=fun k=>by rw [hi]; exact Ix_c hin k
 have t0:=hT.rd (j:=0) hin (by decide) (v:=I (S i).1) rfl
 have t1:=hT.rd (j:=1) hin (by decide) (v:=.bool (S i).2.isSome) rfl
 have u0:=hT.hc (j:=0) hin (by decide) (v:=I (S i).1) rfl
 simp only [Nat.add_zero] at t0 u0
 rw [hi,Int.toNat_natCast] at h0 h1
 simp only [ix,SS,New_eq,t1]
 cases e4:(S i).2.isSome with
 | false=>rw [if_neg (by simp [e4])] at h0; exact h0 rfl _
 | true =>
  simp only [SS,New_eq,t0]
  refine k346 ?_
  simp only [SS,New_eq,u0,q1,r1,ix]
  by_cases e5:(S i).1=genH h
  case neg=>rw [if_neg e5]; rw [if_neg (fun x=>e5 x.2.2.2.2)] at h0; exact h0 rfl _
  rw [if_pos e5]
  rw [if_pos ⟨e1,by omega,by omega,e4,e5⟩] at h1
  exact h1 i hin rfl _
theorem k303 {S:Slots TkV} {n b L i:Nat} {kind:Int} (hT:Tab w 311 313 10 n kind b L (fun i=>slotC TkV.cells zT (S i))) (hi:i<n)
  (h:∀ d,K (I (if okH kind i (S i).1=true then mkH kind i (S i).1 else 0)) (dr w d)):Ct Tryz.prog 303 #[Pt b 0,I i] w K:=by
 refine c303 ?_
 unfold F303
 have r0:=hT.hd.rd (o:=0) (v:=I kind) rfl
 have r1:=hT.hd.rd (o:=1) (v:=.slice (some ⟨L,0,none⟩) n n) rfl
 have t0:=hT.rd (j:=0) hi (by decide) (v:=I (S i).1) rfl
 simp only [Nat.add_zero] at t0
 simp only [SS,New_eq,r0,r1,Ix_c hi,t0]
 refine k163 ?_
 cases e:okH kind i (S i).1 with
 | true=>rw [if_pos rfl]; simp only [SS,New_eq]; have:=h (w.drawn+1); rw [e] at this; exact this
 | false=>rw [if_neg (by simp)]; simp only [SS,New_eq]; have:=h (w.drawn+1); rw [e] at this; exact this
theorem k209 {S:Slots TkV} {n b L:Nat} {kind:Int} (p:TkV) (hT:Tab w 311 313 10 n kind b L (fun i=>slotC TkV.cells zT (S i))) (hn:n≤4096)
  (h0:freeS S n=none→∀ w',Kp No w w'→K (.tuple #[I 0,Er 30]) w')
  (h1:∀ i,i<n→freeS S n=some i→∀ w',Kp (·=L) w w'→Tab w' 311 313 10 n kind b L (fun k=>slotC TkV.cells zT (upd1 S i ((S i).1,some p) k))→K (.tuple #[I (nameS kind i (S i).1),.nilIface]) w') :
  Ct Tryz.prog 209 #[Pt b 0,.agg p.cells.toArray] w K:=by
 refine c209 ?_
 unfold F209
 obtain ⟨w1,hw1⟩:∃ x,x=w.alloc (.cells p.cells.toArray 47):=⟨_,rfl⟩
 have hk1:Kp No w w1:=by rw [hw1]; exact Kp.alloc _ _ _
 have hB:Bk w1 w.heap.size p.cells 47:=by rw [hw1]; exact bk_alloc _ _ _
 have hLb:w.heap.size≠L:=fun e=>by have:=hT.row.lt; omega
 simp only [New_eq,agg_cells]
 rw [← hw1]
 replace hT:=hT.kp hk1 id id
 clear hw1
 have r1:=hT.hd.rd (o:=1) (v:=.slice (some ⟨L,0,none⟩) n n) rfl
 simp only [SS,New_eq,r1]
 unfold F209_0
 refine ⟨fun y0 y1 x15 x16 w'=>y0=some ⟨b,0,none⟩∧⟨w.heap.size,0,none⟩=y1∧x15=n∧w1=w'∧∃ i:Nat,x16=i∧i≤n∧∀ k,k<i→openS S k=false,fun _ _ _ x16 _=>n - x16.toNat,⟨rfl,rfl,rfl,rfl,0,rfl,Nat.zero_le _,fun k hk=>absurd hk (Nat.not_lt_zero k)⟩,?_⟩
 rintro _ _ _ _ _ ⟨rfl,rfl,rfl,rfl,i,rfl,hi,hk⟩
 unfold F209_0B
 simp only [SS,New_eq,r1]
 by_cases e1:i<n
 case neg =>
  rw [if_neg (by omega)]
  exact h0 (freeS_none.2 fun k hkn=>hk k (by omega)) _ hk1
 rw [if_pos (by omega)]
 have t0:=hT.rd (j:=0) e1 (by decide) (v:=I (S i).1) rfl
 have t1:=hT.rd (j:=1) e1 (by decide) (v:=.bool (S i).2.isSome) rfl
 simp only [Nat.add_zero] at t0
 have next:openS S i=false→(∃ j:Nat,IntKind.i64.wrap ((i:Int)+1)=j∧j≤n∧∀ k,k<j→openS S k=false)∧n - (IntKind.i64.wrap ((i:Int)+1)).toNat<n - (i:Int).toNat:=by
  intro ho
  have hw:IntKind.i64.wrap ((i:Int)+1)=((i+1:Nat):Int):=by rw [IntKind.wrap_i64]; omega
  rw [hw]
  refine ⟨⟨i+1,rfl,by omega,fun k hk'=>?_⟩,by omega⟩
  rcases Nat.lt_or_ge k i with h | h
  ·exact hk k h
  ·have:k=i:=by omega
   subst this; exact ho
 simp only [SS,New_eq,Ix_c e1,t0,t1]
 cases e2:(S i).2.isSome with
 | true=>simp only [SS,New_eq]; have:=next (by simp [openS,e2]); exact ⟨this.1,this.2⟩
 | false =>
  simp only [SS,New_eq]
  by_cases e3:(S i).1≤1023
  case neg=>rw [if_neg e3]; have:=next (by simp [openS,e3]); exact ⟨this.1,this.2⟩
  rw [if_pos e3]
  have s1:=hT.set (by decide) (j:=1) e1 (by decide) (.bool true)
  simp only [SS,New_eq,hB.la0 (n:=8) rfl,hT.st (j:=1) e1 (by decide) (.bool true) rfl]
  have b1:Bk (w1.setCell ⟨L,i*10+1,none⟩ (.bool true)) w.heap.size p.cells 47:=by rw [Bk,heap_set hLb]; exact hB
  simp only [SS,New_eq,b1.ha0 (n:=8) rfl]
  have s2:=s1.setCs (by decide) (j:=2) e1 p.cells (by simp [TkV.cells])
  simp only [SS,New_eq,s1.sa (j:=2) (m:=8) e1 (by decide) p.cells.toArray rfl p.one]
  obtain ⟨w2,hw2⟩:∃ x,x=setCs (w1.setCell ⟨L,i*10+1,none⟩ (.bool true)) L (i*10+2) p.cells:=⟨_,rfl⟩
  have hkp:Kp (·=L) w1 w2:=by rw [hw2]; exact (Kp.set (·=L) _ _ fun _=>rfl).trans (Kp.setCs (·=L) _ _ _ fun _=>rfl)
  rw [← hw2] at s2 ⊢
  have e2':(S i).2=none:=by cases h:(S i).2 <;> simp_all
  have hT2:Tab w2 311 313 10 n kind b L (fun k=>slotC TkV.cells zT (upd1 S i ((S i).1,some p) k)):=by
   refine s2.congr (fun k hk=>?_) (fun k=>?_)
   ·by_cases h:k=i
    ·subst h; simp [upd1_same,slotC,e2',over,TkV.cells,zT]
    ·simp [upd1_ne _ _ h]
   ·exact lenTk _
  refine k303 (hT2.dr _) e1 ?_
  intro d
  simp only [SS,New_eq,upd1_same]
  have hf:freeS S n=some i:=freeS_some.2 ⟨e1,by simp [openS,e2,e3],fun k hk'=>hk k hk'⟩
  exact h1 i e1 hf _ (((hk1.mono fun _ _ x=>x.elim).trans hkp).drR d) (hT2.dr d)
theorem k265 {S:Slots TkV} {n b L:Nat} {kind h:Int} (hT:Tab w 311 313 10 n kind b L (fun i=>slotC TkV.cells zT (S i))) (h0:findS S kind n h=none→∀ d,K (Er 20) (dr w d))
  (h1:∀ i,i<n→findS S kind n h=some i→∀ w',Kp (·=L) w w'→Tab w' 311 313 10 n kind b L (fun k=>slotC TkV.cells zT (upd1 S i (IntKind.i64.wrap ((S i).1+1),none) k))→K .nilIface w') :
  Ct Tryz.prog 265 #[Pt b 0,I h] w K:=by
 refine c265 ?_
 unfold F265
 refine k314 hT (fun e d=>?_) (fun i hi e d=>?_)
 ·simp only [SS,New_eq]; exact h0 e d
 ·have t0:=hT.rd (j:=0) hi (by decide) (v:=I (S i).1) rfl
  have s0:=hT.sa (j:=0) (m:=10) hi (by decide) #[I (IntKind.i64.wrap ((S i).1+1)),.bool false,I 0,.slice none 0 0,I 0,I 0,I 0,I 0,I 0,I 0] rfl (by simp [oneCell])
  have s1:=hT.setCs (by decide) (j:=0) hi [I (IntKind.i64.wrap ((S i).1+1)),.bool false,I 0,.slice none 0 0,I 0,I 0,I 0,I 0,I 0,I 0] (by simp)
  simp only [Nat.add_zero] at t0 s0 s1
  simp only [SS,New_eq,t0]
  rw [s0]
  refine h1 i hi e _ ((Kp.setCs (·=L) _ _ _ fun _=>rfl).drR d) ((s1.congr (fun k hk=>?_) (fun k=>lenTk _)).dr d)
  by_cases h:k=i
  ·subst h; cases e:(S k).2 <;> simp [upd1_same,slotC,over,e,TkV.cells,zT]
  ·simp [upd1_ne _ _ h]
theorem k220 {S:Slots TkV} {n b L:Nat} {kind:Int} (hT:Tab w 311 313 10 n kind b L (fun i=>slotC TkV.cells zT (S i))) (hn:n≤4096)
  (h:∀ a l c w',Kp No w w'→w'.ownsRow w.heap.size 33 1 (.slice a l c) (allS S kind n).length ((allS S kind n).map I)→K (.slice a l c) w'):Ct Tryz.prog 220 #[Pt b 0] w K:=by
 refine c220 ?_
 unfold F220
 obtain ⟨i42,z42,E42⟩:=e42
 have r1:=hT.hd.rd (o:=1) (v:=.slice (some ⟨L,0,none⟩) n n) rfl
 simp only [SS,New_eq,r1]
 unfold F220_0
 refine ⟨fun y0 a3 l3 c3 a11 l11 c11 x12 x13 w'=>y0=some ⟨b,0,none⟩∧a11=some ⟨L,0,none⟩∧n=l11∧n=c11∧x12=n∧Kp No w w'∧∃ i:Nat,x13=i∧i≤n ∧
  w'.ownsRow w.heap.size 33 1 (.slice a3 l3 c3) (allS S kind i).length ((allS S kind i).map I),fun _ _ _ _ _ _ _ _ x13 _=>n - x13.toNat,⟨rfl,rfl,rfl,rfl,rfl,Kp.refl _ _,0,rfl,Nat.zero_le _,World.ownsRow_nil _ _ _ _⟩,?_⟩
 rintro _ a3 l3 c3 _ _ _ _ _ w' ⟨rfl,rfl,rfl,rfl,rfl,hk,i,rfl,hi,ho⟩
 unfold F220_0B
 simp only [SS,New_eq]
 by_cases e1:i<n
 case neg =>
  rw [if_neg (by omega)]
  have:i=n:=by omega
  subst this
  exact h _ _ _ _ hk ho
 rw [if_pos (by omega)]
 have hT':=hT.kp hk id id
 have la:=hT'.la (j:=0) (m:=10) e1 (by decide)
 simp only [Nat.add_zero] at la
 simp only [Ix_c e1,SS,New_eq,la]
 have hw:IntKind.i64.wrap ((i:Int)+1)=((i+1:Nat):Int):=by rw [IntKind.wrap_i64]; omega
 have hB:=bk_alloc w' [I 0,.bool false,I 0,.slice none 0 0,I 0,I 0,I 0,I 0,I 0,I 0] 313
 have hdt:List.take 10 (List.drop 0 (slotC TkV.cells zT (S i)))=slotC TkV.cells zT (S i):=by rw [List.drop_zero,List.take_of_length_le (by rw [lenTk _]; omega)]
 rw [hdt]
 have sa:=hB.sa (o:=0) (n:=10) (slotC TkV.cells zT (S i)).toArray (by simpa using lenTk _) (by simp) (oneTk (S i))
 rw [sa]
 have hB2:=hB.setCs 0 (slotC TkV.cells zT (S i))
 have hov:over [I 0,.bool false,I 0,.slice none 0 0,I 0,I 0,I 0,I 0,I 0,I 0] 0 (slotC TkV.cells zT (S i))=slotC TkV.cells zT (S i):=by unfold slotC; split <;> rfl
 rw [show (slotC TkV.cells zT (S i)).toArray.toList=slotC TkV.cells zT (S i) from rfl]
 rw [hov] at hB2
 obtain ⟨w2,hw2⟩:∃ x,x=setCs (w'.alloc (.cells [I 0,.bool false,I 0,.slice none 0 0,I 0,I 0,I 0,I 0,I 0,I 0].toArray 313)) w'.heap.size 0 (slotC TkV.cells zT (S i)):=⟨_,rfl⟩
 rw [← hw2] at hB2 ⊢
 have hk2:Kp No w' w2:=by rw [hw2]; exact (Kp.alloc No _ _).step (Kp.setCs (·=w'.heap.size) _ _ _ fun _=>rfl) fun i hi h=>by omega
 have rr:=hB2.rd (o:=1) (v:=.bool (S i).2.isSome) rfl
 simp only [SS,New_eq,rr]
 have hT2:=hT'.kp hk2 id id
 cases e2:(S i).2.isSome with
 | false =>
  simp only [SS,New_eq]
  refine ⟨⟨hk.trans hk2,i+1,hw,by omega,?_⟩,?_⟩
  ·rw [allS_no e2]; exact own_kp ho hk2 fun _ _=>id
  ·rw [hw]; simp only [Int.toNat_natCast]; omega
 | true =>
  simp only [SS,New_eq]
  refine k303 hT2 e1 fun d=>?_
  simp only [SS,New_eq]
  have ho2:=own_kp ho hk2 (fun _ _=>id)
  refine app1 E42 (own_dr (d:=d) ho2) (by have:=hk.size; have:=hk2.size; show w.heap.size≤w2.heap.size; omega) (by have:=allS_len S kind i; omega) rfl (by simp [Value.cells,Value.oneCell']) fun g c' w3 hg ho3 hk3=>?_
  refine ⟨⟨?_,i+1,hw,by omega,?_⟩,?_⟩
  ·exact (hk.trans (hk2.drR d)).step hk3 fun b hb hs=>by have:=(own_lt ho hs).1; omega
  ·rw [allS_yes e2]; simpa [nameS,Value.cells] using ho3
  ·rw [hw]; simp only [Int.toNat_natCast]; omega
theorem k225 {S:Slots TkV} {n b L:Nat} {kind h:Int} (hT:Tab w 311 313 10 n kind b L (fun i=>slotC TkV.cells zT (S i))) (h0:findS S kind n h=none→∀ w',Kp No w w'→K (.tuple #[.agg zT.toArray,Er 20]) w')
  (h1:∀ i t,i<n→findS S kind n h=some i→(S i).2=some t→∀ w',Kp No w w'→K (.tuple #[.agg t.cells.toArray,.nilIface]) w'):Ct Tryz.prog 225 #[Pt b 0,I h] w K:=by
 refine c225 ?_
 unfold F225
 simp only [New_eq,agg_cells]
 obtain ⟨w1,hw1⟩:∃ x,x=w.alloc (.cells zT.toArray 47):=⟨_,rfl⟩
 have hk1:Kp No w w1:=by rw [hw1]; exact Kp.alloc _ _ _
 have hB:Bk w1 w.heap.size zT 47:=by rw [hw1]; exact bk_alloc _ _ _
 have hsz:w1.heap.size=w.heap.size+1:=by rw [hw1]; simp
 have hT1:=hT.kp hk1 id id
 show Ct _ _ _ (w.alloc (.cells zT.toArray 47)) _
 rw [← hw1]
 refine k314 hT1 (fun e d=>?_) (fun i hi e d=>?_)
 ·simp only [SS,New_eq]
  have hB2:Bk ((dr w1 d).alloc (.cells zT.toArray 47)) w1.heap.size zT 47:=bk_alloc (dr w1 d) zT 47
  have hk2:Kp No w1 ((dr w1 d).alloc (.cells zT.toArray 47)):=(Kp.alloc No (dr w1 d) _).drL d
  have hB1:=hk2.bk hB id
  show La 8 ⟨w1.heap.size,0,none⟩ ((dr w1 d).alloc (.cells zT.toArray 47)) fun cs=>Sa 8 ⟨w.heap.size,0,none⟩ cs ((dr w1 d).alloc (.cells zT.toArray 47)) _
  obtain ⟨w2,hw2⟩:∃ x,x=(dr w1 d).alloc (.cells zT.toArray 47):=⟨_,rfl⟩
  rw [← hw2] at hB1 hB2 hk2 ⊢
  simp only [hB2.la0 (n:=8) rfl]
  rw [Bk.sa (c:=zT) (o:=0) (n:=8) hB1 _ rfl (by decide) (by simp [zT,oneCell])]
  have hB3:=Bk.setCs (c:=zT) hB1 0 zT
  rw [res_ag (n:=8) ld47 hB3 rfl]
  exact h0 e _ ((hk1.trans hk2).step (Kp.setCs (·=w.heap.size) _ _ _ fun _=>rfl) fun b hb h=>by omega)
 ·obtain ⟨t,ht⟩:=findS_some e
  have t0:=hT1.la (j:=2) (m:=8) hi (by decide)
  have hdt:List.take 8 (List.drop 2 (slotC TkV.cells zT (S i)))=t.cells:=by simp [slotC,ht,TkV.cells]
  simp only [SS,New_eq,t0]
  rw [hdt,Bk.sa (c:=zT) (o:=0) (n:=8) hB _ rfl (by decide) t.one]
  have hB3:=Bk.setCs (c:=zT) hB 0 t.cells
  have hov:over zT 0 t.cells=t.cells:=by simp [zT,TkV.cells,over]
  rw [hov] at hB3
  have hk3:Kp No w (setCs w1 w.heap.size 0 t.cells):=hk1.step (Kp.setCs (·=w.heap.size) _ _ _ fun _=>rfl) fun b hb h=>by omega
  rw [show t.cells.toArray.toList=t.cells from rfl]
  obtain ⟨w2,hw2⟩:∃ x,x=setCs w1 w.heap.size 0 t.cells:=⟨_,rfl⟩
  rw [← hw2] at hB3 hk3 ⊢
  have hB4:Bk (dr w2 d) w.heap.size t.cells 47:=hB3
  rw [res_ag (n:=8) ld47 hB4 t.len]
  exact h1 i t hi e ht _ (hk3.drR d)
theorem k267 {S:Slots TkV} {n b L:Nat} {kind h:Int} {t:TkV} (hT:Tab w 311 313 10 n kind b L (fun i=>slotC TkV.cells zT (S i))) (h0:findS S kind n h=none→∀ w',Kp No w w'→K (Er 20) w')
  (h1:∀ i,i<n→findS S kind n h=some i→∀ w',Kp (·=L) w w'→Tab w' 311 313 10 n kind b L (fun k=>slotC TkV.cells zT (upd1 S i ((S i).1,some t) k))→K .nilIface w'):Ct Tryz.prog 267 #[Pt b 0,I h,.agg t.cells.toArray] w K:=by
 refine c267 ?_
 unfold F267
 simp only [New_eq,agg_cells]
 obtain ⟨w1,hw1⟩:∃ x,x=w.alloc (.cells t.cells.toArray 47):=⟨_,rfl⟩
 have hk1:Kp No w w1:=by rw [hw1]; exact Kp.alloc _ _ _
 have hB:Bk w1 w.heap.size t.cells 47:=by rw [hw1]; exact bk_alloc _ _ _
 have hT1:=hT.kp hk1 id id
 rw [← hw1]
 refine k314 hT1 (fun e d=>?_) (fun i hi e d=>?_)
 ·simp only [SS,New_eq]; exact h0 e _ (hk1.drR d)
 ·obtain ⟨t',ht'⟩:=findS_some e
  have s1:=hT1.setCs (by decide) (j:=2) hi t.cells (by simp [TkV.cells])
  simp only [SS,New_eq,hB.la0 (n:=8) rfl,hT1.sa (j:=2) (m:=8) hi (by decide) t.cells.toArray rfl t.one]
  refine h1 i hi e _ (((hk1.mono fun _ _ x=>x.elim).trans (Kp.setCs (·=L) _ _ _ fun _=>rfl)).drR d) ((s1.congr (fun k hk=>?_) (fun k=>lenTk _)).dr d)
  by_cases h:k=i
  ·subst h; simp [upd1_same,slotC,ht',over,TkV.cells]
  ·simp [upd1_ne _ _ h]
end
end Go.Proofs.YtbgbidpecmepmaaGreatDoor
