/-
  A text's lines; A text's lines; what they compile to; Compile; Appending: in place, or into a new row; Run: a row of steps played, and what is told of each; The two texts of works: their lines, and what they compile to; What works plays, as functions of kernels and names.
-/
import Derived.Test.YtbgbidpecmepmaaGreatDoorM25
set_option maxRecDepth 100000
namespace Go.Proofs.YtbgbidpecmepmaaGreatDoor
section
open Sy
def F231 (R:Ko) (x0:Int) (w:World):Prop:=Ifm ((x0:Int) == 32) (R (.bool true) w) (Ifm ((x0:Int) == 9) (R (.bool true) w) (Ifm (decide ((x0:Int) > 32)) (R (.bool (decide ((x0:Int)<127))) w) (R (.bool false) w)))
noncomputable def b231:Code:=Tryz.f231.body.getD .skip
theorem c231 {R:Ko} {x0:Int} {w:World} (h:F231 R x0 w):Ct Tryz.prog 231 #[.int .u8 x0] w R :=
 ctS (args:=[.int .u8 x0]) (body:=b231) (n:=17) (rs:=[.tmp 2]) Tryz.func231
  (sg (cuts:=[]) trivial h)
def F156_1B (R:Ko) (C1:Option Addr→Nat→Nat→Option Addr→Nat→Nat→Int→Int→World→Prop) (a5:Option Addr) (l5 c5:Nat) (a20:Option Addr) (l20 c20:Nat) (x21:Int) (x22:Int) (w:World):Prop:=Ifm (decide ((x22:Int)<x21)) (Ix a20 l20 x22 1 fun x24=>Lc x24 w fun v25=>onS v25 fun x25=>Is x25 0 fun x27=>Ifm ((x27:Int) == 35) (R (.tuple #[.slice a5 l5 c5,.bool true]) w) (Rv Tryz.prog (Instr.buildSlice 102 1 #[(0,.string x25)]) w fun v31 w3=>onL v31 fun a31 l31 c31=>Rv Tryz.prog (Builtin.append_ #[102,102] 102 #[.slice a5 l5 c5,.slice a31 l31 c31]) w3 fun v32 w4=>onL v32 fun a32 l32 c32=>C1 a32 l32 c32 a20 l20 c20 x21 (IntKind.i64.wrap (x22+1)) w4)) (R (.tuple #[.slice a5 l5 c5,.bool true]) w)
def F156_1 (R:Ko) (a5:Option Addr) (l5 c5:Nat) (a20:Option Addr) (l20 c20:Nat) (x21:Int) (x22:Int) (w:World):Prop:=∃ (Inv:Option Addr→Nat→Nat→Option Addr→Nat→Nat→Int→Int→World→Prop) (μ:Option Addr→Nat→Nat→Option Addr→Nat→Nat→Int→Int→World→Nat),Inv a5 l5 c5 a20 l20 c20 x21 x22 w∧∀ a5 l5 c5 a20 l20 c20 x21 x22 w,Inv a5 l5 c5 a20 l20 c20 x21 x22 w→F156_1B R (fun a5' l5' c5' a20' l20' c20' x21' x22' w'=>Inv a5' l5' c5' a20' l20' c20' x21' x22' w'∧μ a5' l5' c5' a20' l20' c20' x21' x22' w'<μ a5 l5 c5 a20 l20 c20 x21 x22 w) a5 l5 c5 a20 l20 c20 x21 x22 w
def F156_0B (R:Ko) (C0:ByteArray→Int→Int→World→Prop) (x0:ByteArray) (x9:Int) (x10:Int) (w:World):Prop:=Ifm (decide ((x10:Int)<x9)) (Is x0 x10 fun x15=>Ct Tryz.prog 231 #[.int .u8 x15] w fun v16 w1=>onB v16 fun x16=>Ifm (!x16) (R (.tuple #[.slice none 0 0,.bool false]) w1) (C0 x0 x9 (IntKind.i64.wrap (x10+1)) w1)) (Ct Tryz.prog 232 #[.string x0,.func (.func 233) #[] #[]] w fun v20 w2=>onL v20 fun a20 l20 c20=>F156_1 R none 0 0 a20 l20 c20 (l20:Nat) 0 w2)
def F156_0 (R:Ko) (x0:ByteArray) (x9:Int) (x10:Int) (w:World):Prop:=∃ (Inv:ByteArray→Int→Int→World→Prop) (μ:ByteArray→Int→Int→World→Nat),Inv x0 x9 x10 w∧∀ x0 x9 x10 w,Inv x0 x9 x10 w→F156_0B R (fun x0' x9' x10' w'=>Inv x0' x9' x10' w'∧μ x0' x9' x10' w'<μ x0 x9 x10 w) x0 x9 x10 w
def F156 (R:Ko) (x0:ByteArray) (w:World):Prop:=F156_0 R x0 (x0.size:Nat) 0 w
noncomputable def b156:Code:=Tryz.f156.body.getD .skip
def q156_1:List Bool:=[false,true,false,true,true,true]
def L156_1 (F:Option Addr→Nat→Nat→Option Addr→Nat→Nat→Int→Int→World→Prop):Env→World→Prop:=fun ρ w=>onL (ρ 5) fun a5 l5 c5=>onL (ρ 20) fun a20 l20 c20=>onI (ρ 21) fun x21=>onI (ρ 22) fun x22=>F a5 l5 c5 a20 l20 c20 x21 x22 w
def q156_0:List Bool:=[false,true,false,true]
def L156_0 (F:ByteArray→Int→Int→World→Prop):Env→World→Prop:=fun ρ w=>onS (ρ 0) fun x0=>onI (ρ 9) fun x9=>onI (ρ 10) fun x10=>F x0 x9 x10 w
abbrev T156 (z:Fr) (R:Ko) (p:List Bool) (ρ:Env) (w:World):Prop:=TW z Tryz.prog 35 (segTodo b156 p) (QR Tryz.prog [.tmp 2,.tmp 3] R) ρ w
theorem s156_1 (R:Ko):∀ ρ w,(L156_1 (F156_1 R)) ρ w→T156 z0 R q156_1 ρ w:=by
 intro ρ w h
 obtain ⟨a5,l5,c5,e5,h⟩:=onL_of h
 obtain ⟨a20,l20,c20,e20,h⟩:=onL_of h
 obtain ⟨x21,e21,h⟩:=onI_of h
 obtain ⟨x22,e22,h⟩:=onI_of h
 obtain ⟨Inv,μ,hi,hb⟩:=h
 refine lpT (fun m=>L156_1 (fun a5 l5 c5 a20 l20 c20 x21 x22 w=>Inv a5 l5 c5 a20 l20 c20 x21 x22 w∧μ a5 l5 c5 a20 l20 c20 x21 x22 w=m)) ?_ (μ a5 l5 c5 a20 l20 c20 x21 x22 w) ρ w ?_
 ·intro m ρ w ih h
  obtain ⟨a5,l5,c5,e5,h⟩:=onL_of h
  obtain ⟨a20,l20,c20,e20,h⟩:=onL_of h
  obtain ⟨x21,e21,h⟩:=onI_of h
  obtain ⟨x22,e22,h⟩:=onI_of h
  obtain ⟨hv,hm⟩:=h
  subst hm
  have hh:=hb a5 l5 c5 a20 l20 c20 x21 x22 w hv
  obtain ⟨C1,hC⟩:∃ C,C=fun a5' l5' c5' a20' l20' c20' x21' x22' w'=>Inv a5' l5' c5' a20' l20' c20' x21' x22' w'∧μ a5' l5' c5' a20' l20' c20' x21' x22' w'<μ a5 l5 c5 a20 l20 c20 x21 x22 w:=⟨_,rfl⟩
  rw [← hC] at hh
  have h1:∀ ρ w,(L156_1 C1) ρ w→T156 z0 R q156_1 ρ w:=by
   intro ρ' w' h'
   refine ih ρ' w' ?_
   obtain ⟨a5',l5',c5',e5',h'⟩:=onL_of h'
   obtain ⟨a20',l20',c20',e20',h'⟩:=onL_of h'
   obtain ⟨x21',e21',h'⟩:=onI_of h'
   obtain ⟨x22',e22',h'⟩:=onI_of h'
   rw [hC] at h'
   refine ⟨_,h'.2,?_⟩
   simp only [e5',e20',e21',e22',L156_1,ons]
   exact ⟨h'.1,by trivial⟩
  rw [← upds_same (ρ:=ρ) [(5,.slice a5 l5 c5),(20,.slice a20 l20 c20),(21,.int .i64 x21),(22,.int .i64 x22)] (alc e5 (alc e20 (alc e21 (alc e22 aln))))]
  exact sg (cuts:=[(q156_1,L156_1 C1)]) ⟨h1,trivial⟩ hh
 ·simp only [e5,e20,e21,e22,L156_1,ons]
  exact ⟨hi,by trivial⟩
theorem s156_0 (R:Ko):∀ ρ w,(L156_0 (F156_0 R)) ρ w→T156 z0 R q156_0 ρ w:=by
 intro ρ w h
 obtain ⟨x0,e0,h⟩:=onS_of h
 obtain ⟨x9,e9,h⟩:=onI_of h
 obtain ⟨x10,e10,h⟩:=onI_of h
 obtain ⟨Inv,μ,hi,hb⟩:=h
 refine lpT (fun m=>L156_0 (fun x0 x9 x10 w=>Inv x0 x9 x10 w∧μ x0 x9 x10 w=m)) ?_ (μ x0 x9 x10 w) ρ w ?_
 ·intro m ρ w ih h
  obtain ⟨x0,e0,h⟩:=onS_of h
  obtain ⟨x9,e9,h⟩:=onI_of h
  obtain ⟨x10,e10,h⟩:=onI_of h
  obtain ⟨hv,hm⟩:=h
  subst hm
  have hh:=hb x0 x9 x10 w hv
  obtain ⟨C0,hC⟩:∃ C,C=fun x0' x9' x10' w'=>Inv x0' x9' x10' w'∧μ x0' x9' x10' w'<μ x0 x9 x10 w:=⟨_,rfl⟩
  rw [← hC] at hh
  have h0:∀ ρ w,(L156_0 C0) ρ w→T156 z0 R q156_0 ρ w:=by
   intro ρ' w' h'
   refine ih ρ' w' ?_
   obtain ⟨x0',e0',h'⟩:=onS_of h'
   obtain ⟨x9',e9',h'⟩:=onI_of h'
   obtain ⟨x10',e10',h'⟩:=onI_of h'
   rw [hC] at h'
   refine ⟨_,h'.2,?_⟩
   simp only [e0',e9',e10',L156_0,ons]
   exact ⟨h'.1,by trivial⟩
  rw [← upds_same (ρ:=ρ) [(0,.string x0),(9,.int .i64 x9),(10,.int .i64 x10)] (alc e0 (alc e9 (alc e10 aln)))]
  exact sg (cuts:=[(q156_1,L156_1 (F156_1 R)),(q156_0,L156_0 C0)]) ⟨s156_1 R,h0,trivial⟩ hh
 ·simp only [e0,e9,e10,L156_0,ons]
  exact ⟨hi,by trivial⟩
theorem c156 {R:Ko} {x0:ByteArray} {w:World} (h:F156 R x0 w):Ct Tryz.prog 156 #[.string x0] w R :=
 ctS (args:=[.string x0]) (body:=b156) (n:=35) (rs:=[.tmp 2,.tmp 3]) Tryz.func156
  (sg (cuts:=[(q156_0,L156_0 (F156_0 R))]) ⟨s156_0 R,trivial⟩ h)
def F75_0B (R:Ko) (C0:ByteArray→Option Addr→Nat→Nat→Int→World→Prop) (x0:ByteArray) (a5:Option Addr) (l5 c5:Nat) (x6:Int) (w:World):Prop:=Ifm (!(x0.toList == (⟨#[]⟩:ByteArray).toList)) (Ct Tryz.prog 155 #[.string x0,.string (⟨#[10]⟩)] w fun v22 w1=>on3 v22 fun y22_0 y22_1 y22_2=>onS y22_0 fun x22_0=>onS y22_1 fun x22_1=>onB y22_2 fun x22_2=>Ct Tryz.prog 157 #[.string x22_0,.string (⟨#[13]⟩)] w1 fun v28 w2=>onS v28 fun x28=>Ct Tryz.prog 156 #[.string x28] w2 fun v29 w3=>on2 v29 fun y29_0 y29_1=>onL y29_0 fun a29_0 l29_0 c29_0=>onB y29_1 fun x29_1=>Ifm (!x29_1) (R (.tuple #[.slice none 0 0,.int .i64 x6,.iface 129 (.int .i64 240)]) w3) (Ifm (decide (((l29_0:Nat):Int) > 0)) (Ifm (((l5:Nat):Int) == 4096) (R (.tuple #[.slice none 0 0,.int .i64 x6,.iface 129 (.int .i64 3)]) w3) (Rv Tryz.prog (Instr.buildSlice 186 1 #[(0,.agg #[.int .i64 x6,.slice a29_0 l29_0 c29_0])]) w3 fun v48 w4=>onL v48 fun a48 l48 c48=>Rv Tryz.prog (Builtin.append_ #[186,186] 186 #[.slice a5 l5 c5,.slice a48 l48 c48]) w4 fun v49 w5=>onL v49 fun a49 l49 c49=>C0 x22_1 a49 l49 c49 (IntKind.i64.wrap (x6+1)) w5)) (C0 x22_1 a5 l5 c5 (IntKind.i64.wrap (x6+1)) w3))) (R (.tuple #[.slice a5 l5 c5,.int .i64 0,.nilIface]) w)
def F75_0 (R:Ko) (x0:ByteArray) (a5:Option Addr) (l5 c5:Nat) (x6:Int) (w:World):Prop:=∃ (Inv:ByteArray→Option Addr→Nat→Nat→Int→World→Prop) (μ:ByteArray→Option Addr→Nat→Nat→Int→World→Nat),Inv x0 a5 l5 c5 x6 w∧∀ x0 a5 l5 c5 x6 w,Inv x0 a5 l5 c5 x6 w→F75_0B R (fun x0' a5' l5' c5' x6' w'=>Inv x0' a5' l5' c5' x6' w'∧μ x0' a5' l5' c5' x6' w'<μ x0 a5 l5 c5 x6 w) x0 a5 l5 c5 x6 w
def F75 (R:Ko) (x0:ByteArray) (w:World):Prop:=Ifm (decide (((x0.size:Nat):Int) > 1048576)) (R (.tuple #[.slice none 0 0,.int .i64 0,.iface 129 (.int .i64 3)]) w) (F75_0 R x0 none 0 0 1 w)
noncomputable def b75:Code:=Tryz.f75.body.getD .skip
def q75_0:List Bool:=[false,true,false,true,true,true]
def L75_0 (F:ByteArray→Option Addr→Nat→Nat→Int→World→Prop):Env→World→Prop:=fun ρ w=>onS (ρ 0) fun x0=>onL (ρ 5) fun a5 l5 c5=>onI (ρ 6) fun x6=>F x0 a5 l5 c5 x6 w
abbrev T75 (z:Fr) (R:Ko) (p:List Bool) (ρ:Env) (w:World):Prop:=TW z Tryz.prog 52 (segTodo b75 p) (QR Tryz.prog [.tmp 2,.tmp 3,.tmp 4] R) ρ w
theorem s75_0 (R:Ko):∀ ρ w,(L75_0 (F75_0 R)) ρ w→T75 z0 R q75_0 ρ w:=by
 intro ρ w h
 obtain ⟨x0,e0,h⟩:=onS_of h
 obtain ⟨a5,l5,c5,e5,h⟩:=onL_of h
 obtain ⟨x6,e6,h⟩:=onI_of h
 obtain ⟨Inv,μ,hi,hb⟩:=h
 refine lpT (fun m=>L75_0 (fun x0 a5 l5 c5 x6 w=>Inv x0 a5 l5 c5 x6 w∧μ x0 a5 l5 c5 x6 w=m)) ?_ (μ x0 a5 l5 c5 x6 w) ρ w ?_
 ·intro m ρ w ih h
  obtain ⟨x0,e0,h⟩:=onS_of h
  obtain ⟨a5,l5,c5,e5,h⟩:=onL_of h
  obtain ⟨x6,e6,h⟩:=onI_of h
  obtain ⟨hv,hm⟩:=h
  subst hm
  have hh:=hb x0 a5 l5 c5 x6 w hv
  obtain ⟨C0,hC⟩:∃ C,C=fun x0' a5' l5' c5' x6' w'=>Inv x0' a5' l5' c5' x6' w'∧μ x0' a5' l5' c5' x6' w'<μ x0 a5 l5 c5 x6 w:=⟨_,rfl⟩
  rw [← hC] at hh
  have h0:∀ ρ w,(L75_0 C0) ρ w→T75 z0 R q75_0 ρ w:=by
   intro ρ' w' h'
   refine ih ρ' w' ?_
   obtain ⟨x0',e0',h'⟩:=onS_of h'
   obtain ⟨a5',l5',c5',e5',h'⟩:=onL_of h'
   obtain ⟨x6',e6',h'⟩:=onI_of h'
   rw [hC] at h'
   refine ⟨_,h'.2,?_⟩
   simp only [e0',e5',e6',L75_0,ons]
   exact ⟨h'.1,by trivial⟩
  rw [← upds_same (ρ:=ρ) [(0,.string x0),(5,.slice a5 l5 c5),(6,.int .i64 x6)] (alc e0 (alc e5 (alc e6 aln)))]
  exact sg (cuts:=[(q75_0,L75_0 C0)]) ⟨h0,trivial⟩ hh
 ·simp only [e0,e5,e6,L75_0,ons]
  exact ⟨hi,by trivial⟩
theorem c75 {R:Ko} {x0:ByteArray} {w:World} (h:F75 R x0 w):Ct Tryz.prog 75 #[.string x0] w R :=
 ctS (args:=[.string x0]) (body:=b75) (n:=52) (rs:=[.tmp 2,.tmp 3,.tmp 4]) Tryz.func75
  (sg (cuts:=[(q75_0,L75_0 (F75_0 R))]) ⟨s75_0 R,trivial⟩ h)
def F76 (R:Ko) (x0:Int) (x1:Value) (w:World):Prop:=Nl x1 fun x6=>Ifm x6 (R (.nilIface) w) (Rd Tryz.prog (Instr.build 108 #[(0,.int .i64 x0),(1,x1)]) w fun v9=>onG v9 fun x9=>New (.cells (.agg x9:Value).cells 108) w fun x10 w1=>R (.iface 105 (.pointer (some x10))) w1)
noncomputable def b76:Code:=Tryz.f76.body.getD .skip
theorem c76 {R:Ko} {x0:Int} {x1:Value} {w:World} (h:F76 R x0 x1 w):Ct Tryz.prog 76 #[.int .i64 x0,x1] w R :=
 ctS (args:=[.int .i64 x0,x1]) (body:=b76) (n:=12) (rs:=[.tmp 4]) Tryz.func76
  (sg (cuts:=[]) trivial h)
variable {K:Ko} {w w':World}
def plB (b:UInt8):Bool:=decide (b.toNat=32) || decide (b.toNat=9) || (decide (32<b.toNat) && decide (b.toNat<127))
theorem k231 {b:UInt8} (h:plB b=true) (hR:K (.bool true) w):Ct Tryz.prog 231 #[.int .u8 b.toNat] w K:=by
 refine c231 ?_
 unfold F231
 simp only [SS]
 simp only [plB,Bool.or_eq_true,Bool.and_eq_true,decide_eq_true_eq] at h
 by_cases e1:(b.toNat:Int)=32
 ·rw [if_pos e1]; exact hR
 rw [if_neg e1]
 by_cases e2:(b.toNat:Int)=9
 ·rw [if_pos e2]; exact hR
 rw [if_neg e2,if_pos (by omega),show decide ((b.toNat:Int)<127)=true by simp; omega]
 exact hR
def headOk (f:ByteArray):Bool:=decide (0<f.size) && (match f.data.toList.head? with | some b => !decide (b.toNat=35) | none=>false)
theorem k156 {s:ByteArray} {fs:List ByteArray} (hs:s.size<1000) (hp:s.data.toList.all plB=true) (hf:Lib.goFieldsP blank s=fs) (hh:fs.all headOk=true) (hl:fs.length<1000)
  (hR:∀ a c w',Kp No w w'→w'.ownsRow w.heap.size 9 1 (.slice a fs.length c) fs.length (strs fs)→K (.tuple #[.slice a fs.length c,.bool true]) w'):Ct Tryz.prog 156 #[.string s] w K:=by
 refine c156 ?_
 unfold F156 F156_0
 refine ⟨fun x0 x9 x10 u=>s=x0∧x9=(s.size:Int)∧w=u∧0≤x10∧x10≤(s.size:Int),fun _ _ x10 _=>((s.size:Int) - x10).toNat,⟨rfl,rfl,rfl,by omega,by omega⟩,?_⟩
 rintro _ _ x10 _ ⟨rfl,rfl,rfl,q0,q1⟩
 unfold F156_0B
 simp only [SS]
 by_cases e:x10<(s.size:Int)
 ·rw [if_pos e]
  obtain ⟨i,rfl⟩:∃ i:Nat,x10=i:=⟨x10.toNat,by omega⟩
  refine byte_k (i:=i) (by omega) rfl fun b hb=>?_
  refine k231 (all_at hp hb) ?_
  simp only [SS]
  rw [wr1 (by omega) (by omega)]
  exact ⟨⟨by omega,by omega⟩,by omega⟩
 ·rw [if_neg e]
  refine k232 (by omega) hf fun A w1 k1 ho=>?_
  simp only [SS]
  unfold F156_1
  obtain ⟨i9,z9,E9⟩:=e102
  refine ⟨fun a5 l5 c5 a20 l20 c20 x21 x22 u=>a20=some ⟨A,0,none⟩∧fs.length=l20∧fs.length=c20∧x21=(fs.length:Int)∧Kp No w1 u∧0≤x22∧x22≤(fs.length:Int)∧(l5:Int)=x22∧u.ownsRow w1.heap.size 9 1 (.slice a5 l5 c5) l5 (strs (fs.take l5)),fun _ _ _ _ _ _ _ x22 _=>((fs.length:Int) - x22).toNat,
   ⟨rfl,rfl,rfl,rfl,Kp.refl _ _,by omega,by omega,rfl,World.ownsRow_nil _ _ _ _⟩,?_⟩
  rintro a5 l5 c5 _ _ _ _ x22 w2 ⟨rfl,rfl,rfl,rfl,k2,q2,q3,q4,ho5⟩
  unfold F156_1B
  simp only [SS]
  have k02:=k1.trans k2
  by_cases e2:x22<(fs.length:Int)
  ·rw [if_pos e2]
   obtain ⟨i,rfl⟩:∃ i:Nat,x22=i:=⟨x22.toNat,by omega⟩
   have hi:i<fs.length:=by omega
   have hil:l5=i:=by omega
   subst hil
   have ho2:=own_kp ho k2 fun _ _=>id
   refine ix_k rfl (by omega) ?_
   simp only [Nat.mul_one,SS]
   rw [own_lc ho2 (o:=l5) (v:=.string fs[l5]) (by omega) (by simp [strs,hi])]
   simp only [SS]
   have hd:=List.all_eq_true.1 hh _ (List.getElem_mem hi)
   simp only [headOk,Bool.and_eq_true,decide_eq_true_eq] at hd
   refine byte_k (i:=0) hd.1 rfl fun b hb=>?_
   have hb35:¬ (b.toNat:Int)=35:=by
    have h2:=hd.2
    have hh0:fs[l5].data.toList.head?=some b:=by rw [List.head?_eq_getElem?,Array.getElem?_toList]; exact hb
    rw [hh0] at h2
    simp at h2
    omega
   rw [if_neg hb35]
   refine app1 E9 ho5 k2.size (by omega) rfl (by simp [Value.cells,Value.oneCell']) fun g' c' w3 hg' ho3 hk3=>?_
   have k13:Kp No w1 w3:=k2.step hk3 fun b hb hs=>by have:=(own_lt ho5 hs).1; omega
   rw [wr1 (by omega) (by omega)]
   refine ⟨⟨k13,by omega,by omega,by omega,?_⟩,by omega⟩
   have e3:strs (fs.take (l5+1))=strs (fs.take l5)++[.string fs[l5]]:=by
    rw [List.take_add_one,List.getElem?_eq_getElem hi]
    unfold strs
    rw [List.map_append]; rfl
   rw [e3]
   exact ho3
  ·rw [if_neg e2]
   have:l5=fs.length:=by omega
   subst this
   rw [List.take_length] at ho5
   exact hR _ _ _ k02 (own_base ho5 k1.size)
end
section
open Sy
def F25_0B (R:Ko) (C0:Option Addr→Nat→Nat→Option Addr→Nat→Nat→Int→Int→World→Prop) (a7:Option Addr) (l7 c7:Nat) (a26:Option Addr) (l26 c26:Nat) (x27:Int) (x28:Int) (w:World):Prop:=Ifm (decide ((x28:Int)<x27)) (Ix a26 l26 x28 2 fun x30=>La 2 x30 w fun x31=>New (.cells (.agg #[.int .i64 0,.slice none 0 0]:Value).cells 191) w fun x9 w3=>Sa 2 x9 x31 w3 fun w4=>La 2 x9 w4 fun x33=>Ct Tryz.prog 77 #[.agg x33] w4 fun v34 w5=>on2 v34 fun y34_0 y34_1=>onG y34_0 fun x34_0=>New (.cells (.agg #[.int .i64 0,.int .i64 0,.string (⟨#[]⟩),.string (⟨#[]⟩),.int .i64 0,.int .i64 0,.int .i64 0,.int .i64 0,.int .i64 0,.int .i64 0,.int .i64 0]:Value).cells 53) w5 fun x10 w6=>Sa 11 x10 x34_0 w6 fun w7=>Nl y34_1 fun x38=>Ifm (!x38) (Lc (x9.add 0) w7 fun v40=>onI v40 fun x40=>Ct Tryz.prog 76 #[.int .i64 x40,y34_1] w7 fun v42 w8=>R (.tuple #[.slice none 0 0,v42]) w8) (La 11 x10 w7 fun x44=>Rv Tryz.prog (Instr.buildSlice 99 1 #[(0,.agg x44)]) w7 fun v45 w9=>onL v45 fun a45 l45 c45=>Rv Tryz.prog (Builtin.append_ #[99,99] 99 #[.slice a7 l7 c7,.slice a45 l45 c45]) w9 fun v46 w10=>onL v46 fun a46 l46 c46=>C0 a46 l46 c46 a26 l26 c26 x27 (IntKind.i64.wrap (x28+1)) w10)) (R (.tuple #[.slice a7 l7 c7,.nilIface]) w)
def F25_0 (R:Ko) (a7:Option Addr) (l7 c7:Nat) (a26:Option Addr) (l26 c26:Nat) (x27:Int) (x28:Int) (w:World):Prop:=∃ (Inv:Option Addr→Nat→Nat→Option Addr→Nat→Nat→Int→Int→World→Prop) (μ:Option Addr→Nat→Nat→Option Addr→Nat→Nat→Int→Int→World→Nat),Inv a7 l7 c7 a26 l26 c26 x27 x28 w∧∀ a7 l7 c7 a26 l26 c26 x27 x28 w,Inv a7 l7 c7 a26 l26 c26 x27 x28 w→F25_0B R (fun a7' l7' c7' a26' l26' c26' x27' x28' w'=>Inv a7' l7' c7' a26' l26' c26' x27' x28' w'∧μ a7' l7' c7' a26' l26' c26' x27' x28' w'<μ a7 l7 c7 a26 l26 c26 x27 x28 w) a7 l7 c7 a26 l26 c26 x27 x28 w
def F25 (R:Ko) (x0:ByteArray) (w:World):Prop:=Ct Tryz.prog 75 #[.string x0] w fun v14 w1=>on3 v14 fun y14_0 y14_1 y14_2=>onL y14_0 fun a14_0 l14_0 c14_0=>onI y14_1 fun x14_1=>Nl y14_2 fun x19=>Ifm (!x19) (Ifm ((x14_1:Int) == 0) (R (.tuple #[.slice none 0 0,y14_2]) w1) (Ct Tryz.prog 76 #[.int .i64 x14_1,y14_2] w1 fun v25 w2=>R (.tuple #[.slice none 0 0,v25]) w2)) (F25_0 R none 0 0 a14_0 l14_0 c14_0 (l14_0:Nat) 0 w1)
noncomputable def b25:Code:=Tryz.f25.body.getD .skip
def q25_0:List Bool:=[false,true,false,true,true,true,true]
def L25_0 (F:Option Addr→Nat→Nat→Option Addr→Nat→Nat→Int→Int→World→Prop):Env→World→Prop:=fun ρ w=>onL (ρ 7) fun a7 l7 c7=>onL (ρ 26) fun a26 l26 c26=>onI (ρ 27) fun x27=>onI (ρ 28) fun x28=>F a7 l7 c7 a26 l26 c26 x27 x28 w
abbrev T25 (z:Fr) (R:Ko) (p:List Bool) (ρ:Env) (w:World):Prop:=TW z Tryz.prog 49 (segTodo b25 p) (QR Tryz.prog [.tmp 2,.tmp 3] R) ρ w
theorem s25_0 (R:Ko):∀ ρ w,(L25_0 (F25_0 R)) ρ w→T25 z0 R q25_0 ρ w:=by
 intro ρ w h
 obtain ⟨a7,l7,c7,e7,h⟩:=onL_of h
 obtain ⟨a26,l26,c26,e26,h⟩:=onL_of h
 obtain ⟨x27,e27,h⟩:=onI_of h
 obtain ⟨x28,e28,h⟩:=onI_of h
 obtain ⟨Inv,μ,hi,hb⟩:=h
 refine lpT (fun m=>L25_0 (fun a7 l7 c7 a26 l26 c26 x27 x28 w=>Inv a7 l7 c7 a26 l26 c26 x27 x28 w∧μ a7 l7 c7 a26 l26 c26 x27 x28 w=m)) ?_ (μ a7 l7 c7 a26 l26 c26 x27 x28 w) ρ w ?_
 ·intro m ρ w ih h
  obtain ⟨a7,l7,c7,e7,h⟩:=onL_of h
  obtain ⟨a26,l26,c26,e26,h⟩:=onL_of h
  obtain ⟨x27,e27,h⟩:=onI_of h
  obtain ⟨x28,e28,h⟩:=onI_of h
  obtain ⟨hv,hm⟩:=h
  subst hm
  have hh:=hb a7 l7 c7 a26 l26 c26 x27 x28 w hv
  obtain ⟨C0,hC⟩:∃ C,C=fun a7' l7' c7' a26' l26' c26' x27' x28' w'=>Inv a7' l7' c7' a26' l26' c26' x27' x28' w'∧μ a7' l7' c7' a26' l26' c26' x27' x28' w'<μ a7 l7 c7 a26 l26 c26 x27 x28 w:=⟨_,rfl⟩
  rw [← hC] at hh
  have h0:∀ ρ w,(L25_0 C0) ρ w→T25 z0 R q25_0 ρ w:=by
   intro ρ' w' h'
   refine ih ρ' w' ?_
   obtain ⟨a7',l7',c7',e7',h'⟩:=onL_of h'
   obtain ⟨a26',l26',c26',e26',h'⟩:=onL_of h'
   obtain ⟨x27',e27',h'⟩:=onI_of h'
   obtain ⟨x28',e28',h'⟩:=onI_of h'
   rw [hC] at h'
   refine ⟨_,h'.2,?_⟩
   simp only [e7',e26',e27',e28',L25_0,ons]
   exact ⟨h'.1,by trivial⟩
  rw [← upds_same (ρ:=ρ) [(7,.slice a7 l7 c7),(26,.slice a26 l26 c26),(27,.int .i64 x27),(28,.int .i64 x28)] (alc e7 (alc e26 (alc e27 (alc e28 aln))))]
  exact sg (cuts:=[(q25_0,L25_0 C0)]) ⟨h0,trivial⟩ hh
 ·simp only [e7,e26,e27,e28,L25_0,ons]
  exact ⟨hi,by trivial⟩
theorem c25 {R:Ko} {x0:ByteArray} {w:World} (h:F25 R x0 w):Ct Tryz.prog 25 #[.string x0] w R :=
 ctS (args:=[.string x0]) (body:=b25) (n:=49) (rs:=[.tmp 2,.tmp 3]) Tryz.func25
  (sg (cuts:=[(q25_0,L25_0 (F25_0 R))]) ⟨s25_0 R,trivial⟩ h)
variable {K:Ko} {w w':World}
def sNl:ByteArray:=⟨#[10]⟩
def sCr:ByteArray:=⟨#[13]⟩
structure LineOk (s:ByteArray) (fs:List ByteArray) (rest:ByteArray):Prop where
 non:nonB s=true
 sz:s.size<1000
 ex:∃ (a t:ByteArray) (is:Bool),Lib.cut s.data.toList sNl.data.toList=(a.data.toList,rest.data.toList,is)∧a.size<1000∧Lib.trimSuffix a.data.toList sCr.data.toList=t.data.toList∧t.size<1000∧t.data.toList.all plB=true∧Lib.goFieldsP blank t=fs
 hd:fs.all headOk=true
 few:0<fs.length∧fs.length<1000
inductive Chain:ByteArray→List (List ByteArray)→Prop
 | nil {s:ByteArray}:nonB s=false→Chain s []
 | cons {s r:ByteArray} {fs:List ByteArray} {L:List (List ByteArray)}:LineOk s fs r→Chain r L→Chain s (fs :: L)
structure LnV where
 no:Int
 a:Option Addr
 l:Nat
 c:Nat
def LnV.cells (v:LnV):List Value:=[I v.no,.slice v.a v.l v.c]
def lnC (vs:List LnV):List Value:=vs.flatMap LnV.cells
theorem lnC_get:∀ (vs:List LnV) (i:Nat) (v:LnV),vs[i]?=some v→((lnC vs).drop (i*2)).take 2=v.cells
 | [],i,v,h=>by simp at h
 | t :: vs,0,v,h=>by
  simp only [List.getElem?_cons_zero,Option.some.injEq] at h
  subst h
  simp [lnC,LnV.cells]
 | t :: vs,i+1,v,h=>by
  have ih:=lnC_get vs i v (by simpa using h)
  rw [← ih]
  have:lnC (t :: vs)=t.cells++lnC vs:=by simp [lnC]
  rw [this,List.drop_append,List.drop_of_length_le (by simp [LnV.cells]; omega)]
  simp [LnV.cells,Nat.add_mul]
def LnAt (w:World) (B:Nat) (vs:List LnV) (L:List (List ByteArray)):Prop:=vs.length=L.length∧∀ (i:Nat) (v:LnV) (fs:List ByteArray),vs[i]?=some v→L[i]?=some fs→v.no=(i:Int)+1∧w.ownsRow B 9 1 (.slice v.a v.l v.c) fs.length (strs fs)
theorem LnAt.kp {S:Nat→Prop} {B:Nat} {vs:List LnV} {L:List (List ByteArray)} (h:LnAt w B vs L) (k:Kp S w w') (hs:∀ b,S b→∀ c,w.heap[b]?≠some (.cells c 9 (0,0))):LnAt w' B vs L :=
 ⟨h.1,fun i v fs h1 h2=>⟨(h.2 i v fs h1 h2).1,own_kp (h.2 i v fs h1 h2).2 k fun b hb hS=>by
  rcases own_bk (h.2 i v fs h1 h2).2 with ⟨ha,_⟩ | ⟨gg,cur,ha,_,_,hbb,_⟩
  ·rw [ha] at hb; cases hb
  ·rw [ha] at hb; injection hb with hb
   have hb:gg=b:=hb
   subst hb
   exact hs _ hS _ hbb⟩⟩
theorem e186:∃ i z,Elem Tryz.prog 186 191 2 i z:=elemB_of (by kernel_rfl)
theorem own_ne {B e sz n l c:Nat} {a:Option Addr} {xs:List Value} (h:w.ownsRow B e sz (.slice a l c) n xs) {e':Nat} (he:e≠e'):∀ b,(Value.slice a l c).ownBlock=some b→∀ cc,w.heap[b]?≠some (.cells cc e' (0,0)):=by
 intro b hb cc hcc
 rcases own_bk h with ⟨ha,_⟩ | ⟨gg,cur,ha,_,_,hbb,_⟩
 ·rw [ha] at hb; cases hb
 ·rw [ha] at hb; injection hb with hb
  have hb:gg=b:=hb
  subst hb
  rw [hbb] at hcc
  injection hcc with hcc
  injection hcc with _ hcc
  exact he hcc
set_option maxHeartbeats 2000000 in
theorem k75 {text:ByteArray} {L:List (List ByteArray)} (hm:M0 w) (hc:Chain text L) (hsz:text.size<1000) (hL:L.length<1000)
  (hR:∀ a c vs w',Kp No w w'→w'.ownsRow w.heap.size 191 2 (.slice a L.length c) L.length (lnC vs)→LnAt w' w.heap.size vs L→K (.tuple #[.slice a L.length c,I 0,.nilIface]) w'):Ct Tryz.prog 75 #[.string text] w K:=by
 refine c75 ?_
 unfold F75
 simp only [SS]
 rw [if_neg (by omega)]
 unfold F75_0
 obtain ⟨i1,z1,E1⟩:=e186
 refine ⟨fun x0 a5 l5 c5 x6 u=>Kp No w u∧∃ done rest vs,L=done++rest∧Chain x0 rest∧x6=(done.length:Int)+1∧l5=done.length∧u.ownsRow w.heap.size 191 2 (.slice a5 l5 c5) l5 (lnC vs)∧LnAt u w.heap.size vs done,fun _ _ _ _ x6 _=>((L.length:Int)+2 - x6).toNat,
  ⟨Kp.refl _ _,[],L,[],rfl,hc,rfl,rfl,World.ownsRow_nil _ _ _ _,rfl,fun i v fs h=>by simp at h⟩,?_⟩
 rintro x0 a5 l5 c5 x6 w1 ⟨k1,done,rest,vs,hdr,hch,rfl,rfl,ho,hat⟩
 unfold F75_0B
 cases hch with
 | nil hn =>
  have he:(x0.toList == (⟨#[]⟩:ByteArray).toList)=true:=by
   unfold nonB at hn
   cases e:(x0.toList == (⟨#[]⟩:ByteArray).toList) with
   | true=>rfl
   | false=>rw [e] at hn; cases hn
  rw [he]
  simp only [SS]
  rw [List.append_nil] at hdr
  subst hdr
  exact hR _ _ vs w1 k1 ho hat
 | cons hl hch =>
  rename_i r fs rest
  rw [nonB_eq hl.non]
  simp only [SS]
  obtain ⟨a,t,is,h1,h2,h3,h4,h5,h6⟩:=hl.ex
  have hdl:done.length<L.length:=by rw [hdr]; simp
  refine k155 (sep:=sNl) (hm.kp k1 id) (by have:=hl.sz; omega) h1 fun w2 k2=>?_
  simp only [SS]
  refine k157 (p:=sCr) (by omega) h3 ?_
  simp only [SS]
  refine k156 h4 h5 h6 hl.hd hl.few.2 fun aw cw w3 k3 how=>?_
  simp only [SS]
  rw [if_pos (by have:=hl.few.1; omega),if_neg (by omega)]
  have k13:=k2.trans k3
  have k03:=k1.trans k13
  have ho3:=own_kp ho k13 fun _ _=>id
  have hat3:=hat.kp k13 fun b hb=>hb.elim
  refine app1 E1 ho3 k03.size (by omega) (x:=.agg #[I ((done.length:Int)+1),.slice aw fs.length cw]) rfl (by simp [Value.cells,Value.oneCell']) fun g' c' w4 hg' ho4 hk4=>?_
  have k04:Kp No w w4:=k03.step hk4 fun b hb hs=>by have:=(own_lt ho3 hs).1; omega
  have hnn:=own_ne ho3 (e':=9) (by decide)
  have how4:=own_kp how hk4 fun b hb hS=>by
   rcases own_bk how with ⟨ha,_⟩ | ⟨gg,cur,ha,_,_,hbb,_⟩
   ·rw [ha] at hb; cases hb
   ·rw [ha] at hb; injection hb with hb
    have hb:gg=b:=hb
    subst hb
    exact hnn _ hS _ hbb
  have hat4:=hat3.kp hk4 hnn
  rw [wr1 (by omega) (by omega)]
  refine ⟨⟨k04,done++[fs],rest,vs++[⟨(done.length:Int)+1,aw,fs.length,cw⟩],by rw [hdr]; simp,hch,by simp,by simp,?_,by simp [hat4.1],fun i v fs' hi hf=>?_⟩,by omega⟩
  ·have e:lnC (vs++[⟨(done.length:Int)+1,aw,fs.length,cw⟩])=lnC vs++[I ((done.length:Int)+1),.slice aw fs.length cw]:=by simp [lnC,LnV.cells]
   rw [e]
   exact ho4
  ·by_cases e:i<done.length
   ·rw [List.getElem?_append_left (by rw [hat4.1]; exact e)] at hi
    rw [List.getElem?_append_left e] at hf
    exact hat4.2 i v fs' hi hf
   ·have hi2:i=done.length:=by
     have:=(List.getElem?_eq_some_iff.1 hf).1
     simp at this
     omega
    subst hi2
    rw [List.getElem?_append_right (by rw [hat4.1]; exact Nat.le_refl _),hat4.1,Nat.sub_self] at hi
    rw [List.getElem?_append_right (Nat.le_refl _),Nat.sub_self] at hf
    injection hi with hi
    injection hf with hf
    subst hi; subst hf
    exact ⟨rfl,own_base how4 (by have:=k1.size; have:=k2.size; omega)⟩
end
section
open Sy
variable {K:Ko} {w w':World}
theorem M0.lt (h:M0 w):2<w.heap.size:=by
 obtain ⟨m,hm⟩:=h
 refine Classical.byContradiction fun e=>?_
 unfold World.cell? at hm
 rw [Array.getElem?_eq_none (by simpa using e)] at hm
 cases hm
def OneY (no:Int) (fs:List ByteArray) (s:StV):Prop:=∃ (key:ByteArray) (kd n:Int) (f:Nat),fs[0]?=some key∧2≤fs.length∧gF key=some (fmV kd n f)∧goB f=true∧((0≤n∧n=((fs.length - 1:Nat):Int))∨(n<0∧2≤fs.length - 1))∧∀ g c,fs.length≤c→Reads f g 1 (fs.length - 1) (c - 1) (fs.drop 1) { zS with no:=no,k:=kd } s
def OneN (fs:List ByteArray):Prop:=∃ key:ByteArray,fs[0]?=some key∧2≤fs.length∧gF key=none
theorem e99:∃ i z,Elem Tryz.prog 99 53 11 i z:=elemB_of (by kernel_rfl)
theorem k76 {n e:Int} (hR:∀ w',Kp No w w'→Bk w' w.heap.size [I n,Er e] 108→K (.iface 105 (Pt w.heap.size 0)) w'):Ct Tryz.prog 76 #[I n,Er e] w K:=by
 refine c76 ?_
 unfold F76
 simp only [Nl_if,SS]
 rw [build_f (P:=Tryz.prog) (t:=108) (vals:=[(0,I n),(1,Er e)]) (v:=.agg [I n,Er e].toArray) (by kernel_rfl) (by kernel_rfl)]
 simp only [SS]
 exact new_k [I n,Er e] fun w1 k1 b1 s1=>hR w1 k1 b1
theorem ws_of {B l c:Nat} {a:Option Addr} {ts:List ByteArray} (h:w.ownsRow B 9 1 (.slice a l c) ts.length (strs ts)) (h0:0<ts.length):∃ g,a=some ⟨g,0,none⟩∧l=ts.length∧ts.length≤c∧Ws w g 0 ts.length ts:=by
 rcases own_bk h with ⟨_,_,_,h2,_⟩ | ⟨g,cur,rfl,rfl,_,hb,hnc,_⟩
 ·omega
 ·refine ⟨g,rfl,rfl,hnc,rfl,fun i t hi=>?_,hb.lt⟩
  have hl:=(List.getElem?_eq_some_iff.1 hi).1
  rw [Nat.zero_add,h.cellAt i (by omega)]
  simp [strs,hi]
set_option maxHeartbeats 4000000 in
theorem k25 {text:ByteArray} {L:List (List ByteArray)} {ss:List StV} (hm:M0 w) (hc:Chain text L) (hsz:text.size<1000) (hL:L.length<1000) (hle:ss.length≤L.length) (hy:∀ (i:Nat) fs s,L[i]?=some fs→ss[i]?=some s→OneY ((i:Int)+1) fs s)
  (h1:ss.length=L.length→∀ a c w',Kp No w w'→w'.ownsRow w.heap.size 53 11 (.slice a ss.length c) ss.length (stC ss)→K (.tuple #[.slice a ss.length c,.nilIface]) w')
  (h2:ss.length<L.length→(∀ fs,L[ss.length]?=some fs→OneN fs)∧∀ b w',Kp No w w'→Bk w' b [I ((ss.length:Int)+1),Er 250] 108→K (.tuple #[.slice none 0 0,.iface 105 (Pt b 0)]) w'):Ct Tryz.prog 25 #[.string text] w K:=by
 refine c25 ?_
 unfold F25
 refine k75 hm hc hsz hL fun a cc vs w1 k1 ho hat=>?_
 simp only [SS]
 unfold F25_0
 obtain ⟨i9,z9,E9⟩:=e99
 refine ⟨fun a7 l7 c7 a26 l26 c26 x27 x28 u=>a=a26∧L.length=l26∧cc=c26∧x27=(L.length:Int)∧Kp No w1 u∧0≤x28∧(l7:Int)=x28∧l7≤ss.length∧u.ownsRow w1.heap.size 53 11 (.slice a7 l7 c7) l7 (stC (ss.take l7)),fun _ _ _ _ _ _ _ x28 _=>((L.length:Int)+1 - x28).toNat,
  ⟨rfl,rfl,rfl,rfl,Kp.refl _ _,by omega,rfl,by omega,World.ownsRow_nil _ _ _ _⟩,?_⟩
 rintro a7 l7 c7 _ _ _ _ x28 w2 ⟨rfl,rfl,rfl,rfl,k2,q0,rfl,q2,ho7⟩
 unfold F25_0B
 simp only [SS]
 have k02:=k1.trans k2
 by_cases e:(l7:Int)<(L.length:Int)
 ·rw [if_pos e]
  have hlL:l7<L.length:=by omega
  have hlv:l7<vs.length:=by rw [hat.1]; exact hlL
  obtain ⟨v,hv⟩:∃ v,vs[l7]?=some v:=⟨vs[l7],by simp [hlv]⟩
  obtain ⟨fs,hf⟩:∃ fs,L[l7]?=some fs:=⟨L[l7],by simp [hlL]⟩
  have hvn:=(hat.2 l7 v fs hv hf).1
  have ho2:=own_kp ho k2 fun _ _=>id
  refine ix_own ho2 hlL rfl fun g hg _=>?_
  rw [hg] at ho2
  rw [own_la ho2 (by omega),lnC_get vs l7 v hv]
  refine new_k [I 0,.slice none 0 0] fun w3 k3 b3 s3=>?_
  refine sa_k (cs:=v.cells) b3 rfl (by simp [LnV.cells]) (by simp [LnV.cells,oneCell]) fun w4 k4 b4 s4=>?_
  rw [over_all _ _ (by rfl)] at b4
  have k24:Kp No w2 w4:=k3.own k4 (Nat.le_refl _)
  have k04:=k02.trans k24
  have hw:=((hat.kp k2 fun b hb=>hb.elim).kp k24 fun b hb=>hb.elim).2 l7 v fs hv hf
  rw [show ∀ k,La 2 ⟨w2.heap.size,0,none⟩ w4 k=k v.cells.toArray from fun k=>b4.la0 (n:=2) rfl k]
  have hm4:=hm.kp k04 id
  have one:2≤fs.length→∃ g,v.cells.toArray=#[I v.no,.slice (some ⟨g,0,none⟩) fs.length v.c]∧fs.length≤v.c∧Ws w4 g 0 fs.length fs:=fun h2=>by
   obtain ⟨g,ha,hl,hcl,hws⟩:=ws_of hw.2 (by omega)
   refine ⟨g,?_,hcl,hws⟩
   unfold LnV.cells
   rw [ha,hl]
  by_cases es:l7<ss.length
  ·obtain ⟨s,hs⟩:∃ s,ss[l7]?=some s:=⟨ss[l7],by simp [es]⟩
   obtain ⟨key,kd,n,f,hk0,hk2,hgf,hgo,hn,hrd⟩:=hy l7 fs s hf hs
   obtain ⟨g,hcs,hcl,hws⟩:=one hk2
   rw [hcs]
   refine k77 (s1:=s) hm4 hm4.lt hws hk0 hk2 hcl hgf hgo hn (by rw [hvn]; exact hrd g v.c hcl) fun w5 k5=>?_
   simp only [SS]
   refine new_k zS.cells fun w6 k6 b6 s6=>?_
   refine sa_k (cs:=s.cells) b6 rfl (by simp [StV.cells,zS]) s.one fun w7 k7 b7 s7=>?_
   rw [over_all _ _ (by rfl)] at b7
   have k57:Kp No w5 w7:=k6.own k7 (Nat.le_refl _)
   rw [show ∀ k,La 11 ⟨w5.heap.size,0,none⟩ w7 k=k s.cells.toArray from fun k=>b7.la0 (n:=11) rfl k]
   have k27:=(k24.trans k5).trans k57
   have ho77:=own_kp ho7 k27 fun _ _=>id
   refine app1 E9 ho77 (k2.trans k27).size (by omega) (x:=.agg s.cells.toArray) rfl (fun u hu=>by rw [← one_iff]; exact s.one u hu) fun g' c' w8 hg' ho8 hk8=>?_
   have k28:Kp No w1 w8:=(k2.trans k27).step hk8 fun b hb hs=>by have:=(own_lt ho77 hs).1; omega
   rw [wr1 (by omega) (by omega)]
   refine ⟨⟨k28,by omega,by omega,by omega,?_⟩,by omega⟩
   have e3:stC (ss.take (l7+1))=stC (ss.take l7)++s.cells:=by
    rw [List.take_add_one,hs]
    simp [stC]
   rw [e3]
   exact ho8
  ·have hll:l7=ss.length:=by omega
   subst hll
   obtain ⟨hno,hE⟩:=h2 hlL
   obtain ⟨key,hk0,hk2,hgf⟩:=hno fs hf
   obtain ⟨g,hcs,hcl,hws⟩:=one hk2
   rw [hcs]
   refine k77_no hws hk0 hk2 hcl hgf fun w5 k5=>?_
   simp only [SS]
   refine new_k zS.cells fun w6 k6 b6 s6=>?_
   refine sa_k (cs:=zS.cells) b6 rfl (by simp [StV.cells,zS]) (StV.one _) fun w7 k7 b7 s7=>?_
   have k57:Kp No w5 w7:=k6.own k7 (Nat.le_refl _)
   have b47:Bk w7 w2.heap.size v.cells 191:=k57.bk (k5.bk b4 id) id
   simp only [Nl_if,SS,b47.rd (o:=0) (v:=I v.no) rfl]
   refine k76 fun w8 k8 b8=>?_
   rw [hvn] at b8
   exact hE _ w8 (((k04.trans k5).trans k57).trans k8) b8
 ·rw [if_neg e]
  have hll:ss.length=L.length:=by omega
  have hl7:l7=ss.length:=by omega
  subst hl7
  rw [List.take_length] at ho7
  exact h1 hll _ _ w2 k02 (own_base ho7 k1.size)
end
section
open Sy
variable {K:Ko} {w w':World}
theorem app1g {P:Program} {t e sz ty:Nat} {i:TypeInfo} {z:Value} (E:Elem P t e sz i z) {w:World} {base:Nat} {a:Option Addr} {l c n:Nat} {xs:List Value} (hown:w.ownsRow base e sz (.slice a l c) n xs)
  (hbase:base≤w.heap.size) (hn:n<1000000) {x:Value} (hx:x.cells.size=sz) (h1:∀ u∈x.cells.toList,u.oneCell'=true) {k:Option Addr→Nat→Nat→World→Prop}
  (h:∀ g c' w',(a=some ⟨g,0,none⟩∨w.heap.size≤g)→w'.ownsRow base e sz (.slice (some ⟨g,0,none⟩) (n+1) c') (n+1) (xs++x.cells.toList)→Kp (fun k=>(Value.slice a l c).ownBlock=some k) w w'→k (some ⟨g,0,none⟩) (n+1) c' w') :
  Rv P (Instr.buildSlice t 1 #[(0,x)]) w fun v w1=>onL v fun a2 l2 c2=>Rv P (Builtin.append_ #[t,t] ty #[.slice a l c,.slice a2 l2 c2]) w1 fun v2 w2=>onL v2 fun a3 l3 c3=>k a3 l3 c3 w2:=by
 rw [Rv_ok (bs1_run E w hx)]
 simp only [onL_eq]
 have hown1:=hown.alloc (.cells x.cells e)
 have hb:=E.hb
 have hnews:∀ (j:Nat) (u:Value),x.cells.toList[j]?=some u→(w.alloc (.cells x.cells e)).cell? ((⟨w.heap.size,0,none⟩:Addr).add j)=some u:=fun j u hj=>by rw [add_eq,World.cell?_alloc_new]; simpa using hj
 have h63:(n+1)*i.bytes≤140737488355328:=by
  have:(n+1)*i.bytes≤1000000*65536:=Nat.mul_le_mul (by omega) hb
  omega
 obtain ⟨v',w',hr,ho,hg,hnil⟩:=run_append_own (P:=P) (w.alloc (.cells x.cells e)) base t ty e i z sz i.bytes E.ht E.hi E.hz E.hs rfl E.hzs E.h0 (.slice a l c) n xs hown1 ⟨w.heap.size,0,none⟩ 1 1 x.cells.toList (by simp [hx])
  hnews h1 (by simp [maxLen]; omega) h63 (by simp; omega)
 have hv:∀ g cc,v'=.slice (some ⟨g,0,none⟩) (n+1) cc→(a=some ⟨g,0,none⟩∨w.heap.size≤g):=by
  rcases hown1.2 with ⟨hv0,hn0⟩ | ⟨g0,cap,cur,hv0,hbg,hgg,hnc,hcm,hcs,htake⟩
  ·
   intro g cc hv
   have hown2:(w.alloc (.cells x.cells e)).ownsRow (w.alloc (.cells x.cells e)).heap.size e sz (.slice a l c) n xs:=by
    rw [hv0,hn0,show xs=[] from List.eq_nil_of_length_eq_zero (by rw [hown.1,hn0]; simp)]
    exact World.ownsRow_nil _ _ _ _
   obtain ⟨v2,w2,hr2,ho2,_,_⟩:=run_append_own (P:=P) (w.alloc (.cells x.cells e)) _ t ty e i z sz i.bytes E.ht E.hi E.hz E.hs rfl E.hzs E.h0 (.slice a l c) n xs hown2 ⟨w.heap.size,0,none⟩ 1 1 x.cells.toList (by simp [hx])
    hnews h1 (by simp [maxLen]; omega) h63 (Nat.le_refl _)
   rw [hr] at hr2
   injection hr2 with q1 q2
   rw [← q1,hv] at ho2
   have:=(own_lt ho2 rfl).1
   have hz:(w.alloc (.cells x.cells e)).heap.size=w.heap.size+1:=by simp
   exact .inr (by show w.heap.size≤g; have:(w.alloc (.cells x.cells e)).heap.size≤g:=this; omega)
  ·intro g cc hv
   simp only [Value.slice.injEq] at hv0
   obtain ⟨ha,hl,hc⟩:=hv0
   by_cases hroom:n+1≤cap
   ·have hfit:n*i.size+x.cells.toList.length≤cur.size:=by
     rw [hcs,E.hs,Array.length_toList,hx]
     have h2:(n+1)*sz≤cap*sz:=Nat.mul_le_mul_right _ hroom
     rw [Nat.add_mul,Nat.one_mul] at h2
     exact h2
    have hr2:=run_append_room (P:=P) (w.alloc (.cells x.cells e)) t ty e i E.ht E.hi g0 n cap cur hgg ⟨w.heap.size,0,none⟩ 1 1 x.cells.toList (by simp [hx,E.hs]) hnews h1 hroom hfit
    rw [ha,hl,hc] at hr
    rw [hr] at hr2
    injection hr2 with q1 q2
    rw [hv] at q1
    simp only [Value.slice.injEq,Option.some.injEq,Addr.mk.injEq,and_true] at q1
    exact .inl (by rw [ha,q1.1])
   ·have holds:∀ (j:Nat) (u:Value),xs[j]?=some u→(w.alloc (.cells x.cells e)).cell? ((⟨g0,0,none⟩:Addr).add j)=some u:=by
     rw [ha,hl,hc] at hown1
     exact hown1.cells (g:=g0) rfl
    have hr2:=run_append_grow (P:=P) (w.alloc (.cells x.cells e)) t ty e i z E.ht E.hi E.hz ⟨g0,0,none⟩ n cap xs (by rw [E.hs]; exact hown.1) holds ⟨w.heap.size,0,none⟩ 1 1 x.cells.toList (by simp [hx,E.hs]) hnews (by omega) (by omega) (growslice_fits (by omega) h63)
    rw [ha,hl,hc] at hr
    rw [hr] at hr2
    injection hr2 with q1 q2
    rw [hv] at q1
    simp only [Value.slice.injEq,Option.some.injEq,Addr.mk.injEq,and_true] at q1
    exact .inr (by rw [q1.1]; simp)
 rw [Rv_ok hr]
 rcases ho.2 with ⟨rfl,h0⟩ | ⟨g,cap,cur,rfl,hbg,rest⟩
 ·omega
 ·simp only [onL_eq]
  refine h g cap w' (hv g cap rfl) ho ?_
  exact (Kp.alloc _ w _).step (Kp.grown hg (S:=fun k=>(Value.slice a l c).ownBlock=some k) fun k hk=>hk) fun _ _ x=>x
end
section
open Sy
def F26_0B (R:Ko) (C0:Option Addr→Option Addr→Nat→Nat→Option Addr→Nat→Nat→Int→Int→World→Prop) (x0:Option Addr) (a6:Option Addr) (l6 c6:Nat) (a20:Option Addr) (l20 c20:Nat) (x21:Int) (x22:Int) (w:World):Prop:=Ifm (decide ((x22:Int)<x21)) (Ix a20 l20 x22 11 fun x24=>La 11 x24 w fun x25=>New (.cells (.agg #[.int .i64 0,.int .i64 0,.string (⟨#[]⟩),.string (⟨#[]⟩),.int .i64 0,.int .i64 0,.int .i64 0,.int .i64 0,.int .i64 0,.int .i64 0,.int .i64 0]:Value).cells 53) w fun x8 w1=>Sa 11 x8 x25 w1 fun w2=>La 11 x8 w2 fun x28=>Ct Tryz.prog 10 #[.pointer x0,.agg x28] w2 fun v29 w3=>on2 v29 fun y29_0 y29_1=>onG y29_0 fun x29_0=>onG y29_1 fun x29_1=>New (.cells (.agg #[.int .i64 0,.int .i64 0,.int .i64 0,.int .i64 0,.int .i64 0,.int .i64 0,.int .i64 0,.int .i64 0,.int .i64 0,.int .i64 0]:Value).cells 39) w3 fun x9 w4=>New (.cells (.agg #[.int .i64 0,.int .i64 0,.int .i64 0,.int .i64 0,.int .i64 0,.int .i64 0,.int .i64 0,.bool false,.int .i64 0,.int .i64 0,.int .i64 0,.int .i64 0,.int .i64 0,.int .i64 0,.int .i64 0,.int .i64 0,.int .i64 0,.int .i64 0,.int .i64 0,.int .i64 0,.int .i64 0,.int .i64 0,.int .i64 0,.int .i64 0,.slice none 0 0,.slice none 0 0,.int .i64 0,.slice none 0 0,.int .i64 0,.int .i64 0,.int .i64 0,.int .i64 0,.int .i64 0,.int .i64 0]:Value).cells 49) w4 fun x10 w5=>Sa 10 x9 x29_0 w5 fun w6=>Sa 34 x10 x29_1 w6 fun w7=>Lc (x8.add 0) w7.drew fun v34=>onI v34 fun x34=>La 10 x9 w7.drew fun x37=>La 34 x10 w7.drew fun x38=>Ct Tryz.prog 34 #[.int .i64 x34] w7.drew fun v35 w8=>onS v35 fun x35=>Ha 34 x10 x38 w8∧Ha 10 x9 x37 w8∧Rd Tryz.prog (Bin .add 9 (.tmp 35) (.const (.string (⟨#[58,32]⟩))) (.string x35) (.string (⟨#[58,32]⟩))) w8 fun v36=>onS v36 fun x36=>Ct Tryz.prog 78 #[.agg x37,.agg x38] w8 fun v39 w9=>onS v39 fun x39=>Hd Tryz.prog (Bin .add 9 (.tmp 35) (.const (.string (⟨#[58,32]⟩))) (.string x35) (.string (⟨#[58,32]⟩))) (.string x36) w9∧Rd Tryz.prog (Bin .add 9 (.tmp 36) (.tmp 39) (.string x36) (.string x39)) w9 fun v40=>onS v40 fun x40=>Rv Tryz.prog (Instr.buildSlice 102 1 #[(0,.string x40)]) w9 fun v41 w10=>onL v41 fun a41 l41 c41=>Rv Tryz.prog (Builtin.append_ #[102,102] 102 #[.slice a6 l6 c6,.slice a41 l41 c41]) w10 fun v42 w11=>onL v42 fun a42 l42 c42=>C0 x0 a42 l42 c42 a20 l20 c20 x21 (IntKind.i64.wrap (x22+1)) w11) (R (.tuple #[.slice a6 l6 c6,.nilIface]) w)
def F26_0 (R:Ko) (x0:Option Addr) (a6:Option Addr) (l6 c6:Nat) (a20:Option Addr) (l20 c20:Nat) (x21:Int) (x22:Int) (w:World):Prop:=∃ (Inv:Option Addr→Option Addr→Nat→Nat→Option Addr→Nat→Nat→Int→Int→World→Prop) (μ:Option Addr→Option Addr→Nat→Nat→Option Addr→Nat→Nat→Int→Int→World→Nat),Inv x0 a6 l6 c6 a20 l20 c20 x21 x22 w∧∀ x0 a6 l6 c6 a20 l20 c20 x21 x22 w,Inv x0 a6 l6 c6 a20 l20 c20 x21 x22 w→F26_0B R (fun x0' a6' l6' c6' a20' l20' c20' x21' x22' w'=>Inv x0' a6' l6' c6' a20' l20' c20' x21' x22' w'∧μ x0' a6' l6' c6' a20' l20' c20' x21' x22' w'<μ x0 a6 l6 c6 a20 l20 c20 x21 x22 w) x0 a6 l6 c6 a20 l20 c20 x21 x22 w
def F26 (R:Ko) (x0:Option Addr) (a1:Option Addr) (l1 c1:Nat) (w:World):Prop:=Ifm x0.isNone (R (.tuple #[.slice none 0 0,.iface 129 (.int .i64 1)]) w) (Ifm (decide (((l1:Nat):Int) > 4096)) (R (.tuple #[.slice none 0 0,.iface 129 (.int .i64 3)]) w) (F26_0 R x0 none 0 0 a1 l1 c1 (l1:Nat) 0 w))
noncomputable def b26:Code:=Tryz.f26.body.getD .skip
def q26_0:List Bool:=[false,true,false,true,true,true]
def L26_0 (F:Option Addr→Option Addr→Nat→Nat→Option Addr→Nat→Nat→Int→Int→World→Prop):Env→World→Prop:=fun ρ w=>onP (ρ 0) fun x0=>onL (ρ 6) fun a6 l6 c6=>onL (ρ 20) fun a20 l20 c20=>onI (ρ 21) fun x21=>onI (ρ 22) fun x22=>F x0 a6 l6 c6 a20 l20 c20 x21 x22 w
abbrev T26 (z:Fr) (R:Ko) (p:List Bool) (ρ:Env) (w:World):Prop:=TW z Tryz.prog 45 (segTodo b26 p) (QR Tryz.prog [.tmp 4,.tmp 5] R) ρ w
theorem s26_0 (R:Ko):∀ ρ w,(L26_0 (F26_0 R)) ρ w→T26 z0 R q26_0 ρ w:=by
 intro ρ w h
 obtain ⟨x0,e0,h⟩:=onP_of h
 obtain ⟨a6,l6,c6,e6,h⟩:=onL_of h
 obtain ⟨a20,l20,c20,e20,h⟩:=onL_of h
 obtain ⟨x21,e21,h⟩:=onI_of h
 obtain ⟨x22,e22,h⟩:=onI_of h
 obtain ⟨Inv,μ,hi,hb⟩:=h
 refine lpT (fun m=>L26_0 (fun x0 a6 l6 c6 a20 l20 c20 x21 x22 w=>Inv x0 a6 l6 c6 a20 l20 c20 x21 x22 w∧μ x0 a6 l6 c6 a20 l20 c20 x21 x22 w=m)) ?_ (μ x0 a6 l6 c6 a20 l20 c20 x21 x22 w) ρ w ?_
 ·intro m ρ w ih h
  obtain ⟨x0,e0,h⟩:=onP_of h
  obtain ⟨a6,l6,c6,e6,h⟩:=onL_of h
  obtain ⟨a20,l20,c20,e20,h⟩:=onL_of h
  obtain ⟨x21,e21,h⟩:=onI_of h
  obtain ⟨x22,e22,h⟩:=onI_of h
  obtain ⟨hv,hm⟩:=h
  subst hm
  have hh:=hb x0 a6 l6 c6 a20 l20 c20 x21 x22 w hv
  obtain ⟨C0,hC⟩:∃ C,C=fun x0' a6' l6' c6' a20' l20' c20' x21' x22' w'=>Inv x0' a6' l6' c6' a20' l20' c20' x21' x22' w'∧μ x0' a6' l6' c6' a20' l20' c20' x21' x22' w'<μ x0 a6 l6 c6 a20 l20 c20 x21 x22 w:=⟨_,rfl⟩
  rw [← hC] at hh
  have h0:∀ ρ w,(L26_0 C0) ρ w→T26 z0 R q26_0 ρ w:=by
   intro ρ' w' h'
   refine ih ρ' w' ?_
   obtain ⟨x0',e0',h'⟩:=onP_of h'
   obtain ⟨a6',l6',c6',e6',h'⟩:=onL_of h'
   obtain ⟨a20',l20',c20',e20',h'⟩:=onL_of h'
   obtain ⟨x21',e21',h'⟩:=onI_of h'
   obtain ⟨x22',e22',h'⟩:=onI_of h'
   rw [hC] at h'
   refine ⟨_,h'.2,?_⟩
   simp only [e0',e6',e20',e21',e22',L26_0,ons]
   exact ⟨h'.1,by trivial⟩
  rw [← upds_same (ρ:=ρ) [(0,.pointer x0),(6,.slice a6 l6 c6),(20,.slice a20 l20 c20),(21,.int .i64 x21),(22,.int .i64 x22)] (alc e0 (alc e6 (alc e20 (alc e21 (alc e22 aln)))))]
  exact sg (cuts:=[(q26_0,L26_0 C0)]) ⟨h0,trivial⟩ hh
 ·simp only [e0,e6,e20,e21,e22,L26_0,ons]
  exact ⟨hi,by trivial⟩
theorem c26 {R:Ko} {x0:Option Addr} {a1:Option Addr} {l1 c1:Nat} {w:World} (h:F26 R x0 a1 l1 c1 w):Ct Tryz.prog 26 #[.pointer x0,.slice a1 l1 c1] w R :=
 ctS (args:=[.pointer x0,.slice a1 l1 c1]) (body:=b26) (n:=45) (rs:=[.tmp 4,.tmp 5]) Tryz.func26
  (sg (cuts:=[(q26_0,L26_0 (F26_0 R))]) ⟨s26_0 R,trivial⟩ h)
variable {K:Ko} {w w':World}
theorem row_k' {e l c:Nat} {B:Nat} {a:Option Addr} {ss:List StV} (h:w.ownsRow B e 11 (.slice a l c) l (stC ss)) {i:Nat} {x:Int} (hx:x=(i:Nat)) (hi:i<l) {k:Array Value→Prop} {s:StV} (hs:ss[i]?=some s) (hk:k s.cells.toArray):Ix a l x 11 fun y=>La 11 y w k:=by
 refine ix_own h hi hx fun g hg _=>?_
 subst hg
 rw [own_la h (by omega),stC_get ss i s hs]
 exact hk
def sCol:ByteArray:=⟨#[58,32]⟩
def Tells (o:OpV) (a:AnsA) (t:ByteArray):Prop:=∀ (u:World) (cs:List Value) (B:Nat) (K:Ko),AnsAt u B cs a→(∀ u',Kp No u u'→K (.string t) u')→Ct Tryz.prog 78 #[.agg o.cells.toArray,.agg cs.toArray] u K
noncomputable def goP (KD:Kn × Wd) (s:StV):Kn × Wd:=((applyK KD.1 (opD KD.2 s)).2,nextD KD.2 s (applyK KD.1 (opD KD.2 s)).1)
noncomputable def anP (KD:Kn × Wd) (s:StV):AnsA:=(applyK KD.1 (opD KD.2 s)).1
structure StepOk (P:Kn × Wd) (s:StV) (t:ByteArray):Prop where
 ok:s.ok
 no:∃ i:Nat,i<100∧s.no=i∧∃ tx,t=dig i++sCol++tx∧tx.size<100000∧Tells (opD P.2 s) (anP P s) tx
theorem dr_kp {n:Nat}:Kp No (dr w n) w:=⟨rfl,rfl,rfl,Nat.le_refl _,fun _ _ _=>rfl⟩
set_option maxHeartbeats 4000000 in
theorem k26 {lab:Nat→Nat} {q x k m n c1 Bs:Nat} {a1:Option Addr} {ss:List StV} {tx:List ByteArray} (P:Nat→Kn × Wd) (h:SW w lab q x k m n (P 0).1 (P 0).2) (hg:G0 w) (hl0:lab 0=0) (hl:ss.length≤100)
  (hrow:w.ownsRow Bs 53 11 (.slice a1 ss.length c1) ss.length (stC ss)) (hrb:∀ b,(Value.slice a1 ss.length c1).ownBlock=some b→lab b=0)
  (hst:∀ i s,ss[i]?=some s→∃ t,tx[i]?=some t∧StepOk (P i) s t∧P (i+1)=goP (P i) s)
  (hR:∀ a c w' lab',SW w' lab' q x k m n (P ss.length).1 (P ss.length).2→G0 w'→lab' 0=0→Kp (fun y=>inK q (lab y)∨y=m∨y=n) w w'→(∀ y,y<w.heap.size→lab' y=lab y)→w'.ownsRow w.heap.size 9 1 (.slice a ss.length c) ss.length (strs (tx.take ss.length))→K (.tuple #[.slice a ss.length c,.nilIface]) w') :
  Ct Tryz.prog 26 #[Pt x 0,.slice a1 ss.length c1] w K:=by
 refine c26 ?_
 unfold F26
 simp only [SS]
 rw [if_neg (by omega)]
 unfold F26_0
 obtain ⟨i9,z9,E9⟩:=e102
 refine ⟨fun x0 a6 l6 c6 a20 l20 c20 x21 x22 u=>some ⟨x,0,none⟩=x0∧a1=a20∧ss.length=l20∧c1=c20∧x21=(ss.length:Int)∧0≤x22∧(l6:Int)=x22∧l6≤ss.length∧∃ lab',SW u lab' q x k m n (P l6).1 (P l6).2∧G0 u∧lab' 0=0∧Kp (fun y=>inK q (lab y)∨y=m∨y=n) w u∧(∀ y,y<w.heap.size→lab' y=lab y)∧u.ownsRow w.heap.size 9 1 (.slice a6 l6 c6) l6 (strs (tx.take l6))∧(∀ b,(Value.slice a6 l6 c6).ownBlock=some b→lab' b=0),
  fun _ _ _ _ _ _ _ _ x22 _=>((ss.length:Int)+1 - x22).toNat,⟨rfl,rfl,rfl,rfl,rfl,by omega,rfl,by omega,lab,h,hg,hl0,Kp.refl _ _,fun _ _=>rfl,World.ownsRow_nil _ _ _ _,fun b hb=>by cases hb⟩,?_⟩
 rintro _ a6 l6 c6 _ _ _ _ x22 u ⟨rfl,rfl,rfl,rfl,rfl,q0,rfl,q2,lab',hu,hgu,hl0u,ku,old,ho,hol⟩
 unfold F26_0B
 simp only [SS]
 have hml:=h.nd.lt
 have hnl:=h.tk.lt
 have hxl:=h.hd.lt
 have hks:=ku.size
 by_cases e:(l6:Int)<(ss.length:Int)
 ·rw [if_pos e]
  have hi:l6<ss.length:=by omega
  obtain ⟨s,hs⟩:∃ s,ss[l6]?=some s:=⟨ss[l6],by simp [hi]⟩
  obtain ⟨t,ht,⟨hok,ino,hi100,hno,txx,rfl,htz,htell⟩,hP⟩:=hst l6 s hs
  have nS:∀ {b:Nat},b<w.heap.size→lab b=0→¬ (w.heap[b]?=none):=fun _ _ hh=>by simp at hh; omega
  have bm:∀ {v:World} {b:Nat} {cc:Array Value} {T:Nat} {mm:Nat} {κ:ByteArray→Value} {gg:ByteArray→Option Value},v.heap[b]?=some (.cells cc T (0,0))→Map v mm .string κ gg→b≠mm:=fun hb hm=>by
   obtain ⟨es,cl,hmm⟩:=hm
   intro e
   subst e
   rw [hmm.hp] at hb
   cases hb
  have hrow2:u.ownsRow Bs 53 11 (.slice a1 ss.length c1) ss.length (stC ss):=own_kp hrow ku fun b hb hS=>by
   rcases own_bk hrow with ⟨ha,_⟩ | ⟨gg,cur,ha,_,_,hbb,_⟩
   ·rw [ha] at hb; cases hb
   ·have hb2:=hb
    rw [ha] at hb2; injection hb2 with hb2
    have hb2:gg=b:=hb2
    subst hb2
    rcases hS with hS | rfl | rfl
    ·rw [hrb _ hb] at hS; unfold inK at hS; omega
    ·exact bm hbb h.nd rfl
    ·exact bm hbb h.tk rfl
  refine row_k' hrow2 rfl hi hs ?_
  refine new_k zS.cells fun w1 k1 b1 s1=>?_
  refine sa_k (cs:=s.cells) b1 rfl (by simp [StV.cells,zS]) s.one fun w2 k2 b2 s2=>?_
  rw [over_all _ _ (by rfl)] at b2
  have k02:Kp No u w2:=k1.own k2 (Nat.le_refl _)
  rw [show ∀ k,La 11 ⟨u.heap.size,0,none⟩ w2 k=k s.cells.toArray from fun k=>b2.la0 (n:=11) rfl k]
  have hu2:=hu.no k02
  refine k10 hu2 hok (hgu.kp k02 id) hl0u fun cs w3 lab3 hd=>?_
  have bd:=hu.bd
  have lzu:∀ {b:Nat},u.heap.size≤b→lab' b=0:=fun {b} hb=>by
   by_cases e:lab' b=0
   ·exact e
   ·have:=bd b e; omega
  have b3:Bk w3 u.heap.size s.cells 53:=hd.kp.bk b2 fun hS=>by
   rcases hS with hS | hS | hS
   ·rw [lzu (Nat.le_refl _)] at hS; unfold inK at hS; omega
   ·omega
   ·omega
  have z02:=k02.size
  have z23:=hd.kp.size
  have bd3:=hd.sw.bd
  simp only [SS]
  refine new_k zO.cells fun w4 k4 b4 s4=>?_
  refine new_k (zAns 0) fun w5 k5 b5 s5=>?_
  refine sa_k (k5.bk b4 id) (opD (P l6).2 s).len (by decide) (opD (P l6).2 s).one fun w6 k6 b6 s6=>?_
  rw [over_all _ _ (by rfl)] at b6
  have hlc:cs.length=34:=by have:=hd.an.len; exact this
  refine sa_k (k6.bk b5 (by omega)) hlc (by rw [show (zAns 0).length=34 from rfl]; omega) hd.an.one fun w7 k7 b7 s7=>?_
  rw [over_all _ _ (by rw [hlc]; rfl)] at b7
  have b67:Bk w7 w3.heap.size (opD (P l6).2 s).cells 39:=k7.bk b6 (by omega)
  have k37:Kp No w3 w7:=(((k4.trans k5).own k6 (by omega)).own k7 (by omega))
  have b37:Bk w7 u.heap.size s.cells 53:=k37.bk b3 id
  have an7:=hd.an.kp k37 fun _ _=>id
  simp only [SS,b37.rd (o:=0) (v:=I s.no) rfl]
  rw [show ∀ k,La 10 ⟨w3.heap.size,0,none⟩ w7 k=k (opD (P l6).2 s).cells.toArray from fun k=>b67.la0 (opD (P l6).2 s).len k,show ∀ k,La 34 ⟨w4.heap.size,0,none⟩ w7 k=k cs.toArray from fun k=>b7.la0 hlc k]
  rw [hno]
  refine k34 (w:=dr w7 _) hi100 ?_
  simp only [SS]
  rw [show Ha 34 ⟨w4.heap.size,0,none⟩ cs.toArray w7=True from b7.ha0 hlc,show Ha 10 ⟨w3.heap.size,0,none⟩ (opD (P l6).2 s).cells.toArray w7=True from b67.ha0 (opD (P l6).2 s).len]
  refine ⟨trivial,trivial,?_⟩
  have zd:=dig_size hi100
  have zc:sCol.size=2:=rfl
  rw [show (⟨(Lib.decDigits ino).toArray⟩:ByteArray)=dig ino from rfl,show (⟨#[58,32]⟩:ByteArray)=sCol from rfl,cat_c (by omega)]
  simp only [SS]
  refine htell (dr w7 _) cs _ _ (an7.kp (Kp.dr No w7 _) fun _ _=>id) fun w8 k8=>?_
  have k8:=k8.drL
  simp only [SS]
  refine ⟨hd_cat (by omega) _ _ _,?_⟩
  have zs:=size_app (dig ino) sCol
  rw [cat_c (by omega)]
  simp only [SS]
  have k38:=k37.trans k8
  have ho8:w8.ownsRow w.heap.size 9 1 (.slice a6 l6 c6) l6 (strs (tx.take l6)):=by
   refine own_kp (own_kp (own_kp ho k02 fun _ _=>id) hd.kp fun b hb hS=>?_) k38 fun _ _=>id
   rcases own_bk ho with ⟨ha,_⟩ | ⟨gg,cur,ha,_,_,hbb,_⟩
   ·rw [ha] at hb; cases hb
   ·have hb2:=hb
    rw [ha] at hb2; injection hb2 with hb2
    have hb2:gg=b:=hb2
    subst hb2
    rcases hS with hS | rfl | rfl
    ·rw [hol _ hb] at hS; unfold inK at hS; omega
    ·exact bm hbb hu.nd rfl
    ·exact bm hbb hu.tk rfl
  have sw8:=hd.sw.no k38
  have z38:=k38.size
  refine app1g E9 ho8 (by omega) (by omega) rfl (by simp [Value.cells,Value.oneCell']) fun g' c' w9 hgn ho9 hk9=>?_
  have hl6b:∀ b,(Value.slice a6 l6 c6).ownBlock=some b→lab3 b=0∧b<w8.heap.size∧w.heap.size≤b:=fun b hb=>by
   have hlt:=own_lt ho hb
   exact ⟨by rw [hd.old b (by omega),hol b hb],by omega,hlt.1⟩
  have sw9:SW w9 lab3 q x k m n _ _:=sw8.kp hk9 fun y hy hb=>by
   obtain ⟨h1,h2,h3⟩:=hl6b y hb
   rcases hy with hy | rfl | rfl | rfl
   ·rw [h1] at hy; unfold inK at hy; omega
   ·omega
   ·omega
   ·omega
  rw [wr1 (by omega) (by omega)]
  have ku9:Kp (fun y=>inK q (lab y)∨y=m∨y=n) w w9:=by
   have h1:Kp (fun y=>inK q (lab y)∨y=m∨y=n) w w3:=(ku.trans (k02.no _)).step hd.kp fun i hi hS=>by
    rcases hS with hS | rfl | rfl
    ·exact .inl (by rw [← old i hi]; exact hS)
    ·exact .inr (.inl rfl)
    ·exact .inr (.inr rfl)
   exact (h1.trans (k38.no _)).step hk9 fun i hi hS=>by have:=(hl6b i hS).2.2; omega
  refine ⟨⟨by omega,by omega,by omega,lab3,?_,?_,hd.l0,ku9,fun y hy=>by rw [hd.old y (by omega),old y hy],?_,?_⟩,by omega⟩
  ·rw [hP]; exact sw9
  ·exact ((hd.g0.kp k38 id).kp hk9 fun hb=>by have:=(hl6b 0 hb).2.2; omega)
  ·have e3:strs (tx.take (l6+1))=strs (tx.take l6)++[.string (dig ino++sCol++txx)]:=by
    rw [List.take_add_one,ht]
    simp [strs]
   rw [e3]
   exact ho9
  ·intro b hb
   injection hb with hb
   have hb:g'=b:=hb
   subst hb
   rcases hgn with hgn | hgn
   ·exact (hl6b g' (by rw [hgn]; rfl)).1
   ·by_cases e0:lab3 g'=0
    ·exact e0
    ·have:=bd3 g' e0; omega
 ·rw [if_neg e]
  have hll:l6=ss.length:=by omega
  subst hll
  exact hR _ _ _ lab' hu hgu hl0u ku old ho
end
section
open Sy
variable {K:Ko} {w w':World}
def lineB (s a rest:ByteArray) (is:Bool) (fs:List ByteArray):Bool:=nonB s && decide (s.size<1000) && decide (Lib.cut s.data.toList sNl.data.toList=(a.data.toList,rest.data.toList,is)) && decide (a.size<1000) && decide (Lib.trimSuffix a.data.toList sCr.data.toList=a.data.toList) && a.data.toList.all plB && decide (Lib.goFieldsP blank a=fs) && fs.all headOk && decide (0<fs.length∧fs.length<1000)
theorem lineOk {s a rest:ByteArray} {is:Bool} {fs:List ByteArray} (h:lineB s a rest is fs=true):LineOk s fs rest:=by
 unfold lineB at h
 simp only [Bool.and_eq_true,decide_eq_true_eq] at h
 obtain ⟨⟨⟨⟨⟨⟨⟨⟨h1,h2⟩,h3⟩,h4⟩,h5⟩,h6⟩,h7⟩,h8⟩,h9⟩:=h
 exact ⟨h1,h2,⟨a,a,is,h3,h4,h5,h4,h6,h7⟩,h8,h9⟩
def tas0:ByteArray:=⟨#[99,114,101,97,116,101,32,114,111,111,116,32,97,32,51,47,49,48,10,116,97,115,107,32,97,32,116,32,53,10,106,111,98,32,97,46,116,32,52,32,100,117,101,32,57,10,116,105,99,107,32,49,48,10,115,104,111,119,32,97,46,116,10]⟩
def taa0:ByteArray:=⟨#[99,114,101,97,116,101,32,114,111,111,116,32,97,32,51,47,49,48]⟩
def taf0:List ByteArray:=[⟨#[99,114,101,97,116,101]⟩,⟨#[114,111,111,116]⟩,⟨#[97]⟩,⟨#[51,47,49,48]⟩]
def tas1:ByteArray:=⟨#[116,97,115,107,32,97,32,116,32,53,10,106,111,98,32,97,46,116,32,52,32,100,117,101,32,57,10,116,105,99,107,32,49,48,10,115,104,111,119,32,97,46,116,10]⟩
def taa1:ByteArray:=⟨#[116,97,115,107,32,97,32,116,32,53]⟩
def taf1:List ByteArray:=[⟨#[116,97,115,107]⟩,⟨#[97]⟩,⟨#[116]⟩,⟨#[53]⟩]
def tas2:ByteArray:=⟨#[106,111,98,32,97,46,116,32,52,32,100,117,101,32,57,10,116,105,99,107,32,49,48,10,115,104,111,119,32,97,46,116,10]⟩
def taa2:ByteArray:=⟨#[106,111,98,32,97,46,116,32,52,32,100,117,101,32,57]⟩
def taf2:List ByteArray:=[⟨#[106,111,98]⟩,⟨#[97,46,116]⟩,⟨#[52]⟩,⟨#[100,117,101]⟩,⟨#[57]⟩]
def tas3:ByteArray:=⟨#[116,105,99,107,32,49,48,10,115,104,111,119,32,97,46,116,10]⟩
def taa3:ByteArray:=⟨#[116,105,99,107,32,49,48]⟩
def taf3:List ByteArray:=[⟨#[116,105,99,107]⟩,⟨#[49,48]⟩]
def tas4:ByteArray:=⟨#[115,104,111,119,32,97,46,116,10]⟩
def taa4:ByteArray:=⟨#[115,104,111,119,32,97,46,116]⟩
def taf4:List ByteArray:=[⟨#[115,104,111,119]⟩,⟨#[97,46,116]⟩]
def tas5:ByteArray:=⟨#[]⟩
theorem tal0:LineOk tas0 taf0 tas1:=lineOk (a:=taa0) (is:=true) (by kernel_rfl)
theorem tal1:LineOk tas1 taf1 tas2:=lineOk (a:=taa1) (is:=true) (by kernel_rfl)
theorem tal2:LineOk tas2 taf2 tas3:=lineOk (a:=taa2) (is:=true) (by kernel_rfl)
theorem tal3:LineOk tas3 taf3 tas4:=lineOk (a:=taa3) (is:=true) (by kernel_rfl)
theorem tal4:LineOk tas4 taf4 tas5:=lineOk (a:=taa4) (is:=true) (by kernel_rfl)
def taL:List (List ByteArray):=[taf0,taf1,taf2,taf3,taf4]
theorem tac:Chain tas0 taL:=.cons tal0 (.cons tal1 (.cons tal2 (.cons tal3 (.cons tal4 (.nil (by kernel_rfl))))))
def tbs0:ByteArray:=⟨#[116,105,99,107,32,49,10,116,105,99,107,115,32,50]⟩
def tba0:ByteArray:=⟨#[116,105,99,107,32,49]⟩
def tbf0:List ByteArray:=[⟨#[116,105,99,107]⟩,⟨#[49]⟩]
def tbs1:ByteArray:=⟨#[116,105,99,107,115,32,50]⟩
def tba1:ByteArray:=⟨#[116,105,99,107,115,32,50]⟩
def tbf1:List ByteArray:=[⟨#[116,105,99,107,115]⟩,⟨#[50]⟩]
def tbs2:ByteArray:=⟨#[]⟩
theorem tbl0:LineOk tbs0 tbf0 tbs1:=lineOk (a:=tba0) (is:=true) (by kernel_rfl)
theorem tbl1:LineOk tbs1 tbf1 tbs2:=lineOk (a:=tba1) (is:=false) (by kernel_rfl)
def tbL:List (List ByteArray):=[tbf0,tbf1]
theorem tbc:Chain tbs0 tbL:=.cons tbl0 (.cons tbl1 (.nil (by kernel_rfl)))
def wA:ByteArray:=⟨#[97]⟩
def wT:ByteArray:=⟨#[116]⟩
def wAT:ByteArray:=⟨#[97,46,116]⟩
def w310:ByteArray:=⟨#[51,47,49,48]⟩
def w3:ByteArray:=⟨#[51]⟩
def w10:ByteArray:=⟨#[49,48]⟩
def w5:ByteArray:=⟨#[53]⟩
def w4:ByteArray:=⟨#[52]⟩
def w9:ByteArray:=⟨#[57]⟩
def w1_:ByteArray:=⟨#[49]⟩
theorem pOf {s:ByteArray} (h1:s.size≤264) (h2:Lib.splitB sSlash 0 (Lib.countB s sSlash) s=[s]) (h3:Lib.countB s sSlash=0) (h4:lowB s=true):PathOk s:=⟨h1,[s],h2,by rw [h3]; rfl,by simp,fun p hp=>by simp at hp; rw [hp]; exact h4⟩
theorem pRoot:PathOk sRoot:=pOf (by decide) (by kernel_rfl) (by kernel_rfl) (by kernel_rfl)
theorem pA:PathOk wA:=pOf (by decide) (by kernel_rfl) (by kernel_rfl) (by kernel_rfl)
theorem nA:NameOk wA:=⟨by kernel_rfl,by kernel_rfl,by kernel_rfl,by kernel_rfl⟩
theorem nT:NameOk wT:=⟨by kernel_rfl,by kernel_rfl,by kernel_rfl,by kernel_rfl⟩
theorem d3:NumOk w3 3:=⟨by kernel_rfl,by kernel_rfl,by decide⟩
theorem d10:NumOk w10 10:=⟨by kernel_rfl,by kernel_rfl,by decide⟩
theorem d5:NumOk w5 5:=⟨by kernel_rfl,by kernel_rfl,by decide⟩
theorem d4:NumOk w4 4:=⟨by kernel_rfl,by kernel_rfl,by decide⟩
theorem d9:NumOk w9 9:=⟨by kernel_rfl,by kernel_rfl,by decide⟩
theorem d1_:NumOk w1_ 1:=⟨by kernel_rfl,by kernel_rfl,by decide⟩
def st1:StV:=⟨1,1,sRoot,wA,3,10,0,0,0,0,0⟩
def st2:StV:=⟨2,4,wA,wT,0,0,0,0,0,0,5⟩
def st3:StV:=⟨3,6,wA,wT,0,0,4,0,0,9,0⟩
def st4:StV:=⟨4,7,⟨#[]⟩,⟨#[]⟩,0,0,0,0,0,0,10⟩
def st5:StV:=⟨5,9,wA,wT,0,0,0,0,0,0,0⟩
def st1b:StV:=⟨1,7,⟨#[]⟩,⟨#[]⟩,0,0,0,0,0,0,1⟩
theorem gf1:gF sCreate=some (fmV 1 3 235):=by kernel_rfl
theorem gf4:gF sTask=some (fmV 4 3 238):=by kernel_rfl
theorem gf6:gF sJob=some (fmV 6 (-1) 240):=by kernel_rfl
theorem gf7:gF sTick=some (fmV 7 1 241):=by kernel_rfl
theorem gf9:gF sShow=some (fmV 9 1 239):=by kernel_rfl
theorem gfn:gF ⟨#[116,105,99,107,115]⟩=none:=by kernel_rfl
theorem rd1 (g c:Nat):Reads 235 g 1 3 c [sRoot,wA,w310] { zS with no:=1,k:=1 } st1:=fun u r K hm hr hg h hw hR=>k235 hm hr hg h hw pRoot (by kernel_rfl) nA (by decide) (a:=w3) (b:=w10) (by kernel_rfl) d3 d10 (by decide) hR
theorem rd2 (g c:Nat):Reads 238 g 1 3 c [wA,wT,w5] { zS with no:=2,k:=4 } st2:=fun u r K hm hr hg h hw hR=>k238 hm hr hg h hw pA (by kernel_rfl) nT d5 (by decide) hR
theorem rd3 (g c:Nat) (hc:4≤c):Reads 240 g 1 4 c [wAT,w4,sDueW,w9] { zS with no:=3,k:=6 } st3:=fun u r K hm hr hg h hw hR=>k240 hm hr hg h hw hc (by decide) (a:=wA) (b:=wT) (by kernel_rfl) pA (by kernel_rfl) nT d4 d9 (by kernel_rfl) hR
theorem rd4 (g c:Nat):Reads 241 g 1 1 c [w10] { zS with no:=4,k:=7 } st4:=fun u r K hm hr hg h hw hR=>k241 h hw d10 hR
theorem rd5 (g c:Nat):Reads 239 g 1 1 c [wAT] { zS with no:=5,k:=9 } st5:=fun u r K hm hr hg h hw hR=>k239 hm hr h hw (by decide) (a:=wA) (b:=wT) (by kernel_rfl) pA (by kernel_rfl) nT hR
theorem rd1b (g c:Nat):Reads 241 g 1 1 c [w1_] { zS with no:=1,k:=7 } st1b:=fun u r K hm hr hg h hw hR=>k241 h hw d1_ hR
theorem oy1:OneY 1 taf0 st1:=⟨sCreate,1,3,235,rfl,by decide,gf1,by kernel_rfl,.inl ⟨by decide,rfl⟩,fun g c _=>rd1 g (c - 1)⟩
theorem oy2:OneY 2 taf1 st2:=⟨sTask,4,3,238,rfl,by decide,gf4,by kernel_rfl,.inl ⟨by decide,rfl⟩,fun g c _=>rd2 g (c - 1)⟩
theorem oy3:OneY 3 taf2 st3:=⟨sJob,6,-1,240,rfl,by decide,gf6,by kernel_rfl,.inr ⟨by decide,by decide⟩,fun g c hc=>rd3 g (c - 1) (by have:taf2.length=5:=rfl; omega)⟩
theorem oy4:OneY 4 taf3 st4:=⟨sTick,7,1,241,rfl,by decide,gf7,by kernel_rfl,.inl ⟨by decide,rfl⟩,fun g c _=>rd4 g (c - 1)⟩
theorem oy5:OneY 5 taf4 st5:=⟨sShow,9,1,239,rfl,by decide,gf9,by kernel_rfl,.inl ⟨by decide,rfl⟩,fun g c _=>rd5 g (c - 1)⟩
theorem oy1b:OneY 1 tbf0 st1b:=⟨sTick,7,1,241,rfl,by decide,gf7,by kernel_rfl,.inl ⟨by decide,rfl⟩,fun g c _=>rd1b g (c - 1)⟩
theorem on2b:OneN tbf1:=⟨_,rfl,by decide,gfn⟩
theorem k25a (hm:M0 w) (hR:∀ a c w',Kp No w w'→w'.ownsRow w.heap.size 53 11 (.slice a 5 c) 5 (stC [st1,st2,st3,st4,st5])→K (.tuple #[.slice a 5 c,.nilIface]) w'):Ct Tryz.prog 25 #[.string tas0] w K:=by
 refine k25 (ss:=[st1,st2,st3,st4,st5]) hm tac (by decide) (by decide) (by decide) (fun i fs s h1 h2=>?_) (fun _ a c w' k ho=>hR a c w' k ho) fun h=>absurd h (by decide)
 match i with
 | 0=>injection h1 with h1; injection h2 with h2; subst h1; subst h2; exact oy1
 | 1=>injection h1 with h1; injection h2 with h2; subst h1; subst h2; exact oy2
 | 2=>injection h1 with h1; injection h2 with h2; subst h1; subst h2; exact oy3
 | 3=>injection h1 with h1; injection h2 with h2; subst h1; subst h2; exact oy4
 | 4=>injection h1 with h1; injection h2 with h2; subst h1; subst h2; exact oy5
 | i+5=>cases h2
theorem k25b (hm:M0 w) (hR:∀ b w',Kp No w w'→Bk w' b [I 2,Er 250] 108→K (.tuple #[.slice none 0 0,.iface 105 (Pt b 0)]) w'):Ct Tryz.prog 25 #[.string tbs0] w K:=by
 refine k25 (ss:=[st1b]) hm tbc (by decide) (by decide) (by decide) (fun i fs s h1 h2=>?_) (fun h=>absurd h (by decide)) fun _=>⟨fun fs hf=>?_,fun b w' k hb=>hR b w' k hb⟩
 ·match i with
  | 0=>injection h1 with h1; injection h2 with h2; subst h1; subst h2; exact oy1b
  | i+1=>cases h2
 ·injection hf with hf; subst hf; exact on2b
end
section
open Sy
variable {K:Ko} {w w':World}
def h1_:Int:=1099512676353
def h2_:Int:=2199023255553
def o1:OpV:=⟨1,rootH,0,3,10,0,0,0,0,0⟩
def o2:OpV:=⟨4,h1_,0,0,0,0,0,0,0,5⟩
def o3:OpV:=⟨6,h1_,h2_,0,0,4,0,0,9,0⟩
def o4:OpV:=⟨7,0,0,0,0,0,0,0,0,10⟩
def o5:OpV:=⟨9,h1_,h2_,0,0,0,0,0,0,0⟩
noncomputable def K1_:Kn:=(applyK newK o1).2
noncomputable def K2_:Kn:=(applyK K1_ o2).2
noncomputable def K3_:Kn:=(applyK K2_ o3).2
noncomputable def K4_:Kn:=(applyK K3_ o4).2
noncomputable def K5_:Kn:=(applyK K4_ o5).2
theorem an1:(applyK newK o1).1={ ans0 with hd:=h1_ }:=by kernel_rfl
theorem an2:(applyK K1_ o2).1={ ans0 with hd:=h2_ }:=by kernel_rfl
theorem an3:(applyK K2_ o3).1.err=0:=by kernel_rfl
theorem an4:(applyK K3_ o4).1.err=0:=by kernel_rfl
theorem an5:(applyK K4_ o5).1.err=0:=by kernel_rfl
theorem an5t:(applyK K4_ o5).1.tk=some tk1:=by kernel_rfl
noncomputable def D1_:Wd:=nextD noD st1 { ans0 with hd:=h1_ }
noncomputable def D2_:Wd:=nextD D1_ st2 { ans0 with hd:=h2_ }
theorem pa1:st1.path=wA:=by kernel_rfl
theorem fa2:st2.full=wAT:=by kernel_rfl
theorem D1_eq:D1_=⟨updS (belowD noD wA).nd wA h1_,(belowD noD wA).tk⟩:=by
 show nextD noD st1 _=_
 unfold nextD
 rw [if_pos ⟨rfl,.inl rfl⟩]
 unfold givesD
 rw [if_neg (by decide),pa1]
theorem D2_eq:D2_=⟨D1_.nd,updS D1_.tk wAT h2_⟩:=by
 show nextD D1_ st2 _=_
 unfold nextD
 rw [if_pos ⟨rfl,.inr rfl⟩]
 unfold givesD
 rw [if_pos (show st2.k=4 from rfl),fa2]
theorem updS_same (g:ByteArray→Option Int) (a:ByteArray) (h:Int):updS g a h a=some h:=by unfold updS; rw [if_pos rfl]
theorem updS_ne (g:ByteArray→Option Int) {a t:ByteArray} (h:Int) (e:t≠a):updS g a h t=g t:=by unfold updS; rw [if_neg e]
theorem drop_no (f:ByteArray→Bool) (t:ByteArray):dropS (fun _=>none) f t=none:=by
 unfold dropS; split <;> rfl
theorem nd1:D1_.nd wA=some h1_:=by rw [D1_eq]; exact updS_same (belowD noD wA).nd wA h1_
theorem nd1x {t:ByteArray} (h:t≠wA):D1_.nd t=none:=by rw [D1_eq]; exact (updS_ne _ _ h).trans (drop_no _ _)
theorem tk1x (t:ByteArray):D1_.tk t=none:=by rw [D1_eq]; exact drop_no _ _
theorem nd2 (t:ByteArray):D2_.nd t=D1_.nd t:=by rw [D2_eq]
theorem tk2:D2_.tk wAT=some h2_:=by rw [D2_eq]; exact updS_same D1_.tk wAT h2_
theorem tk2x {t:ByteArray} (h:t≠wAT):D2_.tk t=none:=by rw [D2_eq]; exact (updS_ne _ _ h).trans (tk1x t)
theorem at_of {D:Wd} {h:Int} (e:D.nd wA=some h):atD D wA=h:=by
 unfold atD
 rw [if_neg (by rw [show sEq wA sRoot=false by kernel_rfl]; decide),if_neg (by rw [show sEq wA sSlack=false by kernel_rfl]; decide),e]; rfl
theorem op1:opD noD st1=o1:=by kernel_rfl
theorem op2:opD D1_ st2=o2:=by
 have e:rawD D1_ st2={ zO with k:=4,a:=atD D1_ wA,n:=5 }:=rfl
 unfold opD
 rw [e,at_of nd1]; rfl
theorem op3:opD D2_ st3=o3:=by
 have e:rawD D2_ st3={ zO with k:=6,a:=atD D2_ wA,t:=taskD D2_ st3.full,jl:=4,jc:=0,ja:=0,jd:=9 }:=rfl
 unfold opD taskD at *
 rw [e,at_of (by rw [nd2,nd1]),show st3.full=wAT from fa2,tk2]; rfl
theorem op4 (D:Wd):opD D st4=o4:=rfl
theorem op5:opD D2_ st5=o5:=by
 have e:rawD D2_ st5={ zO with k:=9,a:=atD D2_ wA,t:=taskD D2_ st5.full }:=rfl
 unfold opD taskD at *
 rw [e,at_of (by rw [nd2,nd1]),show st5.full=wAT from fa2,tk2]; rfl
noncomputable def PW:Nat→Kn × Wd
 | 0=>(newK,noD)
 | 1=>(K1_,D1_)
 | 2=>(K2_,D2_)
 | 3=>(K3_,D2_)
 | 4=>(K4_,D2_)
 | _=>(K5_,D2_)
theorem pw1:PW 1=goP (PW 0) st1:=by
 show (K1_,D1_)=((applyK newK (opD noD st1)).2,nextD noD st1 (applyK newK (opD noD st1)).1)
 rw [op1,an1]; rfl
theorem pw2:PW 2=goP (PW 1) st2:=by
 show (K2_,D2_)=((applyK K1_ (opD D1_ st2)).2,nextD D1_ st2 (applyK K1_ (opD D1_ st2)).1)
 rw [op2,an2]; rfl
theorem next_no {D:Wd} {s:StV} {a:AnsA} (h1:s.k≠1) (h4:s.k≠4):nextD D s a=D:=by
 unfold nextD
 rw [if_neg (by omega)]
theorem pw3:PW 3=goP (PW 2) st3:=by
 show (K3_,D2_)=((applyK K2_ (opD D2_ st3)).2,nextD D2_ st3 _)
 rw [op3,next_no (by decide) (by decide)]; rfl
theorem pw4:PW 4=goP (PW 3) st4:=by
 show (K4_,D2_)=((applyK K3_ (opD D2_ st4)).2,nextD D2_ st4 _)
 rw [op4,next_no (by decide) (by decide)]; rfl
theorem pw5:PW 5=goP (PW 4) st5:=by
 show (K5_,D2_)=((applyK K4_ (opD D2_ st5)).2,nextD D2_ st5 _)
 rw [op5,next_no (by decide) (by decide)]; rfl
def tt1:ByteArray:=⟨#[110,49,46,49]⟩
def tt2:ByteArray:=⟨#[116,48,46,49]⟩
theorem tl1:Tells (opD (PW 0).2 st1) (anP (PW 0) st1) tt1:=by
 have e1:opD (PW 0).2 st1=o1:=op1
 have e2:anP (PW 0) st1={ ans0 with hd:=h1_ }:=by
  show (applyK newK (opD noD st1)).1=_
  rw [op1,an1]
 rw [e1,e2]
 exact fun u cs B K ha hR=>k78_h (k:=1) (s:=1) (g:=1) ha rfl (.inl rfl) (by decide) (by kernel_rfl) (by kernel_rfl) (by omega) (by omega) (by kernel_rfl) (by omega) (by kernel_rfl) (by omega) (by kernel_rfl) fun u' ku=>by
  rw [show textH 1 1 1=tt1 by kernel_rfl]; exact hR u' ku
theorem tl2:Tells (opD (PW 1).2 st2) (anP (PW 1) st2) tt2:=by
 have e1:opD (PW 1).2 st2=o2:=op2
 have e2:anP (PW 1) st2={ ans0 with hd:=h2_ }:=by
  show (applyK K1_ (opD D1_ st2)).1=_
  rw [op2,an2]
 rw [e1,e2]
 exact fun u cs B K ha hR=>k78_h (k:=2) (s:=0) (g:=1) ha rfl (.inr rfl) (by decide) (by kernel_rfl) (by kernel_rfl) (by omega) (by omega) (by kernel_rfl) (by omega) (by kernel_rfl) (by omega) (by kernel_rfl) fun u' ku=>by
  rw [show textH 2 0 1=tt2 by kernel_rfl]; exact hR u' ku
theorem tl3:Tells (opD (PW 2).2 st3) (anP (PW 2) st3) sOk:=by
 have e1:opD (PW 2).2 st3=o3:=op3
 have e2:(anP (PW 2) st3).err=0:=by
  show (applyK K2_ (opD D2_ st3)).1.err=_
  rw [op3,an3]
 rw [e1]
 exact fun u cs B K ha hR=>k78_ok ha e2 (by decide) (by decide) (by decide) (by decide) hR
theorem tl4:Tells (opD (PW 3).2 st4) (anP (PW 3) st4) sOk:=by
 have e1:opD (PW 3).2 st4=o4:=op4 _
 have e2:(anP (PW 3) st4).err=0:=by
  show (applyK K3_ (opD D2_ st4)).1.err=_
  rw [op4,an4]
 rw [e1]
 exact fun u cs B K ha hR=>k78_ok ha e2 (by decide) (by decide) (by decide) (by decide) hR
theorem tl5:Tells (opD (PW 4).2 st5) (anP (PW 4) st5) txt1:=by
 have e1:opD (PW 4).2 st5=o5:=op5
 have e2:(anP (PW 4) st5).err=0:=by
  show (applyK K4_ (opD D2_ st5)).1.err=_
  rw [op5,an5]
 have e3:(anP (PW 4) st5).tk=some tk1:=by
  show (applyK K4_ (opD D2_ st5)).1.tk=_
  rw [op5,an5t]
 rw [e1]
 exact fun u cs B K ha hR=>k78_t ha e2 rfl e3 hR
def txs:List ByteArray:=[dig 1++sCol++tt1,dig 2++sCol++tt2,dig 3++sCol++sOk,dig 4++sCol++sOk,dig 5++sCol++txt1]
theorem ok1:st1.ok∧st2.ok∧st3.ok∧st4.ok∧st5.ok:=by refine ⟨?_,?_,?_,?_,?_⟩ <;> (unfold StV.ok; decide)
theorem hst:∀ i s,[st1,st2,st3,st4,st5][i]?=some s→∃ t,txs[i]?=some t∧StepOk (PW i) s t∧PW (i+1)=goP (PW i) s:=by
 intro i s hs
 match i with
 | 0=>injection hs with hs; subst hs; exact ⟨_,rfl,⟨ok1.1,1,by omega,rfl,tt1,rfl,by decide,tl1⟩,pw1⟩
 | 1=>injection hs with hs; subst hs; exact ⟨_,rfl,⟨ok1.2.1,2,by omega,rfl,tt2,rfl,by decide,tl2⟩,pw2⟩
 | 2=>injection hs with hs; subst hs; exact ⟨_,rfl,⟨ok1.2.2.1,3,by omega,rfl,sOk,rfl,by decide,tl3⟩,pw3⟩
 | 3=>injection hs with hs; subst hs; exact ⟨_,rfl,⟨ok1.2.2.2.1,4,by omega,rfl,sOk,rfl,by decide,tl4⟩,pw4⟩
 | 4=>injection hs with hs; subst hs; exact ⟨_,rfl,⟨ok1.2.2.2.2,5,by omega,rfl,txt1,rfl,by decide +kernel,tl5⟩,pw5⟩
 | i+5=>cases hs
theorem hand1:handD D2_ sRoot=rootH:=by
 have e:atD D2_ sRoot=rootH:=by unfold atD; rw [if_pos (by kernel_rfl)]
 unfold handD
 rw [e,if_neg (by decide)]
def sX:ByteArray:=⟨#[120]⟩
theorem hand2:handD D2_ sX = -1:=by
 have e:atD D2_ sX = -1:=by
  unfold atD
  rw [if_neg (by rw [show sEq sX sRoot=false by kernel_rfl]; decide),if_neg (by rw [show sEq sX sSlack=false by kernel_rfl]; decide),nd2,nd1x (by decide)]; rfl
 unfold handD taskD
 rw [if_pos e,tk2x (by decide)]; rfl
end
end Go.Proofs.YtbgbidpecmepmaaGreatDoor
