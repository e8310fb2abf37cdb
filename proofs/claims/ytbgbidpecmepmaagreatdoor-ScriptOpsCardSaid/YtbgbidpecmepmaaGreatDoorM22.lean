/-
  ScriptOps: the walk, but for works; ScriptOps: the walk, but for works; ScriptOps: the first row, and the start.
-/
import Derived.Test.YtbgbidpecmepmaaGreatDoorM21
set_option maxRecDepth 100000
namespace Go.Proofs.YtbgbidpecmepmaaGreatDoor
section
open Sy
def F3_1B (R:Ko) (C1:Option Addr→Nat→Nat→Option Addr→Option Addr→Int→World→Prop) (a1:Option Addr) (l1 c1:Nat) (x7:Option Addr) (x12:Option Addr) (x14:Int) (w:World):Prop:=Ifm (decide ((x14:Int)<(l1:Nat))) (Ix a1 l1 x14 11 fun x101=>La 11 x101 w fun x102=>Ct Tryz.prog 10 #[.pointer x12,.agg x102] w fun v103 w19=>on2 v103 fun y103_0 y103_1=>onG y103_0 fun x103_0=>onG y103_1 fun x103_1=>New (.cells (.agg #[.int .i64 0,.int .i64 0,.int .i64 0,.int .i64 0,.int .i64 0,.int .i64 0,.int .i64 0,.int .i64 0,.int .i64 0,.int .i64 0]:Value).cells 39) w19 fun x15 w20=>New (.cells (.agg #[.int .i64 0,.int .i64 0,.int .i64 0,.int .i64 0,.int .i64 0,.int .i64 0,.int .i64 0,.bool false,.int .i64 0,.int .i64 0,.int .i64 0,.int .i64 0,.int .i64 0,.int .i64 0,.int .i64 0,.int .i64 0,.int .i64 0,.int .i64 0,.int .i64 0,.int .i64 0,.int .i64 0,.int .i64 0,.int .i64 0,.int .i64 0,.slice none 0 0,.slice none 0 0,.int .i64 0,.slice none 0 0,.int .i64 0,.int .i64 0,.int .i64 0,.int .i64 0,.int .i64 0,.int .i64 0]:Value).cells 49) w20 fun x16 w21=>Sa 10 x15 x103_0 w21 fun w22=>Sa 34 x16 x103_1 w22 fun w23=>Ix a1 l1 x14 11 fun x110=>La 11 x110 w23 fun x111=>Ct Tryz.prog 10 #[.pointer x7,.agg x111] w23 fun v112 w24=>on2 v112 fun y112_0 y112_1=>onG y112_0 fun x112_0=>onG y112_1 fun x112_1=>New (.cells (.agg #[.int .i64 0,.int .i64 0,.int .i64 0,.int .i64 0,.int .i64 0,.int .i64 0,.int .i64 0,.int .i64 0,.int .i64 0,.int .i64 0]:Value).cells 39) w24 fun x17 w25=>New (.cells (.agg #[.int .i64 0,.int .i64 0,.int .i64 0,.int .i64 0,.int .i64 0,.int .i64 0,.int .i64 0,.bool false,.int .i64 0,.int .i64 0,.int .i64 0,.int .i64 0,.int .i64 0,.int .i64 0,.int .i64 0,.int .i64 0,.int .i64 0,.int .i64 0,.int .i64 0,.int .i64 0,.int .i64 0,.int .i64 0,.int .i64 0,.int .i64 0,.slice none 0 0,.slice none 0 0,.int .i64 0,.slice none 0 0,.int .i64 0,.int .i64 0,.int .i64 0,.int .i64 0,.int .i64 0,.int .i64 0]:Value).cells 49) w25 fun x18 w26=>Sa 10 x17 x112_0 w26 fun w27=>Sa 34 x18 x112_1 w27 fun w28=>La 10 x15 w28 fun x115=>La 10 x17 w28 fun x116=>Rd Tryz.prog (Bin .neq 39 (.tmp 115) (.tmp 116) (.agg x115) (.agg x116)) w28 fun v117=>onB v117 fun x117=>Ifm x117 (R (.bool false) w28) (La 34 x16 w28 fun x119=>La 34 x18 w28 fun x120=>Ct Tryz.prog 11 #[.agg x119,.agg x120] w28 fun v121 w29=>onB v121 fun x121=>Ifm (!x121) (R (.bool false) w29) (C1 a1 l1 c1 x7 x12 (IntKind.i64.wrap (x14+1)) w29))) (Ct Tryz.prog 15 #[.pointer x7,.string (⟨#[115,108,97,99,107,46,111,110,108,121]⟩)] w fun v125 w30=>onI v125 fun x125=>Ct Tryz.prog 10 #[.pointer x12,.agg #[.int .i64 0,.int .i64 4,.string (⟨#[115,108,97,99,107]⟩),.string (⟨#[111,110,108,121]⟩),.int .i64 0,.int .i64 0,.int .i64 0,.int .i64 0,.int .i64 0,.int .i64 0,.int .i64 1]] w30 fun v129 w31=>on2 v129 fun y129_0 y129_1=>onG y129_0 fun x129_0=>onG y129_1 fun x129_1=>New (.cells (.agg #[.int .i64 0,.int .i64 0,.int .i64 0,.int .i64 0,.int .i64 0,.int .i64 0,.int .i64 0,.int .i64 0,.int .i64 0,.int .i64 0]:Value).cells 39) w31 fun x20 w32=>New (.cells (.agg #[.int .i64 0,.int .i64 0,.int .i64 0,.int .i64 0,.int .i64 0,.int .i64 0,.int .i64 0,.bool false,.int .i64 0,.int .i64 0,.int .i64 0,.int .i64 0,.int .i64 0,.int .i64 0,.int .i64 0,.int .i64 0,.int .i64 0,.int .i64 0,.int .i64 0,.int .i64 0,.int .i64 0,.int .i64 0,.int .i64 0,.int .i64 0,.slice none 0 0,.slice none 0 0,.int .i64 0,.slice none 0 0,.int .i64 0,.int .i64 0,.int .i64 0,.int .i64 0,.int .i64 0,.int .i64 0]:Value).cells 49) w32 fun x21 w33=>Sa 10 x20 x129_0 w33 fun w34=>Sa 34 x21 x129_1 w34 fun w35=>Ct Tryz.prog 16 #[.pointer x12] w35.drew fun v133 w36=>onL v133 fun a133 l133 c133=>Ct Tryz.prog 16 #[.pointer x7] w36 fun v136 w37=>onL v136 fun a136 l136 c136=>Ifm (((l133:Nat):Int) == (l136:Nat)) (Lc (x21.add 0) w37 fun v141=>onI v141 fun x141=>Ifm ((x141:Int) != 0) (Ct Tryz.prog 15 #[.pointer x7,.string (⟨#[115,108,97,99,107,46,111,110,108,121]⟩)] w37 fun v153 w38=>onI v153 fun x153=>Ifm ((x153:Int) == x125) (Ct Tryz.prog 6 #[] w38 fun v158 w39=>onB v158 fun x158=>R (.bool x158) w39) (R (.bool false) w38)) (Lc (x21.add 1) w37 fun v147=>onI v147 fun x147=>Ct Tryz.prog 15 #[.pointer x12,.string (⟨#[115,108,97,99,107,46,111,110,108,121]⟩)] w37 fun v145 w40=>onI v145 fun x145=>Hc (x21.add 1) (.int .i64 x147) w40∧Ifm ((x145:Int) == x147) (Ct Tryz.prog 15 #[.pointer x7,.string (⟨#[115,108,97,99,107,46,111,110,108,121]⟩)] w40 fun v153 w41=>onI v153 fun x153=>Ifm ((x153:Int) == x125) (Ct Tryz.prog 6 #[] w41 fun v158 w42=>onB v158 fun x158=>R (.bool x158) w42) (R (.bool false) w41)) (R (.bool false) w40))) (R (.bool false) w37))
def F3_1 (R:Ko) (a1:Option Addr) (l1 c1:Nat) (x7:Option Addr) (x12:Option Addr) (x14:Int) (w:World):Prop:=∃ (Inv:Option Addr→Nat→Nat→Option Addr→Option Addr→Int→World→Prop) (μ:Option Addr→Nat→Nat→Option Addr→Option Addr→Int→World→Nat),Inv a1 l1 c1 x7 x12 x14 w∧∀ a1 l1 c1 x7 x12 x14 w,Inv a1 l1 c1 x7 x12 x14 w→F3_1B R (fun a1' l1' c1' x7' x12' x14' w'=>Inv a1' l1' c1' x7' x12' x14' w'∧μ a1' l1' c1' x7' x12' x14' w'<μ a1 l1 c1 x7 x12 x14 w) a1 l1 c1 x7 x12 x14 w
def F3_0B (R:Ko) (C0:Option Addr→Nat→Nat→Option Addr→Nat→Nat→Option Addr→Option Addr→Int→World→Prop) (a0:Option Addr) (l0 c0:Nat) (a1:Option Addr) (l1 c1:Nat) (x6:Option Addr) (x7:Option Addr) (x9:Int) (w:World):Prop:=Ifm (decide ((x9:Int)<(l0:Nat))) (Ix a0 l0 x9 11 fun x62=>La 11 x62 w fun x63=>Ct Tryz.prog 10 #[.pointer x7,.agg x63] w fun v64 w10=>on2 v64 fun y64_0 y64_1=>onG y64_0 fun x64_0=>onG y64_1 fun x64_1=>New (.cells (.agg #[.int .i64 0,.int .i64 0,.int .i64 0,.int .i64 0,.int .i64 0,.int .i64 0,.int .i64 0,.int .i64 0,.int .i64 0,.int .i64 0]:Value).cells 39) w10 fun x10 w11=>New (.cells (.agg #[.int .i64 0,.int .i64 0,.int .i64 0,.int .i64 0,.int .i64 0,.int .i64 0,.int .i64 0,.bool false,.int .i64 0,.int .i64 0,.int .i64 0,.int .i64 0,.int .i64 0,.int .i64 0,.int .i64 0,.int .i64 0,.int .i64 0,.int .i64 0,.int .i64 0,.int .i64 0,.int .i64 0,.int .i64 0,.int .i64 0,.int .i64 0,.slice none 0 0,.slice none 0 0,.int .i64 0,.slice none 0 0,.int .i64 0,.int .i64 0,.int .i64 0,.int .i64 0,.int .i64 0,.int .i64 0]:Value).cells 49) w11 fun x11 w12=>Sa 10 x10 x64_0 w12 fun w13=>Sa 34 x11 x64_1 w13 fun w14=>La 10 x10 w14.drew fun x68=>La 34 x11 w14.drew fun x70=>Ct Tryz.prog 12 #[.pointer x6,.agg x68] w14.drew fun v69 w15=>onG v69 fun x69=>Ha 34 x11 x70 w15∧Ct Tryz.prog 11 #[.agg x69,.agg x70] w15 fun v71 w16=>onB v71 fun x71=>Ifm (!x71) (R (.bool false) w16) (C0 a0 l0 c0 a1 l1 c1 x6 x7 (IntKind.i64.wrap (x9+1)) w16)) (Ct Tryz.prog 13 #[.pointer x7,.pointer x6] w fun v76 w17=>on2 v76 fun y76_0 y76_1=>onP y76_0 fun x76_0=>Nl y76_1 fun x80=>Ifm (!x80) (R (.bool false) w17) (Ifm x76_0.isNone (R (.bool false) w17) (Ct Tryz.prog 14 #[.pointer x76_0] w17 fun v87 w18=>onP v87 fun x87=>Rd Tryz.prog (Bin .neq 26 (.tmp 87) (.tmp 88) (.pointer x87) (.pointer x6)) w18 fun v89=>onB v89 fun x89=>Ifm x89 (R (.bool false) w18) (F3_1 R a1 l1 c1 x7 x76_0 0 w18))))
def F3_0 (R:Ko) (a0:Option Addr) (l0 c0:Nat) (a1:Option Addr) (l1 c1:Nat) (x6:Option Addr) (x7:Option Addr) (x9:Int) (w:World):Prop:=∃ (Inv:Option Addr→Nat→Nat→Option Addr→Nat→Nat→Option Addr→Option Addr→Int→World→Prop) (μ:Option Addr→Nat→Nat→Option Addr→Nat→Nat→Option Addr→Option Addr→Int→World→Nat),Inv a0 l0 c0 a1 l1 c1 x6 x7 x9 w∧∀ a0 l0 c0 a1 l1 c1 x6 x7 x9 w,Inv a0 l0 c0 a1 l1 c1 x6 x7 x9 w→F3_0B R (fun a0' l0' c0' a1' l1' c1' x6' x7' x9' w'=>Inv a0' l0' c0' a1' l1' c1' x6' x7' x9' w'∧μ a0' l0' c0' a1' l1' c1' x6' x7' x9' w'<μ a0 l0 c0 a1 l1 c1 x6 x7 x9 w) a0 l0 c0 a1 l1 c1 x6 x7 x9 w
def F3 (R:Ko) (a0:Option Addr) (l0 c0:Nat) (a1:Option Addr) (l1 c1:Nat) (w:World):Prop:=Ct Tryz.prog 5 #[.slice a0 l0 c0] w fun v23 w1=>onB v23 fun x23=>Ifm (!x23) (Ct Tryz.prog 6 #[] w1 fun v30 w2=>onB v30 fun x30=>R (.bool x30) w2) (Ct Tryz.prog 5 #[.slice a1 l1 c1] w1 fun v27 w3=>onB v27 fun x27=>Ifm (!x27) (Ct Tryz.prog 6 #[] w3 fun v30 w4=>onB v30 fun x30=>R (.bool x30) w4) (Ct Tryz.prog 7 #[.slice a0 l0 c0] w3 fun v32 w5=>onL v32 fun a32 l32 c32=>Ct Tryz.prog 7 #[.slice a1 l1 c1] w5 fun v34 w6=>onL v34 fun a34 l34 c34=>Ct Tryz.prog 8 #[] w6 fun v35 w7=>onP v35 fun x35=>Ct Tryz.prog 8 #[] w7 fun v36 w8=>onP v36 fun x36=>Ct Tryz.prog 9 #[.pointer x35,.slice none 0 0] w8 fun v39 w9=>on2 v39 fun y39_0 y39_1=>onP y39_0 fun x39_0=>Nl y39_1 fun x43=>Ifm (!x43) (R (.bool false) w9) (Ifm x39_0.isNone (R (.bool false) w9) (Ifm x36.isNone (R (.bool false) w9) (F3_0 R a32 l32 c32 a34 l34 c34 x36 x39_0 0 w9)))))
noncomputable def b3:Code:=Tryz.f3.body.getD .skip
def q3_1:List Bool:=[false,true,false,true,true,true,true,true,true,true,true,true]
def L3_1 (F:Option Addr→Nat→Nat→Option Addr→Option Addr→Int→World→Prop):Env→World→Prop:=fun ρ w=>onL (ρ 1) fun a1 l1 c1=>onP (ρ 7) fun x7=>onP (ρ 12) fun x12=>onI (ρ 14) fun x14=>F a1 l1 c1 x7 x12 x14 w
def q3_0:List Bool:=[false,true,false,true,true,true,true,true,true]
def L3_0 (F:Option Addr→Nat→Nat→Option Addr→Nat→Nat→Option Addr→Option Addr→Int→World→Prop):Env→World→Prop:=fun ρ w=>onL (ρ 0) fun a0 l0 c0=>onL (ρ 1) fun a1 l1 c1=>onP (ρ 6) fun x6=>onP (ρ 7) fun x7=>onI (ρ 9) fun x9=>F a0 l0 c0 a1 l1 c1 x6 x7 x9 w
abbrev T3 (z:Fr) (R:Ko) (p:List Bool) (ρ:Env) (w:World):Prop:=TW z Tryz.prog 160 (segTodo b3 p) (QR Tryz.prog [.tmp 4] R) ρ w
theorem s3_1 (R:Ko):∀ ρ w,(L3_1 (F3_1 R)) ρ w→T3 z0 R q3_1 ρ w:=by
 intro ρ w h
 obtain ⟨a1,l1,c1,e1,h⟩:=onL_of h
 obtain ⟨x7,e7,h⟩:=onP_of h
 obtain ⟨x12,e12,h⟩:=onP_of h
 obtain ⟨x14,e14,h⟩:=onI_of h
 obtain ⟨Inv,μ,hi,hb⟩:=h
 refine lpT (fun m=>L3_1 (fun a1 l1 c1 x7 x12 x14 w=>Inv a1 l1 c1 x7 x12 x14 w∧μ a1 l1 c1 x7 x12 x14 w=m)) ?_ (μ a1 l1 c1 x7 x12 x14 w) ρ w ?_
 ·intro m ρ w ih h
  obtain ⟨a1,l1,c1,e1,h⟩:=onL_of h
  obtain ⟨x7,e7,h⟩:=onP_of h
  obtain ⟨x12,e12,h⟩:=onP_of h
  obtain ⟨x14,e14,h⟩:=onI_of h
  obtain ⟨hv,hm⟩:=h
  subst hm
  have hh:=hb a1 l1 c1 x7 x12 x14 w hv
  obtain ⟨C1,hC⟩:∃ C,C=fun a1' l1' c1' x7' x12' x14' w'=>Inv a1' l1' c1' x7' x12' x14' w'∧μ a1' l1' c1' x7' x12' x14' w'<μ a1 l1 c1 x7 x12 x14 w:=⟨_,rfl⟩
  rw [← hC] at hh
  have h1:∀ ρ w,(L3_1 C1) ρ w→T3 z0 R q3_1 ρ w:=by
   intro ρ' w' h'
   refine ih ρ' w' ?_
   obtain ⟨a1',l1',c1',e1',h'⟩:=onL_of h'
   obtain ⟨x7',e7',h'⟩:=onP_of h'
   obtain ⟨x12',e12',h'⟩:=onP_of h'
   obtain ⟨x14',e14',h'⟩:=onI_of h'
   rw [hC] at h'
   refine ⟨_,h'.2,?_⟩
   simp only [e1',e7',e12',e14',L3_1,ons]
   exact ⟨h'.1,by trivial⟩
  rw [← upds_same (ρ:=ρ) [(1,.slice a1 l1 c1),(7,.pointer x7),(12,.pointer x12),(14,.int .i64 x14)] (alc e1 (alc e7 (alc e12 (alc e14 aln))))]
  exact sg (cuts:=[(q3_1,L3_1 C1)]) ⟨h1,trivial⟩ hh
 ·simp only [e1,e7,e12,e14,L3_1,ons]
  exact ⟨hi,by trivial⟩
theorem s3_0 (R:Ko):∀ ρ w,(L3_0 (F3_0 R)) ρ w→T3 z0 R q3_0 ρ w:=by
 intro ρ w h
 obtain ⟨a0,l0,c0,e0,h⟩:=onL_of h
 obtain ⟨a1,l1,c1,e1,h⟩:=onL_of h
 obtain ⟨x6,e6,h⟩:=onP_of h
 obtain ⟨x7,e7,h⟩:=onP_of h
 obtain ⟨x9,e9,h⟩:=onI_of h
 obtain ⟨Inv,μ,hi,hb⟩:=h
 refine lpT (fun m=>L3_0 (fun a0 l0 c0 a1 l1 c1 x6 x7 x9 w=>Inv a0 l0 c0 a1 l1 c1 x6 x7 x9 w∧μ a0 l0 c0 a1 l1 c1 x6 x7 x9 w=m)) ?_ (μ a0 l0 c0 a1 l1 c1 x6 x7 x9 w) ρ w ?_
 ·intro m ρ w ih h
  obtain ⟨a0,l0,c0,e0,h⟩:=onL_of h
  obtain ⟨a1,l1,c1,e1,h⟩:=onL_of h
  obtain ⟨x6,e6,h⟩:=onP_of h
  obtain ⟨x7,e7,h⟩:=onP_of h
  obtain ⟨x9,e9,h⟩:=onI_of h
  obtain ⟨hv,hm⟩:=h
  subst hm
  have hh:=hb a0 l0 c0 a1 l1 c1 x6 x7 x9 w hv
  obtain ⟨C0,hC⟩:∃ C,C=fun a0' l0' c0' a1' l1' c1' x6' x7' x9' w'=>Inv a0' l0' c0' a1' l1' c1' x6' x7' x9' w'∧μ a0' l0' c0' a1' l1' c1' x6' x7' x9' w'<μ a0 l0 c0 a1 l1 c1 x6 x7 x9 w:=⟨_,rfl⟩
  rw [← hC] at hh
  have h0:∀ ρ w,(L3_0 C0) ρ w→T3 z0 R q3_0 ρ w:=by
   intro ρ' w' h'
   refine ih ρ' w' ?_
   obtain ⟨a0',l0',c0',e0',h'⟩:=onL_of h'
   obtain ⟨a1',l1',c1',e1',h'⟩:=onL_of h'
   obtain ⟨x6',e6',h'⟩:=onP_of h'
   obtain ⟨x7',e7',h'⟩:=onP_of h'
   obtain ⟨x9',e9',h'⟩:=onI_of h'
   rw [hC] at h'
   refine ⟨_,h'.2,?_⟩
   simp only [e0',e1',e6',e7',e9',L3_0,ons]
   exact ⟨h'.1,by trivial⟩
  rw [← upds_same (ρ:=ρ) [(0,.slice a0 l0 c0),(1,.slice a1 l1 c1),(6,.pointer x6),(7,.pointer x7),(9,.int .i64 x9)] (alc e0 (alc e1 (alc e6 (alc e7 (alc e9 aln)))))]
  exact sg (cuts:=[(q3_1,L3_1 (F3_1 R)),(q3_0,L3_0 C0)]) ⟨s3_1 R,h0,trivial⟩ hh
 ·simp only [e0,e1,e6,e7,e9,L3_0,ons]
  exact ⟨hi,by trivial⟩
theorem c3 {R:Ko} {a0:Option Addr} {l0 c0:Nat} {a1:Option Addr} {l1 c1:Nat} {w:World} (h:F3 R a0 l0 c0 a1 l1 c1 w):Ct Tryz.prog 3 #[.slice a0 l0 c0,.slice a1 l1 c1] w R :=
 ctS (args:=[.slice a0 l0 c0,.slice a1 l1 c1]) (body:=b3) (n:=160) (rs:=[.tmp 4]) Tryz.func3
  (sg (cuts:=[(q3_0,L3_0 (F3_0 R))]) ⟨s3_0 R,trivial⟩ h)
variable {K:Ko} {w w':World}
def Di (q q':Nat):Prop:=q+300≤q'+1∨q'+300≤q+1
theorem Di.no {q q' r:Nat} (h:Di q q') (h1:inK q r) (h2:inK q' r):False:=by unfold Di at h; unfold inK at h1 h2; omega
theorem SW.xm {lab:Nat→Nat} {q x k m n q' x' k' m' n':Nat} {Kk K':Kn} {D D':Wd} (h:SW w lab q x k m n Kk D) (h':SW w lab q' x' k' m' n' K' D'):x≠m'∧x≠n':=by
 constructor
 ·intro e; obtain ⟨es,cl,hm⟩:=h'.nd; exact ne_of_bk h.hd hm.hp (fun e=>by cases e) e
 ·intro e; obtain ⟨es,cl,hm⟩:=h'.tk; exact ne_of_bk h.hd hm.hp (fun e=>by cases e) e
section
variable {lab lab':Nat→Nat} {q x k m n q' x' j m' n' B:Nat} {Kk K':Kn} {D D':Wd} {s:StV} {cs:List Value}
theorem DoR.oth (hd:DoR w w' lab lab' q x k m n Kk D s cs) (h:SW w lab q x k m n Kk D) (hq:Di q q') (h':SW w lab q' x' j m' n' K' D') (ne:m≠m'∧m≠n'∧n≠m'∧n≠n'):SW w' lab' q' x' j m' n' K' D':=by
 obtain ⟨x1,x2⟩:=h'.xm h
 refine h'.oth hd.kp (fun y hy hs=>?_) hd.old (fun y hy hin=>?_) hd.sw.bd
 ·rcases hs with hs | rfl | rfl
  ·rcases hy with hy | rfl | rfl | rfl
   ·exact hq.no hs hy
   ·rw [h'.lx] at hs; unfold inK at hs; omega
   ·rw [h'.lm] at hs; unfold inK at hs; omega
   ·rw [h'.ln] at hs; unfold inK at hs; omega
  ·rcases hy with hy | rfl | rfl | rfl
   ·rw [h.lm] at hy; unfold inK at hy; omega
   ·exact x1 rfl
   ·exact ne.1 rfl
   ·exact ne.2.1 rfl
  ·rcases hy with hy | rfl | rfl | rfl
   ·rw [h.ln] at hy; unfold inK at hy; omega
   ·exact x2 rfl
   ·exact ne.2.2.1 rfl
   ·exact ne.2.2.2 rfl
 ·by_cases e:lab' y=0
  ·rw [e] at hin; unfold inK at hin; omega
  ·exact hq.no (hd.new y hy e) hin
theorem DoR.othK (hd:DoR w w' lab lab' q x k m n Kk D s cs) (h:SW w lab q x k m n Kk D) (hq:Di q q') (h':KR w lab q' j K'):KR w' lab' q' j K':=by
 refine h'.oth hd.kp (fun y hy hs=>?_) hd.old (fun y hy hin=>?_) hd.sw.bd
 ·rcases hs with hs | rfl | rfl
  ·exact hq.no hs hy
  ·rw [h.lm] at hy; unfold inK at hy; omega
  ·rw [h.ln] at hy; unfold inK at hy; omega
 ·by_cases e:lab' y=0
  ·rw [e] at hin; unfold inK at hin; omega
  ·exact hq.no (hd.new y hy e) hin
theorem DoR.up (hd:DoR w w' lab lab' q x k m n Kk D s cs) (lz:∀ y,y<B→lab y=0) (hm:B≤m) (hn:B≤n):Kp (fun y=>B≤y) w w' :=
 hd.kp.mono fun y _ hs=>by
  rcases hs with hs | rfl | rfl
  ·by_cases e:B≤y
   ·exact e
   ·rw [lz y (by omega)] at hs; unfold inK at hs; omega
  ·exact hm
  ·exact hn
theorem DoR.ans {w2:World} {S:Nat→Prop} (hd:DoR w w' lab lab' q x k m n Kk D s cs) (kp:Kp S w' w2) (hS:∀ y,w.heap.size≤y→¬ S y):AnsAt w2 w.heap.size cs (applyK Kk (opD D s)).1:=hd.an.kp kp hS
end
structure Inv0 (w0:World) (B:Nat) (w:World) (lab:Nat→Nat) (x k m n j:Nat) (Kk:Kn) (D:Wd) (N:Nat):Prop where
 s1:SW w lab 1000 x k m n Kk D
 kj:KR w lab 2000 j Kk
 g0:G0 w
 few:Few D.nd N
 dot:∀ t,D.nd t≠none→noDot t
 kp:Kp (fun y=>B≤y) w0 w
 lz:∀ y,y<B→lab y=0
 hB:B≤w.heap.size
 hm:B≤m
 hn:B≤n
structure Inv1 (w0:World) (B:Nat) (w:World) (lab:Nat→Nat) (x k m n x' j m' n':Nat) (Kk:Kn) (D:Wd) (N:Nat):Prop where
 s1:SW w lab 1000 x k m n Kk D
 s2:SW w lab 2000 x' j m' n' Kk D
 g0:G0 w
 few:Few D.nd N
 dot:∀ t,D.nd t≠none→noDot t
 kp:Kp (fun y=>B≤y) w0 w
 lz:∀ y,y<B→lab y=0
 hB:B≤w.heap.size
 hm:B≤m
 hn:B≤n
 hm':B≤m'
 hn':B≤n'
 ne:m≠m'∧m≠n'∧n≠m'∧n≠n'
theorem Inv0.no {w0:World} {B:Nat} {lab:Nat→Nat} {x k m n j:Nat} {Kk:Kn} {D:Wd} {N:Nat} (h:Inv0 w0 B w lab x k m n j Kk D N) (kp:Kp No w w'):Inv0 w0 B w' lab x k m n j Kk D N :=
 ⟨h.s1.no kp,h.kj.no kp,h.g0.kp kp id,h.few,h.dot,h.kp.trans (kp.no _),h.lz,Nat.le_trans h.hB kp.size,h.hm,h.hn⟩
theorem Inv1.no {w0:World} {B:Nat} {lab:Nat→Nat} {x k m n x' j m' n':Nat} {Kk:Kn} {D:Wd} {N:Nat} (h:Inv1 w0 B w lab x k m n x' j m' n' Kk D N) (kp:Kp No w w'):Inv1 w0 B w' lab x k m n x' j m' n' Kk D N :=
 ⟨h.s1.no kp,h.s2.no kp,h.g0.kp kp id,h.few,h.dot,h.kp.trans (kp.no _),h.lz,Nat.le_trans h.hB kp.size,h.hm,h.hn,h.hm',h.hn',h.ne⟩
def plainF (P:Program) (N:Nat):List Field→Nat→Bool
 | [],i=>Nat.beq i N
 | f :: r,i=>f.name != "_" && Nat.beq f.offset i && (match P.underlying f.type,loadKind P f.type with
  | some (.int _),some none=>plainF P N r (i+1)
  | some (.struct _),some (some n)=>intStruct P f.type n && plainF P N r (i+n)
  | _,_=>false)
theorem plainF_le {P:Program} {N:Nat}:∀ (fs:List Field) (i:Nat),plainF P N fs i=true→i≤N
 | [],i,h=>Nat.le_of_eq (Nat.eq_of_beq_eq_true h)
 | f :: fs,i,h=>by
  simp only [plainF,Bool.and_eq_true] at h
  obtain ⟨_,ht⟩:=h
  split at ht
  ·have:=plainF_le fs _ ht; omega
  ·rw [Bool.and_eq_true] at ht; have:=plainF_le fs _ ht.2; omega
  ·cases ht
theorem int_refl {P:Program} {t n d:Nat} (h:intStruct P t n=true) (la:List Int) (h1:la.length=n) (w:World):(Op.equalIn (d+2) t (.agg (la.map I).toArray) (.agg (la.map I).toArray)).run P w=.ok true w:=by
 unfold intStruct at h
 split at h
 ·rename_i fs hu
  simp only [Bool.and_eq_true,Bool.not_eq_true'] at h
  obtain ⟨⟨⟨hF,hs⟩,hg⟩,hn⟩:=h
  have hn:=Nat.eq_of_beq_eq_true hn
  have hfo:P.fieldsOf t=fs:=by simp [Program.fieldsOf,hu]
  rw [run_equalIn_struct w (d+1) t _ _ (by rw [hfo]; exact hu) hs,hfo]
  have:=eqF (P:=P) (w:=w) (d:=d) (xs:=(la.map I).toArray) (ys:=(la.map I).toArray) fs.toList 0 la la hF (by omega) (by omega) (by simp) (by simp)
  rw [beq_self_eq_true] at this
  exact this
 ·cases h
theorem eqR {P:Program} {w:World} {d:Nat} (la:List Int):∀ (fs:List Field) (i:Nat),plainF P la.length fs i=true→(Op.eqFields (d+2) (la.map I).toArray (la.map I).toArray fs).run P w=.ok true w
 | [],i,_=>rfl
 | f :: fs,i,h=>by
  have h0:=h
  simp only [plainF,Bool.and_eq_true] at h
  obtain ⟨⟨hn,ho⟩,ht⟩:=h
  have ho:=Nat.eq_of_beq_eq_true ho
  have hn':f.name ≠ "_":=by simpa using hn
  split at ht
  ·rename_i q hu hk
   have hi:i<la.length:=by have:=plainF_le _ _ ht; omega
   have gx:(la.map I).toArray[i]?=some (I la[i]):=by simp [hi]
   have hag:=((isAgg_run (P:=P) (t:=f.type) w).2 hk).1
   have hpx:(part f.type (la.map I).toArray f.offset).run P w=.ok (I la[i]) w:=by simp only [part,Sem.run_bind,hag,ho,gx]; rfl
   have hq:=run_equalIn_int (P:=P) w (d+1) f.type .i64 q la[i] la[i] hu
   have ih:=eqR (w:=w) (d:=d) la fs (i+1) ht
   simp only [Op.eqFields,if_pos hn',Sem.run_bind,hpx,Result.andThen_ok,hq,beq_self_eq_true,if_true]
   simpa using ih
  ·rename_i fs' n hu hk
   rw [Bool.and_eq_true] at ht
   have hi:i+n≤la.length:=plainF_le _ _ ht.2
   have hag:=((isAgg_run (P:=P) (t:=f.type) w).1 n hk)
   have hex:((la.map I).toArray.extract i (i+n))=(((la.drop i).take n).map I).toArray:=by
    apply Array.ext'
    simp [List.map_drop,List.map_take]
   have hpx:(part f.type (la.map I).toArray f.offset).run P w=.ok (.agg (((la.drop i).take n).map I).toArray) w:=by
    simp only [part,Sem.run_bind,hag.1,ho,Result.andThen_ok,if_true,hag.2,hex,Sem.run_pure]
   have hq:=int_refl (P:=P) (d:=d) ht.1 ((la.drop i).take n) (by rw [List.length_take,List.length_drop]; omega) w
   have ih:=eqR (w:=w) (d:=d) la fs (i+n) ht.2
   simp only [Op.eqFields,if_pos hn',Sem.run_bind,hpx,Result.andThen_ok,hq]
   simpa using ih
  ·cases ht
def plainS (P:Program) (t n:Nat):Bool:=match P.underlying t with
 | some (.struct fs)=>plainF P n fs.toList 0 && !P.stoodInHeld t && !P.eqGuardType P.depth t
 | _=>false
theorem ne_refl {P:Program} {t:Nat} (la:List Int) (h:plainS P t la.length=true) (x y:Operand) (w:World) (k:Value→Prop):Rd P (Bin .neq t x y (.agg (la.map I).toArray) (.agg (la.map I).toArray)) w k=k (.bool false):=by
 unfold plainS at h
 split at h
 ·rename_i fs hu
  simp only [Bool.and_eq_true,Bool.not_eq_true'] at h
  obtain ⟨⟨hF,hs⟩,hg⟩:=h
  have hfo:P.fieldsOf t=fs:=by simp [Program.fieldsOf,hu]
  have he:(Op.equalIn 10000 t (.agg (la.map I).toArray) (.agg (la.map I).toArray)).run P w=.ok true w:=by
   rw [run_equalIn_struct w 9999 t _ _ (by rw [hfo]; exact hu) hs,hfo]
   exact eqR (d:=9997) la fs.toList 0 hF
  refine Rd_ok ?_ k
  simp only [Bin,Sem.run_bind,run_eqGuard_agg w _ t x y _ _ hg,Result.andThen_ok,run_neq_struct,he]
  rfl
 ·cases h
theorem ne39 (o:OpV) (x y:Operand) (w:World) (k:Value→Prop):Rd Tryz.prog (Bin .neq 39 x y (.agg o.cells.toArray) (.agg o.cells.toArray)) w k=k (.bool false) :=
 ne_refl [o.k,o.a,o.t,o.q,o.p,o.jl,o.jc,o.ja,o.jd,o.n] (show plainS Tryz.prog 39 10=true by kernel_rfl) x y w k
def sOnly:ByteArray:=⟨#[115,108,97,99,107,46,111,110,108,121]⟩
def stOnly:StV:=⟨0,4,sSlack,⟨#[111,110,108,121]⟩,0,0,0,0,0,0,1⟩
theorem only_full:stOnly.full=sOnly:=by decide +kernel
theorem only_dot {D:Wd} (h:∀ t,D.nd t≠none→noDot t):D.nd sOnly=none:=by
 cases e:D.nd sOnly with
 | none=>rfl
 | some v =>
  have:=h sOnly (by rw [e]; simp) 5 46 rfl
  exact absurd rfl this
theorem only_at {D:Wd} (h:D.nd sOnly=none):handD D sOnly=taskD D sOnly:=by
 have e:atD D sOnly = -1:=by
  unfold atD
  rw [if_neg (by decide +kernel),if_neg (by decide +kernel),h]; rfl
 unfold handD
 rw [if_pos e]
end
section
open Sy
variable {K:Ko} {w w':World}
theorem Inv0.bd {w0:World} {B:Nat} {lab:Nat→Nat} {x k m n j:Nat} {Kk:Kn} {D:Wd} {N:Nat} (h:Inv0 w0 B w lab x k m n j Kk D N):∀ y,lab y≠0→y<w.heap.size:=h.s1.bd
theorem lz_of {lab:Nat→Nat} (bd:∀ y,lab y≠0→y<w.heap.size) {b:Nat} (hb:w.heap.size≤b):lab b=0:=by
 by_cases e:lab b=0
 ·exact e
 ·have:=bd b e; omega
theorem d12:Di 1000 2000:=.inl (by omega)
theorem d21:Di 2000 1000:=.inr (by omega)
section
variable {w0:World} {B l0 c0 l1 c1:Nat} {a0 a1:Option Addr} {sa sb:List StV}
theorem f3_end (hB0:0<B) (hW:∀ (u:World) (K:Ko),Kp (fun y=>B≤y) w0 u→(∀ u',Kp No u u'→K (.bool true) u')→Ct Tryz.prog 6 #[] u K)
  {lab:Nat→Nat} {x k m n x' j m' n':Nat} {Kk:Kn} {D:Wd} {N:Nat} (h:Inv1 w0 B w lab x k m n x' j m' n' Kk D N) (hN:N≤1000) (hR:∀ u,Kp (fun y=>B≤y) w0 u→K (.bool true) u) {C:Option Addr→Nat→Nat→Option Addr→Option Addr→Int→World→Prop} {i:Int} (hi:¬ i<(l1:Int)) :
  F3_1B K C a1 l1 c1 (some ⟨x,0,none⟩) (some ⟨x',0,none⟩) i w:=by
 unfold F3_1B
 simp only [SS]
 rw [if_neg hi]
 refine k15 h.s1 ?_
 simp only [SS]
 refine k10 (s:=stOnly) h.s2 (by unfold StV.ok; decide) h.g0 (h.lz 0 hB0) fun cs w1 lab1 hd=>?_
 have o1:SW w1 lab1 1000 x k m n Kk D:=hd.oth h.s2 d21 h.s1 ⟨Ne.symm h.ne.1,Ne.symm h.ne.2.2.1,Ne.symm h.ne.2.1,Ne.symm h.ne.2.2.2⟩
 have o2:=hd.sw
 have kp1:Kp (fun y=>B≤y) w0 w1:=h.kp.trans (hd.up h.lz h.hm' h.hn')
 have wz:=h.hB
 have kz1:=hd.kp.size
 generalize hA:(applyK Kk (opD D stOnly))=A at *
 simp only [SS]
 refine new_k zO.cells fun w2 k2 b2 s2=>?_
 refine new_k (zAns 0) fun w3 k3 b3 s3=>?_
 refine sa_k (k3.bk b2 id) (opD D stOnly).len (by decide) (opD D stOnly).one fun w4 k4 b4 s4=>?_
 have hl:cs.length=34:=by have:=hd.an.len; exact this
 refine sa_k (k4.bk b3 (by omega)) hl (by rw [show (zAns 0).length=34 from rfl]; omega) hd.an.one fun w5 k5 b5 s5=>?_
 rw [over_all _ _ (by rw [hl]; rfl)] at b5
 have k15':Kp No w1 w5:=(((k2.trans k3).own k4 (by omega)).own k5 (by omega))
 have p1:=o1.no k15'
 have p2:=o2.no k15'
 simp only [SS]
 refine k16 (w:=dr w5 _) (p2.no (Kp.dr No w5 _)) (next_few h.few (by unfold StV.ok; decide)) (by omega) fun a l c w6 k6 hc6=>?_
 have k6:Kp No w5 w6:=k6.drL
 simp only [SS]
 refine k16 (p1.no k6) h.few (by omega) fun a' l' c' w7 k7 hc7=>?_
 simp only [SS]
 have hnd:(nextD D stOnly A.1).nd=D.nd:=by
  unfold nextD givesD
  split
  ·rw [if_pos (show stOnly.k=4 from rfl)]
  ·rfl
 rw [hnd] at hc6
 have hll:l=l':=hc6.uniq hc7
 subst hll
 rw [if_pos rfl]
 have k57:=k6.trans k7
 have b57:Bk w7 w2.heap.size cs 49:=k57.bk b5 id
 have hc0:cs[0]?=some (I A.1.err)∧cs[1]?=some (I A.1.hd):=by
  have han:=hd.an
  rw [hA] at han
  obtain ⟨nc,tc,rfl,_,_⟩:=han
  exact ⟨rfl,rfl⟩
 simp only [b57.rd hc0.1,SS]
 have q1:=p1.no k57
 have q2:=p2.no k57
 have kp7:Kp (fun y=>B≤y) w0 w7:=kp1.trans ((k15'.trans k57).no _)
 have hlit:(⟨#[115,108,97,99,107,46,111,110,108,121]⟩:ByteArray)=sOnly:=rfl
 rw [hlit]
 have fin:Ct Tryz.prog 15 #[Pt x 0,.string sOnly] w7 fun v153 w38=>onI v153 fun x153=>if x153=handD D sOnly then (Ct Tryz.prog 6 #[] w38 fun v158 w39=>onB v158 fun x158=>K (.bool x158) w39) else (K (.bool false) w38):=by
  refine k15 q1 ?_
  simp only [SS]
  refine hW w7 _ kp7 fun w8 k8=>?_
  simp only [SS]
  exact hR w8 (kp7.trans (k8.no _))
 by_cases e0:A.1.err=0
 ·rw [if_pos e0]
  simp only [b57.rd hc0.2,SS]
  refine k15 q2 ?_
  simp only [SS,b57.hc hc0.2]
  have hon:=only_dot h.dot
  have hD2:nextD D stOnly A.1=⟨D.nd,updS D.tk sOnly A.1.hd⟩:=by
   unfold nextD givesD
   rw [if_pos ⟨e0,.inr rfl⟩,if_pos (show stOnly.k=4 from rfl),only_full]
  have hh:handD (nextD D stOnly A.1) sOnly=A.1.hd:=by
   rw [only_at (by rw [hnd]; exact hon),hD2]
   simp [taskD,updS]
  rw [if_pos hh]
  exact fin
 ·rw [if_neg e0]
  exact fin
theorem f3_1 (hB0:0<B) (hw0:B=w0.heap.size) (hW:∀ (u:World) (K:Ko),Kp (fun y=>B≤y) w0 u→(∀ u',Kp No u u'→K (.bool true) u')→Ct Tryz.prog 6 #[] u K)
  (hl1:l1≤200) (hsl:sb.length=l1) (hsb:∀ s∈sb,s.pl) {Bb:Nat} (hob:w0.ownsRow Bb 54 11 (.slice a1 l1 c1) l1 (stC sb)) (hR:∀ u,Kp (fun y=>B≤y) w0 u→K (.bool true) u)
  {lab:Nat→Nat} {x k m n x' j m' n':Nat} {Kk:Kn} {D:Wd} {N:Nat} (hN:N≤300) (h:Inv1 w0 B w lab x k m n x' j m' n' Kk D N) :
  F3_1 K a1 l1 c1 (some ⟨x,0,none⟩) (some ⟨x',0,none⟩) 0 w:=by
 unfold F3_1
 refine ⟨fun b1 m1 d1 x7 x12 x14 u=>a1=b1∧l1=m1∧c1=d1∧x7=some ⟨x,0,none⟩∧x12=some ⟨x',0,none⟩∧0≤x14∧x14≤(l1:Int)∧∃ lab Kk D,Inv1 w0 B u lab x k m n x' j m' n' Kk D (N+x14.toNat),fun _ _ _ _ _ x14 _=>((l1:Int) - x14).toNat,
  ⟨rfl,rfl,rfl,rfl,rfl,by omega,by omega,lab,Kk,D,h⟩,?_⟩
 rintro _ _ _ _ _ x14 w1 ⟨rfl,rfl,rfl,rfl,rfl,h0,hx,lab1,K1,D1,h1⟩
 by_cases e:x14<(l1:Int)
 ·obtain ⟨i,rfl⟩:∃ i:Nat,x14=i:=⟨x14.toNat,by omega⟩
  have hi:i<sb.length:=by omega
  obtain ⟨s,hs⟩:∃ s,sb[i]?=some s:=⟨sb[i],by simp [hi]⟩
  have hpl:=hsb s (List.mem_of_getElem? hs)
  have row:∀ {u:World},Kp (fun y=>B≤y) w0 u→u.ownsRow Bb 54 11 (.slice a1 l1 c1) l1 (stC sb):=fun ku=>own_kp hob ku fun b hb hle=>by have:=(own_lt hob hb).2; omega
  unfold F3_1B
  simp only [SS]
  rw [if_pos e]
  refine row_k (row h1.kp) rfl (by omega) hs ?_
  refine k10 h1.s2 hpl.1 h1.g0 (h1.lz 0 hB0) fun cs w2 lab2 hd=>?_
  have o1:SW w2 lab2 1000 x k m n K1 D1:=hd.oth h1.s2 d21 h1.s1 ⟨Ne.symm h1.ne.1,Ne.symm h1.ne.2.2.1,Ne.symm h1.ne.2.1,Ne.symm h1.ne.2.2.2⟩
  have o2:=hd.sw
  have kp2:Kp (fun y=>B≤y) w0 w2:=h1.kp.trans (hd.up h1.lz h1.hm' h1.hn')
  have wz:=h1.hB
  have kz1:=hd.kp.size
  have lz2:∀ y,y<B→lab2 y=0:=fun y hy=>by rw [hd.old y (by omega),h1.lz y hy]
  have bd2:=o2.bd
  simp only [SS]
  refine new_k zO.cells fun w3 k3 b3 s3=>?_
  refine new_k (zAns 0) fun w4 k4 b4 s4=>?_
  refine sa_k (k4.bk b3 id) (opD D1 s).len (by decide) (opD D1 s).one fun w5 k5 b5 s5=>?_
  rw [over_all _ _ (by rfl)] at b5
  have hl:cs.length=34:=by have:=hd.an.len; exact this
  refine sa_k (k5.bk b4 (by omega)) hl (by rw [show (zAns 0).length=34 from rfl]; omega) hd.an.one fun w6 k6 b6 s6=>?_
  rw [over_all _ _ (by rw [hl]; rfl)] at b6
  have b56:Bk w6 w2.heap.size (opD D1 s).cells 39:=k6.bk b5 (by omega)
  have k26:Kp No w2 w6:=(((k3.trans k4).own k5 (by omega)).own k6 (by omega))
  have an6:=hd.an.kp k26 fun _ _=>id
  have p1:=o1.no k26
  have p2:=o2.no k26
  have kp6:Kp (fun y=>B≤y) w0 w6:=kp2.trans (k26.no _)
  refine row_k (row kp6) rfl (by omega) hs ?_
  refine k10 p1 hpl.1 (hd.g0.kp k26 id) (lz2 0 hB0) fun cs' w7 lab7 hd'=>?_
  have r1:=hd'.sw
  have r2:SW w7 lab7 2000 x' j m' n' _ _:=hd'.oth p1 d12 p2 h1.ne
  have kz6:=k26.size
  have kz7:=hd'.kp.size
  have kp7:Kp (fun y=>B≤y) w0 w7:=kp6.trans (hd'.up lz2 h1.hm h1.hn)
  have nin:∀ {y:Nat},w2.heap.size≤y→y<w6.heap.size→¬ (inK 1000 (lab2 y)∨y=m∨y=n):=fun {y} hy hy6 hh=>by
   have q1:=o1.nd.lt
   have q2:=o1.tk.lt
   rcases hh with hh | rfl | rfl
   ·rw [lz_of bd2 hy] at hh; unfold inK at hh; omega
   ·omega
   ·omega
  have b57:Bk w7 w2.heap.size (opD D1 s).cells 39:=hd'.kp.bk b56 (nin (by omega) (by omega))
  have b67:Bk w7 w3.heap.size cs 49:=hd'.kp.bk b6 (nin (by omega) (by omega))
  have an7:=an6.kp hd'.kp fun y hy hh=>by
   have q1:=h1.s1.nd.lt
   have q2:=h1.s1.tk.lt
   rcases hh with hh | rfl | rfl
   ·by_cases ez:lab2 y=0
    ·rw [ez] at hh; unfold inK at hh; omega
    ·exact d12.no hh (hd.new y hy ez)
   ·omega
   ·omega
  simp only [SS]
  refine new_k zO.cells fun w8 k8 b8 s8=>?_
  refine new_k (zAns 0) fun w9 k9 b9 s9=>?_
  refine sa_k (k9.bk b8 id) (opD D1 s).len (by decide) (opD D1 s).one fun w10 k10' b10 s10=>?_
  rw [over_all _ _ (by rfl)] at b10
  have hl':cs'.length=34:=by have:=hd'.an.len; exact this
  refine sa_k (k10'.bk b9 (by omega)) hl' (by rw [show (zAns 0).length=34 from rfl]; omega) hd'.an.one fun w11 k11' b11 s11=>?_
  rw [over_all _ _ (by rw [hl']; rfl)] at b11
  have k711:Kp No w7 w11:=(((k8.trans k9).own k10' (by omega)).own k11' (by omega))
  have g1:Bk w11 w2.heap.size (opD D1 s).cells 39:=k711.bk b57 id
  have g2:Bk w11 w3.heap.size cs 49:=k711.bk b67 id
  have g3:Bk w11 w7.heap.size (opD D1 s).cells 39:=k11'.bk b10 (by omega)
  rw [show ∀ k,La 10 ⟨w2.heap.size,0,none⟩ w11 k=k (opD D1 s).cells.toArray from fun k=>g1.la0 (opD D1 s).len k,show ∀ k,La 10 ⟨w7.heap.size,0,none⟩ w11 k=k (opD D1 s).cells.toArray from fun k=>g3.la0 (opD D1 s).len k]
  rw [ne39]
  simp only [SS]
  rw [show ∀ k,La 34 ⟨w3.heap.size,0,none⟩ w11 k=k cs.toArray from fun k=>g2.la0 hl k,show ∀ k,La 34 ⟨w8.heap.size,0,none⟩ w11 k=k cs'.toArray from fun k=>b11.la0 hl' k]
  refine k11 (an7.kp k711 fun _ _=>id) (hd'.an.kp k711 fun _ _=>id) fun w12 k12'=>?_
  simp only [SS]
  rw [wr1 (by omega) (by omega)]
  have k712:=k711.trans k12'
  refine ⟨⟨by omega,by omega,lab7,_,_,r1.no k712,r2.no k712,hd'.g0.kp k712 id,?_,next_dot h1.dot hpl.2,kp7.trans (k712.no _),fun y hy=>by rw [hd'.old y (by omega),lz2 y hy],by have:=k712.size; omega,h1.hm,h1.hn,h1.hm',h1.hn',h1.ne⟩,by omega⟩
  have:=next_few (s:=s) (a:=(applyK K1 (opD D1 s)).1) h1.few hpl.1
  rw [show N+((i:Int)+1).toNat=N+(i:Int).toNat+1 by omega]
  exact this
 ·exact f3_end hB0 hW h1 (by omega) hR e
end
end
section
open Sy
variable {K:Ko} {w w':World}
section
variable {w0:World} {B l0 c0 l1 c1:Nat} {a0 a1:Option Addr} {sa sb:List StV}
theorem f3_0 (hB0:0<B) (hw0:B=w0.heap.size) (hW:∀ (u:World) (K:Ko),Kp (fun y=>B≤y) w0 u→(∀ u',Kp No u u'→K (.bool true) u')→Ct Tryz.prog 6 #[] u K)
  (hl0:l0≤200) (hsl0:sa.length=l0) (hsa:∀ s∈sa,s.pl) {Ba:Nat} (hoa:w0.ownsRow Ba 54 11 (.slice a0 l0 c0) l0 (stC sa))
  (hl1:l1≤200) (hsl:sb.length=l1) (hsb:∀ s∈sb,s.pl) {Bb:Nat} (hob:w0.ownsRow Bb 54 11 (.slice a1 l1 c1) l1 (stC sb)) (hR:∀ u,Kp (fun y=>B≤y) w0 u→K (.bool true) u)
  {lab:Nat→Nat} {x k m n j:Nat} {Kk:Kn} {D:Wd} (h:Inv0 w0 B w lab x k m n j Kk D 0) :
  F3_0 K a0 l0 c0 a1 l1 c1 (some ⟨j,0,none⟩) (some ⟨x,0,none⟩) 0 w:=by
 unfold F3_0
 refine ⟨fun b0 m0 d0 b1 m1 d1 x6 x7 x9 u=>a0=b0∧l0=m0∧c0=d0∧a1=b1∧l1=m1∧c1=d1∧x6=some ⟨j,0,none⟩∧x7=some ⟨x,0,none⟩∧0≤x9∧x9≤(l0:Int)∧∃ lab Kk D,Inv0 w0 B u lab x k m n j Kk D x9.toNat,fun _ _ _ _ _ _ _ _ x9 _=>((l0:Int) - x9).toNat,
  ⟨rfl,rfl,rfl,rfl,rfl,rfl,rfl,rfl,by omega,by omega,lab,Kk,D,h⟩,?_⟩
 rintro _ _ _ _ _ _ _ _ x9 w1 ⟨rfl,rfl,rfl,rfl,rfl,rfl,rfl,rfl,h0,hx,lab1,K1,D1,h1⟩
 have wz:=h1.hB
 by_cases e:x9<(l0:Int)
 ·obtain ⟨i,rfl⟩:∃ i:Nat,x9=i:=⟨x9.toNat,by omega⟩
  have hi:i<sa.length:=by omega
  obtain ⟨s,hs⟩:∃ s,sa[i]?=some s:=⟨sa[i],by simp [hi]⟩
  have hpl:=hsa s (List.mem_of_getElem? hs)
  have row:∀ {u:World},Kp (fun y=>B≤y) w0 u→u.ownsRow Ba 54 11 (.slice a0 l0 c0) l0 (stC sa):=fun ku=>own_kp hoa ku fun b hb hle=>by have:=(own_lt hoa hb).2; omega
  unfold F3_0B
  simp only [SS]
  rw [if_pos e]
  refine row_k (row h1.kp) rfl (by omega) hs ?_
  refine k10 h1.s1 hpl.1 h1.g0 (h1.lz 0 hB0) fun cs w2 lab2 hd=>?_
  have kj2:KR w2 lab2 2000 j K1:=hd.othK h1.s1 d12 h1.kj
  have o1:=hd.sw
  have kp2:Kp (fun y=>B≤y) w0 w2:=h1.kp.trans (hd.up h1.lz h1.hm h1.hn)
  have kz1:=hd.kp.size
  have lz2:∀ y,y<B→lab2 y=0:=fun y hy=>by rw [hd.old y (by omega),h1.lz y hy]
  have bd2:=o1.bd
  simp only [SS]
  refine new_k zO.cells fun w3 k3 b3 s3=>?_
  refine new_k (zAns 0) fun w4 k4 b4 s4=>?_
  refine sa_k (k4.bk b3 id) (opD D1 s).len (by decide) (opD D1 s).one fun w5 k5 b5 s5=>?_
  rw [over_all _ _ (by rfl)] at b5
  have hl:cs.length=34:=by have:=hd.an.len; exact this
  refine sa_k (k5.bk b4 (by omega)) hl (by rw [show (zAns 0).length=34 from rfl]; omega) hd.an.one fun w6 k6 b6 s6=>?_
  rw [over_all _ _ (by rw [hl]; rfl)] at b6
  have b56:Bk w6 w2.heap.size (opD D1 s).cells 39:=k6.bk b5 (by omega)
  have k26:Kp No w2 w6:=(((k3.trans k4).own k5 (by omega)).own k6 (by omega))
  have an6:=hd.an.kp k26 fun _ _=>id
  have p1:=o1.no k26
  have kj6:=kj2.no k26
  have kp6:Kp (fun y=>B≤y) w0 w6:=kp2.trans (k26.no _)
  have kz6:=k26.size
  rw [show ∀ k,La 10 ⟨w2.heap.size,0,none⟩ w6 k=k (opD D1 s).cells.toArray from fun k=>b56.la0 (opD D1 s).len k,show ∀ k,La 34 ⟨w3.heap.size,0,none⟩ w6 k=k cs.toArray from fun k=>b6.la0 hl k]
  refine k12 (w:=dr w6 _) (kj6.no (Kp.dr No w6 _)) ((hd.g0.kp k26 id).kp (Kp.dr No w6 _) id) (lz2 0 hB0) fun cs' w7 lab7 st hk ha=>?_
  have st6:Stp w6 w7 lab2 lab7 2000:=⟨st.kp.drL,st.old,st.new⟩
  have nin:∀ {y:Nat},lab2 y=0→¬ inK 2000 (lab2 y):=fun e=>by rw [e]; unfold inK; omega
  have b67:Bk w7 w3.heap.size cs 49:=st6.kp.bk b6 (nin (lz_of bd2 (by omega)))
  have an7:=an6.kp st6.kp fun y hy hh=>by
   by_cases ez:lab2 y=0
   ·rw [ez] at hh; unfold inK at hh; omega
   ·exact d12.no (hd.new y hy ez) hh
  have r1:SW w7 lab7 1000 x k m n _ _:=p1.oth st6.kp (fun y hy hs=>by
   rcases hy with hy | rfl | rfl | rfl
   ·exact d12.no hy hs
   ·exact nin o1.lx hs
   ·exact nin o1.lm hs
   ·exact nin o1.ln hs) st6.old (fun y hy hin=>by
   by_cases ez:lab7 y=0
   ·rw [ez] at hin; unfold inK at hin; omega
   ·exact d12.no hin (st6.new y hy ez)) hk.bd
  have kp7:Kp (fun y=>B≤y) w0 w7:=kp6.trans (st6.kp.mono fun y _ hs=>by
   by_cases e:B≤y
   ·exact e
   ·rw [lz2 y (by omega)] at hs; unfold inK at hs; omega)
  simp only [SS]
  rw [show Ha 34 ⟨w3.heap.size,0,none⟩ cs.toArray w7=True from b67.ha0 hl]
  refine ⟨trivial,?_⟩
  refine k11 ha an7 fun w8 k8=>?_
  simp only [SS]
  rw [wr1 (by omega) (by omega)]
  refine ⟨⟨by omega,by omega,lab7,_,_,r1.no k8,hk.no k8,(((hd.g0.kp k26 id).kp st6.kp (by rw [lz2 0 hB0]; unfold inK; omega))).kp k8 id,?_,next_dot h1.dot hpl.2,kp7.trans (k8.no _),fun y hy=>by rw [st6.old y (by omega),lz2 y hy],by have:=k8.size; have:=st6.kp.size; omega,h1.hm,h1.hn⟩,by omega⟩
  have:=next_few (s:=s) (a:=(applyK K1 (opD D1 s)).1) h1.few hpl.1
  rw [show ((i:Int)+1).toNat=(i:Int).toNat+1 by omega]
  exact this
 ·unfold F3_0B
  simp only [SS]
  rw [if_neg e]
  refine k13 h1.s1 h1.kj fun x' m' n' w2 k2 hx' hm' hn' hv=>?_
  simp only [SS]
  refine k14 hv ?_
  simp only [SS]
  rw [neq_ptr]
  simp only [SS]
  have lm:=h1.s1.nd.lt
  have ln:=h1.s1.tk.lt
  have h2:=h1.no k2
  exact f3_1 hB0 hw0 hW hl1 hsl hsb hob hR (N:=x9.toNat) (by omega) ⟨h2.s1,hv,h2.g0,h2.few,h2.dot,h2.kp,h2.lz,h2.hB,h2.hm,h2.hn,by omega,by omega,⟨by omega,by omega,by omega,by omega⟩⟩
end
theorem k3 {B l0 c0 l1 c1:Nat} {a0 a1:Option Addr} {ss0 ss1:List StV} (h0:Stps w B a0 l0 ss0) (h1:Stps w B a1 l1 ss1) (hB:B≤w.heap.size) (hg:G0 w) (hl0:l0<4611686018427387904) (hl1:l1<4611686018427387904)
  (hW:∀ (u:World) (K:Ko),Kp No w u→(∀ u',Kp No u u'→K (.bool true) u')→Ct Tryz.prog 6 #[] u K) (hR:∀ u,Kp No w u→K (.bool true) u):Ct Tryz.prog 3 #[.slice a0 l0 c0,.slice a1 l1 c1] w K:=by
 refine c3 ?_
 unfold F3
 have works:∀ u,Kp No w u→Ct Tryz.prog 6 #[] u fun v30 w2=>onB v30 fun x30=>K (.bool x30) w2:=fun u ku=>hW u _ ku fun u' ku'=>hR u' (ku.trans ku')
 refine k5 h0 hl0 fun b w1 k1 hb=>?_
 simp only [SS]
 cases b with
 | false=>exact works w1 k1
 | true =>
 simp only [SS]
 have k01:=k1
 refine k5 (h1.kp k01 hB fun _ _=>id) hl1 fun b w2 k2 hb1=>?_
 simp only [SS]
 cases b with
 | false=>exact works w2 (k01.trans k2)
 | true =>
 simp only [SS]
 have k02:=k01.trans k2
 have z2:=k02.size
 refine k7 (h0.kp k02 hB fun _ _=>id) (by omega) (hb rfl) fun a n c sa w3 k3 hn hsa hla ho=>?_
 simp only [SS]
 have k03:=k02.trans k3
 have z3:=k03.size
 refine k7 (h1.kp k03 hB fun _ _=>id) (by omega) (hb1 rfl) fun a' n' c' sb w4 k4 hn' hsb hlb ho'=>?_
 simp only [SS]
 have k04:=k03.trans k4
 have hg4:=hg.kp k04 id
 have hB0:0<w4.heap.size:=by
  rcases Nat.eq_zero_or_pos w4.heap.size with h | h
  ·unfold G0 at hg4; simp [World.cell?,h] at hg4
  ·exact h
 refine k8 (lab:=fun _=>0) (q:=1000) (fun x hx=>absurd rfl hx) (by omega) (fun x hx=>by unfold inK at hx; omega) fun k w5 lab5 kp5 hk5 st5 hkr5=>?_
 simp only [SS]
 have lz5:∀ y,y<w4.heap.size→lab5 y=0:=fun y hy=>st5.old y hy
 refine k8 (lab:=lab5) (q:=2000) hkr5.bd (by omega) (fun x hx=>?_) fun j w6 lab6 kp6 hj6 st6 hkr6=>?_
 ·by_cases e:x<w4.heap.size
  ·rw [lz5 x e] at hx; unfold inK at hx; omega
  ·by_cases ez:lab5 x=0
   ·rw [ez] at hx; unfold inK at hx; omega
   ·exact d12.no (st5.new x (by omega) ez) hx
 simp only [SS]
 have hk6:KR w6 lab6 1000 k newK:=hkr5.oth kp6 (fun _ _=>id) st6.old (fun y hy hin=>by
  by_cases ez:lab6 y=0
  ·rw [ez] at hin; unfold inK at hin; omega
  ·exact d12.no hin (st6.new y hy ez)) hkr6.bd
 refine k9_nil hk6 fun x m nn w7 k7 hx hm hnn hv=>?_
 simp only [SS]
 have z5:=kp5.size
 have z6:=kp6.size
 have k47:Kp No w4 w7:=(kp5.trans kp6).trans k7
 have z7:=k7.size
 refine f3_0 (w0:=w4) (B:=w4.heap.size) hB0 rfl (fun u K ku hu=>hW u K (k04.trans (ku.mono fun y hy hle=>by omega)) hu) hn hla hsa (own_kp ho k4 fun _ _=>id) hn' hlb hsb ho' (fun u ku=>hR u (k04.trans (ku.mono fun y hy hle=>by omega)))
  (lab:=lab6) (x:=x) (k:=k) (m:=m) (n:=nn) (j:=j) (Kk:=newK) (D:=noD) ⟨hv,hkr6.no k7,hg4.kp k47 id,⟨[],by simp,fun s hs=>absurd rfl hs,by simp⟩,fun t ht=>absurd rfl ht,k47.no _,fun y hy=>by rw [st6.old y (by omega),lz5 y hy],by omega,by omega,by omega⟩
end
end Go.Proofs.YtbgbidpecmepmaaGreatDoor
