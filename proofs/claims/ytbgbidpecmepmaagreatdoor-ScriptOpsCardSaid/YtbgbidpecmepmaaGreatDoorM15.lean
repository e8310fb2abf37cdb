/-
  The way down to the node that has a tick; A tick under way: its marks; a tick given away; A tick charged; The two loops over a function: of a tick, of a node's boundary.
-/
import Derived.Test.YtbgbidpecmepmaaGreatDoorM14
import Derived.Test.YtbgbidpecmepmaaGreatDoorM13
set_option maxRecDepth 100000
namespace Go.Proofs.YtbgbidpecmepmaaGreatDoor
section
open Sy
def F177_1B (R:Ko) (C0:Option Addr→Option Addr→Nat→Nat→World→Prop) (C1:Option Addr→Option Addr→Nat→Nat→Option Addr→Nat→Nat→Option Addr→Nat→Nat→Option Addr→Nat→Nat→Int→Int→World→Prop) (x0:Option Addr) (a3:Option Addr) (l3 c3:Nat) (a4:Option Addr) (l4 c4:Nat) (a5:Option Addr) (l5 c5:Nat) (a26:Option Addr) (l26 c26:Nat) (x27:Int) (x28:Int) (w:World):Prop:=Ifm (decide ((x28:Int)<x27)) (Ix a26 l26 x28 1 fun x30=>Lc x30 w fun v31=>onI v31 fun x31=>onSome x0 fun x34=>Lc (x34.add 0) w fun v36=>onP v36 fun x36=>Ct Tryz.prog 180 #[.pointer x36,.int .i64 x31] w fun v38 w3=>on2 v38 fun y38_0 y38_1=>onP y38_0 fun x38_0=>onSome x38_0 fun x45=>Lc ((x45.add 1).add 5) w3.drew fun v48=>onI v48 fun x48=>onSome x38_0 fun x50=>Lc ((x50.add 1).add 7) w3.drew fun v53=>onI v53 fun x53=>Ct Tryz.prog 268 #[.int .i64 x31] w3.drew fun v43 w4=>onI v43 fun x43=>Hc ((x50.add 1).add 7) (.int .i64 x53) w4∧Hc ((x45.add 1).add 5) (.int .i64 x48) w4∧Rv Tryz.prog (Instr.buildSlice 437 1 #[(0,.agg #[.int .i64 x43,.int .i64 x48,.int .i64 x53])]) w4 fun v55 w5=>onL v55 fun a55 l55 c55=>Rv Tryz.prog (Builtin.append_ #[437,437] 437 #[.slice a5 l5 c5,.slice a55 l55 c55]) w5 fun v56 w6=>onL v56 fun a56 l56 c56=>C1 x0 a3 l3 c3 a4 l4 c4 a56 l56 c56 a26 l26 c26 x27 (IntKind.i64.wrap (x28+1)) w6) (Ct Tryz.prog 269 #[.slice a5 l5 c5] w fun v59 w7=>onI v59 fun x59=>Ifm (decide ((x59:Int)<0)) (R (.slice a3 l3 c3) w7) (onSome x0 fun x65=>Lc (x65.add 0) w7.drew fun v67=>onP v67 fun x67=>Ix a4 l4 x59 1 fun x70=>Lc x70 w7.drew fun v71=>onI v71 fun x71=>Ct Tryz.prog 180 #[.pointer x67,.int .i64 x71] w7.drew fun v72 w8=>on2 v72 fun y72_0 y72_1=>onP y72_0 fun x72_0=>onSome x72_0 fun x78=>La 8 (x78.add 1) w8 fun x80=>Ct Tryz.prog 270 #[.agg x80] w8 fun v81 w9=>on2 v81 fun y81_0 y81_1=>onG y81_0 fun x81_0=>onSome x72_0 fun x84=>Sa 8 (x84.add 1) x81_0 w9 fun w10=>Ix a4 l4 x59 1 fun x89=>Lc x89 w10 fun v90=>onI v90 fun x90=>Rv Tryz.prog (Instr.buildSlice 42 1 #[(0,.int .i64 x90)]) w10 fun v91 w11=>onL v91 fun a91 l91 c91=>Rv Tryz.prog (Builtin.append_ #[42,42] 42 #[.slice a3 l3 c3,.slice a91 l91 c91]) w11 fun v92 w12=>onL v92 fun a92 l92 c92=>C0 x0 a92 l92 c92 w12))
def F177_1 (R:Ko) (C0:Option Addr→Option Addr→Nat→Nat→World→Prop) (x0:Option Addr) (a3:Option Addr) (l3 c3:Nat) (a4:Option Addr) (l4 c4:Nat) (a5:Option Addr) (l5 c5:Nat) (a26:Option Addr) (l26 c26:Nat) (x27:Int) (x28:Int) (w:World):Prop:=∃ (Inv:Option Addr→Option Addr→Nat→Nat→Option Addr→Nat→Nat→Option Addr→Nat→Nat→Option Addr→Nat→Nat→Int→Int→World→Prop) (μ:Option Addr→Option Addr→Nat→Nat→Option Addr→Nat→Nat→Option Addr→Nat→Nat→Option Addr→Nat→Nat→Int→Int→World→Nat),Inv x0 a3 l3 c3 a4 l4 c4 a5 l5 c5 a26 l26 c26 x27 x28 w∧∀ x0 a3 l3 c3 a4 l4 c4 a5 l5 c5 a26 l26 c26 x27 x28 w,Inv x0 a3 l3 c3 a4 l4 c4 a5 l5 c5 a26 l26 c26 x27 x28 w→F177_1B R C0 (fun x0' a3' l3' c3' a4' l4' c4' a5' l5' c5' a26' l26' c26' x27' x28' w'=>Inv x0' a3' l3' c3' a4' l4' c4' a5' l5' c5' a26' l26' c26' x27' x28' w'∧μ x0' a3' l3' c3' a4' l4' c4' a5' l5' c5' a26' l26' c26' x27' x28' w'<μ x0 a3 l3 c3 a4 l4 c4 a5 l5 c5 a26 l26 c26 x27 x28 w) x0 a3 l3 c3 a4 l4 c4 a5 l5 c5 a26 l26 c26 x27 x28 w
def F177_0B (R:Ko) (C0:Option Addr→Option Addr→Nat→Nat→World→Prop) (x0:Option Addr) (a3:Option Addr) (l3 c3:Nat) (w:World):Prop:=Ix a3 l3 (IntKind.i64.wrap ((l3:Nat) - 1)) 1 fun x23=>Lc x23 w fun v24=>onI v24 fun x24=>Ct Tryz.prog 145 #[.pointer x0,.int .i64 x24] w fun v25 w2=>onL v25 fun a25 l25 c25=>F177_1 R C0 x0 a3 l3 c3 a25 l25 c25 none 0 0 a25 l25 c25 (l25:Nat) 0 w2
def F177_0 (R:Ko) (x0:Option Addr) (a3:Option Addr) (l3 c3:Nat) (w:World):Prop:=∃ (Inv:Option Addr→Option Addr→Nat→Nat→World→Prop) (μ:Option Addr→Option Addr→Nat→Nat→World→Nat),Inv x0 a3 l3 c3 w∧∀ x0 a3 l3 c3 w,Inv x0 a3 l3 c3 w→F177_0B R (fun x0' a3' l3' c3' w'=>Inv x0' a3' l3' c3' w'∧μ x0' a3' l3' c3' w'<μ x0 a3 l3 c3 w) x0 a3 l3 c3 w
def F177 (R:Ko) (x0:Option Addr) (w:World):Prop:=onSome x0 fun x14=>Lc (x14.add 1) w fun v16=>onI v16 fun x16=>Rv Tryz.prog (Instr.buildSlice 42 1 #[(0,.int .i64 x16)]) w fun v17 w1=>onL v17 fun a17 l17 c17=>F177_0 R x0 a17 l17 c17 w1
noncomputable def b177:Code:=Tryz.f177.body.getD .skip
def q177_1:List Bool:=[false,true,false,true,true,false,false,false,true,true]
def L177_1 (F:Option Addr→Option Addr→Nat→Nat→Option Addr→Nat→Nat→Option Addr→Nat→Nat→Option Addr→Nat→Nat→Int→Int→World→Prop):Env→World→Prop:=fun ρ w=>onP (ρ 0) fun x0=>onL (ρ 3) fun a3 l3 c3=>onL (ρ 4) fun a4 l4 c4=>onL (ρ 5) fun a5 l5 c5=>onL (ρ 26) fun a26 l26 c26=>onI (ρ 27) fun x27=>onI (ρ 28) fun x28=>F x0 a3 l3 c3 a4 l4 c4 a5 l5 c5 a26 l26 c26 x27 x28 w
def q177_0:List Bool:=[false,true,true]
def L177_0 (F:Option Addr→Option Addr→Nat→Nat→World→Prop):Env→World→Prop:=fun ρ w=>onP (ρ 0) fun x0=>onL (ρ 3) fun a3 l3 c3=>F x0 a3 l3 c3 w
abbrev T177 (z:Fr) (R:Ko) (p:List Bool) (ρ:Env) (w:World):Prop:=TW z Tryz.prog 93 (segTodo b177 p) (QR Tryz.prog [.tmp 2] R) ρ w
theorem s177_1 (R:Ko) (C0:Option Addr→Option Addr→Nat→Nat→World→Prop) (h0:∀ ρ w,(L177_0 C0) ρ w→T177 z0 R q177_0 ρ w):∀ ρ w,(L177_1 (F177_1 R C0)) ρ w→T177 z0 R q177_1 ρ w:=by
 intro ρ w h
 obtain ⟨x0,e0,h⟩:=onP_of h
 obtain ⟨a3,l3,c3,e3,h⟩:=onL_of h
 obtain ⟨a4,l4,c4,e4,h⟩:=onL_of h
 obtain ⟨a5,l5,c5,e5,h⟩:=onL_of h
 obtain ⟨a26,l26,c26,e26,h⟩:=onL_of h
 obtain ⟨x27,e27,h⟩:=onI_of h
 obtain ⟨x28,e28,h⟩:=onI_of h
 obtain ⟨Inv,μ,hi,hb⟩:=h
 refine lpT (fun m=>L177_1 (fun x0 a3 l3 c3 a4 l4 c4 a5 l5 c5 a26 l26 c26 x27 x28 w=>Inv x0 a3 l3 c3 a4 l4 c4 a5 l5 c5 a26 l26 c26 x27 x28 w∧μ x0 a3 l3 c3 a4 l4 c4 a5 l5 c5 a26 l26 c26 x27 x28 w=m)) ?_ (μ x0 a3 l3 c3 a4 l4 c4 a5 l5 c5 a26 l26 c26 x27 x28 w) ρ w ?_
 ·intro m ρ w ih h
  obtain ⟨x0,e0,h⟩:=onP_of h
  obtain ⟨a3,l3,c3,e3,h⟩:=onL_of h
  obtain ⟨a4,l4,c4,e4,h⟩:=onL_of h
  obtain ⟨a5,l5,c5,e5,h⟩:=onL_of h
  obtain ⟨a26,l26,c26,e26,h⟩:=onL_of h
  obtain ⟨x27,e27,h⟩:=onI_of h
  obtain ⟨x28,e28,h⟩:=onI_of h
  obtain ⟨hv,hm⟩:=h
  subst hm
  have hh:=hb x0 a3 l3 c3 a4 l4 c4 a5 l5 c5 a26 l26 c26 x27 x28 w hv
  obtain ⟨C1,hC⟩:∃ C,C=fun x0' a3' l3' c3' a4' l4' c4' a5' l5' c5' a26' l26' c26' x27' x28' w'=>Inv x0' a3' l3' c3' a4' l4' c4' a5' l5' c5' a26' l26' c26' x27' x28' w'∧μ x0' a3' l3' c3' a4' l4' c4' a5' l5' c5' a26' l26' c26' x27' x28' w'<μ x0 a3 l3 c3 a4 l4 c4 a5 l5 c5 a26 l26 c26 x27 x28 w:=⟨_,rfl⟩
  rw [← hC] at hh
  have h1:∀ ρ w,(L177_1 C1) ρ w→T177 z0 R q177_1 ρ w:=by
   intro ρ' w' h'
   refine ih ρ' w' ?_
   obtain ⟨x0',e0',h'⟩:=onP_of h'
   obtain ⟨a3',l3',c3',e3',h'⟩:=onL_of h'
   obtain ⟨a4',l4',c4',e4',h'⟩:=onL_of h'
   obtain ⟨a5',l5',c5',e5',h'⟩:=onL_of h'
   obtain ⟨a26',l26',c26',e26',h'⟩:=onL_of h'
   obtain ⟨x27',e27',h'⟩:=onI_of h'
   obtain ⟨x28',e28',h'⟩:=onI_of h'
   rw [hC] at h'
   refine ⟨_,h'.2,?_⟩
   simp only [e0',e3',e4',e5',e26',e27',e28',L177_1,ons]
   exact ⟨h'.1,by trivial⟩
  rw [← upds_same (ρ:=ρ) [(0,.pointer x0),(3,.slice a3 l3 c3),(4,.slice a4 l4 c4),(5,.slice a5 l5 c5),(26,.slice a26 l26 c26),(27,.int .i64 x27),(28,.int .i64 x28)] (alc e0 (alc e3 (alc e4 (alc e5 (alc e26 (alc e27 (alc e28 aln)))))))]
  exact sg (cuts:=[(q177_0,L177_0 C0),(q177_1,L177_1 C1)]) ⟨h0,h1,trivial⟩ hh
 ·simp only [e0,e3,e4,e5,e26,e27,e28,L177_1,ons]
  exact ⟨hi,by trivial⟩
theorem s177_0 (R:Ko):∀ ρ w,(L177_0 (F177_0 R)) ρ w→T177 z0 R q177_0 ρ w:=by
 intro ρ w h
 obtain ⟨x0,e0,h⟩:=onP_of h
 obtain ⟨a3,l3,c3,e3,h⟩:=onL_of h
 obtain ⟨Inv,μ,hi,hb⟩:=h
 refine lpT (fun m=>L177_0 (fun x0 a3 l3 c3 w=>Inv x0 a3 l3 c3 w∧μ x0 a3 l3 c3 w=m)) ?_ (μ x0 a3 l3 c3 w) ρ w ?_
 ·intro m ρ w ih h
  obtain ⟨x0,e0,h⟩:=onP_of h
  obtain ⟨a3,l3,c3,e3,h⟩:=onL_of h
  obtain ⟨hv,hm⟩:=h
  subst hm
  have hh:=hb x0 a3 l3 c3 w hv
  obtain ⟨C0,hC⟩:∃ C,C=fun x0' a3' l3' c3' w'=>Inv x0' a3' l3' c3' w'∧μ x0' a3' l3' c3' w'<μ x0 a3 l3 c3 w:=⟨_,rfl⟩
  rw [← hC] at hh
  have h0:∀ ρ w,(L177_0 C0) ρ w→T177 z0 R q177_0 ρ w:=by
   intro ρ' w' h'
   refine ih ρ' w' ?_
   obtain ⟨x0',e0',h'⟩:=onP_of h'
   obtain ⟨a3',l3',c3',e3',h'⟩:=onL_of h'
   rw [hC] at h'
   refine ⟨_,h'.2,?_⟩
   simp only [e0',e3',L177_0,ons]
   exact ⟨h'.1,by trivial⟩
  rw [← upds_same (ρ:=ρ) [(0,.pointer x0),(3,.slice a3 l3 c3)] (alc e0 (alc e3 aln))]
  exact sg (cuts:=[(q177_1,L177_1 (F177_1 R C0))]) ⟨s177_1 R C0 h0,trivial⟩ hh
 ·simp only [e0,e3,L177_0,ons]
  exact ⟨hi,by trivial⟩
theorem c177 {R:Ko} {x0:Option Addr} {w:World} (h:F177 R x0 w):Ct Tryz.prog 177 #[.pointer x0] w R :=
 ctS (args:=[.pointer x0]) (body:=b177) (n:=93) (rs:=[.tmp 2]) Tryz.func177
  (sg (cuts:=[(q177_0,L177_0 (F177_0 R))]) ⟨s177_0 R,trivial⟩ h)
variable {K:Ko} {w w':World}
theorem e437:∃ i z,Elem Tryz.prog 437 439 3 i z:=elemB_of (by kernel_rfl)
theorem flat_ch (cs:List Ch) (x:Ch):Flat (chC (cs++[x])) (cs.length+1)=Flat (chC cs) cs.length++x.cells:=by
 rw [Flat_succ]
 congr 1
 ·exact Flat_congr fun i hi=>by unfold chC; simp [List.getD_eq_getElem?_getD,List.getElem?_append_left hi]
 ·unfold chC; simp [List.getD_eq_getElem?_getD]
theorem takeF_alike (N:Nds) (x:Int):AlikeN N (takeN N x):=by
 unfold takeN
 split
 ·exact modN_alike _ _ _ fun _=>rfl
 ·exact fun j=>⟨rfl,rfl⟩
theorem AlikeN.refl (N:Nds):AlikeN N N:=fun _=>⟨rfl,rfl⟩
theorem AlikeN.trans {N N' N2:Nds} (h:AlikeN N N') (k:AlikeN N' N2):AlikeN N N2:=fun j=>⟨(k j).1.trans (h j).1,(k j).2.trans (h j).2⟩
theorem AlikeN.gen {N N':Nds} (h:AlikeN N N') (hG:GenOk N):GenOk N':=fun i hi=>by rw [(h i).1]; exact hG i (by rw [← h.isS i]; exact hi)
theorem wayK_alike:∀ (f:Nat) (N:Nds) (h:Int),AlikeN N (wayK f N h).2:=by
 intro f
 induction f with
 | zero=>intro N h; exact AlikeN.refl N
 | succ f ih =>
  intro N h
  unfold wayK
  dsimp only
  split
  ·exact AlikeN.refl N
  ·exact (takeF_alike N _).trans (ih _ _)
theorem wayK_cons (f:Nat) (N:Nds) (h:Int):∃ r,(wayK f N h).1=h :: r:=by
 cases f with
 | zero=>exact ⟨_,rfl⟩
 | succ f =>
  unfold wayK
  dsimp only
  split <;> exact ⟨_,rfl⟩
theorem wayK_up (hmod:∀ N':Nds,True):∀ (f:Nat) (N:Nds) (h:Int) (up:List Int),GenOk N→Up N h (h :: up)→∀ j (hj:j<(wayK f N h).1.length),Up N ((wayK f N h).1[j]) (((wayK f N h).1.take (j+1)).reverse++up):=by
 intro f
 induction f with
 | zero =>
  intro N h up hG hU j hj
  simp only [wayK,List.length_singleton] at hj ⊢
  have:j=0:=by omega
  subst this
  simpa using hU
 | succ f ih =>
  intro N h up hG hU j hj
  obtain ⟨pj,hpj⟩:∃ y,y=pickL ((kidsN N h).map (chN N)):=⟨_,rfl⟩
  have e:wayK (f+1) N h=if pj<0 then ([h],N) else (h :: (wayK f (takeN N ((kidsN N h).getD pj.toNat 0)) ((kidsN N h).getD pj.toNat 0)).1,(wayK f (takeN N ((kidsN N h).getD pj.toNat 0)) ((kidsN N h).getD pj.toNat 0)).2):=by rw [hpj]; rfl
  by_cases h1:pj<0
  ·rw [if_pos h1] at e
   simp only [e,List.length_singleton] at hj ⊢
   have:j=0:=by omega
   subst this
   simpa using hU
  ·rw [if_neg h1] at e
   have hlt:pj<(kidsN N h).length:=by
    have:=(pick_lt ((kidsN N h).map (chN N)) ((kidsN N h).map (chN N)).length).1
    rw [hpj]; unfold pickL; simpa using this
   obtain ⟨x,hx⟩:∃ y,y=(kidsN N h).getD pj.toNat 0:=⟨_,rfl⟩
   rw [← hx] at e
   simp only [e] at hj ⊢
   have hxm:x∈kidsN N h:=by
    rw [hx,List.getD_eq_getElem?_getD,List.getElem?_eq_getElem (by omega)]
    exact List.getElem_mem _
   have hxU:=kid_up hG hxm hU
   have ha:=takeF_alike N x
   cases j with
   | zero=>simpa using hU
   | succ j =>
    simp only [List.length_cons] at hj
    have:=ih (takeN N x) x (h :: up) (ha.gen hG) (ha.up hxU) j (by omega)
    have back:∀ {y l},Up (takeN N x) y l→Up N y l:=fun {y l} hy=>by
     have hsym:AlikeN (takeN N x) N:=fun k=>⟨(ha k).1.symm,(ha k).2.symm⟩
     exact hsym.up hy
    have:=back this
    simpa using this
theorem k177 {lab:Nat→Nat} {q k t L bk m p:Nat} {nb lf:Nat→Nat} {Kk:Kn} (hv:KRv w lab q k t L bk m p nb lf Kk)
  (hR:∀ a c w',Kp (fun x=>q+100≤lab x∧lab x<q+200) w w'→KRv w' lab q k t L bk m p nb lf { Kk with n:=(wayK 9 Kk.n rootH).2 }→w'.ownsRow w.heap.size 33 1 (.slice a (wayK 9 Kk.n rootH).1.length c) (wayK 9 Kk.n rootH).1.length ((wayK 9 Kk.n rootH).1.map I)→K (.slice a (wayK 9 Kk.n rootH).1.length c) w'):Ct Tryz.prog 177 #[Pt k 0] w K:=by
 refine c177 ?_
 unfold F177
 obtain ⟨i42,z42,E42⟩:=e42
 obtain ⟨i437,z437,E437⟩:=e437
 simp only [SS,hv.kh.rd (o:=1) (v:=I rootH) rfl]
 rw [bs1 E42 (by rfl)]
 simp only [SS]
 obtain ⟨w1,hw1⟩:∃ y,y=w.alloc (.cells (I rootH).cells 33):=⟨_,rfl⟩
 have k1:Kp No w w1:=by rw [hw1]; exact Kp.alloc _ _ _
 have b1:Bk w1 w.heap.size [I rootH] 33:=by rw [hw1]; exact bk_alloc w [I rootH] 33
 rw [← hw1]
 have ho1:w1.ownsRow w.heap.size 33 1 (.slice (some ⟨w.heap.size,0,none⟩) 1 1) 1 ([rootH].map I):=⟨by simp,.inr ⟨w.heap.size,1,#[I rootH],rfl,Nat.le_refl _,b1,by simp,by simp [maxLen],by simp,by simp⟩⟩
 have hG:=hv.nt.gen
 obtain ⟨n0,hn0,hp0⟩:=hv.ok.root
 have hr0:getN Kk.n rootH=some (0,n0):=by
  have:=name_here (N:=Kk.n) hG (i:=0) (n:=n0) (by omega) (by rw [hn0])
  rw [hn0] at this
  have er:nameS 1 0 1=rootH:=by decide
  rw [er] at this
  exact this
 have hU0:Up Kk.n rootH [rootH]:=.step (by decide) hr0 (hp0 ▸ .top)
 have hroot_lt:=hv.bd
 unfold F177_0
 refine ⟨fun x0 a3 l3 c3 w'=>x0=some ⟨k,0,none⟩∧Kp (fun x=>q+100≤lab x∧lab x<q+200) w w'∧∃ (pre:List Int) (h:Int) (up:List Int) (N:Nds) (f:Nat),pre.length=up.length∧up.length+f=9∧l3=pre.length+1∧AlikeN Kk.n N∧Up N h (h :: up) ∧
   wayK 9 Kk.n rootH=(pre++(wayK f N h).1,(wayK f N h).2)∧KRv w' lab q k t L bk m p nb lf { Kk with n:=N }∧w'.ownsRow w.heap.size 33 1 (.slice a3 l3 c3) (pre++[h]).length ((pre++[h]).map I),
  fun _ _ l3 _ _=>20 - l3,⟨rfl,k1.no _,[],rootH,[],Kk.n,9,rfl,rfl,rfl,AlikeN.refl _,hU0,rfl,hv.kp k1 fun _ _=>id,ho1⟩,?_⟩
 rintro _ a3 _ c3 w2 ⟨rfl,k2,pre,h,up,N,f,hpl,hf,rfl,ha,hU,hway,hv2,ho2⟩
 unfold F177_0B
 have h9:=hv2.ok.len hU
 simp only [List.length_cons] at h9
 obtain ⟨f,rfl⟩:∃ f',f=f'+1:=⟨f - 1,by omega⟩
 have hlast:∀ k:Value→Prop,∃ g,a3=some ⟨g,0,none⟩∧Lc ⟨g,pre.length,none⟩ w2 k=k (I h):=fun k=>by
  obtain ⟨g,hg,_,hlc⟩:=hd_lc ho2 (i:=pre.length) (by simp)
  simp only [Nat.mul_one] at hlc
  refine ⟨g,hg,?_⟩
  have:=hlc k
  rw [this]
  simp
 obtain ⟨g,rfl,_⟩:=hlast fun _=>True
 have hlast':∀ k:Value→Prop,Lc ⟨g,pre.length,none⟩ w2 k=k (I h):=fun k=>by
  obtain ⟨g',hg,h2⟩:=hlast k
  injection hg with hg
  injection hg with hg
  subst hg
  exact h2
 have ew:IntKind.i64.wrap (((pre.length+1:Nat):Int) - 1)=(pre.length:Nat):=by rw [wr_id (by omega) (by omega)]; omega
 simp only [ew,Ix_c (show pre.length<pre.length+1 by omega),Nat.mul_one,SS,hlast']
 refine k145 hv2.nt fun a0 l0 c0 w3 k3 hok=>?_
 simp only [SS]
 have hok:w3.ownsRow w2.heap.size 33 1 (.slice a0 l0 c0) (kidsN N h).length ((kidsN N h).map I):=hok
 have hl0:l0=(kidsN N h).length:=own_len hok
 have hkl:=kids_len N h
 have hv3:=hv2.kp k3 fun _ _=>id
 have ho3:=own_kp ho2 k3 fun _ _=>id
 have s3:=k3.size
 have s2:=k2.size
 unfold F177_1
 refine ⟨fun x0 a4 l4 c4 a5 l5 c5 a6 l6 c6 a26 l26 c26 x27 x28 w'=>x0=some ⟨k,0,none⟩∧some ⟨g,0,none⟩=a4∧pre.length+1=l4∧c3=c4∧a0=a5∧l0=l5∧c0=c5∧a0=a26∧l0=l26∧c0=c26∧x27=l0∧Kp No w3 w' ∧
   ∃ i:Nat,x28=i∧i≤(kidsN N h).length∧w'.ownsRow w3.heap.size 439 3 (.slice a6 l6 c6) (((kidsN N h).take i).map (chN N)).length (Flat (chC (((kidsN N h).take i).map (chN N))) (((kidsN N h).take i).map (chN N)).length),
  fun _ _ _ _ _ _ _ _ _ _ _ _ _ _ x28 _=>(kidsN N h).length - x28.toNat,⟨rfl,rfl,rfl,rfl,rfl,rfl,rfl,rfl,rfl,rfl,rfl,Kp.refl _ _,0,rfl,Nat.zero_le _,World.ownsRow_nil _ _ _ _⟩,?_⟩
 rintro _ _ _ _ _ _ _ a6 l6 c6 _ _ _ _ _ w4 ⟨rfl,rfl,rfl,rfl,rfl,rfl,rfl,rfl,rfl,rfl,rfl,k4,i,rfl,hi,ho4⟩
 unfold F177_1B
 simp only [SS]
 have hv4:=hv3.kp k4 fun _ _=>id
 have hok4:=own_kp hok k4 fun _ _=>id
 have s4:=k4.size
 by_cases e1:i<l0
 ·rw [if_pos (by omega)]
  have hi':i<(kidsN N h).length:=by omega
  obtain ⟨gk,rfl,_,hlc⟩:=hd_lc hok4 hi'
  simp only [Nat.mul_one] at hlc
  simp only [SS,Ix_c e1,Nat.mul_one,hlc,hv4.kh.rd (o:=0) (v:=Pt t 0) rfl]
  obtain ⟨x,hx⟩:∃ y,y=(kidsN N h)[i]:=⟨_,rfl⟩
  rw [← hx]
  have hxm:x∈kidsN N h:=by rw [hx]; exact List.getElem_mem _
  obtain ⟨j,n,hg,hnp⟩:=kids_live hv4.nt.gen hxm
  have htake:(kidsN N h).take (i+1)=(kidsN N h).take i++[x]:=by rw [hx]; exact List.take_succ_eq_append_getElem hi'
  refine n_get hv4.nt ?_
  have hg':getN ({ Kk with n:=N }:Kn).n x=some (j,n):=hg
  rw [hg']
  intro d
  have hnb:=(hv4.nt.nd j n (getN_some hg).2).2
  simp only [SS,Nat.reduceAdd,hnb.rd (o:=6) (v:=I n.bg.left) rfl,hnb.rd (o:=8) (v:=I n.bg.en) rfl]
  refine k268 ?_
  simp only [SS,Nat.reduceAdd,hnb.hc (o:=6) (v:=I n.bg.left) rfl,hnb.hc (o:=8) (v:=I n.bg.en) rfl]
  have hch:chN N x=⟨slotH x,n.bg.left,n.bg.en⟩:=by unfold chN; rw [hg]
  have hlen6:(((kidsN N h).take i).map (chN N)).length≤64:=by simp; omega
  refine app1 E437 (x:=.agg #[I (slotH x),I n.bg.left,I n.bg.en]) (own_dr ho4) (by simp only [dr_heap]; exact s4) (by omega) rfl (by simp [Value.cells,Value.oneCell']) fun g' c' w5 hg5 ho5 k5=>?_
  rw [cast_succ _ (by omega)]
  refine ⟨⟨(k4.drR _).step k5 fun b hb hs=>by have:=(own_lt ho4 hs).1; omega,i+1,rfl,by omega,?_⟩,by simp; omega⟩
  rw [htake,List.map_append,List.map_cons,List.map_nil,hch]
  rw [List.length_append,List.length_singleton,flat_ch]
  have e5:l6=(((kidsN N h).take i).map (chN N)).length:=by
   rcases own_bk ho4 with ⟨_,h1,_,h2,_⟩ | ⟨_,_,_,h1,_⟩
   ·rw [h1,h2]
   ·exact h1
  exact ho5
 ·rw [if_neg (by omega)]
  rw [List.take_of_length_le (by omega)] at ho4
  refine k269 (by simp; omega) ho4 fun w5 k5=>?_
  obtain ⟨pj,hpj⟩:∃ y,y=pickL ((kidsN N h).map (chN N)):=⟨_,rfl⟩
  rw [← hpj]
  have ewk:wayK (f+1) N h=if pj<0 then ([h],N) else (h :: (wayK f (takeN N ((kidsN N h).getD pj.toNat 0)) ((kidsN N h).getD pj.toNat 0)).1,(wayK f (takeN N ((kidsN N h).getD pj.toNat 0)) ((kidsN N h).getD pj.toNat 0)).2):=by rw [hpj]; rfl
  have k35:Kp No w3 w5:=k4.trans k5
  have hv5:=hv3.kp k35 fun _ _=>id
  have ho5:=own_kp ho3 k35 fun _ _=>id
  have k25:Kp (fun x=>q+100≤lab x∧lab x<q+200) w w5:=k2.trans ((k3.trans k35).no _)
  simp only [SS]
  by_cases e2:pj<0
  ·rw [if_pos e2] at ewk ⊢
   rw [ewk] at hway
   have hl:pre.length+1=(wayK 9 Kk.n rootH).1.length:=by rw [hway]; simp
   have hn:{ Kk with n:=N }={ Kk with n:=(wayK 9 Kk.n rootH).2 }:=by rw [hway]
   have hp:pre++[h]=(wayK 9 Kk.n rootH).1:=by rw [hway]
   rw [hl,hp] at ho5
   rw [hl]
   rw [hn] at hv5
   exact hR _ _ w5 k25 hv5 ho5
  rw [if_neg e2] at ewk ⊢
  have hlt:pj<(kidsN N h).length:=by
   have:=(pick_lt ((kidsN N h).map (chN N)) ((kidsN N h).map (chN N)).length).1
   rw [hpj]; unfold pickL; simpa using this
  obtain ⟨jn,hjn⟩:∃ jn:Nat,pj=jn:=⟨pj.toNat,by omega⟩
  have hjlt:jn<(kidsN N h).length:=by omega
  have hok5:=own_kp hok4 k5 fun _ _=>id
  obtain ⟨gk,rfl,_,hlc⟩:=hd_lc hok5 hjlt
  simp only [Nat.mul_one] at hlc
  obtain ⟨x,hx⟩:∃ y,y=(kidsN N h)[jn]:=⟨_,rfl⟩
  have hxd:(kidsN N h).getD pj.toNat 0=x:=by rw [hjn,Int.toNat_natCast,List.getD_eq_getElem?_getD,List.getElem?_eq_getElem hjlt,hx]; rfl
  rw [hxd] at ewk
  rw [← hx] at hlc
  have hxm:x∈kidsN N h:=by rw [hx]; exact List.getElem_mem _
  obtain ⟨j,n,hg,hnp⟩:=kids_live hv5.nt.gen hxm
  have hg':getN ({ Kk with n:=N }:Kn).n x=some (j,n):=hg
  have hn:=(getN_some hg).2
  simp only [hjn,Ix_c (show jn<l0 by omega),Nat.mul_one,SS,hlc,hv5.kh.rd (o:=0) (v:=Pt t 0) rfl]
  have hv5d:=hv5.kp (Kp.dr No w5 (w5.drawn+1)) fun _ _=>id
  refine n_get hv5d.nt ?_
  rw [hg']
  intro d
  have hnb:=(hv5.nt.nd j n hn).2
  have la8:∀ k,La 8 ⟨nb j,1,none⟩ w5 k=k n.bg.cells.toArray:=fun k=>by rw [hnb.la (by simp [ndC,Bg.cells])]; rfl
  simp only [SS,la8]
  have fin:∀ (w6:World) (b:Bg),(takeF n).bg=b→Kp No w5 w6→Sa 8 ⟨nb j,1,none⟩ b.cells.toArray w6 fun w10=>Lc ⟨gk,jn,none⟩ w10 fun v90=>onI v90 fun x90=>Rv Tryz.prog (Instr.buildSlice 42 1 #[(0,.int .i64 x90)]) w10 fun v91 w11=>onL v91 fun a91 l91 c91=>Rv Tryz.prog (Builtin.append_ #[42,42] 42 #[.slice (some ⟨g,0,none⟩) (pre.length+1) c3,.slice a91 l91 c91]) w11 fun v92 w12=>onL v92 fun a92 l92 c92 =>
    (Kp (fun x=>q+100≤lab x∧lab x<q+200) w w12∧∃ (pre:List Int) (h:Int) (up:List Int) (N:Nds) (f:Nat),pre.length=up.length∧up.length+f=9∧l92=pre.length+1∧AlikeN Kk.n N∧Up N h (h :: up) ∧
     wayK 9 Kk.n rootH=(pre++(wayK f N h).1,(wayK f N h).2)∧KRv w12 lab q k t L bk m p nb lf { Kk with n:=N }∧w12.ownsRow w.heap.size 33 1 (.slice a92 l92 c92) (pre++[h]).length ((pre++[h]).map I))∧20 - l92<20 - (pre.length+1):=by
   intro w6 b hb k6
   have hv6:=hv5.kp k6 fun _ _=>id
   have hnb6:=(hv6.nt.nd j n hn).2
   have hnbl:nb j<w.heap.size:=hv.bd _ (by have:=hv5.ln j n hn; omega)
   refine sa_k hnb6 rfl (by simp [ndC,Bg.cells]) (Bg.one _) fun w7 k7 b7 s7=>?_
   have b7':Bk w7 (nb j) (ndC (takeF n) (lf j)) 122:=by
    have e:takeF n={ n with bg:=b }:=by rw [← hb]; rfl
    rw [e]
    exact b7
   have hv7:=hv6.setNode (f:=takeF) hn (fun _=>⟨rfl,rfl⟩) k7 b7'
   have hv7:KRv w7 lab q k t L bk m p nb lf { Kk with n:=takeN N x }:=by
    have e:takeN N x=modN N j takeF:=by unfold takeN; rw [hg]
    rw [e]; exact hv7
   have hok7:=own_kp (own_kp hok5 k6 fun _ _=>id) k7 fun b' hb' e=>by have:=(own_lt hok hb').1; omega
   have ho7:=own_kp (own_kp ho5 k6 fun _ _=>id) k7 fun b' hb' e=>by have:=(own_lt ho2 hb').1; omega
   obtain ⟨g2,hg2,_,hlc7⟩:=hd_lc hok7 hjlt
   injection hg2 with hg2
   injection hg2 with hg2
   subst hg2
   simp only [Nat.mul_one,← hx] at hlc7
   simp only [hlc7,SS]
   have k57:Kp (fun x=>q+100≤lab x∧lab x<q+200) w5 w7:=(k6.no _).trans (k7.mono fun y _ hy=>by rw [hy,hv5.ln j n hn]; have:=(hv5.nt.nd j n hn).1; omega)
   have k27:=k25.trans k57
   refine app1 E42 ho7 (by have:=k27.size; omega) (by simp; omega) rfl (by simp [Value.cells,Value.oneCell']) fun g' c' w8 hg8 ho8 k8=>?_
   have hal:=takeF_alike N x
   have hv8:=hv7.kp k8 fun y hy hs=>by
    have:=(own_lt ho7 hs).1
    have:=hv.bd y (by unfold inK at hy; omega)
    omega
   refine ⟨⟨k27.step k8 fun y hy hs=>by have:=(own_lt ho7 hs).1; omega,pre++[h],x,h :: up,takeN N x,f,by simp [hpl],by simp; omega,by simp,ha.trans hal,hal.up (kid_up hv5.nt.gen hxm hU),?_,hv8,?_⟩,by simp; omega⟩
   ·rw [hway,ewk]; simp
   ·simpa [Value.cells] using ho8
  refine k270 ?_
  cases et:takeB n.bg with
  | error er =>
   intro w6 k6
   simp only [SS]
   have:=fin w6 zB (by simp only [takeF,et]) k6.drL
   exact this
  | ok b =>
   intro w6 k6
   simp only [SS]
   have:=fin w6 b (by simp only [takeF,et]) k6.drL
   exact this
end
section
open Sy
def F274 (R:Ko) (x0:Option Addr) (x1:Int) (x2:Int) (x3:Int) (x4:Int) (w:World):Prop:=onSome x0 fun x12=>Lc (x12.add 1) w.drew fun v14=>onL v14 fun a14 l14 c14=>onSome x0 fun x16=>Lc (x16.add 0) w.drew fun v18=>onP v18 fun x18=>onSome x18 fun x19=>Lc (x19.add 4) w.drew fun v21=>onI v21 fun x21=>Rv Tryz.prog (Instr.buildSlice 93 1 #[(0,.agg #[.int .i64 x21,.int .i64 x1,.int .i64 x2,.int .i64 x3,.int .i64 x4])]) w.drew fun v27 w1=>onL v27 fun a27 l27 c27=>Hc (x12.add 1) (.slice a14 l14 c14) w1∧Rv Tryz.prog (Builtin.append_ #[93,93] 93 #[.slice a14 l14 c14,.slice a27 l27 c27]) w1 fun v28 w2=>onL v28 fun a28 l28 c28=>onSome x0 fun x29=>Sc (x29.add 1) (.slice a28 l28 c28) w2 fun w3=>R (.tuple #[]) w3
noncomputable def b274:Code:=Tryz.f274.body.getD .skip
theorem c274 {R:Ko} {x0:Option Addr} {x1:Int} {x2:Int} {x3:Int} {x4:Int} {w:World} (h:F274 R x0 x1 x2 x3 x4 w):Ct Tryz.prog 274 #[.pointer x0,.int .i64 x1,.int .i64 x2,.int .i64 x3,.int .i64 x4] w R :=
 ctS (args:=[.pointer x0,.int .i64 x1,.int .i64 x2,.int .i64 x3,.int .i64 x4]) (body:=b274) (n:=31) (rs:=[]) Tryz.func274
  (sg (cuts:=[]) trivial h)
def F271 (R:Ko) (x0:Option Addr) (x1:Int) (x2:Int) (x3:Int) (w:World):Prop:=onSome x0 fun x14=>Lc (x14.add 0) w.drew fun v16=>onP v16 fun x16=>onSome x16 fun x17=>Lc (x17.add 3) w.drew fun v19=>onP v19 fun x19=>onSome x0 fun x21=>Lc (x21.add 0) w.drew fun v23=>onP v23 fun x23=>onSome x23 fun x24=>Lc (x24.add 4) w.drew fun v26=>onI v26 fun x26=>Ct Tryz.prog 341 #[.pointer x19,.int .i64 x26] w.drew fun v27 w1=>on4 v27 fun y27_0 y27_1 y27_2 y27_3=>onI y27_0 fun x27_0=>onI y27_1 fun x27_1=>onI y27_2 fun x27_2=>onB y27_3 fun x27_3=>Ifm (!x27_3) (onSome x0 fun x35=>Lc (x35.add 0) w1 fun v37=>onP v37 fun x37=>onSome x37 fun x38=>Lc (x38.add 5) w1 fun v40=>onI v40 fun x40=>onSome x37 fun x42=>Sc (x42.add 5) (.int .i64 (IntKind.i64.wrap (x40+1))) w1 fun w2=>Ct Tryz.prog 274 #[.pointer x0,.int .i64 x2,.int .i64 x3,.int .i64 0,.int .i64 0] w2 fun v47 w3=>R (.tuple #[]) w3) (Ct Tryz.prog 274 #[.pointer x0,.int .i64 x1,.int .i64 x3,.int .i64 x27_0,.int .i64 0] w1 fun v52 w4=>Ifm ((x27_1:Int) == 1) (Ct Tryz.prog 274 #[.pointer x0,.int .i64 8,.int .i64 0,.int .i64 x27_0,.int .i64 x27_2] w4 fun v59 w5=>R (.tuple #[]) w5) (Ifm ((x27_1:Int) == 2) (Ct Tryz.prog 274 #[.pointer x0,.int .i64 9,.int .i64 0,.int .i64 x27_0,.int .i64 x27_2] w4 fun v65 w6=>R (.tuple #[]) w6) (R (.tuple #[]) w4)))
noncomputable def b271:Code:=Tryz.f271.body.getD .skip
theorem c271 {R:Ko} {x0:Option Addr} {x1:Int} {x2:Int} {x3:Int} {w:World} (h:F271 R x0 x1 x2 x3 w):Ct Tryz.prog 271 #[.pointer x0,.int .i64 x1,.int .i64 x2,.int .i64 x3] w R :=
 ctS (args:=[.pointer x0,.int .i64 x1,.int .i64 x2,.int .i64 x3]) (body:=b271) (n:=66) (rs:=[]) Tryz.func271
  (sg (cuts:=[]) trivial h)
variable {K:Ko} {w w':World}
theorem Stp.trans {w2:World} {lab lab1 lab2:Nat→Nat} {q:Nat} (h:Stp w w' lab lab1 q) (k:Stp w' w2 lab1 lab2 q):Stp w w2 lab lab2 q :=
 ⟨h.kp.step k.kp fun x hx hi=>by rw [h.old x hx] at hi; exact hi,fun x hx=>(k.old x (Nat.lt_of_lt_of_le hx h.kp.size)).trans (h.old x hx),fun x hx hn=>by
  by_cases h1:x<w'.heap.size
  ·rw [k.old x h1] at hn ⊢; exact h.new x hx hn
  ·exact k.new x (by omega) hn⟩
theorem Stp.pre {w2:World} {lab lab':Nat→Nat} {q:Nat} (k1:Kp No w w') (bd:∀ x,lab x≠0→x<w.heap.size) (h:Stp w' w2 lab lab' q):Stp w w2 lab lab' q:=(Stp.no k1 bd).trans h
def TM (w:World) (lab:Nat→Nat) (q y k m:Nat):Prop:=∃ a l c n xs,Bk w y [Pt k 0,.slice a l c] 335∧lab y=q+7∧w.ownsRow 0 474 5 (.slice a l c) n xs∧(∀ b,(Value.slice a l c).ownBlock=some b→lab b=q+7)∧n≤m
theorem TM.kp {S:Nat→Prop} {lab:Nat→Nat} {q y k m:Nat} (h:TM w lab q y k m) (kp:Kp S w w') (hs:∀ x,lab x=q+7→¬ S x):TM w' lab q y k m:=by
 obtain ⟨a,l,c,n,xs,h1,h2,h3,h4,h5⟩:=h
 exact ⟨a,l,c,n,xs,kp.bk h1 (hs _ h2),h2,own_kp h3 kp fun b hb=>hs _ (h4 b hb),h4,h5⟩
theorem TM.le {lab:Nat→Nat} {q y k m m':Nat} (h:TM w lab q y k m) (hm:m≤m'):TM w lab q y k m':=by
 obtain ⟨a,l,c,n,xs,h1,h2,h3,h4,h5⟩:=h
 exact ⟨a,l,c,n,xs,h1,h2,h3,h4,by omega⟩
theorem TM.lab {lab lab':Nat→Nat} {q y k m:Nat} (h:TM w lab q y k m) (hl:∀ x,x<w.heap.size→lab' x=lab x):TM w lab' q y k m:=by
 obtain ⟨a,l,c,n,xs,h1,h2,h3,h4,h5⟩:=h
 exact ⟨a,l,c,n,xs,h1,by rw [hl _ h1.lt,h2],h3,fun b hb=>by rw [hl _ (own_lt h3 hb).2,h4 b hb],h5⟩
theorem TM.go {S:Nat→Prop} {lab:Nat→Nat} {q y k m r:Nat} (h:TM w lab q y k m) (kp:Kp S w w') (hs:∀ x,lab x=q+7→¬ S x):TM w' (nl lab w w' r) q y k m:=by
 obtain ⟨a,l,c,n,xs,h1,h2,h3,h4,h5⟩:=h
 exact ⟨a,l,c,n,xs,kp.bk h1 (hs _ h2),by rw [nl_old h1.lt,h2],own_kp h3 kp fun b hb=>hs _ (h4 b hb),fun b hb=>by rw [nl_old (own_lt h3 hb).2,h4 b hb],h5⟩
theorem TM.no {lab:Nat→Nat} {q y k m:Nat} (h:TM w lab q y k m) (kp:Kp No w w'):TM w' lab q y k m:=h.kp kp fun _ _=>id
theorem KRv.relab {lab:Nat→Nat} {q k t L bk m p:Nat} {nb lf:Nat→Nat} {K:Kn} (h:KRv w lab q k t L bk m p nb lf K) (kp:Kp (fun x=>lab x=q+7) w w'):KRv w' (nl lab w w' (q+7)) q k t L bk m p nb lf K:=by
 have h0:=h.q0
 have ns:∀ {x r:Nat},lab x=q+r→r≠7→¬ lab x=q+7:=fun hx hr he=>hr (by omega)
 obtain ⟨r,hr⟩:=h.nt.kt
 have lold:∀ {x s:Nat},lab x=s→s≠0→nl lab w w' (q+7) x=s:=fun {x s} hx hs=>by rw [nl_old (h.bd x (by omega)),hx]
 have o1:∀ s,s≠0→s≠q+7→(fun x=>nl lab w w' (q+7) x=s)=(fun x=>lab x=s):=fun s hs hne=>nl_other h.bd hs hne
 refine ⟨kp.bk h.kh (ns h.lk (by omega)),⟨⟨r,kp.bk hr (ns h.lk (by omega))⟩,h.nt.tab.kp kp (ns h.lt (by omega)) (ns h.lL (by omega)),fun j nj hj=>?_,h.nt.gen⟩,h.book.kp kp (ns h.lbk (by omega)) (ns h.lm (by omega)),?_,fun j nj hj=>?_,lold h.lk (by omega),lold h.lt (by omega),lold h.lL (by omega),lold h.lbk (by omega),lold h.lm (by omega),lold h.lp (by omega),fun j nj hj=>lold (h.ln j nj hj) (by omega),fun x hx=>?_,h0,h.ok⟩
 ·have:=(h.nt.nd j nj hj).1
  exact ⟨this,kp.bk (h.nt.nd j nj hj).2 (ns (r:=100+j) (by have:=h.ln j nj hj; omega) (by omega))⟩
 ·rw [o1 (q+6) (by omega) (by omega),o1 (q+1) (by omega) (by omega)]
  exact h.pool.kp kp (fun x hx=>ns hx (by omega)) (fun x hx=>ns hx (by omega)) (ns h.lp (by omega))
 ·rw [o1 (q+200+j) (by omega) (by omega),o1 (q+1) (by omega) (by omega)]
  exact (h.leaf j nj hj).kp kp (fun x hx=>ns (r:=200+j) (by omega) (by omega)) (fun x hx=>ns hx (by omega))
 ·unfold nl at hx
  split at hx
  ·exact Nat.lt_of_lt_of_le (h.bd x hx) kp.size
  ·split at hx
   ·assumption
   ·exact absurd rfl hx
theorem KRv.setHead {lab:Nat→Nat} {q k t L bk m p:Nat} {nb lf:Nat→Nat} {K:Kn} {now' idle':Int} (h:KRv w lab q k t L bk m p nb lf K) (kp:Kp (·=k) w w') (hb:Bk w' k [Pt t 0,I rootH,Pt bk 0,Pt p 0,I now',I idle'] 128) :
  KRv w' lab q k t L bk m p nb lf { K with now:=now',idle:=idle' }:=by
 have h0:=h.q0
 have hlk:=h.lk
 have ns:∀ {x r:Nat},lab x=q+r→r≠2→¬ x=k:=fun hx hr he=>by rw [he] at hx; omega
 refine ⟨hb,⟨⟨_,hb⟩,h.nt.tab.kp kp (ns h.lt (by omega)) (ns h.lL (by omega)),fun j nj hj=>?_,h.nt.gen⟩,h.book.kp kp (ns h.lbk (by omega)) (ns h.lm (by omega)),h.pool.kp kp (fun x hx=>ns hx (by omega)) (fun x hx=>ns hx (by omega)) (ns h.lp (by omega)),fun j nj hj=>?_,h.lk,h.lt,h.lL,h.lbk,h.lm,h.lp,h.ln,fun x hx=>Nat.lt_of_lt_of_le (h.bd x hx) kp.size,h0,⟨h.ok.up,h.ok.root,h.ok.gens⟩⟩
 ·have:=(h.nt.nd j nj hj).1
  exact ⟨this,kp.bk (h.nt.nd j nj hj).2 (ns (r:=100+j) (by have:=h.ln j nj hj; omega) (by omega))⟩
 ·exact (h.leaf j nj hj).kp kp (fun x hx=>ns (r:=200+j) (by omega) (by omega)) (fun x hx=>ns hx (by omega))
theorem apnd {P:Program} {t e sz ty:Nat} {i:TypeInfo} {z:Value} (E:Elem P t e sz i z) {w:World} {base:Nat} {a:Option Addr} {l c n:Nat} {xs:List Value} (hown:w.ownsRow base e sz (.slice a l c) n xs)
  (hbase:base≤w.heap.size) (hn:n<1000000) {x:Value} (hx:x.cells.size=sz) (h1:∀ u∈x.cells.toList,u.oneCell'=true) {k:Option Addr→Nat→Nat→World→Prop}
  (h:∀ g c' w',base≤g→((Value.slice a l c).ownBlock=some g∨w.heap.size≤g)→w'.ownsRow base e sz (.slice (some ⟨g,0,none⟩) (n+1) c') (n+1) (xs++x.cells.toList)→Kp (fun k=>(Value.slice a l c).ownBlock=some k) w w'→k (some ⟨g,0,none⟩) (n+1) c' w') :
  Rv P (Builtin.append_ #[t,t] ty #[.slice a l c,.slice (some ⟨w.heap.size,0,none⟩) 1 1]) (w.alloc (.cells x.cells e)) fun v2 w2=>onL v2 fun a3 l3 c3=>k a3 l3 c3 w2:=by
 have:=app1x E (ty:=ty) hown hbase hn hx h1 h
 rw [bs1 E hx] at this
 exact this
theorem e93:∃ i z,Elem Tryz.prog 93 474 5 i z:=elemB_of (by kernel_rfl)
theorem k274 {lab:Nat→Nat} {q k t L bk m p y c:Nat} {nb lf:Nat→Nat} {Kk:Kn} {x1 x2 x3 x4:Int} (hv:KRv w lab q k t L bk m p nb lf Kk) (hT:TM w lab q y k c) (hc:c<100000)
  (hR:∀ w' lab',Stp w w' lab lab' q→KRv w' lab' q k t L bk m p nb lf Kk→TM w' lab' q y k (c+1)→K (.tuple #[]) w'):Ct Tryz.prog 274 #[Pt y 0,I x1,I x2,I x3,I x4] w K:=by
 refine c274 ?_
 unfold F274
 obtain ⟨i93,z93,E93⟩:=e93
 obtain ⟨a,l,c',n,xs,h1,h2,h3,h4,h5⟩:=id hT
 simp only [SS,h1.rd (o:=1) (v:=.slice a l c') rfl,h1.rd (o:=0) (v:=Pt k 0) rfl,hv.kh.rd (o:=4) (v:=I Kk.now) rfl]
 have h3d:(dr w (w.drawn+1)).ownsRow 0 474 5 (.slice a l c') n xs:=h3
 rw [bs1 E93 (by rfl)]
 have hdy:Bk ((dr w (w.drawn+1)).alloc (.cells (Value.agg #[I Kk.now,I x1,I x2,I x3,I x4]).cells 474)) y [Pt k 0,.slice a l c'] 335:=(Kp.alloc No (dr w (w.drawn+1)) _).bk h1 id
 simp only [SS]
 refine ⟨of_eq_true (hdy.hc (o:=1) (v:=.slice a l c') rfl),?_⟩
 refine apnd E93 (x:=.agg #[I Kk.now,I x1,I x2,I x3,I x4]) h3d (Nat.zero_le _) (by omega) rfl (by simp [Value.cells,Value.oneCell']) fun g cc w2 hg hat ho2 k2=>?_
 have k2':Kp (fun k=>(Value.slice a l c').ownBlock=some k) w w2:=k2.drL
 have hyg:∀ b,(Value.slice a l c').ownBlock=some b→¬ y=b:=fun b hb=>by
  rcases own_bk h3 with ⟨rfl,_⟩ | ⟨g',cur,rfl,_,_,hbk,_⟩
  ·cases hb
  ·injection hb with hb
   have hb:g'=b:=hb
   subst hb
   exact ne_of_bk h1 hbk (fun e=>by injection e with _ e; simp at e)
 have h12:=k2'.bk h1 fun hb=>hyg y hb rfl
 refine sc_k (o:=1) h12 (by simp) rfl fun w3 k3 b3 s3=>?_
 have hy:=h1.lt
 have kp:Kp (fun x=>lab x=q+7) w w3:=(k2'.mono fun x _ hx=>h4 x hx).trans (k3.mono fun x _ hx=>by rw [hx,h2])
 have hgy:¬ g=y:=fun e=>by
  rcases own_bk ho2 with ⟨h',_⟩ | ⟨g',cur,hg',_,_,hbk,_⟩
  ·cases h'
  ·injection hg' with hg'
   injection hg' with hg'
   subst hg'
   subst e
   exact ne_of_bk hbk h12 (fun e=>by injection e with _ e; simp at e) rfl
 have ho3:=own_kp ho2 k3 fun b hb e=>by injection hb with hb; exact hgy (hb.trans e)
 simp only [dr_heap] at hat
 have hg3:nl lab w w3 (q+7) g=q+7:=by
  rcases hat with h | h
  ·rw [nl_old (own_lt h3 h).2]; exact h4 g h
  ·unfold nl; rw [if_neg (by omega),if_pos (own_lt ho3 rfl).2]
 refine hR w3 _ (Stp.lab (kp.mono fun x _ hx=>by unfold inK; omega) (by unfold inK; omega)) (hv.relab kp) ⟨_,_,_,n+1,_,b3,by rw [nl_old hy,h2],ho3,fun b hb=>?_,by omega⟩
 injection hb with hb
 rw [← hb]; exact hg3
theorem k271 {lab:Nat→Nat} {q k t L bk m p y c:Nat} {nb lf:Nat→Nat} {Kk:Kn} {x1 x2 x3:Int} (hv:KRv w lab q k t L bk m p nb lf Kk) (hT:TM w lab q y k c) (hc:c<99990)
  (hR:∀ w' lab',Stp w w' lab lab' q→KRv w' lab' q k t L bk m p nb lf (spareK Kk)→TM w' lab' q y k (c+2)→K (.tuple #[]) w'):Ct Tryz.prog 271 #[Pt y 0,I x1,I x2,I x3] w K:=by
 refine c271 ?_
 unfold F271
 obtain ⟨a,l,c',n,xs,h1,h2,h3,h4,h5⟩:=id hT
 simp only [SS,h1.rd (o:=0) (v:=Pt k 0) rfl,hv.kh.rd (o:=4) (v:=I Kk.now) rfl,hv.kh.rd (o:=3) (v:=Pt p 0) rfl]
 have hvd:=hv.kp (Kp.dr No w (w.drawn+1)) fun _ _=>id
 refine k341 hvd.pool ?_
 unfold spareK at hR
 cases e:giveL Kk.pool Kk.last Kk.now with
 | none =>
  rw [e] at hR
  intro w1 k1
  have k1':=k1.drL
  have hv1:=hv.kp k1' fun _ _=>id
  have h11:Bk w1 y [Pt k 0,.slice a l c'] 335:=k1'.bk h1 id
  simp only [SS,h11.rd (o:=0) (v:=Pt k 0) rfl,hv1.kh.rd (o:=5) (v:=I Kk.idle) rfl]
  refine sc_k (o:=5) hv1.kh (by simp) rfl fun w2 k2 b2 s2=>?_
  have hv2:=hv1.setHead (now':=Kk.now) (idle':=wr (Kk.idle+1)) k2 b2
  have hT2:TM w2 lab q y k c:=(hT.no k1').kp k2 fun x hx he=>by rw [he,hv.lk] at hx; omega
  have st2:Stp w w2 lab lab q:=⟨(k1'.no _).trans (k2.mono fun x _ hx=>by rw [hx,hv.lk]; unfold inK; omega),fun _ _=>rfl,fun x hx hn=>by have:=hv.bd x hn; omega⟩
  exact k274 hv2 hT2 (by omega) fun w3 lab3 st3 hv3 hT3=>hR w3 lab3 (st2.trans st3) hv3 (hT3.le (by omega))
 | some r =>
  obtain ⟨hh,what,late,S⟩:=r
  rw [e] at hR
  intro w1 k1 hp1
  have k1':=k1.drL
  have hv1:=hv.setPool (S':=S) (last':=slotH hh) k1' hp1
  have st1:Stp w w1 lab (nl lab w w1 (q+6)) q:=Stp.lab (k1'.mono fun x _ hx=>by rcases hx with hx | hx; unfold inK; omega; rw [hx,hv.lp]; unfold inK; omega) (by unfold inK; omega)
  have hT1:TM w1 (nl lab w w1 (q+6)) q y k c:=hT.go k1' fun x hx he=>by rcases he with he | he; omega; rw [he,hv.lp] at hx; omega
  simp only [SS]
  refine k274 hv1 hT1 (by omega) fun w2 lab2 st2 hv2 hT2=>?_
  by_cases e1:what=1
  ·rw [if_pos e1]
   exact k274 hv2 hT2 (by omega) fun w3 lab3 st3 hv3 hT3=>hR w3 lab3 ((st1.trans st2).trans st3) hv3 hT3
  ·rw [if_neg e1]
   by_cases e2:what=2
   ·rw [if_pos e2]
    exact k274 hv2 hT2 (by omega) fun w3 lab3 st3 hv3 hT3=>hR w3 lab3 ((st1.trans st2).trans st3) hv3 hT3
   ·rw [if_neg e2]
    exact hR w2 lab2 (st1.trans st2) hv2 (hT2.le (by omega))
end
section
open Sy
def F178 (R:Ko) (x0:Option Addr) (a1:Option Addr) (l1 c1:Nat) (w:World):Prop:=Ix a1 l1 (IntKind.i64.wrap ((l1:Nat) - 1)) 1 fun x14=>Lc x14 w fun v15=>onI v15 fun x15=>onSome x0 fun x18=>Lc (x18.add 0) w fun v20=>onP v20 fun x20=>onSome x20 fun x21=>Lc (x21.add 1) w fun v23=>onI v23 fun x23=>Ifm ((x15:Int) == x23) (Ct Tryz.prog 271 #[.pointer x0,.int .i64 4,.int .i64 4,.int .i64 x15] w fun v27 w1=>onSome x0 fun x29=>Lc (x29.add 0) w1 fun v31=>onP v31 fun x31=>onSome x31 fun x32=>Lc (x32.add 2) w1 fun v34=>onP v34 fun x34=>Ct Tryz.prog 272 #[.pointer x34,.slice a1 l1 c1,.bool false] w1 fun v36 w2=>R (.tuple #[]) w2) (onSome x0 fun x39=>Lc (x39.add 0) w fun v41=>onP v41 fun x41=>onSome x41 fun x42=>Lc (x42.add 0) w fun v44=>onP v44 fun x44=>Ct Tryz.prog 180 #[.pointer x44,.int .i64 x15] w fun v46 w3=>on2 v46 fun y46_0 y46_1=>onP y46_0 fun x46_0=>onSome x46_0 fun x51=>Lc (x51.add 10) w3.drew fun v53=>onP v53 fun x53=>onSome x0 fun x55=>Lc (x55.add 0) w3.drew fun v57=>onP v57 fun x57=>onSome x57 fun x58=>Lc (x58.add 4) w3.drew fun v60=>onI v60 fun x60=>Ct Tryz.prog 273 #[.pointer x53,.int .i64 x60] w3.drew fun v61 w4=>on3 v61 fun y61_0 y61_1 y61_2=>onI y61_0 fun x61_0=>onI y61_1 fun x61_1=>onI y61_2 fun x61_2=>Ifm ((x61_0:Int) == 0) (Ct Tryz.prog 271 #[.pointer x0,.int .i64 2,.int .i64 3,.int .i64 x15] w4 fun v69 w5=>onSome x0 fun x71=>Lc (x71.add 0) w5 fun v73=>onP v73 fun x73=>onSome x73 fun x74=>Lc (x74.add 2) w5 fun v76=>onP v76 fun x76=>Ct Tryz.prog 272 #[.pointer x76,.slice a1 l1 c1,.bool true] w5 fun v78 w6=>R (.tuple #[]) w6) (Ct Tryz.prog 274 #[.pointer x0,.int .i64 1,.int .i64 x15,.int .i64 x61_0,.int .i64 0] w4 fun v82 w7=>onSome x0 fun x84=>Lc (x84.add 0) w7 fun v86=>onP v86 fun x86=>onSome x86 fun x87=>Lc (x87.add 2) w7 fun v89=>onP v89 fun x89=>Ct Tryz.prog 272 #[.pointer x89,.slice a1 l1 c1,.bool false] w7 fun v91 w8=>Ifm ((x61_1:Int) != 0) (Ct Tryz.prog 274 #[.pointer x0,.int .i64 x61_1,.int .i64 x15,.int .i64 x61_0,.int .i64 x61_2] w8 fun v99 w9=>onSome x0 fun x101=>Lc (x101.add 0) w9 fun v103=>onP v103 fun x103=>onSome x103 fun x104=>Lc (x104.add 2) w9 fun v106=>onP v106 fun x106=>Ct Tryz.prog 275 #[.pointer x106,.int .i64 x15,.int .i64 x61_1,.bool (decide ((x61_2:Int) > 0))] w9 fun v111 w10=>R (.tuple #[]) w10) (R (.tuple #[]) w8)))
noncomputable def b178:Code:=Tryz.f178.body.getD .skip
theorem c178 {R:Ko} {x0:Option Addr} {a1:Option Addr} {l1 c1:Nat} {w:World} (h:F178 R x0 a1 l1 c1 w):Ct Tryz.prog 178 #[.pointer x0,.slice a1 l1 c1] w R :=
 ctS (args:=[.pointer x0,.slice a1 l1 c1]) (body:=b178) (n:=112) (rs:=[]) Tryz.func178
  (sg (cuts:=[]) trivial h)
variable {K:Ko} {w w':World}
theorem find_nz {α:Type} {S:Slots α} {kind h:Int} {n i:Nat} (hk:kind=1∨kind=2∨kind=3) (e:findS S kind n h=some i):h≠0:=by
 unfold findS at e
 split at e
 ·rename_i hc
  intro h0
  subst h0
  have:kindH 0=0:=by decide
  rw [this] at hc
  omega
 ·cases e
theorem offer_nz {S:Slots Tk} {now x what late:Int} {S':Slots Tk} (e:offerL S 2 8 now=some (x,what,late,S')):x≠0:=by
 unfold offerL at e
 split at e
 ·cases e
 ·rename_i i t hg
  split at e
  ·cases e
  ·injection e with e
   injection e with e _
   rw [← e]
   unfold getT at hg
   split at hg
   ·cases hg
   ·rename_i j hj
    exact find_nz (by omega) hj
theorem k178 {lab:Nat→Nat} {q k t L bk m p y c B l c1:Nat} {a:Option Addr} {hs:List Int} {nb lf:Nat→Nat} {Kk:Kn} (hv:KRv w lab q k t L bk m p nb lf Kk) (hT:TM w lab q y k c) (hc:c<90000)
  (ho:w.ownsRow B 33 1 (.slice a l c1) hs.length (hs.map I)) (hfree:∀ b,(Value.slice a l c1).ownBlock=some b→lab b=0) (h64:hs.length≤64) (hne:hs≠[]) (hlast:∃ i n,getN Kk.n (hs.getLastD 0)=some (i,n))
  (hR:∀ w' lab',Stp w w' lab lab' q→KRv w' lab' q k t L bk m p nb lf (chargeK Kk hs)→TM w' lab' q y k (c+5)→K (.tuple #[]) w'):Ct Tryz.prog 178 #[Pt y 0,.slice a l c1] w K:=by
 refine c178 ?_
 unfold F178
 obtain ⟨ma,ml,mc,mn,mxs,h1,h2,h3,h4,h5⟩:=id hT
 obtain ⟨last,hla⟩:∃ z,z=hs.getLastD 0:=⟨_,rfl⟩
 have hl:=own_len ho
 have hpos:0<hs.length:=List.length_pos_iff.2 hne
 obtain ⟨g,rfl,_,hlc⟩:=hd_lc ho (i:=hs.length - 1) (by omega)
 simp only [Nat.mul_one] at hlc
 have elast:hs[hs.length - 1]=last:=by rw [hla,List.getLastD_eq_getLast?,List.getLast?_eq_getElem?,List.getElem?_eq_getElem (by omega)]; rfl
 rw [elast] at hlc
 have ew:IntKind.i64.wrap ((l:Int) - 1)=((hs.length - 1:Nat):Int):=by rw [wr_id (by omega) (by omega)]; omega
 simp only [ew,Ix_c (show hs.length - 1<l by omega),Nat.mul_one,hlc,SS,h1.rd (o:=0) (v:=Pt k 0) rfl,hv.kh.rd (o:=1) (v:=I rootH) rfl,hv.kh.rd (o:=0) (v:=Pt t 0) rfl]
 obtain ⟨i,n,hg⟩:=hlast
 rw [← hla] at hg
 have hn:=(getN_some hg).2
 unfold chargeK at hR
 simp only [← hla] at hR
 have book:∀ (w1:World) (lab1:Nat→Nat) (Kx:Kn) (c2:Nat) (lent:Bool) (kk:World→Prop),Stp w w1 lab lab1 q→KRv w1 lab1 q k t L bk m p nb lf Kx→TM w1 lab1 q y k c2 →
   (∀ w2 lab2,Stp w w2 lab lab2 q→KRv w2 lab2 q k t L bk m p nb lf (bookK Kx hs lent)→TM w2 lab2 q y k c2→kk w2) →
   Lc ⟨y,0,none⟩ w1 (fun v31=>onP v31 fun x31=>onSome x31 fun x32=>Lc (x32.add 2) w1 fun v34=>onP v34 fun x34=>Ct Tryz.prog 272 #[.pointer x34,.slice (some ⟨g,0,none⟩) l c1,.bool lent] w1 fun v36 w2=>kk w2):=by
  intro w1 lab1 Kx c2 lent kk st hv1 hT1 hk
  obtain ⟨ma1,ml1,mc1,mn1,mxs1,h11,_⟩:=id hT1
  simp only [SS,h11.rd (o:=0) (v:=Pt k 0) rfl,hv1.kh.rd (o:=2) (v:=Pt bk 0) rfl]
  have ho1:=own_kp ho st.kp fun b hb hi=>by rw [hfree b hb] at hi; unfold inK at hi; omega
  refine k272 (by omega) hv1.book ho1 fun w2 v k2 hb2=>?_
  refine hk w2 lab1 (st.trans ⟨k2.mono fun x _ hx=>by rw [hx,hv1.lm]; unfold inK; omega,fun _ _=>rfl,fun x hx hn=>by have:=hv1.bd x hn; omega⟩) (hv1.setBook k2 hb2) (hT1.kp k2 fun x hx he=>by rw [he,hv1.lm] at hx; omega)
 by_cases e1:last=rootH
 ·rw [if_pos e1]
  rw [if_pos e1] at hR
  refine k271 hv hT (by omega) fun w1 lab1 st1 hv1 hT1=>?_
  have:=book w1 lab1 _ _ false (fun w2=>K (.tuple #[]) w2) st1 hv1 hT1 fun w2 lab2 st2 hv2 hT2=>hR w2 lab2 st2 hv2 (hT2.le (by omega))
  simpa only [SS] using this
 rw [if_neg e1]
 rw [if_neg e1,hg] at hR
 simp only at hR
 refine n_get hv.nt ?_
 rw [hg]
 intro d
 have hnb:=(hv.nt.nd i n hn).2
 have hi64:=(hv.nt.nd i n hn).1
 simp only [SS,h1.rd (o:=0) (v:=Pt k 0) rfl,hnb.rd (o:=10) (v:=Pt (lf i) 0) rfl,hv.kh.rd (o:=4) (v:=I Kk.now) rfl]
 have hvd:=hv.kp (Kp.dr No w (w.drawn+1)) fun _ _=>id
 refine k273 (w:=dr w _) ((hv.leaf i n hn).kp (Kp.dr No w _) (fun _ _=>id) fun _ _=>id) ?_
 cases e:offerL n.leaf 2 8 Kk.now with
 | none =>
  rw [e] at hR
  simp only at hR
  intro w3 k3
  have k3':=k3.drL
  have hv3:=hv.kp k3' fun _ _=>id
  simp only [SS]
  refine k271 hv3 (hT.no k3') (by omega) fun w1 lab1 st1 hv1 hT1=>?_
  have:=book w1 lab1 _ _ true (fun w2=>K (.tuple #[]) w2) (Stp.pre k3' hv.bd st1) hv1 hT1 fun w2 lab2 st2 hv2 hT2=>hR w2 lab2 st2 hv2 (hT2.le (by omega))
  simpa only [SS] using this
 | some r =>
  obtain ⟨x,what,late,S⟩:=r
  rw [e] at hR
  simp only at hR
  have hx:=offer_nz e
  intro w3 k3 hl3
  have k3':=k3.drL
  have hv3:=hv.setLeaf (S':=S) hn k3' hl3
  have st3:Stp w w3 lab (nl lab w w3 (q+200+i)) q:=Stp.lab (k3'.mono fun x _ hx=>by unfold inK; omega) (by unfold inK; omega)
  have hT3:TM w3 (nl lab w w3 (q+200+i)) q y k c:=hT.go k3' fun x hx he=>by omega
  simp only [SS]
  rw [if_neg hx]
  refine k274 hv3 hT3 (by omega) fun w4 lab4 st4 hv4 hT4=>?_
  have:=book w4 lab4 _ _ false (fun w8=>if what=0 then K (.tuple #[]) w8 else Ct Tryz.prog 274 #[Pt y 0,I what,I last,I x,I late] w8 fun v99 w9=>Lc ⟨y,0,none⟩ w9 fun v103=>onP v103 fun x103=>onSome x103 fun x104=>Lc (x104.add 2) w9 fun v106=>onP v106 fun x106=>Ct Tryz.prog 275 #[.pointer x106,I last,I what,.bool (decide (late > 0))] w9 fun v111 w10=>K (.tuple #[]) w10) (st3.trans st4) hv4 hT4 fun w8 lab8 st8 hv8 hT8=>?_
  ·simpa only [SS] using this
  by_cases e2:what=0
  ·rw [if_pos e2]
   rw [if_pos e2] at hR
   exact hR w8 lab8 st8 hv8 (hT8.le (by omega))
  ·rw [if_neg e2]
   rw [if_neg e2] at hR
   refine k274 hv8 hT8 (by omega) fun w9 lab9 st9 hv9 hT9=>?_
   obtain ⟨ma1,ml1,mc1,mn1,mxs1,h11,_⟩:=id hT9
   simp only [SS,h11.rd (o:=0) (v:=Pt k 0) rfl,hv9.kh.rd (o:=2) (v:=Pt bk 0) rfl]
   refine k275 hv9.book fun w10 v k10 hb10=>?_
   refine hR w10 lab9 ((st8.trans st9).trans ⟨k10.mono fun x _ hx=>by rw [hx,hv9.lm]; unfold inK; omega,fun _ _=>rfl,fun x hx hn=>by have:=hv9.bd x hn; omega⟩) (hv9.setBook k10 hb10) ((hT9.kp k10 fun x hx he=>by rw [he,hv9.lm] at hx; omega).le (by omega))
end
section
open Sy
def F181_0B (R:Ko) (M:Addr→Option Addr→Nat→Nat→Ko) (C0:Addr→Option Addr→Nat→Nat→Option Addr→Nat→Nat→Int→Int→World→Prop) (x3:Addr) (a11:Option Addr) (l11 c11:Nat) (a69:Option Addr) (l69 c69:Nat) (x70:Int) (x71:Int) (w:World):Prop:=Ifm (decide ((x71:Int)<x70)) (Ix a69 l69 x71 1 fun x73=>Lc x73 w fun v74=>onI v74 fun x74=>Lc x3 w fun v75=>onP v75 fun x75=>Ct Tryz.prog 274 #[.pointer x75,.int .i64 7,.int .i64 x74,.int .i64 0,.int .i64 0] w fun v77 w11=>C0 x3 a11 l11 c11 a69 l69 c69 x70 (IntKind.i64.wrap (x71+1)) w11) (Ct Tryz.prog 179 #[.slice a11 l11 c11] w fun v80 w12=>M x3 a11 l11 c11 v80 w12)
def F181_0 (R:Ko) (M:Addr→Option Addr→Nat→Nat→Ko) (x3:Addr) (a11:Option Addr) (l11 c11:Nat) (a69:Option Addr) (l69 c69:Nat) (x70:Int) (x71:Int) (w:World):Prop:=∃ (Inv:Addr→Option Addr→Nat→Nat→Option Addr→Nat→Nat→Int→Int→World→Prop) (μ:Addr→Option Addr→Nat→Nat→Option Addr→Nat→Nat→Int→Int→World→Nat),Inv x3 a11 l11 c11 a69 l69 c69 x70 x71 w∧∀ x3 a11 l11 c11 a69 l69 c69 x70 x71 w,Inv x3 a11 l11 c11 a69 l69 c69 x70 x71 w→F181_0B R M (fun x3' a11' l11' c11' a69' l69' c69' x70' x71' w'=>Inv x3' a11' l11' c11' a69' l69' c69' x70' x71' w'∧μ x3' a11' l11' c11' a69' l69' c69' x70' x71' w'<μ x3 a11 l11 c11 a69 l69 c69 x70 x71 w) x3 a11 l11 c11 a69 l69 c69 x70 x71 w
def F181_2B (R:Ko) (C2:Addr→Option Addr→Nat→Nat→Int→Int→World→Prop) (x3:Addr) (a92:Option Addr) (l92 c92:Nat) (x93:Int) (x94:Int) (w:World):Prop:=Ifm (decide ((x94:Int)<x93)) (Ix a92 l92 x94 1 fun x96=>Lc x96 w fun v97=>onI v97 fun x97=>Lc x3 w fun v98=>onP v98 fun x98=>onSome x98 fun x99=>Lc (x99.add 0) w fun v101=>onP v101 fun x101=>onSome x101 fun x102=>Lc (x102.add 0) w fun v104=>onP v104 fun x104=>Ct Tryz.prog 280 #[.pointer x104,.int .i64 x97] w fun v106 w13=>C2 x3 a92 l92 c92 x93 (IntKind.i64.wrap (x94+1)) w13) (R (.tuple #[]) w)
def F181_2 (R:Ko) (x3:Addr) (a92:Option Addr) (l92 c92:Nat) (x93:Int) (x94:Int) (w:World):Prop:=∃ (Inv:Addr→Option Addr→Nat→Nat→Int→Int→World→Prop) (μ:Addr→Option Addr→Nat→Nat→Int→Int→World→Nat),Inv x3 a92 l92 c92 x93 x94 w∧∀ x3 a92 l92 c92 x93 x94 w,Inv x3 a92 l92 c92 x93 x94 w→F181_2B R (fun x3' a92' l92' c92' x93' x94' w'=>Inv x3' a92' l92' c92' x93' x94' w'∧μ x3' a92' l92' c92' x93' x94' w'<μ x3 a92 l92 c92 x93 x94 w) x3 a92 l92 c92 x93 x94 w
def F181 (R:Ko) (M:Addr→Option Addr→Nat→Nat→Ko) (x0:Option Addr) (x1:Int) (x2:Int) (w:World):Prop:=New (.cells (.pointer x0:Value).cells 333) w fun x3 w1=>Lc x3 w1 fun v19=>onP v19 fun x19=>onSome x19 fun x20=>Lc (x20.add 0) w1 fun v22=>onP v22 fun x22=>onSome x22 fun x23=>Lc (x23.add 0) w1 fun v25=>onP v25 fun x25=>Ct Tryz.prog 180 #[.pointer x25,.int .i64 x1] w1 fun v27 w2=>on2 v27 fun y27_0 y27_1=>onP y27_0 fun x27_0=>onSome x27_0 fun x31=>Lc ((x31.add 1).add 7) w2 fun v34=>onI v34 fun x34=>Ifm ((x34:Int) != x2) (R (.tuple #[]) w2) (Lc x3 w2.drew fun v37=>onP v37 fun x37=>onSome x27_0 fun x40=>Lc (((x40.add 1).add 0).add 0) w2.drew fun v44=>onI v44 fun x44=>onSome x27_0 fun x46=>Lc ((x46.add 1).add 5) w2.drew fun v49=>onI v49 fun x49=>Ct Tryz.prog 274 #[.pointer x37,.int .i64 5,.int .i64 x1,.int .i64 0,.int .i64 (IntKind.i64.wrap (x44 - x49))] w2.drew fun v51 w3=>onSome x27_0 fun x54=>La 8 (x54.add 1) w3 fun x56=>Ct Tryz.prog 278 #[.agg x56,.int .i64 x2] w3 fun v58 w4=>on3 v58 fun y58_0 y58_1 y58_2=>onG y58_0 fun x58_0=>onB y58_1 fun x58_1=>New (.cells (.agg #[.int .i64 0,.int .i64 0,.int .i64 0,.int .i64 0,.bool false,.int .i64 0,.int .i64 0,.int .i64 0]:Value).cells 120) w4 fun x8 w5=>Sa 8 x8 x58_0 w5 fun w6=>Ifm x58_1 (Lc x3 w6 fun v63=>onP v63 fun x63=>onSome x63 fun x64=>Lc (x64.add 0) w6 fun v66=>onP v66 fun x66=>Ct Tryz.prog 140 #[.pointer x66,.slice none 0 0,.int .i64 x1] w6 fun v68 w7=>onL v68 fun a68 l68 c68=>F181_0 R M x3 a68 l68 c68 a68 l68 c68 (l68:Nat) 0 w7) (La 2 (x8.add 0) w6.drew fun x109=>onSome x27_0 fun x111=>La 2 ((x111.add 1).add 0) w6.drew fun x114=>Rd Tryz.prog (Bin .neq 35 (.tmp 109) (.tmp 114) (.agg x109) (.agg x114)) w6.drew fun v115=>onB v115 fun x115=>Ifm x115 (Lc x3 w6.drew fun v116=>onP v116 fun x116=>Lc ((x8.add 0).add 0) w6.drew fun v120=>onI v120 fun x120=>Ct Tryz.prog 274 #[.pointer x116,.int .i64 6,.int .i64 x1,.int .i64 0,.int .i64 x120] w6.drew fun v121 w8=>La 8 x8 w8 fun x123=>onSome x27_0 fun x124=>Sa 8 (x124.add 1) x123 w8 fun w9=>R (.tuple #[]) w9) (La 8 x8 w6.drew fun x123=>onSome x27_0 fun x124=>Sa 8 (x124.add 1) x123 w6.drew fun w10=>R (.tuple #[]) w10)))
def F181_po (R:Ko) (x3:Addr) (a11:Option Addr) (l11 c11:Nat) (w:World):Prop:=F181_2 R x3 a11 l11 c11 (l11:Nat) 0 w
noncomputable def b181:Code:=Tryz.f181.body.getD .skip
def q181_0:List Bool:=[false,true,false,true,false,true,false,true,true,true,true,true]
def L181_0 (F:Addr→Option Addr→Nat→Nat→Option Addr→Nat→Nat→Int→Int→World→Prop):Env→World→Prop:=fun ρ w=>onA (ρ 3) fun x3=>onL (ρ 11) fun a11 l11 c11=>onL (ρ 69) fun a69 l69 c69=>onI (ρ 70) fun x70=>onI (ρ 71) fun x71=>F x3 a11 l11 c11 a69 l69 c69 x70 x71 w
def q181_2:List Bool:=[false,true,false,true,true,true,false,true,false,true,true,true,true,true]
def L181_2 (F:Addr→Option Addr→Nat→Nat→Int→Int→World→Prop):Env→World→Prop:=fun ρ w=>onA (ρ 3) fun x3=>onL (ρ 92) fun a92 l92 c92=>onI (ρ 93) fun x93=>onI (ρ 94) fun x94=>F x3 a92 l92 c92 x93 x94 w
abbrev T181 (z:Fr) (R:Ko) (p:List Bool) (ρ:Env) (w:World):Prop:=TW z Tryz.prog 126 (segTodo b181 p) (QR Tryz.prog [] R) ρ w
theorem s181_0 (R:Ko) (M:Addr→Option Addr→Nat→Nat→Ko) (hM:∀ ρ w,(fun ρ w=>onA (ρ 3) fun x3=>onL (ρ 11) fun a11 l11 c11=>M x3 a11 l11 c11 (ρ 80) w) ρ w→TW z0 Tryz.prog 126 (segTodo b181 [false,true,false,true,true,false,true,false,true,true,true,true,true]) (QR Tryz.prog [] R) ρ w):∀ ρ w,(L181_0 (F181_0 R M)) ρ w→T181 z0 R q181_0 ρ w:=by
 intro ρ w h
 obtain ⟨x3,e3,h⟩:=onA_of h
 obtain ⟨a11,l11,c11,e11,h⟩:=onL_of h
 obtain ⟨a69,l69,c69,e69,h⟩:=onL_of h
 obtain ⟨x70,e70,h⟩:=onI_of h
 obtain ⟨x71,e71,h⟩:=onI_of h
 obtain ⟨Inv,μ,hi,hb⟩:=h
 refine lpT (fun m=>L181_0 (fun x3 a11 l11 c11 a69 l69 c69 x70 x71 w=>Inv x3 a11 l11 c11 a69 l69 c69 x70 x71 w∧μ x3 a11 l11 c11 a69 l69 c69 x70 x71 w=m)) ?_ (μ x3 a11 l11 c11 a69 l69 c69 x70 x71 w) ρ w ?_
 ·intro m ρ w ih h
  obtain ⟨x3,e3,h⟩:=onA_of h
  obtain ⟨a11,l11,c11,e11,h⟩:=onL_of h
  obtain ⟨a69,l69,c69,e69,h⟩:=onL_of h
  obtain ⟨x70,e70,h⟩:=onI_of h
  obtain ⟨x71,e71,h⟩:=onI_of h
  obtain ⟨hv,hm⟩:=h
  subst hm
  have hh:=hb x3 a11 l11 c11 a69 l69 c69 x70 x71 w hv
  obtain ⟨C0,hC⟩:∃ C,C=fun x3' a11' l11' c11' a69' l69' c69' x70' x71' w'=>Inv x3' a11' l11' c11' a69' l69' c69' x70' x71' w'∧μ x3' a11' l11' c11' a69' l69' c69' x70' x71' w'<μ x3 a11 l11 c11 a69 l69 c69 x70 x71 w:=⟨_,rfl⟩
  rw [← hC] at hh
  have h0:∀ ρ w,(L181_0 C0) ρ w→T181 z0 R q181_0 ρ w:=by
   intro ρ' w' h'
   refine ih ρ' w' ?_
   obtain ⟨x3',e3',h'⟩:=onA_of h'
   obtain ⟨a11',l11',c11',e11',h'⟩:=onL_of h'
   obtain ⟨a69',l69',c69',e69',h'⟩:=onL_of h'
   obtain ⟨x70',e70',h'⟩:=onI_of h'
   obtain ⟨x71',e71',h'⟩:=onI_of h'
   rw [hC] at h'
   refine ⟨_,h'.2,?_⟩
   simp only [e3',e11',e69',e70',e71',L181_0,ons]
   exact ⟨h'.1,by trivial⟩
  rw [← upds_same (ρ:=ρ) [(3,.pointer (some x3)),(11,.slice a11 l11 c11),(69,.slice a69 l69 c69),(70,.int .i64 x70),(71,.int .i64 x71)] (alc e3 (alc e11 (alc e69 (alc e70 (alc e71 aln)))))]
  exact sg (cuts:=[([false,true,false,true,true,false,true,false,true,true,true,true,true],fun ρ w=>onA (ρ 3) fun x3=>onL (ρ 11) fun a11 l11 c11=>M x3 a11 l11 c11 (ρ 80) w),(q181_0,L181_0 C0)]) ⟨hM,h0,trivial⟩ hh
 ·simp only [e3,e11,e69,e70,e71,L181_0,ons]
  exact ⟨hi,by trivial⟩
theorem s181_2 {z:Fr} (hz:z.r=none) (R:Ko):∀ ρ w,(L181_2 (F181_2 R)) ρ w→T181 z R q181_2 ρ w:=by
 intro ρ w h
 obtain ⟨x3,e3,h⟩:=onA_of h
 obtain ⟨a92,l92,c92,e92,h⟩:=onL_of h
 obtain ⟨x93,e93,h⟩:=onI_of h
 obtain ⟨x94,e94,h⟩:=onI_of h
 obtain ⟨Inv,μ,hi,hb⟩:=h
 refine lpT (fun m=>L181_2 (fun x3 a92 l92 c92 x93 x94 w=>Inv x3 a92 l92 c92 x93 x94 w∧μ x3 a92 l92 c92 x93 x94 w=m)) ?_ (μ x3 a92 l92 c92 x93 x94 w) ρ w ?_
 ·intro m ρ w ih h
  obtain ⟨x3,e3,h⟩:=onA_of h
  obtain ⟨a92,l92,c92,e92,h⟩:=onL_of h
  obtain ⟨x93,e93,h⟩:=onI_of h
  obtain ⟨x94,e94,h⟩:=onI_of h
  obtain ⟨hv,hm⟩:=h
  subst hm
  have hh:=hb x3 a92 l92 c92 x93 x94 w hv
  obtain ⟨C2,hC⟩:∃ C,C=fun x3' a92' l92' c92' x93' x94' w'=>Inv x3' a92' l92' c92' x93' x94' w'∧μ x3' a92' l92' c92' x93' x94' w'<μ x3 a92 l92 c92 x93 x94 w:=⟨_,rfl⟩
  rw [← hC] at hh
  have h2:∀ ρ w,(L181_2 C2) ρ w→T181 z R q181_2 ρ w:=by
   intro ρ' w' h'
   refine ih ρ' w' ?_
   obtain ⟨x3',e3',h'⟩:=onA_of h'
   obtain ⟨a92',l92',c92',e92',h'⟩:=onL_of h'
   obtain ⟨x93',e93',h'⟩:=onI_of h'
   obtain ⟨x94',e94',h'⟩:=onI_of h'
   rw [hC] at h'
   refine ⟨_,h'.2,?_⟩
   simp only [e3',e92',e93',e94',L181_2,ons]
   exact ⟨h'.1,by trivial⟩
  rw [← upds_same (ρ:=ρ) [(3,.pointer (some x3)),(92,.slice a92 l92 c92),(93,.int .i64 x93),(94,.int .i64 x94)] (alc e3 (alc e92 (alc e93 (alc e94 aln))))]
  exact sg (cuts:=[(q181_2,L181_2 C2)]) ⟨h2,trivial⟩ hh (hnd:=.inl hz)
 ·simp only [e3,e92,e93,e94,L181_2,ons]
  exact ⟨hi,by trivial⟩
theorem c181 {R:Ko} {M:Addr→Option Addr→Nat→Nat→Ko} (hM:∀ ρ w,(fun ρ w=>onA (ρ 3) fun x3=>onL (ρ 11) fun a11 l11 c11=>M x3 a11 l11 c11 (ρ 80) w) ρ w→TW z0 Tryz.prog 126 (segTodo b181 [false,true,false,true,true,false,true,false,true,true,true,true,true]) (QR Tryz.prog [] R) ρ w) {x0:Option Addr} {x1:Int} {x2:Int} {w:World} (h:F181 R M x0 x1 x2 w):Ct Tryz.prog 181 #[.pointer x0,.int .i64 x1,.int .i64 x2] w R :=
 ctS (args:=[.pointer x0,.int .i64 x1,.int .i64 x2]) (body:=b181) (n:=126) (rs:=[]) Tryz.func181
  (sg (cuts:=[(q181_0,L181_0 (F181_0 R M))]) ⟨s181_0 R M hM,trivial⟩ h)
theorem p181 {z:Fr} (hz:z.r=none) (R:Ko):∀ ρ w,(fun ρ w=>onA (ρ 3) fun x3=>onL (ρ 11) fun a11 l11 c11=>F181_po R x3 a11 l11 c11 w) ρ w→TW z Tryz.prog 126 (contOf b181 [false,true,false,true,true,false,true,false,true,true,true,true,true]) (QR Tryz.prog [] R) ρ w:=by
 intro ρ w h
 obtain ⟨x3,e3,h⟩:=onA_of h
 obtain ⟨a11,l11,c11,e11,h⟩:=onL_of h
 rw [← upds_same (ρ:=ρ) [(3,.pointer (some x3)),(11,.slice a11 l11 c11)] (alc e3 (alc e11 aln))]
 exact segT (td:=tdB) (cuts:=[(q181_2,L181_2 (F181_2 R))]) goB_go mixedB (f:=1000) ⟨s181_2 hz R,trivial⟩ (by kernel_rfl) h hz
def F181b (R:Ko) (x3:Addr) (x15:Int) (w:World):Prop:=Lc x3 w fun v83=>onP v83 fun x83=>onSome x83 fun x84=>Lc (x84.add 0) w fun v86=>onP v86 fun x86=>onSome x86 fun x87=>Lc (x87.add 2) w fun v89=>onP v89 fun x89=>Ct Tryz.prog 279 #[.pointer x89,.int .i64 x15] w fun v91 w1=>R (.tuple #[]) w1
noncomputable def b181b:Code:=rfBody (codeAt b181 [false,true,false,true,true,false,true,false,true,true,true,true,true])
theorem t181b {l:Nat} (R:Ko):∀ ρ w,(fun ρ w=>onA (ρ 3) fun x3=>onI (ρ 15) fun x15=>F181b R x3 x15 w) ρ w→TW ⟨[],some l⟩ Tryz.prog 126 (segTodo b181b []) (QN R) ρ w:=by
 intro ρ w h
 obtain ⟨x3,e3,h⟩:=onA_of h
 obtain ⟨x15,e15,h⟩:=onI_of h
 rw [← upds_same (ρ:=ρ) [(3,.pointer (some x3)),(15,.int .i64 x15)] (alc e3 (alc e15 aln))]
 exact sg (body:=b181b) (p:=[]) (cuts:=[]) trivial h (hnd:=.inr (by kernel_rfl))
def F101 (R:Ko) (M:Addr→Addr→Ko) (x0:Option Addr) (w:World):Prop:=New (.cells (.pointer x0:Value).cells 26) w fun x1 w1=>Lc x1 w1 fun v12=>onP v12 fun x12=>Ifm x12.isNone (Ct Tryz.prog 129 #[.int .i64 7,.int .i64 0,.iface 129 (.int .i64 60)] w1 fun v22 w2=>R (.tuple #[.slice none 0 0,v22]) w2) (Lc x1 w1 fun v15=>onP v15 fun x15=>onSome x15 fun x16=>Lc (x16.add 4) w1 fun v18=>onI v18 fun x18=>Ifm ((x18:Int) == 1073741824) (Ct Tryz.prog 129 #[.int .i64 7,.int .i64 0,.iface 129 (.int .i64 60)] w1 fun v22 w3=>R (.tuple #[.slice none 0 0,v22]) w3) (Lc x1 w1 fun v23=>onP v23 fun x23=>New (.cells (.agg #[.pointer x23,.slice none 0 0]:Value).cells 335) w1 fun x25 w4=>New (.cells (.pointer none:Value).cells 333) w4 fun x4 w5=>Sc x4 (.pointer (some x25)) w5 fun w6=>Lc x1 w6 fun v26=>onP v26 fun x26=>Ct Tryz.prog 177 #[.pointer x26] w6 fun v27 w7=>onL v27 fun a27 l27 c27=>Lc x4 w7 fun v28=>onP v28 fun x28=>Ct Tryz.prog 178 #[.pointer x28,.slice a27 l27 c27] w7 fun v30 w8=>Ct Tryz.prog 179 #[.slice a27 l27 c27] w8 fun v32 w9=>M x1 x4 v32 w9))
def F101_po (R:Ko) (x1:Addr) (x4:Addr) (w:World):Prop:=Lc x1 w fun v67=>onP v67 fun x67=>onSome x67 fun x68=>Lc (x68.add 4) w fun v70=>onI v70 fun x70=>onSome x67 fun x72=>Sc (x72.add 4) (.int .i64 (IntKind.i64.wrap (x70+1))) w fun w10=>Lc x4 w10 fun v74=>onP v74 fun x74=>onSome x74 fun x75=>Lc (x75.add 1) w10 fun v77=>onL v77 fun a77 l77 c77=>R (.tuple #[.slice a77 l77 c77,.nilIface]) w10
noncomputable def b101:Code:=Tryz.f101.body.getD .skip
theorem c101 {R:Ko} {M:Addr→Addr→Ko} (hM:∀ ρ w,(fun ρ w=>onA (ρ 1) fun x1=>onA (ρ 4) fun x4=>M x1 x4 (ρ 32) w) ρ w→TW z0 Tryz.prog 78 (segTodo b101 [false,true,false,true,true,true,true,true]) (QR Tryz.prog [.tmp 2,.tmp 3] R) ρ w) {x0:Option Addr} {w:World} (h:F101 R M x0 w):Ct Tryz.prog 101 #[.pointer x0] w R :=
 ctS (args:=[.pointer x0]) (body:=b101) (n:=78) (rs:=[.tmp 2,.tmp 3]) Tryz.func101
  (sg (cuts:=[([false,true,false,true,true,true,true,true],fun ρ w=>onA (ρ 1) fun x1=>onA (ρ 4) fun x4=>M x1 x4 (ρ 32) w)]) ⟨hM,trivial⟩ h)
theorem p101 {z:Fr} (hz:z.r=none) (R:Ko):∀ ρ w,(fun ρ w=>onA (ρ 1) fun x1=>onA (ρ 4) fun x4=>F101_po R x1 x4 w) ρ w→TW z Tryz.prog 78 (contOf b101 [false,true,false,true,true,true,true,true]) (QR Tryz.prog [.tmp 2,.tmp 3] R) ρ w:=by
 intro ρ w h
 obtain ⟨x1,e1,h⟩:=onA_of h
 obtain ⟨x4,e4,h⟩:=onA_of h
 rw [← upds_same (ρ:=ρ) [(1,.pointer (some x1)),(4,.pointer (some x4))] (alc e1 (alc e4 aln))]
 exact segT (td:=tdB) (cuts:=[]) goB_go mixedB (f:=1000) trivial (by kernel_rfl) h hz
def F101b_0B (R:Ko) (C0:Addr→Option Addr→Option Addr→Nat→Nat→Int→Int→World→Prop) (x4:Addr) (x8:Option Addr) (a53:Option Addr) (l53 c53:Nat) (x54:Int) (x55:Int) (w:World):Prop:=Ifm (decide ((x55:Int)<x54)) (Ix a53 l53 x55 1 fun x57=>Lc x57 w fun v58=>onI v58 fun x58=>Lc x4 w.drew fun v59=>onP v59 fun x59=>onSome x8 fun x62=>Lc (x62.add 9) w.drew fun v64=>onI v64 fun x64=>Ct Tryz.prog 181 #[.pointer x59,.int .i64 x58,.int .i64 x64] w.drew fun v65 w4=>C0 x4 x8 a53 l53 c53 x54 (IntKind.i64.wrap (x55+1)) w4) (R (.tuple #[]) w)
def F101b_0 (R:Ko) (x4:Addr) (x8:Option Addr) (a53:Option Addr) (l53 c53:Nat) (x54:Int) (x55:Int) (w:World):Prop:=∃ (Inv:Addr→Option Addr→Option Addr→Nat→Nat→Int→Int→World→Prop) (μ:Addr→Option Addr→Option Addr→Nat→Nat→Int→Int→World→Nat),Inv x4 x8 a53 l53 c53 x54 x55 w∧∀ x4 x8 a53 l53 c53 x54 x55 w,Inv x4 x8 a53 l53 c53 x54 x55 w→F101b_0B R (fun x4' x8' a53' l53' c53' x54' x55' w'=>Inv x4' x8' a53' l53' c53' x54' x55' w'∧μ x4' x8' a53' l53' c53' x54' x55' w'<μ x4 x8 a53 l53 c53 x54 x55 w) x4 x8 a53 l53 c53 x54 x55 w
def F101b (R:Ko) (x1:Addr) (x4:Addr) (x7:Int) (w:World):Prop:=Lc x1 w fun v36=>onP v36 fun x36=>onSome x36 fun x37=>Lc (x37.add 0) w fun v39=>onP v39 fun x39=>Ct Tryz.prog 180 #[.pointer x39,.int .i64 x7] w fun v41 w1=>on2 v41 fun y41_0 y41_1=>onP y41_0 fun x41_0=>onSome x41_0 fun x45=>Lc (x45.add 9) w1 fun v47=>onI v47 fun x47=>onSome x41_0 fun x49=>Sc (x49.add 9) (.int .i64 (IntKind.i64.wrap (x47+1))) w1 fun w2=>Lc x1 w2 fun v51=>onP v51 fun x51=>Ct Tryz.prog 145 #[.pointer x51,.int .i64 x7] w2 fun v53 w3=>onL v53 fun a53 l53 c53=>F101b_0 R x4 x41_0 a53 l53 c53 (l53:Nat) 0 w3
noncomputable def b101b:Code:=rfBody (codeAt b101 [false,true,false,true,true,true,true,true])
def q101b_0:List Bool:=[false,true,true,true,false]
def L101b_0 (F:Addr→Option Addr→Option Addr→Nat→Nat→Int→Int→World→Prop):Env→World→Prop:=fun ρ w=>onA (ρ 4) fun x4=>onP (ρ 8) fun x8=>onL (ρ 53) fun a53 l53 c53=>onI (ρ 54) fun x54=>onI (ρ 55) fun x55=>F x4 x8 a53 l53 c53 x54 x55 w
abbrev T101b (l:Nat) (R:Ko) (p:List Bool) (ρ:Env) (w:World):Prop:=TW ⟨[],some l⟩ Tryz.prog 78 (segTodo b101b p) (QN R) ρ w
theorem s101b_0 {l:Nat} (R:Ko):∀ ρ w,(L101b_0 (F101b_0 R)) ρ w→T101b l R q101b_0 ρ w:=by
 intro ρ w h
 obtain ⟨x4,e4,h⟩:=onA_of h
 obtain ⟨x8,e8,h⟩:=onP_of h
 obtain ⟨a53,l53,c53,e53,h⟩:=onL_of h
 obtain ⟨x54,e54,h⟩:=onI_of h
 obtain ⟨x55,e55,h⟩:=onI_of h
 obtain ⟨Inv,μ,hi,hb⟩:=h
 refine lpT (fun m=>L101b_0 (fun x4 x8 a53 l53 c53 x54 x55 w=>Inv x4 x8 a53 l53 c53 x54 x55 w∧μ x4 x8 a53 l53 c53 x54 x55 w=m)) ?_ (μ x4 x8 a53 l53 c53 x54 x55 w) ρ w ?_
 ·intro m ρ w ih h
  obtain ⟨x4,e4,h⟩:=onA_of h
  obtain ⟨x8,e8,h⟩:=onP_of h
  obtain ⟨a53,l53,c53,e53,h⟩:=onL_of h
  obtain ⟨x54,e54,h⟩:=onI_of h
  obtain ⟨x55,e55,h⟩:=onI_of h
  obtain ⟨hv,hm⟩:=h
  subst hm
  have hh:=hb x4 x8 a53 l53 c53 x54 x55 w hv
  obtain ⟨C0,hC⟩:∃ C,C=fun x4' x8' a53' l53' c53' x54' x55' w'=>Inv x4' x8' a53' l53' c53' x54' x55' w'∧μ x4' x8' a53' l53' c53' x54' x55' w'<μ x4 x8 a53 l53 c53 x54 x55 w:=⟨_,rfl⟩
  rw [← hC] at hh
  have h0:∀ ρ w,(L101b_0 C0) ρ w→T101b l R q101b_0 ρ w:=by
   intro ρ' w' h'
   refine ih ρ' w' ?_
   obtain ⟨x4',e4',h'⟩:=onA_of h'
   obtain ⟨x8',e8',h'⟩:=onP_of h'
   obtain ⟨a53',l53',c53',e53',h'⟩:=onL_of h'
   obtain ⟨x54',e54',h'⟩:=onI_of h'
   obtain ⟨x55',e55',h'⟩:=onI_of h'
   rw [hC] at h'
   refine ⟨_,h'.2,?_⟩
   simp only [e4',e8',e53',e54',e55',L101b_0,ons]
   exact ⟨h'.1,by trivial⟩
  rw [← upds_same (ρ:=ρ) [(4,.pointer (some x4)),(8,.pointer x8),(53,.slice a53 l53 c53),(54,.int .i64 x54),(55,.int .i64 x55)] (alc e4 (alc e8 (alc e53 (alc e54 (alc e55 aln)))))]
  exact sg (cuts:=[(q101b_0,L101b_0 C0)]) ⟨h0,trivial⟩ hh (hnd:=.inr (by kernel_rfl))
 ·simp only [e4,e8,e53,e54,e55,L101b_0,ons]
  exact ⟨hi,by trivial⟩
theorem t101b {l:Nat} (R:Ko):∀ ρ w,(fun ρ w=>onA (ρ 1) fun x1=>onA (ρ 4) fun x4=>onI (ρ 7) fun x7=>F101b R x1 x4 x7 w) ρ w→TW ⟨[],some l⟩ Tryz.prog 78 (segTodo b101b []) (QN R) ρ w:=by
 intro ρ w h
 obtain ⟨x1,e1,h⟩:=onA_of h
 obtain ⟨x4,e4,h⟩:=onA_of h
 obtain ⟨x7,e7,h⟩:=onI_of h
 rw [← upds_same (ρ:=ρ) [(1,.pointer (some x1)),(4,.pointer (some x4)),(7,.int .i64 x7)] (alc e1 (alc e4 (alc e7 aln)))]
 exact sg (body:=b101b) (p:=[]) (cuts:=[(q101b_0,L101b_0 (F101b_0 R))]) ⟨s101b_0 R,trivial⟩ h (hnd:=.inr (by kernel_rfl))
variable {K:Ko} {w w':World}
def shut (D:Nat) (R:Ko) (v:Value) (w:World):Prop:=w.heap[D]?=some (.deferred (some []))∧R v (w.putObj D (.deferred none))
def M181 (R:Ko) (x3:Addr) (a11:Option Addr) (l11 c11:Nat) (v80:Value) (w:World):Prop :=
 ∃ p,v80=.func (.func 276) #[] #[Pt p 0]∧RfF Tryz.prog 276 #[Pt p 0] w (fun args w1 C=>∃ i x,args=#[I i,I x]∧F181b (fun _ w2=>C w2) x3 x w1) (fun w3=>F181_po (shut w.heap.size R) x3 a11 l11 c11 w3)
abbrev p181_:List Bool:=[false,true,false,true,true,false,true,false,true,true,true,true,true]
theorem hM181 (R:Ko):∀ ρ w,(fun ρ w=>onA (ρ 3) fun x3=>onL (ρ 11) fun a11 l11 c11=>M181 R x3 a11 l11 c11 (ρ 80) w) ρ w→TW z0 Tryz.prog 126 (segTodo b181 p181_) (QR Tryz.prog [] R) ρ w:=by
 intro ρ w h
 obtain ⟨x3,e3,h⟩:=onA_of h
 obtain ⟨a,l,c,e11,p,e80,h⟩:=onL_of h
 refine rf_gen (B:=b181) (p:=p181_) (g:=.tmp 80) (ps:=#[81,82]) (assign:=rfAsg (codeAt b181 p181_)) (bd:=b181b) (by kernel_rfl) (show ρ 80=_ from e80) (goB_go 276 (by kernel_rfl)) (fun y args w1 C hb=>?_) (fun w3 h3=>?_) h
 ·obtain ⟨i,x,rfl,hF⟩:=hb
  have ez:((#[81,82]:Array Nat).zip #[I i,I x]).toList=[(81,I i),(82,I x)]:=by simp
  rw [ez]
  refine ⟨by rfl,rfl,upd (parE [(81,I i),(82,I x)] ρ) 15 (I x),fun Qa w0 hq=>?_,?_⟩
  ·have:=seg (z:=⟨[],some y⟩) (P:=Tryz.prog) (n:=126) (td:=tdB) (Q:=Qa) (cuts:=[]) (body:=rfAsg (codeAt b181 p181_)) (p:=[]) (ρ:=parE [(81,I i),(82,I x)] ρ) (w:=w0) goB_go mixedB (f:=100) trivial (F:=Qa .normal (upd (parE [(81,I i),(82,I x)] ρ) 15 (I x)) w0) (by kernel_rfl) hq (.inr (by kernel_rfl))
   have e:segTodo (rfAsg (codeAt b181 p181_)) []=[.c [] (rfAsg (codeAt b181 p181_))]:=by kernel_rfl
   rw [e] at this
   exact this
  ·have:=t181b (l:=y) (fun _ w2=>C w2) (upd (parE [(81,I i),(82,I x)] ρ) 15 (I x)) w1 (by
    show onA (ρ 3) _
    rw [e3]
    exact hF)
   have e:segTodo b181b []=[.c [] b181b]:=by kernel_rfl
   rw [e] at this
   exact this
 ·have:=p181 (z:=⟨[Sy.mark w.heap.size],none⟩) rfl (shut w.heap.size R) ρ w3 (by
   show onA (ρ 3) _
   rw [e3]
   show onL (ρ 11) _
   rw [e11]
   exact h3)
  refine this.mono fun e ρ2 w4 hq=>?_
  cases e <;> first | exact hq.elim | exact ⟨_,shed_one hq.1 rfl,hq.2⟩
def M101 (R:Ko) (x1 x4:Addr) (v32:Value) (w:World):Prop :=
 ∃ p,v32=.func (.func 276) #[] #[Pt p 0]∧RfF Tryz.prog 276 #[Pt p 0] w (fun args w1 C=>∃ i x,args=#[I i,I x]∧F101b (fun _ w2=>C w2) x1 x4 x w1) (fun w3=>F101_po (shut w.heap.size R) x1 x4 w3)
abbrev p101_:List Bool:=[false,true,false,true,true,true,true,true]
theorem hM101 (R:Ko):∀ ρ w,(fun ρ w=>onA (ρ 1) fun x1=>onA (ρ 4) fun x4=>M101 R x1 x4 (ρ 32) w) ρ w→TW z0 Tryz.prog 78 (segTodo b101 p101_) (QR Tryz.prog [.tmp 2,.tmp 3] R) ρ w:=by
 intro ρ w h
 obtain ⟨x1,e1,h⟩:=onA_of h
 obtain ⟨x4,e4,p,e32,h⟩:=onA_of h
 refine rf_gen (B:=b101) (p:=p101_) (g:=.tmp 32) (ps:=#[33,34]) (assign:=rfAsg (codeAt b101 p101_)) (bd:=b101b) (by kernel_rfl) (show ρ 32=_ from e32) (goB_go 276 (by kernel_rfl)) (fun y args w1 C hb=>?_) (fun w3 h3=>?_) h
 ·obtain ⟨i,x,rfl,hF⟩:=hb
  have ez:((#[33,34]:Array Nat).zip #[I i,I x]).toList=[(33,I i),(34,I x)]:=by simp
  rw [ez]
  refine ⟨by rfl,rfl,upd (parE [(33,I i),(34,I x)] ρ) 7 (I x),fun Qa w0 hq=>?_,?_⟩
  ·have:=seg (z:=⟨[],some y⟩) (P:=Tryz.prog) (n:=78) (td:=tdB) (Q:=Qa) (cuts:=[]) (body:=rfAsg (codeAt b101 p101_)) (p:=[]) (ρ:=parE [(33,I i),(34,I x)] ρ) (w:=w0) goB_go mixedB (f:=100) trivial (F:=Qa .normal (upd (parE [(33,I i),(34,I x)] ρ) 7 (I x)) w0) (by kernel_rfl) hq (.inr (by kernel_rfl))
   have e:segTodo (rfAsg (codeAt b101 p101_)) []=[.c [] (rfAsg (codeAt b101 p101_))]:=by kernel_rfl
   rw [e] at this
   exact this
  ·have:=t101b (l:=y) (fun _ w2=>C w2) (upd (parE [(33,I i),(34,I x)] ρ) 7 (I x)) w1 (by
    show onA (ρ 1) _
    rw [e1]
    show onA (ρ 4) _
    rw [e4]
    exact hF)
   have e:segTodo b101b []=[.c [] b101b]:=by kernel_rfl
   rw [e] at this
   exact this
 ·have:=p101 (z:=⟨[Sy.mark w.heap.size],none⟩) rfl (shut w.heap.size R) ρ w3 (by
   show onA (ρ 1) _
   rw [e1]
   show onA (ρ 4) _
   rw [e4]
   exact h3)
  refine this.mono fun e ρ2 w4 hq=>?_
  cases e <;> first | exact hq.elim | exact ⟨_,shed_one hq.1 rfl,hq.2⟩
end
end Go.Proofs.YtbgbidpecmepmaaGreatDoor
