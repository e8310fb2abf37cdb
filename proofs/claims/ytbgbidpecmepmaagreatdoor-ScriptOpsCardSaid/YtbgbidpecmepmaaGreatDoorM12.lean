/-
  The kernel's nodes: found, told by their parents; Rows of handles turned about; the way up from a node; The kernel: is a node to go; what is kept below; A kernel in memory; Faults: an error wrapped; errors.As at a number as its target: Go's own text walked, at a number, at a fault that wraps one; errors.As at a number as its target: of a number; errors.As at a number as its target: of a fault that wraps a number; Why: the number of an error.
-/
import Derived.Test.YtbgbidpecmepmaaGreatDoorM11
import Derived.WalkKit
import Derived.LaidEql
import Derived.Stop.Asserts
import Derived.RowKitTokens
import Derived.Test.YtbgbidpecmepmaaGreatDoorM4
set_option maxRecDepth 100000
namespace Go.Proofs.YtbgbidpecmepmaaGreatDoor
section
open Sy
def F130 (R:Ko) (x0:Option Addr) (x1:Int) (w:World):Prop:=Ifm x0.isNone (R (.tuple #[.pointer none,.iface 129 (.int .i64 20)]) w) (onSome x0 fun x10=>Lc (x10.add 0) w fun v12=>onP v12 fun x12=>Ct Tryz.prog 180 #[.pointer x12,.int .i64 x1] w fun v14 w1=>on2 v14 fun y14_0 y14_1=>onP y14_0 fun x14_0=>R (.tuple #[.pointer x14_0,y14_1]) w1)
noncomputable def b130:Code:=Tryz.f130.body.getD .skip
theorem c130 {R:Ko} {x0:Option Addr} {x1:Int} {w:World} (h:F130 R x0 x1 w):Ct Tryz.prog 130 #[.pointer x0,.int .i64 x1] w R :=
 ctS (args:=[.pointer x0,.int .i64 x1]) (body:=b130) (n:=17) (rs:=[.tmp 4,.tmp 5]) Tryz.func130
  (sg (cuts:=[]) trivial h)
def F145_0B (R:Ko) (C0:Option Addr→Int→Option Addr→Nat→Nat→Option Addr→Nat→Nat→Int→Int→World→Prop) (x0:Option Addr) (x1:Int) (a5:Option Addr) (l5 c5:Nat) (a14:Option Addr) (l14 c14:Nat) (x15:Int) (x16:Int) (w:World):Prop:=Ifm (decide ((x16:Int)<x15)) (Ix a14 l14 x16 1 fun x18=>Lc x18 w fun v19=>onI v19 fun x19=>onSome x0 fun x22=>Lc (x22.add 0) w fun v24=>onP v24 fun x24=>Ct Tryz.prog 180 #[.pointer x24,.int .i64 x19] w fun v26 w2=>on2 v26 fun y26_0 y26_1=>onP y26_0 fun x26_0=>onSome x26_0 fun x30=>Lc (x30.add 0) w2 fun v32=>onI v32 fun x32=>Ifm ((x32:Int) == x1) (Rv Tryz.prog (Instr.buildSlice 42 1 #[(0,.int .i64 x19)]) w2 fun v37 w3=>onL v37 fun a37 l37 c37=>Rv Tryz.prog (Builtin.append_ #[42,42] 42 #[.slice a5 l5 c5,.slice a37 l37 c37]) w3 fun v38 w4=>onL v38 fun a38 l38 c38=>C0 x0 x1 a38 l38 c38 a14 l14 c14 x15 (IntKind.i64.wrap (x16+1)) w4) (C0 x0 x1 a5 l5 c5 a14 l14 c14 x15 (IntKind.i64.wrap (x16+1)) w2)) (R (.slice a5 l5 c5) w)
def F145_0 (R:Ko) (x0:Option Addr) (x1:Int) (a5:Option Addr) (l5 c5:Nat) (a14:Option Addr) (l14 c14:Nat) (x15:Int) (x16:Int) (w:World):Prop:=∃ (Inv:Option Addr→Int→Option Addr→Nat→Nat→Option Addr→Nat→Nat→Int→Int→World→Prop) (μ:Option Addr→Int→Option Addr→Nat→Nat→Option Addr→Nat→Nat→Int→Int→World→Nat),Inv x0 x1 a5 l5 c5 a14 l14 c14 x15 x16 w∧∀ x0 x1 a5 l5 c5 a14 l14 c14 x15 x16 w,Inv x0 x1 a5 l5 c5 a14 l14 c14 x15 x16 w→F145_0B R (fun x0' x1' a5' l5' c5' a14' l14' c14' x15' x16' w'=>Inv x0' x1' a5' l5' c5' a14' l14' c14' x15' x16' w'∧μ x0' x1' a5' l5' c5' a14' l14' c14' x15' x16' w'<μ x0 x1 a5 l5 c5 a14 l14 c14 x15 x16 w) x0 x1 a5 l5 c5 a14 l14 c14 x15 x16 w
def F145 (R:Ko) (x0:Option Addr) (x1:Int) (w:World):Prop:=onSome x0 fun x11=>Lc (x11.add 0) w fun v13=>onP v13 fun x13=>Ct Tryz.prog 222 #[.pointer x13] w fun v14 w1=>onL v14 fun a14 l14 c14=>F145_0 R x0 x1 none 0 0 a14 l14 c14 (l14:Nat) 0 w1
noncomputable def b145:Code:=Tryz.f145.body.getD .skip
def q145_0:List Bool:=[false,true,false,true,true]
def L145_0 (F:Option Addr→Int→Option Addr→Nat→Nat→Option Addr→Nat→Nat→Int→Int→World→Prop):Env→World→Prop:=fun ρ w=>onP (ρ 0) fun x0=>onI (ρ 1) fun x1=>onL (ρ 5) fun a5 l5 c5=>onL (ρ 14) fun a14 l14 c14=>onI (ρ 15) fun x15=>onI (ρ 16) fun x16=>F x0 x1 a5 l5 c5 a14 l14 c14 x15 x16 w
abbrev T145 (z:Fr) (R:Ko) (p:List Bool) (ρ:Env) (w:World):Prop:=TW z Tryz.prog 41 (segTodo b145 p) (QR Tryz.prog [.tmp 4] R) ρ w
theorem s145_0 (R:Ko):∀ ρ w,(L145_0 (F145_0 R)) ρ w→T145 z0 R q145_0 ρ w:=by
 intro ρ w h
 obtain ⟨x0,e0,h⟩:=onP_of h
 obtain ⟨x1,e1,h⟩:=onI_of h
 obtain ⟨a5,l5,c5,e5,h⟩:=onL_of h
 obtain ⟨a14,l14,c14,e14,h⟩:=onL_of h
 obtain ⟨x15,e15,h⟩:=onI_of h
 obtain ⟨x16,e16,h⟩:=onI_of h
 obtain ⟨Inv,μ,hi,hb⟩:=h
 refine lpT (fun m=>L145_0 (fun x0 x1 a5 l5 c5 a14 l14 c14 x15 x16 w=>Inv x0 x1 a5 l5 c5 a14 l14 c14 x15 x16 w∧μ x0 x1 a5 l5 c5 a14 l14 c14 x15 x16 w=m)) ?_ (μ x0 x1 a5 l5 c5 a14 l14 c14 x15 x16 w) ρ w ?_
 ·intro m ρ w ih h
  obtain ⟨x0,e0,h⟩:=onP_of h
  obtain ⟨x1,e1,h⟩:=onI_of h
  obtain ⟨a5,l5,c5,e5,h⟩:=onL_of h
  obtain ⟨a14,l14,c14,e14,h⟩:=onL_of h
  obtain ⟨x15,e15,h⟩:=onI_of h
  obtain ⟨x16,e16,h⟩:=onI_of h
  obtain ⟨hv,hm⟩:=h
  subst hm
  have hh:=hb x0 x1 a5 l5 c5 a14 l14 c14 x15 x16 w hv
  obtain ⟨C0,hC⟩:∃ C,C=fun x0' x1' a5' l5' c5' a14' l14' c14' x15' x16' w'=>Inv x0' x1' a5' l5' c5' a14' l14' c14' x15' x16' w'∧μ x0' x1' a5' l5' c5' a14' l14' c14' x15' x16' w'<μ x0 x1 a5 l5 c5 a14 l14 c14 x15 x16 w:=⟨_,rfl⟩
  rw [← hC] at hh
  have h0:∀ ρ w,(L145_0 C0) ρ w→T145 z0 R q145_0 ρ w:=by
   intro ρ' w' h'
   refine ih ρ' w' ?_
   obtain ⟨x0',e0',h'⟩:=onP_of h'
   obtain ⟨x1',e1',h'⟩:=onI_of h'
   obtain ⟨a5',l5',c5',e5',h'⟩:=onL_of h'
   obtain ⟨a14',l14',c14',e14',h'⟩:=onL_of h'
   obtain ⟨x15',e15',h'⟩:=onI_of h'
   obtain ⟨x16',e16',h'⟩:=onI_of h'
   rw [hC] at h'
   refine ⟨_,h'.2,?_⟩
   simp only [e0',e1',e5',e14',e15',e16',L145_0,ons]
   exact ⟨h'.1,by trivial⟩
  rw [← upds_same (ρ:=ρ) [(0,.pointer x0),(1,.int .i64 x1),(5,.slice a5 l5 c5),(14,.slice a14 l14 c14),(15,.int .i64 x15),(16,.int .i64 x16)] (alc e0 (alc e1 (alc e5 (alc e14 (alc e15 (alc e16 aln))))))]
  exact sg (cuts:=[(q145_0,L145_0 C0)]) ⟨h0,trivial⟩ hh
 ·simp only [e0,e1,e5,e14,e15,e16,L145_0,ons]
  exact ⟨hi,by trivial⟩
theorem c145 {R:Ko} {x0:Option Addr} {x1:Int} {w:World} (h:F145 R x0 x1 w):Ct Tryz.prog 145 #[.pointer x0,.int .i64 x1] w R :=
 ctS (args:=[.pointer x0,.int .i64 x1]) (body:=b145) (n:=41) (rs:=[.tmp 4]) Tryz.func145
  (sg (cuts:=[(q145_0,L145_0 (F145_0 R))]) ⟨s145_0 R,trivial⟩ h)
variable {K:Ko} {w w':World}
structure Nd where
 par:Int
 bg:Bg
 clk:Int
 leaf:Slots Tk
def ndC (n:Nd) (l:Nat):List Value:=I n.par :: (n.bg.cells++[I n.clk,Pt l 0])
abbrev Nds:=Nat→Int × Option Nd
def nv (nb:Nat→Nat) (N:Nds) (i:Nat):Int × Option (Option Addr):=((N i).1,(N i).2.map fun _=>some ⟨nb i,0,none⟩)
structure NT (w:World) (k t L:Nat) (nb lf:Nat→Nat) (N:Nds):Prop where
 kt:∃ rest,Bk w k (Pt t 0 :: rest) 128
 tab:Tab w 199 201 3 64 1 t L (fun i=>slotC ptC [.pointer none] (nv nb N i))
 nd:∀ i n,(N i).2=some n→i<64∧Bk w (nb i) (ndC n (lf i)) 122
 gen:∀ i,(N i).2.isSome=true→1≤(N i).1∧(N i).1≤1023
section
variable {k t L:Nat} {nb lf:Nat→Nat} {N:Nds}
theorem NT.no (h:NT w k t L nb lf N) (kp:Kp No w w'):NT w' k t L nb lf N:=by
 obtain ⟨r,hr⟩:=h.kt
 exact ⟨⟨r,kp.bk hr id⟩,h.tab.kp kp id id,fun i n hn=>⟨(h.nd i n hn).1,kp.bk (h.nd i n hn).2 id⟩,h.gen⟩
theorem NT.al (nb:Nat→Nat) (N:Nds):∀ i,(nv nb N i).1=(N i).1∧(nv nb N i).2.isSome=(N i).2.isSome:=fun i=>⟨rfl,by unfold nv; cases (N i).2 <;> rfl⟩
def getN (N:Nds) (h:Int):Option (Nat × Nd):=match findS N 1 64 h with
 | none=>none
 | some i=>(N i).2.map fun n=>(i,n)
theorem getN_some {h:Int} {i:Nat} {n:Nd} (e:getN N h=some (i,n)):findS N 1 64 h=some i∧(N i).2=some n:=by
 unfold getN at e
 split at e
 ·cases e
 ·rename_i j hj
  cases hs:(N j).2 with
  | none=>rw [hs] at e; cases e
  | some t'=>rw [hs] at e; simp only [Option.map_some,Option.some.injEq,Prod.mk.injEq] at e; obtain ⟨rfl,rfl⟩:=e; exact ⟨hj,hs⟩
theorem n_get {h:Int} (hN:NT w k t L nb lf N) (hK:match getN N h with
  | none=>∀ d,K (.tuple #[.pointer none,Er 20]) (dr w d)
  | some (i,_)=>∀ d,K (.tuple #[Pt (nb i) 0,.nilIface]) (dr w d)):Ct Tryz.prog 180 #[Pt t 0,I h] w K:=by
 have hc:=findS_congr (NT.al nb N) 1 64 h
 refine k180 hN.tab (fun e d=>?_) fun i p hi e hp d=>?_
 ·rw [hc] at e
  unfold getN at hK
  rw [e] at hK
  exact hK d
 ·rw [hc] at e
  obtain ⟨n,hn⟩:=findS_some e
  have:getN N h=some (i,n):=by simp [getN,e,hn]
  rw [this] at hK
  unfold nv at hp
  rw [hn] at hp
  injection hp with hp
  subst hp
  exact hK d
theorem k130 {h:Int} (hN:NT w k t L nb lf N) (hK:match getN N h with
  | none=>∀ d,K (.tuple #[.pointer none,Er 20]) (dr w d)
  | some (i,_)=>∀ d,K (.tuple #[Pt (nb i) 0,.nilIface]) (dr w d)):Ct Tryz.prog 130 #[Pt k 0,I h] w K:=by
 refine c130 ?_
 unfold F130
 obtain ⟨r,hr⟩:=id hN.kt
 simp only [SS,hr.rd (o:=0) (v:=Pt t 0) rfl]
 refine n_get hN ?_
 cases e:getN N h with
 | none=>rw [e] at hK; intro d; simp only [SS]; exact hK d
 | some x=>rw [e] at hK; intro d; simp only [SS]; exact hK d
theorem all_mem {α:Type} {S:Slots α} {kind:Int} {n:Nat} {x:Int} (h:x∈allS S kind n):∃ i,i<n∧(S i).2.isSome=true∧x=nameS kind i (S i).1:=by
 unfold allS at h
 rw [List.mem_filterMap] at h
 obtain ⟨i,hi,h⟩:=h
 split at h
 ·rename_i hs
  injection h with h
  exact ⟨i,by simpa using hi,hs,h.symm⟩
 ·cases h
theorem n_all (hN:NT w k t L nb lf N) {x:Int} (h:x∈allS N 1 64):∃ i n,getN N x=some (i,n):=by
 obtain ⟨i,hi,hs,rfl⟩:=all_mem h
 obtain ⟨h1,h2⟩:=hN.gen i hs
 obtain ⟨n,hn⟩:=Option.isSome_iff_exists.1 hs
 have hok:okH 1 i (N i).1=true:=by unfold okH; simp; omega
 exact ⟨i,n,by simp [getN,find_name hok hi hs,hn]⟩
def kidB (N:Nds) (h x:Int):Bool:=match getN N x with
 | some (_,n)=>decide (n.par=h)
 | none=>false
def kidsN (N:Nds) (h:Int):List Int:=(allS N 1 64).filter (kidB N h)
theorem kids_len (N:Nds) (h:Int):(kidsN N h).length≤64:=Nat.le_trans (List.length_filter_le _ _) (allS_len _ _ _)
theorem k145 {h:Int} (hN:NT w k t L nb lf N) (hK:∀ a l c w',Kp No w w'→w'.ownsRow w.heap.size 33 1 (.slice a l c) (kidsN N h).length ((kidsN N h).map I)→K (.slice a l c) w'):Ct Tryz.prog 145 #[Pt k 0,I h] w K:=by
 refine c145 ?_
 unfold F145
 obtain ⟨r,hr⟩:=id hN.kt
 simp only [SS,hr.rd (o:=0) (v:=Pt t 0) rfl]
 have hc:=allS_congr (NT.al nb N) 1 64
 refine k222 hN.tab (by decide) fun a0 l0 c0 w1 k1 ho1=>?_
 rw [hc] at ho1
 simp only [SS]
 have hlen:=allS_len N 1 64
 have hl0:=own_len ho1
 obtain ⟨i42,z42,E42⟩:=e42
 unfold F145_0
 refine ⟨fun x0 x1 a5 l5 c5 a14 l14 c14 x15 x16 w'=>x0=some ⟨k,0,none⟩∧h=x1∧a0=a14∧l0=l14∧c0=c14∧x15=l0∧Kp No w1 w'∧∃ i:Nat,x16=i∧i≤(allS N 1 64).length∧w'.ownsRow w1.heap.size 33 1 (.slice a5 l5 c5) (((allS N 1 64).take i).filter (kidB N h)).length ((((allS N 1 64).take i).filter (kidB N h)).map I),
  fun _ _ _ _ _ _ _ _ _ x16 _=>(allS N 1 64).length - x16.toNat,⟨rfl,rfl,rfl,rfl,rfl,rfl,Kp.refl _ _,0,rfl,Nat.zero_le _,World.ownsRow_nil _ _ _ _⟩,?_⟩
 rintro _ _ a5 l5 c5 _ _ _ _ _ w2 ⟨rfl,rfl,rfl,rfl,rfl,rfl,k2,i,rfl,hi,ho⟩
 have k02:=k1.trans k2
 unfold F145_0B
 simp only [SS]
 by_cases e1:i<l0
 case neg =>
  rw [if_neg (by omega)]
  rw [List.take_of_length_le (by omega)] at ho
  exact hK _ _ _ w2 k02 (own_base ho k1.size)
 rw [if_pos (by omega)]
 have hi':i<(allS N 1 64).length:=by omega
 have ho2:=own_kp ho1 k2 fun _ _=>id
 obtain ⟨g,rfl,_,hlc⟩:=hd_lc ho2 hi'
 have hN2:=hN.no k02
 obtain ⟨r2,hr2⟩:=id hN2.kt
 simp only [SS,Ix_c e1,hlc,hr2.rd (o:=0) (v:=Pt t 0) rfl]
 obtain ⟨x,hx⟩:∃ y,y=(allS N 1 64)[i]:=⟨_,rfl⟩
 rw [← hx]
 obtain ⟨j,n,hg⟩:=n_all hN (x:=x) (by rw [hx]; exact List.getElem_mem _)
 have htake:(allS N 1 64).take (i+1)=(allS N 1 64).take i++[x]:=by rw [hx]; exact List.take_succ_eq_append_getElem hi'
 refine n_get hN2 ?_
 rw [hg]
 intro d
 have hnb:=(hN2.nd j n (getN_some hg).2).2
 simp only [SS,hnb.rd (o:=0) (v:=I n.par) rfl]
 have hkb:kidB N h x=decide (n.par=h):=by unfold kidB; rw [hg]
 have hfl:((allS N 1 64).take i).length≤64:=by simp; omega
 have hfl2:=List.length_filter_le (kidB N h) ((allS N 1 64).take i)
 by_cases e2:n.par=h
 ·rw [if_pos e2]
  refine app1 E42 (own_dr (d:=d) ho) (by have:=k2.size; exact this) (by omega) rfl (by simp [Value.cells,Value.oneCell']) fun g' c' w3 hg' ho3 hk3=>?_
  have k13:Kp No w1 w3:=(k2.drR d).step hk3 fun b hb hs=>by have:=(own_lt ho hs).1; omega
  rw [cast_succ _ (by omega)]
  refine ⟨⟨k13,i+1,rfl,by omega,?_⟩,by simp; omega⟩
  ·rw [htake,List.filter_append,List.filter_cons_of_pos (by rw [hkb]; simpa using e2),List.filter_nil,List.length_append,List.map_append]
   exact ho3
 ·rw [if_neg e2,cast_succ _ (by omega)]
  refine ⟨⟨k2.drR d,i+1,rfl,by omega,?_⟩,by simp; omega⟩
  rw [htake,List.filter_append,List.filter_cons_of_neg (by rw [hkb]; simpa using e2),List.filter_nil,List.append_nil]
  exact ho
end
end
section
open Sy
def F299_0B (R:Ko) (C0:Option Addr→Nat→Nat→Int→Int→World→Prop) (a0:Option Addr) (l0 c0:Nat) (x2:Int) (x3:Int) (w:World):Prop:=Ifm (decide ((x2:Int)<x3)) (Ix a0 l0 x3 1 fun x20=>Lc x20 w.drew fun v21=>onI v21 fun x21=>Ix a0 l0 x2 1 fun x24=>Lc x24 w.drew fun v25=>onI v25 fun x25=>Ix a0 l0 x2 1 fun x26=>Sc x26 (.int .i64 x21) w.drew fun w1=>Ix a0 l0 x3 1 fun x27=>Sc x27 (.int .i64 x25) w1 fun w2=>C0 a0 l0 c0 (IntKind.i64.wrap (x2+1)) (IntKind.i64.wrap (x3 - 1)) w2) (R (.tuple #[]) w)
def F299_0 (R:Ko) (a0:Option Addr) (l0 c0:Nat) (x2:Int) (x3:Int) (w:World):Prop:=∃ (Inv:Option Addr→Nat→Nat→Int→Int→World→Prop) (μ:Option Addr→Nat→Nat→Int→Int→World→Nat),Inv a0 l0 c0 x2 x3 w∧∀ a0 l0 c0 x2 x3 w,Inv a0 l0 c0 x2 x3 w→F299_0B R (fun a0' l0' c0' x2' x3' w'=>Inv a0' l0' c0' x2' x3' w'∧μ a0' l0' c0' x2' x3' w'<μ a0 l0 c0 x2 x3 w) a0 l0 c0 x2 x3 w
def F299 (R:Ko) (a0:Option Addr) (l0 c0:Nat) (w:World):Prop:=F299_0 R a0 l0 c0 0 (IntKind.i64.wrap ((l0:Nat) - 1)) w
noncomputable def b299:Code:=Tryz.f299.body.getD .skip
def q299_0:List Bool:=[false,true]
def L299_0 (F:Option Addr→Nat→Nat→Int→Int→World→Prop):Env→World→Prop:=fun ρ w=>onL (ρ 0) fun a0 l0 c0=>onI (ρ 2) fun x2=>onI (ρ 3) fun x3=>F a0 l0 c0 x2 x3 w
abbrev T299 (z:Fr) (R:Ko) (p:List Bool) (ρ:Env) (w:World):Prop:=TW z Tryz.prog 28 (segTodo b299 p) (QR Tryz.prog [] R) ρ w
theorem s299_0 (R:Ko):∀ ρ w,(L299_0 (F299_0 R)) ρ w→T299 z0 R q299_0 ρ w:=by
 intro ρ w h
 obtain ⟨a0,l0,c0,e0,h⟩:=onL_of h
 obtain ⟨x2,e2,h⟩:=onI_of h
 obtain ⟨x3,e3,h⟩:=onI_of h
 obtain ⟨Inv,μ,hi,hb⟩:=h
 refine lpT (fun m=>L299_0 (fun a0 l0 c0 x2 x3 w=>Inv a0 l0 c0 x2 x3 w∧μ a0 l0 c0 x2 x3 w=m)) ?_ (μ a0 l0 c0 x2 x3 w) ρ w ?_
 ·intro m ρ w ih h
  obtain ⟨a0,l0,c0,e0,h⟩:=onL_of h
  obtain ⟨x2,e2,h⟩:=onI_of h
  obtain ⟨x3,e3,h⟩:=onI_of h
  obtain ⟨hv,hm⟩:=h
  subst hm
  have hh:=hb a0 l0 c0 x2 x3 w hv
  obtain ⟨C0,hC⟩:∃ C,C=fun a0' l0' c0' x2' x3' w'=>Inv a0' l0' c0' x2' x3' w'∧μ a0' l0' c0' x2' x3' w'<μ a0 l0 c0 x2 x3 w:=⟨_,rfl⟩
  rw [← hC] at hh
  have h0:∀ ρ w,(L299_0 C0) ρ w→T299 z0 R q299_0 ρ w:=by
   intro ρ' w' h'
   refine ih ρ' w' ?_
   obtain ⟨a0',l0',c0',e0',h'⟩:=onL_of h'
   obtain ⟨x2',e2',h'⟩:=onI_of h'
   obtain ⟨x3',e3',h'⟩:=onI_of h'
   rw [hC] at h'
   refine ⟨_,h'.2,?_⟩
   simp only [e0',e2',e3',L299_0,ons]
   exact ⟨h'.1,by trivial⟩
  rw [← upds_same (ρ:=ρ) [(0,.slice a0 l0 c0),(2,.int .i64 x2),(3,.int .i64 x3)] (alc e0 (alc e2 (alc e3 aln)))]
  exact sg (cuts:=[(q299_0,L299_0 C0)]) ⟨h0,trivial⟩ hh
 ·simp only [e0,e2,e3,L299_0,ons]
  exact ⟨hi,by trivial⟩
theorem c299 {R:Ko} {a0:Option Addr} {l0 c0:Nat} {w:World} (h:F299 R a0 l0 c0 w):Ct Tryz.prog 299 #[.slice a0 l0 c0] w R :=
 ctS (args:=[.slice a0 l0 c0]) (body:=b299) (n:=28) (rs:=[]) Tryz.func299
  (sg (cuts:=[(q299_0,L299_0 (F299_0 R))]) ⟨s299_0 R,trivial⟩ h)
def F202_0B (R:Ko) (C0:Option Addr→Int→Option Addr→Nat→Nat→World→Prop) (x0:Option Addr) (x1:Int) (a5:Option Addr) (l5 c5:Nat) (w:World):Prop:=Ifm ((x1:Int) != 0) (Rv Tryz.prog (Instr.buildSlice 42 1 #[(0,.int .i64 x1)]) w fun v12 w1=>onL v12 fun a12 l12 c12=>Rv Tryz.prog (Builtin.append_ #[42,42] 42 #[.slice a5 l5 c5,.slice a12 l12 c12]) w1 fun v13 w2=>onL v13 fun a13 l13 c13=>onSome x0 fun x16=>Lc (x16.add 0) w2 fun v18=>onP v18 fun x18=>Ct Tryz.prog 180 #[.pointer x18,.int .i64 x1] w2 fun v20 w3=>on2 v20 fun y20_0 y20_1=>onP y20_0 fun x20_0=>onSome x20_0 fun x24=>Lc (x24.add 0) w3 fun v26=>onI v26 fun x26=>C0 x0 x26 a13 l13 c13 w3) (Ct Tryz.prog 299 #[.slice a5 l5 c5] w fun v28 w4=>R (.slice a5 l5 c5) w4)
def F202_0 (R:Ko) (x0:Option Addr) (x1:Int) (a5:Option Addr) (l5 c5:Nat) (w:World):Prop:=∃ (Inv:Option Addr→Int→Option Addr→Nat→Nat→World→Prop) (μ:Option Addr→Int→Option Addr→Nat→Nat→World→Nat),Inv x0 x1 a5 l5 c5 w∧∀ x0 x1 a5 l5 c5 w,Inv x0 x1 a5 l5 c5 w→F202_0B R (fun x0' x1' a5' l5' c5' w'=>Inv x0' x1' a5' l5' c5' w'∧μ x0' x1' a5' l5' c5' w'<μ x0 x1 a5 l5 c5 w) x0 x1 a5 l5 c5 w
def F202 (R:Ko) (x0:Option Addr) (x1:Int) (w:World):Prop:=F202_0 R x0 x1 none 0 0 w
noncomputable def b202:Code:=Tryz.f202.body.getD .skip
def q202_0:List Bool:=[false,false,true,true]
def L202_0 (F:Option Addr→Int→Option Addr→Nat→Nat→World→Prop):Env→World→Prop:=fun ρ w=>onP (ρ 0) fun x0=>onI (ρ 1) fun x1=>onL (ρ 5) fun a5 l5 c5=>F x0 x1 a5 l5 c5 w
abbrev T202 (z:Fr) (R:Ko) (p:List Bool) (ρ:Env) (w:World):Prop:=TW z Tryz.prog 30 (segTodo b202 p) (QR Tryz.prog [.tmp 4] R) ρ w
theorem s202_0 (R:Ko):∀ ρ w,(L202_0 (F202_0 R)) ρ w→T202 z0 R q202_0 ρ w:=by
 intro ρ w h
 obtain ⟨x0,e0,h⟩:=onP_of h
 obtain ⟨x1,e1,h⟩:=onI_of h
 obtain ⟨a5,l5,c5,e5,h⟩:=onL_of h
 obtain ⟨Inv,μ,hi,hb⟩:=h
 refine lpT (fun m=>L202_0 (fun x0 x1 a5 l5 c5 w=>Inv x0 x1 a5 l5 c5 w∧μ x0 x1 a5 l5 c5 w=m)) ?_ (μ x0 x1 a5 l5 c5 w) ρ w ?_
 ·intro m ρ w ih h
  obtain ⟨x0,e0,h⟩:=onP_of h
  obtain ⟨x1,e1,h⟩:=onI_of h
  obtain ⟨a5,l5,c5,e5,h⟩:=onL_of h
  obtain ⟨hv,hm⟩:=h
  subst hm
  have hh:=hb x0 x1 a5 l5 c5 w hv
  obtain ⟨C0,hC⟩:∃ C,C=fun x0' x1' a5' l5' c5' w'=>Inv x0' x1' a5' l5' c5' w'∧μ x0' x1' a5' l5' c5' w'<μ x0 x1 a5 l5 c5 w:=⟨_,rfl⟩
  rw [← hC] at hh
  have h0:∀ ρ w,(L202_0 C0) ρ w→T202 z0 R q202_0 ρ w:=by
   intro ρ' w' h'
   refine ih ρ' w' ?_
   obtain ⟨x0',e0',h'⟩:=onP_of h'
   obtain ⟨x1',e1',h'⟩:=onI_of h'
   obtain ⟨a5',l5',c5',e5',h'⟩:=onL_of h'
   rw [hC] at h'
   refine ⟨_,h'.2,?_⟩
   simp only [e0',e1',e5',L202_0,ons]
   exact ⟨h'.1,by trivial⟩
  rw [← upds_same (ρ:=ρ) [(0,.pointer x0),(1,.int .i64 x1),(5,.slice a5 l5 c5)] (alc e0 (alc e1 (alc e5 aln)))]
  exact sg (cuts:=[(q202_0,L202_0 C0)]) ⟨h0,trivial⟩ hh
 ·simp only [e0,e1,e5,L202_0,ons]
  exact ⟨hi,by trivial⟩
theorem c202 {R:Ko} {x0:Option Addr} {x1:Int} {w:World} (h:F202 R x0 x1 w):Ct Tryz.prog 202 #[.pointer x0,.int .i64 x1] w R :=
 ctS (args:=[.pointer x0,.int .i64 x1]) (body:=b202) (n:=30) (rs:=[.tmp 4]) Tryz.func202
  (sg (cuts:=[(q202_0,L202_0 (F202_0 R))]) ⟨s202_0 R,trivial⟩ h)
variable {K:Ko} {w w':World}
theorem own_sc {B e sz n c g j:Nat} {xs:List Value} {v:Value} {k:World→Prop} (h:w.ownsRow B e sz (.slice (some ⟨g,0,none⟩) n c) n xs) (hj:j<n*sz) (hv:oneCell v=true)
  (hk:∀ w',Kp (·=g) w w'→w'.ownsRow B e sz (.slice (some ⟨g,0,none⟩) n c) n (xs.set j v)→k w'):Sc ⟨g,j,none⟩ v w k:=by
 have h1:=h.cellAt j hj
 have hl:j<xs.length:=by rw [h.1]; exact hj
 rw [List.getElem?_eq_getElem hl] at h1
 rw [Sc_c h1 (h.frozenAt j) v hv]
 exact hk _ (Kp.set _ _ _ fun _=>rfl) (h.stored j v).1
def revd (hs:List Int) (i:Nat) (ys:List Int):Prop:=ys.length=hs.length∧∀ j,j<hs.length→ys[j]?=if j<i∨hs.length≤j+i then hs.reverse[j]? else hs[j]?
theorem k299 {B l c:Nat} {a:Option Addr} {hs:List Int} (hl:hs.length<1000000) (ho:w.ownsRow B 33 1 (.slice a l c) hs.length (hs.map I))
  (h:∀ w' v,Kp (fun b=>(Value.slice a l c).ownBlock=some b) w w'→w'.ownsRow B 33 1 (.slice a l c) hs.length (hs.reverse.map I)→K v w'):Ct Tryz.prog 299 #[.slice a l c] w K:=by
 refine c299 ?_
 unfold F299
 have hlen:=own_len ho
 have hw:IntKind.i64.wrap ((l:Int) - 1)=(l:Int) - 1:=by rw [IntKind.wrap_i64]; omega
 rw [hw]
 unfold F299_0
 refine ⟨fun a0 l0 c0 x2 x3 w'=>a=a0∧l=l0∧c=c0∧Kp (fun b=>(Value.slice a l c).ownBlock=some b) w w'∧∃ (i:Nat) (ys:List Int),x2=i∧x3=(l:Int) - 1 - i∧2*i≤hs.length+1∧revd hs i ys∧w'.ownsRow B 33 1 (.slice a l c) hs.length (ys.map I),
  fun _ _ _ x2 _ _=>hs.length - x2.toNat,⟨rfl,rfl,rfl,Kp.refl _ _,0,hs,rfl,by simp,by omega,⟨rfl,fun j hj=>by rw [if_neg (by omega)]⟩,ho⟩,?_⟩
 rintro _ _ _ _ _ w1 ⟨rfl,rfl,rfl,k1,i,ys,rfl,rfl,hi,hr,ho1⟩
 unfold F299_0B
 simp only [SS]
 by_cases e1:(i:Int)<(l:Int) - 1 - i
 case neg =>
  rw [if_neg e1]
  have:ys=hs.reverse:=by
   apply List.ext_getElem?
   intro j
   rcases Nat.lt_or_ge j hs.length with hj | hj
   ·rw [hr.2 j hj]
    by_cases e2:j<i∨hs.length≤j+i
    ·rw [if_pos e2]
    ·rw [if_neg e2,List.getElem?_reverse hj]
     congr 1; omega
   ·rw [List.getElem?_eq_none (by rw [hr.1]; exact hj),List.getElem?_eq_none (by simpa using hj)]
  rw [this] at ho1
  exact h w1 _ k1 ho1
 rw [if_pos e1]
 obtain ⟨j,hj⟩:∃ j:Nat,(l:Int) - 1 - i=j:=⟨((l:Int) - 1 - i).toNat,by omega⟩
 rw [hj]
 have hin:i<hs.length:=by omega
 have hjn:j<hs.length:=by omega
 have hiy:i<ys.length:=by rw [hr.1]; exact hin
 have hjy:j<ys.length:=by rw [hr.1]; exact hjn
 rcases own_bk ho1 with ⟨_,h1,_,h2,_⟩ | ⟨g,cur,rfl,_⟩
 ·omega
 subst hlen
 have lj:=own_lc ho1 (o:=j*1) (v:=I ys[j]) (by omega) (by simp [hjy])
 have li:=own_lc ho1 (o:=i*1) (v:=I ys[i]) (by omega) (by simp [hiy])
 simp only [SS,Ix_c hjn,Ix_c hin,lj,li]
 refine own_sc ho1 (by omega) rfl fun w2 k2 ho2=>?_
 refine own_sc ho2 (by omega) rfl fun w3 k3 ho3=>?_
 have hi1:IntKind.i64.wrap ((i:Int)+1)=((i+1:Nat):Int):=cast_succ _ (by omega)
 have hj1:IntKind.i64.wrap ((j:Int) - 1)=(j:Int) - 1:=by rw [IntKind.wrap_i64]; omega
 rw [hi1,hj1]
 refine ⟨⟨((k1.trans (k2.mono fun b _ e=>by rw [e]; rfl)).trans (k3.mono fun b _ e=>by rw [e]; rfl)).drR _,i+1,(ys.set i ys[j]).set j ys[i],rfl,by omega,by omega,⟨by simp [hr.1],fun q hq=>?_⟩,?_⟩,by simp; omega⟩
 ·have ri:=hr.2 i hin
  have rj:=hr.2 j hjn
  rw [if_neg (by omega),List.getElem?_eq_getElem hiy] at ri
  rw [if_neg (by omega),List.getElem?_eq_getElem hjy] at rj
  rw [List.getElem?_set,List.getElem?_set,List.length_set]
  by_cases e2:j=q
  ·subst e2
   rw [if_pos rfl,if_pos hjy,if_pos (by omega),List.getElem?_reverse hjn,ri]
   congr 1; omega
  ·rw [if_neg e2]
   by_cases e3:i=q
   ·subst e3
    rw [if_pos rfl,if_pos hiy,if_pos (by omega),List.getElem?_reverse hin,rj]
    congr 1; omega
   ·rw [if_neg e3,hr.2 q hq]
    by_cases e4:q<i∨hs.length≤q+i
    ·rw [if_pos e4,if_pos (by omega)]
    ·rw [if_neg e4,if_neg (by omega)]
 ·rw [List.map_set,List.map_set]
  exact own_dr (by simpa using ho3)
inductive Up (N:Nds):Int→List Int→Prop where
 | top:Up N 0 []
 | step {h:Int} {i:Nat} {n:Nd} {l:List Int}:h≠0→getN N h=some (i,n)→Up N n.par l→Up N h (h :: l)
theorem k202 {k t L:Nat} {nb lf:Nat→Nat} {N:Nds} {h:Int} {l:List Int} (hN:NT w k t L nb lf N) (hU:Up N h l) (h64:l.length≤64)
  (hK:∀ a m c w',Kp No w w'→w'.ownsRow w.heap.size 33 1 (.slice a m c) l.reverse.length (l.reverse.map I)→K (.slice a m c) w'):Ct Tryz.prog 202 #[Pt k 0,I h] w K:=by
 refine c202 ?_
 unfold F202
 obtain ⟨i42,z42,E42⟩:=e42
 unfold F202_0
 refine ⟨fun x0 x1 a5 l5 c5 w'=>x0=some ⟨k,0,none⟩∧Kp No w w'∧∃ done rest,l=done++rest∧Up N x1 rest∧l5=done.length∧w'.ownsRow w.heap.size 33 1 (.slice a5 l5 c5) done.length (done.map I),fun _ _ _ l5 _ _=>l.length - l5,
  ⟨rfl,Kp.refl _ _,[],l,rfl,hU,rfl,World.ownsRow_nil _ _ _ _⟩,?_⟩
 rintro _ x1 a5 _ c5 w1 ⟨rfl,k1,done,rest,hl,hU1,rfl,ho⟩
 unfold F202_0B
 cases hU1 with
 | top =>
  simp only [SS]
  have hd:l=done:=by rw [hl,List.append_nil]
  subst hd
  refine k299 (by omega) ho fun w2 v k2 ho2=>?_
  refine hK _ _ _ w2 (k1.step k2 fun i hi e=>by have:=(own_lt ho e).1; omega) ?_
  rw [List.length_reverse]; exact ho2
 | step hne hg hU2 =>
  rename_i i n rest
  simp only [SS]
  rw [if_neg hne]
  have hdl:done.length<64:=by rw [hl,List.length_append,List.length_cons] at h64; omega
  refine app1 E42 ho k1.size (by omega) rfl (by simp [Value.cells,Value.oneCell']) fun g' c' w2 hg' ho2 hk2=>?_
  have k02:Kp No w w2:=k1.step hk2 fun b hb hs=>by have:=(own_lt ho hs).1; omega
  have hN2:=hN.no k02
  obtain ⟨r2,hr2⟩:=id hN2.kt
  simp only [SS,hr2.rd (o:=0) (v:=Pt t 0) rfl]
  refine n_get hN2 ?_
  rw [hg]
  intro d
  have hnb:=(hN2.nd i n (getN_some hg).2).2
  simp only [SS,hnb.rd (o:=0) (v:=I n.par) rfl]
  refine ⟨⟨k02.drR d,done++[x1],rest,by rw [hl]; simp,hU2,by simp,?_⟩,?_⟩
  ·refine own_dr ?_
   simpa [Value.cells] using ho2
  ·rw [hl,List.length_append,List.length_cons]; omega
end
section
open Sy
def F200 (R:Ko) (x0:Option Addr) (x1:Int) (w:World):Prop:=New (.cells (.pointer x0:Value).cells 26) w fun x2 w1=>Lc x2 w1 fun v5=>onP v5 fun x5=>Ct Tryz.prog 202 #[.pointer x5,.int .i64 x1] w1 fun v7 w2=>onL v7 fun a7 l7 c7=>Ct Tryz.prog 297 #[.slice a7 l7 c7,.func (.func 298) #[] #[.pointer (some x2)]] w2 fun v9 w3=>onB v9 fun x9=>R (.bool x9) w3
noncomputable def b200:Code:=Tryz.f200.body.getD .skip
theorem c200 {R:Ko} {x0:Option Addr} {x1:Int} {w:World} (h:F200 R x0 x1 w):Ct Tryz.prog 200 #[.pointer x0,.int .i64 x1] w R :=
 ctS (args:=[.pointer x0,.int .i64 x1]) (body:=b200) (n:=10) (rs:=[.tmp 4]) Tryz.func200
  (sg (cuts:=[]) trivial h)
def F298 (R:Ko) (x0:Int) (x1:Addr) (w:World):Prop:=Lc x1 w fun v7=>onP v7 fun x7=>onSome x7 fun x8=>Lc (x8.add 0) w fun v10=>onP v10 fun x10=>Ct Tryz.prog 180 #[.pointer x10,.int .i64 x0] w fun v12 w1=>on2 v12 fun y12_0 y12_1=>onP y12_0 fun x12_0=>onSome x12_0 fun x16=>Lc ((x16.add 1).add 4) w1 fun v19=>onB v19 fun x19=>R (.bool x19) w1
noncomputable def b298:Code:=Tryz.f298.body.getD .skip
theorem c298 {R:Ko} {x0:Int} {x1:Addr} {w:World} (h:F298 R x0 x1 w):Ct Tryz.prog 298 #[.int .i64 x0,.pointer (some x1)] w R :=
 ctS (args:=[.int .i64 x0,.pointer (some x1)]) (body:=b298) (n:=20) (rs:=[.tmp 3]) Tryz.func298
  (sg (cuts:=[]) trivial h)
def F297 (R:Ko) (a0:Option Addr) (l0 c0:Nat) (x1:Value) (w:World):Prop:=Ct Tryz.prog 355 #[.slice a0 l0 c0,x1] w fun v7 w1=>onI v7 fun x7=>R (.bool (decide ((x7:Int)≥0))) w1
noncomputable def b297:Code:=Tryz.f297.body.getD .skip
theorem c297 {R:Ko} {a0:Option Addr} {l0 c0:Nat} {x1:Value} {w:World} (h:F297 R a0 l0 c0 x1 w):Ct Tryz.prog 297 #[.slice a0 l0 c0,x1] w R :=
 ctS (args:=[.slice a0 l0 c0,x1]) (body:=b297) (n:=9) (rs:=[.tmp 4]) Tryz.func297
  (sg (cuts:=[]) trivial h)
def F355_0B (R:Ko) (C0:Option Addr→Nat→Nat→Value→Int→Int→World→Prop) (a0:Option Addr) (l0 c0:Nat) (x1:Value) (x7:Int) (x8:Int) (w:World):Prop:=Ifm (decide ((x8:Int)<x7)) (Ix a0 l0 x8 1 fun x14=>Lc x14 w fun v15=>onI v15 fun x15=>CallV Tryz.prog goB x1 #[.int .i64 x15] w fun v16 w1=>onB v16 fun x16=>Ifm x16 (R (.int .i64 x8) w1) (C0 a0 l0 c0 x1 x7 (IntKind.i64.wrap (x8+1)) w1)) (R (.int .i64 (-1)) w)
def F355_0 (R:Ko) (a0:Option Addr) (l0 c0:Nat) (x1:Value) (x7:Int) (x8:Int) (w:World):Prop:=∃ (Inv:Option Addr→Nat→Nat→Value→Int→Int→World→Prop) (μ:Option Addr→Nat→Nat→Value→Int→Int→World→Nat),Inv a0 l0 c0 x1 x7 x8 w∧∀ a0 l0 c0 x1 x7 x8 w,Inv a0 l0 c0 x1 x7 x8 w→F355_0B R (fun a0' l0' c0' x1' x7' x8' w'=>Inv a0' l0' c0' x1' x7' x8' w'∧μ a0' l0' c0' x1' x7' x8' w'<μ a0 l0 c0 x1 x7 x8 w) a0 l0 c0 x1 x7 x8 w
def F355 (R:Ko) (a0:Option Addr) (l0 c0:Nat) (x1:Value) (w:World):Prop:=F355_0 R a0 l0 c0 x1 (l0:Nat) 0 w
noncomputable def b355:Code:=Tryz.f355.body.getD .skip
def q355_0:List Bool:=[false,true,false,true]
def L355_0 (F:Option Addr→Nat→Nat→Value→Int→Int→World→Prop):Env→World→Prop:=fun ρ w=>onL (ρ 0) fun a0 l0 c0=>onI (ρ 7) fun x7=>onI (ρ 8) fun x8=>F a0 l0 c0 (ρ 1) x7 x8 w
abbrev T355 (z:Fr) (R:Ko) (p:List Bool) (ρ:Env) (w:World):Prop:=TW z Tryz.prog 19 (segTodo b355 p) (QR Tryz.prog [.tmp 4] R) ρ w
theorem s355_0 (R:Ko):∀ ρ w,(L355_0 (F355_0 R)) ρ w→T355 z0 R q355_0 ρ w:=by
 intro ρ w h
 unfold L355_0 at h
 obtain ⟨a0,l0,c0,e0,h⟩:=onL_of h
 generalize e1:ρ 1=x1 at h
 obtain ⟨x7,e7,h⟩:=onI_of h
 obtain ⟨x8,e8,h⟩:=onI_of h
 obtain ⟨Inv,μ,hi,hb⟩:=h
 refine lpT (fun m=>L355_0 (fun a0 l0 c0 x1 x7 x8 w=>Inv a0 l0 c0 x1 x7 x8 w∧μ a0 l0 c0 x1 x7 x8 w=m)) ?_ (μ a0 l0 c0 x1 x7 x8 w) ρ w ?_
 ·intro m ρ w ih h
  unfold L355_0 at h
  obtain ⟨a0,l0,c0,e0,h⟩:=onL_of h
  generalize e1:ρ 1=x1 at h
  obtain ⟨x7,e7,h⟩:=onI_of h
  obtain ⟨x8,e8,h⟩:=onI_of h
  obtain ⟨hv,hm⟩:=h
  subst hm
  have hh:=hb a0 l0 c0 x1 x7 x8 w hv
  obtain ⟨C0,hC⟩:∃ C,C=fun a0' l0' c0' x1' x7' x8' w'=>Inv a0' l0' c0' x1' x7' x8' w'∧μ a0' l0' c0' x1' x7' x8' w'<μ a0 l0 c0 x1 x7 x8 w:=⟨_,rfl⟩
  rw [← hC] at hh
  have h0:∀ ρ w,(L355_0 C0) ρ w→T355 z0 R q355_0 ρ w:=by
   intro ρ' w' h'
   refine ih ρ' w' ?_
   unfold L355_0 at h'
   obtain ⟨a0',l0',c0',e0',h'⟩:=onL_of h'
   generalize e1':ρ' 1=x1' at h'
   obtain ⟨x7',e7',h'⟩:=onI_of h'
   obtain ⟨x8',e8',h'⟩:=onI_of h'
   rw [hC] at h'
   refine ⟨_,h'.2,?_⟩
   simp only [e0',e1',e7',e8',L355_0,ons]
   exact ⟨h'.1,by trivial⟩
  rw [← upds_same (ρ:=ρ) [(0,.slice a0 l0 c0),(1,x1),(7,.int .i64 x7),(8,.int .i64 x8)] (alc e0 (alc e1 (alc e7 (alc e8 aln))))]
  exact sg (cuts:=[(q355_0,L355_0 C0)]) ⟨h0,trivial⟩ hh
 ·simp only [e0,e1,e7,e8,L355_0,ons]
  exact ⟨hi,by trivial⟩
theorem c355 {R:Ko} {a0:Option Addr} {l0 c0:Nat} {x1:Value} {w:World} (h:F355 R a0 l0 c0 x1 w):Ct Tryz.prog 355 #[.slice a0 l0 c0,x1] w R :=
 ctS (args:=[.slice a0 l0 c0,x1]) (body:=b355) (n:=19) (rs:=[.tmp 4]) Tryz.func355
  (sg (cuts:=[(q355_0,L355_0 (F355_0 R))]) ⟨s355_0 R,trivial⟩ h)
def F205_0B (R:Ko) (C0:Option Addr→Int→Addr→Int→Option Addr→Nat→Nat→Int→Int→World→Prop) (x0:Option Addr) (x2:Int) (x7:Addr) (x9:Int) (a19:Option Addr) (l19 c19:Nat) (x20:Int) (x21:Int) (w:World):Prop:=Ifm (decide ((x21:Int)<x20)) (Ix a19 l19 x21 1 fun x23=>Lc x23 w fun v24=>onI v24 fun x24=>onSome x0 fun x27=>Lc (x27.add 0) w fun v29=>onP v29 fun x29=>Ct Tryz.prog 180 #[.pointer x29,.int .i64 x24] w fun v31 w3=>on2 v31 fun y31_0 y31_1=>onP y31_0 fun x31_0=>onSome x31_0 fun x35=>La 8 (x35.add 1) w3 fun x37=>New (.cells (.agg #[.int .i64 0,.int .i64 0,.int .i64 0,.int .i64 0,.bool false,.int .i64 0,.int .i64 0,.int .i64 0]:Value).cells 120) w3 fun x14 w4=>Sa 8 x14 x37 w4 fun w5=>Ifm ((x24:Int) == x2) (La 8 x7 w5 fun x41=>Sa 8 x14 x41 w5 fun w6=>La 8 x14 w6 fun x43=>Ct Tryz.prog 301 #[.agg x43] w6 fun v44 w7=>on2 v44 fun y44_0 y44_1=>onI y44_0 fun x44_0=>C0 x0 x2 x7 (IntKind.i64.wrap (x9+x44_0)) a19 l19 c19 x20 (IntKind.i64.wrap (x21+1)) w7) (La 8 x14 w5 fun x43=>Ct Tryz.prog 301 #[.agg x43] w5 fun v44 w8=>on2 v44 fun y44_0 y44_1=>onI y44_0 fun x44_0=>C0 x0 x2 x7 (IntKind.i64.wrap (x9+x44_0)) a19 l19 c19 x20 (IntKind.i64.wrap (x21+1)) w8)) (R (.int .i64 x9) w)
def F205_0 (R:Ko) (x0:Option Addr) (x2:Int) (x7:Addr) (x9:Int) (a19:Option Addr) (l19 c19:Nat) (x20:Int) (x21:Int) (w:World):Prop:=∃ (Inv:Option Addr→Int→Addr→Int→Option Addr→Nat→Nat→Int→Int→World→Prop) (μ:Option Addr→Int→Addr→Int→Option Addr→Nat→Nat→Int→Int→World→Nat),Inv x0 x2 x7 x9 a19 l19 c19 x20 x21 w∧∀ x0 x2 x7 x9 a19 l19 c19 x20 x21 w,Inv x0 x2 x7 x9 a19 l19 c19 x20 x21 w→F205_0B R (fun x0' x2' x7' x9' a19' l19' c19' x20' x21' w'=>Inv x0' x2' x7' x9' a19' l19' c19' x20' x21' w'∧μ x0' x2' x7' x9' a19' l19' c19' x20' x21' w'<μ x0 x2 x7 x9 a19 l19 c19 x20 x21 w) x0 x2 x7 x9 a19 l19 c19 x20 x21 w
def F205 (R:Ko) (x0:Option Addr) (x1:Int) (x2:Int) (x3:Array Value) (w:World):Prop:=New (.cells (.agg x3:Value).cells 120) w fun x7 w1=>Ct Tryz.prog 145 #[.pointer x0,.int .i64 x1] w1 fun v19 w2=>onL v19 fun a19 l19 c19=>F205_0 R x0 x2 x7 0 a19 l19 c19 (l19:Nat) 0 w2
noncomputable def b205:Code:=Tryz.f205.body.getD .skip
def q205_0:List Bool:=[false,true,false,true,true]
def L205_0 (F:Option Addr→Int→Addr→Int→Option Addr→Nat→Nat→Int→Int→World→Prop):Env→World→Prop:=fun ρ w=>onP (ρ 0) fun x0=>onI (ρ 2) fun x2=>onA (ρ 7) fun x7=>onI (ρ 9) fun x9=>onL (ρ 19) fun a19 l19 c19=>onI (ρ 20) fun x20=>onI (ρ 21) fun x21=>F x0 x2 x7 x9 a19 l19 c19 x20 x21 w
abbrev T205 (z:Fr) (R:Ko) (p:List Bool) (ρ:Env) (w:World):Prop:=TW z Tryz.prog 52 (segTodo b205 p) (QR Tryz.prog [.tmp 8] R) ρ w
theorem s205_0 (R:Ko):∀ ρ w,(L205_0 (F205_0 R)) ρ w→T205 z0 R q205_0 ρ w:=by
 intro ρ w h
 obtain ⟨x0,e0,h⟩:=onP_of h
 obtain ⟨x2,e2,h⟩:=onI_of h
 obtain ⟨x7,e7,h⟩:=onA_of h
 obtain ⟨x9,e9,h⟩:=onI_of h
 obtain ⟨a19,l19,c19,e19,h⟩:=onL_of h
 obtain ⟨x20,e20,h⟩:=onI_of h
 obtain ⟨x21,e21,h⟩:=onI_of h
 obtain ⟨Inv,μ,hi,hb⟩:=h
 refine lpT (fun m=>L205_0 (fun x0 x2 x7 x9 a19 l19 c19 x20 x21 w=>Inv x0 x2 x7 x9 a19 l19 c19 x20 x21 w∧μ x0 x2 x7 x9 a19 l19 c19 x20 x21 w=m)) ?_ (μ x0 x2 x7 x9 a19 l19 c19 x20 x21 w) ρ w ?_
 ·intro m ρ w ih h
  obtain ⟨x0,e0,h⟩:=onP_of h
  obtain ⟨x2,e2,h⟩:=onI_of h
  obtain ⟨x7,e7,h⟩:=onA_of h
  obtain ⟨x9,e9,h⟩:=onI_of h
  obtain ⟨a19,l19,c19,e19,h⟩:=onL_of h
  obtain ⟨x20,e20,h⟩:=onI_of h
  obtain ⟨x21,e21,h⟩:=onI_of h
  obtain ⟨hv,hm⟩:=h
  subst hm
  have hh:=hb x0 x2 x7 x9 a19 l19 c19 x20 x21 w hv
  obtain ⟨C0,hC⟩:∃ C,C=fun x0' x2' x7' x9' a19' l19' c19' x20' x21' w'=>Inv x0' x2' x7' x9' a19' l19' c19' x20' x21' w'∧μ x0' x2' x7' x9' a19' l19' c19' x20' x21' w'<μ x0 x2 x7 x9 a19 l19 c19 x20 x21 w:=⟨_,rfl⟩
  rw [← hC] at hh
  have h0:∀ ρ w,(L205_0 C0) ρ w→T205 z0 R q205_0 ρ w:=by
   intro ρ' w' h'
   refine ih ρ' w' ?_
   obtain ⟨x0',e0',h'⟩:=onP_of h'
   obtain ⟨x2',e2',h'⟩:=onI_of h'
   obtain ⟨x7',e7',h'⟩:=onA_of h'
   obtain ⟨x9',e9',h'⟩:=onI_of h'
   obtain ⟨a19',l19',c19',e19',h'⟩:=onL_of h'
   obtain ⟨x20',e20',h'⟩:=onI_of h'
   obtain ⟨x21',e21',h'⟩:=onI_of h'
   rw [hC] at h'
   refine ⟨_,h'.2,?_⟩
   simp only [e0',e2',e7',e9',e19',e20',e21',L205_0,ons]
   exact ⟨h'.1,by trivial⟩
  rw [← upds_same (ρ:=ρ) [(0,.pointer x0),(2,.int .i64 x2),(7,.pointer (some x7)),(9,.int .i64 x9),(19,.slice a19 l19 c19),(20,.int .i64 x20),(21,.int .i64 x21)] (alc e0 (alc e2 (alc e7 (alc e9 (alc e19 (alc e20 (alc e21 aln)))))))]
  exact sg (cuts:=[(q205_0,L205_0 C0)]) ⟨h0,trivial⟩ hh
 ·simp only [e0,e2,e7,e9,e19,e20,e21,L205_0,ons]
  exact ⟨hi,by trivial⟩
theorem c205 {R:Ko} {x0:Option Addr} {x1:Int} {x2:Int} {x3:Array Value} {w:World} (h:F205 R x0 x1 x2 x3 w):Ct Tryz.prog 205 #[.pointer x0,.int .i64 x1,.int .i64 x2,.agg x3] w R :=
 ctS (args:=[.pointer x0,.int .i64 x1,.int .i64 x2,.agg x3]) (body:=b205) (n:=52) (rs:=[.tmp 8]) Tryz.func205
  (sg (cuts:=[(q205_0,L205_0 (F205_0 R))]) ⟨s205_0 R,trivial⟩ h)
variable {K:Ko} {w w':World}
def dyB (N:Nds) (x:Int):Bool:=match getN N x with
 | some (_,n)=>n.bg.dy
 | none=>false
section
variable {k t L:Nat} {nb lf:Nat→Nat} {N:Nds}
theorem k298 {x y:Int} {p:Nat} {i:Nat} {n:Nd} (hN:NT w k t L nb lf N) (hp:w.cell? ⟨p,0,none⟩=some (Pt k 0)) (hg:getN N x=some (i,n)) (hK:∀ d,K (.bool n.bg.dy) (dr w d)):Ct Tryz.prog 298 #[I x,Pt p 0] w K:=by
 refine c298 ?_
 unfold F298
 obtain ⟨r,hr⟩:=id hN.kt
 simp only [Lc_c hp,SS,hr.rd (o:=0) (v:=Pt t 0) rfl]
 refine n_get hN ?_
 rw [hg]
 intro d
 have hnb:=(hN.nd i n (getN_some hg).2).2
 simp only [SS,hnb.rd (o:=1+4) (v:=.bool n.bg.dy) rfl]
 exact hK d
theorem k355 {B l c:Nat} {a:Option Addr} {hs:List Int} {f:Value} {q:Int→Bool} (hl:hs.length<1000000) (ho:w.ownsRow B 33 1 (.slice a l c) hs.length (hs.map I))
  (hf:∀ x∈hs,∀ d (K':Ko),(∀ d,K' (.bool (q x)) (dr w d))→CallV Tryz.prog goB f #[I x] (dr w d) K')
  (h:∀ d v,(0≤v↔hs.any q=true)→K (I v) (dr w d)):Ct Tryz.prog 355 #[.slice a l c,f] w K:=by
 refine c355 ?_
 unfold F355
 have hlen:=own_len ho
 unfold F355_0
 refine ⟨fun a0 l0 c0 x1 x7 x8 w'=>a=a0∧l=l0∧c=c0∧f=x1∧x7=l∧(∃ d,w'=dr w d)∧∃ i:Nat,x8=i∧i≤hs.length∧(hs.take i).any q=false,fun _ _ _ _ _ x8 _=>hs.length - x8.toNat,⟨rfl,rfl,rfl,rfl,rfl,⟨_,(dr_self w).symm⟩,0,rfl,Nat.zero_le _,by simp⟩,?_⟩
 rintro _ _ _ _ _ _ _ ⟨rfl,rfl,rfl,rfl,rfl,⟨d,rfl⟩,i,rfl,hi,hq⟩
 unfold F355_0B
 simp only [SS]
 by_cases e1:i<l
 case neg =>
  rw [if_neg (by omega)]
  rw [List.take_of_length_le (by omega)] at hq
  exact h d (-1) (by rw [hq]; simp)
 rw [if_pos (by omega)]
 have hi':i<hs.length:=by omega
 obtain ⟨g,rfl,_,hlc⟩:=hd_lc ho hi'
 simp only [SS,Ix_c e1,hlc]
 refine hf hs[i] (List.getElem_mem _) d _ fun d'=>?_
 simp only [SS]
 cases e2:q hs[i] with
 | true =>
  simp only [SS]
  refine h d' i ⟨fun _=>?_,fun _=>by omega⟩
  rw [List.any_eq_true]
  exact ⟨hs[i],List.getElem_mem _,e2⟩
 | false =>
  simp only [SS]
  rw [cast_succ _ (by omega)]
  refine ⟨⟨⟨d',rfl⟩,i+1,rfl,by omega,?_⟩,by simp; omega⟩
  rw [List.take_succ_eq_append_getElem hi',List.any_append,hq]
  simp [e2]
theorem Up.there {h:Int} {l:List Int} (hU:Up N h l):∀ x∈l,∃ i n,getN N x=some (i,n):=by
 induction hU with
 | top=>simp
 | step hne hg _ ih =>
  intro x hx
  rcases List.mem_cons.1 hx with rfl | hx
  ·exact ⟨_,_,hg⟩
  ·exact ih x hx
theorem k200 {h:Int} {l:List Int} (hN:NT w k t L nb lf N) (hU:Up N h l) (h64:l.length≤64) (hK:∀ w',Kp No w w'→K (.bool (l.any (dyB N))) w'):Ct Tryz.prog 200 #[Pt k 0,I h] w K:=by
 refine c200 ?_
 unfold F200
 refine new_k [Pt k 0] fun w1 k1 b1 s1=>?_
 have hN1:=hN.no k1
 simp only [SS,b1.rd (o:=0) (v:=Pt k 0) rfl]
 refine k202 hN1 hU h64 fun a m c w2 k2 ho2=>?_
 have hN2:=hN1.no k2
 have b2:Bk w2 w.heap.size [Pt k 0] 26:=k2.bk b1 id
 simp only [SS]
 refine c297 ?_
 unfold F297
 refine k355 (q:=dyB N) (by simp; omega) ho2 (fun x hx d K' hK'=>?_) fun d v hv=>?_
 ·obtain ⟨i,n,hg⟩:=hU.there x (by simpa using hx)
  refine ⟨by kernel_rfl,?_⟩
  show Ct Tryz.prog 298 (#[]++#[I x]++#[Pt w.heap.size 0]) (dr w2 d) K'
  have hd:dyB N x=n.bg.dy:=by unfold dyB; rw [hg]
  rw [hd] at hK'
  exact k298 (y:=0) (w:=dr w2 d) (hN2.no (Kp.dr No w2 d)) (by rw [cell_dr,b2.cell]; rfl) hg hK'
 ·have he:decide (v≥0)=l.any (dyB N):=by
   rw [List.any_reverse] at hv
   cases e:l.any (dyB N) with
   | true=>simpa using hv.2 e
   | false =>
    have:¬ 0≤v:=fun x=>by rw [hv.1 x] at e; cases e
    simpa using this
  simp only [SS]
  rw [he]
  exact hK _ ((k1.trans k2).drR d)
def bgN (N:Nds) (x:Int):Bg:=match getN N x with
 | some (_,n)=>n.bg
 | none=>zB
def keptF (N:Nds) (o:Int) (b:Bg) (s x:Int):Int:=IntKind.i64.wrap (s+reservedB (if x=o then b else bgN N x))
def keptN (N:Nds) (h o:Int) (b:Bg):Int:=(kidsN N h).foldl (keptF N o b) 0
theorem kid_there (hN:NT w k t L nb lf N) {h x:Int} (hx:x∈kidsN N h):∃ i n,getN N x=some (i,n):=by
 unfold kidsN at hx
 exact n_all hN (List.mem_filter.1 hx).1
theorem k205 {h o:Int} {b:Bg} (hN:NT w k t L nb lf N) (hK:∀ w',Kp No w w'→K (I (keptN N h o b)) w'):Ct Tryz.prog 205 #[Pt k 0,I h,I o,.agg b.cells.toArray] w K:=by
 refine c205 ?_
 unfold F205
 refine new_k b.cells fun w1 k1 b1 s1=>?_
 have hN1:=hN.no k1
 refine k145 hN1 fun a0 l0 c0 w2 k2 ho2=>?_
 simp only [SS]
 have hlen:=own_len ho2
 have hkl:=kids_len N h
 obtain ⟨p,hp⟩:∃ p,p=w.heap.size:=⟨_,rfl⟩
 have b2:Bk w2 w.heap.size b.cells 120:=k2.bk b1 id
 rw [← hp] at b2 ⊢
 unfold F205_0
 refine ⟨fun x0 x2 x7 x9 a19 l19 c19 x20 x21 w'=>x0=some ⟨k,0,none⟩∧o=x2∧x7=⟨p,0,none⟩∧a0=a19∧l0=l19∧c0=c19∧x20=l0∧Kp No w2 w'∧∃ i:Nat,x21=i∧i≤(kidsN N h).length∧x9=((kidsN N h).take i).foldl (keptF N o b) 0,fun _ _ _ _ _ _ _ _ x21 _=>(kidsN N h).length - x21.toNat,
  ⟨rfl,rfl,rfl,rfl,rfl,rfl,rfl,Kp.refl _ _,0,rfl,Nat.zero_le _,rfl⟩,?_⟩
 rintro _ _ _ x9 _ _ _ _ _ w3 ⟨rfl,rfl,rfl,rfl,rfl,rfl,rfl,k3,i,rfl,hi,hx⟩
 unfold F205_0B
 simp only [SS]
 have k02:=k1.trans k2
 by_cases e1:i<l0
 case neg =>
  rw [if_neg (by omega)]
  have hh:=hK w3 (k02.trans k3)
  unfold keptN at hh
  rw [List.take_of_length_le (by omega)] at hx
  rw [← hx] at hh
  exact hh
 rw [if_pos (by omega)]
 have hi':i<(kidsN N h).length:=by omega
 have ho3:=own_kp ho2 k3 fun _ _=>id
 obtain ⟨g,rfl,_,hlc⟩:=hd_lc ho3 hi'
 have hN3:=hN.no (k02.trans k3)
 obtain ⟨r3,hr3⟩:=id hN3.kt
 simp only [SS,Ix_c e1,hlc,hr3.rd (o:=0) (v:=Pt t 0) rfl]
 have hstep:=foldl_take (keptF N o b) (kidsN N h) 0 hi'
 rw [← hx] at hstep
 obtain ⟨x,hxx⟩:∃ y,y=(kidsN N h)[i]:=⟨_,rfl⟩
 rw [← hxx] at hstep ⊢
 obtain ⟨j,n,hg⟩:=kid_there hN (h:=h) (x:=x) (by rw [hxx]; exact List.getElem_mem _)
 refine n_get hN3 ?_
 rw [hg]
 intro d
 have hnb:=(hN3.nd j n (getN_some hg).2).2
 have la:∀ k,La 8 ⟨nb j,1,none⟩ w3 k=k n.bg.cells.toArray:=fun k=>by rw [hnb.la (by simp [ndC,Bg.cells])]; rfl
 have hbn:bgN N x=n.bg:=by unfold bgN; rw [hg]
 simp only [SS,la]
 have next:∀ w4,Kp No w3 w4→∀ y,y=keptF N o b x9 x→(Kp No w2 w4∧∃ q:Nat,IntKind.i64.wrap ((i:Int)+1)=q∧q≤(kidsN N h).length∧y=((kidsN N h).take q).foldl (keptF N o b) 0)∧(kidsN N h).length - (IntKind.i64.wrap ((i:Int)+1)).toNat<(kidsN N h).length - i:=by
  intro w4 k4 y hy
  rw [cast_succ _ (by omega)]
  exact ⟨⟨k3.trans k4,i+1,rfl,by omega,by rw [hstep]; exact hy⟩,by simp; omega⟩
 unfold keptF at next
 rw [hbn] at next
 refine new_dr zB.cells fun w4 k4 b4 s4=>?_
 refine sa_k (cs:=n.bg.cells) b4 rfl (by decide) (Bg.one _) fun w5 k5 b5 s5=>?_
 rw [over_all _ _ (by rfl)] at b5
 have k35:Kp No w3 w5:=k4.own k5 (Nat.le_refl _)
 have p5:Bk w5 p b.cells 120:=k35.bk (k3.bk b2 id) id
 by_cases e2:x=o
 ·rw [if_pos e2]
  rw [if_pos e2] at next
  simp only [p5.la0 (n:=8) b.len]
  refine sa_k (cs:=b.cells) b5 rfl (by simp [Bg.cells]) (Bg.one _) fun w6 k6 b6 s6=>?_
  rw [over_all _ _ (by rfl)] at b6
  simp only [b6.la0 (n:=8) b.len]
  refine k301 fun w7 v k7=>?_
  simp only [SS]
  exact next w7 ((k35.own k6 (Nat.le_refl _)).trans k7) _ rfl
 ·rw [if_neg e2]
  rw [if_neg e2] at next
  simp only [b5.la0 (n:=8) n.bg.len]
  refine k301 fun w7 v k7=>?_
  simp only [SS]
  exact next w7 (k35.trans k7) _ rfl
end
end
section
open Sy
variable {w w':World}
structure Kn where
 n:Nds
 g:Int→Option En
 pool:Slots Tk
 last:Int
 now:Int
 idle:Int
def rootH:Int:=1099511627777
structure Kn.Ok (K:Kn):Prop where
 up:∀ i n,(K.n i).2=some n→∃ l,Up K.n (nameS 1 i (K.n i).1) l∧l.length≤9
 root:∃ n,K.n 0=(1,some n)∧n.par=0
 gens:∀ i,1≤(K.n i).1
structure KRv (w:World) (lab:Nat→Nat) (q k t L bk m p:Nat) (nb lf:Nat→Nat) (K:Kn):Prop where
 kh:Bk w k [Pt t 0,I rootH,Pt bk 0,Pt p 0,I K.now,I K.idle] 128
 nt:NT w k t L nb lf K.n
 book:BL w bk m rootH K.g
 pool:PL w (fun x=>lab x=q+6) (fun x=>lab x=q+1) p K.pool K.last
 leaf:∀ i n,(K.n i).2=some n→LF w (fun x=>lab x=q+200+i) (fun x=>lab x=q+1) (lf i) n.leaf
 lk:lab k=q+2
 lt:lab t=q+1
 lL:lab L=q+3
 lbk:lab bk=q+1
 lm:lab m=q+4
 lp:lab p=q+5
 ln:∀ i n,(K.n i).2=some n→lab (nb i)=q+100+i
 bd:∀ x,lab x≠0→x<w.heap.size
 q0:0<q
 ok:K.Ok
def KR (w:World) (lab:Nat→Nat) (q k:Nat) (K:Kn):Prop:=∃ t L bk m p nb lf,KRv w lab q k t L bk m p nb lf K
def inK (q x:Nat):Prop:=q<x∧x<q+300
theorem KRv.kp {S:Nat→Prop} {lab:Nat→Nat} {q k t L bk m p:Nat} {nb lf:Nat→Nat} {K:Kn} (h:KRv w lab q k t L bk m p nb lf K) (kp:Kp S w w') (hs:∀ x,inK q (lab x)→¬ S x):KRv w' lab q k t L bk m p nb lf K:=by
 have i1:∀ x r,lab x=q+r→0<r→r<300→¬ S x:=fun x r hr h0 h3=>hs x (by unfold inK; omega)
 obtain ⟨r,hr⟩:=h.nt.kt
 refine ⟨kp.bk h.kh (i1 _ _ h.lk (by omega) (by omega)),⟨⟨r,kp.bk hr (i1 _ _ h.lk (by omega) (by omega))⟩,h.nt.tab.kp kp (i1 _ _ h.lt (by omega) (by omega)) (i1 _ _ h.lL (by omega) (by omega)),fun i n hn=>?_,h.nt.gen⟩,
  h.book.kp kp (i1 _ _ h.lbk (by omega) (by omega)) (i1 _ _ h.lm (by omega) (by omega)),h.pool.kp kp (fun x hx=>i1 x _ hx (by omega) (by omega)) (fun x hx=>i1 x _ hx (by omega) (by omega)) (i1 _ _ h.lp (by omega) (by omega)),fun i n hn=>?_,h.lk,h.lt,h.lL,h.lbk,h.lm,h.lp,h.ln,fun x hx=>Nat.lt_of_lt_of_le (h.bd x hx) kp.size,h.q0,h.ok⟩
 ·have hi:=(h.nt.nd i n hn).1
  exact ⟨hi,kp.bk (h.nt.nd i n hn).2 (i1 _ (100+i) (by have:=h.ln i n hn; omega) (by omega) (by omega))⟩
 ·have hi:=(h.nt.nd i n hn).1
  exact (h.leaf i n hn).kp kp (fun x hx=>i1 x (200+i) (by omega) (by omega) (by omega)) (fun x hx=>i1 x _ hx (by omega) (by omega))
theorem KR.kp {S:Nat→Prop} {lab:Nat→Nat} {q k:Nat} {K:Kn} (h:KR w lab q k K) (kp:Kp S w w') (hs:∀ x,inK q (lab x)→¬ S x):KR w' lab q k K:=by
 obtain ⟨t,L,bk,m,p,nb,lf,h⟩:=h
 exact ⟨t,L,bk,m,p,nb,lf,h.kp kp hs⟩
theorem KR.no {lab:Nat→Nat} {q k:Nat} {K:Kn} (h:KR w lab q k K) (kp:Kp No w w'):KR w' lab q k K:=h.kp kp fun _ _=>id
def nl (lab:Nat→Nat) (w w':World) (r x:Nat):Nat:=if x<w.heap.size then lab x else if x<w'.heap.size then r else 0
theorem nl_old {lab:Nat→Nat} {r x:Nat} (h:x<w.heap.size):nl lab w w' r x=lab x:=by unfold nl; rw [if_pos h]
theorem nl_gr {lab:Nat→Nat} {r:Nat} (hb:∀ x,lab x≠0→x<w.heap.size) (hw:w.heap.size≤w'.heap.size) (h0:r≠0):(fun x=>nl lab w w' r x=r)=gr (fun x=>lab x=r) w w':=by
 funext x
 apply propext
 unfold nl gr
 constructor
 ·intro h
  split at h
  ·exact .inl h
  ·split at h
   ·exact .inr ⟨by omega,by assumption⟩
   ·exact absurd h.symm h0
 ·rintro (h | ⟨h1,h2⟩)
  ·rw [if_pos (hb x (by omega))]; exact h
  ·rw [if_neg (by omega),if_pos h2]
theorem nl_other {lab:Nat→Nat} {r s:Nat} (hb:∀ x,lab x≠0→x<w.heap.size) (h0:s≠0) (hr:s≠r):(fun x=>nl lab w w' r x=s)=(fun x=>lab x=s):=by
 funext x
 apply propext
 unfold nl
 constructor
 ·intro h
  split at h
  ·exact h
  ·split at h
   ·exact absurd h.symm hr
   ·exact absurd h.symm h0
 ·intro h
  rw [if_pos (hb x (by omega))]; exact h
end
section
open Sy
def F129 (R:Ko) (x0:Int) (x1:Int) (x2:Value) (w:World):Prop:=Nl x2 fun x8=>Ifm x8 (R (.nilIface) w) (Rd Tryz.prog (Instr.build 371 #[(0,.int .i64 x0),(1,.int .i64 x1),(2,x2)]) w fun v12=>onG v12 fun x12=>New (.cells (.agg x12:Value).cells 371) w fun x13 w1=>R (.iface 369 (.pointer (some x13))) w1)
noncomputable def b129:Code:=Tryz.f129.body.getD .skip
theorem c129 {R:Ko} {x0:Int} {x1:Int} {x2:Value} {w:World} (h:F129 R x0 x1 x2 w):Ct Tryz.prog 129 #[.int .i64 x0,.int .i64 x1,x2] w R :=
 ctS (args:=[.int .i64 x0,.int .i64 x1,x2]) (body:=b129) (n:=15) (rs:=[.tmp 6]) Tryz.func129
  (sg (cuts:=[]) trivial h)
variable {K:Ko} {w w':World}
def Flt (w:World) (v:Value) (e:Int):Prop:=(e=0∧v=.nilIface)∨(e≠0∧∃ f op a,v=.iface 369 (Pt f 0)∧Bk w f [I op,I a,Er e] 371)
theorem bld371 (a b e:Int) (w:World) (k:Value→Prop):Rd Tryz.prog (Instr.build 371 #[(0,I a),(1,I b),(2,Er e)]) w k=k (.agg #[I a,I b,Er e]) :=
 build_f (vals:=[(0,I a),(1,I b),(2,Er e)]) (by kernel_rfl) (by kernel_rfl) w k
theorem k129_no {op a:Int} (h:K .nilIface w):Ct Tryz.prog 129 #[I op,I a,.nilIface] w K:=by
 refine c129 ?_
 unfold F129
 simp only [SS]
 exact h
theorem k129 {op a e:Int} (he:e≠0) (h:∀ v w',Kp No w w'→Flt w' v e→K v w'):Ct Tryz.prog 129 #[I op,I a,Er e] w K:=by
 refine c129 ?_
 unfold F129
 simp only [SS,bld371]
 refine new_k [I op,I a,Er e] fun w1 k1 b1 s1=>?_
 exact h _ w1 k1 (.inr ⟨he,_,op,a,rfl,b1⟩)
theorem Flt.nil (w:World):Flt w .nilIface 0:=.inl ⟨rfl,rfl⟩
theorem Flt.kp {v:Value} {e:Int} (h:Flt w v e) (k:Kp No w w'):Flt w' v e:=by
 rcases h with h | ⟨h0,f,op,a,h1,h2⟩
 ·exact .inl h
 ·exact .inr ⟨h0,f,op,a,h1,k.bk h2 id⟩
end
section
open Sy Go.RowKit Go.Extern.Stop Go.Stop Go.Extern
abbrev Ty (t:Nat):Value:=.pointer (some ⟨9,t,none⟩)
theorem ev220 (t:Addr) (w:World):(ReflectliteValue.unpack (.iface 220 (.pointer (some t)))).run Tryz.prog w
  = .ok (.agg #[Ty 220,.pointer (some ⟨w.heap.size,0,none⟩),.int .u64 150]) (w.alloc (.cells #[.pointer (some t)] 220)):=by kernel_rfl
theorem et220 (a:Addr) (w:World):(ReflectliteValue.methodAny (ReflectliteValue.valueError "reflectlite.Value.Type" 0) (fun t _ _ _=>ReflectliteType.toType t) #[.agg #[Ty 220,.pointer (some a),.int .u64 150]]).run Tryz.prog w
  = .ok (.iface 419 (.agg #[Ty 220])) w:=by kernel_rfl
theorem ek220 (w:World):((ReflectliteType.abiMethod fun t=>(fun a:Nat=>Value.int IntKind.u8 (a:Int)) <$> Rtype.kind t) #[Ty 220]).run Tryz.prog w=.ok (.int .u8 22) w:=by kernel_rfl
theorem ek129 (w:World):((ReflectliteType.abiMethod fun t=>(fun a:Nat=>Value.int IntKind.u8 (a:Int)) <$> Rtype.kind t) #[Ty 129]).run Tryz.prog w=.ok (.int .u8 2) w:=by kernel_rfl
theorem rlm (z:Sem Value) (f:TypeId→Addr→Nat→Nat→Sem Value) (v:Value) :
  ReflectliteValue.method z f #[v]=(do match ← ReflectliteValue.parts v with | none=>z | some (t,a,fl)=>f t a fl (fl % 32)):=rfl
theorem ep220 (a:Addr) (w:World):(ReflectliteValue.parts (.agg #[Ty 220,.pointer (some a),.int .u64 150])).run Tryz.prog w=.ok (some (220,a,150)) w:=by kernel_rfl
theorem eu220:Tryz.prog.underlying 220=some (.pointer 129):=by kernel_rfl
theorem eu129:Tryz.prog.underlying 129=some (.int .i64):=by kernel_rfl
theorem en220 (a p:Addr) (W:World) (ha:W.cell? a=some (.pointer (some p))) :
  (ReflectliteValue.method (ReflectliteValue.valueError "reflectlite.Value.IsNil" 0) ReflectliteValue.isNil #[.agg #[Ty 220,.pointer (some a),.int .u64 150]]).run Tryz.prog W=.ok (.bool false) W:=by
 rw [rlm]
 simp only [Sem.run_bind,ep220,Result.andThen]
 simp [ReflectliteValue.isNil,loadVar,isAgg,underlying,eu220,ha,Result.andThen]
theorem ee220 (w:World):(ReflectliteType.method ReflectliteType.elem #[.agg #[Ty 220]]).run Tryz.prog w=.ok (.iface 419 (.agg #[Ty 129])) w:=by kernel_rfl
theorem ei129 (w:World):(ReflectliteType.relation "Implements" ReflectliteType.implements_ #[.agg #[Ty 129],.iface 419 (.agg #[Ty 30])]).run Tryz.prog w=.ok (.bool true) w:=by kernel_rfl
theorem eo129 (v:Value) (w:World):(ReflectliteType.typeOf #[.iface 129 v]).run Tryz.prog w=.ok (.iface 419 (.agg #[Ty 129])) w:=by kernel_rfl
theorem eo369 (v:Value) (w:World):(ReflectliteType.typeOf #[.iface 369 v]).run Tryz.prog w=.ok (.iface 419 (.agg #[Ty 369])) w:=by kernel_rfl
theorem ea129 (w:World):(ReflectliteType.relation "AssignableTo" ReflectliteType.assignableTo #[.agg #[Ty 129],.iface 419 (.agg #[Ty 129])]).run Tryz.prog w=.ok (.bool true) w:=by kernel_rfl
theorem ea369 (w:World):(ReflectliteType.relation "AssignableTo" ReflectliteType.assignableTo #[.agg #[Ty 369],.iface 419 (.agg #[Ty 129])]).run Tryz.prog w=.ok (.bool false) w:=by kernel_rfl
theorem ev129 (n:Int) (w:World):(ReflectliteValue.unpack (.iface 129 (.int .i64 n))).run Tryz.prog w
  = .ok (.agg #[Ty 129,.pointer (some ⟨w.heap.size,0,none⟩),.int .u64 130]) (w.alloc (.cells #[.int .i64 n] 129)):=by kernel_rfl
theorem eeo220 (w:World):(Rtype.elem? 220).run Tryz.prog w=.ok (some 129) w:=by kernel_rfl
theorem emk129 (p:Addr) (w:World):(ReflectliteValue.mk 129 p ReflectliteValue.flagAddr).run Tryz.prog w=.ok (.agg #[Ty 129,.pointer (some p),.int .u64 386]) w:=by kernel_rfl
theorem eev220 (a p:Addr) (W:World) (ha:W.cell? a=some (.pointer (some p))) :
  (ReflectliteValue.method (ReflectliteValue.valueError "reflectlite.Value.Elem" 0) ReflectliteValue.elem #[.agg #[Ty 220,.pointer (some a),.int .u64 150]]).run Tryz.prog W
   = .ok (.agg #[Ty 129,.pointer (some p),.int .u64 386]) W:=by
 rw [rlm]
 simp only [Sem.run_bind,ep220,Result.andThen]
 simp [ReflectliteValue.elem,loadVar,isAgg,underlying,eu220,ha,Result.andThen,eeo220,emk129]
theorem rls (v x:Value):ReflectliteValue.set #[v,x]=(do
  let (some (dst,a,fl),some (src,b,_)):=(← ReflectliteValue.parts v,← ReflectliteValue.parts x)
   | unsupported (.noEntry "extern/(internal/reflectlite.Value).Set.zeroValue")
  if fl / ReflectliteValue.flagAddr % 2 == 0 then unsupported (.noEntry "extern/(internal/reflectlite.Value).Set.unaddressable")
  let val ← loadVar src b
  if ← Rtype.directlyAssignable dst src then storeVar dst a val
  else if ← Rtype.implements dst src then
   if (← Rtype.kind src) == 20 then
    match val with
    | .nilIface=>unsupported (.noEntry "extern/reflectlite: a nil value of one interface type handed on as a value of another")
    | _=>storeVar dst a val
   else storeVar dst a (.iface src val)
  else panicString ("reflectlite.Set: value of type "++(← Rtype.spelt src) ++ " is not assignable to type "++(← Rtype.spelt dst))
  pure (.tuple #[])):=rfl
theorem epa (a:Addr) (w:World):(ReflectliteValue.parts (.agg #[Ty 129,.pointer (some a),.int .u64 386])).run Tryz.prog w=.ok (some (129,a,386)) w:=by kernel_rfl
theorem epb (a:Addr) (w:World):(ReflectliteValue.parts (.agg #[Ty 129,.pointer (some a),.int .u64 130])).run Tryz.prog w=.ok (some (129,a,130)) w:=by kernel_rfl
theorem edi (w:World):(Rtype.directlyAssignable 129 129).run Tryz.prog w=.ok true w:=by kernel_rfl
theorem eset (ta b:Addr) (n:Int) (old:Value) (W:World) (hb:W.cell? b=some (.int .i64 n)) (ht:W.cell? ta=some old) (hf:W.frozen? ta=false) :
  (ReflectliteValue.set #[.agg #[Ty 129,.pointer (some ta),.int .u64 386],.agg #[Ty 129,.pointer (some b),.int .u64 130]]).run Tryz.prog W
   = .ok (.tuple #[]) (W.setCell ta (.int .i64 n)):=by
 rw [rls]
 simp only [Sem.run_bind,epa,epb,Result.andThen]
 simp [ReflectliteValue.flagAddr,loadVar,isAgg,underlying,eu129,hb,Result.andThen,edi,storeVar,Value.cells,storeCells,Addr.add]
 rw [run_store Tryz.prog W ta _ _ (by rfl)]
 simp [ht,hf]
theorem emK (h:Value) (w:World):(Go.method 711 419 (.agg #[h]) "Kind").run Tryz.prog w=.ok (433,h) w:=by kernel_rfl
theorem emE (h:Value) (w:World):(Go.method 711 419 (.agg #[h]) "Elem").run Tryz.prog w=.ok (454,.agg #[h]) w:=by kernel_rfl
theorem emI (h:Value) (w:World):(Go.method 711 419 (.agg #[h]) "Implements").run Tryz.prog w=.ok (455,.agg #[h]) w:=by kernel_rfl
theorem emA (h:Value) (w:World):(Go.method 711 419 (.agg #[h]) "AssignableTo").run Tryz.prog w=.ok (452,.agg #[h]) w:=by kernel_rfl
theorem emU (h:Value) (w:World):(Go.method 711 369 h "Unwrap").run Tryz.prog w=.ok (449,h) w:=by kernel_rfl
end
section
open Sy Go.RowKit Go.Extern.Stop Go.Stop Go.Extern
set_option maxHeartbeats 8000000 in
theorem as_hit (n:Int) (t:Addr) (old:Value) (w:World) (hg:w.cell? ⟨0,0,none⟩=some (.iface 419 (.agg #[Ty 30]))) (ht0:w.cell? t=some old) (hf0:w.frozen? t=false) :
  Calls Tryz.prog 87 #[.iface 129 (.int .i64 n),.iface 220 (.pointer (some t))] w fun ev w'=>ev=.returned (.bool true)∧w'=((((w.alloc (.cells #[.pointer (some t)] 220)).alloc (.cells #[Ty 220,.pointer (some ⟨w.heap.size,0,none⟩),.int .u64 150] 319)).alloc (.cells #[Ty 220,.pointer (some ⟨w.heap.size,0,none⟩),.int .u64 150] 319)).alloc (.cells #[.int .i64 n] 129)).setCell t (.int .i64 n):=by
 have h6 := @run_callFunc_extern Tryz.prog 166 _ (fun args=>ReflectliteValue.unpack (args.getD 0 (.tuple #[]))) Tryz.func166 (by kernel_rfl) (by kernel_rfl) (by kernel_rfl) (by kernel_rfl)
 have h7 := @run_callFunc_extern Tryz.prog 167 _ (ReflectliteValue.methodAny (ReflectliteValue.valueError "reflectlite.Value.Type" 0) (fun t _ _ _=>ReflectliteType.toType t)) Tryz.func167 (by kernel_rfl) (by kernel_rfl) (by kernel_rfl) (by kernel_rfl)
 have h8 := @run_callFunc_extern Tryz.prog 168 _ (ReflectliteValue.method (ReflectliteValue.valueError "reflectlite.Value.IsNil" 0) ReflectliteValue.isNil) Tryz.func168 (by kernel_rfl) (by kernel_rfl) (by kernel_rfl) (by kernel_rfl)
 have h27 := @run_callFunc_extern Tryz.prog 433 _ (ReflectliteType.abiMethod fun t=>do pure (.int .u8 (← Rtype.kind t))) Tryz.func433 (by kernel_rfl) (by kernel_rfl) (by kernel_rfl) (by kernel_rfl)
 have h37 := @run_callFunc_extern Tryz.prog 454 _ (ReflectliteType.method ReflectliteType.elem) Tryz.func454 (by kernel_rfl) (by kernel_rfl) (by kernel_rfl) (by kernel_rfl)
 have h38 := @run_callFunc_extern Tryz.prog 455 _ (ReflectliteType.relation "Implements" ReflectliteType.implements_) Tryz.func455 (by kernel_rfl) (by kernel_rfl) (by kernel_rfl) (by kernel_rfl)
 have h10 := @run_callFunc_extern Tryz.prog 259 _ ReflectliteType.typeOf Tryz.func259 (by kernel_rfl) (by kernel_rfl) (by kernel_rfl) (by kernel_rfl)
 have h35 := @run_callFunc_extern Tryz.prog 452 _ (ReflectliteType.relation "AssignableTo" ReflectliteType.assignableTo) Tryz.func452 (by kernel_rfl) (by kernel_rfl) (by kernel_rfl) (by kernel_rfl)
 have h11 := @run_callFunc_extern Tryz.prog 260 _ (ReflectliteValue.method (ReflectliteValue.valueError "reflectlite.Value.Elem" 0) ReflectliteValue.elem) Tryz.func260 (by kernel_rfl) (by kernel_rfl) (by kernel_rfl) (by kernel_rfl)
 have h12 := @run_callFunc_extern Tryz.prog 261 _ ReflectliteValue.set Tryz.func261 (by kernel_rfl) (by kernel_rfl) (by kernel_rfl) (by kernel_rfl)
 have tO:=eo129
 have a25:=ea129
 have v25:=ev129
 have f6:=ev220
 have f7:=et220
 have k27:=ek220
 have k25:=ek129
 have e27:=ee220
 have mK:=emK
 have mE:=emE
 have mI:=emI
 have mA:=emA
 have i25:=ei129
 have n8:=en220 ⟨w.heap.size,0,none⟩ t ((w.alloc (.cells #[.pointer (some t)] 220)).alloc (.cells #[Ty 220,.pointer (some ⟨w.heap.size,0,none⟩),.int .u64 150] 319)) (by simp)
 have hlt:0<w.heap.size:=by
  rcases Nat.eq_zero_or_pos w.heap.size with h0 | h
  ·simp [World.cell?,h0] at hg
  ·exact h
 have hg2:((w.alloc (.cells #[.pointer (some t)] 220)).alloc (.cells #[Ty 220,.pointer (some ⟨w.heap.size,0,none⟩),.int .u64 150] 319)).cell? ⟨0,0,none⟩=some (.iface 419 (.agg #[Ty 30])):=by
  rw [World.cell?_alloc_lt _ _ ⟨0,0,none⟩ (by simp),World.cell?_alloc_lt _ _ ⟨0,0,none⟩ hlt]; exact hg
 have htl:t.block<w.heap.size:=by
  rcases Nat.lt_or_ge t.block w.heap.size with h | h
  ·exact h
  ·simp [World.cell?,Array.getElem?_eq_none h] at ht0
 have el:=eev220 ⟨w.heap.size,0,none⟩ t (((w.alloc (.cells #[.pointer (some t)] 220)).alloc (.cells #[Ty 220,.pointer (some ⟨w.heap.size,0,none⟩),.int .u64 150] 319)).alloc (.cells #[Ty 220,.pointer (some ⟨w.heap.size,0,none⟩),.int .u64 150] 319)) (by rw [World.cell?_alloc_lt _ _ ⟨w.heap.size,0,none⟩ (by simp; omega)]; simp)
 have st:=eset t ⟨w.heap.size+1+1+1,0,none⟩ n old ((((w.alloc (.cells #[.pointer (some t)] 220)).alloc (.cells #[Ty 220,.pointer (some ⟨w.heap.size,0,none⟩),.int .u64 150] 319)).alloc (.cells #[Ty 220,.pointer (some ⟨w.heap.size,0,none⟩),.int .u64 150] 319)).alloc (.cells #[.int .i64 n] 129))
  (by rw [World.cell?_alloc_at _ _ _ _ (by simp)]; rfl)
  (by rw [World.cell?_alloc_lt _ _ t (by simp; omega),World.cell?_alloc_lt _ _ t (by simp; omega),World.cell?_alloc_lt _ _ t (by simp; omega),World.cell?_alloc_lt _ _ t htl]; exact ht0)
  (by rw [World.frozen?_alloc_old _ _ t (by simp; omega),World.frozen?_alloc_old _ _ t (by simp; omega),World.frozen?_alloc_old _ _ t (by simp; omega),World.frozen?_alloc_old _ _ t (Nat.ne_of_lt htl)]; exact hf0)
 go_enter Tryz.func87,Tryz.ntmps87
 go_wp2
 refine wp_loop_rounds 1 ?_
 rw [rounds_succ]
 go_wp2
 go_ret
 exact ⟨rfl,rfl⟩
end
section
open Sy Go.RowKit Go.Extern.Stop Go.Stop Go.Extern
theorem eta424 (p:Value) (w:World):(Instr.typeAssert (.iface 369 p) 30 424 true).run Tryz.prog w=.ok (.tuple #[.nilIface,.bool false]) w:=run_typeAssert_lacksB Tryz.underlying424 (by kernel_rfl) (by kernel_rfl) p 30 w
theorem eta427 (p:Value) (w:World):(Instr.typeAssert (.iface 369 p) 30 427 true).run Tryz.prog w=.ok (.tuple #[.iface 369 p,.bool true]) w:=run_typeAssert_hasB Tryz.underlying427 (by kernel_rfl) p 30 w
set_option maxHeartbeats 8000000 in
theorem as_fault (n:Int) (f:Nat) (t:Addr) (old:Value) (w:World) (hf:w.cell? ⟨f,2,none⟩=some (.iface 129 (.int .i64 n))) (hg:w.cell? ⟨0,0,none⟩=some (.iface 419 (.agg #[Ty 30]))) (ht0:w.cell? t=some old) (hf0:w.frozen? t=false) :
  Calls Tryz.prog 87 #[.iface 369 (.pointer (some ⟨f,0,none⟩)),.iface 220 (.pointer (some t))] w fun ev w'=>ev=.returned (.bool true)∧w'=((((w.alloc (.cells #[.pointer (some t)] 220)).alloc (.cells #[Ty 220,.pointer (some ⟨w.heap.size,0,none⟩),.int .u64 150] 319)).alloc (.cells #[Ty 220,.pointer (some ⟨w.heap.size,0,none⟩),.int .u64 150] 319)).alloc (.cells #[.int .i64 n] 129)).setCell t (.int .i64 n):=by
 have h6 := @run_callFunc_extern Tryz.prog 166 _ (fun args=>ReflectliteValue.unpack (args.getD 0 (.tuple #[]))) Tryz.func166 (by kernel_rfl) (by kernel_rfl) (by kernel_rfl) (by kernel_rfl)
 have h7 := @run_callFunc_extern Tryz.prog 167 _ (ReflectliteValue.methodAny (ReflectliteValue.valueError "reflectlite.Value.Type" 0) (fun t _ _ _=>ReflectliteType.toType t)) Tryz.func167 (by kernel_rfl) (by kernel_rfl) (by kernel_rfl) (by kernel_rfl)
 have h8 := @run_callFunc_extern Tryz.prog 168 _ (ReflectliteValue.method (ReflectliteValue.valueError "reflectlite.Value.IsNil" 0) ReflectliteValue.isNil) Tryz.func168 (by kernel_rfl) (by kernel_rfl) (by kernel_rfl) (by kernel_rfl)
 have h27 := @run_callFunc_extern Tryz.prog 433 _ (ReflectliteType.abiMethod fun t=>do pure (.int .u8 (← Rtype.kind t))) Tryz.func433 (by kernel_rfl) (by kernel_rfl) (by kernel_rfl) (by kernel_rfl)
 have h37 := @run_callFunc_extern Tryz.prog 454 _ (ReflectliteType.method ReflectliteType.elem) Tryz.func454 (by kernel_rfl) (by kernel_rfl) (by kernel_rfl) (by kernel_rfl)
 have h38 := @run_callFunc_extern Tryz.prog 455 _ (ReflectliteType.relation "Implements" ReflectliteType.implements_) Tryz.func455 (by kernel_rfl) (by kernel_rfl) (by kernel_rfl) (by kernel_rfl)
 have h10 := @run_callFunc_extern Tryz.prog 259 _ ReflectliteType.typeOf Tryz.func259 (by kernel_rfl) (by kernel_rfl) (by kernel_rfl) (by kernel_rfl)
 have h35 := @run_callFunc_extern Tryz.prog 452 _ (ReflectliteType.relation "AssignableTo" ReflectliteType.assignableTo) Tryz.func452 (by kernel_rfl) (by kernel_rfl) (by kernel_rfl) (by kernel_rfl)
 have h11 := @run_callFunc_extern Tryz.prog 260 _ (ReflectliteValue.method (ReflectliteValue.valueError "reflectlite.Value.Elem" 0) ReflectliteValue.elem) Tryz.func260 (by kernel_rfl) (by kernel_rfl) (by kernel_rfl) (by kernel_rfl)
 have h12 := @run_callFunc_extern Tryz.prog 261 _ ReflectliteValue.set Tryz.func261 (by kernel_rfl) (by kernel_rfl) (by kernel_rfl) (by kernel_rfl)
 have tO:=eo129
 have tF:=eo369
 have aF:=ea369
 have mU:=emU
 have t1:=eta424
 have t2:=eta427
 have a25:=ea129
 have v25:=ev129
 have f6:=ev220
 have f7:=et220
 have k27:=ek220
 have k25:=ek129
 have e27:=ee220
 have mK:=emK
 have mE:=emE
 have mI:=emI
 have mA:=emA
 have i25:=ei129
 have n8:=en220 ⟨w.heap.size,0,none⟩ t ((w.alloc (.cells #[.pointer (some t)] 220)).alloc (.cells #[Ty 220,.pointer (some ⟨w.heap.size,0,none⟩),.int .u64 150] 319)) (by simp)
 have hlt:0<w.heap.size:=by
  rcases Nat.eq_zero_or_pos w.heap.size with h0 | h
  ·simp [World.cell?,h0] at hg
  ·exact h
 have hg2:((w.alloc (.cells #[.pointer (some t)] 220)).alloc (.cells #[Ty 220,.pointer (some ⟨w.heap.size,0,none⟩),.int .u64 150] 319)).cell? ⟨0,0,none⟩=some (.iface 419 (.agg #[Ty 30])):=by
  rw [World.cell?_alloc_lt _ _ ⟨0,0,none⟩ (by simp),World.cell?_alloc_lt _ _ ⟨0,0,none⟩ hlt]; exact hg
 have hfl:f<w.heap.size:=by
  rcases Nat.lt_or_ge f w.heap.size with h | h
  ·exact h
  ·simp [World.cell?,Array.getElem?_eq_none h] at hf
 have hf3:(((w.alloc (.cells #[.pointer (some t)] 220)).alloc (.cells #[Ty 220,.pointer (some ⟨w.heap.size,0,none⟩),.int .u64 150] 319)).alloc (.cells #[Ty 220,.pointer (some ⟨w.heap.size,0,none⟩),.int .u64 150] 319)).cell? ⟨f,2,none⟩=some (.iface 129 (.int .i64 n)):=by
  rw [World.cell?_alloc_lt _ _ ⟨f,2,none⟩ (by simp; omega),World.cell?_alloc_lt _ _ ⟨f,2,none⟩ (by simp; omega),World.cell?_alloc_lt _ _ ⟨f,2,none⟩ hfl]; exact hf
 have htl:t.block<w.heap.size:=by
  rcases Nat.lt_or_ge t.block w.heap.size with h | h
  ·exact h
  ·simp [World.cell?,Array.getElem?_eq_none h] at ht0
 have el:=eev220 ⟨w.heap.size,0,none⟩ t (((w.alloc (.cells #[.pointer (some t)] 220)).alloc (.cells #[Ty 220,.pointer (some ⟨w.heap.size,0,none⟩),.int .u64 150] 319)).alloc (.cells #[Ty 220,.pointer (some ⟨w.heap.size,0,none⟩),.int .u64 150] 319)) (by rw [World.cell?_alloc_lt _ _ ⟨w.heap.size,0,none⟩ (by simp; omega)]; simp)
 have st:=eset t ⟨w.heap.size+1+1+1,0,none⟩ n old ((((w.alloc (.cells #[.pointer (some t)] 220)).alloc (.cells #[Ty 220,.pointer (some ⟨w.heap.size,0,none⟩),.int .u64 150] 319)).alloc (.cells #[Ty 220,.pointer (some ⟨w.heap.size,0,none⟩),.int .u64 150] 319)).alloc (.cells #[.int .i64 n] 129))
  (by rw [World.cell?_alloc_at _ _ _ _ (by simp)]; rfl)
  (by rw [World.cell?_alloc_lt _ _ t (by simp; omega),World.cell?_alloc_lt _ _ t (by simp; omega),World.cell?_alloc_lt _ _ t (by simp; omega),World.cell?_alloc_lt _ _ t htl]; exact ht0)
  (by rw [World.frozen?_alloc_old _ _ t (by simp; omega),World.frozen?_alloc_old _ _ t (by simp; omega),World.frozen?_alloc_old _ _ t (by simp; omega),World.frozen?_alloc_old _ _ t (Nat.ne_of_lt htl)]; exact hf0)
 go_enter Tryz.func87,Tryz.ntmps87
 go_wp2
 refine wp_loop_rounds 2 ?_
 rw [rounds_succ]
 go_wp2
 rw [rounds_succ]
 go_wp2
 go_ret
 exact ⟨rfl,rfl⟩
end
section
open Sy
def F40 (R:Ko) (x0:Value) (w:World):Prop:=New (.cells (.int .i64 0:Value).cells 129) w fun x3 w1=>Ct Tryz.prog 87 #[x0,.iface 220 (.pointer (some x3))] w1 fun v6 w2=>onB v6 fun x6=>Lc x3 w2 fun v7=>onI v7 fun x7=>R (.int .i64 x7) w2
noncomputable def b40:Code:=Tryz.f40.body.getD .skip
theorem c40 {R:Ko} {x0:Value} {w:World} (h:F40 R x0 w):Ct Tryz.prog 40 #[x0] w R :=
 ctS (args:=[x0]) (body:=b40) (n:=8) (rs:=[.tmp 2]) Tryz.func40
  (sg (cuts:=[]) trivial h)
variable {K:Ko} {w w':World}
def G0 (w:World):Prop:=w.cell? ⟨0,0,none⟩=some (.iface 419 (.agg #[Ty 30]))
theorem G0.kp {S:Nat→Prop} (h:G0 w) (k:Kp S w w') (hs:¬ S 0):G0 w':=by
 have h0:0<w.heap.size:=by
  rcases Nat.eq_zero_or_pos w.heap.size with h0 | h1
  ·unfold G0 at h; simp [World.cell?,h0] at h
  ·exact h1
 have hb:=k.block 0 h0 hs
 unfold G0 World.cell? at h ⊢
 simp only at h ⊢
 rw [hb]; exact h
theorem p40 {v:Value} {e:Int} (hc:∀ (w1:World) (t:Nat),w.heap.size≤t→Bk w1 t [I 0] 129→Kp No w w1→Calls Tryz.prog 87 #[v,.iface 220 (Pt t 0)] w1 fun ev w'=>ev=.returned (.bool true)∧w'=((((w1.alloc (.cells #[Pt t 0] 220)).alloc (.cells #[Ty 220,.pointer (some ⟨w1.heap.size,0,none⟩),.int .u64 150] 319)).alloc (.cells #[Ty 220,.pointer (some ⟨w1.heap.size,0,none⟩),.int .u64 150] 319)).alloc (.cells #[.int .i64 e] 129)).setCell ⟨t,0,none⟩ (.int .i64 e))
  (h:∀ w',Kp No w w'→K (I e) w'):Ct Tryz.prog 40 #[v] w K:=by
 refine c40 ?_
 unfold F40
 refine new_k [I 0] fun w1 k1 b1 s1=>?_
 refine Calls.mono (hc w1 _ (Nat.le_refl _) b1 k1) fun ev w2 ⟨he,hw⟩=>?_
 subst he
 obtain ⟨wa,hwa⟩:∃ z,z=(((w1.alloc (.cells #[Pt w.heap.size 0] 220)).alloc (.cells #[Ty 220,.pointer (some ⟨w1.heap.size,0,none⟩),.int .u64 150] 319)).alloc (.cells #[Ty 220,.pointer (some ⟨w1.heap.size,0,none⟩),.int .u64 150] 319)).alloc (.cells #[.int .i64 e] 129):=⟨_,rfl⟩
 have ka:Kp No w1 wa:=by rw [hwa]; exact (((Kp.alloc No _ _).trans (Kp.alloc No _ _)).trans (Kp.alloc No _ _)).trans (Kp.alloc No _ _)
 rw [← hwa] at hw
 have ba:Bk wa w.heap.size [I 0] 129:=ka.bk b1 id
 have b2:Bk w2 w.heap.size [I e] 129:=by rw [hw]; exact ba.set 0 (I e)
 have k2:Kp (·=w.heap.size) wa w2:=by rw [hw]; exact Kp.set _ _ _ fun _=>rfl
 simp only [SS,b2.rd (o:=0) (v:=I e) rfl]
 exact h w2 ((k1.trans ka).own k2 (Nat.le_refl _))
theorem k40_er {e:Int} (hg:G0 w) (h:∀ w',Kp No w w'→K (I e) w'):Ct Tryz.prog 40 #[Er e] w K :=
 p40 (fun w1 t ht b1 k1=>as_hit e ⟨t,0,none⟩ (I 0) w1 (hg.kp k1 id) (by rw [b1.cell]; rfl) (b1.frozen 0)) h
theorem k40 {e:Int} {v:Value} (he:e≠0) (hf:Flt w v e) (hg:G0 w) (h:∀ w',Kp No w w'→K (I e) w'):Ct Tryz.prog 40 #[v] w K:=by
 rcases hf with ⟨h0,_⟩ | ⟨_,f,op,a,rfl,hb⟩
 ·exact absurd h0 he
 ·exact p40 (fun w1 t ht b1 k1=>as_fault e f ⟨t,0,none⟩ (I 0) w1 (by have hb1:Bk w1 f [I op,I a,Er e] 371:=k1.bk hb id; rw [hb1.cell]; rfl) (hg.kp k1 id) (by rw [b1.cell]; rfl) (b1.frozen 0)) h
end
end Go.Proofs.YtbgbidpecmepmaaGreatDoor
