/-
  How many names there are; Two answers that tell the same are the same; Paths; plain steps; ScriptOps: two kernels in step.
-/
import Derived.Test.YtbgbidpecmepmaaGreatDoorM19
import Derived.Test.YtbgbidpecmepmaaGreatDoorXI1
import Derived.Sort.KeysCollected
import Derived.StringKeys
import Derived.Test.YtbgbidpecmepmaaGreatDoorM17
set_option maxRecDepth 100000
namespace Go.Proofs.YtbgbidpecmepmaaGreatDoor
section
open Sy
def F16_0B (R:Ko) (C0:Option Addr→Option Addr→Nat→Nat→Option Addr→Nat→Nat→Int→Int→World→Prop) (x0:Option Addr) (a3:Option Addr) (l3 c3:Nat) (a13:Option Addr) (l13 c13:Nat) (x14:Int) (x15:Int) (w:World):Prop:=Ifm (decide ((x15:Int)<x14)) (Ix a13 l13 x15 1 fun x17=>Lc x17 w fun v18=>onS v18 fun x18=>onSome x0 fun x22=>Lc (x22.add 1) w fun v24=>onM v24 fun x24=>Rd Tryz.prog (Instr.lookup 130 (.map x24) (.string x18) false) w fun v26=>onI v26 fun x26=>Rv Tryz.prog (Instr.buildSlice 59 1 #[(0,.agg #[.string x18,.int .i64 x26,.slice none 0 0])]) w fun v28 w3=>onL v28 fun a28 l28 c28=>Rv Tryz.prog (Builtin.append_ #[59,59] 59 #[.slice a3 l3 c3,.slice a28 l28 c28]) w3 fun v29 w4=>onL v29 fun a29 l29 c29=>C0 x0 a29 l29 c29 a13 l13 c13 x14 (IntKind.i64.wrap (x15+1)) w4) (R (.slice a3 l3 c3) w)
def F16_0 (R:Ko) (x0:Option Addr) (a3:Option Addr) (l3 c3:Nat) (a13:Option Addr) (l13 c13:Nat) (x14:Int) (x15:Int) (w:World):Prop:=∃ (Inv:Option Addr→Option Addr→Nat→Nat→Option Addr→Nat→Nat→Int→Int→World→Prop) (μ:Option Addr→Option Addr→Nat→Nat→Option Addr→Nat→Nat→Int→Int→World→Nat),Inv x0 a3 l3 c3 a13 l13 c13 x14 x15 w∧∀ x0 a3 l3 c3 a13 l13 c13 x14 x15 w,Inv x0 a3 l3 c3 a13 l13 c13 x14 x15 w→F16_0B R (fun x0' a3' l3' c3' a13' l13' c13' x14' x15' w'=>Inv x0' a3' l3' c3' a13' l13' c13' x14' x15' w'∧μ x0' a3' l3' c3' a13' l13' c13' x14' x15' w'<μ x0 a3 l3 c3 a13 l13 c13 x14 x15 w) x0 a3 l3 c3 a13 l13 c13 x14 x15 w
def F16 (R:Ko) (x0:Option Addr) (w:World):Prop:=Ifm x0.isNone (R (.slice none 0 0) w) (onSome x0 fun x9=>Lc (x9.add 1) w fun v11=>onM v11 fun x11=>Ct Tryz.prog 46 #[.map x11] w fun v12 w1=>Ct Tryz.prog 45 #[v12] w1 fun v13 w2=>onL v13 fun a13 l13 c13=>F16_0 R x0 none 0 0 a13 l13 c13 (l13:Nat) 0 w2)
noncomputable def b16:Code:=Tryz.f16.body.getD .skip
def q16_0:List Bool:=[false,true,false,true,true,true]
def L16_0 (F:Option Addr→Option Addr→Nat→Nat→Option Addr→Nat→Nat→Int→Int→World→Prop):Env→World→Prop:=fun ρ w=>onP (ρ 0) fun x0=>onL (ρ 3) fun a3 l3 c3=>onL (ρ 13) fun a13 l13 c13=>onI (ρ 14) fun x14=>onI (ρ 15) fun x15=>F x0 a3 l3 c3 a13 l13 c13 x14 x15 w
abbrev T16 (z:Fr) (R:Ko) (p:List Bool) (ρ:Env) (w:World):Prop:=TW z Tryz.prog 32 (segTodo b16 p) (QR Tryz.prog [.tmp 2] R) ρ w
theorem s16_0 (R:Ko):∀ ρ w,(L16_0 (F16_0 R)) ρ w→T16 z0 R q16_0 ρ w:=by
 intro ρ w h
 obtain ⟨x0,e0,h⟩:=onP_of h
 obtain ⟨a3,l3,c3,e3,h⟩:=onL_of h
 obtain ⟨a13,l13,c13,e13,h⟩:=onL_of h
 obtain ⟨x14,e14,h⟩:=onI_of h
 obtain ⟨x15,e15,h⟩:=onI_of h
 obtain ⟨Inv,μ,hi,hb⟩:=h
 refine lpT (fun m=>L16_0 (fun x0 a3 l3 c3 a13 l13 c13 x14 x15 w=>Inv x0 a3 l3 c3 a13 l13 c13 x14 x15 w∧μ x0 a3 l3 c3 a13 l13 c13 x14 x15 w=m)) ?_ (μ x0 a3 l3 c3 a13 l13 c13 x14 x15 w) ρ w ?_
 ·intro m ρ w ih h
  obtain ⟨x0,e0,h⟩:=onP_of h
  obtain ⟨a3,l3,c3,e3,h⟩:=onL_of h
  obtain ⟨a13,l13,c13,e13,h⟩:=onL_of h
  obtain ⟨x14,e14,h⟩:=onI_of h
  obtain ⟨x15,e15,h⟩:=onI_of h
  obtain ⟨hv,hm⟩:=h
  subst hm
  have hh:=hb x0 a3 l3 c3 a13 l13 c13 x14 x15 w hv
  obtain ⟨C0,hC⟩:∃ C,C=fun x0' a3' l3' c3' a13' l13' c13' x14' x15' w'=>Inv x0' a3' l3' c3' a13' l13' c13' x14' x15' w'∧μ x0' a3' l3' c3' a13' l13' c13' x14' x15' w'<μ x0 a3 l3 c3 a13 l13 c13 x14 x15 w:=⟨_,rfl⟩
  rw [← hC] at hh
  have h0:∀ ρ w,(L16_0 C0) ρ w→T16 z0 R q16_0 ρ w:=by
   intro ρ' w' h'
   refine ih ρ' w' ?_
   obtain ⟨x0',e0',h'⟩:=onP_of h'
   obtain ⟨a3',l3',c3',e3',h'⟩:=onL_of h'
   obtain ⟨a13',l13',c13',e13',h'⟩:=onL_of h'
   obtain ⟨x14',e14',h'⟩:=onI_of h'
   obtain ⟨x15',e15',h'⟩:=onI_of h'
   rw [hC] at h'
   refine ⟨_,h'.2,?_⟩
   simp only [e0',e3',e13',e14',e15',L16_0,ons]
   exact ⟨h'.1,by trivial⟩
  rw [← upds_same (ρ:=ρ) [(0,.pointer x0),(3,.slice a3 l3 c3),(13,.slice a13 l13 c13),(14,.int .i64 x14),(15,.int .i64 x15)] (alc e0 (alc e3 (alc e13 (alc e14 (alc e15 aln)))))]
  exact sg (cuts:=[(q16_0,L16_0 C0)]) ⟨h0,trivial⟩ hh
 ·simp only [e0,e3,e13,e14,e15,L16_0,ons]
  exact ⟨hi,by trivial⟩
theorem c16 {R:Ko} {x0:Option Addr} {w:World} (h:F16 R x0 w):Ct Tryz.prog 16 #[.pointer x0] w R :=
 ctS (args:=[.pointer x0]) (body:=b16) (n:=32) (rs:=[.tmp 2]) Tryz.func16
  (sg (cuts:=[(q16_0,L16_0 (F16_0 R))]) ⟨s16_0 R,trivial⟩ h)
variable {K:Ko} {w w':World}
open Go.MapKept
def Cnt (g:ByteArray→Option Int) (n:Nat):Prop:=∃ l:List ByteArray,l.Nodup∧(∀ s,s∈l↔g s≠none)∧l.length=n
def Few (g:ByteArray→Option Int) (n:Nat):Prop:=∃ l:List ByteArray,l.length≤n∧(∀ s,g s≠none→s∈l)∧∀ s∈l,s.size≤9223372036854775807
theorem nodup_le {α:Type} [DecidableEq α]:∀ (l m:List α),l.Nodup→(∀ x∈l,x∈m)→l.length≤m.length
 | [],m,_,_=>by simp
 | a :: l,m,h,hs=>by
  have ha:a∈m:=hs a (by simp)
  have h1:=(List.nodup_cons.1 h).1
  have ih:=nodup_le l (m.erase a) (List.nodup_cons.1 h).2 fun x hx=>(List.mem_erase_of_ne (fun e=>h1 (by rw [← e]; exact hx))).2 (hs x (List.mem_cons_of_mem _ hx))
  have:=List.length_erase_of_mem ha
  have:=List.length_pos_of_mem ha
  simp only [List.length_cons]
  omega
theorem Cnt.uniq {g:ByteArray→Option Int} {n m:Nat} (h:Cnt g n) (k:Cnt g m):n=m:=by
 classical
 obtain ⟨l,l1,l2,l3⟩:=h
 obtain ⟨l',m1,m2,m3⟩:=k
 have q1:=nodup_le l l' l1 fun x hx=>(m2 x).2 ((l2 x).1 hx)
 have q2:=nodup_le l' l m1 fun x hx=>(l2 x).2 ((m2 x).1 hx)
 omega
theorem Cnt.few {g:ByteArray→Option Int} {n m:Nat} (h:Cnt g n) (k:Few g m):n≤m:=by
 classical
 obtain ⟨l,l1,l2,l3⟩:=h
 obtain ⟨l',m1,m2,m3⟩:=k
 have q1:=nodup_le l l' l1 fun x hx=>m2 x ((l2 x).1 hx)
 omega
def keyB:Value→ByteArray | .string s=>s | _=>⟨#[]⟩
theorem map_cnt {m:Nat} {g:ByteArray→Option Int} {es:Array MapEntry} {cl:Nat} (h:MapAt w m .string Value.string (hv g) es cl):Cnt g es.size:=by
 have hk:∀ x∈es.toList,x.key=.string (keyB x.key):=fun x hx=>by
  obtain ⟨s,hs⟩:=keyS.surj _ (h.ks x hx)
  rw [hs]; rfl
 refine ⟨es.toList.map fun x=>keyB x.key,?_,fun s=>?_,by simp⟩
 ·have hn:=h.st.2.2
  have:(es.toList.map fun x=>keyB x.key)=(es.toList.map (·.key)).map keyB:=by rw [List.map_map]; rfl
  rw [this]
  unfold List.Nodup at hn ⊢
  rw [List.pairwise_map]
  rw [List.pairwise_map] at hn ⊢
  refine hn.imp_of_mem ?_
  intro x y hx hy hne he
  exact hne (by rw [hk x hx,hk y hy,he])
 ·rw [List.mem_map]
  constructor
  ·rintro ⟨x,hx,rfl⟩ hn
   have:=h.to x hx (keyB x.key) (hk x hx)
   unfold hv at this
   rw [hn] at this
   cases this
  ·intro hn
   cases e:g s with
   | none=>exact absurd e hn
   | some v =>
    obtain ⟨x,hx,hxs⟩:=h.fro s (I v) (by simp [hv,e])
    exact ⟨x,hx,by rw [hxs]; rfl⟩
def anyR {H:Type}:Value→Option (DataW H × List MemPlace):=fun _=>some (.nil,[])
theorem map_owns {m N:Nat} {g:ByteArray→Option Int} {es:Array MapEntry} {cl:Nat} (h:MapAt w m .string Value.string (hv g) es cl) (hf:Few g N) (hN:N≤1000000) :
  ∃ D0:DataW Nat,w.ownsMap Tryz.prog 9 anyR m es.size D0∧Maps.size D0=es.size∧(strKeys D0).length=es.size:=by
 have hc:=(map_cnt h).few hf
 obtain ⟨l,_,l2,l3⟩:=hf
 refine ⟨.map ((es.toList.map (Go.WideElems.rg Tryz.prog 9 anyR)).foldr DataW.insert []),⟨es,cl,h.hp,⟨by unfold maxLen; omega,h.st,fun x hx=>?_⟩,Nat.le_refl _,rfl⟩,?_,?_⟩
 ·obtain ⟨s,hs⟩:=keyS.surj _ (h.ks x hx)
  have hv':=h.to x hx s hs
  have hsl:s∈l:=l2 s fun e=>by unfold hv at hv'; rw [e] at hv'; cases hv'
  have:=Go.WideMaps.keyOf_string_mk (P:=Tryz.prog) (k:=9) u9s (s:=s) (by unfold maxLen; have:=l3 s hsl; omega)
  exact ⟨_,by unfold Go.WideElems.rd; rw [hs,this]; rfl⟩
 ·rw [Maps.size_eq,(Go.WideShapes.sorted_perm _).length_eq]; simp
 ·unfold strKeys
  rw [List.length_map,(Go.WideShapes.sorted_perm _).length_eq]; simp
theorem ct_in {n:Nat} {f:FuncId} {args:Array Value} {R:Ending→World→Prop} (h:CallsIn Fence.wide n Tryz.prog f args w R) (hk:∀ e w',R e w'→match e with | .returned v=>K v w' | _=>False):Ct Tryz.prog f args w K :=
 (callsIn_wide.1 h).mono hk
theorem e59:∃ i z,Elem Tryz.prog 59 134 3 i z:=elemB_of (by kernel_rfl)
section
variable {lab:Nat→Nat} {q x k m n:Nat} {Kk:Kn} {D:Wd}
theorem k16 {N:Nat} (h:SW w lab q x k m n Kk D) (hf:Few D.nd N) (hN:N≤100000) (hR:∀ a l c w',Kp No w w'→Cnt D.nd l→K (.slice a l c) w'):Ct Tryz.prog 16 #[Pt x 0] w K:=by
 refine c16 ?_
 unfold F16
 simp only [SS,h.hd.rd (o:=1) (v:=.map (some m)) rfl]
 obtain ⟨es,cl,hm⟩:=id h.nd
 obtain ⟨D0,hown,hsz,hkl⟩:=map_owns hm hf (by omega)
 have hc:=map_cnt hm
 have hcf:=hc.few hf
 refine ct_in (Tryz.maps_Keys_46 (some m) w) ?_
 rintro _ w1 ⟨rfl,hw1⟩
 show Ct _ _ _ _ _
 have k1:Kp No w w1:=by rw [hw1]; exact Kp.alloc _ _ _
 have hin:=Tryz.slices_Sorted_keys_45_46 m es.size D0 anyR w hown (by rw [hsz]; unfold maxLen; omega) (by rw [hsz]; omega)
 rw [← hw1] at hin
 refine ct_in hin ?_
 rintro _ w2 ⟨v,ss,rfl,hp,hrow,_,hb⟩
 have k2:Kp No w1 w2:=⟨hb.os,hb.tape,hb.output,hb.size,fun k hk _=>hb.block k hk⟩
 have hss:ss.length=es.size:=by rw [hp.length_eq,hkl]
 have k02:=k1.trans k2
 rw [hss] at hrow
 obtain ⟨ts,hts,htl⟩:∃ ts:List ByteArray,(ss.mergeSort fun x y=>decide (x≤y)).map encStr=ts.map Value.string∧ts.length=es.size:=by
  refine ⟨(ss.mergeSort fun x y=>decide (x≤y)).map fun s=>⟨s.toArray⟩,?_,by simp [hss]⟩
  rw [List.map_map]; rfl
 rw [hts] at hrow
 have hv:∃ a c,v=.slice a es.size c:=by
  rcases hrow.2 with ⟨h1,h2⟩ | ⟨g,cap,cur,h1,_⟩
  ·exact ⟨none,0,by rw [h1,h2]⟩
  ·exact ⟨_,_,h1⟩
 obtain ⟨a,c,rfl⟩:=hv
 simp only [SS]
 unfold F16_0
 obtain ⟨i59,z59,E59⟩:=e59
 refine ⟨fun x0 a3 l3 c3 a13 l13 c13 x14 x15 w'=>x0=some ⟨x,0,none⟩∧a=a13∧es.size=l13∧c=c13∧(es.size:Int)=x14∧Kp No w2 w'∧0≤x15∧x15≤(es.size:Int)∧(l3:Int)=x15∧∃ xs,w'.ownsRow w2.heap.size 134 3 (.slice a3 l3 c3) l3 xs,fun _ _ _ _ _ _ _ _ x15 _=>((es.size:Int) - x15).toNat,
  ⟨rfl,rfl,rfl,rfl,rfl,Kp.refl _ _,by omega,by omega,rfl,[],World.ownsRow_nil _ _ _ _⟩,?_⟩
 rintro _ a3 l3 c3 _ _ _ _ x15 w3 ⟨rfl,rfl,rfl,rfl,rfl,k3,h0,h1,hl3,xs,ho⟩
 unfold F16_0B
 simp only [SS]
 have k03:=k02.trans k3
 by_cases e:x15<(es.size:Int)
 ·rw [if_pos e]
  obtain ⟨i,rfl⟩:∃ i:Nat,x15=i:=⟨x15.toNat,by omega⟩
  have g1:=own_kp hrow k3 fun _ _=>id
  have hi:i<ts.length:=by omega
  rcases own_bk g1 with ⟨_,h2,_⟩ | ⟨g,cur,rfl,_⟩
  ·omega
  ·refine ix_k rfl (by omega) ?_
   simp only [Nat.mul_one,SS]
   rw [own_lc g1 (o:=i) (v:=.string ts[i]) (by omega) (by simp [hi])]
   have h3:=h.no k03
   simp only [SS,h3.hd.rd (o:=1) (v:=.map (some m)) rfl]
   rw [Rd_ok (h3.nd.look keyS u130 u9s (zv33 w3) ts[i] false)]
   obtain ⟨z,hz⟩:∃ z,(if false=true then Value.tuple #[(hv D.nd ts[i]).getD (I 0),.bool (hv D.nd ts[i]).isSome] else (hv D.nd ts[i]).getD (I 0))=I z:=by
    cases e5:D.nd ts[i] with
    | none=>exact ⟨0,by simp [hv,e5]⟩
    | some v=>exact ⟨v,by simp [hv,e5]⟩
   rw [hz]
   simp only [SS]
   refine app1 E59 ho k3.size (by omega) (x:=.agg #[.string ts[i],I z,.slice none 0 0]) rfl (by simp [Value.cells,Value.oneCell']) fun g' c' w4 hg' ho4 hk4=>?_
   have k24:Kp No w2 w4:=k3.step hk4 fun b hb hs=>by have:=(own_lt ho hs).1; omega
   rw [wr1 (by omega) (by omega)]
   exact ⟨⟨k24,by omega,by omega,by omega,_,ho4⟩,by omega⟩
 ·rw [if_neg e]
  have:l3=es.size:=by omega
  exact hR a3 l3 c3 w3 k03 (by rw [this]; exact hc)
end
end
section
open Sy
def F85_0B (R:Ko) (C0:Option Addr→Nat→Nat→Option Addr→Nat→Nat→Int→World→Prop) (a0:Option Addr) (l0 c0:Nat) (a1:Option Addr) (l1 c1:Nat) (x5:Int) (w:World):Prop:=Ifm (decide ((x5:Int)<(l0:Nat))) (Ix a0 l0 x5 1 fun x19=>Lc x19 w.drew fun v20=>onI v20 fun x20=>Ix a1 l1 x5 1 fun x23=>Lc x23 w.drew fun v24=>onI v24 fun x24=>Ifm ((x20:Int) != x24) (R (.bool false) w.drew) (C0 a0 l0 c0 a1 l1 c1 (IntKind.i64.wrap (x5+1)) w.drew)) (R (.bool true) w)
def F85_0 (R:Ko) (a0:Option Addr) (l0 c0:Nat) (a1:Option Addr) (l1 c1:Nat) (x5:Int) (w:World):Prop:=∃ (Inv:Option Addr→Nat→Nat→Option Addr→Nat→Nat→Int→World→Prop) (μ:Option Addr→Nat→Nat→Option Addr→Nat→Nat→Int→World→Nat),Inv a0 l0 c0 a1 l1 c1 x5 w∧∀ a0 l0 c0 a1 l1 c1 x5 w,Inv a0 l0 c0 a1 l1 c1 x5 w→F85_0B R (fun a0' l0' c0' a1' l1' c1' x5' w'=>Inv a0' l0' c0' a1' l1' c1' x5' w'∧μ a0' l0' c0' a1' l1' c1' x5' w'<μ a0 l0 c0 a1 l1 c1 x5 w) a0 l0 c0 a1 l1 c1 x5 w
def F85 (R:Ko) (a0:Option Addr) (l0 c0:Nat) (a1:Option Addr) (l1 c1:Nat) (w:World):Prop:=Ifm (((l0:Nat):Int) != (l1:Nat)) (R (.bool false) w) (F85_0 R a0 l0 c0 a1 l1 c1 0 w)
noncomputable def b85:Code:=Tryz.f85.body.getD .skip
def q85_0:List Bool:=[false,true,false,true,true]
def L85_0 (F:Option Addr→Nat→Nat→Option Addr→Nat→Nat→Int→World→Prop):Env→World→Prop:=fun ρ w=>onL (ρ 0) fun a0 l0 c0=>onL (ρ 1) fun a1 l1 c1=>onI (ρ 5) fun x5=>F a0 l0 c0 a1 l1 c1 x5 w
abbrev T85 (z:Fr) (R:Ko) (p:List Bool) (ρ:Env) (w:World):Prop:=TW z Tryz.prog 26 (segTodo b85 p) (QR Tryz.prog [.tmp 4] R) ρ w
theorem s85_0 (R:Ko):∀ ρ w,(L85_0 (F85_0 R)) ρ w→T85 z0 R q85_0 ρ w:=by
 intro ρ w h
 obtain ⟨a0,l0,c0,e0,h⟩:=onL_of h
 obtain ⟨a1,l1,c1,e1,h⟩:=onL_of h
 obtain ⟨x5,e5,h⟩:=onI_of h
 obtain ⟨Inv,μ,hi,hb⟩:=h
 refine lpT (fun m=>L85_0 (fun a0 l0 c0 a1 l1 c1 x5 w=>Inv a0 l0 c0 a1 l1 c1 x5 w∧μ a0 l0 c0 a1 l1 c1 x5 w=m)) ?_ (μ a0 l0 c0 a1 l1 c1 x5 w) ρ w ?_
 ·intro m ρ w ih h
  obtain ⟨a0,l0,c0,e0,h⟩:=onL_of h
  obtain ⟨a1,l1,c1,e1,h⟩:=onL_of h
  obtain ⟨x5,e5,h⟩:=onI_of h
  obtain ⟨hv,hm⟩:=h
  subst hm
  have hh:=hb a0 l0 c0 a1 l1 c1 x5 w hv
  obtain ⟨C0,hC⟩:∃ C,C=fun a0' l0' c0' a1' l1' c1' x5' w'=>Inv a0' l0' c0' a1' l1' c1' x5' w'∧μ a0' l0' c0' a1' l1' c1' x5' w'<μ a0 l0 c0 a1 l1 c1 x5 w:=⟨_,rfl⟩
  rw [← hC] at hh
  have h0:∀ ρ w,(L85_0 C0) ρ w→T85 z0 R q85_0 ρ w:=by
   intro ρ' w' h'
   refine ih ρ' w' ?_
   obtain ⟨a0',l0',c0',e0',h'⟩:=onL_of h'
   obtain ⟨a1',l1',c1',e1',h'⟩:=onL_of h'
   obtain ⟨x5',e5',h'⟩:=onI_of h'
   rw [hC] at h'
   refine ⟨_,h'.2,?_⟩
   simp only [e0',e1',e5',L85_0,ons]
   exact ⟨h'.1,by trivial⟩
  rw [← upds_same (ρ:=ρ) [(0,.slice a0 l0 c0),(1,.slice a1 l1 c1),(5,.int .i64 x5)] (alc e0 (alc e1 (alc e5 aln)))]
  exact sg (cuts:=[(q85_0,L85_0 C0)]) ⟨h0,trivial⟩ hh
 ·simp only [e0,e1,e5,L85_0,ons]
  exact ⟨hi,by trivial⟩
theorem c85 {R:Ko} {a0:Option Addr} {l0 c0:Nat} {a1:Option Addr} {l1 c1:Nat} {w:World} (h:F85 R a0 l0 c0 a1 l1 c1 w):Ct Tryz.prog 85 #[.slice a0 l0 c0,.slice a1 l1 c1] w R :=
 ctS (args:=[.slice a0 l0 c0,.slice a1 l1 c1]) (body:=b85) (n:=26) (rs:=[.tmp 4]) Tryz.func85
  (sg (cuts:=[(q85_0,L85_0 (F85_0 R))]) ⟨s85_0 R,trivial⟩ h)
def F38_0B (R:Ko) (C0:Addr→Addr→Int→World→Prop) (x2:Addr) (x3:Addr) (x5:Int) (w:World):Prop:=Lc (x2.add 1) w fun v29=>onL v29 fun a29 l29 c29=>Ifm (decide ((x5:Int)<(l29:Nat))) (Lc (x2.add 1) w.drew fun v35=>onL v35 fun a35 l35 c35=>Ix a35 l35 x5 4 fun x37=>La 4 x37 w.drew fun x38=>Lc (x3.add 1) w.drew fun v40=>onL v40 fun a40 l40 c40=>Ix a40 l40 x5 4 fun x42=>La 4 x42 w.drew fun x43=>Rd Tryz.prog (Bin .neq 37 (.tmp 38) (.tmp 43) (.agg x38) (.agg x43)) w.drew fun v44=>onB v44 fun x44=>Ifm x44 (R (.bool false) w.drew) (C0 x2 x3 (IntKind.i64.wrap (x5+1)) w.drew)) (R (.bool true) w)
def F38_0 (R:Ko) (x2:Addr) (x3:Addr) (x5:Int) (w:World):Prop:=∃ (Inv:Addr→Addr→Int→World→Prop) (μ:Addr→Addr→Int→World→Nat),Inv x2 x3 x5 w∧∀ x2 x3 x5 w,Inv x2 x3 x5 w→F38_0B R (fun x2' x3' x5' w'=>Inv x2' x3' x5' w'∧μ x2' x3' x5' w'<μ x2 x3 x5 w) x2 x3 x5 w
def F38 (R:Ko) (x0:Array Value) (x1:Array Value) (w:World):Prop:=New (.cells (.agg x0:Value).cells 47) w fun x2 w1=>New (.cells (.agg x1:Value).cells 47) w1 fun x3 w2=>Lc (x2.add 0) w2 fun v7=>onI v7 fun x7=>Lc (x3.add 0) w2 fun v9=>onI v9 fun x9=>Ifm ((x7:Int) != x9) (R (.bool false) w2) (La 6 (x2.add 2) w2 fun x13=>La 6 (x3.add 2) w2 fun x15=>Rd Tryz.prog (Bin .neq 41 (.tmp 13) (.tmp 15) (.agg x13) (.agg x15)) w2 fun v16=>onB v16 fun x16=>Ifm x16 (R (.bool false) w2) (Lc (x2.add 1) w2 fun v20=>onL v20 fun a20 l20 c20=>Lc (x3.add 1) w2 fun v23=>onL v23 fun a23 l23 c23=>Ifm (((l20:Nat):Int) != (l23:Nat)) (R (.bool false) w2) (F38_0 R x2 x3 0 w2)))
noncomputable def b38:Code:=Tryz.f38.body.getD .skip
def q38_0:List Bool:=[false,true,false,true,true]
def L38_0 (F:Addr→Addr→Int→World→Prop):Env→World→Prop:=fun ρ w=>onA (ρ 2) fun x2=>onA (ρ 3) fun x3=>onI (ρ 5) fun x5=>F x2 x3 x5 w
abbrev T38 (z:Fr) (R:Ko) (p:List Bool) (ρ:Env) (w:World):Prop:=TW z Tryz.prog 45 (segTodo b38 p) (QR Tryz.prog [.tmp 4] R) ρ w
theorem s38_0 (R:Ko):∀ ρ w,(L38_0 (F38_0 R)) ρ w→T38 z0 R q38_0 ρ w:=by
 intro ρ w h
 obtain ⟨x2,e2,h⟩:=onA_of h
 obtain ⟨x3,e3,h⟩:=onA_of h
 obtain ⟨x5,e5,h⟩:=onI_of h
 obtain ⟨Inv,μ,hi,hb⟩:=h
 refine lpT (fun m=>L38_0 (fun x2 x3 x5 w=>Inv x2 x3 x5 w∧μ x2 x3 x5 w=m)) ?_ (μ x2 x3 x5 w) ρ w ?_
 ·intro m ρ w ih h
  obtain ⟨x2,e2,h⟩:=onA_of h
  obtain ⟨x3,e3,h⟩:=onA_of h
  obtain ⟨x5,e5,h⟩:=onI_of h
  obtain ⟨hv,hm⟩:=h
  subst hm
  have hh:=hb x2 x3 x5 w hv
  obtain ⟨C0,hC⟩:∃ C,C=fun x2' x3' x5' w'=>Inv x2' x3' x5' w'∧μ x2' x3' x5' w'<μ x2 x3 x5 w:=⟨_,rfl⟩
  rw [← hC] at hh
  have h0:∀ ρ w,(L38_0 C0) ρ w→T38 z0 R q38_0 ρ w:=by
   intro ρ' w' h'
   refine ih ρ' w' ?_
   obtain ⟨x2',e2',h'⟩:=onA_of h'
   obtain ⟨x3',e3',h'⟩:=onA_of h'
   obtain ⟨x5',e5',h'⟩:=onI_of h'
   rw [hC] at h'
   refine ⟨_,h'.2,?_⟩
   simp only [e2',e3',e5',L38_0,ons]
   exact ⟨h'.1,by trivial⟩
  rw [← upds_same (ρ:=ρ) [(2,.pointer (some x2)),(3,.pointer (some x3)),(5,.int .i64 x5)] (alc e2 (alc e3 (alc e5 aln)))]
  exact sg (cuts:=[(q38_0,L38_0 C0)]) ⟨h0,trivial⟩ hh
 ·simp only [e2,e3,e5,L38_0,ons]
  exact ⟨hi,by trivial⟩
theorem c38 {R:Ko} {x0:Array Value} {x1:Array Value} {w:World} (h:F38 R x0 x1 w):Ct Tryz.prog 38 #[.agg x0,.agg x1] w R :=
 ctS (args:=[.agg x0,.agg x1]) (body:=b38) (n:=45) (rs:=[.tmp 4]) Tryz.func38
  (sg (cuts:=[(q38_0,L38_0 (F38_0 R))]) ⟨s38_0 R,trivial⟩ h)
def F37 (R:Ko) (x0:Array Value) (x1:Array Value) (w:World):Prop:=New (.cells (.agg x0:Value).cells 44) w fun x2 w1=>New (.cells (.agg x1:Value).cells 44) w1 fun x3 w2=>Lc (x2.add 0) w2 fun v7=>onI v7 fun x7=>Lc (x3.add 0) w2 fun v9=>onI v9 fun x9=>Ifm ((x7:Int) == x9) (La 2 (x2.add 1) w2 fun x13=>La 2 (x3.add 1) w2 fun x15=>Rd Tryz.prog (Bin .eql 35 (.tmp 13) (.tmp 15) (.agg x13) (.agg x15)) w2 fun v16=>onB v16 fun x16=>Ifm x16 (La 2 (x2.add 3) w2 fun x20=>La 2 (x3.add 3) w2 fun x22=>Rd Tryz.prog (Bin .eql 35 (.tmp 20) (.tmp 22) (.agg x20) (.agg x22)) w2 fun v23=>onB v23 fun x23=>Ifm x23 (Lc (x2.add 5) w2 fun v27=>onB v27 fun x27=>Lc (x3.add 5) w2 fun v29=>onB v29 fun x29=>Ifm (x27 == x29) (Lc (x2.add 6) w2 fun v34=>onI v34 fun x34=>Lc (x3.add 6) w2 fun v36=>onI v36 fun x36=>Ifm ((x34:Int) == x36) (Lc (x2.add 7) w2 fun v41=>onI v41 fun x41=>Lc (x3.add 7) w2 fun v43=>onI v43 fun x43=>Ifm ((x41:Int) == x43) (Lc (x2.add 8) w2 fun v48=>onI v48 fun x48=>Lc (x3.add 8) w2 fun v50=>onI v50 fun x50=>Ifm ((x48:Int) == x50) (Lc (x2.add 9) w2 fun v55=>onI v55 fun x55=>Lc (x3.add 9) w2 fun v57=>onI v57 fun x57=>Ifm ((x55:Int) == x57) (La 6 (x2.add 10) w2 fun x62=>La 6 (x3.add 10) w2 fun x64=>Rd Tryz.prog (Bin .eql 41 (.tmp 62) (.tmp 64) (.agg x62) (.agg x64)) w2 fun v65=>onB v65 fun x65=>Ifm x65 (La 6 (x2.add 16) w2 fun x69=>La 6 (x3.add 16) w2 fun x71=>Rd Tryz.prog (Bin .eql 41 (.tmp 69) (.tmp 71) (.agg x69) (.agg x71)) w2 fun v72=>onB v72 fun x72=>Ifm x72 (Lc (x2.add 22) w2 fun v77=>onL v77 fun a77 l77 c77=>Lc (x3.add 22) w2 fun v79=>onL v79 fun a79 l79 c79=>Ct Tryz.prog 85 #[.slice a77 l77 c77,.slice a79 l79 c79] w2 fun v80 w3=>onB v80 fun x80=>Ifm x80 (Lc (x2.add 23) w3 fun v84=>onL v84 fun a84 l84 c84=>Lc (x3.add 23) w3 fun v86=>onL v86 fun a86 l86 c86=>Ct Tryz.prog 85 #[.slice a84 l84 c84,.slice a86 l86 c86] w3 fun v87 w4=>onB v87 fun x87=>R (.bool x87) w4) (R (.bool false) w3)) (R (.bool false) w2)) (R (.bool false) w2)) (R (.bool false) w2)) (R (.bool false) w2)) (R (.bool false) w2)) (R (.bool false) w2)) (R (.bool false) w2)) (R (.bool false) w2)) (R (.bool false) w2)) (R (.bool false) w2)
noncomputable def b37:Code:=Tryz.f37.body.getD .skip
theorem c37 {R:Ko} {x0:Array Value} {x1:Array Value} {w:World} (h:F37 R x0 x1 w):Ct Tryz.prog 37 #[.agg x0,.agg x1] w R :=
 ctS (args:=[.agg x0,.agg x1]) (body:=b37) (n:=89) (rs:=[.tmp 4]) Tryz.func37
  (sg (cuts:=[]) trivial h)
def F11 (R:Ko) (x0:Array Value) (x1:Array Value) (w:World):Prop:=New (.cells (.agg x0:Value).cells 49) w fun x2 w1=>New (.cells (.agg x1:Value).cells 49) w1 fun x3 w2=>Lc (x2.add 0) w2 fun v6=>onI v6 fun x6=>Lc (x3.add 0) w2 fun v8=>onI v8 fun x8=>Ifm ((x6:Int) == x8) (Lc (x2.add 1) w2 fun v12=>onI v12 fun x12=>Lc (x3.add 1) w2 fun v14=>onI v14 fun x14=>Ifm ((x12:Int) == x14) (La 24 (x2.add 2) w2 fun x19=>La 24 (x3.add 2) w2 fun x21=>Ct Tryz.prog 37 #[.agg x19,.agg x21] w2 fun v22 w3=>onB v22 fun x22=>Ifm x22 (La 8 (x2.add 26) w3 fun x26=>La 8 (x3.add 26) w3 fun x28=>Ct Tryz.prog 38 #[.agg x26,.agg x28] w3 fun v29 w4=>onB v29 fun x29=>R (.bool x29) w4) (R (.bool false) w3)) (R (.bool false) w2)) (R (.bool false) w2)
noncomputable def b11:Code:=Tryz.f11.body.getD .skip
theorem c11 {R:Ko} {x0:Array Value} {x1:Array Value} {w:World} (h:F11 R x0 x1 w):Ct Tryz.prog 11 #[.agg x0,.agg x1] w R :=
 ctS (args:=[.agg x0,.agg x1]) (body:=b11) (n:=31) (rs:=[.tmp 4]) Tryz.func11
  (sg (cuts:=[]) trivial h)
variable {K:Ko} {w w':World}
theorem own_max {B e sz n:Nat} {v:Value} {xs:List Value} (h:w.ownsRow B e sz v n xs):n<9223372036854775808:=by
 rcases h.2 with ⟨_,h⟩ | ⟨g,cap,cur,_,_,_,h1,h2,_⟩
 ·omega
 ·unfold maxLen at h2; omega
theorem wr2 {i:Int} (h1:0≤i) (h2:i<9223372036854775807):IntKind.i64.wrap (i+1)=i+1:=by rw [IntKind.wrap_i64]; omega
theorem ix_own {B e sz n m c i:Nat} {a:Option Addr} {xs:List Value} (h:w.ownsRow B e sz (.slice a m c) n xs) (hi:i<n) {x:Int} (hx:x=(i:Nat)) {k:Addr→Prop} (hk:∀ g,a=some ⟨g,0,none⟩→m=n→k ⟨g,i*sz,none⟩):Ix a m x sz k:=by
 subst hx
 rcases own_bk h with ⟨_,h1,_,h2,_⟩ | ⟨g,cur,rfl,rfl,_⟩
 ·omega
 ·refine ⟨by omega,by omega,?_⟩
  simp only [onSome_eq,add_eq,Int.toNat_natCast,Nat.zero_add]
  exact hk g rfl rfl
theorem k85 {B1 B2 l1 c1 l2 c2:Nat} {a1 a2:Option Addr} {xs:List Int} (h1:w.ownsRow B1 33 1 (.slice a1 l1 c1) xs.length (xs.map I)) (h2:w.ownsRow B2 33 1 (.slice a2 l2 c2) xs.length (xs.map I)) (hR:∀ w',Kp No w w'→K (.bool true) w'):Ct Tryz.prog 85 #[.slice a1 l1 c1,.slice a2 l2 c2] w K:=by
 refine c85 ?_
 unfold F85
 have e1:l1=xs.length:=by rcases own_bk h1 with ⟨_,h1,_,h2,_⟩ | ⟨_,_,_,h1,_⟩ <;> omega
 have e2:l2=xs.length:=by rcases own_bk h2 with ⟨_,h1,_,h2,_⟩ | ⟨_,_,_,h1,_⟩ <;> omega
 have hm:=own_max h1
 subst e1; subst e2
 simp only [SS]
 unfold F85_0
 refine ⟨fun a0 l0 c0 a1' l1' c1' x5 w'=>a1=a0∧xs.length=l0∧c1=c0∧a2=a1'∧xs.length=l1'∧c2=c1'∧Kp No w w'∧0≤x5∧x5≤(xs.length:Int),fun _ _ _ _ _ _ x5 _=>((xs.length:Int) - x5).toNat,⟨rfl,rfl,rfl,rfl,rfl,rfl,Kp.refl _ _,by omega,by omega⟩,?_⟩
 rintro _ _ _ _ _ _ x5 w1 ⟨rfl,rfl,rfl,rfl,rfl,rfl,k1,h0,hx⟩
 unfold F85_0B
 simp only [SS]
 by_cases e:x5<(xs.length:Int)
 ·rw [if_pos e]
  obtain ⟨i,rfl⟩:∃ i:Nat,x5=i:=⟨x5.toNat,by omega⟩
  have g1:=own_kp h1 k1 fun _ _=>id
  have g2:=own_kp h2 k1 fun _ _=>id
  have hi:i<xs.length:=by omega
  have hv:(xs.map I)[i]?=some (I xs[i]):=by simp [hi]
  refine ix_own g1 hi rfl fun p hp _=>?_
  subst hp
  rw [Nat.mul_one,own_lc g1 (by omega) hv]
  simp only [SS]
  refine ix_own g2 hi rfl fun p' hp' _=>?_
  subst hp'
  rw [Nat.mul_one,own_lc g2 (by omega) hv]
  simp only [SS]
  rw [wr2 (by omega) (by omega)]
  exact ⟨⟨k1.drR _,by omega,by omega⟩,by omega⟩
 ·rw [if_neg e]; exact hR _ k1
theorem rs41:intStruct Tryz.prog 41 6=true:=by kernel_rfl
theorem rs37:intStruct Tryz.prog 37 4=true:=by kernel_rfl
theorem eq41 (g o l d c t:Int) (x y:Operand) (w:World) (k:Value→Prop):Rd Tryz.prog (Bin .eql 41 x y (.agg #[I g,I o,I l,I d,I c,I t]) (.agg #[I g,I o,I l,I d,I c,I t])) w k=k (.bool true):=by
 have:=(eq_ints rs41 (x:=x) (y:=y) [g,o,l,d,c,t] [g,o,l,d,c,t] rfl rfl w k).1
 rw [beq_self_eq_true] at this
 exact this
theorem ne41 (g o l d c t:Int) (x y:Operand) (w:World) (k:Value→Prop):Rd Tryz.prog (Bin .neq 41 x y (.agg #[I g,I o,I l,I d,I c,I t]) (.agg #[I g,I o,I l,I d,I c,I t])) w k=k (.bool false):=by
 have:=(eq_ints rs41 (x:=x) (y:=y) [g,o,l,d,c,t] [g,o,l,d,c,t] rfl rfl w k).2
 rw [beq_self_eq_true] at this
 exact this
theorem ne37 (a b c d:Int) (x y:Operand) (w:World) (k:Value→Prop):Rd Tryz.prog (Bin .neq 37 x y (.agg #[I a,I b,I c,I d]) (.agg #[I a,I b,I c,I d])) w k=k (.bool false):=by
 have:=(eq_ints rs37 (x:=x) (y:=y) [a,b,c,d] [a,b,c,d] rfl rfl w k).2
 rw [beq_self_eq_true] at this
 exact this
theorem eq35s (a b:Int) (x y:Operand) (w:World) (k:Value→Prop):Rd Tryz.prog (Bin .eql 35 x y (.agg #[I a,I b]) (.agg #[I a,I b])) w k=k (.bool true):=by
 have:=(eq_ints rs35 (x:=x) (y:=y) [a,b] [a,b] rfl rfl w k).1
 rw [beq_self_eq_true] at this
 exact this
theorem jobs_drop (js:List Jb) {i:Nat} (hi:i<js.length):((cellsJ js).drop (i*4)).take 4=js[i].cells:=by
 have:=Flat_part (f:=jobC js) (n:=js.length) (jobC_len js) (i:=i) (j:=0) (m:=4) hi (by omega)
 rw [Nat.add_zero] at this
 unfold cellsJ
 rw [this]
 simp [jobC,hi,Jb.cells]
theorem k38 {v1 v2:TkV} {t:Tk} (h1:TkAt w v1 t) (h2:TkAt w v2 t) (hR:∀ w',Kp No w w'→K (.bool true) w'):Ct Tryz.prog 38 #[.agg v1.cells.toArray,.agg v2.cells.toArray] w K:=by
 refine c38 ?_
 unfold F38
 refine new_k v1.cells fun w1 k1 b1 s1=>?_
 refine new_k v2.cells fun w2 k2 b2 s2=>?_
 have b12:Bk w2 w.heap.size v1.cells 47:=k2.bk b1 id
 have k02:=k1.trans k2
 have la6:∀ {w':World} {b:Nat} {v:TkV},Bk w' b v.cells 47→∀ k,La 6 ⟨b,2,none⟩ w' k=k #[I v.acc.g,I v.acc.o,I v.acc.l,I v.acc.d,I v.acc.c,I v.acc.t]:=fun hb k=>by rw [hb.la (by simp [TkV.cells])]; rfl
 have e1:=h1.prio
 have e2:=h2.prio
 have a1:=h1.acc
 have a2:=h2.acc
 have j1:=h1.jl
 have j2:=h2.jl
 have hf:=h1.few
 simp only [SS,b12.rd (o:=0) (v:=I v1.prio) rfl,b2.rd (o:=0) (v:=I v2.prio) rfl,la6 b12,la6 b2,e1,e2,a1,a2,ne41,b12.rd (o:=1) (v:=.slice v1.ja v1.jl v1.jc) rfl,b2.rd (o:=1) (v:=.slice v2.ja v2.jl v2.jc) rfl]
 rw [if_pos (by omega)]
 unfold F38_0
 refine ⟨fun x2 x3 x5 w'=>x2=⟨w.heap.size,0,none⟩∧x3=⟨w1.heap.size,0,none⟩∧Kp No w2 w'∧0≤x5∧x5≤(t.jobs.length:Int),fun _ _ x5 _=>((t.jobs.length:Int) - x5).toNat,⟨rfl,rfl,Kp.refl _ _,by omega,by omega⟩,?_⟩
 rintro _ _ x5 w3 ⟨rfl,rfl,k3,h0,hx⟩
 unfold F38_0B
 have b13:Bk w3 w.heap.size v1.cells 47:=k3.bk b12 id
 have b23:Bk w3 w1.heap.size v2.cells 47:=k3.bk b2 id
 simp only [SS,b13.rd (o:=1) (v:=.slice v1.ja v1.jl v1.jc) rfl,b23.rd (o:=1) (v:=.slice v2.ja v2.jl v2.jc) rfl,j1,j2]
 by_cases e:x5<(t.jobs.length:Int)
 ·rw [if_pos e]
  obtain ⟨i,rfl⟩:∃ i:Nat,x5=i:=⟨x5.toNat,by omega⟩
  have k03:=k02.trans k3
  have g1:=own_kp h1.jobs k03 fun _ _=>id
  have g2:=own_kp h2.jobs k03 fun _ _=>id
  rw [j1] at g1
  rw [j2] at g2
  have hi:i<t.jobs.length:=by omega
  refine ix_own g1 hi rfl fun p hp _=>?_
  rw [hp] at g1
  rw [own_la g1 (by omega),jobs_drop _ hi]
  refine ix_own g2 hi rfl fun p' hp' _=>?_
  rw [hp'] at g2
  rw [own_la g2 (by omega),jobs_drop _ hi]
  rw [show (t.jobs[i].cells.toArray)=#[I t.jobs[i].n,I t.jobs[i].c,I t.jobs[i].a,I t.jobs[i].d] from rfl,ne37]
  simp only [SS]
  rw [wr2 (by omega) (by omega)]
  exact ⟨⟨k3.drR _,by omega,by omega⟩,by omega⟩
 ·rw [if_neg e]; exact hR _ (k02.trans k3)
theorem k37 {B1 B2:Nat} {n:Nd} {e:En} {ks ts:List Int} {ka1 kl1 kc1 ta1 tl1 tc1 ka2 kl2 kc2 ta2 tl2 tc2:_} (h1:w.ownsRow B1 33 1 (.slice ka1 kl1 kc1) ks.length (ks.map I)) (h2:w.ownsRow B1 33 1 (.slice ta1 tl1 tc1) ts.length (ts.map I))
  (h3:w.ownsRow B2 33 1 (.slice ka2 kl2 kc2) ks.length (ks.map I)) (h4:w.ownsRow B2 33 1 (.slice ta2 tl2 tc2) ts.length (ts.map I)) (hR:∀ w',Kp No w w'→K (.bool true) w') :
  Ct Tryz.prog 37 #[.agg (toldN n e (.slice ka1 kl1 kc1) (.slice ta1 tl1 tc1)).toArray,.agg (toldN n e (.slice ka2 kl2 kc2) (.slice ta2 tl2 tc2)).toArray] w K:=by
 refine c37 ?_
 unfold F37
 refine new_k (toldN n e (.slice ka1 kl1 kc1) (.slice ta1 tl1 tc1)) fun w1 k1 b1 s1=>?_
 refine new_k (toldN n e (.slice ka2 kl2 kc2) (.slice ta2 tl2 tc2)) fun w2 k2 b2 s2=>?_
 have k02:=k1.trans k2
 have b12:=k2.bk b1 id
 have l2:∀ {w':World} {b:Nat} {x y:Value},Bk w' b (toldN n e x y) 44→(∀ k,La 2 ⟨b,1,none⟩ w' k=k #[I n.bg.nq,I n.bg.np])∧(∀ k,La 2 ⟨b,3,none⟩ w' k=k #[I n.bg.xq,I n.bg.xp])∧(∀ k,La 6 ⟨b,10,none⟩ w' k=k #[I e.acc.g,I e.acc.o,I e.acc.l,I e.acc.d,I e.acc.c,I e.acc.t])∧(∀ k,La 6 ⟨b,16,none⟩ w' k=k #[I e.clo.g,I e.clo.o,I e.clo.l,I e.clo.d,I e.clo.c,I e.clo.t]) :=
  fun hb=>⟨fun k=>by rw [hb.la (by simp [toldN,Bg.cells,Ac.cells])]; rfl,fun k=>by rw [hb.la (by simp [toldN,Bg.cells,Ac.cells])]; rfl,fun k=>by rw [hb.la (by simp [toldN,Bg.cells,Ac.cells])]; rfl,fun k=>by rw [hb.la (by simp [toldN,Bg.cells,Ac.cells])]; rfl⟩
 have rd1:∀ {o:Nat} {v:Value},(toldN n e (.slice ka1 kl1 kc1) (.slice ta1 tl1 tc1))[o]?=some v→∀ k,Lc ⟨w.heap.size,o,none⟩ w2 k=k v:=fun hv k=>Bk.rd b12 hv k
 have rd2:∀ {o:Nat} {v:Value},(toldN n e (.slice ka2 kl2 kc2) (.slice ta2 tl2 tc2))[o]?=some v→∀ k,Lc ⟨w1.heap.size,o,none⟩ w2 k=k v:=fun hv k=>Bk.rd b2 hv k
 obtain ⟨p1,p2,p3,p4⟩:=l2 b12
 obtain ⟨q1,q2,q3,q4⟩:=l2 b2
 simp only [SS,Nat.reduceAdd,rd1 (o:=0) (v:=I n.par) rfl,rd2 (o:=0) (v:=I n.par) rfl,p1,q1,p2,q2,eq35s,rd1 (o:=5) (v:=.bool n.bg.dy) rfl,rd2 (o:=5) (v:=.bool n.bg.dy) rfl,beq_self_eq_true,
  rd1 (o:=6) (v:=I n.bg.left) rfl,rd2 (o:=6) (v:=I n.bg.left) rfl,rd1 (o:=7) (v:=I n.bg.st) rfl,rd2 (o:=7) (v:=I n.bg.st) rfl,rd1 (o:=8) (v:=I n.bg.en) rfl,rd2 (o:=8) (v:=I n.bg.en) rfl,rd1 (o:=9) (v:=I n.clk) rfl,rd2 (o:=9) (v:=I n.clk) rfl,p3,q3,p4,q4,eq41,
  rd1 (o:=22) (v:=.slice ka1 kl1 kc1) rfl,rd2 (o:=22) (v:=.slice ka2 kl2 kc2) rfl]
 refine k85 (own_kp h1 k02 fun _ _=>id) (own_kp h3 k02 fun _ _=>id) fun w3 k3=>?_
 have b13:Bk w3 w.heap.size (toldN n e (.slice ka1 kl1 kc1) (.slice ta1 tl1 tc1)) 44:=k3.bk b12 id
 have b23:Bk w3 w1.heap.size (toldN n e (.slice ka2 kl2 kc2) (.slice ta2 tl2 tc2)) 44:=k3.bk b2 id
 simp only [SS,b13.rd (o:=23) (v:=.slice ta1 tl1 tc1) rfl,b23.rd (o:=23) (v:=.slice ta2 tl2 tc2) rfl]
 refine k85 (own_kp h2 (k02.trans k3) fun _ _=>id) (own_kp h4 (k02.trans k3) fun _ _=>id) fun w4 k4=>?_
 exact hR _ ((k02.trans k3).trans k4)
set_option maxHeartbeats 2000000 in
theorem k11 {B1 B2:Nat} {c1 c2:List Value} {a:AnsA} (h1:AnsAt w B1 c1 a) (h2:AnsAt w B2 c2 a) (hR:∀ w',Kp No w w'→K (.bool true) w'):Ct Tryz.prog 11 #[.agg c1.toArray,.agg c2.toArray] w K:=by
 refine c11 ?_
 unfold F11
 refine new_k c1 fun w1 k1 b1 s1=>?_
 refine new_k c2 fun w2 k2 b2 s2=>?_
 have k02:=k1.trans k2
 have b12:Bk w2 w.heap.size c1 49:=k2.bk b1 id
 obtain ⟨n1,t1,rfl,hn1,ht1⟩:=h1
 obtain ⟨n2,t2,rfl,hn2,ht2⟩:=h2
 have z1:=nd_len hn1
 have z2:=nd_len hn2
 have y1:=tk_len ht1
 have y2:=tk_len ht2
 have ln:∀ {w':World} {b:Nat} {n t:List Value},n.length=24→t.length=8→Bk w' b (I a.err :: I a.hd :: (n++t)) 49→(∀ k,La 24 ⟨b,2,none⟩ w' k=k n.toArray)∧(∀ k,La 8 ⟨b,26,none⟩ w' k=k t.toArray):=fun hn ht hb =>
  ⟨fun k=>by rw [hb.la (by simp [hn,ht])]; simp [hn],fun k=>by rw [hb.la (by simp [hn,ht])]; simp [List.drop_append,hn,List.take_of_length_le (Nat.le_of_eq ht)]⟩
 obtain ⟨p1,_⟩:=ln z1 y1 b12
 obtain ⟨q1,_⟩:=ln z2 y2 b2
 simp only [SS,b12.rd (o:=0) (v:=I a.err) rfl,b2.rd (o:=0) (v:=I a.err) rfl,b12.rd (o:=1) (v:=I a.hd) rfl,b2.rd (o:=1) (v:=I a.hd) rfl,p1,q1]
 have nodes:(∀ w',Kp No w2 w'→onB (.bool true) fun x22=>Ifm x22 (La 8 ((Addr.mk w.heap.size 0 none).add 26) w' fun x26=>La 8 ((Addr.mk w1.heap.size 0 none).add 26) w' fun x28=>Ct Tryz.prog 38 #[.agg x26,.agg x28] w' fun v29 w4=>onB v29 fun x29=>K (.bool x29) w4) (K (.bool false) w')) →
   Ct Tryz.prog 37 #[.agg n1.toArray,.agg n2.toArray] w2 fun v22 w3=>onB v22 fun x22=>Ifm x22 (La 8 ((Addr.mk w.heap.size 0 none).add 26) w3 fun x26=>La 8 ((Addr.mk w1.heap.size 0 none).add 26) w3 fun x28=>Ct Tryz.prog 38 #[.agg x26,.agg x28] w3 fun v29 w4=>onB v29 fun x29=>K (.bool x29) w4) (K (.bool false) w3):=by
  intro h
  cases e:a.nd with
  | none =>
   rw [e] at hn1 hn2
   have hn1:n1=zN:=hn1
   have hn2:n2=zN:=hn2
   subst hn1; subst hn2
   have nil:∀ xs:List Int,xs=[]→w2.ownsRow 0 33 1 (.slice none 0 0) xs.length (xs.map I):=fun xs hx=>by subst hx; exact World.ownsRow_nil w2 0 _ _
   rw [show zN=toldN ⟨0,zB,0,emptyS⟩ zE (.slice none 0 0) (.slice none 0 0) from rfl]
   refine k37 (nil [] rfl) (nil [] rfl) (nil [] rfl) (nil [] rfl) fun w' k'=>?_
   exact h w' k'
  | some r =>
   obtain ⟨n,en,ks,ts⟩:=r
   rw [e] at hn1 hn2
   obtain ⟨ka,kl,kc,ta,tl,tc,rfl,o1,o2⟩:=hn1
   obtain ⟨ka',kl',kc',ta',tl',tc',rfl,o3,o4⟩:=hn2
   exact k37 (own_kp o1 k02 fun _ _=>id) (own_kp o2 k02 fun _ _=>id) (own_kp o3 k02 fun _ _=>id) (own_kp o4 k02 fun _ _=>id) h
 simp only [SS] at nodes
 refine nodes fun w3 k3=>?_
 have b13:Bk w3 w.heap.size (I a.err :: I a.hd :: (n1++t1)) 49:=k3.bk b12 id
 have b23:Bk w3 w1.heap.size (I a.err :: I a.hd :: (n2++t2)) 49:=k3.bk b2 id
 rw [(ln z1 y1 b13).2,(ln z2 y2 b23).2]
 have k03:=k02.trans k3
 have fin:∀ w4,Kp No w3 w4→onB (.bool true) fun x29=>K (.bool x29) w4:=fun w4 k4=>hR w4 (k03.trans k4)
 cases e:a.tk with
 | none =>
  rw [e] at ht1 ht2
  have ht1:t1=zT:=ht1
  have ht2:t2=zT:=ht2
  subst ht1; subst ht2
  have h0:TkAt w3 ⟨0,none,0,0,zA⟩ ⟨0,[],zA⟩:=⟨rfl,rfl,World.ownsRow_nil _ _ _ _,by simp⟩
  rw [show zT=(⟨0,none,0,0,zA⟩:TkV).cells from rfl]
  refine k38 h0 h0 fun w4 k4=>?_
  exact fin w4 k4
 | some t =>
  rw [e] at ht1 ht2
  obtain ⟨v1,rfl,g1,_⟩:=ht1
  obtain ⟨v2,rfl,g2,_⟩:=ht2
  refine k38 (g1.kp k03 fun _ _=>id) (g2.kp k03 fun _ _=>id) fun w4 k4=>?_
  exact fin w4 k4
end
section
open Sy
def F133_1 (R:Ko) (C0:ByteArray→Int→Option Addr→Nat→Nat→Int→Int→World→Prop) (x0:ByteArray) (x1:Int) (a5:Option Addr) (l5 c5:Nat) (x6:Int) (x7:Int) (w:World):Prop:=Ss x0 x6 x7 fun x29=>Rv Tryz.prog (Instr.buildSlice 102 1 #[(0,.string x29)]) w fun v30 w1=>onL v30 fun a30 l30 c30=>Rv Tryz.prog (Builtin.append_ #[102,102] 102 #[.slice a5 l5 c5,.slice a30 l30 c30]) w1 fun v31 w2=>onL v31 fun a31 l31 c31=>C0 x0 x1 a31 l31 c31 (IntKind.i64.wrap (x7+1)) (IntKind.i64.wrap (x7+1)) w2
def F133_0B (R:Ko) (C0:ByteArray→Int→Option Addr→Nat→Nat→Int→Int→World→Prop) (x0:ByteArray) (x1:Int) (a5:Option Addr) (l5 c5:Nat) (x6:Int) (x7:Int) (w:World):Prop:=Ifm (decide ((x7:Int)≤(x0.size:Nat))) (Ifm ((x7:Int) == (x0.size:Nat)) (F133_1 R C0 x0 x1 a5 l5 c5 x6 x7 w) (Is x0 x7 fun x21=>Ifm ((x21:Int) == x1) (F133_1 R C0 x0 x1 a5 l5 c5 x6 x7 w) (C0 x0 x1 a5 l5 c5 x6 (IntKind.i64.wrap (x7+1)) w))) (R (.slice a5 l5 c5) w)
def F133_0 (R:Ko) (x0:ByteArray) (x1:Int) (a5:Option Addr) (l5 c5:Nat) (x6:Int) (x7:Int) (w:World):Prop:=∃ (Inv:ByteArray→Int→Option Addr→Nat→Nat→Int→Int→World→Prop) (μ:ByteArray→Int→Option Addr→Nat→Nat→Int→Int→World→Nat),Inv x0 x1 a5 l5 c5 x6 x7 w∧∀ x0 x1 a5 l5 c5 x6 x7 w,Inv x0 x1 a5 l5 c5 x6 x7 w→F133_0B R (fun x0' x1' a5' l5' c5' x6' x7' w'=>Inv x0' x1' a5' l5' c5' x6' x7' w'∧μ x0' x1' a5' l5' c5' x6' x7' w'<μ x0 x1 a5 l5 c5 x6 x7 w) x0 x1 a5 l5 c5 x6 x7 w
def F133 (R:Ko) (x0:ByteArray) (x1:Int) (w:World):Prop:=F133_0 R x0 x1 none 0 0 0 0 w
noncomputable def b133:Code:=Tryz.f133.body.getD .skip
def q133_1:List Bool:=[false,false,true,false,false,true,false,false,true,false,true,true,true]
def L133_1 (F:ByteArray→Int→Option Addr→Nat→Nat→Int→Int→World→Prop):Env→World→Prop:=fun ρ w=>onS (ρ 0) fun x0=>onC (ρ 1) fun x1=>onL (ρ 5) fun a5 l5 c5=>onI (ρ 6) fun x6=>onI (ρ 7) fun x7=>F x0 x1 a5 l5 c5 x6 x7 w
def q133_0:List Bool:=[false,true,false,true,true,true]
def L133_0 (F:ByteArray→Int→Option Addr→Nat→Nat→Int→Int→World→Prop):Env→World→Prop:=fun ρ w=>onS (ρ 0) fun x0=>onC (ρ 1) fun x1=>onL (ρ 5) fun a5 l5 c5=>onI (ρ 6) fun x6=>onI (ρ 7) fun x7=>F x0 x1 a5 l5 c5 x6 x7 w
abbrev T133 (z:Fr) (R:Ko) (p:List Bool) (ρ:Env) (w:World):Prop:=TW z Tryz.prog 35 (segTodo b133 p) (QR Tryz.prog [.tmp 4] R) ρ w
theorem s133_1 (R:Ko) (C0:ByteArray→Int→Option Addr→Nat→Nat→Int→Int→World→Prop) (h0:∀ ρ w,(L133_0 C0) ρ w→T133 z0 R q133_0 ρ w):∀ ρ w,(L133_1 (F133_1 R C0)) ρ w→T133 z0 R q133_1 ρ w:=by
 intro ρ w h
 obtain ⟨x0,e0,h⟩:=onS_of h
 obtain ⟨x1,e1,h⟩:=onC_of h
 obtain ⟨a5,l5,c5,e5,h⟩:=onL_of h
 obtain ⟨x6,e6,h⟩:=onI_of h
 obtain ⟨x7,e7,h⟩:=onI_of h
 rw [← upds_same (ρ:=ρ) [(0,.string x0),(1,.int .u8 x1),(5,.slice a5 l5 c5),(6,.int .i64 x6),(7,.int .i64 x7)] (alc e0 (alc e1 (alc e5 (alc e6 (alc e7 aln)))))]
 exact sg (cuts:=[(q133_0,L133_0 C0)]) ⟨h0,trivial⟩ h
theorem s133_0 (R:Ko):∀ ρ w,(L133_0 (F133_0 R)) ρ w→T133 z0 R q133_0 ρ w:=by
 intro ρ w h
 obtain ⟨x0,e0,h⟩:=onS_of h
 obtain ⟨x1,e1,h⟩:=onC_of h
 obtain ⟨a5,l5,c5,e5,h⟩:=onL_of h
 obtain ⟨x6,e6,h⟩:=onI_of h
 obtain ⟨x7,e7,h⟩:=onI_of h
 obtain ⟨Inv,μ,hi,hb⟩:=h
 refine lpT (fun m=>L133_0 (fun x0 x1 a5 l5 c5 x6 x7 w=>Inv x0 x1 a5 l5 c5 x6 x7 w∧μ x0 x1 a5 l5 c5 x6 x7 w=m)) ?_ (μ x0 x1 a5 l5 c5 x6 x7 w) ρ w ?_
 ·intro m ρ w ih h
  obtain ⟨x0,e0,h⟩:=onS_of h
  obtain ⟨x1,e1,h⟩:=onC_of h
  obtain ⟨a5,l5,c5,e5,h⟩:=onL_of h
  obtain ⟨x6,e6,h⟩:=onI_of h
  obtain ⟨x7,e7,h⟩:=onI_of h
  obtain ⟨hv,hm⟩:=h
  subst hm
  have hh:=hb x0 x1 a5 l5 c5 x6 x7 w hv
  obtain ⟨C0,hC⟩:∃ C,C=fun x0' x1' a5' l5' c5' x6' x7' w'=>Inv x0' x1' a5' l5' c5' x6' x7' w'∧μ x0' x1' a5' l5' c5' x6' x7' w'<μ x0 x1 a5 l5 c5 x6 x7 w:=⟨_,rfl⟩
  rw [← hC] at hh
  have h0:∀ ρ w,(L133_0 C0) ρ w→T133 z0 R q133_0 ρ w:=by
   intro ρ' w' h'
   refine ih ρ' w' ?_
   obtain ⟨x0',e0',h'⟩:=onS_of h'
   obtain ⟨x1',e1',h'⟩:=onC_of h'
   obtain ⟨a5',l5',c5',e5',h'⟩:=onL_of h'
   obtain ⟨x6',e6',h'⟩:=onI_of h'
   obtain ⟨x7',e7',h'⟩:=onI_of h'
   rw [hC] at h'
   refine ⟨_,h'.2,?_⟩
   simp only [e0',e1',e5',e6',e7',L133_0,ons]
   exact ⟨h'.1,by trivial⟩
  rw [← upds_same (ρ:=ρ) [(0,.string x0),(1,.int .u8 x1),(5,.slice a5 l5 c5),(6,.int .i64 x6),(7,.int .i64 x7)] (alc e0 (alc e1 (alc e5 (alc e6 (alc e7 aln)))))]
  exact sg (cuts:=[(q133_1,L133_1 (F133_1 R C0)),(q133_0,L133_0 C0)]) ⟨s133_1 R C0 h0,h0,trivial⟩ hh
 ·simp only [e0,e1,e5,e6,e7,L133_0,ons]
  exact ⟨hi,by trivial⟩
theorem c133 {R:Ko} {x0:ByteArray} {x1:Int} {w:World} (h:F133 R x0 x1 w):Ct Tryz.prog 133 #[.string x0,.int .u8 x1] w R :=
 ctS (args:=[.string x0,.int .u8 x1]) (body:=b133) (n:=35) (rs:=[.tmp 4]) Tryz.func133
  (sg (cuts:=[(q133_0,L133_0 (F133_0 R))]) ⟨s133_0 R,trivial⟩ h)
def F55_0B (R:Ko) (C0:Option Addr→Nat→Nat→Int→World→Prop) (a4:Option Addr) (l4 c4:Nat) (x5:Int) (w:World):Prop:=Ifm (decide ((x5:Int)<(l4:Nat))) (Ix a4 l4 x5 1 fun x22=>Lc x22 w fun v23=>onS v23 fun x23=>Ct Tryz.prog 79 #[.string x23] w fun v24 w2=>onB v24 fun x24=>Ifm (!x24) (R (.tuple #[.slice none 0 0,.int .i64 4]) w2) (C0 a4 l4 c4 (IntKind.i64.wrap (x5+1)) w2)) (R (.tuple #[.slice a4 l4 c4,.int .i64 0]) w)
def F55_0 (R:Ko) (a4:Option Addr) (l4 c4:Nat) (x5:Int) (w:World):Prop:=∃ (Inv:Option Addr→Nat→Nat→Int→World→Prop) (μ:Option Addr→Nat→Nat→Int→World→Nat),Inv a4 l4 c4 x5 w∧∀ a4 l4 c4 x5 w,Inv a4 l4 c4 x5 w→F55_0B R (fun a4' l4' c4' x5' w'=>Inv a4' l4' c4' x5' w'∧μ a4' l4' c4' x5' w'<μ a4 l4 c4 x5 w) a4 l4 c4 x5 w
def F55 (R:Ko) (x0:ByteArray) (w:World):Prop:=Ifm (decide (((x0.size:Nat):Int) > 264)) (R (.tuple #[.slice none 0 0,.int .i64 3]) w) (Ct Tryz.prog 133 #[.string x0,.int .u8 47] w fun v10 w1=>onL v10 fun a10 l10 c10=>Ifm (decide (((l10:Nat):Int) > 8)) (R (.tuple #[.slice none 0 0,.int .i64 4]) w1) (F55_0 R a10 l10 c10 0 w1))
noncomputable def b55:Code:=Tryz.f55.body.getD .skip
def q55_0:List Bool:=[false,true,false,true,true,true,true]
def L55_0 (F:Option Addr→Nat→Nat→Int→World→Prop):Env→World→Prop:=fun ρ w=>onL (ρ 4) fun a4 l4 c4=>onI (ρ 5) fun x5=>F a4 l4 c4 x5 w
abbrev T55 (z:Fr) (R:Ko) (p:List Bool) (ρ:Env) (w:World):Prop:=TW z Tryz.prog 27 (segTodo b55 p) (QR Tryz.prog [.tmp 2,.tmp 3] R) ρ w
theorem s55_0 (R:Ko):∀ ρ w,(L55_0 (F55_0 R)) ρ w→T55 z0 R q55_0 ρ w:=by
 intro ρ w h
 obtain ⟨a4,l4,c4,e4,h⟩:=onL_of h
 obtain ⟨x5,e5,h⟩:=onI_of h
 obtain ⟨Inv,μ,hi,hb⟩:=h
 refine lpT (fun m=>L55_0 (fun a4 l4 c4 x5 w=>Inv a4 l4 c4 x5 w∧μ a4 l4 c4 x5 w=m)) ?_ (μ a4 l4 c4 x5 w) ρ w ?_
 ·intro m ρ w ih h
  obtain ⟨a4,l4,c4,e4,h⟩:=onL_of h
  obtain ⟨x5,e5,h⟩:=onI_of h
  obtain ⟨hv,hm⟩:=h
  subst hm
  have hh:=hb a4 l4 c4 x5 w hv
  obtain ⟨C0,hC⟩:∃ C,C=fun a4' l4' c4' x5' w'=>Inv a4' l4' c4' x5' w'∧μ a4' l4' c4' x5' w'<μ a4 l4 c4 x5 w:=⟨_,rfl⟩
  rw [← hC] at hh
  have h0:∀ ρ w,(L55_0 C0) ρ w→T55 z0 R q55_0 ρ w:=by
   intro ρ' w' h'
   refine ih ρ' w' ?_
   obtain ⟨a4',l4',c4',e4',h'⟩:=onL_of h'
   obtain ⟨x5',e5',h'⟩:=onI_of h'
   rw [hC] at h'
   refine ⟨_,h'.2,?_⟩
   simp only [e4',e5',L55_0,ons]
   exact ⟨h'.1,by trivial⟩
  rw [← upds_same (ρ:=ρ) [(4,.slice a4 l4 c4),(5,.int .i64 x5)] (alc e4 (alc e5 aln))]
  exact sg (cuts:=[(q55_0,L55_0 C0)]) ⟨h0,trivial⟩ hh
 ·simp only [e4,e5,L55_0,ons]
  exact ⟨hi,by trivial⟩
theorem c55 {R:Ko} {x0:ByteArray} {w:World} (h:F55 R x0 w):Ct Tryz.prog 55 #[.string x0] w R :=
 ctS (args:=[.string x0]) (body:=b55) (n:=27) (rs:=[.tmp 2,.tmp 3]) Tryz.func55
  (sg (cuts:=[(q55_0,L55_0 (F55_0 R))]) ⟨s55_0 R,trivial⟩ h)
def F28_0 (R:Ko) (x1:Addr) (x4:Int) (w:World):Prop:=Ifm ((x4:Int) == 0) (Lc (x1.add 3) w fun v20=>onS v20 fun x20=>Ct Tryz.prog 79 #[.string x20] w fun v21 w3=>onB v21 fun x21=>Ifm x21 (Lc (x1.add 3) w3 fun v25=>onS v25 fun x25=>Ifm (!(x25.toList == (⟨#[114,111,111,116]⟩:ByteArray).toList)) (Lc (x1.add 3) w3 fun v30=>onS v30 fun x30=>Ifm (!(x30.toList == (⟨#[115,108,97,99,107]⟩:ByteArray).toList)) (Lc (x1.add 3) w3 fun v35=>onS v35 fun x35=>R (.bool (!(x35.toList == (⟨#[116,97,115,107,115]⟩:ByteArray).toList))) w3) (R (.bool false) w3)) (R (.bool false) w3)) (R (.bool false) w3)) (R (.bool false) w)
def F28 (R:Ko) (x0:Array Value) (w:World):Prop:=New (.cells (.agg x0:Value).cells 54) w fun x1 w1=>Lc (x1.add 2) w1 fun v7=>onS v7 fun x7=>Ct Tryz.prog 55 #[.string x7] w1 fun v8 w2=>on2 v8 fun y8_0 y8_1=>onL y8_0 fun a8_0 l8_0 c8_0=>onI y8_1 fun x8_1=>Lc (x1.add 1) w2 fun v12=>onI v12 fun x12=>Ifm ((x12:Int) == 1) (Ifm ((x12:Int) == 1) (F28_0 R x1 x8_1 w2) (Ifm ((x8_1:Int) == 0) (R (.bool true) w2) (Lc (x1.add 2) w2 fun v42=>onS v42 fun x42=>R (.bool (x42.toList == (⟨#[]⟩:ByteArray).toList)) w2))) (Ifm ((x12:Int) == 4) (F28_0 R x1 x8_1 w2) (Ifm ((x8_1:Int) == 0) (R (.bool true) w2) (Lc (x1.add 2) w2 fun v42=>onS v42 fun x42=>R (.bool (x42.toList == (⟨#[]⟩:ByteArray).toList)) w2)))
noncomputable def b28:Code:=Tryz.f28.body.getD .skip
def q28_0:List Bool:=[false,false,true,false,true,false,true,true]
def L28_0 (F:Addr→Int→World→Prop):Env→World→Prop:=fun ρ w=>onA (ρ 1) fun x1=>onI (ρ 4) fun x4=>F x1 x4 w
abbrev T28 (z:Fr) (R:Ko) (p:List Bool) (ρ:Env) (w:World):Prop:=TW z Tryz.prog 45 (segTodo b28 p) (QR Tryz.prog [.tmp 2] R) ρ w
theorem s28_0 (R:Ko):∀ ρ w,(L28_0 (F28_0 R)) ρ w→T28 z0 R q28_0 ρ w:=by
 intro ρ w h
 obtain ⟨x1,e1,h⟩:=onA_of h
 obtain ⟨x4,e4,h⟩:=onI_of h
 rw [← upds_same (ρ:=ρ) [(1,.pointer (some x1)),(4,.int .i64 x4)] (alc e1 (alc e4 aln))]
 exact sg (cuts:=[]) trivial h
theorem c28 {R:Ko} {x0:Array Value} {w:World} (h:F28 R x0 w):Ct Tryz.prog 28 #[.agg x0] w R :=
 ctS (args:=[.agg x0]) (body:=b28) (n:=45) (rs:=[.tmp 2]) Tryz.func28
  (sg (cuts:=[(q28_0,L28_0 (F28_0 R))]) ⟨s28_0 R,trivial⟩ h)
def F7_0B (R:Ko) (C0:Option Addr→Nat→Nat→Option Addr→Nat→Nat→Int→World→Prop) (a0:Option Addr) (l0 c0:Nat) (a3:Option Addr) (l3 c3:Nat) (x4:Int) (w:World):Prop:=Ifm (decide ((x4:Int)<(l0:Nat))) (Ix a0 l0 x4 11 fun x13=>La 11 x13 w fun x14=>Ct Tryz.prog 28 #[.agg x14] w fun v15 w1=>onB v15 fun x15=>Ifm x15 (Ix a0 l0 x4 11 fun x19=>La 11 x19 w1 fun x20=>Rv Tryz.prog (Instr.buildSlice 22 1 #[(0,.agg x20)]) w1 fun v21 w2=>onL v21 fun a21 l21 c21=>Rv Tryz.prog (Builtin.append_ #[22,22] 22 #[.slice a3 l3 c3,.slice a21 l21 c21]) w2 fun v22 w3=>onL v22 fun a22 l22 c22=>C0 a0 l0 c0 a22 l22 c22 (IntKind.i64.wrap (x4+1)) w3) (C0 a0 l0 c0 a3 l3 c3 (IntKind.i64.wrap (x4+1)) w1)) (R (.slice a3 l3 c3) w)
def F7_0 (R:Ko) (a0:Option Addr) (l0 c0:Nat) (a3:Option Addr) (l3 c3:Nat) (x4:Int) (w:World):Prop:=∃ (Inv:Option Addr→Nat→Nat→Option Addr→Nat→Nat→Int→World→Prop) (μ:Option Addr→Nat→Nat→Option Addr→Nat→Nat→Int→World→Nat),Inv a0 l0 c0 a3 l3 c3 x4 w∧∀ a0 l0 c0 a3 l3 c3 x4 w,Inv a0 l0 c0 a3 l3 c3 x4 w→F7_0B R (fun a0' l0' c0' a3' l3' c3' x4' w'=>Inv a0' l0' c0' a3' l3' c3' x4' w'∧μ a0' l0' c0' a3' l3' c3' x4' w'<μ a0 l0 c0 a3 l3 c3 x4 w) a0 l0 c0 a3 l3 c3 x4 w
def F7 (R:Ko) (a0:Option Addr) (l0 c0:Nat) (w:World):Prop:=F7_0 R a0 l0 c0 none 0 0 0 w
noncomputable def b7:Code:=Tryz.f7.body.getD .skip
def q7_0:List Bool:=[false,true,false,true,true]
def L7_0 (F:Option Addr→Nat→Nat→Option Addr→Nat→Nat→Int→World→Prop):Env→World→Prop:=fun ρ w=>onL (ρ 0) fun a0 l0 c0=>onL (ρ 3) fun a3 l3 c3=>onI (ρ 4) fun x4=>F a0 l0 c0 a3 l3 c3 x4 w
abbrev T7 (z:Fr) (R:Ko) (p:List Bool) (ρ:Env) (w:World):Prop:=TW z Tryz.prog 24 (segTodo b7 p) (QR Tryz.prog [.tmp 2] R) ρ w
theorem s7_0 (R:Ko):∀ ρ w,(L7_0 (F7_0 R)) ρ w→T7 z0 R q7_0 ρ w:=by
 intro ρ w h
 obtain ⟨a0,l0,c0,e0,h⟩:=onL_of h
 obtain ⟨a3,l3,c3,e3,h⟩:=onL_of h
 obtain ⟨x4,e4,h⟩:=onI_of h
 obtain ⟨Inv,μ,hi,hb⟩:=h
 refine lpT (fun m=>L7_0 (fun a0 l0 c0 a3 l3 c3 x4 w=>Inv a0 l0 c0 a3 l3 c3 x4 w∧μ a0 l0 c0 a3 l3 c3 x4 w=m)) ?_ (μ a0 l0 c0 a3 l3 c3 x4 w) ρ w ?_
 ·intro m ρ w ih h
  obtain ⟨a0,l0,c0,e0,h⟩:=onL_of h
  obtain ⟨a3,l3,c3,e3,h⟩:=onL_of h
  obtain ⟨x4,e4,h⟩:=onI_of h
  obtain ⟨hv,hm⟩:=h
  subst hm
  have hh:=hb a0 l0 c0 a3 l3 c3 x4 w hv
  obtain ⟨C0,hC⟩:∃ C,C=fun a0' l0' c0' a3' l3' c3' x4' w'=>Inv a0' l0' c0' a3' l3' c3' x4' w'∧μ a0' l0' c0' a3' l3' c3' x4' w'<μ a0 l0 c0 a3 l3 c3 x4 w:=⟨_,rfl⟩
  rw [← hC] at hh
  have h0:∀ ρ w,(L7_0 C0) ρ w→T7 z0 R q7_0 ρ w:=by
   intro ρ' w' h'
   refine ih ρ' w' ?_
   obtain ⟨a0',l0',c0',e0',h'⟩:=onL_of h'
   obtain ⟨a3',l3',c3',e3',h'⟩:=onL_of h'
   obtain ⟨x4',e4',h'⟩:=onI_of h'
   rw [hC] at h'
   refine ⟨_,h'.2,?_⟩
   simp only [e0',e3',e4',L7_0,ons]
   exact ⟨h'.1,by trivial⟩
  rw [← upds_same (ρ:=ρ) [(0,.slice a0 l0 c0),(3,.slice a3 l3 c3),(4,.int .i64 x4)] (alc e0 (alc e3 (alc e4 aln)))]
  exact sg (cuts:=[(q7_0,L7_0 C0)]) ⟨h0,trivial⟩ hh
 ·simp only [e0,e3,e4,L7_0,ons]
  exact ⟨hi,by trivial⟩
theorem c7 {R:Ko} {a0:Option Addr} {l0 c0:Nat} {w:World} (h:F7 R a0 l0 c0 w):Ct Tryz.prog 7 #[.slice a0 l0 c0] w R :=
 ctS (args:=[.slice a0 l0 c0]) (body:=b7) (n:=24) (rs:=[.tmp 2]) Tryz.func7
  (sg (cuts:=[(q7_0,L7_0 (F7_0 R))]) ⟨s7_0 R,trivial⟩ h)
variable {K:Ko} {w w':World}
theorem e102:∃ i z,Elem Tryz.prog 102 9 1 i z:=elemB_of (by kernel_rfl)
theorem e22:∃ i z,Elem Tryz.prog 22 54 11 i z:=elemB_of (by kernel_rfl)
def strs (ts:List ByteArray):List Value:=ts.map Value.string
def Cov (s:ByteArray) (c:Int) (ts:List ByteArray) (x:Int):Prop:=∀ (i:Nat) (b:UInt8),(i:Int)<x→s[i]?=some b→(b.toNat:Int)=c∨∃ t∈ts,∃ j:Nat,t[j]?=some b
theorem at_extract {s:ByteArray} {a b i:Nat} (h:a≤i) (hb:i<b) {x:UInt8} (hx:s[i]?=some x):(s.extract a b)[i - a]?=some x:=by
 have hi:i<s.data.size:=(Array.getElem?_eq_some_iff.1 (show s.data[i]?=some x from hx)).1
 rw [at_data,ByteArray.data_extract,Array.getElem?_extract,if_pos (by omega),show a+(i - a)=i by omega]
 exact hx
set_option maxHeartbeats 1000000 in
theorem k133 {s:ByteArray} {c:Int} (hs:s.size≤300) (hR:∀ a n cc ts w',Kp No w w'→n≤s.size+1→w'.ownsRow w.heap.size 9 1 (.slice a n cc) n (strs ts)→Cov s c ts (s.size+1)→K (.slice a n cc) w'):Ct Tryz.prog 133 #[.string s,.int .u8 c] w K:=by
 refine c133 ?_
 unfold F133 F133_0
 obtain ⟨i9,z9,E9⟩:=e102
 refine ⟨fun x0 x1 a5 l5 c5 x6 x7 w'=>s=x0∧c=x1∧Kp No w w'∧0≤x6∧x6≤x7∧x7≤s.size+1∧(l5:Int)≤x7∧∃ ts,w'.ownsRow w.heap.size 9 1 (.slice a5 l5 c5) l5 (strs ts)∧Cov s c ts x6∧(x7=s.size+1→x6=x7),fun _ _ _ _ _ _ x7 _=>((s.size:Int)+2 - x7).toNat,
  ⟨rfl,rfl,Kp.refl _ _,by omega,by omega,by omega,by omega,[],World.ownsRow_nil _ _ _ _,fun i b hi=>by omega,by omega⟩,?_⟩
 rintro _ _ a5 l5 c5 x6 x7 w1 ⟨rfl,rfl,k1,h0,h1,h2,h3,ts,ho,hc,hz⟩
 unfold F133_0B
 simp only [SS]
 by_cases e:x7≤(s.size:Int)
 ·rw [if_pos e]
  have cut:(∀ b:UInt8,s[x7.toNat]?=some b→(b.toNat:Int)=c)→F133_1 K (fun x0' x1' a5' l5' c5' x6' x7' w'=>(s=x0'∧c=x1'∧Kp No w w'∧0≤x6'∧x6'≤x7'∧x7'≤s.size+1∧(l5':Int)≤x7'∧∃ ts,w'.ownsRow w.heap.size 9 1 (.slice a5' l5' c5') l5' (strs ts)∧Cov s c ts x6'∧(x7'=s.size+1→x6'=x7'))∧((s.size:Int)+2 - x7').toNat<((s.size:Int)+2 - x7).toNat) s c a5 l5 c5 x6 x7 w1:=by
   intro hb7
   unfold F133_1
   refine ⟨h0,h1,by omega,?_⟩
   refine app1 E9 ho k1.size (by omega) rfl (by simp [Value.cells,Value.oneCell']) fun g' c' w2 hg' ho2 hk2=>?_
   have k02:Kp No w w2:=k1.step hk2 fun b hb hs=>by have:=(own_lt ho hs).1; omega
   rw [wr1 (by omega) (by omega)]
   refine ⟨⟨rfl,rfl,k02,by omega,by omega,by omega,by omega,ts++[s.extract x6.toNat x7.toNat],?_,fun i b hi hb=>?_,by omega⟩,by omega⟩
   ·simpa [strs,Value.cells] using ho2
   ·by_cases e1:(i:Int)<x6
    ·rcases hc i b e1 hb with h | ⟨t,ht,j,hj⟩
     ·exact .inl h
     ·exact .inr ⟨t,List.mem_append_left _ ht,j,hj⟩
    ·by_cases e2:(i:Int)=x7
     ·exact .inl (hb7 b (by rw [show x7.toNat=i by omega]; exact hb))
     ·exact .inr ⟨s.extract x6.toNat x7.toNat,by simp,i - x6.toNat,at_extract (by omega) (by omega) hb⟩
  by_cases e2:x7=(s.size:Int)
  ·rw [if_pos e2]
   refine cut fun b hb=>?_
   rw [at_data,Array.getElem?_eq_none (show s.data.size≤x7.toNat by show s.size≤_; omega)] at hb
   cases hb
  ·rw [if_neg e2]
   refine byte_k (i:=x7.toNat) (by omega) (by omega) fun b hb=>?_
   by_cases e3:(b.toNat:Int)=c
   ·rw [if_pos e3]
    exact cut fun b' hb'=>by rw [hb] at hb'; injection hb' with hb'; rw [← hb']; exact e3
   ·rw [if_neg e3]
    rw [wr1 (by omega) (by omega)]
    exact ⟨⟨k1,h0,by omega,by omega,by omega,ts,ho,hc,by omega⟩,by omega⟩
 ·rw [if_neg e]
  exact hR _ _ _ ts w1 k1 (by omega) ho (by have:=hz (by omega); rw [this,show x7=(s.size:Int)+1 by omega] at hc; exact hc)
theorem own_len0 {B e sz n l c:Nat} {a:Option Addr} {xs:List Value} (h:w.ownsRow B e sz (.slice a l c) n xs):l=n:=by
 rcases own_bk h with ⟨_,h1,_,h2,_⟩ | ⟨_,_,_,h1,_⟩
 ·omega
 ·exact h1
theorem k55 {s:ByteArray} (hR:∀ a l c e w',Kp No w w'→(e=0→noDot s)→K (.tuple #[.slice a l c,I e]) w'):Ct Tryz.prog 55 #[.string s] w K:=by
 refine c55 ?_
 unfold F55
 simp only [SS]
 by_cases e:(s.size:Int) > 264
 ·rw [if_pos e]; exact hR _ _ _ _ _ (Kp.refl _ _) (by omega)
 rw [if_neg e]
 refine k133 (by omega) fun a n cc ts w1 k1 hn ho hcov=>?_
 simp only [SS]
 by_cases e8:(n:Int) > 8
 ·rw [if_pos e8]; exact hR _ _ _ _ _ k1 (by omega)
 rw [if_neg e8]
 unfold F55_0
 refine ⟨fun a4 l4 c4 x5 w'=>a=a4∧n=l4∧cc=c4∧w1=w'∧0≤x5∧x5≤(n:Int)∧∀ (i:Nat) t,(i:Int)<x5→ts[i]?=some t→noDot t,fun _ _ _ x5 _=>((n:Int) - x5).toNat,⟨rfl,rfl,rfl,rfl,by omega,by omega,fun i t hi=>by omega⟩,?_⟩
 rintro _ _ _ x5 _ ⟨rfl,rfl,rfl,rfl,h0,h1,hd⟩
 unfold F55_0B
 simp only [SS]
 have hlen:(strs ts).length=n:=by have:=ho.1; omega
 have htl:(strs ts).length=ts.length:=by simp [strs]
 by_cases e5:x5<(n:Int)
 ·rw [if_pos e5]
  obtain ⟨i,rfl⟩:∃ i:Nat,x5=i:=⟨x5.toNat,by omega⟩
  rcases own_bk ho with ⟨_,h2,_⟩ | ⟨g,cur,rfl,_,_,_,hnc,_,_⟩
  ·omega
  ·refine ix_k rfl (by omega) ?_
   have hti:i<ts.length:=by omega
   simp only [Nat.mul_one,SS]
   rw [own_lc ho (o:=i) (v:=.string ts[i]) (by omega) (by simp [strs,hti])]
   simp only [SS]
   refine k79 fun b hb=>?_
   simp only [SS]
   cases b with
   | true =>
    simp only [SS]
    rw [wr1 (by omega) (by omega)]
    refine ⟨⟨by omega,by omega,fun j t hj ht=>?_⟩,by omega⟩
    by_cases ej:j=i
    ·subst ej
     rw [List.getElem?_eq_getElem hti] at ht
     injection ht with ht
     rw [← ht]; exact hb rfl
    ·exact hd j t (by omega) ht
   | false=>exact hR _ _ _ _ _ k1 (by omega)
 ·rw [if_neg e5]
  refine hR _ _ _ _ _ k1 fun _ i b hb=>?_
  have hi:i<s.data.size:=(Array.getElem?_eq_some_iff.1 (show s.data[i]?=some b from hb)).1
  have hi:i<s.size:=hi
  rcases hcov i b (by omega) hb with h | ⟨t,ht,j,hj⟩
  ·omega
  ·obtain ⟨p,hp⟩:=List.mem_iff_getElem?.1 ht
   have hpl:=(List.getElem?_eq_some_iff.1 hp).1
   exact hd p t (by omega) hp j b hj
def StV.pl (s:StV):Prop:=s.ok∧(s.k=1→noDot s.at_∧noDot s.nm)
theorem k28 {s:StV} (hR:∀ b w',Kp No w w'→(b=true→s.k=1→noDot s.at_∧noDot s.nm)→K (.bool b) w'):Ct Tryz.prog 28 #[.agg s.cells.toArray] w K:=by
 refine c28 ?_
 unfold F28
 refine new_k s.cells fun w1 k1 b1 s1=>?_
 simp only [SS,b1.rd (o:=2) (v:=.string s.at_) rfl]
 refine k55 fun a l c e w2 k2 hna=>?_
 have b2:Bk w2 w.heap.size s.cells 54:=k2.bk b1 id
 have k02:=k1.trans k2
 simp only [SS,b2.rd (o:=1) (v:=I s.k) rfl,b2.rd (o:=2) (v:=.string s.at_) rfl]
 have rest:s.k≠1→(if e=0 then K (.bool true) w2 else K (.bool (s.at_.toList == (⟨#[]⟩:ByteArray).toList)) w2):=by
  intro hk
  split
  ·exact hR _ _ k02 fun _ h=>absurd h hk
  ·exact hR _ _ k02 fun _ h=>absurd h hk
 have named:F28_0 K ⟨w.heap.size,0,none⟩ e w2:=by
  unfold F28_0
  simp only [SS,b2.rd (o:=3) (v:=.string s.nm) rfl]
  split
  ·rename_i he
   refine k79 fun b hb=>?_
   simp only [SS,b2.rd (o:=3) (v:=.string s.nm) rfl]
   cases b with
   | false=>exact hR _ _ k02 nofun
   | true =>
    simp only [SS]
    cases (s.nm.toList == (⟨#[114,111,111,116]⟩:ByteArray).toList) with
    | true=>exact hR _ _ k02 nofun
    | false =>
     simp only [SS]
     cases (s.nm.toList == (⟨#[115,108,97,99,107]⟩:ByteArray).toList) with
     | true=>exact hR _ _ k02 nofun
     | false=>exact hR _ _ k02 fun _ _=>⟨hna he,hb rfl⟩
  ·exact hR _ _ k02 nofun
 by_cases e1:s.k=1
 ·simp only [if_pos e1]; exact named
 ·rw [if_neg e1]
  by_cases e4:s.k=4
  ·rw [if_pos e4]; exact named
  ·rw [if_neg e4]; exact rest e1
def stC (ss:List StV):List Value:=ss.flatMap StV.cells
theorem stC_len (ss:List StV):(stC ss).length=ss.length*11:=by
 induction ss with
 | nil=>rfl
 | cons s ss ih=>simp only [stC,List.flatMap_cons,List.length_append] at ih ⊢; rw [ih]; simp [StV.cells]; omega
theorem stC_get:∀ (ss:List StV) (i:Nat) (s:StV),ss[i]?=some s→((stC ss).drop (i*11)).take 11=s.cells
 | [],i,s,h=>by simp at h
 | t :: ss,0,s,h=>by
  simp only [List.getElem?_cons_zero,Option.some.injEq] at h
  subst h
  simp [stC,StV.cells]
 | t :: ss,i+1,s,h=>by
  have ih:=stC_get ss i s (by simpa using h)
  rw [← ih]
  have:stC (t :: ss)=t.cells++stC ss:=by simp [stC]
  rw [this,List.drop_append,List.drop_of_length_le (by simp [StV.cells]; omega)]
  simp [StV.cells,Nat.add_mul]
theorem k7 {B l c:Nat} {a:Option Addr} {ss:List StV} (h:Stps w B a l ss) (hB:B≤w.heap.size) (hl:l≤200) (hR:∀ a' n c' ss' w',Kp No w w'→n≤200→(∀ s∈ss',s.pl)→ss'.length=n→w'.ownsRow w.heap.size 54 11 (.slice a' n c') n (stC ss')→K (.slice a' n c') w'):Ct Tryz.prog 7 #[.slice a l c] w K:=by
 refine c7 ?_
 unfold F7 F7_0
 obtain ⟨i22,z22,E22⟩:=e22
 refine ⟨fun a0 l0 c0 a3 l3 c3 x4 w'=>a=a0∧l=l0∧Kp No w w'∧0≤x4∧x4≤(l:Int)∧(l3:Int)≤x4∧∃ ss',ss'.length=l3∧(∀ s∈ss',s.pl)∧w'.ownsRow w.heap.size 54 11 (.slice a3 l3 c3) l3 (stC ss'),fun _ _ _ _ _ _ x4 _=>((l:Int) - x4).toNat,
  ⟨rfl,rfl,Kp.refl _ _,by omega,by omega,by omega,[],rfl,by simp,World.ownsRow_nil _ _ _ _⟩,?_⟩
 rintro _ _ c0 a3 l3 c3 x4 w1 ⟨rfl,rfl,k1,h0,h1,h2,ss',hn,hok,ho⟩
 unfold F7_0B
 simp only [SS]
 by_cases e:x4<(l:Int)
 ·rw [if_pos e]
  obtain ⟨i,rfl⟩:∃ i:Nat,x4=i:=⟨x4.toNat,by omega⟩
  obtain ⟨s,hs,hsk,b,o,rfl,hb,_,hA⟩:=(h.kp k1 hB fun _ _=>id).at (i:=i) (by omega)
  refine ix_k rfl (by omega) ?_
  rw [hA]
  refine k28 (s:=s) fun b2 w2 k2 hpl=>?_
  have k02:=k1.trans k2
  have ho2:w2.ownsRow w.heap.size 54 11 (.slice a3 l3 c3) l3 (stC ss'):=own_kp ho k2 fun _ _=>id
  simp only [SS]
  cases b2 with
  | true =>
   simp only [SS]
   obtain ⟨s',hs',_,b',o',hbo,_,_,hA'⟩:=(h.kp k02 hB fun _ _=>id).at (i:=i) (by omega)
   rw [hs] at hs'
   injection hs' with hs'
   subst hs'
   injection hbo with hbo
   injection hbo with hb1 hb2
   subst hb1; subst hb2
   refine ix_k rfl (by omega) ?_
   rw [hA']
   refine app1 E22 ho2 k02.size (by omega) (x:=.agg s.cells.toArray) rfl (fun u hu=>by rw [← one_iff]; exact s.one u hu) fun g' c' w3 hg' ho3 hk3=>?_
   have k03:Kp No w w3:=k02.step hk3 fun b hb hs=>by have:=(own_lt ho2 hs).1; omega
   rw [wr1 (by omega) (by omega)]
   refine ⟨⟨k03,by omega,by omega,by omega,ss'++[s],by simp [hn],?_,?_⟩,by omega⟩
   ·intro t ht
    rw [List.mem_append,List.mem_singleton] at ht
    rcases ht with ht | rfl
    ·exact hok t ht
    ·exact ⟨hsk,hpl rfl⟩
   ·have:stC (ss'++[s])=stC ss'++s.cells:=by simp [stC]
    rw [this]
    exact ho3
  | false =>
   simp only [SS]
   rw [wr1 (by omega) (by omega)]
   exact ⟨⟨k02,by omega,by omega,by omega,ss',hn,hok,ho2⟩,by omega⟩
 ·rw [if_neg e]
  exact hR _ _ _ ss' w1 k1 (by omega) hok hn ho
end
section
open Sy
variable {K:Ko} {w w':World}
theorem KR.swap {lab lab':Nat→Nat} {q k:Nat} {Kk:Kn} (h:KR w lab q k Kk) (he:∀ y r,inK q r→(lab' y=r↔lab y=r)) (bd:∀ y,lab' y≠0→y<w.heap.size):KR w lab' q k Kk:=by
 obtain ⟨t,L,bk,m,p,nb,lf,h⟩:=h
 have e:∀ r,0<r→r<300→(fun x=>lab' x=q+r)=(fun x=>lab x=q+r):=fun r h1 h2=>by
  funext x
  exact propext (he x _ (by unfold inK; omega))
 have g:∀ {x r},lab x=q+r→0<r→r<300→lab' x=q+r:=fun hx h1 h2=>(he _ _ (by unfold inK; omega)).2 hx
 refine ⟨t,L,bk,m,p,nb,lf,h.kh,h.nt,h.book,?_,fun i n hn=>?_,g h.lk (by omega) (by omega),g h.lt (by omega) (by omega),g h.lL (by omega) (by omega),g h.lbk (by omega) (by omega),g h.lm (by omega) (by omega),g h.lp (by omega) (by omega),fun i n hn=>?_,bd,h.q0,h.ok⟩
 ·rw [e 6 (by omega) (by omega),e 1 (by omega) (by omega)]; exact h.pool
 ·have hi:=(h.nt.nd i n hn).1
  have e2:(fun x=>lab' x=q+200+i)=(fun x=>lab x=q+200+i):=by
   have:=e (200+i) (by omega) (by omega)
   rw [← Nat.add_assoc] at this
   exact this
  rw [e2,e 1 (by omega) (by omega)]; exact h.leaf i n hn
 ·have hi:=(h.nt.nd i n hn).1
  have:=g (x:=nb i) (r:=100+i) (by rw [← Nat.add_assoc]; exact h.ln i n hn) (by omega) (by omega)
  rw [this]; omega
theorem KR.oth {S:Nat→Prop} {lab lab':Nat→Nat} {q k:Nat} {Kk:Kn} (h:KR w lab q k Kk) (kp:Kp S w w') (hS:∀ y,inK q (lab y)→¬ S y) (old:∀ y,y<w.heap.size→lab' y=lab y) (new:∀ y,w.heap.size≤y→¬ inK q (lab' y)) (bd:∀ y,lab' y≠0→y<w'.heap.size):KR w' lab' q k Kk:=by
 refine (h.kp kp hS).swap (fun y r hr=>?_) bd
 by_cases hy:y<w.heap.size
 ·rw [old y hy]
 ·constructor
  ·intro h1; exact absurd (h1 ▸ hr) (new y (by omega))
  ·intro h1
   have:lab y≠0:=by rw [h1]; unfold inK at hr; omega
   exact absurd (h.bd y this) hy
theorem SW.oth {S:Nat→Prop} {lab lab':Nat→Nat} {q x k m n:Nat} {Kk:Kn} {D:Wd} (h:SW w lab q x k m n Kk D) (kp:Kp S w w') (hS:∀ y,inK q (lab y)∨y=x∨y=m∨y=n→¬ S y) (old:∀ y,y<w.heap.size→lab' y=lab y) (new:∀ y,w.heap.size≤y→¬ inK q (lab' y)) (bd:∀ y,lab' y≠0→y<w'.heap.size):SW w' lab' q x k m n Kk D :=
 ⟨h.kr.oth kp (fun y hy=>hS y (.inl hy)) old new bd,kp.bk h.hd (hS x (.inr (.inl rfl))),h.nd.kp kp (hS m (.inr (.inr (.inl rfl)))),h.tk.kp kp (hS n (.inr (.inr (.inr rfl)))),by rw [old x h.hd.lt,h.lx],by rw [old m h.nd.lt,h.lm],by rw [old n h.tk.lt,h.ln],h.ne⟩
theorem noDot_app {a b:ByteArray} (ha:noDot a) (hb:noDot b):noDot (a++b):=by
 intro i x hx
 rw [at_data,ByteArray.data_append,Array.getElem?_append] at hx
 split at hx
 ·exact ha i x hx
 ·exact hb _ x hx
theorem noDot_slash:noDot sSlash:=by
 intro i b hb
 match i with
 | 0=>injection hb with hb; rw [← hb]; decide
 | i+1=>cases hb
theorem next_few {D:Wd} {s:StV} {a:AnsA} {N:Nat} (h:Few D.nd N) (hs:s.ok):Few (nextD D s a).nd (N+1):=by
 obtain ⟨l,h1,h2,h3⟩:=h
 have same:Few D.nd (N+1):=⟨l,by omega,h2,h3⟩
 unfold nextD
 split
 ·unfold givesD
  split
  ·exact same
  ·refine ⟨s.path :: l,by simp; omega,fun t ht=>?_,fun t ht=>?_⟩
   ·by_cases e:t=s.path
    ·rw [e]; exact List.mem_cons_self ..
    ·refine List.mem_cons_of_mem _ (h2 t fun hn=>ht ?_)
     show updS _ _ _ t=none
     unfold updS
     rw [if_neg e]
     show dropS D.nd _ t=none
     unfold dropS
     split
     ·rfl
     ·exact hn
   ·rcases List.mem_cons.1 ht with rfl | ht
    ·unfold StV.path
     unfold StV.ok at hs
     split
     ·omega
     ·have hz:(s.at_++sSlash++s.nm).size=s.at_.size+1+s.nm.size:=by rw [size_app,size_app]; rfl
      rw [hz]; omega
    ·exact h3 t ht
 ·exact same
theorem next_dot {D:Wd} {s:StV} {a:AnsA} (h:∀ t,D.nd t≠none→noDot t) (hs:s.k=1→noDot s.at_∧noDot s.nm):∀ t,(nextD D s a).nd t≠none→noDot t:=by
 intro t ht
 unfold nextD at ht
 split at ht
 ·rename_i hc
  unfold givesD at ht
  split at ht
  ·exact h t ht
  ·rename_i h4
   obtain ⟨q1,q2⟩:=hs (by omega)
   by_cases e:t=s.path
   ·rw [e]; unfold StV.path
    split
    ·exact q2
    ·exact noDot_app (noDot_app q1 noDot_slash) q2
   ·have ht:updS _ _ _ t≠none:=ht
    unfold updS at ht
    rw [if_neg e] at ht
    refine h t fun hn=>ht ?_
    show dropS D.nd _ t=none
    unfold dropS
    split
    ·rfl
    ·exact hn
 ·exact h t ht
theorem row_k {B l c:Nat} {a:Option Addr} {ss:List StV} (h:w.ownsRow B 54 11 (.slice a l c) l (stC ss)) {i:Nat} {x:Int} (hx:x=(i:Nat)) (hi:i<l) {k:Array Value→Prop} {s:StV} (hs:ss[i]?=some s) (hk:k s.cells.toArray):Ix a l x 11 fun y=>La 11 y w k:=by
 refine ix_own h hi hx fun g hg _=>?_
 subst hg
 rw [own_la h (by omega),stC_get ss i s hs]
 exact hk
def ptrB (P:Program) (t:TypeId):Bool:=match P.underlying t with | some (.pointer e)=>(P.info? e).isSome | _=>false
theorem neq_ptr' {P:Program} {t:TypeId} (p:Option Addr) (x y:Operand) (w:World) (k:Value→Prop) (ht:ptrB P t=true):Rd P (Bin .neq t x y (.pointer p) (.pointer p)) w k=k (.bool false):=by
 refine Rd_ok ?_ k
 unfold ptrB at ht
 split at ht
 ·rename_i e hu
  obtain ⟨i,hi⟩:=Option.isSome_iff_exists.1 ht
  have hs:∀ a:Addr,(sameAddr a a).run P w=.ok true w:=fun a=>by simp [sameAddr,Sem.run]
  have e':∀ d:Nat,(Op.equalIn (d+1) t (.pointer p) (.pointer p)).run P w=.ok true w:=fun d=>by
   cases p with
   | none=>simp [Op.equalIn,run_underlying hu]
   | some a =>
    simp [Op.equalIn,run_underlying hu,run_sizeOf' hi,hs]
  have e1:=e' 9999
  simp only [Bin,eqGuard,binOp]
  simp [show Op.equal t (.pointer p) (.pointer p)=Op.equalIn (9999+1) t (.pointer p) (.pointer p) from rfl,e1]
 ·cases ht
theorem neq_ptr (p:Option Addr) (x y:Operand) (w:World) (k:Value→Prop):Rd Tryz.prog (Bin .neq 26 x y (.pointer p) (.pointer p)) w k=k (.bool false):=neq_ptr' p x y w k (by kernel_rfl)
end
end Go.Proofs.YtbgbidpecmepmaaGreatDoor
