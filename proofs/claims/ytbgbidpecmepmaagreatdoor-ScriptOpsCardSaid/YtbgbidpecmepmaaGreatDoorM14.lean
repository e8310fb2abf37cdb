/-
  The kernel's operations: a reservation that is to be another one; The kernel's operations: a task told; A kernel with one node more; A kernel's tree: what stands below a node; nodes dropped; A kernel's tree walked: a node, and all below it, laid behind others; A kernel's tick, as a function of kernels.
-/
import Derived.Test.YtbgbidpecmepmaaGreatDoorM13
import Derived.Maps.AppendAt
set_option maxRecDepth 100000
namespace Go.Proofs.YtbgbidpecmepmaaGreatDoor
section
open Sy
def F170_0 (R:Ko) (x0:Option Addr) (x1:Int) (x7:Option Addr) (x9:Addr) (w:World):Prop:=onSome x7 fun x35=>Lc (x35.add 0) w.drew fun v37=>onI v37 fun x37=>La 8 x9 w.drew fun x39=>Ct Tryz.prog 205 #[.pointer x0,.int .i64 x37,.int .i64 x1,.agg x39] w.drew fun v40 w9=>onI v40 fun x40=>Ifm (decide ((x40:Int) > 1048576)) (R (.iface 129 (.int .i64 80)) w9) (La 8 x9 w9 fun x44=>onSome x7 fun x45=>Sa 8 (x45.add 1) x44 w9 fun w10=>R (.nilIface) w10)
def F170 (R:Ko) (x0:Option Addr) (x1:Int) (x2:Array Value) (w:World):Prop:=New (.cells (.agg x2:Value).cells 35) w fun x5 w1=>Ct Tryz.prog 171 #[.pointer x0,.int .i64 x1] w1 fun v13 w2=>on2 v13 fun y13_0 y13_1=>onP y13_0 fun x13_0=>Nl y13_1 fun x17=>Ifm (!x17) (R y13_1 w2) (onSome x13_0 fun x21=>La 8 (x21.add 1) w2.drew fun x23=>La 2 x5 w2.drew fun x24=>(Ct Tryz.prog 262 #[.agg x23,.agg x24] w2.drew fun v25 w3=>on2 v25 fun y25_0 y25_1=>onG y25_0 fun x25_0=>New (.cells (.agg #[.int .i64 0,.int .i64 0,.int .i64 0,.int .i64 0,.bool false,.int .i64 0,.int .i64 0,.int .i64 0]:Value).cells 120) w3 fun x9 w4=>Sa 8 x9 x25_0 w4 fun w5=>Nl y25_1 fun x30=>Ifm (!x30) (R y25_1 w5) (F170_0 R x0 x1 x13_0 x9 w5))∧(New (.cells (.agg #[.int .i64 0,.int .i64 0,.int .i64 0,.int .i64 0,.bool false,.int .i64 0,.int .i64 0,.int .i64 0]:Value).cells 120) w2.drew fun x9 w6=>Ha 2 x5 x24 w6∧Ha 8 (x21.add 1) x23 w6∧Ct Tryz.prog 262 #[.agg x23,.agg x24] w6 fun v25 w7=>on2 v25 fun y25_0 y25_1=>onG y25_0 fun x25_0=>Sa 8 x9 x25_0 w7 fun w8=>Nl y25_1 fun x30=>Ifm (!x30) (R y25_1 w8) (F170_0 R x0 x1 x13_0 x9 w8)))
noncomputable def b170:Code:=Tryz.f170.body.getD .skip
def q170_0:List Bool:=[false,true,true,false,false,true,true,true,true]
def L170_0 (F:Option Addr→Int→Option Addr→Addr→World→Prop):Env→World→Prop:=fun ρ w=>onP (ρ 0) fun x0=>onI (ρ 1) fun x1=>onP (ρ 7) fun x7=>onA (ρ 9) fun x9=>F x0 x1 x7 x9 w
abbrev T170 (z:Fr) (R:Ko) (p:List Bool) (ρ:Env) (w:World):Prop:=TW z Tryz.prog 47 (segTodo b170 p) (QR Tryz.prog [.tmp 6] R) ρ w
theorem s170_0 (R:Ko):∀ ρ w,(L170_0 (F170_0 R)) ρ w→T170 z0 R q170_0 ρ w:=by
 intro ρ w h
 obtain ⟨x0,e0,h⟩:=onP_of h
 obtain ⟨x1,e1,h⟩:=onI_of h
 obtain ⟨x7,e7,h⟩:=onP_of h
 obtain ⟨x9,e9,h⟩:=onA_of h
 rw [← upds_same (ρ:=ρ) [(0,.pointer x0),(1,.int .i64 x1),(7,.pointer x7),(9,.pointer (some x9))] (alc e0 (alc e1 (alc e7 (alc e9 aln))))]
 exact sg (cuts:=[]) trivial h
theorem c170 {R:Ko} {x0:Option Addr} {x1:Int} {x2:Array Value} {w:World} (h:F170 R x0 x1 x2 w):Ct Tryz.prog 170 #[.pointer x0,.int .i64 x1,.agg x2] w R :=
 ctS (args:=[.pointer x0,.int .i64 x1,.agg x2]) (body:=b170) (n:=47) (rs:=[.tmp 6]) Tryz.func170
  (sg (cuts:=[(q170_0,L170_0 (F170_0 R))]) ⟨s170_0 R,trivial⟩ h)
def F90 (R:Ko) (x0:Option Addr) (x1:Int) (x2:Array Value) (w:World):Prop:=New (.cells (.agg x2:Value).cells 35) w fun x5 w1=>La 2 x5 w1 fun x10=>Ct Tryz.prog 170 #[.pointer x0,.int .i64 x1,.agg x10] w1 fun v11 w2=>Ct Tryz.prog 129 #[.int .i64 2,.int .i64 x1,v11] w2 fun v12 w3=>R v12 w3
noncomputable def b90:Code:=Tryz.f90.body.getD .skip
theorem c90 {R:Ko} {x0:Option Addr} {x1:Int} {x2:Array Value} {w:World} (h:F90 R x0 x1 x2 w):Ct Tryz.prog 90 #[.pointer x0,.int .i64 x1,.agg x2] w R :=
 ctS (args:=[.pointer x0,.int .i64 x1,.agg x2]) (body:=b90) (n:=13) (rs:=[.tmp 6]) Tryz.func90
  (sg (cuts:=[]) trivial h)
variable {K:Ko} {w w':World}
def resizeK (K:Kn) (h q p:Int):Except Int Kn:=match changeK K h with
 | .error e=>.error e
 | .ok (i,n)=>match resizeB n.bg q p with
  | .error e=>.error e
  | .ok b=>if keptN K.n n.par h b > 1048576 then .error 80 else .ok { K with n:=modN K.n i fun n=>{ n with bg:=b } }
theorem resizeB_err {b:Bg} {q p e:Int} (h:resizeB b q p=.error e):e≠0:=by
 unfold resizeB resizeR at h
 split at h
 ·split at h
  ·injection h with h; omega
  ·split at h
   ·injection h with h; omega
   ·cases h
 ·injection h with h; omega
theorem p170 {lab:Nat→Nat} {q k t L bk m p i x:Nat} {nb lf:Nat→Nat} {Kk:Kn} {h:Int} {n:Nd} {b:Bg} (hv:KRv w lab q k t L bk m p nb lf Kk) (hn:(Kk.n i).2=some n) (hx:Bk w x b.cells 120) (hR:if keptN Kk.n n.par h b > 1048576 then ∀ w',Kp No w w'→K (Er 80) w'
  else ∀ w',Stp w w' lab lab q→KR w' lab q k { Kk with n:=modN Kk.n i fun n=>{ n with bg:=b } }→K .nilIface w'):F170_0 K (some ⟨k,0,none⟩) h (some ⟨nb i,0,none⟩) ⟨x,0,none⟩ w:=by
 unfold F170_0
 have hnb:=(hv.nt.nd i n hn).2
 have hln:=hv.ln i n hn
 have hi:=(hv.nt.nd i n hn).1
 simp only [SS,hnb.rd (o:=0) (v:=I n.par) rfl,hx.la0 (n:=8) b.len]
 refine k205 (hv.nt.no (Kp.dr No w _)) fun w2 k2=>?_
 have k2':=k2.drL
 have x2:Bk w2 x b.cells 120:=k2'.bk hx id
 simp only [SS,x2.la0 (n:=8) b.len]
 by_cases e:keptN Kk.n n.par h b > 1048576
 ·rw [if_pos e] at hR ⊢; exact hR w2 k2'
 ·rw [if_neg e] at hR ⊢
  have hv2:=hv.kp k2' fun _ _=>id
  refine sa_k (k2'.bk hnb id) rfl (by simp [ndC,Bg.cells]) (Bg.one _) fun w3 k3 b3 s3=>?_
  have hv3:=hv2.setNode (f:=fun n=>{ n with bg:=b }) hn (fun _=>⟨rfl,rfl⟩) k3 b3
  have kk':Kp (fun x=>inK q (lab x)) w w3:=(k2'.no _).trans (k3.mono fun x _ hx=>by rw [hx,hln]; unfold inK; omega)
  exact hR w3 ⟨kk',fun _ _=>rfl,fun x hx hne=>by have:=hv.bd x hne; omega⟩ ⟨t,L,bk,m,p,nb,lf,hv3⟩
theorem changeK_err' {Kk:Kn} {h e:Int} (hc:changeK Kk h=.error e):e≠0:=changeK_err hc
theorem resizeK_err {Kk:Kn} {h qq pp e:Int} (hc:resizeK Kk h qq pp=.error e):e≠0:=by
 unfold resizeK at hc
 split at hc
 ·rename_i e' he; injection hc with hc; subst hc; exact changeK_err he
 ·split at hc
  ·rename_i e' he; injection hc with hc; subst hc; exact resizeB_err he
  ·split at hc
   ·injection hc with hc; omega
   ·cases hc
theorem k170 {lab:Nat→Nat} {q k:Nat} {Kk:Kn} {h qq pp:Int} (hK:KR w lab q k Kk) (hR:match resizeK Kk h qq pp with
  | .error e=>∀ w',Kp No w w'→K (Er e) w'
  | .ok K'=>∀ w',Stp w w' lab lab q→KR w' lab q k K'→K .nilIface w'):Ct Tryz.prog 170 #[Pt k 0,I h,.agg #[I qq,I pp]] w K:=by
 refine c170 ?_
 unfold F170
 refine new_k [I qq,I pp] fun w1 k1 b1 s1=>?_
 obtain ⟨t,L,bk,m,p,nb,lf,hv0⟩:=id hK
 have hv:=hv0.kp k1 fun _ _=>id
 unfold resizeK at hR
 refine k171 hv ?_
 cases ec:changeK Kk h with
 | error e =>
  rw [ec] at hR
  intro w2 k2
  simp only [SS]
  exact hR w2 (k1.trans k2)
 | ok r =>
  obtain ⟨i,n⟩:=r
  rw [ec] at hR
  intro w2 k2
  have k02:=k1.trans k2
  have hn:=(getN_some (changeK_ok ec)).2
  have hv2:=hv.kp k2 fun _ _=>id
  have hnb:=(hv2.nt.nd i n hn).2
  have b2:Bk w2 w.heap.size [I qq,I pp] 35:=k2.bk b1 id
  have la:∀ k,La 8 ⟨nb i,1,none⟩ w2 k=k n.bg.cells.toArray:=fun k=>by rw [hnb.la (by simp [ndC,Bg.cells])]; rfl
  have lr:∀ k,La 2 ⟨w.heap.size,0,none⟩ w2 k=k #[I qq,I pp]:=fun k=>b2.la0 (n:=2) rfl k
  simp only [SS,la,lr]
  have fin:∀ (w3:World) (x:Nat) (b:Bg),Kp No w w3→resizeB n.bg qq pp=.ok b→Bk w3 x b.cells 120→F170_0 K (some ⟨k,0,none⟩) h (some ⟨nb i,0,none⟩) ⟨x,0,none⟩ w3:=by
   intro w3 x b k3 hb hx
   have hv3:=hv0.kp k3 fun _ _=>id
   refine p170 hv3 hn hx ?_
   simp only [hb] at hR
   split
   ·rename_i e; rw [if_pos e] at hR; exact fun w4 k4=>hR w4 (k3.trans k4)
   ·rename_i e; rw [if_neg e] at hR; exact fun w4 s4=>hR w4 ⟨(k3.no _).trans s4.kp,fun _ _=>rfl,fun y hy hne=>by have:=hv0.bd y hne; omega⟩
  constructor
  ·refine k262 ?_
   cases eb:resizeB n.bg qq pp with
   | error e =>
    simp only [eb] at hR
    intro w3 k3
    simp only [SS]
    refine new_k zB.cells fun w4 k4 b4 s4=>?_
    refine sa_k (cs:=zB.cells) b4 rfl (by decide) (Bg.one _) fun w5 k5 b5 s5=>?_
    exact hR w5 (((k02.trans k3.drL).trans k4).own k5 (by have:=k02.size; have:=k3.drL.size; omega))
   | ok b =>
    intro w3 k3
    simp only [SS]
    refine new_k zB.cells fun w4 k4 b4 s4=>?_
    refine sa_k (cs:=b.cells) b4 rfl (by decide) (Bg.one _) fun w5 k5 b5 s5=>?_
    rw [over_all _ _ (by rfl)] at b5
    exact fin w5 _ b (((k02.trans k3.drL).trans k4).own k5 (by have:=k02.size; have:=k3.drL.size; omega)) eb b5
  ·refine new_dr zB.cells fun w4 k4 b4 s4=>?_
   have b4':Bk w4 w.heap.size [I qq,I pp] 35:=k4.bk b2 id
   have hnb4:Bk w4 (nb i) (ndC n (lf i)) 122:=k4.bk hnb id
   refine ⟨b4'.ha0 (n:=2) rfl ▸ trivial,by rw [hnb4.ha (by simp [ndC,Bg.cells]) (cs:=n.bg.cells.toArray) rfl]; trivial,?_⟩
   refine k262 ?_
   cases eb:resizeB n.bg qq pp with
   | error e =>
    simp only [eb] at hR
    intro w5 k5
    simp only [SS]
    refine sa_k (cs:=zB.cells) (k5.bk b4 id) rfl (by decide) (Bg.one _) fun w6 k6 b6 s6=>?_
    exact hR w6 (((k02.trans k4).trans k5).own k6 (by have:=k02.size; omega))
   | ok b =>
    intro w5 k5
    simp only [SS]
    refine sa_k (cs:=b.cells) (k5.bk b4 id) rfl (by decide) (Bg.one _) fun w6 k6 b6 s6=>?_
    rw [over_all _ _ (by rfl)] at b6
    exact fin w6 _ b (((k02.trans k4).trans k5).own k6 (by have:=k02.size; omega)) eb b6
theorem k90 {lab:Nat→Nat} {q k:Nat} {Kk:Kn} {h qq pp:Int} (hK:KR w lab q k Kk) (hR:match resizeK Kk h qq pp with
  | .error e=>∀ v w',Kp No w w'→Flt w' v e→K v w'
  | .ok K'=>∀ w',Stp w w' lab lab q→KR w' lab q k K'→K .nilIface w'):Ct Tryz.prog 90 #[Pt k 0,I h,.agg #[I qq,I pp]] w K:=by
 refine c90 ?_
 unfold F90
 refine new_k [I qq,I pp] fun w1 k1 b1 s1=>?_
 have lr:∀ k,La 2 ⟨w.heap.size,0,none⟩ w1 k=k #[I qq,I pp]:=fun k=>b1.la0 (n:=2) rfl k
 simp only [lr]
 have hbd:∀ x,lab x≠0→x<w.heap.size:=by obtain ⟨_,_,_,_,_,_,_,hv⟩:=hK; exact hv.bd
 refine k170 (hK.no k1) ?_
 cases e:resizeK Kk h qq pp with
 | error er =>
  rw [e] at hR
  intro w2 k2
  exact k129 (resizeK_err e) fun v w3 k3 hf=>hR v w3 ((k1.trans k2).trans k3) hf
 | ok K' =>
  rw [e] at hR
  intro w2 s2 hk2
  exact k129_no (hR w2 ⟨(k1.no _).trans s2.kp,fun _ _=>rfl,fun y hy hne=>by have:=hbd y hne; omega⟩ hk2)
end
section
open Sy
def F73 (R:Ko) (x0:Option Addr) (x1:Int) (x2:Int) (w:World):Prop:=New (.cells (.agg #[.int .i64 0,.slice none 0 0,.int .i64 0,.int .i64 0,.int .i64 0,.int .i64 0,.int .i64 0,.int .i64 0]:Value).cells 47) w fun x6 w1=>Ct Tryz.prog 130 #[.pointer x0,.int .i64 x1] w1 fun v14 w2=>on2 v14 fun y14_0 y14_1=>onP y14_0 fun x14_0=>New (.cells (.agg #[.int .i64 0,.slice none 0 0,.int .i64 0,.int .i64 0,.int .i64 0,.int .i64 0,.int .i64 0,.int .i64 0]:Value).cells 47) w2 fun x10 w3=>Ifm x0.isNone (La 8 x10 w3.drew fun x44=>Ct Tryz.prog 129 #[.int .i64 9,.int .i64 x1,y14_1] w3.drew fun v47 w4=>Ha 8 x10 x44 w4∧Sa 8 x6 x44 w4 fun w5=>Rd Tryz.prog (Instr.loadAt 47 (.pointer (some x6))) w5 fun r0=>R (.tuple #[r0,v47]) w5) (Ifm ((x1:Int) == 0) (onSome x0 fun x25=>Lc (x25.add 3) w3 fun v27=>onP v27 fun x27=>Ct Tryz.prog 151 #[.pointer x27,.int .i64 x2] w3 fun v29 w6=>on2 v29 fun y29_0 y29_1=>onG y29_0 fun x29_0=>Sa 8 x10 x29_0 w6 fun w7=>La 8 x10 w7.drew fun x44=>Ct Tryz.prog 129 #[.int .i64 9,.int .i64 x1,y29_1] w7.drew fun v47 w8=>Ha 8 x10 x44 w8∧Sa 8 x6 x44 w8 fun w9=>Rd Tryz.prog (Instr.loadAt 47 (.pointer (some x6))) w9 fun r0=>R (.tuple #[r0,v47]) w9) (Nl y14_1 fun x34=>Ifm x34 (onSome x14_0 fun x37=>Lc (x37.add 10) w3 fun v39=>onP v39 fun x39=>Ct Tryz.prog 152 #[.pointer x39,.int .i64 x2] w3 fun v41 w10=>on2 v41 fun y41_0 y41_1=>onG y41_0 fun x41_0=>Sa 8 x10 x41_0 w10 fun w11=>La 8 x10 w11.drew fun x44=>Ct Tryz.prog 129 #[.int .i64 9,.int .i64 x1,y41_1] w11.drew fun v47 w12=>Ha 8 x10 x44 w12∧Sa 8 x6 x44 w12 fun w13=>Rd Tryz.prog (Instr.loadAt 47 (.pointer (some x6))) w13 fun r0=>R (.tuple #[r0,v47]) w13) (La 8 x10 w3.drew fun x44=>Ct Tryz.prog 129 #[.int .i64 9,.int .i64 x1,y14_1] w3.drew fun v47 w14=>Ha 8 x10 x44 w14∧Sa 8 x6 x44 w14 fun w15=>Rd Tryz.prog (Instr.loadAt 47 (.pointer (some x6))) w15 fun r0=>R (.tuple #[r0,v47]) w15)))
noncomputable def b73:Code:=Tryz.f73.body.getD .skip
theorem c73 {R:Ko} {x0:Option Addr} {x1:Int} {x2:Int} {w:World} (h:F73 R x0 x1 x2 w):Ct Tryz.prog 73 #[.pointer x0,.int .i64 x1,.int .i64 x2] w R :=
 ctS (args:=[.pointer x0,.int .i64 x1,.int .i64 x2]) (body:=b73) (n:=48) (rs:=[.cell 6 47,.tmp 7]) Tryz.func73
  (sg (cuts:=[]) trivial h)
variable {K:Ko} {w w':World}
def taskOfK (K:Kn) (h x:Int):Except Int Tk :=
 if h=0 then (match getT K.pool 3 16 x with | none=>.error 20 | some (_,t)=>.ok t)
 else match getN K.n h with
  | none=>.error 20
  | some (_,n)=>match getT n.leaf 2 8 x with | none=>.error 20 | some (_,t)=>.ok t
theorem p73 {r y:Nat} {v:TkV} {h:Int} {e:Value} {d:Nat} (hr:Bk w r zT 47) (hy:Bk w y v.cells 47) (he:e=.nilIface∨e=Er 20)
  (hR:∀ u w',Kp (·=r) w w'→((e=.nilIface∧u=.nilIface)∨(e=Er 20∧Flt w' u 20))→K (.tuple #[.agg v.cells.toArray,u]) w') :
  La 8 ⟨y,0,none⟩ w fun x44=>Ct Tryz.prog 129 #[.int .i64 9,.int .i64 h,e] (dr w d) fun v47 w4=>Ha 8 ⟨y,0,none⟩ x44 w4∧Sa 8 ⟨r,0,none⟩ x44 w4 fun w5=>Rd Tryz.prog (Instr.loadAt 47 (.pointer (some ⟨r,0,none⟩))) w5 fun r0=>K (.tuple #[r0,v47]) w5:=by
 rw [hy.la0 (n:=8) v.len]
 have go:∀ u w4,Kp No w w4→((e=.nilIface∧u=.nilIface)∨(e=Er 20∧Flt w4 u 20))→Ha 8 ⟨y,0,none⟩ v.cells.toArray w4∧Sa 8 ⟨r,0,none⟩ v.cells.toArray w4 fun w5=>Rd Tryz.prog (Instr.loadAt 47 (.pointer (some ⟨r,0,none⟩))) w5 fun r0=>K (.tuple #[r0,u]) w5:=by
  intro u w4 k4 hu
  have y4:Bk w4 y v.cells 47:=k4.bk hy id
  refine ⟨by rw [y4.ha0 (n:=8) v.len]; trivial,?_⟩
  refine res_k (c:=zT) (cs:=v.cells) (k:=fun r0 w5=>K (.tuple #[r0,u]) w5) ld47 (k4.bk hr id) rfl rfl (by simpa using v.one) fun w5 k5=>?_
  refine hR u w5 ((k4.no _).trans k5) ?_
  rcases hu with hu | ⟨h1,h2⟩
  ·exact .inl hu
  ·refine .inr ⟨h1,?_⟩
   rcases h2 with ⟨h2,_⟩ | ⟨h0,f,op,a,h3,h4⟩
   ·omega
   ·exact .inr ⟨h0,f,op,a,h3,k5.bk h4 (fun hfr=>by
     subst hfr
     exact ne_of_bk h4 (k4.bk hr id) (fun e=>by injection e with _ e; simp at e) rfl)⟩
 rcases he with rfl | rfl
 ·exact k129_no (go _ _ (Kp.dr No w d) (.inl ⟨rfl,rfl⟩))
 ·exact k129 (by omega) fun u w4 k4 hf=>go u w4 k4.drL (.inr ⟨rfl,hf⟩)
theorem k73 {lab:Nat→Nat} {q k:Nat} {Kk:Kn} {h x:Int} (hK:KR w lab q k Kk) (hR:match taskOfK Kk h x with
  | .error e=>∀ u w',Kp No w w'→Flt w' u e→K (.tuple #[.agg zT.toArray,u]) w'
  | .ok t=>∀ v w',Kp No w w'→TkAt w' v t→Frsh w v→K (.tuple #[.agg v.cells.toArray,.nilIface]) w'):Ct Tryz.prog 73 #[Pt k 0,I h,I x] w K:=by
 refine c73 ?_
 unfold F73
 refine new_k zT fun w1 k1 b1 s1=>?_
 obtain ⟨t,L,bk,m,p,nb,lf,hv0⟩:=id hK
 have hv:=hv0.kp k1 fun _ _=>id
 unfold taskOfK at hR
 have bad:∀ (w7:World) (y d:Nat) (hk:Kp No w w7),Bk w7 w.heap.size zT 47→Bk w7 y zTV.cells 47→(∀ u w',Kp No w w'→Flt w' u 20→K (.tuple #[.agg zT.toArray,u]) w') →
   La 8 ⟨y,0,none⟩ w7 fun x44=>Ct Tryz.prog 129 #[.int .i64 9,.int .i64 h,Er 20] (dr w7 d) fun v47 w4=>Ha 8 ⟨y,0,none⟩ x44 w4∧Sa 8 ⟨w.heap.size,0,none⟩ x44 w4 fun w5=>Rd Tryz.prog (Instr.loadAt 47 (.pointer (some ⟨w.heap.size,0,none⟩))) w5 fun r0=>K (.tuple #[r0,v47]) w5:=by
  intro w7 y d hk hr hy hb
  refine p73 hr hy (.inr rfl) fun u w8 k8 hu=>?_
  rcases hu with ⟨h1,_⟩ | ⟨_,h2⟩
  ·cases h1
  ·exact hb u w8 (hk.own k8 (Nat.le_refl _)) h2
 have good:∀ (w7:World) (y d:Nat) (v:TkV) (tk:Tk) (hk:Kp No w w7),Bk w7 w.heap.size zT 47→Bk w7 y v.cells 47→TkAt w7 v tk→Frsh w v→(∀ v w',Kp No w w'→TkAt w' v tk→Frsh w v→K (.tuple #[.agg v.cells.toArray,.nilIface]) w') →
   La 8 ⟨y,0,none⟩ w7 fun x44=>Ct Tryz.prog 129 #[.int .i64 9,.int .i64 h,.nilIface] (dr w7 d) fun v47 w4=>Ha 8 ⟨y,0,none⟩ x44 w4∧Sa 8 ⟨w.heap.size,0,none⟩ x44 w4 fun w5=>Rd Tryz.prog (Instr.loadAt 47 (.pointer (some ⟨w.heap.size,0,none⟩))) w5 fun r0=>K (.tuple #[r0,v47]) w5:=by
  intro w7 y d v tk hk hr hy ht hfr hb
  refine p73 hr hy (.inl rfl) fun u w8 k8 hu=>?_
  rcases hu with ⟨_,rfl⟩ | ⟨h1,_⟩
  ·refine hb v w8 (hk.own k8 (Nat.le_refl _)) (ht.kp k8 fun a ha e=>by
   have hj:=ht.jobs
   rw [ha] at hj
   rcases own_bk hj with ⟨h',_⟩ | ⟨g,cur,hg,_,_,hbk,_⟩
   ·cases h'
   ·injection hg with hg
    subst hg
    exact ne_of_bk hbk hr (fun e=>by injection e with _ e; simp at e) e) hfr
  ·cases h1
 have hbd:=hv0.bd
 have pool:h=0→∀ w3:World,Kp No w1 w3→Bk w3 w1.heap.size zT 47→Lc ⟨k,3,none⟩ w3 fun v27=>onP v27 fun x27=>Ct Tryz.prog 151 #[.pointer x27,.int .i64 x] w3 fun v29 w6=>on2 v29 fun yv29_0 yv29_1=>onG yv29_0 fun xyv29_0=>Sa 8 ⟨w1.heap.size,0,none⟩ xyv29_0 w6 fun w7=>La 8 ⟨w1.heap.size,0,none⟩ w7 fun x44=>Ct Tryz.prog 129 #[.int .i64 9,.int .i64 h,yv29_1] (dr w7 (w7.drawn+1)) fun v47 w8=>Ha 8 ⟨w1.heap.size,0,none⟩ x44 w8∧Sa 8 ⟨w.heap.size,0,none⟩ x44 w8 fun w9=>Rd Tryz.prog (Instr.loadAt 47 (.pointer (some ⟨w.heap.size,0,none⟩))) w9 fun r0=>K (.tuple #[r0,v47]) w9:=by
  intro h0 w3 k3 b3
  rw [if_pos h0] at hR
  have hv3:=hv.kp k3 fun _ _=>id
  rw [hv3.kh.rd (o:=3) (v:=Pt p 0) rfl]
  simp only [onP_eq]
  refine k151 hv3.pool ?_
  have kk:∀ {w6 w7:World},Kp No w3 w6→Kp (·=w1.heap.size) w6 w7→Kp No w w7∧Bk w7 w.heap.size zT 47:=fun k6 k7=>⟨((k1.trans k3).trans k6).own k7 (by omega),k7.bk (k6.bk (k3.bk b1 id) id) (by omega)⟩
  cases e:getT Kk.pool 3 16 x with
  | none =>
   rw [e] at hR
   intro w6 k6
   simp only [on2_eq,onG_eq]
   refine sa_k (cs:=zT) (k6.bk b3 id) rfl (by decide) (by simp [zT,oneCell]) fun w7 k7 b7 s7=>?_
   rw [over_all _ _ (by rfl)] at b7
   exact bad w7 _ _ (kk k6 k7).1 (kk k6 k7).2 b7 hR
  | some r =>
   rw [e] at hR
   intro v w6 k6 hv6 hf6
   simp only [on2_eq,onG_eq]
   refine sa_k (cs:=v.cells) (k6.bk b3 id) rfl (by decide) (by simpa using v.one) fun w7 k7 b7 s7=>?_
   rw [over_all _ _ (show zT.length=v.cells.length from rfl)] at b7
   refine good w7 _ _ v _ (kk k6 k7).1 (kk k6 k7).2 b7 (hv6.kp k7 fun a ha e=>?_) (fun a ha=>Nat.le_trans (k1.trans k3).size (hf6 a ha)) hR
   have hj:=hv6.jobs
   rw [ha] at hj
   rcases own_bk hj with ⟨h',_⟩ | ⟨g,cur,hg,_,_,hbk,_⟩
   ·cases h'
   ·injection hg with hg
    subst hg
    exact ne_of_bk hbk (k6.bk b3 id) (fun e=>by injection e with _ e; simp at e) e
 refine k130 hv.nt ?_
 have la8:∀ {y:Nat} {w3:World},Bk w3 y zT 47→∀ k,La 8 ⟨y,0,none⟩ w3 k=k zT.toArray:=fun hb k=>hb.la0 rfl k
 cases e:getN Kk.n h with
 | none =>
  intro d
  simp only [SS]
  refine new_dr zT fun w3 k3 b3 s3=>?_
  by_cases h0:h=0
  ·rw [if_pos h0]; exact pool h0 w3 k3 b3
  ·rw [if_neg h0] at hR ⊢
   rw [e] at hR
   exact bad w3 _ _ (k1.trans k3) (k3.bk b1 id) b3 hR
 | some r =>
  obtain ⟨i,n⟩:=r
  intro d
  simp only [SS]
  refine new_dr zT fun w3 k3 b3 s3=>?_
  by_cases h0:h=0
  ·rw [if_pos h0]; exact pool h0 w3 k3 b3
  ·rw [if_neg h0] at hR ⊢
   rw [e] at hR
   simp only at hR
   have hn:=(getN_some e).2
   have hv3:=hv.kp k3 fun _ _=>id
   have hnb:=(hv3.nt.nd i n hn).2
   rw [hnb.rd (o:=10) (v:=Pt (lf i) 0) rfl]
   simp only [onP_eq]
   refine k152 (hv3.leaf i n hn) ?_
   have kk:∀ {w6 w7:World},Kp No w3 w6→Kp (·=w1.heap.size) w6 w7→Kp No w w7∧Bk w7 w.heap.size zT 47:=fun k6 k7=>⟨((k1.trans k3).trans k6).own k7 (by omega),k7.bk (k6.bk (k3.bk b1 id) id) (by omega)⟩
   cases eg:getT n.leaf 2 8 x with
   | none =>
    rw [eg] at hR
    intro w6 k6
    simp only [on2_eq,onG_eq]
    refine sa_k (cs:=zT) (k6.bk b3 id) rfl (by decide) (by simp [zT,oneCell]) fun w7 k7 b7 s7=>?_
    rw [over_all _ _ (by rfl)] at b7
    exact bad w7 _ _ (kk k6 k7).1 (kk k6 k7).2 b7 hR
   | some r =>
    rw [eg] at hR
    intro v w6 k6 hv6 hf6
    simp only [on2_eq,onG_eq]
    refine sa_k (cs:=v.cells) (k6.bk b3 id) rfl (by decide) (by simpa using v.one) fun w7 k7 b7 s7=>?_
    rw [over_all _ _ (show zT.length=v.cells.length from rfl)] at b7
    refine good w7 _ _ v _ (kk k6 k7).1 (kk k6 k7).2 b7 (hv6.kp k7 fun a ha e=>?_) (fun a ha=>Nat.le_trans (k1.trans k3).size (hf6 a ha)) hR
    have hj:=hv6.jobs
    rw [ha] at hj
    rcases own_bk hj with ⟨h',_⟩ | ⟨g,cur,hg,_,_,hbk,_⟩
    ·cases h'
    ·injection hg with hg
     subst hg
     exact ne_of_bk hbk (k6.bk b3 id) (fun e=>by injection e with _ e; simp at e) e
end
section
open Sy
variable {w w':World}
theorem findS_upd {α:Type} {N:Slots α} {kind x:Int} {n i j:Nat} {s:Int × Option α} (h:findS N kind n x=some j) (hj:j≠i):findS (upd1 N i s) kind n x=some j:=by
 unfold findS at h ⊢
 split at h
 ·rename_i hc
  injection h with h
  rw [h] at hc
  rw [h,upd1_ne _ _ hj,if_pos hc]
 ·cases h
def addN (N:Nds) (i:Nat) (n:Nd):Nds:=upd1 N i ((N i).1,some n)
section
variable {N:Nds} {i:Nat} {n:Nd}
theorem addN_get (hf:(N i).2=none) {x:Int} {j:Nat} {m:Nd} (h:getN N x=some (j,m)):getN (addN N i n) x=some (j,m):=by
 obtain ⟨h1,h2⟩:=getN_some h
 have hj:j≠i:=fun e=>by rw [e,hf] at h2; cases h2
 have:=findS_upd (s:=((N i).1,some n)) h1 hj
 unfold getN addN
 rw [this]
 simp [upd1_ne _ _ hj,h2]
theorem addN_up (hf:(N i).2=none) {x:Int} {l:List Int} (h:Up N x l):Up (addN N i n) x l:=by
 induction h with
 | top=>exact .top
 | step hne hg _ ih=>exact .step hne (addN_get hf hg) ih
theorem nameS_ne {i:Nat} {g:Int} (h:okH 1 i g=true):nameS 1 i g≠0:=by
 unfold nameS
 rw [if_pos h,mkH_eq h]
 unfold okH at h
 simp only [Bool.and_eq_true,decide_eq_true_eq] at h
 omega
theorem addN_self (hi:i<64) (h1:1≤(N i).1) (h2:(N i).1≤1023):getN (addN N i n) (nameS 1 i (N i).1)=some (i,n):=by
 have hok:okH 1 i (N i).1=true:=by unfold okH; simp; omega
 have e:((addN N i n) i)=((N i).1,some n):=upd1_same _ _ _
 have:=find_name (S:=addN N i n) (kind:=1) (n:=64) (i:=i) (by rw [e]; exact hok) hi (by rw [e]; rfl)
 rw [e] at this
 unfold getN
 rw [this]
 simp [e]
end
theorem Kn.Ok.add {K:Kn} {i:Nat} {n:Nd} {l:List Int} (h:K.Ok) (hf:(K.n i).2=none) (hi:i<64) (h2:(K.n i).1≤1023) (hU:Up K.n n.par l) (h8:l.length≤8):({ K with n:=addN K.n i n }:Kn).Ok:=by
 have h1:=h.gens i
 have hok:okH 1 i (K.n i).1=true:=by unfold okH; simp; omega
 refine ⟨fun j m hm=>?_,?_,fun j=>?_⟩
 ·have hm:(addN K.n i n j).2=some m:=hm
  show ∃ l,Up (addN K.n i n) (nameS 1 j (addN K.n i n j).1) l∧l.length≤9
  by_cases e:j=i
  ·subst e
   have e1:(addN K.n j n j).1=(K.n j).1:=by unfold addN; rw [upd1_same]
   rw [e1]
   exact ⟨_,.step (nameS_ne hok) (addN_self hi h1 h2) (addN_up hf hU),by simp; omega⟩
  ·have e1:addN K.n i n j=K.n j:=upd1_ne _ _ e
   rw [e1] at hm ⊢
   obtain ⟨l,hl,h9⟩:=h.up j m hm
   exact ⟨l,addN_up hf hl,h9⟩
 ·obtain ⟨m,hm,hp⟩:=h.root
  have e:(0:Nat)≠i:=fun e=>by rw [← e,hm] at hf; cases hf
  exact ⟨m,(upd1_ne _ _ e).trans hm,hp⟩
 ·show 1≤(addN K.n i n j).1
  by_cases e:j=i
  ·subst e; unfold addN; rw [upd1_same]; exact h1
  ·unfold addN; rw [upd1_ne _ _ e]; exact h.gens j
def nlN (lab:Nat→Nat) (q i b l bt Lr x:Nat):Nat:=if x=b then q+100+i else if x=Lr then q+200+i else if x=l∨x=bt then q+1 else lab x
theorem LF.more {F C C':Nat→Prop} {l:Nat} {S:Slots Tk} (h:LF w F C l S) (hC:∀ x,C x→C' x) (hb:∀ x,C' x→x<w.heap.size):LF w F C' l S:=by
 obtain ⟨b,h1,h2,h3,h4,h5⟩:=h
 exact ⟨b,h1,hC _ h2,h3,fun x hx=>by rcases hx with hx | hx; exact h4 x (.inl hx); exact hb x hx,h5.mono (fun _=>id) hC⟩
theorem PL.more {F C C':Nat→Prop} {p:Nat} {S:Slots Tk} {last:Int} (h:PL w F C p S last) (hC:∀ x,C x→C' x) (hb:∀ x,C' x→x<w.heap.size) (hp:¬ C' p):PL w F C' p S last:=by
 obtain ⟨b,h1,h2,h3,h4,h5⟩:=h
 exact ⟨b,h1,h2,hp,fun x hx=>by rcases hx with hx | hx; exact h4 x (.inl hx); exact hb x hx,h5.mono (fun _=>id) hC⟩
theorem KRv.addNode {lab:Nat→Nat} {q k t L bk m p i b l bt Lr:Nat} {nb lf:Nat→Nat} {K:Kn} {n:Nd} (h:KRv w lab q k t L bk m p nb lf K) (hf:(K.n i).2=none) (hi:i<64) (h2:(K.n i).1≤1023) (kp:Kp (·=L) w w')
  (ht:Tab w' 199 201 3 64 1 t L (fun j=>slotC ptC [.pointer none] (upd1 (nv nb K.n) i ((nv nb K.n i).1,some (some ⟨b,0,none⟩)) j)))
  (gb:w.heap.size≤b) (gl:w.heap.size≤l) (gt:w.heap.size≤bt) (gL:w.heap.size≤Lr) (hb:Bk w' b (ndC n l) 122) (hl:Bk w' l [Pt bt 0] 208)
  (hT:TTV w' (·=Lr) (fun x=>x=l∨x=bt) bt Lr emptyS 2 8 emptyS) (hn:n.leaf=emptyS) (hO:({ K with n:=addN K.n i n }:Kn).Ok) :
  KRv w' (nlN lab q i b l bt Lr) q k t L bk m p (upd1 nb i b) (upd1 lf i l) { K with n:=addN K.n i n }∧Stp w w' lab (nlN lab q i b l bt Lr) q:=by
 have h0:=h.q0
 have bl:b≠l:=ne_of_bk hb hl fun e=>by injection e with _ e; simp at e
 have bt':b≠bt:=ne_of_bk hb hT.tab.hd fun e=>by injection e with _ e; simp at e
 have bL:b≠Lr:=ne_of_bk hb hT.tab.row fun e=>by injection e with _ e; simp at e
 have lL:l≠Lr:=ne_of_bk hl hT.tab.row fun e=>by injection e with _ e; simp at e
 have tL:bt≠Lr:=ne_of_bk hT.tab.hd hT.tab.row fun e=>by injection e with _ e; simp at e
 have ltb:=hb.lt
 have ltl:=hl.lt
 have ltt:=hT.tab.hd.lt
 have ltL:=hT.tab.row.lt
 have la:∀ {x s:Nat},lab x=s→s≠0→nlN lab q i b l bt Lr x=s:=fun {x s} hx hs=>by
  have:=h.bd x (by omega)
  unfold nlN
  rw [if_neg (by omega),if_neg (by omega),if_neg (by omega),hx]
 have lo:∀ s,s≠0→s≠q+100+i→s≠q+200+i→s≠q+1→(fun x=>nlN lab q i b l bt Lr x=s)=(fun x=>lab x=s):=fun s hs h3 h4 h5=>by
  funext x
  apply propext
  constructor
  ·intro hx
   unfold nlN at hx
   split at hx
   ·exact absurd hx.symm h3
   ·split at hx
    ·exact absurd hx.symm h4
    ·split at hx
     ·exact absurd hx.symm h5
     ·exact hx
  ·exact fun hx=>la hx hs
 have c1:∀ x,lab x=q+1→nlN lab q i b l bt Lr x=q+1:=fun x hx=>la hx (by omega)
 have bd':∀ x,nlN lab q i b l bt Lr x≠0→x<w'.heap.size:=fun x hx=>by
  unfold nlN at hx
  split at hx
  ·omega
  ·split at hx
   ·omega
   ·split at hx
    ·omega
    ·exact Nat.lt_of_lt_of_le (h.bd x hx) kp.size
 have ns:∀ {x r:Nat},lab x=q+r→r≠3→¬ x=L:=fun hx hr he=>by rw [he,h.lL] at hx; omega
 obtain ⟨r,hr⟩:=h.nt.kt
 have eN:∀ j,j≠i→addN K.n i n j=K.n j:=fun j hj=>upd1_ne _ _ hj
 have eI:addN K.n i n i=((K.n i).1,some n):=upd1_same _ _ _
 have hnv:nv (upd1 nb i b) (addN K.n i n)=upd1 (nv nb K.n) i ((nv nb K.n i).1,some (some ⟨b,0,none⟩)):=by
  funext j
  by_cases e:j=i
  ·subst e; unfold nv; rw [upd1_same,upd1_same,eI]; rfl
  ·rw [upd1_ne _ _ e]; unfold nv; rw [upd1_ne _ _ e,eN j e]
 refine ⟨⟨kp.bk h.kh (ns h.lk (by omega)),⟨⟨r,kp.bk hr (ns h.lk (by omega))⟩,?_,?_,?_⟩,h.book.kp kp (ns h.lbk (by omega)) (ns h.lm (by omega)),?_,?_,la h.lk (by omega),la h.lt (by omega),la h.lL (by omega),la h.lbk (by omega),la h.lm (by omega),la h.lp (by omega),?_,bd',h0,hO⟩,?_⟩
 ·show Tab w' 199 201 3 64 1 t L fun j=>slotC ptC [.pointer none] (nv (upd1 nb i b) (addN K.n i n) j)
  rw [hnv]; exact ht
 ·intro j nj hj
  have hj:(addN K.n i n j).2=some nj:=hj
  by_cases e:j=i
  ·subst e
   rw [eI] at hj
   injection hj with hj
   subst hj
   rw [upd1_same,upd1_same]
   exact ⟨hi,hb⟩
  ·rw [eN j e] at hj
   rw [upd1_ne _ _ e,upd1_ne _ _ e]
   have:=(h.nt.nd j nj hj).1
   exact ⟨this,kp.bk (h.nt.nd j nj hj).2 (ns (r:=100+j) (by have:=h.ln j nj hj; omega) (by omega))⟩
 ·intro j hj
  show 1≤(addN K.n i n j).1∧(addN K.n i n j).1≤1023
  have hj:(addN K.n i n j).2.isSome=true:=hj
  by_cases e:j=i
  ·subst e; rw [eI]; exact ⟨h.ok.gens j,h2⟩
  ·rw [eN j e] at hj ⊢; exact h.nt.gen j hj
 ·rw [lo (q+6) (by omega) (by omega) (by omega) (by omega)]
  refine PL.more (h.pool.kp kp (fun x hx=>ns hx (by omega)) (fun x hx=>ns hx (by omega)) (ns h.lp (by omega))) c1 (fun x hx=>bd' x (by omega)) (by rw [la h.lp (by omega)]; omega)
 ·intro j nj hj
  have hj:(addN K.n i n j).2=some nj:=hj
  by_cases e:j=i
  ·subst e
   rw [eI] at hj
   injection hj with hj
   subst hj
   rw [upd1_same,hn]
   have el:nlN lab q j b l bt Lr l=q+1:=by unfold nlN; rw [if_neg (fun e=>bl e.symm),if_neg lL,if_pos (.inl rfl)]
   have et:nlN lab q j b l bt Lr bt=q+1:=by unfold nlN; rw [if_neg (fun e=>bt' e.symm),if_neg tL,if_pos (.inr rfl)]
   have eL:nlN lab q j b l bt Lr Lr=q+200+j:=by unfold nlN; rw [if_neg (fun e=>bL e.symm),if_pos rfl]
   refine ⟨bt,hl,el,(by show ¬ nlN lab q j b l bt Lr l=_; rw [el]; omega),fun x hx=>bd' x (by omega),TT.mono ⟨Lr,emptyS,hT⟩ (fun x hx=>by rw [hx]; exact eL) fun x hx=>?_⟩
   rcases hx with rfl | rfl
   ·exact el
   ·exact et
  ·rw [eN j e] at hj
   rw [upd1_ne _ _ e,lo (q+200+j) (by omega) (by omega) (by omega) (by omega)]
   have:=(h.nt.nd j nj hj).1
   exact LF.more ((h.leaf j nj hj).kp kp (fun x hx=>ns (r:=200+j) (by omega) (by omega)) (fun x hx=>ns hx (by omega))) c1 fun x hx=>bd' x (by omega)
 ·intro j nj hj
  have hj:(addN K.n i n j).2=some nj:=hj
  by_cases e:j=i
  ·subst e
   rw [upd1_same]; unfold nlN; rw [if_pos rfl]
  ·rw [eN j e] at hj
   rw [upd1_ne _ _ e]; exact la (h.ln j nj hj) (by omega)
 ·refine ⟨kp.mono fun x _ hx=>by rw [hx,h.lL]; unfold inK; omega,fun x hx=>?_,fun x hx hn=>?_⟩
  ·unfold nlN
   rw [if_neg (by omega),if_neg (by omega),if_neg (by omega)]
  ·unfold nlN at hn ⊢
   split
   ·unfold inK; omega
   ·split
    ·unfold inK; omega
    ·split
     ·unfold inK; omega
     ·rename_i a1 a2 a3
      rw [if_neg a1,if_neg a2,if_neg a3] at hn
      have:=h.bd x hn
      omega
end
section
open Sy
def walkL:Nat→Nds→Int→List Int
 | 0,_,_=>[]
 | f+1,N,h=>h :: (kidsN N h).flatMap (walkL f N)
section
variable {N:Nds}
theorem Up.inv {h:Int} {l:List Int} (hU:Up N h l):(h=0∧l=[])∨∃ i n l',h≠0∧getN N h=some (i,n)∧l=h :: l'∧Up N n.par l':=by
 cases hU with
 | top=>exact .inl ⟨rfl,rfl⟩
 | step h1 h2 h3=>exact .inr ⟨_,_,_,h1,h2,rfl,h3⟩
theorem Up.head {h x:Int} {l:List Int} (h1:Up N h (x :: l)):h=x:=by cases h1; rfl
theorem Up.ne {h x:Int} {l:List Int} (h1:Up N h (x :: l)):h≠0:=by cases h1; assumption
theorem Up.uniq {h:Int} {l l':List Int} (h1:Up N h l) (h2:Up N h l'):l=l':=by
 induction h1 generalizing l' with
 | top=>cases h2 with
  | top=>rfl
  | step hne=>exact absurd rfl hne
 | step hne hg _ ih=>cases h2 with
  | top=>exact absurd rfl hne
  | step _ hg' h2 =>
   rw [hg] at hg'
   injection hg' with hg'
   injection hg' with h3 h4
   subst h4
   rw [ih h2]
theorem Up.drop {h x:Int} {l1 l2:List Int} (h1:Up N h (l1++x :: l2)):Up N x (x :: l2):=by
 induction l1 generalizing h with
 | nil=>have:=h1.head; subst this; exact h1
 | cons y l1 ih=>cases h1 with
  | step _ _ h2=>exact ih h2
theorem name_get {x:Int} {i:Nat} {n:Nd} (h:getN N x=some (i,n)):x=nameS 1 i (N i).1∧i<64∧(N i).2=some n∧x∈allS N 1 64:=by
 obtain ⟨h1,h2⟩:=getN_some h
 have h3:=(found_name (by decide) h1).1
 have h4:i<64:=by
  unfold findS at h1
  split at h1
  ·rename_i hc; injection h1 with h1; omega
  ·cases h1
 refine ⟨h3,h4,h2,?_⟩
 unfold allS
 rw [List.mem_filterMap]
 exact ⟨i,by simpa using h4,by rw [h2,h3]; rfl⟩
theorem kid_of {x h:Int} {i:Nat} {n:Nd} (hg:getN N x=some (i,n)) (hp:n.par=h):x∈kidsN N h:=by
 unfold kidsN
 rw [List.mem_filter]
 exact ⟨(name_get hg).2.2.2,by unfold kidB; rw [hg]; simpa using hp⟩
theorem of_kid {x h:Int} (hx:x∈kidsN N h) (hh:∃ i n,getN N x=some (i,n)):∃ i n,getN N x=some (i,n)∧n.par=h:=by
 obtain ⟨i,n,hg⟩:=hh
 unfold kidsN at hx
 rw [List.mem_filter] at hx
 have:=hx.2
 unfold kidB at this
 rw [hg] at this
 exact ⟨i,n,hg,by simpa using this⟩
theorem walk_up {f:Nat} (hlive:∀ x h,x∈kidsN N h→∃ i n,getN N x=some (i,n)) (h0:∀ x i n,getN N x=some (i,n)→x≠0):∀ {h x:Int} {l:List Int},Up N h (h :: l)→x∈walkL f N h→∃ l1,Up N x (l1++h :: l):=by
 induction f with
 | zero=>intro h x l _ hx; cases hx
 | succ f ih =>
  intro h x l hU hx
  unfold walkL at hx
  rcases List.mem_cons.1 hx with rfl | hx
  ·exact ⟨[],hU⟩
  ·obtain ⟨c,hc,hx⟩:=List.mem_flatMap.1 hx
   obtain ⟨i,n,hg,hp⟩:=of_kid hc (hlive _ _ hc)
   have hcU:Up N c (c :: h :: l):=.step (h0 _ _ _ hg) hg (hp ▸ hU)
   obtain ⟨l1,h1⟩:=ih hcU hx
   exact ⟨l1++[c],by simpa using h1⟩
theorem up_walk:∀ (f:Nat) (h x:Int) (l1 l:List Int),Up N x (l1++h :: l)→l1.length<f→x∈walkL f N h:=by
 intro f
 induction f with
 | zero=>intro h x l1 l _ hf; omega
 | succ f ih =>
  intro h x l1 l hU hf
  unfold walkL
  rcases List.eq_nil_or_concat l1 with rfl | ⟨l1',c,rfl⟩
  ·have:=hU.head; subst this; exact List.mem_cons_self
  ·refine List.mem_cons_of_mem _ (List.mem_flatMap.2 ⟨c,?_,?_⟩)
   ·have hU':Up N x (l1'++c :: h :: l):=by simpa using hU
    have hc:=hU'.drop
    cases hc with
    | step _ hg h2=>exact kid_of hg h2.head
   ·exact ih c x l1' (h :: l) (by simpa using hU) (by simp at hf; omega)
def dropN (N:Nds) (x:Int):Nds:=match findS N 1 64 x with
 | none=>N
 | some i=>upd1 N i (IntKind.i64.wrap ((N i).1+1),none)
theorem drop_get {x y:Int} {j:Nat} {m:Nd} (h:getN N y=some (j,m)) (hne:y≠x):getN (dropN N x) y=some (j,m):=by
 unfold dropN
 cases e:findS N 1 64 x with
 | none=>exact h
 | some i =>
  obtain ⟨h1,h2⟩:=getN_some h
  have hj:j≠i:=fun e2=>by
   subst e2
   exact hne ((found_name (by decide) h1).1.trans (found_name (by decide) e).1.symm)
  have:=findS_upd (s:=(IntKind.i64.wrap ((N i).1+1),none)) h1 hj
  show getN (upd1 N i _) y=_
  unfold getN
  rw [this]
  simp [upd1_ne _ _ hj,h2]
theorem drop_up {x y:Int} {l:List Int} (h:Up N y l) (hn:x ∉ l):Up (dropN N x) y l:=by
 induction h with
 | top=>exact .top
 | step hne hg _ ih=>exact .step hne (drop_get hg fun e=>hn (by rw [← e]; exact List.mem_cons_self)) (ih fun h=>hn (List.mem_cons_of_mem _ h))
def dropAll (N:Nds) (l:List Int):Nds:=l.foldl dropN N
theorem dropAll_up:∀ (xs:List Int) (N:Nds) {y:Int} {l:List Int},Up N y l→(∀ x∈xs,x ∉ l)→Up (dropAll N xs) y l
 | [],_,_,_,h,_=>h
 | x :: xs,N,_,_,h,hn=>dropAll_up xs (dropN N x) (drop_up h (hn x List.mem_cons_self)) fun z hz=>hn z (List.mem_cons_of_mem _ hz)
theorem drop_old (N:Nds) (x:Int) (j:Nat):dropN N x j=N j∨((dropN N x j).2=none∧∃ m,(N j).2=some m∧x=nameS 1 j (N j).1∧(dropN N x j).1=IntKind.i64.wrap ((N j).1+1)):=by
 unfold dropN
 cases e:findS N 1 64 x with
 | none=>exact .inl rfl
 | some i =>
  by_cases h:j=i
  ·subst h
   obtain ⟨m,hm⟩:=findS_some e
   exact .inr ⟨by show (upd1 N j _ j).2=none; rw [upd1_same],m,hm,(found_name (by decide) e).1,by show (upd1 N j _ j).1=_; rw [upd1_same]⟩
  ·exact .inl (upd1_ne _ _ h)
theorem dropAll_old:∀ (xs:List Int) (N:Nds) (j:Nat) (m:Nd),(dropAll N xs j).2=some m→dropAll N xs j=N j
 | [],_,_,_,_=>rfl
 | x :: xs,N,j,m,h=>by
  have h1:=dropAll_old xs (dropN N x) j m h
  have h1:dropAll N (x :: xs) j=dropN N x j:=h1
  rcases drop_old N x j with h2 | ⟨h2,_⟩
  ·rw [h1,h2]
  ·have h:(dropAll N (x :: xs) j).2=some m:=h
   rw [h1,h2] at h
   cases h
def GenOk (N:Nds):Prop:=∀ i,(N i).2.isSome=true→1≤(N i).1∧(N i).1≤1023
theorem name_here (hG:GenOk N) {i:Nat} {n:Nd} (hi:i<64) (hn:(N i).2=some n):getN N (nameS 1 i (N i).1)=some (i,n):=by
 obtain ⟨h1,h2⟩:=hG i (by rw [hn]; rfl)
 have hok:okH 1 i (N i).1=true:=by unfold okH; simp; omega
 simp [getN,find_name hok hi (by rw [hn]; rfl),hn]
theorem kids_live (hG:GenOk N) {x h:Int} (hx:x∈kidsN N h):∃ i n,getN N x=some (i,n)∧n.par=h:=by
 unfold kidsN at hx
 rw [List.mem_filter] at hx
 obtain ⟨i,hi,hs,rfl⟩:=all_mem hx.1
 obtain ⟨n,hn⟩:=Option.isSome_iff_exists.1 hs
 have hg:=name_here hG hi hn
 have:=hx.2
 unfold kidB at this
 rw [hg] at this
 exact ⟨i,n,hg,by simpa using this⟩
theorem live_ne (hG:GenOk N) {x:Int} {i:Nat} {n:Nd} (h:getN N x=some (i,n)):x≠0:=by
 obtain ⟨h1,h2,h3,_⟩:=name_get h
 obtain ⟨h4,h5⟩:=hG i (by rw [h3]; rfl)
 rw [h1]
 exact nameS_ne (by unfold okH; simp; omega)
theorem allS_nodup (hG:GenOk N):(allS N 1 64).Nodup:=by
 unfold allS List.Nodup
 rw [List.pairwise_filterMap]
 refine List.Pairwise.imp_of_mem (R:=(· ≠ ·)) (fun {i j} hi hj hij b hb b' hb' e=>hij ?_) List.nodup_range
 simp only [List.mem_range] at hi hj
 split at hb
 ·rename_i h1
  split at hb'
  ·rename_i h2
   injection hb with hb
   injection hb' with hb'
   obtain ⟨n,hn⟩:=Option.isSome_iff_exists.1 h1
   obtain ⟨m,hm⟩:=Option.isSome_iff_exists.1 h2
   have a:=name_here hG hi hn
   have c:=name_here hG hj hm
   rw [hb,e,← hb',c] at a
   injection a with a
   injection a with a _
   exact a.symm
  ·cases hb'
 ·cases hb
theorem kids_nodup (hG:GenOk N) (h:Int):(kidsN N h).Nodup:=List.Pairwise.filter _ (allS_nodup hG)
theorem kid_up (hG:GenOk N) {x h:Int} {l:List Int} (hx:x∈kidsN N h) (hU:Up N h l):Up N x (x :: l):=by
 obtain ⟨i,n,hg,hp⟩:=kids_live hG hx
 exact .step (live_ne hG hg) hg (hp ▸ hU)
end
theorem Kn.Ok.dropW {K:Kn} (h:K.Ok) (hG:GenOk K.n) {x:Int} {i:Nat} {n:Nd} {l:List Int} (hg:getN K.n x=some (i,n)) (hU:Up K.n x (x :: l)) (hl:l≠[]) {f:Nat} (hf:9≤f):({ K with n:=dropAll K.n (walkL f K.n x) }:Kn).Ok∧GenOk (dropAll K.n (walkL f K.n x)) ∧
  ∀ y m,Up K.n y m→x ∉ m→Up (dropAll K.n (walkL f K.n x)) y m:=by
 have hwu:=fun {z:Int}=>walk_up (N:=K.n) (f:=f) (x:=z) (fun y hh hy=>by obtain ⟨i,n,h1,_⟩:=kids_live hG hy; exact ⟨i,n,h1⟩) (fun y i n hy=>live_ne hG hy) hU
 have keep:∀ y m,Up K.n y m→x ∉ m→Up (dropAll K.n (walkL f K.n x)) y m:=fun y m hm hx=>dropAll_up _ _ hm fun z hz hzm=>by
  obtain ⟨l1,h1⟩:=hwu hz
  obtain ⟨m1,m2,rfl⟩:=List.append_of_mem hzm
  have h2:=hm.drop
  have e:=h2.uniq h1
  have:x∈z :: m2:=by rw [e]; simp
  exact hx (List.mem_append_right _ this)
 refine ⟨⟨fun j m hj=>?_,?_,fun j=>?_⟩,fun j hj=>?_,keep⟩
 ·have hj:(dropAll K.n (walkL f K.n x) j).2=some m:=hj
  have e:=dropAll_old _ _ _ _ hj
  show ∃ l,Up (dropAll K.n (walkL f K.n x)) (nameS 1 j (dropAll K.n (walkL f K.n x) j).1) l∧l.length≤9
  rw [e] at hj ⊢
  obtain ⟨l2,h2,h9⟩:=h.up j m hj
  refine ⟨l2,keep _ _ h2 fun hx=>?_,h9⟩
  obtain ⟨m1,m2,rfl⟩:=List.append_of_mem hx
  have hw:nameS 1 j (K.n j).1∈walkL f K.n x:=up_walk f x _ m1 m2 h2 (by simp at h9; omega)
  have gone:∀ (xs:List Int) (N:Nds) (j:Nat) (mm:Nd),(N j).2=some mm→GenOk N→j<64→nameS 1 j (N j).1∈xs→∀ z,(dropAll N xs j).2=some z→False:=by
   intro xs
   induction xs with
   | nil=>intro N j mm _ _ _ h1; cases h1
   | cons y xs ih =>
    intro N j mm hN hGN hj64 hmem z hz
    have hz':=hz
    have e1:=dropAll_old xs (dropN N y) j z hz
    have hz2:(dropN N y j).2=some z:=by
     have:dropAll N (y :: xs)=dropAll (dropN N y) xs:=rfl
     rw [this,e1] at hz; exact hz
    rcases drop_old N y j with h1 | ⟨h1,_⟩
    ·rcases List.mem_cons.1 hmem with e2 | hmem
     ·have hg:=name_here hGN hj64 hN
      rw [e2] at hg
      obtain ⟨h3,_⟩:=getN_some hg
      have:dropN N y j=(IntKind.i64.wrap ((N j).1+1),none):=by unfold dropN; rw [h3]; exact upd1_same _ _ _
      rw [this] at hz2
      cases hz2
     ·refine ih (dropN N y) j mm (by rw [h1]; exact hN) (fun k hk=>?_) hj64 (by rw [h1]; exact hmem) z hz
      rcases drop_old N y k with h2 | ⟨h2,_⟩
      ·rw [h2] at hk ⊢; exact hGN k hk
      ·rw [h2] at hk; cases hk
    ·rw [h1] at hz2; cases hz2
  have hj64:j<64:=by
   rcases h2.inv with ⟨_,h2'⟩ | ⟨i2,n2,l',_,hg2,_,_⟩
   ·simp at h2'
   ·by_cases hjj:j<64
    ·exact hjj
    ·exfalso
     have hok:okH 1 j (K.n j).1=true:=by
      by_cases hok:okH 1 j (K.n j).1=true
      ·exact hok
      ·exfalso
       have:nameS 1 j (K.n j).1=0:=by unfold nameS; rw [if_neg hok]
       exact (live_ne hG hg2) this
     have hs:slotH (nameS 1 j (K.n j).1)=j:=by unfold nameS; rw [if_pos hok]; exact (back hok).2.1
     have q2:=(getN_some hg2).1
     unfold findS at q2
     split at q2
     ·rename_i hc; rw [hs] at hc; omega
     ·cases q2
  exact gone _ _ j m hj hG hj64 hw m (by rw [e]; exact hj)
 ·obtain ⟨m,hm,hp⟩:=h.root
  have hG0:=hG 0 (by rw [hm]; rfl)
  have hroot:getN K.n (nameS 1 0 (K.n 0).1)=some (0,m):=name_here hG (by omega) (by rw [hm])
  have hUr:Up K.n (nameS 1 0 (K.n 0).1) [nameS 1 0 (K.n 0).1]:=.step (live_ne hG hroot) hroot (hp ▸ .top)
  have hne:x≠nameS 1 0 (K.n 0).1:=fun e=>by
   rw [← e] at hUr
   have:=hU.uniq hUr
   injection this with _ this
   exact hl this
  have hk:=keep _ _ hUr (by simpa using hne)
  rcases hk.inv with ⟨_,h2'⟩ | ⟨i2,n2,l',_,hg2,_,_⟩
  ·simp at h2'
  ·obtain ⟨q1,q2⟩:=getN_some hg2
   have e2:=dropAll_old _ _ _ _ q2
   rw [e2] at q2
   obtain ⟨s1,s2,s3,_⟩:=name_get hg2
   rw [e2] at s1
   have hi2:getN K.n (nameS 1 0 (K.n 0).1)=some (i2,n2):=by rw [s1]; exact name_here hG s2 q2
   rw [hroot] at hi2
   injection hi2 with hi2
   injection hi2 with hi2 hi3
   subst hi2
   exact ⟨m,e2.trans hm,hp⟩
 ·show 1≤(dropAll K.n (walkL f K.n x) j).1
  have:∀ (xs:List Int) (N:Nds),(∀ j,1≤(N j).1)→GenOk N→∀ j,1≤(dropAll N xs j).1:=by
   intro xs
   induction xs with
   | nil=>intro N h1 _ j; exact h1 j
   | cons y xs ih =>
    intro N h1 h2 j
    refine ih (dropN N y) (fun k=>?_) (fun k hk=>?_) j
    ·rcases drop_old N y k with h3 | ⟨_,mm,h4,_,h5⟩
     ·rw [h3]; exact h1 k
     ·have:=h2 k (by rw [h4]; rfl)
      rw [h5,IntKind.wrap_i64]; omega
    ·rcases drop_old N y k with h3 | ⟨h3,_⟩
     ·rw [h3] at hk ⊢; exact h2 k hk
     ·rw [h3] at hk; cases hk
  exact this _ _ h.gens hG j
 ·obtain ⟨m,hm⟩:=Option.isSome_iff_exists.1 hj
  rw [dropAll_old _ _ _ _ hm] at hj ⊢
  exact hG j hj
end
section
open Sy
def F140_0B (R:Ko) (C0:Option Addr→Option Addr→Nat→Nat→Option Addr→Nat→Nat→Int→Int→World→Prop) (x0:Option Addr) (a1:Option Addr) (l1 c1:Nat) (a15:Option Addr) (l15 c15:Nat) (x16:Int) (x17:Int) (w:World):Prop:=Ifm (decide ((x17:Int)<x16)) (Ix a15 l15 x17 1 fun x19=>Lc x19 w fun v20=>onI v20 fun x20=>Ct Tryz.prog 140 #[.pointer x0,.slice a1 l1 c1,.int .i64 x20] w fun v24 w4=>onL v24 fun a24 l24 c24=>C0 x0 a24 l24 c24 a15 l15 c15 x16 (IntKind.i64.wrap (x17+1)) w4) (R (.slice a1 l1 c1) w)
def F140_0 (R:Ko) (x0:Option Addr) (a1:Option Addr) (l1 c1:Nat) (a15:Option Addr) (l15 c15:Nat) (x16:Int) (x17:Int) (w:World):Prop:=∃ (Inv:Option Addr→Option Addr→Nat→Nat→Option Addr→Nat→Nat→Int→Int→World→Prop) (μ:Option Addr→Option Addr→Nat→Nat→Option Addr→Nat→Nat→Int→Int→World→Nat),Inv x0 a1 l1 c1 a15 l15 c15 x16 x17 w∧∀ x0 a1 l1 c1 a15 l15 c15 x16 x17 w,Inv x0 a1 l1 c1 a15 l15 c15 x16 x17 w→F140_0B R (fun x0' a1' l1' c1' a15' l15' c15' x16' x17' w'=>Inv x0' a1' l1' c1' a15' l15' c15' x16' x17' w'∧μ x0' a1' l1' c1' a15' l15' c15' x16' x17' w'<μ x0 a1 l1 c1 a15 l15 c15 x16 x17 w) x0 a1 l1 c1 a15 l15 c15 x16 x17 w
def F140 (R:Ko) (x0:Option Addr) (a1:Option Addr) (l1 c1:Nat) (x2:Int) (w:World):Prop:=Rv Tryz.prog (Instr.buildSlice 42 1 #[(0,.int .i64 x2)]) w fun v11 w1=>onL v11 fun a11 l11 c11=>Rv Tryz.prog (Builtin.append_ #[42,42] 42 #[.slice a1 l1 c1,.slice a11 l11 c11]) w1 fun v12 w2=>onL v12 fun a12 l12 c12=>Ct Tryz.prog 145 #[.pointer x0,.int .i64 x2] w2 fun v15 w3=>onL v15 fun a15 l15 c15=>F140_0 R x0 a12 l12 c12 a15 l15 c15 (l15:Nat) 0 w3
noncomputable def b140:Code:=Tryz.f140.body.getD .skip
def q140_0:List Bool:=[false,true,false,true,true]
def L140_0 (F:Option Addr→Option Addr→Nat→Nat→Option Addr→Nat→Nat→Int→Int→World→Prop):Env→World→Prop:=fun ρ w=>onP (ρ 0) fun x0=>onL (ρ 1) fun a1 l1 c1=>onL (ρ 15) fun a15 l15 c15=>onI (ρ 16) fun x16=>onI (ρ 17) fun x17=>F x0 a1 l1 c1 a15 l15 c15 x16 x17 w
abbrev T140 (z:Fr) (R:Ko) (p:List Bool) (ρ:Env) (w:World):Prop:=TW z Tryz.prog 27 (segTodo b140 p) (QR Tryz.prog [.tmp 6] R) ρ w
theorem s140_0 (R:Ko):∀ ρ w,(L140_0 (F140_0 R)) ρ w→T140 z0 R q140_0 ρ w:=by
 intro ρ w h
 obtain ⟨x0,e0,h⟩:=onP_of h
 obtain ⟨a1,l1,c1,e1,h⟩:=onL_of h
 obtain ⟨a15,l15,c15,e15,h⟩:=onL_of h
 obtain ⟨x16,e16,h⟩:=onI_of h
 obtain ⟨x17,e17,h⟩:=onI_of h
 obtain ⟨Inv,μ,hi,hb⟩:=h
 refine lpT (fun m=>L140_0 (fun x0 a1 l1 c1 a15 l15 c15 x16 x17 w=>Inv x0 a1 l1 c1 a15 l15 c15 x16 x17 w∧μ x0 a1 l1 c1 a15 l15 c15 x16 x17 w=m)) ?_ (μ x0 a1 l1 c1 a15 l15 c15 x16 x17 w) ρ w ?_
 ·intro m ρ w ih h
  obtain ⟨x0,e0,h⟩:=onP_of h
  obtain ⟨a1,l1,c1,e1,h⟩:=onL_of h
  obtain ⟨a15,l15,c15,e15,h⟩:=onL_of h
  obtain ⟨x16,e16,h⟩:=onI_of h
  obtain ⟨x17,e17,h⟩:=onI_of h
  obtain ⟨hv,hm⟩:=h
  subst hm
  have hh:=hb x0 a1 l1 c1 a15 l15 c15 x16 x17 w hv
  obtain ⟨C0,hC⟩:∃ C,C=fun x0' a1' l1' c1' a15' l15' c15' x16' x17' w'=>Inv x0' a1' l1' c1' a15' l15' c15' x16' x17' w'∧μ x0' a1' l1' c1' a15' l15' c15' x16' x17' w'<μ x0 a1 l1 c1 a15 l15 c15 x16 x17 w:=⟨_,rfl⟩
  rw [← hC] at hh
  have h0:∀ ρ w,(L140_0 C0) ρ w→T140 z0 R q140_0 ρ w:=by
   intro ρ' w' h'
   refine ih ρ' w' ?_
   obtain ⟨x0',e0',h'⟩:=onP_of h'
   obtain ⟨a1',l1',c1',e1',h'⟩:=onL_of h'
   obtain ⟨a15',l15',c15',e15',h'⟩:=onL_of h'
   obtain ⟨x16',e16',h'⟩:=onI_of h'
   obtain ⟨x17',e17',h'⟩:=onI_of h'
   rw [hC] at h'
   refine ⟨_,h'.2,?_⟩
   simp only [e0',e1',e15',e16',e17',L140_0,ons]
   exact ⟨h'.1,by trivial⟩
  rw [← upds_same (ρ:=ρ) [(0,.pointer x0),(1,.slice a1 l1 c1),(15,.slice a15 l15 c15),(16,.int .i64 x16),(17,.int .i64 x17)] (alc e0 (alc e1 (alc e15 (alc e16 (alc e17 aln)))))]
  exact sg (cuts:=[(q140_0,L140_0 C0)]) ⟨h0,trivial⟩ hh
 ·simp only [e0,e1,e15,e16,e17,L140_0,ons]
  exact ⟨hi,by trivial⟩
theorem c140 {R:Ko} {x0:Option Addr} {a1:Option Addr} {l1 c1:Nat} {x2:Int} {w:World} (h:F140 R x0 a1 l1 c1 x2 w):Ct Tryz.prog 140 #[.pointer x0,.slice a1 l1 c1,.int .i64 x2] w R :=
 ctS (args:=[.pointer x0,.slice a1 l1 c1,.int .i64 x2]) (body:=b140) (n:=27) (rs:=[.tmp 6]) Tryz.func140
  (sg (cuts:=[(q140_0,L140_0 (F140_0 R))]) ⟨s140_0 R,trivial⟩ h)
variable {K:Ko} {w w':World}
theorem app1x {P:Program} {t e sz ty:Nat} {i:TypeInfo} {z:Value} (E:Elem P t e sz i z) {w:World} {base:Nat} {a:Option Addr} {l c n:Nat} {xs:List Value} (hown:w.ownsRow base e sz (.slice a l c) n xs)
  (hbase:base≤w.heap.size) (hn:n<1000000) {x:Value} (hx:x.cells.size=sz) (h1:∀ u∈x.cells.toList,u.oneCell'=true) {k:Option Addr→Nat→Nat→World→Prop}
  (h:∀ g c' w',base≤g→((Value.slice a l c).ownBlock=some g∨w.heap.size≤g)→w'.ownsRow base e sz (.slice (some ⟨g,0,none⟩) (n+1) c') (n+1) (xs++x.cells.toList)→Kp (fun k=>(Value.slice a l c).ownBlock=some k) w w'→k (some ⟨g,0,none⟩) (n+1) c' w') :
  Rv P (Instr.buildSlice t 1 #[(0,x)]) w fun v w1=>onL v fun a2 l2 c2=>Rv P (Builtin.append_ #[t,t] ty #[.slice a l c,.slice a2 l2 c2]) w1 fun v2 w2=>onL v2 fun a3 l3 c3=>k a3 l3 c3 w2:=by
 rw [Rv_ok (bs1_run E w hx)]
 simp only [onL_eq]
 have hown1:=hown.alloc (.cells x.cells e)
 have hb:=E.hb
 obtain ⟨v',w',hr,ho,hg,hnil,hat⟩:=run_append_own_at (P:=P) (w.alloc (.cells x.cells e)) base t ty e i z sz i.bytes E.ht E.hi E.hz E.hs rfl E.hzs E.h0 (.slice a l c) n xs hown1 ⟨w.heap.size,0,none⟩ 1 1 x.cells.toList (by simp [hx])
  (fun j u hj=>by rw [add_eq,World.cell?_alloc_new]; simpa using hj) h1 (by simp [maxLen]; omega) (by
   have:(n+1)*i.bytes≤1000000*65536:=Nat.mul_le_mul (by omega) hb
   omega) (by simp; omega)
 rw [Rv_ok hr]
 rcases ho.2 with ⟨rfl,h0⟩ | ⟨g,cap,cur,rfl,hbg,rest⟩
 ·omega
 ·simp only [onL_eq]
  refine h g cap w' hbg ?_ ho ?_
  ·rcases hat with hat | hat
   ·exact .inl hat.symm
   ·right
    have:g=w.heap.size+1:=by simpa [Value.ownBlock] using hat
    omega
  exact (Kp.alloc _ w _).step (Kp.grown hg (S:=fun k=>(Value.slice a l c).ownBlock=some k) fun k hk=>hk) fun _ _ x=>x
section
variable {N:Nds}
theorem walk_nodup (hG:GenOk N):∀ (f:Nat) {h:Int} {l:List Int},Up N h (h :: l)→(walkL f N h).Nodup:=by
 intro f
 induction f with
 | zero=>intro h l _; exact List.nodup_nil
 | succ f ih =>
  intro h l hU
  have hlive:∀ x h,x∈kidsN N h→∃ i n,getN N x=some (i,n):=fun y hh hy=>by obtain ⟨i,n,h1,_⟩:=kids_live hG hy; exact ⟨i,n,h1⟩
  have h0:∀ x i n,getN N x=some (i,n)→x≠0:=fun y i n hy=>live_ne hG hy
  unfold walkL
  rw [List.nodup_cons]
  constructor
  ·intro hm
   obtain ⟨c,hc,hx⟩:=List.mem_flatMap.1 hm
   have hcU:=kid_up hG hc hU
   obtain ⟨l1,h1⟩:=walk_up hlive h0 hcU hx
   have:=congrArg List.length (hU.uniq h1)
   simp at this
   omega
  ·unfold List.Nodup
   rw [List.pairwise_flatMap]
   refine ⟨fun c hc=>ih (kid_up hG hc hU),List.Pairwise.imp_of_mem (fun {a b} ha hb hab x hx y hy e=>?_) (kids_nodup hG h)⟩
   subst e
   obtain ⟨l1,h1⟩:=walk_up hlive h0 (kid_up hG ha hU) hx
   obtain ⟨l2,h2⟩:=walk_up hlive h0 (kid_up hG hb hU) hy
   have he:=h1.uniq h2
   have hl:=congrArg List.length he
   simp at hl
   have:=List.append_inj_right he hl
   injection this with h3 _
   exact hab h3
theorem walk_sub (hG:GenOk N) (f:Nat) {h:Int} {l:List Int} (hU:Up N h (h :: l)):walkL f N h ⊆ allS N 1 64:=fun x hx=>by
 obtain ⟨l1,h1⟩:=walk_up (fun y hh hy=>by obtain ⟨i,n,h1,_⟩:=kids_live hG hy; exact ⟨i,n,h1⟩) (fun y i n hy=>live_ne hG hy) hU hx
 rcases h1.inv with ⟨_,h2⟩ | ⟨i,n,l',_,hg,_,_⟩
 ·simp at h2
 ·exact (name_get hg).2.2.2
theorem walk_len (hG:GenOk N) (f:Nat) {h:Int} {l:List Int} (hU:Up N h (h :: l)):(walkL f N h).length≤64 :=
 Nat.le_trans (List.Nodup.length_le_of_subset (walk_nodup hG f hU) (walk_sub hG f hU)) (allS_len _ _ _)
end
theorem Kn.Ok.len {K:Kn} (h:K.Ok) {y:Int} {m:List Int} (hm:Up K.n y m):m.length≤9:=by
 rcases hm.inv with ⟨_,rfl⟩ | ⟨i,n,l',_,hg,_,_⟩
 ·simp
 ·obtain ⟨l,h1,h2⟩:=h.found hg
  rw [hm.uniq h1]; exact h2
section
variable {k t L:Nat} {nb lf:Nat→Nat} {N:Nds}
structure NTB (w:World) (k t L:Nat) (nb lf:Nat→Nat) (N:Nds) (B:Nat):Prop where
 nt:NT w k t L nb lf N
 k:k<B
 t:t<B
 L:L<B
 n:∀ i n,(N i).2=some n→nb i<B
theorem NTB.kp {S:Nat→Prop} {B:Nat} (h:NTB w k t L nb lf N B) (kp:Kp S w w') (hs:∀ x,x<B→¬ S x):NTB w' k t L nb lf N B:=by
 obtain ⟨r,hr⟩:=h.nt.kt
 exact ⟨⟨⟨r,kp.bk hr (hs _ h.k)⟩,h.nt.tab.kp kp (hs _ h.t) (hs _ h.L),fun i n hn=>⟨(h.nt.nd i n hn).1,kp.bk (h.nt.nd i n hn).2 (hs _ (h.n i n hn))⟩,h.nt.gen⟩,h.k,h.t,h.L,h.n⟩
theorem k140 (hG:GenOk N) (h9:∀ y m,Up N y m→m.length≤9) {B:Nat}:∀ (f:Nat) {w:World} {K:Ko} {a:Option Addr} {l c:Nat} {xs:List Int} {h:Int} {up:List Int},NTB w k t L nb lf N B→Up N h (h :: up)→up.length+f=9 →
  w.ownsRow B 33 1 (.slice a l c) xs.length (xs.map I)→B≤w.heap.size→xs.length+(walkL f N h).length≤1000 →
  (∀ a' l' c' w',Kp (fun b=>(Value.slice a l c).ownBlock=some b) w w'→w'.ownsRow B 33 1 (.slice a' l' c') (xs++walkL f N h).length ((xs++walkL f N h).map I)→(∀ b,(Value.slice a' l' c').ownBlock=some b→(Value.slice a l c).ownBlock=some b∨w.heap.size≤b)→K (.slice a' l' c') w') →
  Ct Tryz.prog 140 #[Pt k 0,.slice a l c,I h] w K:=by
 intro f
 induction f with
 | zero=>intro w K a l c xs h up hN hU hl; exfalso; have:=h9 _ _ hU; simp at this; omega
 | succ f ih =>
  intro w K a l c xs h up hN hU hl ho hB hlen hK
  refine c140 ?_
  unfold F140
  obtain ⟨i42,z42,E42⟩:=e42
  unfold walkL at hlen hK
  rw [List.length_cons] at hlen
  refine app1x E42 ho hB (by omega) rfl (by simp [Value.cells,Value.oneCell']) fun g1 c1 w2 hg1 hat1 ho1 k1=>?_
  have ho1:w2.ownsRow B 33 1 (.slice (some ⟨g1,0,none⟩) (xs.length+1) c1) (xs++[h]).length ((xs++[h]).map I):=by simpa [Value.cells] using ho1
  have own1:∀ b,(Value.slice a l c).ownBlock=some b→B≤b:=fun b hb=>(own_lt ho hb).1
  have hN2:=hN.kp k1 fun x hx hs=>by have:=own1 x hs; omega
  have s1:=k1.size
  refine k145 hN2.nt fun a0 l0 c0 w3 k3 hok=>?_
  have hN3:=hN2.kp k3 fun _ _=>id
  have s3:=k3.size
  have hl0:=own_len hok
  have hkl:=kids_len N h
  have ho3:=own_kp ho1 k3 fun _ _=>id
  have hg1lt:g1<w2.heap.size:=(own_lt ho1 rfl).2
  simp only [SS]
  unfold F140_0
  refine ⟨fun x0 a1 l1 c1 a15 l15 c15 x16 x17 w'=>x0=some ⟨k,0,none⟩∧a0=a15∧l0=l15∧c0=c15∧x16=l0∧Kp (fun b=>b=g1∨w3.heap.size≤b) w3 w'∧(∀ b,(Value.slice a1 l1 c1).ownBlock=some b→b=g1∨w3.heap.size≤b) ∧
    ∃ i:Nat,x17=i∧i≤(kidsN N h).length∧w'.ownsRow B 33 1 (.slice a1 l1 c1) (xs++h :: ((kidsN N h).take i).flatMap (walkL f N)).length ((xs++h :: ((kidsN N h).take i).flatMap (walkL f N)).map I),
   fun _ _ _ _ _ _ _ _ x17 _=>(kidsN N h).length - x17.toNat,⟨rfl,rfl,rfl,rfl,rfl,Kp.refl _ _,fun b hb=>.inl (by injection hb with hb; exact hb.symm),0,rfl,Nat.zero_le _,by simpa using ho3⟩,?_⟩
  rintro _ a4 l4 c4 _ _ _ _ _ w4 ⟨rfl,rfl,rfl,rfl,rfl,k4,hat4,i,rfl,hi,ho4⟩
  unfold F140_0B
  simp only [SS]
  have hN4:NTB w4 k t L nb lf N B:=hN3.kp k4 fun x hx hs=>by rcases hs with hs | hs <;> omega
  have s4:=k4.size
  by_cases e1:i<l0
  case neg =>
   rw [if_neg (by omega)]
   rw [List.take_of_length_le (by omega)] at ho4
   refine hK _ _ _ w4 ?_ ho4 fun b hb=>?_
   ·refine (k1.trans ((k3.no _))).step k4 fun x hx hs=>?_
    rcases hs with rfl | hs
    ·rcases hat1 with h2 | h2
     ·exact h2
     ·omega
    ·omega
   ·rcases hat4 b hb with rfl | h2
    ·exact hat1
    ·exact .inr (by omega)
  rw [if_pos (by omega)]
  have hi':i<(kidsN N h).length:=by omega
  have hok4:=own_kp hok k4 fun b hb hs=>by
   have:=own_lt hok hb
   rcases hs with rfl | hs <;> omega
  obtain ⟨gk,rfl,_,hlc⟩:=hd_lc hok4 hi'
  simp only [SS,Ix_c e1,hlc]
  obtain ⟨x,hx⟩:∃ y,y=(kidsN N h)[i]:=⟨_,rfl⟩
  rw [← hx]
  have hxm:x∈kidsN N h:=by rw [hx]; exact List.getElem_mem _
  have htake:(kidsN N h).take (i+1)=(kidsN N h).take i++[x]:=by rw [hx]; exact List.take_succ_eq_append_getElem hi'
  have hpre:(((kidsN N h).take i).flatMap (walkL f N)).length+(walkL f N x).length≤((kidsN N h).flatMap (walkL f N)).length:=by
   have e:(kidsN N h).flatMap (walkL f N)=((kidsN N h).take (i+1)).flatMap (walkL f N)++((kidsN N h).drop (i+1)).flatMap (walkL f N):=by rw [← List.flatMap_append,List.take_append_drop]
   rw [e,htake,List.flatMap_append,List.length_append,List.length_append]
   simp
  refine ih hN4 (kid_up hG hxm hU) (by simp; omega) ho4 (by omega) (by simp only [List.length_append,List.length_cons]; omega) fun a5 l5 c5 w5 k5 ho5 hat5=>?_
  simp only [SS]
  rw [cast_succ _ (by omega)]
  refine ⟨⟨k4.step k5 fun b hb hs=>hat4 b hs,fun b hb=>?_,i+1,rfl,by omega,?_⟩,by simp; omega⟩
  ·rcases hat5 b hb with h2 | h2
   ·exact hat4 b h2
   ·exact .inr (by omega)
  ·rw [htake,List.flatMap_append]
   have e:xs++h :: (((kidsN N h).take i).flatMap (walkL f N)++[x].flatMap (walkL f N))=(xs++h :: ((kidsN N h).take i).flatMap (walkL f N))++walkL f N x:=by simp
   rw [e]
   exact ho5
end
end
section
open Sy
def chN (N:Nds) (x:Int):Ch:=match getN N x with
 | some (_,n)=>⟨slotH x,n.bg.left,n.bg.en⟩
 | none=>⟨slotH x,0,0⟩
def takeF (n:Nd):Nd:={ n with bg:=match takeB n.bg with | .ok b=>b | .error _=>zB }
def takeN (N:Nds) (x:Int):Nds:=match getN N x with
 | some (i,_)=>modN N i takeF
 | none=>N
def wayK:Nat→Nds→Int→List Int × Nds
 | 0,N,h=>([h],N)
 | f+1,N,h=>let j:=pickL ((kidsN N h).map (chN N))
  if j<0 then ([h],N) else
   let r:=wayK f (takeN N ((kidsN N h).getD j.toNat 0)) ((kidsN N h).getD j.toNat 0)
   (h :: r.1,r.2)
def spareK (K:Kn):Kn:=match giveL K.pool K.last K.now with
 | none=>{ K with idle:=wr (K.idle+1) }
 | some (h,_,_,S)=>{ K with pool:=S,last:=slotH h }
def bookK (K:Kn) (path:List Int) (lent:Bool):Kn:={ K with g:=chargeG K.g rootH path lent }
def chargeK (K:Kn) (path:List Int):Kn :=
 let last:=path.getLastD 0
 if last=rootH then bookK (spareK K) path false else match getN K.n last with
  | none=>K
  | some (i,n)=>match offerL n.leaf 2 8 K.now with
   | none=>bookK (spareK K) path true
   | some (_,what,late,S) =>
    let K1:=bookK { K with n:=modN K.n i fun n=>{ n with leaf:=S } } path false
    if what=0 then K1 else { K1 with g:=noteG K1.g last what (decide (late > 0)) }
def crossF (clk:Int) (n:Nd):Nd:={ n with bg:=match crossB n.bg clk with | .ok b=>b | .error _=>zB }
noncomputable def crossK (clk:Int) (K:Kn) (x:Int):Kn:=match getN K.n x with
 | none=>K
 | some (i,n)=>if n.bg.en=clk then (if goneB n.bg clk=true then
   { K with g:=(walkL 9 K.n x).reverse.foldl (fun g y=>closeG g rootH y) K.g,n:=dropAll K.n (walkL 9 K.n x) }
  else { K with n:=modN K.n i (crossF clk) }) else K
noncomputable def stepK (K:Kn) (h:Int):Kn:=match getN K.n h with
 | none=>K
 | some (i,n)=>(kidsN K.n h).foldl (crossK (wr (n.clk+1))) { K with n:=modN K.n i fun n=>{ n with clk:=wr (n.clk+1) } }
noncomputable def tickK (K:Kn):Kn :=
 let r:=wayK 9 K.n rootH
 let K2:=r.1.reverse.foldl stepK (chargeK { K with n:=r.2 } r.1)
 { K2 with now:=wr (K2.now+1) }
end
end Go.Proofs.YtbgbidpecmepmaaGreatDoor
