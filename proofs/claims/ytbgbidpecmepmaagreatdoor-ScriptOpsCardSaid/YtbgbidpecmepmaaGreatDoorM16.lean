/-
  A tick over the boundary of a node; A tick over the boundary of a node: the whole; A tick over the boundary of a node: whichever way; A tick over a node's boundary: what stays; A tick: the clock of a node, the boundaries of its children; The kernel's operations: a tick; A new kernel; The kernel's operations: a node told.
-/
import Derived.Test.YtbgbidpecmepmaaGreatDoorM15
import Derived.Test.YtbgbidpecmepmaaGreatDoorM14
set_option maxRecDepth 100000
namespace Go.Proofs.YtbgbidpecmepmaaGreatDoor
section
open Sy
variable {K:Ko} {w w':World}
theorem KRv.setRow {lab:Nat→Nat} {q k t L bk m p:Nat} {nb lf:Nat→Nat} {K:Kn} {N':Nds} (h:KRv w lab q k t L bk m p nb lf K) (kp:Kp (·=L) w w') (ht:Tab w' 199 201 3 64 1 t L fun j=>slotC ptC [.pointer none] (nv nb N' j))
  (hs:∀ j m,(N' j).2=some m→N' j=K.n j) (hG:GenOk N') (hO:({ K with n:=N' }:Kn).Ok):KRv w' lab q k t L bk m p nb lf { K with n:=N' }:=by
 have h0:=h.q0
 have hlL:=h.lL
 have ns:∀ {x r:Nat},lab x=q+r→r≠3→¬ x=L:=fun hx hr he=>by rw [he] at hx; omega
 have back:∀ j nj,(N' j).2=some nj→(K.n j).2=some nj:=fun j nj hj=>by rw [← hs j nj hj]; exact hj
 obtain ⟨r,hr⟩:=h.nt.kt
 refine ⟨kp.bk h.kh (ns h.lk (by omega)),⟨⟨r,kp.bk hr (ns h.lk (by omega))⟩,ht,fun j nj hj=>?_,hG⟩,h.book.kp kp (ns h.lbk (by omega)) (ns h.lm (by omega)),h.pool.kp kp (fun x hx=>ns hx (by omega)) (fun x hx=>ns hx (by omega)) (ns h.lp (by omega)),fun j nj hj=>?_,h.lk,h.lt,h.lL,h.lbk,h.lm,h.lp,fun j nj hj=>h.ln j nj (back j nj hj),fun x hx=>Nat.lt_of_lt_of_le (h.bd x hx) kp.size,h0,hO⟩
 ·have hj:=back j nj hj
  have:=(h.nt.nd j nj hj).1
  exact ⟨this,kp.bk (h.nt.nd j nj hj).2 (ns (r:=100+j) (by have:=h.ln j nj hj; omega) (by omega))⟩
 ·have hj:=back j nj hj
  exact (h.leaf j nj hj).kp kp (fun x hx=>ns (r:=200+j) (by omega) (by omega)) (fun x hx=>ns hx (by omega))
theorem nv_drop (nb:Nat→Nat) (N:Nds) (x:Int):nv nb (dropN N x)=match findS (nv nb N) 1 64 x with
  | none=>nv nb N
  | some i=>upd1 (nv nb N) i (IntKind.i64.wrap ((nv nb N i).1+1),none):=by
 have hc:=findS_congr (NT.al nb N) 1 64 x
 unfold dropN
 rw [hc]
 cases e:findS N 1 64 x with
 | none=>rfl
 | some i =>
  funext j
  show nv nb (upd1 N i (IntKind.i64.wrap ((N i).1+1),none)) j=upd1 (nv nb N) i (IntKind.i64.wrap ((N i).1+1),none) j
  have e1:nv nb (upd1 N i (IntKind.i64.wrap ((N i).1+1),none)) j=((upd1 N i (IntKind.i64.wrap ((N i).1+1),none) j).1,(upd1 N i (IntKind.i64.wrap ((N i).1+1),none) j).2.map fun _=>some ⟨nb j,0,none⟩):=rfl
  rw [e1]
  by_cases h:j=i
  ·subst h; rw [upd1_same,upd1_same]; rfl
  ·rw [upd1_ne _ _ h,upd1_ne _ _ h]; rfl
theorem p181_2 {B k t L bx y g l c ml:Nat} {nb:Nat→Nat} {N:Nds} {xs:List Int} {ma:Option Addr} {mc:Nat} {R:Ko} {rest:List Value} (hx:Bk w bx [Pt y 0] 333) (hy:Bk w y [Pt k 0,.slice ma ml mc] 335) (hk:Bk w k (Pt t 0 :: rest) 128)
  (ho:w.ownsRow B 33 1 (.slice (some ⟨g,0,none⟩) l c) xs.length (xs.map I)) (h64:xs.length≤64) (ht:Tab w 199 201 3 64 1 t L fun j=>slotC ptC [.pointer none] (nv nb N j))
  (hR:∀ w',Kp (·=L) w w'→(Tab w' 199 201 3 64 1 t L fun j=>slotC ptC [.pointer none] (nv nb (dropAll N xs) j))→R (.tuple #[]) w'):F181_2 R ⟨bx,0,none⟩ (some ⟨g,0,none⟩) l c (l:Nat) 0 w:=by
 have hl:=own_len ho
 have hLt:=ht.row
 have nbx:¬ bx=L:=fun e=>ne_of_bk (e ▸ hx) hLt (fun e=>by injection e with _ e; simp at e) rfl
 have ny:¬ y=L:=fun e=>ne_of_bk (e ▸ hy) hLt (fun e=>by injection e with _ e; simp at e) rfl
 have nk:¬ k=L:=fun e=>ne_of_bk (e ▸ hk) hLt (fun e=>by injection e with _ e; simp at e) rfl
 have hgb:∃ cur,Bk w g cur 33:=by
  rcases own_bk ho with ⟨h',_⟩ | ⟨g',cur,hg,_,_,hbk,_⟩
  ·cases h'
  ·injection hg with hg
   injection hg with hg
   subst hg
   exact ⟨cur,hbk⟩
 obtain ⟨cur,hgb⟩:=hgb
 have ng:¬ g=L:=fun e=>ne_of_bk (e ▸ hgb) hLt (fun e=>by injection e with _ e; simp at e) rfl
 unfold F181_2
 refine ⟨fun x3 a92 l92 c92 x93 x94 w'=>⟨bx,0,none⟩=x3∧some ⟨g,0,none⟩=a92∧l=l92∧c=c92∧x93=l∧Kp (·=L) w w'∧∃ i:Nat,x94=i∧i≤xs.length∧Tab w' 199 201 3 64 1 t L fun j=>slotC ptC [.pointer none] (nv nb (dropAll N (xs.take i)) j),
  fun _ _ _ _ _ x94 _=>xs.length - x94.toNat,⟨rfl,rfl,rfl,rfl,rfl,Kp.refl _ _,0,rfl,Nat.zero_le _,ht⟩,?_⟩
 rintro _ _ _ _ _ _ w1 ⟨rfl,rfl,rfl,rfl,rfl,k1,i,rfl,hi,ht1⟩
 unfold F181_2B
 simp only [SS]
 by_cases e1:i<l
 case neg =>
  rw [if_neg (by omega)]
  rw [List.take_of_length_le (by omega)] at ht1
  exact hR w1 k1 ht1
 rw [if_pos (by omega)]
 have hi':i<xs.length:=by omega
 have hx1:=k1.bk hx nbx
 have hy1:=k1.bk hy ny
 have hk1:Bk w1 k (Pt t 0 :: rest) 128:=k1.bk hk nk
 have ho1:=own_kp ho k1 fun b hb e=>by injection hb with hb; exact ng (hb.trans e)
 obtain ⟨g',hg',_,hlc⟩:=hd_lc ho1 hi'
 injection hg' with hg'
 injection hg' with hg'
 subst hg'
 simp only [Nat.mul_one] at hlc
 have hx1:Bk w1 bx [Pt y 0] 333:=hx1
 have hy1:Bk w1 y [Pt k 0,.slice ma ml mc] 335:=hy1
 simp only [SS,Ix_c e1,Nat.mul_one,hlc,hx1.rd (o:=0) (v:=Pt y 0) rfl,hy1.rd (o:=0) (v:=Pt k 0) rfl,hk1.rd (o:=0) (v:=Pt t 0) rfl]
 obtain ⟨x,hxx⟩:∃ z,z=xs[i]:=⟨_,rfl⟩
 rw [← hxx]
 have htake:dropAll N (xs.take (i+1))=dropN (dropAll N (xs.take i)) x:=by
  rw [List.take_succ_eq_append_getElem hi',← hxx]; unfold dropAll; rw [List.foldl_append]; rfl
 have hd:=nv_drop nb (dropAll N (xs.take i)) x
 refine k280 ht1 (fun e d=>?_) fun j hj e w2 k2 ht2=>?_
 ·rw [e] at hd
  rw [cast_succ _ (by omega)]
  refine ⟨⟨k1.drR d,i+1,rfl,by omega,?_⟩,by simp; omega⟩
  rw [htake,hd]
  exact ht1.dr d
 ·rw [e] at hd
  rw [cast_succ _ (by omega)]
  refine ⟨⟨k1.trans k2,i+1,rfl,by omega,?_⟩,by simp; omega⟩
  rw [htake,hd]
  exact ht2
end
section
open Sy
variable {K:Ko} {w w':World}
theorem flatMap_eq {F G:Int→List Int}:∀ (l:List Int),(∀ x∈l,F x=G x)→l.flatMap F=l.flatMap G
 | [],_=>rfl
 | a :: l,h=>by rw [List.flatMap_cons,List.flatMap_cons,h a List.mem_cons_self,flatMap_eq l fun x hx=>h x (List.mem_cons_of_mem _ hx)]
theorem walk_fuel {N:Nds} (hG:GenOk N) (h9:∀ y m,Up N y m→m.length≤9):∀ (f f':Nat) (x:Int) (up:List Int),Up N x (x :: up)→9≤up.length+f→9≤up.length+f'→walkL f N x=walkL f' N x:=by
 intro f
 induction f with
 | zero=>intro f' x up hU h1; have:=h9 _ _ hU; simp at this; omega
 | succ f ih =>
  intro f' x up hU h1 h2
  cases f' with
  | zero=>have:=h9 _ _ hU; simp at this; omega
  | succ f' =>
   unfold walkL
   rw [flatMap_eq _ fun c hc=>ih f' c (x :: up) (kid_up hG hc hU) (by simp; omega) (by simp; omega)]
theorem cell_of_lc {a:Addr} {v:Value} (h:∀ k,Lc a w k=k v):w.cell? a=some v:=by
 have:=h (fun u=>u=v)
 simp only [eq_self] at this
 have h2:=of_eq_true this
 unfold Lc at h2
 split at h2
 ·rename_i u hu; rw [hu,h2]
 ·exact h2.elim
theorem putObj_kp {m:Nat} {o o':Obj} (h:w.heap[m]?=some o):Kp (·=m) w (w.putObj m o')∧(w.putObj m o').heap[m]?=some o':=Kp.obj h
theorem p181_g {lab:Nat→Nat} {q k t L bk m p y c bx i:Nat} {nb lf:Nat→Nat} {Kk:Kn} {x:Int} {n:Nd} {up:List Int} {ma:Option Addr} {ml mc:Nat} (hv:KRv w lab q k t L bk m p nb lf Kk) (hT:TM w lab q y k c) (hc:c<80000) (hx:getN Kk.n x=some (i,n)) (hU:Up Kk.n x (x :: up)) (hup:up≠[])
  (hbx:Bk w bx [Pt y 0] 333) (hbl:lab bx=0)
  (hR:∀ w' lab',Stp w w' lab lab' q→KRv w' lab' q k t L bk m p nb lf { Kk with g:=(walkL 9 Kk.n x).reverse.foldl (fun g y=>closeG g rootH y) Kk.g,n:=dropAll Kk.n (walkL 9 Kk.n x) }→TM w' lab' q y k (c+64)→K (.tuple #[]) w') :
  Lc ⟨bx,0,none⟩ w fun v63=>onP v63 fun x63=>onSome x63 fun x64=>Lc (x64.add 0) w fun v66=>onP v66 fun x66=>Ct Tryz.prog 140 #[.pointer x66,.slice none 0 0,.int .i64 x] w fun v68 w7=>onL v68 fun a68 l68 c68=>F181_0 K (M181 K) ⟨bx,0,none⟩ a68 l68 c68 a68 l68 c68 (l68:Nat) 0 w7:=by
 obtain ⟨ma,ml,mc,mn,mxs,h1,h2,h3,h4,h5⟩:=id hT
 simp only [SS,hbx.rd (o:=0) (v:=Pt y 0) rfl,h1.rd (o:=0) (v:=Pt k 0) rfl]
 have hG:=hv.nt.gen
 have bdl:∀ b,lab b≠0→b<w.heap.size:=hv.bd
 have hN:NTB w k t L nb lf Kk.n w.heap.size:=⟨hv.nt,bdl _ (by rw [hv.lk]; omega),bdl _ (by rw [hv.lt]; omega),bdl _ (by rw [hv.lL]; omega),fun j nj hj=>bdl _ (by rw [hv.ln j nj hj]; omega)⟩
 have h9:∀ y m,Up Kk.n y m→m.length≤9:=fun y m hm=>hv.ok.len hm
 have hu9:=h9 _ _ hU
 simp only [List.length_cons] at hu9
 have hwl:=walk_len hG 9 hU
 obtain ⟨f,hf⟩:∃ f,up.length+f=9:=⟨9 - up.length,by omega⟩
 have hw9:walkL f Kk.n x=walkL 9 Kk.n x:=walk_fuel hG h9 f 9 x up hU (by omega) (by omega)
 refine k140 hG h9 (B:=w.heap.size) f (xs:=[]) hN hU hf (World.ownsRow_nil _ _ _ _) (Nat.le_refl _) (by rw [hw9]; simp; omega) fun a l cc w1 k1 ho1 _=>?_
 rw [hw9,List.nil_append] at ho1
 have k1:Kp No w w1:=k1.mono fun b _ hb=>by cases hb
 obtain ⟨xs,hxs⟩:∃ z,z=walkL 9 Kk.n x:=⟨_,rfl⟩
 rw [← hxs] at ho1 hwl hR
 have hxpos:0<xs.length:=by rw [hxs,walkL]; simp
 obtain ⟨g,rfl,hll,_⟩:=hd_lc ho1 (i:=0) hxpos
 have hv1:=hv.kp k1 fun _ _=>id
 have hT1:=hT.no k1
 have hbx1:Bk w1 bx [Pt y 0] 333:=k1.bk hbx id
 simp only [SS]
 have hgl:lab g=0:=by
  have hh:w.heap.size≤g:=(own_lt ho1 rfl).1
  by_cases e:lab g=0
  ·exact e
  ·have:=bdl g e; omega
 unfold F181_0
 refine ⟨fun x3 a11 l11 c11 a69 l69 c69 x70 x71 w'=>⟨bx,0,none⟩=x3∧some ⟨g,0,none⟩=a11∧l=l11∧cc=c11∧some ⟨g,0,none⟩=a69∧l=l69∧cc=c69∧x70=l∧∃ (j:Nat) (lab1:Nat→Nat),x71=j∧j≤xs.length∧Stp w w' lab lab1 q∧KRv w' lab1 q k t L bk m p nb lf Kk∧TM w' lab1 q y k (c+j) ∧
    lab1 bx=0∧lab1 g=0∧Bk w' bx [Pt y 0] 333∧w'.ownsRow w.heap.size 33 1 (.slice (some ⟨g,0,none⟩) l cc) xs.length (xs.map I),
  fun _ _ _ _ _ _ _ _ x71 _=>xs.length - x71.toNat,⟨rfl,rfl,rfl,rfl,rfl,rfl,rfl,rfl,0,lab,rfl,Nat.zero_le _,Stp.no k1 bdl,hv1,hT1,hbl,hgl,hbx1,ho1⟩,?_⟩
 rintro _ _ _ _ _ _ _ _ _ w2 ⟨rfl,rfl,rfl,rfl,rfl,rfl,rfl,rfl,j,lab1,rfl,hj,st,hv2,hT2,hbl2,hgl2,hbx2,ho2⟩
 unfold F181_0B
 simp only [SS]
 by_cases e1:j<l
 ·rw [if_pos (by omega)]
  have hj':j<xs.length:=by omega
  obtain ⟨g',hg',_,hlc⟩:=hd_lc ho2 hj'
  injection hg' with hg'
  injection hg' with hg'
  subst hg'
  simp only [Nat.mul_one] at hlc
  simp only [SS,Ix_c e1,Nat.mul_one,hlc,hbx2.rd (o:=0) (v:=Pt y 0) rfl]
  refine k274 hv2 hT2 (by omega) fun w3 lab3 st3 hv3 hT3=>?_
  rw [cast_succ _ (by omega)]
  refine ⟨⟨j+1,lab3,rfl,by omega,st.trans st3,hv3,hT3,by rw [st3.old _ hbx2.lt]; exact hbl2,by rw [st3.old _ (own_lt ho2 rfl).2]; exact hgl2,st3.kp.bk hbx2 (by rw [hbl2]; unfold inK; omega),own_kp ho2 st3.kp fun b hb hi=>?_⟩,by simp; omega⟩
  injection hb with hb
  have hb:g=b:=hb
  rw [← hb,hgl2] at hi
  unfold inK at hi
  omega
 rw [if_neg (by omega)]
 have hjl:j=xs.length:=by omega
 subst hjl
 refine k179 fun pp w3 k3 hpp hb3=>?_
 refine ⟨pp,rfl,?_⟩
 have hv3:=hv2.kp k3 fun _ _=>id
 have hT3:=hT2.no k3
 have hbx3:Bk w3 bx [Pt y 0] 333:=k3.bk hbx2 id
 have ho3:=own_kp ho2 k3 fun _ _=>id
 have st3:=st.tail k3
 have hppl:lab1 pp=0:=by
  by_cases e:lab1 pp=0
  ·exact e
  ·have:=hv2.bd pp e; omega
 have nz:∀ b,w3.heap.size≤b→lab1 b=0:=fun b hb=>by
  by_cases e:lab1 b=0
  ·exact e
  ·have:=hv3.bd b e; omega
 intro rec recB recX hY
 obtain ⟨ws,hws⟩:∃ z,z=(w3.alloc (.deferred (some []))).alloc (.loop rec):=⟨_,rfl⟩
 have ks:Kp No w3 ws:=by rw [hws]; exact (Kp.alloc No _ _).trans (Kp.alloc No _ _)
 have hD:ws.heap[w3.heap.size]?=some (.deferred (some [])):=by rw [hws]; exact (Kp.alloc No _ _).bk (heap_alloc_new w3 _) id
 have hLo:ws.heap[w3.heap.size+1]?=some (.loop rec):=by rw [hws]; have:=heap_alloc_new (w3.alloc (.deferred (some []))) (.loop rec); simpa using this
 rw [← hws]
 obtain ⟨D,hDe⟩:∃ z,z=w3.heap.size:=⟨_,rfl⟩
 rw [← hDe] at hY hD hLo nz ⊢
 let gj:Nat→Int→Option En:=fun j=>(xs.drop j).reverse.foldl (fun g y=>closeG g rootH y) Kk.g
 refine k276 (fun j w4=>Kp (fun b=>inK q (lab1 b)∨D≤b) w3 w4∧w4.heap[D]?=some (.deferred (some []))∧w4.heap[D+1]?=some (.loop rec)∧KRv w4 lab1 q k t L bk m p nb lf { Kk with g:=gj j }∧TM w4 lab1 q y k (c+xs.length)) (xs:=xs) (len:=l) (c:=cc) (g:=g) hll (by omega) (fun j w4 hJ=>?_) ?_ (fun j w4 hj hJ K' hK'=>?_) fun w4 hJ=>?_
 ·obtain ⟨k4,hD4,hL4,hv4,hT4⟩:=hJ
  refine ⟨k4.bk hb3 (by rw [hppl]; intro hi; have:=hb3.lt; rcases hi with hi | hi; unfold inK at hi; omega; omega),fun kk hkk=>?_⟩
  have ho4:=own_kp ho3 k4 fun b hb hi=>by
   injection hb with hb
   have hb:g=b:=hb
   have:=(own_lt ho3 rfl).2
   subst hb
   have hg3:g<w3.heap.size:=this
   rcases hi with hi | hi
   ·rw [hgl2] at hi; unfold inK at hi; omega
   ·omega
  obtain ⟨g',hg',_,hlc⟩:=hd_lc ho4 hkk
  injection hg' with hg'
  injection hg' with hg'
  subst hg'
  simp only [Nat.mul_one] at hlc
  exact cell_of_lc hlc
 ·refine ⟨ks.no _,hD,hLo,?_,hT3.no ks⟩
  have e:gj l=Kk.g:=by
   show (xs.drop l).reverse.foldl _ Kk.g=Kk.g
   rw [List.drop_eq_nil_of_le (by omega)]; rfl
  rw [e]
  exact hv3.kp ks fun _ _=>id
 ·obtain ⟨k4,hD4,hL4,hv4,hT4⟩:=hJ
  refine hY _ _ _ hL4 ⟨j,xs[j],rfl,?_⟩
  obtain ⟨k5,hL5⟩:=putObj_kp (o':=.loop recB) hL4
  obtain ⟨w5,hw5⟩:∃ z,z=w4.putObj (D+1) (.loop recB):=⟨_,rfl⟩
  rw [← hw5] at k5 hL5 ⊢
  have hv5:=hv4.kp k5 fun b hb e=>by rw [e,nz (D+1) (by omega)] at hb; unfold inK at hb; omega
  have hT5:=hT4.kp k5 fun b hb e=>by rw [e,nz (D+1) (by omega)] at hb; omega
  have hbxlt:bx<D:=by rw [hDe]; exact hbx3.lt
  have hbx5:Bk w5 bx [Pt y 0] 333:=k5.bk (k4.bk hbx3 (by rw [hbl2]; intro hi; rcases hi with hi | hi; unfold inK at hi; omega; omega)) (by omega)
  obtain ⟨ma5,ml5,mc5,mn5,mxs5,h15,_⟩:=id hT5
  have hD5:w5.heap[D]?=some (.deferred (some [])):=k5.bk hD4 (by omega)
  unfold F181b
  simp only [SS,hbx5.rd (o:=0) (v:=Pt y 0) rfl,h15.rd (o:=0) (v:=Pt k 0) rfl,hv5.kh.rd (o:=2) (v:=Pt bk 0) rfl]
  refine k279 hv5.book fun w6 v k6 hb6=>?_
  have hmD:∀ b,D≤b→¬ b=m:=fun b hb e=>by have:=nz b hb; rw [e,hv5.lm] at this; have:=hv5.q0; omega
  have hv6:=hv5.setBook k6 hb6
  have hT6:=hT5.kp k6 fun b hb e=>by rw [e,hv5.lm] at hb; omega
  have hL6:=k6.bk hL5 (hmD _ (by omega))
  refine ⟨hL6,hK' _ ?_⟩
  obtain ⟨k7,hL7⟩:=putObj_kp (o':=.loop rec) hL6
  have hk47:Kp (fun b=>inK q (lab1 b)∨D≤b) w4 (w6.putObj (D+1) (.loop rec)):=((k5.mono fun b _ hb=>.inr (by omega)).trans (k6.mono fun b _ hb=>.inl (by rw [hb,hv5.lm]; unfold inK; omega))).trans (k7.mono fun b _ hb=>.inr (by omega))
  refine ⟨k4.trans hk47,k7.bk (k6.bk hD5 (hmD _ (by omega))) (by omega),hL7,?_,?_⟩
  ·have e:gj j=closeG (gj (j+1)) rootH xs[j]:=by
    show (xs.drop j).reverse.foldl _ Kk.g=closeG ((xs.drop (j+1)).reverse.foldl _ Kk.g) rootH xs[j]
    rw [List.drop_eq_getElem_cons hj,List.reverse_cons,List.foldl_append]
    rfl
   rw [e]
   exact hv6.kp k7 fun b hb e=>by rw [e,nz (D+1) (by omega)] at hb; unfold inK at hb; omega
  ·exact hT6.kp k7 fun b hb e=>by rw [e,nz (D+1) (by omega)] at hb; omega
 ·obtain ⟨k4,hD4,hL4,hv4,hT4⟩:=hJ
  refine ⟨hL4,?_⟩
  obtain ⟨k5,hL5⟩:=putObj_kp (o':=.loop recX) hL4
  obtain ⟨w5,hw5⟩:∃ z,z=w4.putObj (D+1) (.loop recX):=⟨_,rfl⟩
  rw [← hw5] at k5 hL5 ⊢
  have hv5:=hv4.kp k5 fun b hb e=>by rw [e,nz (D+1) (by omega)] at hb; unfold inK at hb; omega
  have hT5:=hT4.kp k5 fun b hb e=>by rw [e,nz (D+1) (by omega)] at hb; omega
  have hbxlt:bx<D:=by rw [hDe]; exact hbx3.lt
  have hbx5:Bk w5 bx [Pt y 0] 333:=k5.bk (k4.bk hbx3 (by rw [hbl2]; intro hi; rcases hi with hi | hi; unfold inK at hi; omega; omega)) (by omega)
  obtain ⟨ma5,ml5,mc5,mn5,mxs5,h15,_⟩:=id hT5
  have hD5:w5.heap[D]?=some (.deferred (some [])):=k5.bk hD4 (by omega)
  have hgD:g<D:=by rw [hDe]; exact (own_lt ho3 rfl).2
  have ho5:=own_kp (own_kp ho3 k4 fun b hb hi=>by
   injection hb with hb
   have hb:g=b:=hb
   subst hb
   rcases hi with hi | hi
   ·rw [hgl2] at hi; unfold inK at hi; omega
   ·omega) k5 fun b hb e=>by
   injection hb with hb
   have hb:g=b:=hb
   omega
  unfold F181_po
  refine p181_2 hbx5 h15 hv5.kh ho5 (by omega) hv5.nt.tab fun w6 k6 ht6=>?_
  have hLD:∀ b,D≤b→¬ b=L:=fun b hb e=>by have:=nz b hb; rw [e,hv5.lL] at this; have:=hv5.q0; omega
  have hD6:=k6.bk hD5 (hLD _ (Nat.le_refl _))
  refine ⟨hD6,?_⟩
  obtain ⟨k7,_⟩:=putObj_kp (o':=.deferred none) hD6
  obtain ⟨hOk,hG2,_⟩:=hv.ok.dropW hG hx hU hup (Nat.le_refl 9)
  rw [← hxs] at hOk hG2
  have hv6:=hv5.setRow (N':=dropAll Kk.n xs) k6 ht6 (fun jj mm hm=>dropAll_old _ _ _ _ hm) hG2 ⟨hOk.up,hOk.root,hOk.gens⟩
  have hT6:=hT5.kp k6 fun b hb e=>by rw [e,hv5.lL] at hb; omega
  have hv7:=hv6.kp k7 fun b hb e=>by rw [e,nz D (Nat.le_refl _)] at hb; unfold inK at hb; omega
  have hT7:=hT6.kp k7 fun b hb e=>by rw [e,nz D (Nat.le_refl _)] at hb; omega
  have hk37:Kp (fun b=>inK q (lab1 b)∨D≤b) w3 (w6.putObj D (.deferred none)):=((k4.trans (k5.mono fun b _ hb=>.inr (by omega))).trans (k6.mono fun b _ hb=>.inl (by rw [hb,hv5.lL]; unfold inK; omega))).trans (k7.mono fun b _ hb=>.inr (by omega))
  refine hR _ lab1 ⟨st3.kp.step hk37 fun b hb hi=>?_,st3.old,st3.new⟩ ?_ (hT7.le (by omega))
  ·rcases hi with hi | hi
   ·rw [st3.old b hb] at hi; exact hi
   ·have:=st3.kp.size; omega
  ·have e:gj 0=xs.reverse.foldl (fun g y=>closeG g rootH y) Kk.g:=rfl
   rw [← e]
   exact hv7
end
section
open Sy
variable {K:Ko} {w w':World}
theorem k181 {lab:Nat→Nat} {q k t L bk m p y c i:Nat} {nb lf:Nat→Nat} {Kk:Kn} {x clk:Int} {n:Nd} {up:List Int} (hv:KRv w lab q k t L bk m p nb lf Kk) (hT:TM w lab q y k c) (hc:c<70000) (hx:getN Kk.n x=some (i,n)) (hU:Up Kk.n x (x :: up)) (hup:up≠[])
  (hR:∀ w' lab',Stp w w' lab lab' q→KRv w' lab' q k t L bk m p nb lf (crossK clk Kk x)→TM w' lab' q y k (c+70)→K (.tuple #[]) w'):Ct Tryz.prog 181 #[Pt y 0,I x,I clk] w K:=by
 refine c181 (M:=M181 K) (hM181 K) ?_
 unfold F181
 refine new_k [Pt y 0] fun w1 k1 b1 s1=>?_
 obtain ⟨ma,ml,mc,mn,mxs,h1,h2,h3,h4,h5⟩:=id hT
 have hv1:=hv.kp k1 fun _ _=>id
 have h11:Bk w1 y [Pt k 0,.slice ma ml mc] 335:=k1.bk h1 id
 have hT1:=hT.no k1
 have hbl:lab w.heap.size=0:=by
  by_cases e:lab w.heap.size=0
  ·exact e
  ·have:=hv.bd _ e; omega
 have hn:=(getN_some hx).2
 have hnb1:=(hv1.nt.nd i n hn).2
 have hi64:=(hv1.nt.nd i n hn).1
 simp only [SS,b1.rd (o:=0) (v:=Pt y 0) rfl,h11.rd (o:=0) (v:=Pt k 0) rfl,hv1.kh.rd (o:=0) (v:=Pt t 0) rfl]
 refine n_get hv1.nt ?_
 rw [hx]
 intro d
 simp only [SS,Nat.reduceAdd,hnb1.rd (o:=8) (v:=I n.bg.en) rfl]
 unfold crossK at hR
 simp only [hx] at hR
 by_cases e1:n.bg.en=clk
 case neg =>
  rw [if_neg e1] at hR ⊢
  exact hR _ lab (Stp.no (k1.drR d) hv.bd) (hv.kp (k1.drR d) fun _ _=>id) ((hT.no (k1.drR d)).le (by omega))
 rw [if_pos e1] at hR ⊢
 simp only [SS,Nat.reduceAdd,b1.rd (o:=0) (v:=Pt y 0) rfl,hnb1.rd (o:=1) (v:=I n.bg.nq) rfl,hnb1.rd (o:=6) (v:=I n.bg.left) rfl]
 refine k274 (w:=dr w1 _) (hv1.kp (Kp.dr No w1 _) fun _ _=>id) (hT1.no (Kp.dr No w1 _)) (by omega) fun w3 lab3 st3a hv3 hT3=>?_
 have st3:Stp w w3 lab lab3 q:=Stp.pre (k1.drR _) hv.bd st3a
 have hnb3:=(hv3.nt.nd i n hn).2
 have b3:Bk w3 w.heap.size [Pt y 0] 333:=st3a.kp.bk b1 (by rw [hbl]; unfold inK; omega)
 have hbl3:lab3 w.heap.size=0:=by rw [st3a.old _ b1.lt,hbl]
 have la8:∀ {w':World},Bk w' (nb i) (ndC n (lf i)) 122→∀ k,La 8 ⟨nb i,1,none⟩ w' k=k n.bg.cells.toArray:=fun hb k=>by rw [hb.la (by simp [ndC,Bg.cells])]; rfl
 have la2:∀ {w':World},Bk w' (nb i) (ndC n (lf i)) 122→∀ k,La 2 ⟨nb i,1,none⟩ w' k=k #[I n.bg.nq,I n.bg.np]:=fun hb k=>by rw [hb.la (by simp [ndC,Bg.cells])]; rfl
 have lb2:∀ {w':World} {z:Nat} {b:Bg},Bk w' z b.cells 120→∀ k,La 2 ⟨z,0,none⟩ w' k=k #[I b.nq,I b.np]:=fun hb k=>by rw [hb.la (by simp [Bg.cells])]; rfl
 have lb8:∀ {w':World} {z:Nat} {b:Bg},Bk w' z b.cells 120→∀ k,La 8 ⟨z,0,none⟩ w' k=k b.cells.toArray:=fun hb k=>hb.la0 rfl k
 simp only [SS,la8 hnb3]
 have set_:∀ (w8:World) (lab8:Nat→Nat) (b:Bg) (c8:Nat) (k':World→Prop),goneB n.bg clk=false→crossF clk n={ n with bg:=b }→Stp w w8 lab lab8 q→KRv w8 lab8 q k t L bk m p nb lf Kk→TM w8 lab8 q y k c8→c8≤c+70→(∀ w9,(∀ w10,Kp No w9 w10→K (.tuple #[]) w10)→k' w9)→Sa 8 ⟨nb i,1,none⟩ b.cells.toArray w8 k':=by
  intro w8 lab8 b c8 k' hg hf st hv8 hT8 hc8 hk'
  rw [hg] at hR
  simp only [Bool.false_eq_true,if_false] at hR
  refine sa_k (hv8.nt.nd i n hn).2 rfl (by simp [ndC,Bg.cells]) (Bg.one _) fun w9 k9 b9 s9=>?_
  have b9':Bk w9 (nb i) (ndC (crossF clk n) (lf i)) 122:=by rw [hf]; exact b9
  have hv9:=hv8.setNode (f:=crossF clk) hn (fun _=>⟨rfl,rfl⟩) k9 b9'
  refine hk' w9 fun w10 k10=>hR w10 lab8 ((st.trans ⟨k9.mono fun z _ hz=>by rw [hz,hv8.ln i n hn]; unfold inK; omega,fun _ _=>rfl,fun z hz hnz=>by have:=hv8.bd z hnz; omega⟩).tail k10) (hv9.kp k10 fun _ _=>id) (((hT8.kp k9 fun z hz e=>by rw [e,hv8.ln i n hn] at hz; omega).no k10).le hc8)
 have fin:∀ (w4:World) (b:Bg),crossF clk n={ n with bg:=b }→Kp No w3 w4→New (.cells zB.cells.toArray 120) w4 fun x8 w5=>Sa 8 x8 b.cells.toArray w5 fun w6=>Ifm (goneB n.bg clk)
   (Lc ⟨w.heap.size,0,none⟩ w6 fun v63=>onP v63 fun x63=>onSome x63 fun x64=>Lc (x64.add 0) w6 fun v66=>onP v66 fun x66=>Ct Tryz.prog 140 #[.pointer x66,.slice none 0 0,.int .i64 x] w6 fun v68 w7=>onL v68 fun a68 l68 c68=>F181_0 K (M181 K) ⟨w.heap.size,0,none⟩ a68 l68 c68 a68 l68 c68 (l68:Nat) 0 w7)
   (La 2 (x8.add 0) w6 fun x109=>La 2 ⟨nb i,1,none⟩ w6 fun x114=>Rd Tryz.prog (Bin .neq 35 (.tmp 109) (.tmp 114) (.agg x109) (.agg x114)) (dr w6 (w6.drawn+1)) fun v115=>onB v115 fun x115=>Ifm x115
    (Lc ⟨w.heap.size,0,none⟩ w6 fun v116=>onP v116 fun x116=>Lc ((x8.add 0).add 0) w6 fun v120=>onI v120 fun x120=>Ct Tryz.prog 274 #[.pointer x116,.int .i64 6,.int .i64 x,.int .i64 0,.int .i64 x120] (dr w6 (w6.drawn+1)) fun v121 w8=>La 8 x8 w8 fun x123=>Sa 8 ⟨nb i,1,none⟩ x123 w8 fun w9=>K (.tuple #[]) w9)
    (La 8 x8 w6 fun x123=>Sa 8 ⟨nb i,1,none⟩ x123 w6 fun w10=>K (.tuple #[]) (dr w10 (w6.drawn+1)))):=by
  intro w4 b hf k4
  refine new_k zB.cells fun w5 k5 b5 s5=>?_
  refine sa_k (cs:=b.cells) b5 rfl (by decide) (Bg.one _) fun w6 k6 b6 s6=>?_
  rw [over_all _ _ (by rfl)] at b6
  have s4:=k4.size
  have k36:Kp No w3 w6:=(k4.trans k5).own k6 (by omega)
  have hv6:=hv3.kp k36 fun _ _=>id
  have hT6:=hT3.no k36
  have st6:=st3.tail k36
  have bx6:Bk w6 w.heap.size [Pt y 0] 333:=k36.bk b3 id
  have hnb6:=(hv6.nt.nd i n hn).2
  cases eg:goneB n.bg clk with
  | true =>
   rw [eg] at hR
   simp only [if_true] at hR
   simp only [Ifm_t]
   exact p181_g hv6 hT6 (by omega) hx hU hup bx6 hbl3 (ma:=none) (ml:=0) (mc:=0) fun w7 lab7 st7 hv7 hT7=>hR w7 lab7 (st6.trans st7) hv7 (hT7.le (by omega))
  | false =>
   simp only [Ifm_f,SS,lb2 b6,la2 hnb6,ne35]
   by_cases e2:b.nq=n.bg.nq∧b.np=n.bg.np
   ·rw [if_pos e2]
    simp only [lb8 b6]
    exact set_ w6 lab3 b _ _ eg hf st6 hv6 hT6 (by omega) fun w9 h=>h _ (Kp.dr No w9 _)
   ·rw [if_neg e2]
    simp only [bx6.rd (o:=0) (v:=Pt y 0) rfl,b6.rd (o:=0) (v:=I b.nq) rfl,SS]
    refine k274 (w:=dr w6 _) (hv6.kp (Kp.dr No w6 _) fun _ _=>id) (hT6.no (Kp.dr No w6 _)) (by omega) fun w8 lab8 st8 hv8 hT8=>?_
    have b8:Bk w8 w4.heap.size b.cells 120:=st8.kp.bk b6 (by
     have:lab3 w4.heap.size=0:=by
      by_cases e:lab3 w4.heap.size=0
      ·exact e
      ·have:=hv3.bd _ e; omega
     rw [this]; unfold inK; omega)
    simp only [lb8 b8]
    exact set_ w8 lab8 b _ _ eg hf (st6.trans (Stp.pre (Kp.dr No w6 _) hv6.bd st8)) hv8 hT8 (by omega) fun w9 h=>h _ (Kp.refl _ _)
 refine k278 ?_
 cases ec:crossB n.bg clk with
 | error er =>
  intro w4 k4
  simp only [SS]
  have:=fin w4 zB (by simp only [crossF,ec]) k4
  exact this
 | ok b =>
  intro w4 k4
  simp only [SS]
  have:=fin w4 b (by simp only [crossF,ec]) k4
  exact this
end
section
open Sy
theorem dropAll_get:∀ (xs:List Int) (N:Nds) {y:Int} {j:Nat} {m:Nd},getN N y=some (j,m)→y ∉ xs→getN (dropAll N xs) y=some (j,m)
 | [],_,_,_,_,h,_=>h
 | x :: xs,N,_,_,_,h,hn=>dropAll_get xs (dropN N x) (drop_get h fun e=>hn (e ▸ List.mem_cons_self)) fun hm=>hn (List.mem_cons_of_mem _ hm)
theorem modN_get {N:Nds} {i:Nat} {f:Nd→Nd} {y:Int} {j:Nat} {m:Nd} (h:getN N y=some (j,m)) (hne:j≠i) (hf:∀ n,(f n).par=n.par):getN (modN N i f) y=some (j,m):=by
 obtain ⟨n',h1,_⟩:=(modN_alike N i f hf).get h
 have h2:=(getN_some h1).2
 have h3:modN N i f j=N j:=upd1_ne _ _ hne
 rw [h3,(getN_some h).2] at h2
 injection h2 with h2
 rw [h1,h2]
section
variable {K:Kn} {clk x:Int} {up:List Int} {i:Nat} {n:Nd}
theorem cross_stay (hO:K.Ok) (hG:GenOk K.n) (hx:getN K.n x=some (i,n)) (hU:Up K.n x (x :: up)) (hup:up≠[]) :
  (∀ y l,Up K.n y l→x ∉ l→Up (crossK clk K x).n y l)∧(∀ y j m l,getN K.n y=some (j,m)→Up K.n y l→x ∉ l→getN (crossK clk K x).n y=some (j,m)):=by
 unfold crossK
 simp only [hx]
 split
 ·split
  ·obtain ⟨_,_,h3⟩:=hO.dropW hG hx hU hup (Nat.le_refl 9)
   refine ⟨h3,fun y j m l hy hl hn=>dropAll_get _ _ hy fun hm=>?_⟩
   obtain ⟨l1,h1⟩:=walk_up (fun y hh hy=>by obtain ⟨i,n,h1,_⟩:=kids_live hG hy; exact ⟨i,n,h1⟩) (fun y i n hy=>live_ne hG hy) hU hm
   rw [hl.uniq h1] at hn
   exact hn (by simp)
  ·refine ⟨fun y l hl _=>(modN_alike K.n i (crossF clk) fun _=>rfl).up hl,fun y j m l hy hl hn=>modN_get hy (fun e=>?_) fun _=>rfl⟩
   subst e
   obtain ⟨h1,_⟩:=name_get hy
   obtain ⟨h2,_⟩:=name_get hx
   have hyx:y=x:=h1.trans h2.symm
   subst hyx
   rcases hl.inv with ⟨h3,_⟩ | ⟨_,_,l',_,_,rfl,_⟩
   ·exact live_ne hG hy h3
   ·exact hn List.mem_cons_self
 ·exact ⟨fun y l hl _=>hl,fun y j m l hy _ _=>hy⟩
end
theorem kid_not {N:Nds} {x h:Int} {up:List Int} (hx:Up N x (x :: h :: up)):x ∉ h :: up:=fun hm=>by
 obtain ⟨l1,l2,e⟩:=List.append_of_mem hm
 rw [e] at hx
 have h1:Up N x ((x :: l1)++x :: l2):=by simpa using hx
 have:=congrArg List.length (hx.uniq (h1.drop))
 simp at this
 omega
theorem step_eq {K:Kn} {h:Int} {i:Nat} {n:Nd} (hg:getN K.n h=some (i,n)):stepK K h=(kidsN K.n h).foldl (crossK (wr (n.clk+1))) { K with n:=modN K.n i fun n=>{ n with clk:=wr (n.clk+1) } }:=by
 unfold stepK
 rw [hg]
end
section
open Sy
variable {K:Ko} {w w':World}
theorem p101_b {lab:Nat→Nat} {q k t L bk m p y c b1 b4 i:Nat} {nb lf:Nat→Nat} {Kk:Kn} {h:Int} {n:Nd} {up:List Int} {C:World→Prop} (hv:KRv w lab q k t L bk m p nb lf Kk) (hT:TM w lab q y k c) (hc:c<60000) (hg:getN Kk.n h=some (i,n)) (hU:Up Kk.n h (h :: up))
  (h1:Bk w b1 [Pt k 0] 26) (h4:Bk w b4 [Pt y 0] 333) (l1:lab b1=0) (l4:lab b4=0)
  (hR:∀ w' lab',Stp w w' lab lab' q→KRv w' lab' q k t L bk m p nb lf (stepK Kk h)→TM w' lab' q y k (c+4480)→Up (stepK Kk h).n h (h :: up)→C w'):F101b (fun _ w2=>C w2) ⟨b1,0,none⟩ ⟨b4,0,none⟩ h w:=by
 unfold F101b
 simp only [SS,h1.rd (o:=0) (v:=Pt k 0) rfl,hv.kh.rd (o:=0) (v:=Pt t 0) rfl]
 refine n_get hv.nt ?_
 rw [hg]
 intro d
 have hn:=(getN_some hg).2
 have hnb:=(hv.nt.nd i n hn).2
 have hi64:=(hv.nt.nd i n hn).1
 have hln:=hv.ln i n hn
 simp only [SS,hnb.rd (o:=9) (v:=I n.clk) rfl]
 obtain ⟨clk,hclk⟩:∃ z,z=wr (n.clk+1):=⟨_,rfl⟩
 have hclk':IntKind.i64.wrap (n.clk+1)=clk:=hclk.symm
 rw [hclk']
 rw [step_eq hg,← hclk] at hR
 let fc:Nd→Nd:=fun n=>{ n with clk:=clk }
 refine sc_k (o:=9) hnb (by simp [ndC,Bg.cells]) rfl fun w2 k2 bb2 s2=>?_
 have hb2:Bk w2 (nb i) (ndC (fc n) (lf i)) 122:=bb2
 have hfc:fc n={ n with clk:=wr (n.clk+1) }:=by rw [← hclk]
 have hv2:=hv.setNode (f:=fun n=>{ n with clk:=clk }) hn (fun _=>⟨rfl,rfl⟩) k2 hb2
 have st2:Stp w w2 lab lab q:=⟨k2.mono fun z _ hz=>by rw [hz,hln]; unfold inK; omega,fun _ _=>rfl,fun z hz hnz=>by have:=hv.bd z hnz; omega⟩
 have hT2:=hT.kp k2 fun z hz e=>by rw [e,hln] at hz; omega
 have eK:modN Kk.n i (fun n=>{ n with clk:=wr (n.clk+1) })=modN Kk.n i fun n=>{ n with clk:=clk }:=by
  funext j
  unfold modN
  by_cases e:j=i
  ·subst e; rw [upd1_same,upd1_same,hn]; simp [hclk]
  ·rw [upd1_ne _ _ e,upd1_ne _ _ e]
 rw [eK] at hR
 obtain ⟨N2,hN2⟩:∃ z,z=modN Kk.n i fun n=>{ n with clk:=clk }:=⟨_,rfl⟩
 rw [← hN2] at hR hv2
 have ha:AlikeN Kk.n N2:=by rw [hN2]; exact modN_alike _ _ _ fun _=>rfl
 have hkids:kidsN N2 h=kidsN Kk.n h:=by
  have e1:allS N2 1 64=allS Kk.n 1 64:=allS_congr (fun j=>⟨(ha j).1,ha.isS j⟩) 1 64
  unfold kidsN
  rw [e1]
  refine List.filter_congr fun x hx=>?_
  unfold kidB
  cases e:getN Kk.n x with
  | none =>
   have e2:getN N2 x=none:=by
    cases e3:getN N2 x with
    | none=>rfl
    | some r =>
     obtain ⟨j,m⟩:=r
     have hs:AlikeN N2 Kk.n:=fun j=>⟨(ha j).1.symm,(ha j).2.symm⟩
     obtain ⟨_,h3,_⟩:=hs.get e3
     rw [e] at h3; cases h3
   rw [e2]
  | some r =>
   obtain ⟨j,m⟩:=r
   obtain ⟨m',h3,h4⟩:=ha.get e
   rw [h3]
   simp only [h4]
 have hg2:getN N2 h=some (i,fc n):=by
  obtain ⟨n',h3,_⟩:=ha.get hg
  have h5:=(getN_some h3).2
  have h6:N2 i=((Kk.n i).1,(Kk.n i).2.map fc):=by rw [hN2]; exact upd1_same _ _ _
  rw [h6,hn] at h5
  injection h5 with h5
  rw [h3,← h5]
 have h12:=st2.kp.bk h1 (by rw [l1]; unfold inK; omega)
 have h42:=st2.kp.bk h4 (by rw [l4]; unfold inK; omega)
 have h12:Bk w2 b1 [Pt k 0] 26:=h12
 simp only [SS,h12.rd (o:=0) (v:=Pt k 0) rfl]
 refine k145 (w:=dr w2 d) (hv2.nt.no (Kp.dr No w2 d)) fun a0 l0 c0 w3 k3' hok=>?_
 have k3:Kp No w2 w3:=k3'.drL
 have hok:w3.ownsRow w2.heap.size 33 1 (.slice a0 l0 c0) (kidsN N2 h).length ((kidsN N2 h).map I):=hok
 rw [hkids] at hok
 have hl0:l0=(kidsN Kk.n h).length:=own_len hok
 have hkl:=kids_len Kk.n h
 have hv3:=hv2.kp k3 fun _ _=>id
 have hT3:=hT2.no k3
 have st3:=st2.tail k3
 have h13:Bk w3 b1 [Pt k 0] 26:=k3.bk h12 id
 have h43:Bk w3 b4 [Pt y 0] 333:=k3.bk h42 id
 have hG:=hv.nt.gen
 have hkfree:∀ b,(Value.slice a0 l0 c0).ownBlock=some b→lab b=0:=fun b hb=>by
  have:=(own_lt hok hb).1
  by_cases e:lab b=0
  ·exact e
  ·have:=hv2.bd b e; omega
 simp only [SS]
 unfold F101b_0
 refine ⟨fun x4 x8 a53 l53 c53 x54 x55 w'=>⟨b4,0,none⟩=x4∧some ⟨nb i,0,none⟩=x8∧a0=a53∧l0=l53∧c0=c53∧x54=l0∧∃ (j:Nat) (lab1:Nat→Nat),x55=j∧j≤(kidsN Kk.n h).length∧Stp w w' lab lab1 q ∧
    KRv w' lab1 q k t L bk m p nb lf (((kidsN Kk.n h).take j).foldl (crossK clk) { Kk with n:=N2 })∧TM w' lab1 q y k (c+j*70)∧lab1 b4=0∧Bk w' b4 [Pt y 0] 333∧w'.ownsRow w2.heap.size 33 1 (.slice a0 l0 c0) (kidsN Kk.n h).length ((kidsN Kk.n h).map I)∧(∀ b,(Value.slice a0 l0 c0).ownBlock=some b→lab1 b=0) ∧
    Up (((kidsN Kk.n h).take j).foldl (crossK clk) { Kk with n:=N2 }).n h (h :: up)∧getN (((kidsN Kk.n h).take j).foldl (crossK clk) { Kk with n:=N2 }).n h=some (i,fc n)∧∀ x∈(kidsN Kk.n h).drop j,Up (((kidsN Kk.n h).take j).foldl (crossK clk) { Kk with n:=N2 }).n x (x :: h :: up),
  fun _ _ _ _ _ _ x55 _=>(kidsN Kk.n h).length - x55.toNat,⟨rfl,rfl,rfl,rfl,rfl,rfl,0,lab,rfl,Nat.zero_le _,st3,hv3,hT3,l4,h43,hok,hkfree,ha.up hU,hg2,fun x hx=>ha.up (kid_up hG (by simpa using hx) hU)⟩,?_⟩
 rintro _ _ _ _ _ _ _ w4 ⟨rfl,rfl,rfl,rfl,rfl,rfl,j,lab1,rfl,hj,st,hv4,hT4,l44,h44,ho4,hfree4,hU4,hg4,hk4⟩
 unfold F101b_0B
 simp only [SS]
 by_cases e1:j<l0
 case neg =>
  rw [if_neg (by omega)]
  rw [List.take_of_length_le (by omega)] at hv4 hU4
  have e0:h=h:=rfl
  have hk0:(kidsN Kk.n h)=kidsN Kk.n h:=rfl
  exact hR w4 lab1 st hv4 (hT4.le (by omega)) hU4
 rw [if_pos (by omega)]
 have hj':j<(kidsN Kk.n h).length:=by omega
 obtain ⟨gk,rfl,_,hlc⟩:=hd_lc ho4 hj'
 simp only [Nat.mul_one] at hlc
 have hn4:=(getN_some hg4).2
 have hnb4:=(hv4.nt.nd i _ hn4).2
 simp only [SS,Ix_c e1,Nat.mul_one,hlc,h44.rd (o:=0) (v:=Pt y 0) rfl,hnb4.rd (o:=9) (v:=I clk) rfl]
 obtain ⟨x,hx⟩:∃ z,z=(kidsN Kk.n h)[j]:=⟨_,rfl⟩
 rw [← hx]
 obtain ⟨Kc,hKc⟩:∃ z,z=((kidsN Kk.n h).take j).foldl (crossK clk) { Kk with n:=N2 }:=⟨_,rfl⟩
 rw [← hKc] at hv4 hU4 hg4 hk4
 have hdrop:(kidsN Kk.n h).drop j=x :: (kidsN Kk.n h).drop (j+1):=by rw [List.drop_eq_getElem_cons hj',hx]
 rw [hdrop] at hk4
 have hxU:=hk4 x List.mem_cons_self
 obtain ⟨ix,nx,hxg⟩:∃ ix nx,getN Kc.n x=some (ix,nx):=by
  rcases hxU.inv with ⟨_,h2⟩ | ⟨ix,nx,_,_,h2,_,_⟩
  ·cases h2
  ·exact ⟨ix,nx,h2⟩
 have hstep:((kidsN Kk.n h).take (j+1)).foldl (crossK clk) { Kk with n:=N2 }=crossK clk Kc x:=by
  rw [List.take_succ_eq_append_getElem hj',List.foldl_append,← hKc,← hx]; rfl
 obtain ⟨stay1,stay2⟩:=cross_stay (clk:=clk) hv4.ok hv4.nt.gen hxg hxU (by simp)
 have hxh:=kid_not hxU
 refine k181 (w:=dr w4 _) (hv4.kp (Kp.dr No w4 _) fun _ _=>id) (hT4.no (Kp.dr No w4 _)) (by omega) hxg hxU (by simp) fun w5 lab5 st5 hv5 hT5=>?_
 have k45:=st5.kp
 rw [cast_succ _ (by omega)]
 rw [← hstep] at hv5 stay1 stay2
 refine ⟨⟨j+1,lab5,rfl,by omega,st.trans (Stp.pre (Kp.dr No w4 _) hv4.bd st5),hv5,hT5.le (by omega),by rw [st5.old _ h44.lt]; exact l44,k45.bk h44 (by rw [l44]; unfold inK; omega),own_kp (own_dr ho4) k45 fun b hb hi=>by rw [hfree4 b hb] at hi; unfold inK at hi; omega,fun b hb=>by rw [st5.old _ (own_lt ho4 hb).2]; exact hfree4 b hb,
  stay1 _ _ hU4 hxh,stay2 _ _ _ _ hg4 hU4 hxh,fun z hz=>stay1 _ _ (hk4 z (List.mem_cons_of_mem _ hz)) fun hm=>?_⟩,by simp; omega⟩
 rcases List.mem_cons.1 hm with e | hm
 ·have hnd:=kids_nodup hG h
  have:((kidsN Kk.n h).drop j).Nodup:=List.Nodup.sublist (List.drop_sublist _ _) hnd
  rw [hdrop,List.nodup_cons] at this
  exact this.1 (e ▸ hz)
 ·exact hxh hm
end
section
open Sy
variable {K:Ko} {w w':World}
theorem last_of {hs:List Int} (h:hs≠[]):hs.getLastD 0=hs[hs.length - 1]'(by have:=List.length_pos_iff.2 h; omega):=by
 rw [List.getLastD_eq_getLast?,List.getLast?_eq_getElem?,List.getElem?_eq_getElem (by have:=List.length_pos_iff.2 h; omega)]; rfl
theorem take_rev {hs:List Int} {j:Nat} (hj:j<hs.length):(hs.take (j+1)).reverse=hs[j] :: (hs.take j).reverse:=by
 rw [List.take_succ_eq_append_getElem hj,List.reverse_append]; rfl
theorem k101 {lab:Nat→Nat} {q k:Nat} {Kk:Kn} (hK:KR w lab q k Kk) (hR:if Kk.now=1073741824 then ∀ v w',Kp No w w'→Flt w' v 60→K (.tuple #[.slice none 0 0,v]) w' else
  ∀ a l c w' lab',Stp w w' lab lab' q→KR w' lab' q k (tickK Kk)→K (.tuple #[.slice a l c,.nilIface]) w'):Ct Tryz.prog 101 #[Pt k 0] w K:=by
 refine c101 (M:=M101 K) (hM101 K) ?_
 unfold F101
 obtain ⟨t,L,bk,m,p,nb,lf,hv⟩:=id hK
 refine new_k [Pt k 0] fun w1 k1 b1 s1=>?_
 have hv1:=hv.kp k1 fun _ _=>id
 simp only [SS,b1.rd (o:=0) (v:=Pt k 0) rfl,hv1.kh.rd (o:=4) (v:=I Kk.now) rfl]
 by_cases e1:Kk.now=1073741824
 ·rw [if_pos e1] at hR ⊢
  exact k129 (by omega) fun v w2 k2 hf=>hR v w2 (k1.trans k2) hf
 rw [if_neg e1] at hR ⊢
 have hq0:=hv.q0
 have lab0:∀ {b:Nat} {ww:World} {lb:Nat→Nat},(∀ x,lb x≠0→x<ww.heap.size)→ww.heap.size≤b→lb b=0:=fun {b ww lb} hb h=>by
  by_cases e:lb b=0
  ·exact e
  ·have:=hb b e; omega
 have l1:lab w.heap.size=0:=lab0 hv.bd (Nat.le_refl _)
 refine new_k [Pt k 0,.slice none 0 0] fun w4 k4 b4 s4=>?_
 obtain ⟨y,hy⟩:∃ z,z=w1.heap.size:=⟨_,rfl⟩
 rw [← hy] at b4 ⊢
 obtain ⟨labA,hlabA⟩:∃ z,z=nl lab w1 w4 (q+7):=⟨_,rfl⟩
 have hvA:=hv1.relab (k4.no (fun x=>lab x=q+7))
 rw [← hlabA] at hvA
 have stA:Stp w1 w4 lab labA q:=by rw [hlabA]; exact Stp.lab (k4.no _) (by unfold inK; omega)
 have lAy:labA y=q+7:=by rw [hlabA]; unfold nl; rw [if_neg (by omega),if_pos (by omega)]
 have hTA:TM w4 labA q y k 0:=⟨none,0,0,0,[],b4,lAy,World.ownsRow_nil _ _ _ _,fun b hb=>(by cases hb),Nat.le_refl _⟩
 have lA1:labA w.heap.size=0:=by rw [stA.old _ b1.lt]; exact l1
 have b14:Bk w4 w.heap.size [Pt k 0] 26:=k4.bk b1 id
 refine new_k [.pointer none] fun w5 k5 b5 s5=>?_
 obtain ⟨b4',hb4'⟩:∃ z,z=w4.heap.size:=⟨_,rfl⟩
 rw [← hb4'] at b5 ⊢
 have lA4:labA b4'=0:=lab0 hvA.bd (by omega)
 refine sc_k (o:=0) b5 (by simp) rfl fun w6 k6 b6 s6=>?_
 have b6:Bk w6 b4' [Pt y 0] 333:=b6
 have k46:Kp No w4 w6:=k5.own k6 (by omega)
 have b16:Bk w6 w.heap.size [Pt k 0] 26:=k46.bk b14 id
 have hv6:=hvA.kp k46 fun _ _=>id
 have hT6:=hTA.no k46
 simp only [SS,b16.rd (o:=0) (v:=Pt k 0) rfl]
 refine k177 hv6 fun a7 c7 w7 k7 hv7 ho7=>?_
 obtain ⟨hs,hhs⟩:∃ z,z=(wayK 9 Kk.n rootH).1:=⟨_,rfl⟩
 obtain ⟨N7,hN7⟩:∃ z,z=(wayK 9 Kk.n rootH).2:=⟨_,rfl⟩
 rw [← hhs] at ho7 ⊢
 rw [← hN7] at hv7
 have hTk:tickK Kk={ (hs.reverse.foldl stepK (chargeK { Kk with n:=N7 } hs)) with now:=wr ((hs.reverse.foldl stepK (chargeK { Kk with n:=N7 } hs)).now+1) }:=by rw [hhs,hN7]; rfl
 have hG:=hv.nt.gen
 have hr0:∃ n0,getN Kk.n rootH=some (0,n0)∧n0.par=0:=by
  obtain ⟨n0,hn0,hp0⟩:=hv.ok.root
  have:=name_here (N:=Kk.n) hG (i:=0) (n:=n0) (by omega) (by rw [hn0])
  rw [hn0] at this
  have er:nameS 1 0 1=rootH:=by decide
  rw [er] at this
  exact ⟨n0,this,hp0⟩
 obtain ⟨n0,hr0,hp0⟩:=hr0
 have hU0:Up Kk.n rootH [rootH]:=.step (by decide) hr0 (hp0 ▸ .top)
 have hne:hs≠[]:=by
  obtain ⟨r,hr⟩:=wayK_cons 9 Kk.n rootH
  rw [hhs,hr]; simp
 have hpos:=List.length_pos_iff.2 hne
 have halike:AlikeN Kk.n N7:=by rw [hN7]; exact wayK_alike _ _ _
 have hways:∀ j (hj:j<hs.length),Up N7 hs[j] (hs.take (j+1)).reverse:=fun j hj=>by
  have:=wayK_up (fun _=>trivial) 9 Kk.n rootH [] hG hU0 j (by rw [← hhs]; exact hj)
  simp only [← hhs,List.append_nil] at this
  exact halike.up this
 have hlen9:hs.length≤9:=by
  have:=hv7.ok.len (hways (hs.length - 1) (by omega))
  rw [List.length_reverse,List.length_take] at this
  omega
 have hlastU:Up N7 (hs.getLastD 0) hs.reverse:=by
  rw [last_of hne]
  have:=hways (hs.length - 1) (by omega)
  rw [List.take_of_length_le (by omega)] at this
  exact this
 obtain ⟨il,nl',hlastG⟩:∃ i n,getN N7 (hs.getLastD 0)=some (i,n):=by
  rcases hlastU.inv with ⟨_,h2⟩ | ⟨i,n,_,_,h2,_,_⟩
  ·rw [List.reverse_eq_nil_iff] at h2; exact absurd h2 hne
  ·exact ⟨i,n,h2⟩
 have hnw:∀ {b:Nat},labA b=0→¬ (q+100≤labA b∧labA b<q+200):=fun h hi=>by rw [h] at hi; omega
 have b17:Bk w7 w.heap.size [Pt k 0] 26:=k7.bk b16 (hnw lA1)
 have b67:Bk w7 b4' [Pt y 0] 333:=k7.bk b6 (hnw lA4)
 have hT7:=hT6.kp k7 fun x hx hi=>by rw [hx] at hi; omega
 have s7:=k7.size
 have hpfree:∀ b,(Value.slice a7 hs.length c7).ownBlock=some b→labA b=0:=fun b hb=>lab0 (ww:=w6) (fun x hx=>by have:=hv6.bd x hx; omega) (own_lt ho7 hb).1
 simp only [SS,b67.rd (o:=0) (v:=Pt y 0) rfl]
 refine k178 hv7 hT7 (by omega) ho7 hpfree (by omega) hne ⟨il,nl',hlastG⟩ fun w8 lab8 st8 hv8 hT8=>?_
 have nk:∀ {b:Nat},labA b=0→¬ inK q (labA b):=fun h hi=>by rw [h] at hi; unfold inK at hi; omega
 have b18:Bk w8 w.heap.size [Pt k 0] 26:=st8.kp.bk b17 (nk lA1)
 have b68:Bk w8 b4' [Pt y 0] 333:=st8.kp.bk b67 (nk lA4)
 have ho8:=own_kp ho7 st8.kp fun b hb=>nk (hpfree b hb)
 have l81:lab8 w.heap.size=0:=by rw [st8.old _ b17.lt]; exact lA1
 have l84:lab8 b4'=0:=by rw [st8.old _ b67.lt]; exact lA4
 obtain ⟨g,rfl,_,_⟩:=hd_lc ho8 (i:=0) hpos
 have l8g:lab8 g=0:=by rw [st8.old _ (own_lt ho7 rfl).2]; exact hpfree g rfl
 refine k179 fun pp w9 k9 hpp hb9=>?_
 refine ⟨pp,rfl,?_⟩
 have hv9:=hv8.kp k9 fun _ _=>id
 have hT9:=hT8.no k9
 have b19:Bk w9 w.heap.size [Pt k 0] 26:=k9.bk b18 id
 have b69:Bk w9 b4' [Pt y 0] 333:=k9.bk b68 id
 have ho9:=own_kp ho8 k9 fun _ _=>id
 have l8p:lab8 pp=0:=lab0 hv8.bd hpp
 have oldA:∀ x,x<w.heap.size→labA x=lab x:=fun x hx=>stA.old x (by omega)
 have kw7:Kp (fun x=>inK q (lab x)) w w7:=(((k1.trans k4).trans k46).no _).step k7 fun i hi h=>by rw [oldA i hi] at h; unfold inK; omega
 have kw9:Kp (fun x=>inK q (lab x)) w w9:=(kw7.step st8.kp fun i hi h=>by rw [oldA i hi] at h; exact h).trans (k9.no _)
 have new8:∀ x,w.heap.size≤x→lab8 x≠0→inK q (lab8 x):=fun x hx hn=>by
  by_cases h7:x<w7.heap.size
  ·rw [st8.old x h7] at hn ⊢
   by_cases h1:x<w1.heap.size
   ·rw [stA.old x h1] at hn; have:=hv.bd x hn; omega
   ·exact stA.new x (by omega) hn
  ·exact st8.new x (by omega) hn
 intro rec recB recX hY
 obtain ⟨ws,hws⟩:∃ z,z=(w9.alloc (.deferred (some []))).alloc (.loop rec):=⟨_,rfl⟩
 have ks:Kp No w9 ws:=by rw [hws]; exact (Kp.alloc No _ _).trans (Kp.alloc No _ _)
 have hD:ws.heap[w9.heap.size]?=some (.deferred (some [])):=by rw [hws]; exact (Kp.alloc No _ _).bk (heap_alloc_new w9 _) id
 have hLo:ws.heap[w9.heap.size+1]?=some (.loop rec):=by rw [hws]; have:=heap_alloc_new (w9.alloc (.deferred (some []))) (.loop rec); simpa using this
 have hss:ws.heap.size=w9.heap.size+2:=by rw [hws]; simp
 rw [← hws]
 obtain ⟨D,hDe⟩:∃ z,z=w9.heap.size:=⟨_,rfl⟩
 rw [← hDe] at hY hD hLo hss ⊢
 have hvs:=hv9.kp ks fun _ _=>id
 have l8D:lab8 D=0:=lab0 hv9.bd (by omega)
 have l8D1:lab8 (D+1)=0:=lab0 hv9.bd (by omega)
 have hs9:=k9.size
 have hgD:g<D:=by have:=(own_lt ho9 rfl).2; rw [hDe]; exact this
 have hpD:pp<D:=by have:=hb9.lt; omega
 have h1D:w.heap.size<D:=by have:=b19.lt; omega
 have h4D:b4'<D:=by have:=b69.lt; omega
 let Kj:Nat→Kn:=fun j=>(hs.drop j).reverse.foldl stepK (chargeK { Kk with n:=N7 } hs)
 refine k276 (fun j w4=>∃ lj:Nat→Nat,Kp (fun b=>inK q (lab8 b)∨b=D+1) ws w4∧(∀ x,x<ws.heap.size→lj x=lab8 x)∧(∀ x,ws.heap.size≤x→lj x≠0→inK q (lj x))∧w4.heap[D]?=some (.deferred (some []))∧w4.heap[D+1]?=some (.loop rec)∧KRv w4 lj q k t L bk m p nb lf (Kj j)∧TM w4 lj q y k (5+(hs.length - j)*4480) ∧
   (∀ i (hi:i<j) (hj:j≤hs.length),Up (Kj j).n (hs[j - 1]'(by omega)) (hs.take j).reverse)) (xs:=hs) (len:=hs.length) (c:=c7) (g:=g) rfl (by omega) (fun j w4 hJ=>?_) ?_ (fun j w4 hj hJ K' hK'=>?_) fun w4 hJ=>?_
 ·obtain ⟨lj,k4,hlo,hln,hD4,hL4,hv4,hT4,hU4⟩:=hJ
  have nn:∀ {b:Nat},lab8 b=0→b≠D+1→¬ (inK q (lab8 b)∨b=D+1):=fun h h2 hi=>by
   rcases hi with hi | hi
   ·rw [h] at hi; unfold inK at hi; omega
   ·exact h2 hi
  refine ⟨k4.bk (ks.bk hb9 id) (nn l8p (by omega)),fun kk hkk=>?_⟩
  have ho4:=own_kp (own_kp ho9 ks fun _ _=>id) k4 fun b hb=>by
   injection hb with hb
   have hb:g=b:=hb
   subst hb
   exact nn l8g (by omega)
  obtain ⟨g',hg',_,hlc⟩:=hd_lc ho4 hkk
  injection hg' with hg'
  injection hg' with hg'
  subst hg'
  simp only [Nat.mul_one] at hlc
  exact cell_of_lc hlc
 ·have e:Kj hs.length=chargeK { Kk with n:=N7 } hs:=by
   show (hs.drop hs.length).reverse.foldl stepK _=_
   rw [List.drop_eq_nil_of_le (Nat.le_refl _)]; rfl
  refine ⟨lab8,Kp.refl _ _,fun _ _=>rfl,fun x hx hn=>by have:=hvs.bd x hn; omega,hD,hLo,by rw [e]; exact hvs,(hT9.no ks).le (by omega),fun i hi hj=>?_⟩
  rw [e,List.take_of_length_le (Nat.le_refl _)]
  have hal:AlikeN N7 (chargeK { Kk with n:=N7 } hs).n:=by
   unfold chargeK bookK spareK
   dsimp only
   split
   ·split <;> exact AlikeN.refl _
   ·split
    ·exact AlikeN.refl _
    ·split
     ·split <;> exact AlikeN.refl _
     ·split <;> exact modN_alike _ _ _ fun _=>rfl
  have:=hal.up hlastU
  rw [last_of hne] at this
  exact this
 ·obtain ⟨lj,k4,hlo,hln,hD4,hL4,hv4,hT4,hU4⟩:=hJ
  refine hY _ _ _ hL4 ⟨j,hs[j],rfl,?_⟩
  have k4s:=k4.size
  obtain ⟨k5,hL5⟩:=putObj_kp (o':=.loop recB) hL4
  obtain ⟨w5,hw5⟩:∃ z,z=w4.putObj (D+1) (.loop recB):=⟨_,rfl⟩
  rw [← hw5] at k5 hL5 ⊢
  have ljD1:lj (D+1)=0:=by rw [hlo _ (by omega)]; exact l8D1
  have ljD:lj D=0:=by rw [hlo _ (by omega)]; exact l8D
  have hv5:=hv4.kp k5 fun b hb e=>by rw [e,ljD1] at hb; unfold inK at hb; omega
  have hT5:=hT4.kp k5 fun b hb e=>by rw [e,ljD1] at hb; omega
  have nn:∀ {b:Nat},lab8 b=0→b≠D+1→¬ (inK q (lab8 b)∨b=D+1):=fun h h2 hi=>by
   rcases hi with hi | hi
   ·rw [h] at hi; unfold inK at hi; omega
   ·exact h2 hi
  have b15:Bk w5 w.heap.size [Pt k 0] 26:=k5.bk (k4.bk (ks.bk b19 id) (nn l81 (by omega))) (by omega)
  have b65:Bk w5 b4' [Pt y 0] 333:=k5.bk (k4.bk (ks.bk b69 id) (nn l84 (by omega))) (by omega)
  have hD5:w5.heap[D]?=some (.deferred (some [])):=k5.bk hD4 (by omega)
  have hUj:=hU4 j (by omega) (by omega)
  have hUj:Up (Kj (j+1)).n hs[j] (hs[j] :: (hs.take j).reverse):=by
   rw [take_rev hj] at hUj
   exact hUj
  obtain ⟨ij,nj,hgj⟩:∃ i n,getN (Kj (j+1)).n hs[j]=some (i,n):=by
   rcases hUj.inv with ⟨_,h2⟩ | ⟨i,n,_,_,h2,_,_⟩
   ·cases h2
   ·exact ⟨i,n,h2⟩
  have hmul:(hs.length - (j+1))*4480≤9*4480:=Nat.mul_le_mul_right _ (by omega)
  refine p101_b hv5 hT5 (by omega) hgj hUj b15 b65 (by rw [hlo _ (by omega)]; exact l81) (by rw [hlo _ (by omega)]; exact l84) fun w6 lab6 st6 hv6 hT6 hU6=>?_
  have nk6:∀ {b:Nat},lj b=0→¬ inK q (lj b):=fun h hi=>by rw [h] at hi; unfold inK at hi; omega
  have hL6:=st6.kp.bk hL5 (nk6 ljD1)
  refine ⟨hL6,hK' _ ?_⟩
  obtain ⟨k7,hL7⟩:=putObj_kp (o':=.loop rec) hL6
  have e:Kj j=stepK (Kj (j+1)) hs[j]:=by
   show (hs.drop j).reverse.foldl stepK _=stepK ((hs.drop (j+1)).reverse.foldl stepK _) hs[j]
   rw [List.drop_eq_getElem_cons hj,List.reverse_cons,List.foldl_append]
   rfl
  have k5s:=k5.size
  have l6D1:lab6 (D+1)=0:=by rw [st6.old _ (by omega)]; exact ljD1
  refine ⟨lab6,?_,fun x hx=>by rw [st6.old x (by omega)]; exact hlo x hx,fun x hx hn=>?_,k7.bk (st6.kp.bk hD5 (nk6 ljD)) (by omega),hL7,?_,?_,fun i hi hjl=>?_⟩
  ·refine ((k4.trans (k5.mono fun b _ hb=>.inr hb)).step st6.kp fun b hb hi=>?_).step k7 fun b hb e=>.inr e
   rw [hlo b hb] at hi
   exact .inl hi
  ·by_cases hx2:x<w5.heap.size
   ·rw [st6.old x hx2] at hn ⊢; exact hln x hx hn
   ·exact st6.new x (by omega) hn
  ·rw [e]
   exact hv6.kp k7 fun b hb e=>by rw [e,l6D1] at hb; unfold inK at hb; omega
  ·refine (hT6.kp k7 fun b hb e=>by rw [e,l6D1] at hb; omega).le ?_
   have e2:hs.length - j=(hs.length - (j+1))+1:=by omega
   rw [e2,Nat.succ_mul]
   omega
  ·rw [e]
   have ej:(hs.take j).reverse=hs[j - 1] :: (hs.take (j - 1)).reverse:=by
    have:=take_rev (hs:=hs) (j:=j - 1) (by omega)
    rw [show j - 1+1=j by omega] at this
    exact this
   rw [ej] at hU6 ⊢
   have h6:Up (stepK (Kj (j+1)) hs[j]).n hs[j] ([hs[j]]++hs[j - 1] :: (hs.take (j - 1)).reverse):=hU6
   exact h6.drop
 ·obtain ⟨lj,k4,hlo,hln,hD4,hL4,hv4,hT4,hU4⟩:=hJ
  refine ⟨hL4,?_⟩
  have k4s:=k4.size
  obtain ⟨k5,hL5⟩:=putObj_kp (o':=.loop recX) hL4
  obtain ⟨w5,hw5⟩:∃ z,z=w4.putObj (D+1) (.loop recX):=⟨_,rfl⟩
  rw [← hw5] at k5 hL5 ⊢
  have ljD1:lj (D+1)=0:=by rw [hlo _ (by omega)]; exact l8D1
  have ljD:lj D=0:=by rw [hlo _ (by omega)]; exact l8D
  have hv5:=hv4.kp k5 fun b hb e=>by rw [e,ljD1] at hb; unfold inK at hb; omega
  have hT5:=hT4.kp k5 fun b hb e=>by rw [e,ljD1] at hb; omega
  have nn:∀ {b:Nat},lab8 b=0→b≠D+1→¬ (inK q (lab8 b)∨b=D+1):=fun h h2 hi=>by
   rcases hi with hi | hi
   ·rw [h] at hi; unfold inK at hi; omega
   ·exact h2 hi
  have b15:Bk w5 w.heap.size [Pt k 0] 26:=k5.bk (k4.bk (ks.bk b19 id) (nn l81 (by omega))) (by omega)
  have b65:Bk w5 b4' [Pt y 0] 333:=k5.bk (k4.bk (ks.bk b69 id) (nn l84 (by omega))) (by omega)
  have hD5:w5.heap[D]?=some (.deferred (some [])):=k5.bk hD4 (by omega)
  unfold F101_po
  simp only [SS,b15.rd (o:=0) (v:=Pt k 0) rfl,hv5.kh.rd (o:=4) (v:=I (Kj 0).now) rfl]
  refine sc_k (o:=4) hv5.kh (by simp) rfl fun w6 k6 b6' s6=>?_
  have hv6:=hv5.setHead (now':=wr ((Kj 0).now+1)) (idle':=(Kj 0).idle) k6 b6'
  have nkk:∀ {b:Nat},lj b=0→¬ b=k:=fun h e=>by rw [e,hv5.lk] at h; omega
  have b66:Bk w6 b4' [Pt y 0] 333:=k6.bk b65 (nkk (by rw [hlo _ (by omega)]; exact l84))
  have hT6:=hT5.kp k6 fun b hb e=>by rw [e,hv5.lk] at hb; omega
  obtain ⟨ma,ml,mc,mn,mxs,h16,_⟩:=id hT6
  simp only [SS,b66.rd (o:=0) (v:=Pt y 0) rfl,h16.rd (o:=1) (v:=.slice ma ml mc) rfl]
  have hD6:=k6.bk hD5 (nkk ljD)
  refine ⟨hD6,?_⟩
  obtain ⟨k7,_⟩:=putObj_kp (o':=.deferred none) hD6
  have hv7:=hv6.kp k7 fun b hb e=>by rw [e,ljD] at hb; unfold inK at hb; omega
  have hkK:Kj 0=hs.reverse.foldl stepK (chargeK { Kk with n:=N7 } hs):=rfl
  rw [hTk,← hkK] at hR
  have ws_w:∀ x,x<w.heap.size→lab8 x=lab x:=fun x hx=>by
   rw [st8.old x (by omega),stA.old x (by omega)]
  refine hR _ _ _ _ lj ⟨?_,fun x hx=>by rw [hlo x (by omega)]; exact ws_w x hx,fun x hx hn=>?_⟩ ⟨t,L,bk,m,p,nb,lf,hv7⟩
  ·have k57:Kp (fun b=>inK q (lj b)∨b=D+1∨b=D) w4 (w6.putObj D (.deferred none)):=((k5.mono fun b _ hb=>.inr (.inl hb)).trans (k6.mono fun b _ hb=>.inl (by rw [hb,hv5.lk]; unfold inK; omega))).trans (k7.mono fun b _ hb=>.inr (.inr hb))
   refine ((kw9.trans (ks.no _)).step k4 fun b hb hi=>?_).step k57 fun b hb hi=>?_
   ·rcases hi with hi | hi
    ·rw [ws_w b hb] at hi; exact hi
    ·omega
   ·rcases hi with hi | hi | hi
    ·rw [hlo b (by omega),ws_w b hb] at hi; exact hi
    ·omega
    ·omega
  ·by_cases hx2:x<ws.heap.size
   ·rw [hlo x hx2] at hn ⊢; exact new8 x hx hn
   ·exact hln x (by omega) hn
end
section
open Sy
def F8 (R:Ko)  (w:World):Prop:=Ct Tryz.prog 29 #[.int .i64 1,.int .i64 64] w fun v6 w1=>on2 v6 fun y6_0 y6_1=>onP y6_0 fun x6_0=>Ct Tryz.prog 31 #[] w1 fun v11 w2=>onP v11 fun x11=>New (.cells (.agg #[.int .i64 0,.int .i64 0,.int .i64 0,.int .i64 0,.int .i64 0,.bool false,.int .i64 0,.int .i64 0,.int .i64 0,.int .i64 0,.pointer x11]:Value).cells 122) w2 fun x13 w3=>Ct Tryz.prog 30 #[.pointer x6_0,.pointer (some x13)] w3 fun v14 w4=>on2 v14 fun y14_0 y14_1=>onI y14_0 fun x14_0=>Ct Tryz.prog 32 #[.int .i64 x14_0] w4 fun v20 w5=>onP v20 fun x20=>Ct Tryz.prog 33 #[] w5 fun v21 w6=>onP v21 fun x21=>New (.cells (.agg #[.pointer x6_0,.int .i64 x14_0,.pointer x20,.pointer x21,.int .i64 0,.int .i64 0]:Value).cells 128) w6 fun x23 w7=>R (.pointer (some x23)) w7
noncomputable def b8:Code:=Tryz.f8.body.getD .skip
theorem c8 {R:Ko}  {w:World} (h:F8 R  w):Ct Tryz.prog 8 #[] w R :=
 ctS (args:=[]) (body:=b8) (n:=24) (rs:=[.tmp 0]) Tryz.func8
  (sg (cuts:=[]) trivial h)
variable {K:Ko} {w w':World}
def root0:Nd:=⟨0,zB,0,emptyS⟩
def newN:Nds:=upd1 (fun _=>(1,none)) 0 (1,some root0)
def newK:Kn:={ n:=newN,g:=updG (fun _=>none) rootH (some zE),pool:=emptyS,last := -1,now:=0,idle:=0 }
theorem newN_get (i:Nat):(newN i).1=1:=by
 unfold newN
 by_cases h:i=0
 ·subst h; rw [upd1_same]
 ·rw [upd1_ne _ _ h]
theorem newN_some {i:Nat} {n:Nd} (h:(newN i).2=some n):i=0∧n=root0:=by
 unfold newN at h
 by_cases e:i=0
 ·subst e; rw [upd1_same] at h; injection h with h; exact ⟨rfl,h.symm⟩
 ·rw [upd1_ne _ _ e] at h; cases h
theorem newN_ok:GenOk newN:=fun i _=>by rw [newN_get]; omega
theorem newK_ok:newK.Ok:=by
 have e0:newN 0=(1,some root0):=upd1_same _ _ _
 have er:nameS 1 0 1=rootH:=by decide
 have hr:getN newN rootH=some (0,root0):=by
  have:=name_here (N:=newN) newN_ok (i:=0) (n:=root0) (by omega) (by rw [e0])
  rw [newN_get,er] at this
  exact this
 refine ⟨fun i n hn=>?_,⟨root0,e0,rfl⟩,fun i=>by show 1≤(newN i).1; rw [newN_get]; omega⟩
 obtain ⟨rfl,rfl⟩:=newN_some hn
 show ∃ l,Up newN (nameS 1 0 (newN 0).1) l∧l.length≤9
 rw [newN_get,er]
 exact ⟨[rootH],.step (by decide) hr .top,by simp⟩
set_option maxHeartbeats 4000000 in
theorem k8 {lab:Nat→Nat} {q:Nat} (hbd:∀ x,lab x≠0→x<w.heap.size) (hq:0<q) (hfree:∀ x,¬ inK q (lab x))
  (hR:∀ k w' lab',Kp No w w'→w.heap.size≤k→Stp w w' lab lab' q→KR w' lab' q k newK→K (Pt k 0) w'):Ct Tryz.prog 8 #[] w K:=by
 refine c8 ?_
 unfold F8
 refine k29 (n:=64) (by omega) (by omega) (by omega) (by omega) fun t L w1 k1 ht hL hT=>?_
 simp only [SS]
 refine k31 fun l bt Lr w2 k2 hl hbt hLr hne hbl hTV=>?_
 simp only [SS]
 refine new_k (ndC root0 l) fun w3 k3 b3 s3=>?_
 have hT3:=hT.kp (k2.trans k3) id id
 have htL:t≠L:=ne_of_bk hT.hd hT.row fun e=>by injection e with _ e; simp at e
 have t1:=hT.hd.lt
 have L1:=hT.row.lt
 refine k30 (S:=fun _=>(1,none)) (some ⟨w2.heap.size,0,none⟩) hT3 (by decide) (fun e=>by
  have:openS (fun _=>((1:Int),(none:Option (Option Addr)))) 0=false:=freeS_none.1 e 0 (by omega)
  cases this) fun i hi e w4 k4 hT4=>?_
 have hi0:i=0:=by
  obtain ⟨_,_,h3⟩:=freeS_some.1 e
  by_cases h:i=0
  ·exact h
  ·have:=h3 0 (by omega); cases this
 subst hi0
 have er:nameS 1 0 (1:Int)=rootH:=by decide
 simp only [er,SS]
 refine k32 (by decide) fun bk m w5 k5 hbk hm hB=>?_
 simp only [SS]
 refine k33 fun p pt Lp w6 k6 hp hpt hLp hpne hbp hTP=>?_
 simp only [SS]
 refine new_k [Pt t 0,I rootH,Pt bk 0,Pt p 0,I 0,I 0] fun w7 k7 b7 s7=>?_
 have z1:=k1.size
 have z2:=k2.size
 have z4:=k4.size
 have z5:=k5.size
 have z6:=k6.size
 have lL:l≠Lr:=hne
 have btL:bt≠Lr:=ne_of_bk hTV.tab.hd hTV.tab.row fun e=>by injection e with _ e; simp at e
 have ll:=hbl.lt
 have lbt:=hTV.tab.hd.lt
 have lLr:=hTV.tab.row.lt
 have ppt:p≠pt:=ne_of_bk hbp hTP.tab.hd fun e=>by injection e with _ e; simp at e
 have ptL:pt≠Lp:=ne_of_bk hTP.tab.hd hTP.tab.row fun e=>by injection e with _ e; simp at e
 have lp:=hbp.lt
 have lpt:=hTP.tab.hd.lt
 have lLp:=hTP.tab.row.lt
 have lbk:bk<w5.heap.size:=hB.hd.lt
 have lm:m<w5.heap.size:=hB.mp.lt
 have hbm:bk≠m:=fun e=>by
  obtain ⟨es,cl,hm⟩:=hB.mp
  exact ne_of_bk hB.hd hm.hp (fun e=>by cases e) e
 let lab':Nat→Nat:=fun x=>if x<w.heap.size then lab x else if x=w6.heap.size then q+2 else if x=t∨x=bk∨x=l∨x=bt∨x=pt then q+1 else if x=L then q+3 else if x=m then q+4 else if x=p then q+5 else if x=Lp then q+6 else if x=w2.heap.size then q+100 else if x=Lr then q+200 else 0
 have old:∀ x,x<w.heap.size→lab' x=lab x:=fun x hx=>if_pos hx
 have e1:∀ x,w.heap.size≤x→x≠w6.heap.size→(x=t∨x=bk∨x=l∨x=bt∨x=pt)→lab' x=q+1:=fun x h1 h2 h3=>by
  show (if _ then _ else _)=_
  rw [if_neg (by omega),if_neg h2,if_pos h3]
 have val:lab' w6.heap.size=q+2∧lab' L=q+3∧lab' m=q+4∧lab' p=q+5∧lab' Lp=q+6∧lab' w2.heap.size=q+100∧lab' Lr=q+200:=by
  refine ⟨?_,?_,?_,?_,?_,?_,?_⟩
  ·show (if _ then _ else _)=_
   rw [if_neg (by omega),if_pos rfl]
  ·show (if _ then _ else _)=_
   rw [if_neg (by omega),if_neg (by omega),if_neg (by omega),if_pos rfl]
  ·show (if _ then _ else _)=_
   rw [if_neg (by omega),if_neg (by omega),if_neg (by omega),if_neg (by omega),if_pos rfl]
  ·show (if _ then _ else _)=_
   rw [if_neg (by omega),if_neg (by omega),if_neg (by omega),if_neg (by omega),if_neg (by omega),if_pos rfl]
  ·show (if _ then _ else _)=_
   rw [if_neg (by omega),if_neg (by omega),if_neg (by omega),if_neg (by omega),if_neg (by omega),if_neg (by omega),if_pos rfl]
  ·show (if _ then _ else _)=_
   rw [if_neg (by omega),if_neg (by omega),if_neg (by omega),if_neg (by omega),if_neg (by omega),if_neg (by omega),if_neg (by omega),if_pos rfl]
  ·show (if _ then _ else _)=_
   rw [if_neg (by omega),if_neg (by omega),if_neg (by omega),if_neg (by omega),if_neg (by omega),if_neg (by omega),if_neg (by omega),if_neg (by omega),if_pos rfl]
 obtain ⟨v2,v3,v4,v5,v6,v100,v200⟩:=val
 have bd':∀ x,lab' x≠0→x<w7.heap.size:=fun x hx=>by
  by_cases h:x<w.heap.size
  ·omega
  ·have hx:(if x<w.heap.size then lab x else if x=w6.heap.size then q+2 else if x=t∨x=bk∨x=l∨x=bt∨x=pt then q+1 else if x=L then q+3 else if x=m then q+4 else if x=p then q+5 else if x=Lp then q+6 else if x=w2.heap.size then q+100 else if x=Lr then q+200 else 0)≠0:=hx
   rw [if_neg h] at hx
   split at hx
   ·omega
   ·split at hx
    ·omega
    ·split at hx
     ·omega
     ·split at hx
      ·omega
      ·split at hx
       ·omega
       ·split at hx
        ·omega
        ·split at hx
         ·omega
         ·split at hx
          ·omega
          ·exact absurd rfl hx
 have new:∀ x,w.heap.size≤x→lab' x≠0→inK q (lab' x):=fun x h hx=>by
  have e:lab' x=(if x<w.heap.size then lab x else if x=w6.heap.size then q+2 else if x=t∨x=bk∨x=l∨x=bt∨x=pt then q+1 else if x=L then q+3 else if x=m then q+4 else if x=p then q+5 else if x=Lp then q+6 else if x=w2.heap.size then q+100 else if x=Lr then q+200 else 0):=rfl
  rw [e] at hx ⊢
  rw [if_neg (by omega)] at hx ⊢
  unfold inK
  split
  ·omega
  ·split
   ·omega
   ·split
    ·omega
    ·split
     ·omega
     ·split
      ·omega
      ·split
       ·omega
       ·split
        ·omega
        ·split
         ·omega
         ·rename_i a1 a2 a3 a4 a5 a6 a7 a8
          rw [if_neg a1,if_neg a2,if_neg a3,if_neg a4,if_neg a5,if_neg a6,if_neg a7,if_neg a8] at hx
          exact absurd rfl hx
 have k57:Kp No w5 w7:=k6.trans k7
 have k47:Kp No w4 w7:=k5.trans k57
 have nL:∀ {x:Nat},w1.heap.size≤x→¬ x=L:=fun h e=>by omega
 have hT7:=hT4.kp k47 id id
 have b37:Bk w7 w2.heap.size (ndC root0 l) 122:=k47.bk (k4.bk b3 (nL (by omega))) id
 have hbl7:Bk w7 l [Pt bt 0] 208:=k47.bk (k4.bk (k3.bk hbl id) (nL hl)) id
 have hTV7:TTV w7 (·=Lr) (fun x=>x=l∨x=bt) bt Lr emptyS 2 8 emptyS:=⟨((hTV.tab.kp k3 id id).kp k4 (nL hbt) (nL hLr)).kp k47 id id,hTV.fb,hTV.fL,fun j=>⟨rfl,.inl ⟨rfl,rfl⟩⟩⟩
 have hTP7:TTV w7 (·=Lp) (fun x=>x=pt) pt Lp emptyS 3 16 emptyS:=⟨hTP.tab.kp k7 id id,hTP.fb,hTP.fL,fun j=>⟨rfl,.inl ⟨rfl,rfl⟩⟩⟩
 have k07:Kp No w w7:=((((k1.trans k2).trans k3).step k4 fun i hi e=>by omega)).trans k47
 refine hR w6.heap.size w7 lab' k07 (by omega) ⟨k07.no _,old,new⟩ ⟨t,L,bk,m,p,fun _=>w2.heap.size,fun _=>l,?_⟩
 have hnv:nv (fun _=>w2.heap.size) newN=upd1 (fun _=>(1,none)) 0 (1,some (some ⟨w2.heap.size,0,none⟩)):=by
  funext j
  unfold nv newN
  by_cases h:j=0
  ·subst h; rw [upd1_same,upd1_same]; rfl
  ·rw [upd1_ne _ _ h,upd1_ne _ _ h]; rfl
 refine ⟨b7,⟨⟨_,b7⟩,?_,fun i n hn=>?_,newN_ok⟩,hB.kp k57 id id,?_,fun i n hn=>?_,v2,e1 t (by omega) (by omega) (.inl rfl),v3,e1 bk (by omega) (by omega) (.inr (.inl rfl)),v4,v5,fun i n hn=>?_,bd',hq,newK_ok⟩
 ·show Tab w7 199 201 3 64 1 t L fun j=>slotC ptC [.pointer none] (nv (fun _=>w2.heap.size) newN j)
  rw [hnv]; exact hT7
 ·obtain ⟨rfl,rfl⟩:=newN_some hn
  exact ⟨by omega,b37⟩
 ·refine ⟨pt,k7.bk hbp id,by show ¬ lab' p=_; rw [v5]; omega,by show ¬ lab' p=_; rw [v5]; omega,fun x hx=>bd' x (by rcases hx with hx | hx <;> (have hx:lab' x=_:=hx; omega)),TT.mono ⟨Lp,emptyS,hTP7⟩ (fun x hx=>by rw [hx]; exact v6) fun x hx=>?_⟩
  have hx:x=pt:=hx
  exact e1 x (by omega) (by omega) (by omega)
 ·obtain ⟨rfl,rfl⟩:=newN_some hn
  refine ⟨bt,hbl7,e1 l (by omega) (by omega) (by omega),by show ¬ lab' l=_; rw [e1 l (by omega) (by omega) (by omega)]; omega,fun x hx=>bd' x (by rcases hx with hx | hx <;> (have hx:lab' x=_:=hx; omega)),TT.mono ⟨Lr,emptyS,hTV7⟩ (fun x hx=>by rw [hx]; exact v200) fun x hx=>?_⟩
  have hx:x=l∨x=bt:=hx
  exact e1 x (by omega) (by omega) (by omega)
 ·obtain ⟨rfl,rfl⟩:=newN_some hn
  exact v100
end
section
open Sy
def F71 (R:Ko) (x0:Option Addr) (x1:Int) (w:World):Prop:=New (.cells (.agg #[.int .i64 0,.int .i64 0,.int .i64 0,.int .i64 0,.int .i64 0,.bool false,.int .i64 0,.int .i64 0,.int .i64 0,.int .i64 0,.int .i64 0,.int .i64 0,.int .i64 0,.int .i64 0,.int .i64 0,.int .i64 0,.int .i64 0,.int .i64 0,.int .i64 0,.int .i64 0,.int .i64 0,.int .i64 0,.slice none 0 0,.slice none 0 0]:Value).cells 44) w fun x4 w1=>Ct Tryz.prog 130 #[.pointer x0,.int .i64 x1] w1 fun v14 w2=>on2 v14 fun y14_0 y14_1=>onP y14_0 fun x14_0=>Nl y14_1 fun x18=>Ifm (!x18) (Ct Tryz.prog 129 #[.int .i64 8,.int .i64 x1,y14_1] w2 fun v22 w3=>Sa 24 x4 (#[.int .i64 0,.int .i64 0,.int .i64 0,.int .i64 0,.int .i64 0,.bool false,.int .i64 0,.int .i64 0,.int .i64 0,.int .i64 0,.int .i64 0,.int .i64 0,.int .i64 0,.int .i64 0,.int .i64 0,.int .i64 0,.int .i64 0,.int .i64 0,.int .i64 0,.int .i64 0,.int .i64 0,.int .i64 0,.slice none 0 0,.slice none 0 0]) w3 fun w4=>Rd Tryz.prog (Instr.loadAt 44 (.pointer (some x4))) w4 fun r0=>R (.tuple #[r0,v22]) w4) (onSome x0 fun x25=>Lc (x25.add 2) w2 fun v27=>onP v27 fun x27=>Ct Tryz.prog 144 #[.pointer x27,.int .i64 x1] w2 fun v29 w5=>on3 v29 fun y29_0 y29_1 y29_2=>onG y29_0 fun x29_0=>onG y29_1 fun x29_1=>New (.cells (.agg #[.int .i64 0,.int .i64 0,.int .i64 0,.int .i64 0,.int .i64 0,.int .i64 0]:Value).cells 41) w5 fun x8 w6=>New (.cells (.agg #[.int .i64 0,.int .i64 0,.int .i64 0,.int .i64 0,.int .i64 0,.int .i64 0]:Value).cells 41) w6 fun x9 w7=>Sa 6 x8 x29_0 w7 fun w8=>Sa 6 x9 x29_1 w8 fun w9=>onSome x14_0 fun x34=>Lc (x34.add 0) w9.drew fun v36=>onI v36 fun x36=>onSome x14_0 fun x38=>La 2 ((x38.add 1).add 0) w9.drew fun x41=>onSome x14_0 fun x43=>La 2 ((x43.add 1).add 2) w9.drew fun x46=>onSome x14_0 fun x48=>Lc ((x48.add 1).add 4) w9.drew fun v51=>onB v51 fun x51=>onSome x14_0 fun x53=>Lc ((x53.add 1).add 5) w9.drew fun v56=>onI v56 fun x56=>onSome x14_0 fun x58=>Lc ((x58.add 1).add 6) w9.drew fun v61=>onI v61 fun x61=>onSome x14_0 fun x63=>Lc ((x63.add 1).add 7) w9.drew fun v66=>onI v66 fun x66=>onSome x14_0 fun x68=>Lc (x68.add 9) w9.drew fun v70=>onI v70 fun x70=>La 6 x8 w9.drew fun x71=>La 6 x9 w9.drew fun x72=>onSome x14_0 fun x77=>Lc (x77.add 10) w9.drew fun v79=>onP v79 fun x79=>Ct Tryz.prog 145 #[.pointer x0,.int .i64 x1] w9.drew fun v75 w10=>onL v75 fun a75 l75 c75=>Hc (x77.add 10) (.pointer x79) w10∧Ha 6 x9 x72 w10∧Ha 6 x8 x71 w10∧Hc (x68.add 9) (.int .i64 x70) w10∧Hc ((x63.add 1).add 7) (.int .i64 x66) w10∧Hc ((x58.add 1).add 6) (.int .i64 x61) w10∧Hc ((x53.add 1).add 5) (.int .i64 x56) w10∧Hc ((x48.add 1).add 4) (.bool x51) w10∧Ha 2 ((x43.add 1).add 2) x46 w10∧Ha 2 ((x38.add 1).add 0) x41 w10∧Hc (x34.add 0) (.int .i64 x36) w10∧Ct Tryz.prog 146 #[.pointer x79] w10 fun v80 w11=>onL v80 fun a80 l80 c80=>Ha 6 x9 x72 w11∧Ha 6 x8 x71 w11∧Hc (x68.add 9) (.int .i64 x70) w11∧Hc ((x63.add 1).add 7) (.int .i64 x66) w11∧Hc ((x58.add 1).add 6) (.int .i64 x61) w11∧Hc ((x53.add 1).add 5) (.int .i64 x56) w11∧Hc ((x48.add 1).add 4) (.bool x51) w11∧Ha 2 ((x43.add 1).add 2) x46 w11∧Ha 2 ((x38.add 1).add 0) x41 w11∧Hc (x34.add 0) (.int .i64 x36) w11∧Rd Tryz.prog (Instr.build 44 #[(0,.int .i64 x36),(1,.agg x41),(2,.agg x46),(3,.bool x51),(4,.int .i64 x56),(5,.int .i64 x61),(6,.int .i64 x66),(7,.int .i64 x70),(8,.agg x71),(9,.agg x72),(10,.slice a75 l75 c75),(11,.slice a80 l80 c80)]) w11 fun v81=>onG v81 fun x81=>Sa 24 x4 x81 w11 fun w12=>Rd Tryz.prog (Instr.loadAt 44 (.pointer (some x4))) w12 fun r0=>R (.tuple #[r0,.nilIface]) w12)
noncomputable def b71:Code:=Tryz.f71.body.getD .skip
theorem c71 {R:Ko} {x0:Option Addr} {x1:Int} {w:World} (h:F71 R x0 x1 w):Ct Tryz.prog 71 #[.pointer x0,.int .i64 x1] w R :=
 ctS (args:=[.pointer x0,.int .i64 x1]) (body:=b71) (n:=82) (rs:=[.cell 4 44,.tmp 5]) Tryz.func71
  (sg (cuts:=[]) trivial h)
variable {K:Ko} {w w':World}
def toldN (n:Nd) (e:En) (k t:Value):List Value:=I n.par :: (n.bg.cells++(I n.clk :: (e.acc.cells++(e.clo.cells++[k,t]))))
def zN:List Value:=toldN ⟨0,zB,0,emptyS⟩ zE (.slice none 0 0) (.slice none 0 0)
theorem ld44:loadKind Tryz.prog 44=some (some 24):=by kernel_rfl
theorem toldN_one (n:Nd) (e:En) (a b:Option Addr) (c d x y:Nat):∀ v∈toldN n e (.slice a c d) (.slice b x y),oneCell v=true:=by simp [toldN,Bg.cells,Ac.cells,oneCell]
theorem bld44 (p q1 q2 q3 q4:Int) (dy:Bool) (l s e c a1 a2 a3 a4 a5 a6 b1 b2 b3 b4 b5 b6:Int) (x y:Option Addr) (m1 m2 m3 m4:Nat) (w:World) (k:Value→Prop) :
  Rd Tryz.prog (Instr.build 44 #[(0,I p),(1,.agg #[I q1,I q2]),(2,.agg #[I q3,I q4]),(3,.bool dy),(4,I l),(5,I s),(6,I e),(7,I c),(8,.agg #[I a1,I a2,I a3,I a4,I a5,I a6]),(9,.agg #[I b1,I b2,I b3,I b4,I b5,I b6]),(10,.slice x m1 m2),(11,.slice y m3 m4)]) w k
   = k (.agg #[I p,I q1,I q2,I q3,I q4,.bool dy,I l,I s,I e,I c,I a1,I a2,I a3,I a4,I a5,I a6,I b1,I b2,I b3,I b4,I b5,I b6,.slice x m1 m2,.slice y m3 m4]) :=
 build_f (vals:=[(0,I p),(1,.agg #[I q1,I q2]),(2,.agg #[I q3,I q4]),(3,.bool dy),(4,I l),(5,I s),(6,I e),(7,I c),(8,.agg #[I a1,I a2,I a3,I a4,I a5,I a6]),(9,.agg #[I b1,I b2,I b3,I b4,I b5,I b6]),(10,.slice x m1 m2),(11,.slice y m3 m4)]) (by kernel_rfl) (by kernel_rfl) w k
theorem k71 {lab:Nat→Nat} {q k:Nat} {Kk:Kn} {h:Int} (hK:KR w lab q k Kk) (hR:match getN Kk.n h with
  | none=>∀ v w',Kp No w w'→Flt w' v 20→K (.tuple #[.agg zN.toArray,v]) w'
  | some (_,n)=>∀ ka kl kc ta tl tc w',Kp No w w'→w'.ownsRow w.heap.size 33 1 (.slice ka kl kc) (kidsN Kk.n h).length ((kidsN Kk.n h).map I)→w'.ownsRow w.heap.size 33 1 (.slice ta tl tc) (allS n.leaf 2 8).length ((allS n.leaf 2 8).map I) →
   K (.tuple #[.agg (toldN n ((Kk.g h).getD zE) (.slice ka kl kc) (.slice ta tl tc)).toArray,.nilIface]) w'):Ct Tryz.prog 71 #[Pt k 0,I h] w K:=by
 refine c71 ?_
 unfold F71
 refine new_k zN fun w1 k1 b1 s1=>?_
 obtain ⟨t,L,bk,m,p,nb,lf,hv0⟩:=id hK
 have hv1:=hv0.kp k1 fun _ _=>id
 refine k130 hv1.nt ?_
 cases e:getN Kk.n h with
 | none =>
  rw [e] at hR
  intro d
  simp only [SS]
  refine k129 (by omega) fun v w3 k3 hf=>?_
  have k3':=k3.drL
  have b3:=k3'.bk b1 id
  refine res_k (c:=zN) (cs:=zN) (k:=fun r0 w5=>K (.tuple #[r0,v]) w5) ld44 b3 rfl rfl (by simp [zN,toldN,zB,zE,zA,Bg.cells,Ac.cells,oneCell]) fun w5 k5=>?_
  refine hR v w5 ((k1.trans k3').own k5 (Nat.le_refl _)) ?_
  rcases hf with ⟨h1,h2⟩ | ⟨h1,f,op,a,h3,h4⟩
  ·exact .inl ⟨h1,h2⟩
  ·exact .inr ⟨h1,f,op,a,h3,k5.bk h4 (ne_of_bk h4 b3 (fun e=>by injection e with _ e; simp at e))⟩
 | some r =>
  obtain ⟨i,n⟩:=r
  rw [e] at hR
  intro d
  have hn:=(getN_some e).2
  have hv2:=hv1.kp (Kp.dr No w1 d) fun _ _=>id
  simp only [SS,Nat.reduceAdd,hv1.kh.rd (o:=2) (v:=Pt bk 0) rfl]
  refine k144 hv2.book fun w5 x5 k5=>?_
  simp only [SS]
  obtain ⟨ac,hac⟩:∃ y,y=((Kk.g h).getD zE).acc:=⟨_,rfl⟩
  obtain ⟨cl,hcl⟩:∃ y,y=((Kk.g h).getD zE).clo:=⟨_,rfl⟩
  rw [← hac,← hcl]
  refine new_k zA.cells fun w6 k6 b6 s6=>?_
  refine new_k zA.cells fun w7 k7 b7 s7=>?_
  refine sa_k (cs:=ac.cells) (k7.bk b6 id) rfl (by decide) (by simp [Ac.cells,oneCell]) fun w8 k8 b8 s8=>?_
  rw [over_all _ _ (by rfl)] at b8
  refine sa_k (cs:=cl.cells) (k8.bk b7 (by omega)) rfl (by decide) (by simp [Ac.cells,oneCell]) fun w9 k9 b9 s9=>?_
  rw [over_all _ _ (by rfl)] at b9
  have b8':Bk w9 w5.heap.size ac.cells 41:=k9.bk b8 (by omega)
  have k17:Kp No w1 w9:=((((k5.drL.trans k6).trans k7).own k8 (by have:=k5.size; simp only [dr_heap] at this; omega)).own k9 (by have:=k5.size; simp only [dr_heap] at this; omega))
  have hv9:=hv1.kp k17 fun _ _=>id
  have hnb:=(hv9.nt.nd i n hn).2
  have la2:∀ {w':World},Bk w' (nb i) (ndC n (lf i)) 122→∀ k,La 2 ⟨nb i,1,none⟩ w' k=k #[I n.bg.nq,I n.bg.np]:=fun hb k=>by rw [hb.la (by simp [ndC,Bg.cells])]; rfl
  have la3:∀ {w':World},Bk w' (nb i) (ndC n (lf i)) 122→∀ k,La 2 ⟨nb i,3,none⟩ w' k=k #[I n.bg.xq,I n.bg.xp]:=fun hb k=>by rw [hb.la (by simp [ndC,Bg.cells])]; rfl
  simp only [SS,Nat.reduceAdd,hnb.rd (o:=0) (v:=I n.par) rfl,la2 hnb,la3 hnb,hnb.rd (o:=5) (v:=.bool n.bg.dy) rfl,hnb.rd (o:=6) (v:=I n.bg.left) rfl,hnb.rd (o:=7) (v:=I n.bg.st) rfl,hnb.rd (o:=8) (v:=I n.bg.en) rfl,hnb.rd (o:=9) (v:=I n.clk) rfl,hnb.rd (o:=10) (v:=Pt (lf i) 0) rfl,
   b8'.la0 (n:=6) rfl,b9.la0 (n:=6) rfl]
  have hv9d:=hv9.kp (Kp.dr No w9 (w9.drawn+1)) fun _ _=>id
  refine k145 hv9d.nt fun ka kl kc w10 k10 ho10=>?_
  have k10':=k10.drL
  have hv10:=hv9.kp k10' fun _ _=>id
  have hnb10:=(hv10.nt.nd i n hn).2
  have ha2:∀ {w':World},Bk w' (nb i) (ndC n (lf i)) 122→Ha 2 ⟨nb i,1,none⟩ #[I n.bg.nq,I n.bg.np] w'=True:=fun hb=>hb.ha (by simp [ndC,Bg.cells]) rfl
  have ha3:∀ {w':World},Bk w' (nb i) (ndC n (lf i)) 122→Ha 2 ⟨nb i,3,none⟩ #[I n.bg.xq,I n.bg.xp] w'=True:=fun hb=>hb.ha (by simp [ndC,Bg.cells]) rfl
  have b810:Bk w10 w5.heap.size ac.cells 41:=k10'.bk b8' id
  have b910:Bk w10 w6.heap.size cl.cells 41:=k10'.bk b9 id
  have hcs:∀ {w':World},Bk w' (nb i) (ndC n (lf i)) 122→Bk w' w5.heap.size ac.cells 41→Bk w' w6.heap.size cl.cells 41 →
    (Ha 6 ⟨w6.heap.size,0,none⟩ cl.cells.toArray w'=True∧Ha 6 ⟨w5.heap.size,0,none⟩ ac.cells.toArray w'=True∧Hc ⟨nb i,9,none⟩ (I n.clk) w'=True∧Hc ⟨nb i,8,none⟩ (I n.bg.en) w'=True∧Hc ⟨nb i,7,none⟩ (I n.bg.st) w'=True∧Hc ⟨nb i,6,none⟩ (I n.bg.left) w'=True∧Hc ⟨nb i,5,none⟩ (.bool n.bg.dy) w'=True∧Hc ⟨nb i,0,none⟩ (I n.par) w'=True∧Hc ⟨nb i,10,none⟩ (Pt (lf i) 0) w'=True) :=
   fun h1 h2 h3=>⟨h3.ha0 rfl,h2.ha0 rfl,h1.hc rfl,h1.hc rfl,h1.hc rfl,h1.hc rfl,h1.hc rfl,h1.hc rfl,h1.hc rfl⟩
  obtain ⟨x1,x2,x3,x4,x5',x6,x7,x8,x9⟩:=hcs hnb10 b810 b910
  simp only [SS,Nat.reduceAdd,x1,x2,x3,x4,x5',x6,x7,x8,x9,ha2 hnb10,ha3 hnb10]
  refine k146 (hv10.leaf i n hn) fun ta tl tc w11 k11 ho11=>?_
  have hv11:=hv10.kp k11 fun _ _=>id
  have hnb11:=(hv11.nt.nd i n hn).2
  obtain ⟨x1,x2,x3,x4,x5',x6,x7,x8,x9⟩:=hcs hnb11 (k11.bk b810 id) (k11.bk b910 id)
  simp only [SS,Nat.reduceAdd,x1,x2,x3,x4,x5',x6,x7,x8,x9,ha2 hnb11,ha3 hnb11]
  have hb44:=bld44 n.par n.bg.nq n.bg.np n.bg.xq n.bg.xp n.bg.dy n.bg.left n.bg.st n.bg.en n.clk ac.g ac.o ac.l ac.d ac.c ac.t cl.g cl.o cl.l cl.d cl.c cl.t ka ta kl kc tl tc w11
  simp only [Ac.cells,hb44,onG_eq]
  have b11:Bk w11 w.heap.size zN 44:=k11.bk (k10'.bk (k17.bk b1 id) id) id
  refine res_k (c:=zN) (cs:=toldN n ⟨0,ac,cl⟩ (.slice ka kl kc) (.slice ta tl tc)) (k:=fun r0 w5=>K (.tuple #[r0,.nilIface]) w5) ld44 b11 rfl rfl (toldN_one _ _ _ _ _ _ _ _) fun w12 k12=>?_
  have hsz:w.heap.size≤w9.heap.size:=Nat.le_trans k1.size k17.size
  have s10:=k10'.size
  have kfin:Kp No w w12:=(((k1.trans k17).trans k10').trans k11).own k12 (Nat.le_refl _)
  have hsz1:=s1
  have hh:=hR ka kl kc ta tl tc w12 kfin (own_base (own_kp (own_kp ho10 k11 fun _ _=>id) k12 fun b hb e=>by have:=(own_lt ho10 hb).1; simp only [dr_heap] at this; have:=k17.size; omega) (by simp only [dr_heap]; omega))
   (own_base (own_kp ho11 k12 fun b hb e=>by have:=(own_lt ho11 hb).1; have:=k17.size; omega) (by omega))
  have e1:toldN n ((Kk.g h).getD zE) (.slice ka kl kc) (.slice ta tl tc)=toldN n ⟨0,ac,cl⟩ (.slice ka kl kc) (.slice ta tl tc):=by rw [hac,hcl]; rfl
  rw [e1] at hh
  exact hh
end
end Go.Proofs.YtbgbidpecmepmaaGreatDoor
