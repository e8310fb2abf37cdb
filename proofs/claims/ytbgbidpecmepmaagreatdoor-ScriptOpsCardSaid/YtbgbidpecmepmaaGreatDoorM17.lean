/-
  A table's copy; a slot taken in it; The kernel's operations: a node made; What the kinds of operations do; What the kinds of operations do: one by one.
-/
import Derived.Test.YtbgbidpecmepmaaGreatDoorM16
import Derived.Test.YtbgbidpecmepmaaGreatDoorM14
import Derived.Test.YtbgbidpecmepmaaGreatDoorM13
set_option maxRecDepth 100000
namespace Go.Proofs.YtbgbidpecmepmaaGreatDoor
section
open Sy
def F300 (R:Ko) (a0:Option Addr) (l0 c0:Nat) (w:World):Prop:=Rd Tryz.prog (Bin .eql 197 (.tmp 3) (.const (.slice none 0 0)) (.slice a0 l0 c0) (.slice none 0 0)) w fun v4=>onB v4 fun x4=>Ifm x4 (R (.slice none 0 0) w) (Rv Tryz.prog (Instr.buildSlice 197 0 #[]) w fun v5 w1=>onL v5 fun a5 l5 c5=>Rv Tryz.prog (Builtin.append_ #[197,197] 197 #[.slice a5 l5 c5,.slice a0 l0 c0]) w1 fun v7 w2=>onL v7 fun a7 l7 c7=>R (.slice a7 l7 c7) w2)
noncomputable def b300:Code:=Tryz.f300.body.getD .skip
theorem c300 {R:Ko} {a0:Option Addr} {l0 c0:Nat} {w:World} (h:F300 R a0 l0 c0 w):Ct Tryz.prog 300 #[.slice a0 l0 c0] w R :=
 ctS (args:=[.slice a0 l0 c0]) (body:=b300) (n:=8) (rs:=[.tmp 2]) Tryz.func300
  (sg (cuts:=[]) trivial h)
def F203 (R:Ko) (x0:Option Addr) (w:World):Prop:=Ifm x0.isNone (R (.pointer none) w) (onSome x0 fun x6=>Lc (x6.add 0) w.drew fun v8=>onI v8 fun x8=>onSome x0 fun x10=>Lc (x10.add 1) w.drew fun v12=>onL v12 fun a12 l12 c12=>Ct Tryz.prog 300 #[.slice a12 l12 c12] w.drew fun v13 w1=>onL v13 fun a13 l13 c13=>Hc (x6.add 0) (.int .i64 x8) w1∧New (.cells (.agg #[.int .i64 x8,.slice a13 l13 c13]:Value).cells 199) w1 fun x15 w2=>R (.pointer (some x15)) w2)
noncomputable def b203:Code:=Tryz.f203.body.getD .skip
theorem c203 {R:Ko} {x0:Option Addr} {w:World} (h:F203 R x0 w):Ct Tryz.prog 203 #[.pointer x0] w R :=
 ctS (args:=[.pointer x0]) (body:=b203) (n:=16) (rs:=[.tmp 2]) Tryz.func203
  (sg (cuts:=[]) trivial h)
variable {K:Ko} {w w':World}
theorem eql_nil {x y:Operand} {a:Addr} {l c:Nat} (w:World) (k:Value→Prop):Rd Tryz.prog (Bin .eql 197 x y (.slice (some a) l c) (.slice none 0 0)) w k=k (.bool false):=by
 have ht:Tryz.prog.underlying 197=some (.slice 201):=by kernel_rfl
 refine Rd_ok ?_ k
 have h1:(Op.equal 197 (.slice (some a) l c) (.slice none 0 0)).run Tryz.prog w=.ok false w:=by
  have hd:∀ d,(Op.equalIn (d+1) 197 (.slice (some a) l c) (.slice none 0 0)).run Tryz.prog w=.ok false w:=fun d=>by simp [Op.equalIn,Sem.run_bind,run_underlying' ht]
  exact hd 9999
 simp [Bin,eqGuard,binOp,Sem.run_bind,h1]
theorem e201:∃ i z,Elem Tryz.prog 197 201 3 i z:=elemB_of (by kernel_rfl)
theorem bs0 {P:Program} {t e sz:Nat} {i:TypeInfo} {z:Value} (E:Elem P t e sz i z) {w:World} (k:Ko):Rv P (Instr.buildSlice t 0 #[]) w k=k (.slice (some ⟨w.heap.size,0,none⟩) 0 0) (w.alloc (.cells #[] e)):=by
 refine Rv_ok ?_ k
 simp [Instr.buildSlice,run_underlying' E.ht,sizeOf,typeInfo,Sem.run,E.hi,Sem.run_bind,Instr.fill,newRow,Result.andThen]
 have e0:Array.range 0=#[]:=by simp
 rw [e0,Array.map_empty]
theorem own_nil0 {w:World} {B g e sz:Nat} (h:Bk w g [] e) (hB:B≤g):w.ownsRow B e sz (.slice (some ⟨g,0,none⟩) 0 0) 0 []:=⟨by simp,.inr ⟨g,0,#[],rfl,hB,h,by simp,by simp [maxLen],by simp,by simp⟩⟩
theorem k300 {L n:Nat} {f:Nat→List Value} (hb:Bk w L (Flat f n) 201) (hl:∀ i,(f i).length=3) (hn:0<n) (hn2:n≤4096) (h1:∀ i,∀ u∈f i,u.oneCell'=true)
  (h:∀ g c w',Kp No w w'→w'.ownsRow w.heap.size 201 3 (.slice (some ⟨g,0,none⟩) n c) n (Flat f n)→K (.slice (some ⟨g,0,none⟩) n c) w'):Ct Tryz.prog 300 #[.slice (some ⟨L,0,none⟩) n n] w K:=by
 refine c300 ?_
 unfold F300
 obtain ⟨i,z,E⟩:=e201
 rw [eql_nil]
 simp only [SS]
 rw [bs0 E]
 simp only [SS]
 obtain ⟨w1,hw1⟩:∃ x,x=w.alloc (.cells #[] 201):=⟨_,rfl⟩
 have k1:Kp No w w1:=by rw [hw1]; exact Kp.alloc _ _ _
 have b1:Bk w1 w.heap.size [] 201:=by rw [hw1]; exact bk_alloc w [] 201
 rw [← hw1]
 have hbb:=E.hb
 have hL:=k1.bk hb id
 have hflen:(Flat f n).length=n*3:=Flat_length hl
 obtain ⟨v',w2,hr,ho,hg,hnil⟩:=run_append_own (P:=Tryz.prog) w1 w.heap.size 197 197 201 i z 3 i.bytes E.ht E.hi E.hz E.hs rfl E.hzs E.h0 (.slice (some ⟨w.heap.size,0,none⟩) 0 0) 0 [] (own_nil0 b1 (Nat.le_refl _)) ⟨L,0,none⟩ n n (Flat f n) (by rw [hflen])
  (fun j u hj=>by rw [add_eq,Bk.cell hL,Nat.zero_add]; exact hj) (fun u hu=>by
   unfold Flat at hu
   obtain ⟨a,_,hu⟩:=List.mem_flatMap.1 hu
   exact h1 a u hu) (by simp only [maxLen]; omega) (by
   have:(0+n)*i.bytes≤4096*65536:=Nat.mul_le_mul (by omega) hbb
   omega) (by have:=k1.size; omega)
 rw [Rv_ok hr]
 rw [Nat.zero_add,List.nil_append] at ho
 have kk:Kp No w w2:=k1.step (Kp.grown hg (S:=(·=w.heap.size)) (by intro k hk; injection hk with hk; exact hk.symm)) fun i hi e=>by omega
 rcases ho.2 with ⟨rfl,h0⟩ | ⟨g,cap,cur,rfl,rest⟩
 ·omega
 ·simp only [onL_eq]
  exact h g cap w2 kk ho
structure TC (w:World) (B b g n c:Nat) (kind:Int) (f:Nat→List Value):Prop where
 hd:Bk w b [I kind,.slice (some ⟨g,0,none⟩) n c] 199
 row:∃ tail,Bk w g (Flat f n++tail) 201
 len:∀ i,(f i).length=3
 new:B≤g
theorem k203 {b L n:Nat} {kind:Int} {f:Nat→List Value} (hT:Tab w 199 201 3 n kind b L f) (hn:0<n) (hn2:n≤4096) (h1:∀ i,∀ u∈f i,u.oneCell'=true) (h:∀ b' g c w',Kp No w w'→TC w' w.heap.size b' g n c kind f→K (Pt b' 0) w'):Ct Tryz.prog 203 #[Pt b 0] w K:=by
 refine c203 ?_
 unfold F203
 have r0:=hT.hd.rd (o:=0) (v:=I kind) rfl
 have r1:=hT.hd.rd (o:=1) (v:=.slice (some ⟨L,0,none⟩) n n) rfl
 simp only [SS,r0,r1]
 have hT1:=hT.dr (w.drawn+1)
 refine k300 hT1.row hT.len hn hn2 h1 fun g c w1 k1 ho=>?_
 have k1':=k1.drL
 have hd1:Bk w1 b [I kind,.slice (some ⟨L,0,none⟩) n n] 199:=k1'.bk hT.hd id
 have q0:=hd1.hc (o:=0) (v:=I kind) rfl
 simp only [SS,q0]
 refine new_k [I kind,.slice (some ⟨g,0,none⟩) n c] fun w2 k2 b2 s2=>?_
 have ho2:=own_kp ho k2 fun _ _=>id
 refine h _ g c w2 (k1'.trans k2) ⟨b2,?_,hT.len,?_⟩
 ·rcases own_bk ho2 with ⟨h0,_⟩ | ⟨g',cur,hg,_,hB,hbk,hnc,hcl,htk⟩
  ·cases h0
  ·injection hg with hg
   injection hg with hg
   subst hg
   refine ⟨cur.drop (n*3),?_⟩
   rw [← htk,List.take_append_drop]
   exact hbk
 ·exact (own_lt ho rfl).1
section
variable {B b g n c:Nat} {kind:Int} {S:Slots (Option Addr)}
theorem TC.rd {f:Nat→List Value} (h:TC w B b g n c kind f) {i j:Nat} (hi:i<n) (hj:j<3) {v:Value} (hv:(f i)[j]?=some v) (k:Value→Prop):Lc ⟨g,i*3+j,none⟩ w k=k v:=by
 obtain ⟨tail,hr⟩:=h.row
 exact hr.rd (by rw [List.getElem?_append_left (by rw [Flat_length h.len]; exact lt_mul_of hi hj),Flat_get h.len hi hj,hv]) k
theorem TC.kp {f:Nat→List Value} (h:TC w B b g n c kind f) (k:Kp No w w'):TC w' B b g n c kind f:=by
 obtain ⟨tail,hr⟩:=h.row
 exact ⟨k.bk h.hd id,⟨tail,k.bk hr id⟩,h.len,h.new⟩
theorem k30c (hT:TC w B b g n c kind (fun i=>slotC ptC [.pointer none] (S i))) (hn:n≤4096)
  (h0:freeS S n=none→∀ w',Kp No w w'→K (.tuple #[I 0,Er 30]) w')
  (h1:∀ i,i<n→freeS S n=some i→∀ w',Kp (·=g) w w'→K (.tuple #[I (nameS kind i (S i).1),.nilIface]) w'):Ct Tryz.prog 30 #[Pt b 0,.pointer none] w K:=by
 refine c30 ?_
 unfold F30
 have r1:=hT.hd.rd (o:=1) (v:=.slice (some ⟨g,0,none⟩) n c) rfl
 simp only [SS,r1]
 unfold F30_0
 refine ⟨fun y0 y1 x15 x16 w'=>y0=some ⟨b,0,none⟩∧none=y1∧x15=n∧w=w'∧∃ i:Nat,x16=i∧i≤n∧∀ k,k<i→openS S k=false,fun _ _ _ x16 _=>n - x16.toNat,⟨rfl,rfl,rfl,rfl,0,rfl,Nat.zero_le _,fun k hk=>absurd hk (Nat.not_lt_zero k)⟩,?_⟩
 rintro _ _ _ _ _ ⟨rfl,rfl,rfl,rfl,i,rfl,hi,hk⟩
 unfold F30_0B
 simp only [SS,r1]
 by_cases e1:i<n
 case neg =>
  rw [if_neg (by omega)]
  exact h0 (freeS_none.2 fun k hkn=>hk k (by omega)) _ (Kp.refl _ _)
 rw [if_pos (by omega)]
 have t0:=hT.rd (j:=0) e1 (by decide) (v:=I (S i).1) rfl
 have t1:=hT.rd (j:=1) e1 (by decide) (v:=.bool (S i).2.isSome) rfl
 simp only [Nat.add_zero] at t0
 have next:openS S i=false→(∃ j:Nat,IntKind.i64.wrap ((i:Int)+1)=j∧j≤n∧∀ k,k<j→openS S k=false)∧n - (IntKind.i64.wrap ((i:Int)+1)).toNat<n - (i:Int).toNat:=by
  intro ho
  have hw:IntKind.i64.wrap ((i:Int)+1)=((i+1:Nat):Int):=by rw [IntKind.wrap_i64]; omega
  rw [hw]
  refine ⟨⟨i+1,rfl,by omega,fun k hk'=>?_⟩,by omega⟩
  rcases Nat.lt_or_ge k i with h | h
  ·exact hk k h
  ·have:k=i:=by omega
   subst this; exact ho
 simp only [SS,Ix_c e1,t0,t1]
 cases e2:(S i).2.isSome with
 | true=>simp only [SS]; have:=next (by simp [openS,e2]); exact ⟨this.1,this.2⟩
 | false =>
  simp only [SS]
  by_cases e3:(S i).1≤1023
  case neg=>rw [if_neg e3]; have:=next (by simp [openS,e3]); exact ⟨this.1,this.2⟩
  rw [if_pos e3]
  obtain ⟨tail,hr⟩:=id hT.row
  have hlen:i*3+2<(Flat (fun i=>slotC ptC [.pointer none] (S i)) n++tail).length:=by
   rw [List.length_append,Flat_length hT.len]; have:=lt_mul_of e1 (show 2<3 by decide); omega
  have hgb:b≠g:=ne_of_bk hT.hd hr fun x=>by injection x with _ x; simp at x
  refine sc_k hr (by omega) rfl fun w1 k1 b1 s1=>?_
  refine sc_k b1 (by simpa using hlen) rfl fun w2 k2 b2 s2=>?_
  have k12:=k1.trans k2
  refine c80 ?_
  unfold F80
  have hd2:Bk w2 b [I kind,.slice (some ⟨g,0,none⟩) n c] 199:=k12.bk hT.hd hgb
  have r0':=hd2.rd (o:=0) (v:=I kind) rfl
  have r1':=hd2.rd (o:=1) (v:=.slice (some ⟨g,0,none⟩) n c) rfl
  have t0':=b2.rd (o:=i*3) (v:=I (S i).1) (by
   have hg:=Flat_get (f:=fun i=>slotC ptC [.pointer none] (S i)) hT.len e1 (show 0<3 by decide)
   rw [List.getElem?_set_ne (by omega),List.getElem?_set_ne (by omega),List.getElem?_append_left (by rw [Flat_length hT.len]; have:=lt_mul_of e1 (show 0<3 by decide); omega)]
   simpa [slotC] using hg)
  simp only [SS,r0',r1',Ix_c e1,t0']
  refine k163 ?_
  have hf:freeS S n=some i:=freeS_some.2 ⟨e1,by simp [openS,e2,e3],fun k hk'=>hk k hk'⟩
  have hh:=h1 i e1 hf
  unfold nameS at hh
  cases e:okH kind i (S i).1 with
  | true=>rw [if_pos rfl]; simp only [SS]; rw [e,if_pos rfl] at hh; exact hh _ (k12.drR _)
  | false=>rw [if_neg (by simp)]; simp only [SS]; rw [e,if_neg (by simp)] at hh; exact hh _ (k12.drR _)
end
end
section
open Sy
def F128_0 (R:Ko) (x0:Option Addr) (x1:Int) (x10:Int) (x13:Addr) (w:World):Prop:=onSome x0 fun x79=>Lc (x79.add 0) w.drew fun v81=>onP v81 fun x81=>La 8 x13 w.drew fun x83=>Ct Tryz.prog 31 #[] w.drew fun v84 w16=>onP v84 fun x84=>Ha 8 x13 x83 w16∧Hc (x79.add 0) (.pointer x81) w16∧Rd Tryz.prog (Instr.build 122 #[(0,.int .i64 x1),(1,.agg x83),(3,.pointer x84)]) w16 fun v85=>onG v85 fun x85=>New (.cells (.agg x85:Value).cells 122) w16 fun x86 w17=>Hc (x79.add 0) (.pointer x81) w17∧Ct Tryz.prog 30 #[.pointer x81,.pointer (some x86)] w17 fun v87 w18=>on2 v87 fun y87_0 y87_1=>onI y87_0 fun x87_0=>onSome x0 fun x90=>Lc (x90.add 2) w18 fun v92=>onP v92 fun x92=>Ct Tryz.prog 207 #[.pointer x92,.int .i64 x10,.int .i64 x1] w18 fun v95 w19=>R (.tuple #[.int .i64 x10,v95]) w19
def F128 (R:Ko) (x0:Option Addr) (x1:Int) (x2:Array Value) (w:World):Prop:=New (.cells (.agg x2:Value).cells 35) w fun x5 w1=>Ct Tryz.prog 130 #[.pointer x0,.int .i64 x1] w1 fun v17 w2=>on2 v17 fun y17_0 y17_1=>onP y17_0 fun x17_0=>Nl y17_1 fun x22=>Ifm (!x22) (R (.tuple #[.int .i64 0,y17_1]) w2) (Ct Tryz.prog 200 #[.pointer x0,.int .i64 x1] w2 fun v27 w3=>onB v27 fun x27=>Ifm x27 (R (.tuple #[.int .i64 0,.iface 129 (.int .i64 92)]) w3) (La 2 x5 w3 fun x30=>Ct Tryz.prog 201 #[.agg x30] w3 fun v31 w4=>Nl v31 fun x32=>Ifm (!x32) (R (.tuple #[.int .i64 0,.iface 129 (.int .i64 2)]) w4) (Ct Tryz.prog 202 #[.pointer x0,.int .i64 x1] w4 fun v37 w5=>onL v37 fun a37 l37 c37=>Ifm (decide (((l37:Nat):Int) > 8)) (R (.tuple #[.int .i64 0,.iface 129 (.int .i64 90)]) w5) (onSome x0 fun x43=>Lc (x43.add 0) w5 fun v45=>onP v45 fun x45=>Ct Tryz.prog 203 #[.pointer x45] w5 fun v46 w6=>onP v46 fun x46=>Ct Tryz.prog 30 #[.pointer x46,.pointer none] w6 fun v47 w7=>on2 v47 fun y47_0 y47_1=>onI y47_0 fun x47_0=>Nl y47_1 fun x51=>Ifm (!x51) (R (.tuple #[.int .i64 0,y47_1]) w7) (La 2 x5 w7 fun x54=>Ct Tryz.prog 204 #[.agg x54] w7 fun v55 w8=>on2 v55 fun y55_0 y55_1=>onI y55_0 fun x55_0=>Ct Tryz.prog 205 #[.pointer x0,.int .i64 x1,.int .i64 0,.agg #[.int .i64 0,.int .i64 0,.int .i64 0,.int .i64 0,.bool false,.int .i64 0,.int .i64 0,.int .i64 0]] w8 fun v61 w9=>onI v61 fun x61=>Ifm (decide ((IntKind.i64.wrap (x61+x55_0):Int) > 1048576)) (R (.tuple #[.int .i64 0,.iface 129 (.int .i64 80)]) w9) (La 2 x5 w9.drew fun x67=>onSome x17_0 fun x69=>Lc (x69.add 9) w9.drew fun v71=>onI v71 fun x71=>(Ct Tryz.prog 206 #[.agg x67,.int .i64 x71] w9.drew fun v72 w10=>on2 v72 fun y72_0 y72_1=>onG y72_0 fun x72_0=>New (.cells (.agg #[.int .i64 0,.int .i64 0,.int .i64 0,.int .i64 0,.bool false,.int .i64 0,.int .i64 0,.int .i64 0]:Value).cells 120) w10 fun x13 w11=>Sa 8 x13 x72_0 w11 fun w12=>Nl y72_1 fun x76=>Ifm (!x76) (R (.tuple #[.int .i64 0,y72_1]) w12) (F128_0 R x0 x1 x47_0 x13 w12))∧(New (.cells (.agg #[.int .i64 0,.int .i64 0,.int .i64 0,.int .i64 0,.bool false,.int .i64 0,.int .i64 0,.int .i64 0]:Value).cells 120) w9.drew fun x13 w13=>Hc (x69.add 9) (.int .i64 x71) w13∧Ha 2 x5 x67 w13∧Ct Tryz.prog 206 #[.agg x67,.int .i64 x71] w13 fun v72 w14=>on2 v72 fun y72_0 y72_1=>onG y72_0 fun x72_0=>Sa 8 x13 x72_0 w14 fun w15=>Nl y72_1 fun x76=>Ifm (!x76) (R (.tuple #[.int .i64 0,y72_1]) w15) (F128_0 R x0 x1 x47_0 x13 w15))))))))
noncomputable def b128:Code:=Tryz.f128.body.getD .skip
def q128_0:List Bool:=[false,true,true,true,true,true,true,true,true]
def L128_0 (F:Option Addr→Int→Int→Addr→World→Prop):Env→World→Prop:=fun ρ w=>onP (ρ 0) fun x0=>onI (ρ 1) fun x1=>onI (ρ 10) fun x10=>onA (ρ 13) fun x13=>F x0 x1 x10 x13 w
abbrev T128 (z:Fr) (R:Ko) (p:List Bool) (ρ:Env) (w:World):Prop:=TW z Tryz.prog 96 (segTodo b128 p) (QR Tryz.prog [.tmp 6,.tmp 7] R) ρ w
theorem s128_0 (R:Ko):∀ ρ w,(L128_0 (F128_0 R)) ρ w→T128 z0 R q128_0 ρ w:=by
 intro ρ w h
 obtain ⟨x0,e0,h⟩:=onP_of h
 obtain ⟨x1,e1,h⟩:=onI_of h
 obtain ⟨x10,e10,h⟩:=onI_of h
 obtain ⟨x13,e13,h⟩:=onA_of h
 rw [← upds_same (ρ:=ρ) [(0,.pointer x0),(1,.int .i64 x1),(10,.int .i64 x10),(13,.pointer (some x13))] (alc e0 (alc e1 (alc e10 (alc e13 aln))))]
 exact sg (cuts:=[]) trivial h
theorem c128 {R:Ko} {x0:Option Addr} {x1:Int} {x2:Array Value} {w:World} (h:F128 R x0 x1 x2 w):Ct Tryz.prog 128 #[.pointer x0,.int .i64 x1,.agg x2] w R :=
 ctS (args:=[.pointer x0,.int .i64 x1,.agg x2]) (body:=b128) (n:=96) (rs:=[.tmp 6,.tmp 7]) Tryz.func128
  (sg (cuts:=[(q128_0,L128_0 (F128_0 R))]) ⟨s128_0 R,trivial⟩ h)
def F53 (R:Ko) (x0:Option Addr) (x1:Int) (x2:Array Value) (w:World):Prop:=New (.cells (.agg x2:Value).cells 35) w fun x5 w1=>La 2 x5 w1 fun x13=>Ct Tryz.prog 128 #[.pointer x0,.int .i64 x1,.agg x13] w1 fun v14 w2=>on2 v14 fun y14_0 y14_1=>onI y14_0 fun x14_0=>Ct Tryz.prog 129 #[.int .i64 1,.int .i64 x1,y14_1] w2 fun v20 w3=>R (.tuple #[.int .i64 x14_0,v20]) w3
noncomputable def b53:Code:=Tryz.f53.body.getD .skip
theorem c53 {R:Ko} {x0:Option Addr} {x1:Int} {x2:Array Value} {w:World} (h:F53 R x0 x1 x2 w):Ct Tryz.prog 53 #[.pointer x0,.int .i64 x1,.agg x2] w R :=
 ctS (args:=[.pointer x0,.int .i64 x1,.agg x2]) (body:=b53) (n:=21) (rs:=[.tmp 6,.tmp 7]) Tryz.func53
  (sg (cuts:=[]) trivial h)
variable {K:Ko} {w w':World}
def depN (N:Nds):Nat→Int→Nat
 | 0,_=>0
 | f+1,h=>if h=0 then 0 else match getN N h with
  | none=>0
  | some (_,n)=>depN N f n.par+1
theorem dep_up {N:Nds} {h:Int} {l:List Int} (hU:Up N h l):∀ f,l.length≤f→depN N f h=l.length:=by
 induction hU with
 | top=>intro f _; cases f <;> simp [depN]
 | step hne hg _ ih =>
  intro f hf
  cases f with
  | zero=>simp at hf
  | succ f =>
   simp only [depN,if_neg hne,hg]
   rw [ih f (by simp at hf; omega)]
   simp
def createK (K:Kn) (parent q p:Int):Int × Int × Kn:=match getN K.n parent with
 | none=>(0,20,K)
 | some (_,np)=>if goesB K.n 9 parent=true then (0,92,K) else if valR q p=false then (0,2,K) else if depN K.n 9 parent > 8 then (0,90,K) else match freeS K.n 64 with
  | none=>(0,30,K)
  | some i=>if wr (keptN K.n parent 0 zB+shareR q p) > 1048576 then (0,80,K) else match newB q p np.clk with
   | .error e=>(0,e,K)
   | .ok b=>match openG K.g (nameS 1 i (K.n i).1) parent with
    | .error e=>(nameS 1 i (K.n i).1,e,{ K with n:=addN K.n i ⟨parent,b,0,emptyS⟩ })
    | .ok g'=>(nameS 1 i (K.n i).1,0,{ K with n:=addN K.n i ⟨parent,b,0,emptyS⟩,g:=g' })
def ErV (v:Value) (e:Int):Prop:=(e=0∧v=.nilIface)∨(e≠0∧v=Er e)
theorem newB_err {q p a e:Int} (h:newB q p a=.error e):e≠0:=by
 unfold newB at h
 split at h
 ·injection h with h; omega
 ·split at h
  ·injection h with h; omega
  ·split at h
   ·injection h with h; omega
   ·cases h
theorem openG_err {g:Int→Option En} {x p e:Int} (h:openG g x p=.error e):e≠0:=by
 unfold openG at h
 split at h
 ·injection h with h; omega
 ·split at h
  ·injection h with h; omega
  ·cases h
theorem bld122 (pa a1 a2 a3 a4:Int) (dy:Bool) (a6 a7 a8:Int) (l:Nat) (w:World) (k:Value→Prop) :
  Rd Tryz.prog (Instr.build 122 #[(0,I pa),(1,.agg #[I a1,I a2,I a3,I a4,.bool dy,I a6,I a7,I a8]),(3,Pt l 0)]) w k=k (.agg #[I pa,I a1,I a2,I a3,I a4,.bool dy,I a6,I a7,I a8,I 0,Pt l 0]) :=
 build_f (vals:=[(0,I pa),(1,.agg #[I a1,I a2,I a3,I a4,.bool dy,I a6,I a7,I a8]),(3,Pt l 0)]) (by kernel_rfl) (by kernel_rfl) w k
theorem p128 {lab:Nat→Nat} {q k t L bk m p y i:Nat} {nb lf:Nat→Nat} {Kk:Kn} {parent:Int} {b:Bg} {up:List Int} (hv:KRv w lab q k t L bk m p nb lf Kk) (hy:Bk w y b.cells 120) (hf:freeS Kk.n 64=some i) (hU:Up Kk.n parent up) (h8:up.length≤8)
  (hR:∀ v w' lab',Stp w w' lab lab' q→KR w' lab' q k (match openG Kk.g (nameS 1 i (Kk.n i).1) parent with
    | .error _=>{ Kk with n:=addN Kk.n i ⟨parent,b,0,emptyS⟩ }
    | .ok g'=>{ Kk with n:=addN Kk.n i ⟨parent,b,0,emptyS⟩,g:=g' })→ErV v (match openG Kk.g (nameS 1 i (Kk.n i).1) parent with | .error e=>e | .ok _=>0)→K (.tuple #[I (nameS 1 i (Kk.n i).1),v]) w') :
  F128_0 K (some ⟨k,0,none⟩) parent (nameS 1 i (Kk.n i).1) ⟨y,0,none⟩ w:=by
 unfold F128_0
 simp only [SS,hv.kh.rd (o:=0) (v:=Pt t 0) rfl,hy.la0 (n:=8) b.len]
 obtain ⟨hi,ho,_⟩:=freeS_some.1 hf
 have hnone:(Kk.n i).2=none:=by
  unfold openS at ho
  cases hs:(Kk.n i).2 with
  | none=>rfl
  | some z=>rw [hs] at ho; simp at ho
 have hgen:(Kk.n i).1≤1023:=by unfold openS at ho; simp at ho; exact ho.2
 refine k31 fun l bt Lr w1 k1 hl hbt hLr hne hbl hT=>?_
 have k1':=k1.drL
 have hv1:=hv.kp k1' fun _ _=>id
 have hy1:Bk w1 y b.cells 120:=k1'.bk hy id
 simp only [SS,hy1.ha0 (n:=8) b.len,hv1.kh.hc (o:=0) (v:=Pt t 0) rfl]
 have hb122:=bld122 parent b.nq b.np b.xq b.xp b.dy b.left b.st b.en l w1
 simp only [Bg.cells,hb122,onG_eq]
 refine new_k (ndC ⟨parent,b,0,emptyS⟩ l) fun w2 k2 b2 s2=>?_
 have hv2:=hv1.kp k2 fun _ _=>id
 simp only [SS,hv2.kh.hc (o:=0) (v:=Pt t 0) rfl]
 have hc:=freeS_congr (NT.al nb Kk.n) 64
 refine k30 (some ⟨w1.heap.size,0,none⟩) hv2.nt.tab (by decide) (fun e=>by rw [hc,hf] at e; cases e) fun i' hi' e w3 k3 ht3=>?_
 rw [hc,hf] at e
 injection e with e
 subst e
 have en:nameS 1 i (nv nb Kk.n i).1=nameS 1 i (Kk.n i).1:=rfl
 have hw:w.heap.size≤w1.heap.size:=k1'.size
 have kp:Kp (·=L) w w3:=((k1'.trans k2).no _).trans k3
 have hLt:=hv.nt.tab.row.lt
 have ne:∀ {x:Nat},w.heap.size≤x→¬ x=L:=fun hx e=>by omega
 simp only [dr_heap] at hl hbt hLr
 have hT3:TTV w3 (·=Lr) (fun x=>x=l∨x=bt) bt Lr emptyS 2 8 emptyS :=
  ⟨(hT.tab.kp k2 id id).kp k3 (ne hbt) (ne hLr),hT.fb,hT.fL,fun j=>⟨rfl,.inl ⟨rfl,rfl⟩⟩⟩
 obtain ⟨hv3,st3⟩:=hv.addNode (b:=w1.heap.size) (l:=l) (bt:=bt) (Lr:=Lr) (n:=⟨parent,b,0,emptyS⟩) hnone hi hgen kp ht3 hw hl hbt hLr (k3.bk b2 (ne hw)) (k3.bk (k2.bk hbl id) (ne hl)) hT3 rfl (hv.ok.add hnone hi hgen hU h8)
 simp only [SS,en,hv3.kh.rd (o:=2) (v:=Pt bk 0) rfl]
 refine k207 hv3.book ?_
 cases eo:openG Kk.g (nameS 1 i (Kk.n i).1) parent with
 | error er =>
  rw [eo] at hR
  intro w4 k4
  exact hR _ w4 _ (st3.tail k4) ⟨t,L,bk,m,p,_,_,hv3.kp k4 fun _ _=>id⟩ (.inr ⟨openG_err eo,rfl⟩)
 | ok g' =>
  rw [eo] at hR
  intro w4 k4 hb4
  have hv4:=hv3.setBook k4 hb4
  refine hR _ w4 _ ⟨st3.kp.step k4 fun x hx e=>?_,st3.old,fun x hx hn=>st3.new x hx hn⟩ ⟨t,L,bk,m,p,_,_,hv4⟩ (.inl ⟨rfl,rfl⟩)
  rw [e,hv.lm]; unfold inK; omega
def createS (K:Kn) (parent q p:Int):Kn:=(createK K parent q p).2.2
theorem k128 {lab:Nat→Nat} {q k:Nat} {Kk:Kn} {parent rq rp:Int} (hK:KR w lab q k Kk)
  (hR:∀ v w' lab',Stp w w' lab lab' q→KR w' lab' q k (createK Kk parent rq rp).2.2→ErV v (createK Kk parent rq rp).2.1→K (.tuple #[I (createK Kk parent rq rp).1,v]) w'):Ct Tryz.prog 128 #[Pt k 0,I parent,.agg #[I rq,I rp]] w K:=by
 refine c128 ?_
 unfold F128
 obtain ⟨t,L,bk,m,p,nb,lf,hv⟩:=id hK
 refine new_k [I rq,I rp] fun w1 k1 b1 s1=>?_
 have hv1:=hv.kp k1 fun _ _=>id
 have end_:∀ (w':World) (e:Int),Kp No w w'→e≠0→createK Kk parent rq rp=(0,e,Kk)→K (.tuple #[I 0,Er e]) w':=fun w' e kk he hc=>by
  rw [hc] at hR
  exact hR _ w' lab (Stp.no kk hv.bd) (hK.no kk) (.inr ⟨he,rfl⟩)
 have rdR:∀ {w':World},Bk w' w.heap.size [I rq,I rp] 35→∀ k,La 2 ⟨w.heap.size,0,none⟩ w' k=k #[I rq,I rp]:=fun hb k=>hb.la0 rfl k
 unfold createK at end_ hR
 refine k130 hv1.nt ?_
 cases e:getN Kk.n parent with
 | none =>
  simp only [e] at end_
  intro d
  simp only [SS]
  exact end_ _ 20 (k1.drR d) (by omega) rfl
 | some r =>
  obtain ⟨ip,np⟩:=r
  simp only [e] at end_ hR
  intro d
  simp only [SS]
  obtain ⟨up,hU,h9⟩:=hv.ok.found e
  have hv1d:=hv1.kp (Kp.dr No w1 d) fun _ _=>id
  refine k200 hv1d.nt hU (by omega) fun w3 k3=>?_
  have k13:Kp No w1 w3:=k3.drL
  simp only [SS]
  rw [goes_up hU 9 h9] at end_ hR
  cases e2:up.any (dyB Kk.n) with
  | true =>
   simp only [e2,if_true] at end_
   simp only [SS]
   exact end_ _ 92 (k1.trans k13) (by omega) rfl
  | false =>
   simp only [e2,Bool.false_eq_true,if_false] at end_ hR
   have hv3:=hv1.kp k13 fun _ _=>id
   have b3:=k13.bk b1 id
   simp only [SS,rdR b3]
   refine k201 fun w4 k4=>?_
   have k14:=k13.trans k4
   have b4:=k14.bk b1 id
   have hv4:=hv1.kp k14 fun _ _=>id
   cases e3:valR rq rp with
   | false =>
    simp only [e3,if_true] at end_
    simp only [SS,Bool.false_eq_true]
    exact end_ _ 2 (k1.trans k14) (by omega) rfl
   | true =>
    simp only [e3,Bool.true_eq_false,if_false] at end_ hR
    simp only [SS]
    refine k202 hv4.nt hU (by omega) fun a5 l5 c5 w5 k5 ho5=>?_
    have k15:=k14.trans k5
    have hl5:=own_len ho5
    rw [List.length_reverse] at hl5
    rw [dep_up hU 9 h9] at end_ hR
    simp only [SS]
    by_cases e4:up.length > 8
    ·rw [if_pos (by omega)]
     simp only [if_pos e4] at end_
     exact end_ _ 90 (k1.trans k15) (by omega) rfl
    rw [if_neg (by omega)]
    simp only [if_neg e4] at end_ hR
    have hv5:=hv1.kp k15 fun _ _=>id
    have b5:=k15.bk b1 id
    simp only [SS,hv5.kh.rd (o:=0) (v:=Pt t 0) rfl]
    refine k203 hv5.nt.tab (by decide) (by decide) (fun i u hu=>by
     have:=onePt (nv nb Kk.n i) u (by simpa using hu)
     cases u <;> simp_all [oneCell,Value.oneCell']) fun b6 g6 c6 w6 k6 hT6=>?_
    simp only [SS]
    have hc:=freeS_congr (NT.al nb Kk.n) 64
    have k16:=k15.trans k6
    refine k30c hT6 (by decide) (fun ef w7 k7=>?_) fun i hi ef w7 k7=>?_
    ·rw [hc] at ef
     simp only [ef] at end_
     simp only [SS]
     exact end_ _ 30 ((k1.trans k16).trans k7) (by omega) rfl
    ·rw [hc] at ef
     simp only [ef] at end_ hR
     have en:nameS 1 i (nv nb Kk.n i).1=nameS 1 i (Kk.n i).1:=rfl
     have k17:Kp No w1 w7:=k16.own k7 (Nat.le_trans k15.size hT6.new)
     have b7:=k17.bk b1 id
     simp only [SS,en,rdR b7]
     refine k204 fun w8 k8=>?_
     rw [if_pos e3]
     have k18:=k17.trans k8
     have hv8:=hv1.kp k18 fun _ _=>id
     simp only [SS]
     refine k205 (b:=zB) hv8.nt fun w9 k9=>?_
     have k19:=k18.trans k9
     have hv9:=hv1.kp k19 fun _ _=>id
     have b9:Bk w9 w.heap.size [I rq,I rp] 35:=k19.bk b1 id
     simp only [SS]
     by_cases e5:wr (keptN Kk.n parent 0 zB+shareR rq rp) > 1048576
     ·rw [if_pos e5]
      simp only [if_pos e5] at end_
      exact end_ _ 80 (k1.trans k19) (by omega) rfl
     rw [if_neg e5]
     simp only [if_neg e5] at end_ hR
     have hnb:=(hv9.nt.nd ip np (getN_some e).2).2
     simp only [SS,rdR b9,hnb.rd (o:=9) (v:=I np.clk) rfl]
     have fin:∀ (y:Nat) (b:Bg) (w12:World),newB rq rp np.clk=.ok b→Kp No w w12→Bk w12 y b.cells 120→F128_0 K (some ⟨k,0,none⟩) parent (nameS 1 i (Kk.n i).1) ⟨y,0,none⟩ w12:=by
      intro y b w12 eb k12 hb12
      simp only [eb] at hR
      have hv12:=hv.kp k12 fun _ _=>id
      refine p128 hv12 hb12 ef hU (by omega) fun v w' lab' hs hk he=>?_
      cases eo:openG Kk.g (nameS 1 i (Kk.n i).1) parent with
      | error er =>
       simp only [eo] at hR hk he
       exact hR v w' lab' ⟨(k12.no _).trans (hs.kp),fun x hx=>(hs.old x (Nat.lt_of_lt_of_le hx k12.size)),fun x hx hn=>by
        by_cases hx2:x<w12.heap.size
        ·rw [hs.old x hx2] at hn ⊢; have:=hv.bd x hn; omega
        ·exact hs.new x (by omega) hn⟩ hk he
      | ok g' =>
       simp only [eo] at hR hk he
       exact hR v w' lab' ⟨(k12.no _).trans (hs.kp),fun x hx=>(hs.old x (Nat.lt_of_lt_of_le hx k12.size)),fun x hx hn=>by
        by_cases hx2:x<w12.heap.size
        ·rw [hs.old x hx2] at hn ⊢; have:=hv.bd x hn; omega
        ·exact hs.new x (by omega) hn⟩ hk he
     have s9:=(k1.trans k19).size
     refine ⟨k206 ?_,?_⟩
     ·cases eb:newB rq rp np.clk with
      | error er =>
       simp only [eb] at end_
       intro w10 k10
       have k10':=k10.drL
       simp only [SS]
       refine new_k zB.cells fun w11 k11 b11 s11=>?_
       refine sa_k (cs:=zB.cells) b11 rfl (by decide) (Bg.one _) fun w12 k12 b12 s12=>?_
       exact end_ _ er ((((k1.trans k19).trans k10').trans k11).own k12 (by have:=k10'.size; omega)) (newB_err eb) rfl
      | ok b =>
       intro w10 k10
       have k10':=k10.drL
       simp only [SS]
       refine new_k zB.cells fun w11 k11 b11 s11=>?_
       refine sa_k (cs:=b.cells) b11 rfl (by decide) (Bg.one _) fun w12 k12 b12 s12=>?_
       rw [over_all _ _ (by rfl)] at b12
       exact fin _ b w12 eb ((((k1.trans k19).trans k10').trans k11).own k12 (by have:=k10'.size; omega)) b12
     ·refine new_dr zB.cells fun w10 k10 b10 s10=>?_
      have hv10:=hv9.kp k10 fun _ _=>id
      have hnb10:=(hv10.nt.nd ip np (getN_some e).2).2
      have b910:Bk w10 w.heap.size [I rq,I rp] 35:=k10.bk b9 id
      simp only [SS,hnb10.hc (o:=9) (v:=I np.clk) rfl,show Ha 2 ⟨w.heap.size,0,none⟩ #[I rq,I rp] w10=True from b910.ha0 rfl]
      refine k206 ?_
      cases eb:newB rq rp np.clk with
      | error er =>
       simp only [eb] at end_
       intro w11 k11
       simp only [SS]
       refine sa_k (cs:=zB.cells) (k11.bk b10 id) rfl (by decide) (Bg.one _) fun w12 k12 b12 s12=>?_
       exact end_ _ er ((((k1.trans k19).trans k10).trans k11).own k12 (by omega)) (newB_err eb) rfl
      | ok b =>
       intro w11 k11
       simp only [SS]
       refine sa_k (cs:=b.cells) (k11.bk b10 id) rfl (by decide) (Bg.one _) fun w12 k12 b12 s12=>?_
       rw [over_all _ _ (by rfl)] at b12
       exact fin _ b w12 eb ((((k1.trans k19).trans k10).trans k11).own k12 (by omega)) b12
theorem k53 {lab:Nat→Nat} {q k:Nat} {Kk:Kn} {parent rq rp:Int} (hK:KR w lab q k Kk)
  (hR:∀ v w' lab',Stp w w' lab lab' q→KR w' lab' q k (createK Kk parent rq rp).2.2→Flt w' v (createK Kk parent rq rp).2.1→K (.tuple #[I (createK Kk parent rq rp).1,v]) w'):Ct Tryz.prog 53 #[Pt k 0,I parent,.agg #[I rq,I rp]] w K:=by
 refine c53 ?_
 unfold F53
 refine new_k [I rq,I rp] fun w1 k1 b1 s1=>?_
 obtain ⟨t,L,bk,m,p,nb,lf,hv⟩:=id hK
 rw [show ∀ k,La 2 ⟨w.heap.size,0,none⟩ w1 k=k #[I rq,I rp] from fun k=>b1.la0 rfl k]
 refine k128 (hK.no k1) fun v w' lab' hs hk he=>?_
 simp only [SS]
 have hs':Stp w w' lab lab' q:=⟨(k1.no _).trans hs.kp,fun x hx=>hs.old x (by omega),fun x hx hn=>by
  by_cases hx2:x<w1.heap.size
  ·rw [hs.old x hx2] at hn ⊢; have:=hv.bd x hn; omega
  ·exact hs.new x (by omega) hn⟩
 rcases he with ⟨h0,rfl⟩ | ⟨h0,rfl⟩
 ·refine k129_no (hR _ w' lab' hs' hk (.inl ⟨h0,rfl⟩))
 ·exact k129 h0 fun v w2 k2 hf=>hR v w2 lab' (hs'.tail k2) (hk.no k2) hf
end
section
open Sy
def F88 (R:Ko) (x0:Addr) (x1:Addr) (x2:Addr) (w:World):Prop:=Lc x2 w.drew fun v5=>onP v5 fun x5=>Lc x0 w.drew fun v6=>onP v6 fun x6=>Lc (x1.add 1) w.drew fun v8=>onI v8 fun x8=>La 2 (x1.add 3) w.drew fun x10=>Ct Tryz.prog 53 #[.pointer x6,.int .i64 x8,.agg x10] w.drew fun v11 w1=>on2 v11 fun y11_0 y11_1=>onI y11_0 fun x11_0=>Hc x2 (.pointer x5) w1∧onSome x5 fun x14=>Sc (x14.add 1) (.int .i64 x11_0) w1 fun w2=>R y11_1 w2
noncomputable def b88:Code:=Tryz.f88.body.getD .skip
theorem c88 {R:Ko} {x0:Addr} {x1:Addr} {x2:Addr} {w:World} (h:F88 R x0 x1 x2 w):Ct Tryz.prog 88 #[.pointer (some x0),.pointer (some x1),.pointer (some x2)] w R :=
 ctS (args:=[.pointer (some x0),.pointer (some x1),.pointer (some x2)]) (body:=b88) (n:=16) (rs:=[.tmp 3]) Tryz.func88
  (sg (cuts:=[]) trivial h)
def F89 (R:Ko) (x0:Addr) (x1:Addr) (w:World):Prop:=Lc x0 w fun v3=>onP v3 fun x3=>Lc (x1.add 1) w fun v5=>onI v5 fun x5=>La 2 (x1.add 3) w fun x7=>Ct Tryz.prog 90 #[.pointer x3,.int .i64 x5,.agg x7] w fun v8 w1=>R v8 w1
noncomputable def b89:Code:=Tryz.f89.body.getD .skip
theorem c89 {R:Ko} {x0:Addr} {x1:Addr} {w:World} (h:F89 R x0 x1 w):Ct Tryz.prog 89 #[.pointer (some x0),.pointer (some x1)] w R :=
 ctS (args:=[.pointer (some x0),.pointer (some x1)]) (body:=b89) (n:=9) (rs:=[.tmp 2]) Tryz.func89
  (sg (cuts:=[]) trivial h)
def F91 (R:Ko) (x0:Addr) (x1:Addr) (w:World):Prop:=Lc x0 w fun v3=>onP v3 fun x3=>Lc (x1.add 1) w fun v5=>onI v5 fun x5=>Ct Tryz.prog 92 #[.pointer x3,.int .i64 x5] w fun v6 w1=>R v6 w1
noncomputable def b91:Code:=Tryz.f91.body.getD .skip
theorem c91 {R:Ko} {x0:Addr} {x1:Addr} {w:World} (h:F91 R x0 x1 w):Ct Tryz.prog 91 #[.pointer (some x0),.pointer (some x1)] w R :=
 ctS (args:=[.pointer (some x0),.pointer (some x1)]) (body:=b91) (n:=7) (rs:=[.tmp 2]) Tryz.func91
  (sg (cuts:=[]) trivial h)
def F93 (R:Ko) (x0:Addr) (x1:Addr) (x2:Addr) (w:World):Prop:=Lc x2 w.drew fun v5=>onP v5 fun x5=>Lc x0 w.drew fun v6=>onP v6 fun x6=>Lc (x1.add 1) w.drew fun v8=>onI v8 fun x8=>Lc (x1.add 9) w.drew fun v10=>onI v10 fun x10=>Ct Tryz.prog 54 #[.pointer x6,.int .i64 x8,.int .i64 x10] w.drew fun v11 w1=>on2 v11 fun y11_0 y11_1=>onI y11_0 fun x11_0=>Hc x2 (.pointer x5) w1∧onSome x5 fun x14=>Sc (x14.add 1) (.int .i64 x11_0) w1 fun w2=>R y11_1 w2
noncomputable def b93:Code:=Tryz.f93.body.getD .skip
theorem c93 {R:Ko} {x0:Addr} {x1:Addr} {x2:Addr} {w:World} (h:F93 R x0 x1 x2 w):Ct Tryz.prog 93 #[.pointer (some x0),.pointer (some x1),.pointer (some x2)] w R :=
 ctS (args:=[.pointer (some x0),.pointer (some x1),.pointer (some x2)]) (body:=b93) (n:=16) (rs:=[.tmp 3]) Tryz.func93
  (sg (cuts:=[]) trivial h)
def F94 (R:Ko) (x0:Addr) (x1:Addr) (w:World):Prop:=Lc x0 w fun v3=>onP v3 fun x3=>Lc (x1.add 1) w fun v5=>onI v5 fun x5=>Lc (x1.add 2) w fun v7=>onI v7 fun x7=>Ct Tryz.prog 95 #[.pointer x3,.int .i64 x5,.int .i64 x7] w fun v8 w1=>R v8 w1
noncomputable def b94:Code:=Tryz.f94.body.getD .skip
theorem c94 {R:Ko} {x0:Addr} {x1:Addr} {w:World} (h:F94 R x0 x1 w):Ct Tryz.prog 94 #[.pointer (some x0),.pointer (some x1)] w R :=
 ctS (args:=[.pointer (some x0),.pointer (some x1)]) (body:=b94) (n:=9) (rs:=[.tmp 2]) Tryz.func94
  (sg (cuts:=[]) trivial h)
def F96 (R:Ko) (x0:Addr) (x1:Addr) (w:World):Prop:=Lc x0 w fun v3=>onP v3 fun x3=>Lc (x1.add 1) w fun v5=>onI v5 fun x5=>Lc (x1.add 2) w fun v7=>onI v7 fun x7=>La 4 (x1.add 5) w fun x9=>Ct Tryz.prog 97 #[.pointer x3,.int .i64 x5,.int .i64 x7,.agg x9] w fun v10 w1=>R v10 w1
noncomputable def b96:Code:=Tryz.f96.body.getD .skip
theorem c96 {R:Ko} {x0:Addr} {x1:Addr} {w:World} (h:F96 R x0 x1 w):Ct Tryz.prog 96 #[.pointer (some x0),.pointer (some x1)] w R :=
 ctS (args:=[.pointer (some x0),.pointer (some x1)]) (body:=b96) (n:=11) (rs:=[.tmp 2]) Tryz.func96
  (sg (cuts:=[]) trivial h)
def F98 (R:Ko) (x0:Addr) (x1:Addr) (x2:Addr) (w:World):Prop:=Lc x2 w.drew fun v5=>onP v5 fun x5=>Lc x0 w.drew fun v6=>onP v6 fun x6=>Lc (x1.add 1) w.drew fun v8=>onI v8 fun x8=>Ct Tryz.prog 71 #[.pointer x6,.int .i64 x8] w.drew fun v9 w1=>on2 v9 fun y9_0 y9_1=>onG y9_0 fun x9_0=>Hc x2 (.pointer x5) w1∧onSome x5 fun x12=>Sa 24 (x12.add 2) x9_0 w1 fun w2=>R y9_1 w2
noncomputable def b98:Code:=Tryz.f98.body.getD .skip
theorem c98 {R:Ko} {x0:Addr} {x1:Addr} {x2:Addr} {w:World} (h:F98 R x0 x1 x2 w):Ct Tryz.prog 98 #[.pointer (some x0),.pointer (some x1),.pointer (some x2)] w R :=
 ctS (args:=[.pointer (some x0),.pointer (some x1),.pointer (some x2)]) (body:=b98) (n:=14) (rs:=[.tmp 3]) Tryz.func98
  (sg (cuts:=[]) trivial h)
def F99 (R:Ko) (x0:Addr) (x1:Addr) (x2:Addr) (w:World):Prop:=Lc x2 w.drew fun v5=>onP v5 fun x5=>Lc x0 w.drew fun v6=>onP v6 fun x6=>Lc (x1.add 1) w.drew fun v8=>onI v8 fun x8=>Lc (x1.add 2) w.drew fun v10=>onI v10 fun x10=>Ct Tryz.prog 73 #[.pointer x6,.int .i64 x8,.int .i64 x10] w.drew fun v11 w1=>on2 v11 fun y11_0 y11_1=>onG y11_0 fun x11_0=>Hc x2 (.pointer x5) w1∧onSome x5 fun x14=>Sa 8 (x14.add 26) x11_0 w1 fun w2=>R y11_1 w2
noncomputable def b99:Code:=Tryz.f99.body.getD .skip
theorem c99 {R:Ko} {x0:Addr} {x1:Addr} {x2:Addr} {w:World} (h:F99 R x0 x1 x2 w):Ct Tryz.prog 99 #[.pointer (some x0),.pointer (some x1),.pointer (some x2)] w R :=
 ctS (args:=[.pointer (some x0),.pointer (some x1),.pointer (some x2)]) (body:=b99) (n:=16) (rs:=[.tmp 3]) Tryz.func99
  (sg (cuts:=[]) trivial h)
def F100_0B (R:Ko) (C0:Value→Int→Int→World→Prop) (x3:Value) (x9:Int) (x10:Int) (w:World):Prop:=Ifm (decide ((x10:Int)<x9)) (CallV Tryz.prog goB x3 #[] w fun v14 w1=>on2 v14 fun y14_0 y14_1=>onL y14_0 fun a14_0 l14_0 c14_0=>Nl y14_1 fun x18=>Ifm (!x18) (R y14_1 w1) (C0 x3 x9 (IntKind.i64.wrap (x10+1)) w1)) (R (.nilIface) w)
def F100_0 (R:Ko) (x3:Value) (x9:Int) (x10:Int) (w:World):Prop:=∃ (Inv:Value→Int→Int→World→Prop) (μ:Value→Int→Int→World→Nat),Inv x3 x9 x10 w∧∀ x3 x9 x10 w,Inv x3 x9 x10 w→F100_0B R (fun x3' x9' x10' w'=>Inv x3' x9' x10' w'∧μ x3' x9' x10' w'<μ x3 x9 x10 w) x3 x9 x10 w
def F100 (R:Ko) (x0:Addr) (x1:Addr) (w:World):Prop:=Lc x0 w fun v6=>onP v6 fun x6=>Lc (x1.add 9) w fun v9=>onI v9 fun x9=>F100_0 R (.func (.func 101) #[.pointer x6] #[]) x9 0 w
noncomputable def b100:Code:=Tryz.f100.body.getD .skip
def q100_0:List Bool:=[false,true,false,true,true]
def L100_0 (F:Value→Int→Int→World→Prop):Env→World→Prop:=fun ρ w=>onI (ρ 9) fun x9=>onI (ρ 10) fun x10=>F (ρ 3) x9 x10 w
abbrev T100 (z:Fr) (R:Ko) (p:List Bool) (ρ:Env) (w:World):Prop:=TW z Tryz.prog 21 (segTodo b100 p) (QR Tryz.prog [.tmp 2] R) ρ w
theorem s100_0 (R:Ko):∀ ρ w,(L100_0 (F100_0 R)) ρ w→T100 z0 R q100_0 ρ w:=by
 intro ρ w h
 unfold L100_0 at h
 generalize e3:ρ 3=x3 at h
 obtain ⟨x9,e9,h⟩:=onI_of h
 obtain ⟨x10,e10,h⟩:=onI_of h
 obtain ⟨Inv,μ,hi,hb⟩:=h
 refine lpT (fun m=>L100_0 (fun x3 x9 x10 w=>Inv x3 x9 x10 w∧μ x3 x9 x10 w=m)) ?_ (μ x3 x9 x10 w) ρ w ?_
 ·intro m ρ w ih h
  unfold L100_0 at h
  generalize e3:ρ 3=x3 at h
  obtain ⟨x9,e9,h⟩:=onI_of h
  obtain ⟨x10,e10,h⟩:=onI_of h
  obtain ⟨hv,hm⟩:=h
  subst hm
  have hh:=hb x3 x9 x10 w hv
  obtain ⟨C0,hC⟩:∃ C,C=fun x3' x9' x10' w'=>Inv x3' x9' x10' w'∧μ x3' x9' x10' w'<μ x3 x9 x10 w:=⟨_,rfl⟩
  rw [← hC] at hh
  have h0:∀ ρ w,(L100_0 C0) ρ w→T100 z0 R q100_0 ρ w:=by
   intro ρ' w' h'
   refine ih ρ' w' ?_
   unfold L100_0 at h'
   generalize e3':ρ' 3=x3' at h'
   obtain ⟨x9',e9',h'⟩:=onI_of h'
   obtain ⟨x10',e10',h'⟩:=onI_of h'
   rw [hC] at h'
   refine ⟨_,h'.2,?_⟩
   simp only [e3',e9',e10',L100_0,ons]
   exact ⟨h'.1,by trivial⟩
  rw [← upds_same (ρ:=ρ) [(3,x3),(9,.int .i64 x9),(10,.int .i64 x10)] (alc e3 (alc e9 (alc e10 aln)))]
  exact sg (cuts:=[(q100_0,L100_0 C0)]) ⟨h0,trivial⟩ hh
 ·simp only [e3,e9,e10,L100_0,ons]
  exact ⟨hi,by trivial⟩
theorem c100 {R:Ko} {x0:Addr} {x1:Addr} {w:World} (h:F100 R x0 x1 w):Ct Tryz.prog 100 #[.pointer (some x0),.pointer (some x1)] w R :=
 ctS (args:=[.pointer (some x0),.pointer (some x1)]) (body:=b100) (n:=21) (rs:=[.tmp 2]) Tryz.func100
  (sg (cuts:=[(q100_0,L100_0 (F100_0 R))]) ⟨s100_0 R,trivial⟩ h)
variable {K:Ko} {w w':World}
structure AnsA where
 err:Int
 hd:Int
 nd:Option (Nd × En × List Int × List Int)
 tk:Option Tk
def ans0:AnsA:=⟨0,0,none,none⟩
def ndAt (w:World) (B:Nat) (cs:List Value):Option (Nd × En × List Int × List Int)→Prop
 | none=>cs=zN
 | some (n,e,ks,ts)=>∃ ka kl kc ta tl tc,cs=toldN n e (.slice ka kl kc) (.slice ta tl tc)∧w.ownsRow B 33 1 (.slice ka kl kc) ks.length (ks.map I)∧w.ownsRow B 33 1 (.slice ta tl tc) ts.length (ts.map I)
def tkAt (w:World) (B:Nat) (cs:List Value):Option Tk→Prop
 | none=>cs=zT
 | some t=>∃ v:TkV,cs=v.cells∧TkAt w v t∧∀ a,v.ja=some a→B≤a.block
def AnsAt (w:World) (B:Nat) (cs:List Value) (a:AnsA):Prop:=∃ nc tc,cs=I a.err :: I a.hd :: (nc++tc)∧ndAt w B nc a.nd∧tkAt w B tc a.tk
def zAns (e:Int):List Value:=I e :: I 0 :: (zN++zT)
theorem ans_z (w:World) (B:Nat) (e:Int):AnsAt w B (zAns e) { ans0 with err:=e }:=⟨zN,zT,rfl,rfl,rfl⟩
theorem AnsAt.kp {S:Nat→Prop} {B:Nat} {cs:List Value} {a:AnsA} (h:AnsAt w B cs a) (k:Kp S w w') (hs:∀ x,B≤x→¬ S x):AnsAt w' B cs a:=by
 obtain ⟨nc,tc,h1,h2,h3⟩:=h
 refine ⟨nc,tc,h1,?_,?_⟩
 ·cases hn:a.nd with
  | none=>rw [hn] at h2; exact h2
  | some r =>
   obtain ⟨n,e,ks,ts⟩:=r
   rw [hn] at h2
   obtain ⟨ka,kl,kc,ta,tl,tc',h4,h5,h6⟩:=h2
   exact ⟨ka,kl,kc,ta,tl,tc',h4,own_kp h5 k fun b hb=>hs b (own_lt h5 hb).1,own_kp h6 k fun b hb=>hs b (own_lt h6 hb).1⟩
 ·cases ht:a.tk with
  | none=>rw [ht] at h3; exact h3
  | some t =>
   rw [ht] at h3
   obtain ⟨v,h4,h5,h6⟩:=h3
   exact ⟨v,h4,h5.kp k fun a ha=>hs _ (h6 a ha),h6⟩
theorem nd_len {B:Nat} {cs:List Value} {o:Option (Nd × En × List Int × List Int)} (h:ndAt w B cs o):cs.length=24:=by
 cases o with
 | none=>have h:cs=zN:=h; rw [h]; rfl
 | some r=>obtain ⟨n,e,ks,ts⟩:=r; obtain ⟨ka,kl,kc,ta,tl,tc,rfl,_⟩:=h; rfl
theorem tk_len {B:Nat} {cs:List Value} {o:Option Tk} (h:tkAt w B cs o):cs.length=8:=by
 cases o with
 | none=>have h:cs=zT:=h; rw [h]; rfl
 | some t=>obtain ⟨v,rfl,_⟩:=h; rfl
theorem nd_one {B:Nat} {cs:List Value} {o:Option (Nd × En × List Int × List Int)} (h:ndAt w B cs o):∀ v∈cs,oneCell v=true:=by
 cases o with
 | none=>have h:cs=zN:=h; rw [h]; exact toldN_one _ _ _ _ _ _ _ _
 | some r=>obtain ⟨n,e,ks,ts⟩:=r; obtain ⟨ka,kl,kc,ta,tl,tc,rfl,_⟩:=h; exact toldN_one _ _ _ _ _ _ _ _
theorem tk_one {B:Nat} {cs:List Value} {o:Option Tk} (h:tkAt w B cs o):∀ v∈cs,oneCell v=true:=by
 cases o with
 | none=>have h:cs=zT:=h; rw [h]; simp [zT,oneCell]
 | some t=>obtain ⟨v,rfl,_⟩:=h; simpa using v.one
theorem AnsAt.len {B:Nat} {cs:List Value} {a:AnsA} (h:AnsAt w B cs a):cs.length=34:=by
 obtain ⟨nc,tc,rfl,h2,h3⟩:=h
 simp [nd_len h2,tk_len h3]
theorem AnsAt.one {B:Nat} {cs:List Value} {a:AnsA} (h:AnsAt w B cs a):∀ v∈cs,oneCell v=true:=by
 obtain ⟨nc,tc,rfl,h2,h3⟩:=h
 intro v hv
 simp only [List.mem_cons,List.mem_append] at hv
 rcases hv with rfl | rfl | hv | hv
 ·rfl
 ·rfl
 ·exact nd_one h2 v hv
 ·exact tk_one h3 v hv
structure Dn (w w':World) (lab lab':Nat→Nat) (q k y:Nat) (K':Kn) (e:Int) (a:AnsA) (v:Value):Prop where
 kp:Kp (fun x=>inK q (lab x)∨x=y) w w'
 old:∀ x,x<w.heap.size→lab' x=lab x
 new:∀ x,w.heap.size≤x→lab' x≠0→inK q (lab' x)
 kr:KR w' lab' q k K'
 er:e≠0→Flt w' v e
 ok:e=0→v=.nilIface∧∃ cs,Bk w' y cs 49∧AnsAt w' w.heap.size cs a
structure Cl (w:World) (lab:Nat→Nat) (q k y bx bo ba:Nat) (o:OpV) (Kk:Kn):Prop where
 kr:KR w lab q k Kk
 hx:Bk w bx [Pt k 0] 26
 ho:Bk w bo o.cells 39
 ha:Bk w ba [Pt y 0] 145
 hy:Bk w y (zAns 0) 49
 lx:lab bx=0
 lo:lab bo=0
 la:lab ba=0
 ly:lab y=0
section
variable {lab lab':Nat→Nat} {q k y bx bo ba:Nat} {o:OpV} {Kk K':Kn}
theorem KR.bd (h:KR w lab q k Kk):∀ x,lab x≠0→x<w.heap.size:=by obtain ⟨t,L,bk,m,p,nb,lf,hv⟩:=h; exact hv.bd
theorem Dn.no {e:Int} {v:Value} (hc:KR w lab q k Kk) (kp:Kp No w w') (he:e≠0) (hf:Flt w' v e) (a:AnsA):Dn w w' lab lab q k y Kk e a v :=
 ⟨kp.no _,fun _ _=>rfl,fun x hx hn=>by have:=hc.bd x hn; omega,hc.no kp,fun _=>hf,fun h=>absurd h he⟩
theorem Dn.st {e:Int} {v:Value} (hc:Cl w lab q k y bx bo ba o Kk) (st:Stp w w' lab lab' q) (hk:KR w' lab' q k K') (hf:Flt w' v e):Dn w w' lab lab' q k y K' e ans0 v:=by
 refine ⟨st.kp.mono fun _ _=>.inl,st.old,st.new,hk,fun _=>hf,fun he=>?_⟩
 rcases hf with ⟨_,rfl⟩ | ⟨h,_⟩
 ·exact ⟨rfl,zAns 0,st.kp.bk hc.hy (by rw [hc.ly]; unfold inK; omega),ans_z _ _ 0⟩
 ·exact absurd he h
theorem Stp.nz {x:Nat} (st:Stp w w' lab lab' q) {c:List Value} {T:TypeId} (hb:Bk w x c T) (hl:lab x=0):Bk w' x c T∧lab' x=0 :=
 ⟨st.kp.bk hb (by rw [hl]; unfold inK; omega),by rw [st.old x hb.lt,hl]⟩
theorem Dn.hd {e h:Int} {v:Value} {kk:World→Prop} (hc:Cl w lab q k y bx bo ba o Kk) (st:Stp w w' lab lab' q) (hk:KR w' lab' q k K') (hf:Flt w' v e) (hK:∀ w2,Dn w w2 lab lab' q k y K' e { ans0 with hd:=h } v→kk w2) :
  Sc ⟨y,1,none⟩ (I h) w' kk:=by
 obtain ⟨hy1,hl1⟩:=st.nz hc.hy hc.ly
 refine sc_k hy1 (by decide) rfl fun w2 k2 b2 s2=>hK w2 ?_
 have nin:¬ inK q (lab' y):=by rw [hl1]; unfold inK; omega
 refine ⟨(st.kp.mono fun _ _=>.inl).trans (k2.mono fun _ _ hx=>.inr hx),st.old,st.new,hk.kp k2 fun x hx he=>nin (he ▸ hx),fun he=>?_,fun he=>?_⟩
 ·rcases hf with ⟨h0,_⟩ | ⟨_,f,op,a,h1,h2⟩
  ·exact absurd h0 he
  ·exact .inr ⟨he,f,op,a,h1,k2.bk h2 (ne_of_bk h2 hy1 (fun e=>by injection e with _ e; simp at e))⟩
 ·rcases hf with ⟨_,rfl⟩ | ⟨h,_⟩
  ·exact ⟨rfl,_,b2,zN,zT,rfl,rfl,rfl⟩
  ·exact absurd he h
end
end
section
open Sy
variable {K:Ko} {w w':World} {lab:Nat→Nat} {q k y bx bo ba:Nat} {o:OpV} {Kk:Kn}
def eOf (r:Except Int Kn):Int:=match r with | .ok _=>0 | .error e=>e
def kOf (K:Kn) (r:Except Int Kn):Kn:=match r with | .ok K'=>K' | .error _=>K
noncomputable def ticksK:Nat→Kn→Int × Kn
 | 0,K=>(0,K)
 | n+1,K=>if K.now=1073741824 then (60,K) else ticksK n (tickK K)
def taskofA (K:Kn) (h x:Int):Int × AnsA:=match taskOfK K h x with
 | .error e=>(e,ans0)
 | .ok t=>(0,{ ans0 with tk:=some t })
def nodeA (K:Kn) (h:Int):Int × AnsA:=match getN K.n h with
 | none=>(20,ans0)
 | some (_,n)=>(0,{ ans0 with nd:=some (n,(K.g h).getD zE,kidsN K.n h,allS n.leaf 2 8) })
def taskA (K:Kn) (h p:Int):Int × AnsA × Kn:=match taskK K h p with
 | .error e=>(e,ans0,K)
 | .ok (x,K')=>(0,{ ans0 with hd:=x },K')
noncomputable def doK (K:Kn) (o:OpV):Int × AnsA × Kn :=
 if o.k=1 then ((createK K o.a o.q o.p).2.1,{ ans0 with hd:=(createK K o.a o.q o.p).1 },(createK K o.a o.q o.p).2.2)
 else if o.k=2 then (eOf (resizeK K o.a o.q o.p),ans0,kOf K (resizeK K o.a o.q o.p))
 else if o.k=3 then ((deleteK K o.a).1,ans0,(deleteK K o.a).2)
 else if o.k=4 then taskA K o.a o.n
 else if o.k=5 then (eOf (untaskK K o.a o.t),ans0,kOf K (untaskK K o.a o.t))
 else if o.k=6 then (eOf (jobK K o.a o.t ⟨o.jl,o.jc,o.ja,o.jd⟩),ans0,kOf K (jobK K o.a o.t ⟨o.jl,o.jc,o.ja,o.jd⟩))
 else if o.k=8 then ((nodeA K o.a).1,(nodeA K o.a).2,K)
 else if o.k=9 then ((taskofA K o.a o.t).1,(taskofA K o.a o.t).2,K)
 else ((ticksK o.n.toNat K).1,ans0,(ticksK o.n.toNat K).2)
theorem taskK_err {K:Kn} {h p e:Int} (hc:taskK K h p=.error e):e≠0:=by
 unfold taskK at hc
 split at hc
 ·split at hc
  ·rename_i ea; injection hc with hc; subst hc; exact addT_err ea
  ·cases hc
 ·split at hc
  ·injection hc with hc; omega
  ·split at hc
   ·injection hc with hc; omega
   ·split at hc
    ·rename_i ea; injection hc with hc; subst hc; exact addT_err ea
    ·cases hc
theorem dropT_err {S:Slots Tk} {kind x:Int} {n:Nat} {e:Int} (h:dropT S kind n x=.error e):e≠0:=by
 unfold dropT at h
 split at h
 ·injection h with h; omega
 ·cases h
theorem untaskK_err {K:Kn} {h x e:Int} (hc:untaskK K h x=.error e):e≠0:=by
 unfold untaskK at hc
 split at hc
 ·split at hc
  ·rename_i ea; injection hc with hc; subst hc; exact dropT_err ea
  ·cases hc
 ·split at hc
  ·injection hc with hc; omega
  ·split at hc
   ·injection hc with hc; omega
   ·cases hc
theorem jobK_err {K:Kn} {h x e:Int} {j:Jb} (hc:jobK K h x j=.error e):e≠0:=by
 unfold jobK at hc
 split at hc
 ·split at hc
  ·rename_i ea; injection hc with hc; subst hc; exact pushL_err ea
  ·cases hc
 ·split at hc
  ·injection hc with hc; omega
  ·split at hc
   ·rename_i ea; injection hc with hc; subst hc; exact pushL_err ea
   ·cases hc
theorem over_mid:∀ (a cs b c:List Value),cs.length=b.length→over (a++(b++c)) a.length cs=a++(cs++c):=by
 intro a cs b c h
 apply List.ext_getElem?
 intro k
 rw [over_get]
 by_cases h1:k<a.length
 ·rw [if_neg (by omega),List.getElem?_append_left h1,List.getElem?_append_left h1]
 ·by_cases h2:k<a.length+cs.length
  ·rw [if_pos ⟨by omega,by omega,by simp; omega⟩,List.getElem?_append_right (by omega),List.getElem?_append_left (by omega)]
  ·rw [if_neg (by omega),List.getElem?_append_right (by omega),List.getElem?_append_right (by omega),List.getElem?_append_right (by omega),List.getElem?_append_right (by omega),h]
theorem over_nd (cs:List Value) (h:cs.length=24):over (zAns 0) 2 cs=I 0 :: I 0 :: (cs++zT):=over_mid [I 0,I 0] cs zN zT (by rw [h]; rfl)
theorem over_tk (cs:List Value) (h:cs.length=8):over (zAns 0) 26 cs=I 0 :: I 0 :: (zN++cs):=by
 have:=over_mid (I 0 :: I 0 :: zN) cs zT [] (by rw [h]; rfl)
 rw [List.append_nil,List.append_nil] at this
 exact this
theorem ticks_succ (n:Nat) (K:Kn):ticksK (n+1) K=if K.now=1073741824 then (60,K) else ticksK n (tickK K):=rfl
theorem lo2 {w':World} (hb:Bk w' bo o.cells 39) (k:Array Value→Prop):La 2 ⟨bo,3,none⟩ w' k=k #[I o.q,I o.p]:=by rw [hb.la (by simp [OpV.cells])]; rfl
theorem lo4 {w':World} (hb:Bk w' bo o.cells 39) (k:Array Value→Prop):La 4 ⟨bo,5,none⟩ w' k=k #[I o.jl,I o.jc,I o.ja,I o.jd]:=by rw [hb.la (by simp [OpV.cells])]; rfl
theorem Cl.dr (hc:Cl w lab q k y bx bo ba o Kk) (d:Nat):Cl (dr w d) lab q k y bx bo ba o Kk:=⟨hc.kr.no (Kp.dr No w d),hc.hx,hc.ho,hc.ha,hc.hy,hc.lx,hc.lo,hc.la,hc.ly⟩
theorem Dn.dr {d:Nat} {lab':Nat→Nat} {K':Kn} {e:Int} {a:AnsA} {v:Value} (h:Dn (dr w d) w' lab lab' q k y K' e a v):Dn w w' lab lab' q k y K' e a v:=⟨h.kp.drL,h.old,h.new,h.kr,h.er,h.ok⟩
theorem k88 (hc:Cl w lab q k y bx bo ba o Kk) (hk:o.k=1) (hR:∀ v w' lab',Dn w w' lab lab' q k y (doK Kk o).2.2 (doK Kk o).1 (doK Kk o).2.1 v→K v w'):Ct Tryz.prog 88 #[Pt bx 0,Pt bo 0,Pt ba 0] w K:=by
 refine c88 ?_
 unfold F88 doK at *
 rw [if_pos hk] at hR
 simp only [SS,hc.ha.rd (o:=0) (v:=Pt y 0) rfl,hc.hx.rd (o:=0) (v:=Pt k 0) rfl,hc.ho.rd (o:=1) (v:=I o.a) rfl,lo2 hc.ho]
 have hcd:=hc.dr (w.drawn+1)
 refine k53 hcd.kr fun v w1 lab1 st hk1 hf=>?_
 simp only [SS,(st.nz hcd.ha hc.la).1.hc (o:=0) (v:=Pt y 0) rfl]
 exact Dn.hd hcd st hk1 hf fun w2 hd=>hR _ w2 lab1 hd.dr
theorem k89 (hc:Cl w lab q k y bx bo ba o Kk) (hk:o.k=2) (hR:∀ v w' lab',Dn w w' lab lab' q k y (doK Kk o).2.2 (doK Kk o).1 (doK Kk o).2.1 v→K v w'):Ct Tryz.prog 89 #[Pt bx 0,Pt bo 0] w K:=by
 refine c89 ?_
 unfold F89 doK at *
 rw [if_neg (by omega),if_pos hk] at hR
 simp only [SS,hc.hx.rd (o:=0) (v:=Pt k 0) rfl,hc.ho.rd (o:=1) (v:=I o.a) rfl,lo2 hc.ho]
 refine k90 hc.kr ?_
 cases e:resizeK Kk o.a o.q o.p with
 | error er =>
  rw [e] at hR
  intro v w1 k1 hf
  exact hR v w1 lab (Dn.no hc.kr k1 (resizeK_err e) hf _)
 | ok K' =>
  rw [e] at hR
  intro w1 st hk1
  exact hR _ w1 lab (Dn.st hc st hk1 (Flt.nil _))
theorem k91 (hc:Cl w lab q k y bx bo ba o Kk) (hk:o.k=3) (hR:∀ v w' lab',Dn w w' lab lab' q k y (doK Kk o).2.2 (doK Kk o).1 (doK Kk o).2.1 v→K v w'):Ct Tryz.prog 91 #[Pt bx 0,Pt bo 0] w K:=by
 refine c91 ?_
 unfold F91 doK at *
 rw [if_neg (by omega),if_neg (by omega),if_pos hk] at hR
 simp only [SS,hc.hx.rd (o:=0) (v:=Pt k 0) rfl,hc.ho.rd (o:=1) (v:=I o.a) rfl]
 exact k92 hc.kr fun v w1 st hk1 hf=>hR v w1 lab (Dn.st hc st hk1 hf)
theorem k93 (hc:Cl w lab q k y bx bo ba o Kk) (hk:o.k=4) (hR:∀ v w' lab',Dn w w' lab lab' q k y (doK Kk o).2.2 (doK Kk o).1 (doK Kk o).2.1 v→K v w'):Ct Tryz.prog 93 #[Pt bx 0,Pt bo 0,Pt ba 0] w K:=by
 refine c93 ?_
 unfold F93 doK at *
 rw [if_neg (by omega),if_neg (by omega),if_neg (by omega),if_pos hk] at hR
 simp only [SS,hc.ha.rd (o:=0) (v:=Pt y 0) rfl,hc.hx.rd (o:=0) (v:=Pt k 0) rfl,hc.ho.rd (o:=1) (v:=I o.a) rfl,hc.ho.rd (o:=9) (v:=I o.n) rfl]
 have hcd:=hc.dr (w.drawn+1)
 refine k54 hcd.kr ?_
 unfold taskA at hR
 cases e:taskK Kk o.a o.n with
 | error er =>
  rw [e] at hR
  intro v w1 k1 hf
  have ha1:Bk w1 ba [Pt y 0] 145:=k1.bk hcd.ha id
  simp only [SS,ha1.hc (o:=0) (v:=Pt y 0) rfl]
  have hne:er≠0:=taskK_err e
  exact Dn.hd hcd (Stp.no k1 hcd.kr.bd) (hcd.kr.no k1) hf fun w2 hd=>hR _ w2 lab ⟨hd.dr.kp,hd.old,hd.new,hd.kr,hd.er,fun h=>absurd h hne⟩
 | ok r =>
  obtain ⟨x,K'⟩:=r
  rw [e] at hR
  intro w1 lab1 st hk1
  simp only [SS,(st.nz hcd.ha hc.la).1.hc (o:=0) (v:=Pt y 0) rfl]
  exact Dn.hd hcd st hk1 (Flt.nil _) fun w2 hd=>hR _ w2 lab1 hd.dr
theorem k94 (hc:Cl w lab q k y bx bo ba o Kk) (hk:o.k=5) (hR:∀ v w' lab',Dn w w' lab lab' q k y (doK Kk o).2.2 (doK Kk o).1 (doK Kk o).2.1 v→K v w'):Ct Tryz.prog 94 #[Pt bx 0,Pt bo 0] w K:=by
 refine c94 ?_
 unfold F94 doK at *
 rw [if_neg (by omega),if_neg (by omega),if_neg (by omega),if_neg (by omega),if_pos hk] at hR
 simp only [SS,hc.hx.rd (o:=0) (v:=Pt k 0) rfl,hc.ho.rd (o:=1) (v:=I o.a) rfl,hc.ho.rd (o:=2) (v:=I o.t) rfl]
 refine k95 hc.kr ?_
 cases e:untaskK Kk o.a o.t with
 | error er =>
  rw [e] at hR
  intro v w1 k1 hf
  exact hR v w1 lab (Dn.no hc.kr k1 (untaskK_err e) hf _)
 | ok K' =>
  rw [e] at hR
  intro w1 lab1 st hk1
  exact hR _ w1 lab1 (Dn.st hc st hk1 (Flt.nil _))
theorem k96 (hc:Cl w lab q k y bx bo ba o Kk) (hk:o.k=6) (hR:∀ v w' lab',Dn w w' lab lab' q k y (doK Kk o).2.2 (doK Kk o).1 (doK Kk o).2.1 v→K v w'):Ct Tryz.prog 96 #[Pt bx 0,Pt bo 0] w K:=by
 refine c96 ?_
 unfold F96 doK at *
 rw [if_neg (by omega),if_neg (by omega),if_neg (by omega),if_neg (by omega),if_neg (by omega),if_pos hk] at hR
 simp only [SS,hc.hx.rd (o:=0) (v:=Pt k 0) rfl,hc.ho.rd (o:=1) (v:=I o.a) rfl,hc.ho.rd (o:=2) (v:=I o.t) rfl,lo4 hc.ho]
 refine k97 (j:=⟨o.jl,o.jc,o.ja,o.jd⟩) hc.kr ?_
 cases e:jobK Kk o.a o.t ⟨o.jl,o.jc,o.ja,o.jd⟩ with
 | error er =>
  rw [e] at hR
  intro v w1 k1 hf
  exact hR v w1 lab (Dn.no hc.kr k1 (jobK_err e) hf _)
 | ok K' =>
  rw [e] at hR
  intro w1 lab1 st hk1
  exact hR _ w1 lab1 (Dn.st hc st hk1 (Flt.nil _))
theorem k98 (hc:Cl w lab q k y bx bo ba o Kk) (hk:o.k=8) (hR:∀ v w' lab',Dn w w' lab lab' q k y (doK Kk o).2.2 (doK Kk o).1 (doK Kk o).2.1 v→K v w'):Ct Tryz.prog 98 #[Pt bx 0,Pt bo 0,Pt ba 0] w K:=by
 refine c98 ?_
 unfold F98 doK at *
 rw [if_neg (by omega),if_neg (by omega),if_neg (by omega),if_neg (by omega),if_neg (by omega),if_neg (by omega),if_pos hk] at hR
 simp only [SS,hc.ha.rd (o:=0) (v:=Pt y 0) rfl,hc.hx.rd (o:=0) (v:=Pt k 0) rfl,hc.ho.rd (o:=1) (v:=I o.a) rfl]
 have hcd:=hc.dr (w.drawn+1)
 have nin:¬ inK q (lab y):=by rw [hc.ly]; unfold inK; omega
 refine k71 hcd.kr ?_
 unfold nodeA at hR
 cases e:getN Kk.n o.a with
 | none =>
  rw [e] at hR
  intro v w1 k1 hf
  have ha1:Bk w1 ba [Pt y 0] 145:=k1.bk hcd.ha id
  have hy1:Bk w1 y (zAns 0) 49:=k1.bk hcd.hy id
  simp only [SS,ha1.hc (o:=0) (v:=Pt y 0) rfl]
  refine sa_k hy1 rfl (by decide) (toldN_one _ _ _ _ _ _ _ _) fun w2 k2 b2 s2=>?_
  refine hR _ w2 lab ⟨(k1.drL.no _).trans (k2.mono fun _ _ hx=>.inr hx),fun _ _=>rfl,fun x hx hn=>by have:=hc.kr.bd x hn; omega,(hcd.kr.no k1).kp k2 fun x hx he=>nin (he ▸ hx),fun _=>?_,fun h=>absurd (show (20:Int)=0 from h) (by decide)⟩
  rcases hf with ⟨h0,_⟩ | ⟨h0,f,op,a,h1,h2⟩
  ·omega
  ·exact .inr ⟨h0,f,op,a,h1,k2.bk h2 (ne_of_bk h2 hy1 (fun e=>by injection e with _ e; simp at e))⟩
 | some r =>
  obtain ⟨i,n⟩:=r
  rw [e] at hR
  intro ka kl kc ta tl tc w1 k1 ho1 ho2
  have ha1:Bk w1 ba [Pt y 0] 145:=k1.bk hcd.ha id
  have hy1:Bk w1 y (zAns 0) 49:=k1.bk hcd.hy id
  have hylt:=hc.hy.lt
  simp only [SS,ha1.hc (o:=0) (v:=Pt y 0) rfl]
  refine sa_k hy1 rfl (by decide) (toldN_one _ _ _ _ _ _ _ _) fun w2 k2 b2 s2=>?_
  refine hR _ w2 lab ⟨(k1.drL.no _).trans (k2.mono fun _ _ hx=>.inr hx),fun _ _=>rfl,fun x hx hn=>by have:=hc.kr.bd x hn; omega,(hcd.kr.no k1).kp k2 fun x hx he=>nin (he ▸ hx),fun h=>absurd rfl h,fun _=>⟨rfl,_,b2,?_⟩⟩
  rw [over_nd _ rfl]
  exact ⟨_,zT,rfl,⟨ka,kl,kc,ta,tl,tc,rfl,own_kp ho1 k2 fun b hb e=>by have:=(own_lt ho1 hb).1; simp only [dr_heap] at this; omega,own_kp ho2 k2 fun b hb e=>by have:=(own_lt ho2 hb).1; simp only [dr_heap] at this; omega⟩,rfl⟩
theorem k99 (hc:Cl w lab q k y bx bo ba o Kk) (hk:o.k=9) (hR:∀ v w' lab',Dn w w' lab lab' q k y (doK Kk o).2.2 (doK Kk o).1 (doK Kk o).2.1 v→K v w'):Ct Tryz.prog 99 #[Pt bx 0,Pt bo 0,Pt ba 0] w K:=by
 refine c99 ?_
 unfold F99 doK at *
 rw [if_neg (by omega),if_neg (by omega),if_neg (by omega),if_neg (by omega),if_neg (by omega),if_neg (by omega),if_neg (by omega),if_pos hk] at hR
 simp only [SS,hc.ha.rd (o:=0) (v:=Pt y 0) rfl,hc.hx.rd (o:=0) (v:=Pt k 0) rfl,hc.ho.rd (o:=1) (v:=I o.a) rfl,hc.ho.rd (o:=2) (v:=I o.t) rfl]
 have hcd:=hc.dr (w.drawn+1)
 have nin:¬ inK q (lab y):=by rw [hc.ly]; unfold inK; omega
 refine k73 hcd.kr ?_
 unfold taskofA at hR
 cases e:taskOfK Kk o.a o.t with
 | error er =>
  rw [e] at hR
  have hne:er≠0:=by
   unfold taskOfK at e
   split at e
   ·split at e
    ·injection e with e; omega
    ·cases e
   ·split at e
    ·injection e with e; omega
    ·split at e
     ·injection e with e; omega
     ·cases e
  intro v w1 k1 hf
  have ha1:Bk w1 ba [Pt y 0] 145:=k1.bk hcd.ha id
  have hy1:Bk w1 y (zAns 0) 49:=k1.bk hcd.hy id
  simp only [SS,ha1.hc (o:=0) (v:=Pt y 0) rfl]
  refine sa_k hy1 rfl (by decide) (by simp [zT,oneCell]) fun w2 k2 b2 s2=>?_
  refine hR _ w2 lab ⟨(k1.drL.no _).trans (k2.mono fun _ _ hx=>.inr hx),fun _ _=>rfl,fun x hx hn=>by have:=hc.kr.bd x hn; omega,(hcd.kr.no k1).kp k2 fun x hx he=>nin (he ▸ hx),fun _=>?_,fun h=>absurd h hne⟩
  rcases hf with ⟨h0,_⟩ | ⟨h0,f,op,a,h1,h2⟩
  ·exact absurd h0 hne
  ·exact .inr ⟨h0,f,op,a,h1,k2.bk h2 (ne_of_bk h2 hy1 (fun e=>by injection e with _ e; simp at e))⟩
 | ok t =>
  rw [e] at hR
  intro v w1 k1 ht hfr
  have ha1:Bk w1 ba [Pt y 0] 145:=k1.bk hcd.ha id
  have hy1:Bk w1 y (zAns 0) 49:=k1.bk hcd.hy id
  have hylt:=hc.hy.lt
  simp only [SS,ha1.hc (o:=0) (v:=Pt y 0) rfl]
  refine sa_k hy1 rfl (by simp [zAns,zN,toldN,zB,zE,zA,Bg.cells,Ac.cells,zT]) (by simpa using v.one) fun w2 k2 b2 s2=>?_
  refine hR _ w2 lab ⟨(k1.drL.no _).trans (k2.mono fun _ _ hx=>.inr hx),fun _ _=>rfl,fun x hx hn=>by have:=hc.kr.bd x hn; omega,(hcd.kr.no k1).kp k2 fun x hx he=>nin (he ▸ hx),fun h=>absurd rfl h,fun _=>⟨rfl,_,b2,?_⟩⟩
  rw [over_tk _ v.len]
  refine ⟨zN,v.cells,rfl,rfl,v,rfl,ht.kp k2 fun a ha e=>?_,fun a ha=>hfr a ha⟩
  have:=hfr a ha
  simp only [dr_heap] at this
  omega
theorem k100 (hc:Cl w lab q k y bx bo ba o Kk) (hk:o.k=7) (h1:1≤o.n) (h4:o.n≤4096) (hR:∀ v w' lab',Dn w w' lab lab' q k y (doK Kk o).2.2 (doK Kk o).1 (doK Kk o).2.1 v→K v w'):Ct Tryz.prog 100 #[Pt bx 0,Pt bo 0] w K:=by
 refine c100 ?_
 unfold F100 doK at *
 rw [if_neg (by omega),if_neg (by omega),if_neg (by omega),if_neg (by omega),if_neg (by omega),if_neg (by omega),if_neg (by omega),if_neg (by omega)] at hR
 simp only [SS,hc.hx.rd (o:=0) (v:=Pt k 0) rfl,hc.ho.rd (o:=9) (v:=I o.n) rfl]
 obtain ⟨n,hn⟩:∃ n:Nat,o.n=n:=⟨o.n.toNat,by omega⟩
 rw [hn] at hR ⊢
 rw [Int.toNat_natCast] at hR
 unfold F100_0
 refine ⟨fun x3 x9 x10 w'=>.func (.func 101) #[Pt k 0] #[]=x3∧x9=n∧∃ (i:Nat) (lab1:Nat→Nat) (Kc:Kn),x10=i∧i≤n∧Stp w w' lab lab1 q∧KR w' lab1 q k Kc∧ticksK n Kk=ticksK (n - i) Kc,fun _ _ x10 _=>n - x10.toNat,
  ⟨rfl,rfl,0,lab,Kk,rfl,Nat.zero_le _,Stp.no (Kp.refl _ _) hc.kr.bd,hc.kr,rfl⟩,?_⟩
 rintro _ _ _ w1 ⟨rfl,rfl,i,lab1,Kc,rfl,hi,st,hk1,ht⟩
 unfold F100_0B
 simp only [SS]
 by_cases e1:i<n
 ·rw [if_pos (by omega)]
  obtain ⟨m,hm⟩:∃ m,n - i=m+1:=⟨n - i - 1,by omega⟩
  rw [hm] at ht
  refine ⟨by kernel_rfl,?_⟩
  have e101:(#[Pt k 0]++#[]++#[]:Array Value)=#[Pt k 0]:=by simp
  rw [e101]
  refine k101 hk1 ?_
  rw [ticks_succ] at ht
  by_cases e2:Kc.now=1073741824
  ·rw [if_pos e2] at ht ⊢
   intro v w2 k2 hf
   rcases hf with ⟨h0,_⟩ | ⟨h0,f,op,a,rfl,hb⟩
   ·omega
   simp only [SS]
   rw [ht] at hR
   exact hR _ w2 lab1 (Dn.st hc (st.tail k2) (hk1.no k2) (.inr ⟨h0,f,op,a,rfl,hb⟩))
  ·rw [if_neg e2] at ht ⊢
   intro a l c w2 lab2 st2 hk2
   simp only [SS]
   rw [cast_succ _ (by omega)]
   exact ⟨⟨i+1,lab2,tickK Kc,rfl,by omega,st.trans st2,hk2,by rw [ht]; congr 1; omega⟩,by simp; omega⟩
 ·rw [if_neg (by omega)]
  have e0:n - i=0:=by omega
  rw [e0] at ht
  rw [ht] at hR
  exact hR _ w1 lab1 (Dn.st hc st hk1 (Flt.nil _))
end
end Go.Proofs.YtbgbidpecmepmaaGreatDoor
