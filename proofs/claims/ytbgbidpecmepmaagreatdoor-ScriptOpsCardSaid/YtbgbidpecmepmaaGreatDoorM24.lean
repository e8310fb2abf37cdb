/-
  The library's functions that works comes to; Texts built; Answers told; A task told; an answer told; Words read: names, paths, numbers, pairs.
-/
import Derived.Test.YtbgbidpecmepmaaGreatDoorM22
import Derived.Test.YtbgbidpecmepmaaGreatDoorXI2
import Derived.Lib.AppendStr
import Derived.Lib.AtoiErrMem
import GoSem.Extern.AbiNoEscape
import Derived.Lib.OthersKept
set_option maxRecDepth 100000
namespace Go.Proofs.YtbgbidpecmepmaaGreatDoor
section
open Sy
def F328 (R:Ko) (x0:Option Addr) (w:World):Prop:=onSome x0 fun x3=>Lc (x3.add 0) w fun v5=>onP v5 fun x5=>Ifm x5.isNone (Rd Tryz.prog (Go.convert 400 316 (.pointer x0)) w fun v9=>Rx Tryz.prog 373 #[v9] w fun v10 w1=>Rd Tryz.prog (Go.convert 316 400 v10) w1 fun v11=>onP v11 fun x11=>onSome x0 fun x12=>Sc (x12.add 0) (.pointer x11) w1 fun w2=>R (.tuple #[]) w2) (onSome x0 fun x15=>Lc (x15.add 0) w fun v17=>onP v17 fun x17=>Rd Tryz.prog (Bin .neq 400 (.tmp 17) (.tmp 18) (.pointer x17) (.pointer x0)) w fun v19=>onB v19 fun x19=>Ifm x19 (False) (R (.tuple #[]) w))
noncomputable def b328:Code:=Tryz.f328.body.getD .skip
theorem c328 {R:Ko} {x0:Option Addr} {w:World} (h:F328 R x0 w):Ct Tryz.prog 328 #[.pointer x0] w R :=
 ctS (args:=[.pointer x0]) (body:=b328) (n:=20) (rs:=[]) Tryz.func328
  (sg (cuts:=[]) trivial h)
def F245 (R:Ko) (x0:Option Addr) (x1:ByteArray) (w:World):Prop:=Ct Tryz.prog 328 #[.pointer x0] w fun v7 w1=>onSome x0 fun x10=>Lc (x10.add 1) w1 fun v12=>onL v12 fun a12 l12 c12=>Rv Tryz.prog (Builtin.append_ #[401,9] 401 #[.slice a12 l12 c12,.string x1]) w1 fun v14 w2=>onL v14 fun a14 l14 c14=>onSome x0 fun x15=>Sc (x15.add 1) (.slice a14 l14 c14) w2 fun w3=>R (.tuple #[.int .i64 (x1.size:Nat),.nilIface]) w3
noncomputable def b245:Code:=Tryz.f245.body.getD .skip
theorem c245 {R:Ko} {x0:Option Addr} {x1:ByteArray} {w:World} (h:F245 R x0 x1 w):Ct Tryz.prog 245 #[.pointer x0,.string x1] w R :=
 ctS (args:=[.pointer x0,.string x1]) (body:=b245) (n:=19) (rs:=[.tmp 4,.tmp 5]) Tryz.func245
  (sg (cuts:=[]) trivial h)
def F253 (R:Ko) (x0:Option Addr) (x1:Int) (w:World):Prop:=Ct Tryz.prog 328 #[.pointer x0] w fun v6 w1=>onSome x0 fun x9=>Lc (x9.add 1) w1 fun v11=>onL v11 fun a11 l11 c11=>Rv Tryz.prog (Instr.buildSlice 401 1 #[(0,.int .u8 x1)]) w1 fun v13 w2=>onL v13 fun a13 l13 c13=>Rv Tryz.prog (Builtin.append_ #[401,401] 401 #[.slice a11 l11 c11,.slice a13 l13 c13]) w2 fun v14 w3=>onL v14 fun a14 l14 c14=>onSome x0 fun x15=>Sc (x15.add 1) (.slice a14 l14 c14) w3 fun w4=>R (.nilIface) w4
noncomputable def b253:Code:=Tryz.f253.body.getD .skip
theorem c253 {R:Ko} {x0:Option Addr} {x1:Int} {w:World} (h:F253 R x0 x1 w):Ct Tryz.prog 253 #[.pointer x0,.int .u8 x1] w R :=
 ctS (args:=[.pointer x0,.int .u8 x1]) (body:=b253) (n:=17) (rs:=[.tmp 4]) Tryz.func253
  (sg (cuts:=[]) trivial h)
def F233 (R:Ko) (x0:Int) (w:World):Prop:=Ifm ((x0:Int) == 32) (R (.bool true) w) (R (.bool ((x0:Int) == 9)) w)
noncomputable def b233:Code:=Tryz.f233.body.getD .skip
theorem c233 {R:Ko} {x0:Int} {w:World} (h:F233 R x0 w):Ct Tryz.prog 233 #[.int .i32 x0] w R :=
 ctS (args:=[.int .i32 x0]) (body:=b233) (n:=9) (rs:=[.tmp 2]) Tryz.func233
  (sg (cuts:=[]) trivial h)
variable {K:Ko} {w w':World}
open Go.RowKit
theorem ct_calls {f:FuncId} {args:Array Value} {R:Ending→World→Prop} (h:Calls Tryz.prog f args w R) (hk:∀ e w',R e w'→match e with | .returned v=>K v w' | _=>False):Ct Tryz.prog f args w K:=h.mono hk
theorem kp_below {B:Nat} (hb:Below B w w') (hB:w.heap.size≤B):Kp No w w':=⟨hb.os,hb.tape,hb.output,hb.size,fun k hk _=>hb.block k (by omega)⟩
theorem kp_drewN (w:World) (n:Nat):Kp No w (w.drewN n):=⟨rfl,rfl,rfl,Nat.le_refl _,fun _ _ _=>rfl⟩
def M0 (w:World):Prop:=∃ m:Int,w.cell? ⟨2,0,none⟩=some (I m)
theorem M0.kp {S:Nat→Prop} (h:M0 w) (k:Kp S w w') (hs:¬ S 2):M0 w':=by
 obtain ⟨m,hm⟩:=h
 refine ⟨m,(cell_kp k ?_ hs).trans hm⟩
 by_cases e:2<w.heap.size
 ·exact e
 ·unfold World.cell? at hm
  rw [Array.getElem?_eq_none (by simpa using e)] at hm
  cases hm
theorem k155 {s sep a b:ByteArray} {is:Bool} (hm:M0 w) (hs:s.size<4294967281) (h:Lib.cut s.data.toList sep.data.toList=(a.data.toList,b.data.toList,is)) (hR:∀ w',Kp No w w'→K (.tuple #[.string a,.string b,.bool is]) w'):Ct Tryz.prog 155 #[.string s,.string sep] w K:=by
 obtain ⟨m,hm⟩:=hm
 refine ct_calls (Tryz.strings_Cut s sep m w hs hm) ?_
 rintro _ _ ⟨rfl,n,rfl⟩
 rw [h]
 exact hR _ (kp_drewN w n)
theorem k157 {s p a:ByteArray} (hs:s.size<4294967281) (h:Lib.trimSuffix s.data.toList p.data.toList=a.data.toList) (hR:K (.string a) w):Ct Tryz.prog 157 #[.string s,.string p] w K:=by
 refine ct_calls (Tryz.strings_TrimSuffix s p w (by omega)) ?_
 rintro _ _ ⟨rfl,rfl⟩
 rw [h]
 exact hR
theorem k34 {i:Nat} (hi:i<100) (hR:K (.string ⟨(Lib.decDigits i).toArray⟩) w):Ct Tryz.prog 34 #[I i] w K:=by
 refine ct_calls (Tryz.strconv_Itoa_small i hi w) ?_
 rintro _ _ ⟨rfl,rfl⟩
 exact hR
theorem k394 {s:ByteArray} {n:Int} (hl:s.size≤18) (h:Lib.atoi s.data.toList=some n) (hR:∀ w',Kp No w w'→K (.tuple #[I n,.nilIface]) w'):Ct Tryz.prog 394 #[.string s] w K:=by
 refine ct_calls (Tryz.strconv_Atoi s n hl h w) ?_
 rintro _ _ ⟨rfl,t,rfl⟩
 exact hR _ (kp_below (Go.Lib.bytesWorld_below w 5 t) (Nat.le_refl _))
theorem k392 {s sep:ByteArray} {ps:List ByteArray} {n:Nat} (hm:M0 w) (hs:s.size<4294967281) (h1:1≤sep.size) (hn:Lib.countB s sep+1=n) (hp:Lib.splitB sep 0 (Lib.countB s sep) s=ps) (hl:ps.length=n) (hR:∀ w',Kp No w w'→w'.ownsRow w.heap.size 9 1 (.slice (some ⟨w.heap.size,0,none⟩) n n) n (strs ps)→K (.slice (some ⟨w.heap.size,0,none⟩) n n) w') (hn2:n≤1000):Ct Tryz.prog 392 #[.string s,.string sep] w K:=by
 obtain ⟨m,hm⟩:=hm
 refine ct_calls (Tryz.strings_Split s sep m w hs hm h1) ?_
 rintro _ _ ⟨rfl,rfl⟩
 rw [hn,hp]
 refine hR _ (Kp.alloc _ _ _) ⟨by simp [strs,hl],.inr ⟨w.heap.size,n,(ps.map Value.string).toArray,rfl,Nat.le_refl _,heap_alloc_new w _,Nat.le_refl _,by unfold maxLen; omega,by simp [hl],?_⟩⟩
 rw [← hl,Nat.mul_one]
 exact List.take_of_length_le (by simp [strs])
def blank (x:Nat):Bool:=(x:Int) == 32 || (x:Int) == 9
theorem k232 {s:ByteArray} {ps:List ByteArray} (hs:s.size≤4294967296) (hp:Lib.goFieldsP blank s=ps) (hR:∀ A w',Kp No w w'→w'.ownsRow w.heap.size 9 1 (.slice (some ⟨A,0,none⟩) ps.length ps.length) ps.length (strs ps)→K (.slice (some ⟨A,0,none⟩) ps.length ps.length) w'):Ct Tryz.prog 232 #[.string s,.func (.func 233) #[] #[]] w K:=by
 have hpr:PredAtRunes Tryz.prog 233 #[] blank w:=by
  intro W x hx hb
  unfold FnGives
  have:Ct Tryz.prog 233 #[.int .i32 (x:Nat)] W fun v w'=>v=.bool (blank x)∧w'=W:=by
   refine c233 ?_
   unfold F233 blank
   cases e:((x:Int) == 32) with
   | true=>exact ⟨rfl,rfl⟩
   | false=>exact ⟨rfl,rfl⟩
  have this:Calls Tryz.prog 233 #[.int .i32 (x:Nat)] W _:=this
  show Calls Tryz.prog 233 #[.int .i32 (x:Nat)] W _
  refine this.mono fun e w' h=>?_
  cases e with
  | returned v=>exact ⟨by rw [h.1],0,by rw [h.2]; rfl⟩
  | _=>exact h.elim
 refine ct_calls (Tryz.strings_FieldsFunc_runes 233 #[] (enters_of Tryz.func233 (by kernel_rfl) rfl) blank s w hs hpr) ?_
 rintro _ w' ⟨A,rfl,hA,ho,hb⟩
 rw [hp] at ho ⊢
 exact hR A w' (kp_below hb (Nat.le_refl _)) ho
end
section
open Sy
def F252 (R:Ko) (x0:Option Addr) (w:World):Prop:=onSome x0 fun x4=>Lc (x4.add 1) w fun v6=>onL v6 fun a6 l6 c6=>R (.int .i64 (l6:Nat)) w
noncomputable def b252:Code:=Tryz.f252.body.getD .skip
theorem c252 {R:Ko} {x0:Option Addr} {w:World} (h:F252 R x0 w):Ct Tryz.prog 252 #[.pointer x0] w R :=
 ctS (args:=[.pointer x0]) (body:=b252) (n:=8) (rs:=[.tmp 2]) Tryz.func252
  (sg (cuts:=[]) trivial h)
variable {K:Ko} {w w':World}
open Go.RowKit
structure BuA (w:World) (B b:Nat) (p a:Option Addr) (n c:Nat) (l:List UInt8):Prop where
 hB:B≤b
 hd:Bk w b [.pointer p,.slice a n c] 403
 row:w.ownsRow B 5 1 (.slice a n c) l.length (Lib.byteCells l)
 ne:(Value.slice a n c).ownBlock≠some b
def Bu (w:World) (B b:Nat) (l:List UInt8):Prop:=∃ p a n c,BuA w B b p a n c l∧(p=none∨p=some ⟨b,0,none⟩)
theorem Bu.no {B b:Nat} {l:List UInt8} (h:Bu w B b l) (k:Kp No w w'):Bu w' B b l:=by
 obtain ⟨p,a,n,c,h,hp⟩:=h
 exact ⟨p,a,n,c,⟨h.hB,k.bk h.hd id,own_kp h.row k fun _ _=>id,h.ne⟩,hp⟩
def Byt (w:World) (B b y:Nat):Prop:=B≤y∧(y=b∨∃ c,w.heap[y]?=some (.cells c 5 (0,0)))
theorem byt_trans {B b:Nat} {w1 w2:World} (h:Kp (Byt w B b) w w1) (k:Kp (Byt w1 B b) w1 w2):Kp (Byt w B b) w w2 :=
 h.step k fun i hi ⟨h1,h2⟩=>by
  refine Classical.byContradiction fun hn=>?_
  rcases h2 with rfl | ⟨c,hc⟩
  ·exact hn ⟨h1,.inl rfl⟩
  ·rw [h.block i hi hn] at hc
   exact hn ⟨h1,.inr ⟨c,hc⟩⟩
theorem byt_own {B b n l c:Nat} {a:Option Addr} {xs:List Value} (h:w.ownsRow B 5 1 (.slice a l c) n xs) {y:Nat} (hy:(Value.slice a l c).ownBlock=some y):Byt w B b y:=by
 rcases own_bk h with ⟨rfl,_⟩ | ⟨g,cur,rfl,_,hg,hb,_⟩
 ·cases hy
 ·injection hy with hy
  have hy:g=y:=hy
  subst hy
  exact ⟨hg,.inr ⟨_,hb⟩⟩
theorem i403:∃ j,Tryz.prog.info? 403=some j∧j.size≠0:=⟨(Tryz.prog.info? 403).getD default,by kernel_rfl,by decide +kernel⟩
theorem conv1 {b:Nat} {c:List Value} (h:Bk w b c 403) (h0:0<c.length) (k:Value→Prop):Rd Tryz.prog (Go.convert 400 316 (Pt b 0)) w k=k (Pt b 0):=by
 obtain ⟨j,hj,hz⟩:=i403
 exact Rd_ok (Lib.run_to_unsafe (e:=403) (cells:=c.length) w ⟨b,0,none⟩ (t:=403) (by kernel_rfl) (by kernel_rfl) hj hz (by simp [World.shape?,h]) h0) k
theorem conv2 {b:Nat} {c:List Value} (h:Bk w b c 403) (h0:c.length=2) (k:Value→Prop):Rd Tryz.prog (Go.convert 316 400 (Pt b 0)) w k=k (Pt b 0):=by
 obtain ⟨j,hj,hz⟩:=i403
 exact Rd_ok (Lib.run_from_unsafe (e:=403) (cells:=2) w ⟨b,0,none⟩ (u:=403) (by kernel_rfl) (by kernel_rfl) hj (by simp [World.shape?,h,h0]) (by kernel_rfl)) k
theorem x373 (v:Value) (w:World):(callFunc 373 #[v]).run Tryz.prog w=.ok (.value v) w:=by
 rw [run_callFunc_extern Tryz.func373 (by kernel_rfl) (by kernel_rfl) (by kernel_rfl) (e:=Extern.AbiNoEscape.same) (by kernel_rfl)]
 rfl
theorem k328 {B b:Nat} {l:List UInt8} (h:Bu w B b l) (hR:∀ a n c w',Kp (·=b) w w'→BuA w' B b (some ⟨b,0,none⟩) a n c l→K (.tuple #[]) w'):Ct Tryz.prog 328 #[Pt b 0] w K:=by
 refine c328 ?_
 unfold F328
 obtain ⟨p,a,n,c,h,hp⟩:=h
 simp only [SS,h.hd.rd (o:=0) (v:=.pointer p) rfl]
 rcases hp with rfl | rfl
 ·simp only [SS]
  rw [conv1 h.hd (by simp)]
  refine ⟨_,_,x373 _ w,?_⟩
  show Rd Tryz.prog (Go.convert 316 400 (Pt b 0)) w _
  rw [conv2 h.hd rfl]
  simp only [SS]
  refine sc_k h.hd (by simp) rfl fun w1 k1 b1 s1=>?_
  exact hR a n c w1 k1 ⟨h.hB,b1,own_kp h.row k1 fun b' hb e=>h.ne (by rw [hb,e]),h.ne⟩
 ·simp only [SS]
  rw [neq_ptr' _ _ _ _ _ (by kernel_rfl)]
  simp only [SS]
  exact hR a n c w (Kp.refl _ _) h
theorem e401:∃ i z,Elem Tryz.prog 401 5 1 i z:=elemB_of (by kernel_rfl)
theorem z401:∃ i,Tryz.prog.info? 5=some i∧i.zero=some (.int .u8 0)∧i.size=1∧i.bytes=1:=⟨(Tryz.prog.info? 5).getD default,by kernel_rfl,by kernel_rfl,by kernel_rfl,by kernel_rfl⟩
theorem k253 {B b:Nat} {l:List UInt8} {x:UInt8} (h:Bu w B b l) (hB:B≤w.heap.size) (hl:l.length<1000) (hR:∀ w',Kp (Byt w B b) w w'→Bu w' B b (l++[x])→K .nilIface w'):Ct Tryz.prog 253 #[Pt b 0,.int .u8 x.toNat] w K:=by
 refine c253 ?_
 unfold F253
 obtain ⟨i,z,E⟩:=e401
 refine k328 h fun a n c w1 k1 h1=>?_
 have hle:=h1.hB
 simp only [SS,h1.hd.rd (o:=1) (v:=.slice a n c) rfl]
 refine app1 E h1.row (by have:=k1.size; omega) (by omega) (x:=.int .u8 x.toNat) rfl (by simp [Value.cells,Value.oneCell']) fun g c' w2 hg ho hk=>?_
 have b2:Bk w2 b [.pointer (some ⟨b,0,none⟩),.slice a n c] 403:=hk.bk h1.hd (fun e=>h1.ne e)
 have k02:Kp (Byt w B b) w w2:=byt_trans (k1.mono fun y _ e=>⟨by omega,.inl e⟩) (hk.mono fun y _ e=>byt_own h1.row e)
 refine sc_k b2 (by simp) rfl fun w3 k3 b3 s3=>?_
 have hgb:g≠b:=by
  rcases own_bk ho with ⟨h',_⟩ | ⟨g',cur,hg',_,_,hb,_⟩
  ·cases h'
  ·simp only [Option.some.injEq,Addr.mk.injEq,and_true] at hg'
   subst hg'
   exact ne_of_bk hb b2 fun e=>by injection e with _ e; cases e
 refine hR w3 (byt_trans k02 (k3.mono fun y _ e=>⟨by omega,.inl e⟩)) ⟨_,_,_,_,⟨h1.hB,b3,?_,fun e=>?_⟩,.inr rfl⟩
 ·have:=own_kp ho k3 fun b' hb e=>hgb (by injection hb with hb; exact hb.trans e)
  simpa [Lib.byteCells,Value.cells] using this
 ·injection e with e; exact hgb e
theorem k245 {B b:Nat} {l:List UInt8} {s:ByteArray} (h:Bu w B b l) (hB:B≤w.heap.size) (hl:l.length<1000) (hs:s.size<1000) (hR:∀ w',Kp (Byt w B b) w w'→Bu w' B b (l++s.data.toList)→K (.tuple #[I s.size,.nilIface]) w'):Ct Tryz.prog 245 #[Pt b 0,.string s] w K:=by
 refine c245 ?_
 unfold F245
 obtain ⟨i,hi,hz,h1s,h1b⟩:=z401
 refine k328 h fun a n c w1 k1 h1=>?_
 have hle:=h1.hB
 simp only [SS,h1.hd.rd (o:=1) (v:=.slice a n c) rfl]
 obtain ⟨v',w2,hr,ho,hg,hnil⟩:=Go.Lib.run_append_own_string (P:=Tryz.prog) w1 B 401 9 401 5 i (by kernel_rfl) u9s hi hz h1s h1b (.slice a n c) l.length (Lib.byteCells l) h1.row s (by unfold maxLen; omega) (by omega) (by have:=k1.size; omega)
 refine ⟨v',w2,hr,?_⟩
 have hk:Kp (fun k=>(Value.slice a n c).ownBlock=some k) w1 w2:=Kp.grown hg fun k hk=>hk
 have b2:Bk w2 b [.pointer (some ⟨b,0,none⟩),.slice a n c] 403:=hk.bk h1.hd (fun e=>h1.ne e)
 have k02:Kp (Byt w B b) w w2:=byt_trans (k1.mono fun y _ e=>⟨by omega,.inl e⟩) (hk.mono fun y _ e=>byt_own h1.row e)
 obtain ⟨a',n',c',rfl⟩:∃ a' n' c',v'=.slice a' n' c':=by
  rcases ho.2 with ⟨h,_⟩ | ⟨g,cap,cur,h,_⟩
  ·exact ⟨_,_,_,h⟩
  ·exact ⟨_,_,_,h⟩
 simp only [SS]
 refine sc_k b2 (by simp) rfl fun w3 k3 b3 s3=>?_
 have hgb:(Value.slice a' n' c').ownBlock≠some b:=fun e=>by
  rcases own_bk ho with ⟨rfl,_⟩ | ⟨g',cur,rfl,_,_,hb,_⟩
  ·cases e
  ·injection e with e
   have e:g'=b:=e
   exact ne_of_bk hb b2 (fun e=>by injection e with _ e; cases e) e
 refine hR w3 (byt_trans k02 (k3.mono fun y _ e=>⟨by omega,.inl e⟩)) ⟨_,_,_,_,⟨h1.hB,b3,?_,hgb⟩,.inr rfl⟩
 have:=own_kp ho k3 fun b' hb e=>hgb (by rw [hb,e])
 have e1:(l++s.data.toList).length=l.length+s.size:=by rw [List.length_append,Array.length_toList]; rfl
 rw [e1]
 have e2:Lib.byteCells (l++s.data.toList)=Lib.byteCells l++Lib.strCells s:=by simp [Lib.byteCells,Lib.strCells]
 rw [e2]
 exact this
theorem Bu.is {B b:Nat} {l:List UInt8} (h:Bu w B b l):Lib.IsBuilder 403 5 B b (Lib.byteCells l) w:=by
 obtain ⟨p,a,n,c,h,hp⟩:=h
 have hr:w.ownsRow B 5 1 (.slice a n c) (Lib.byteCells l).length (Lib.byteCells l):=by rw [Lib.byteCells_length]; exact h.row
 rcases hp with rfl | rfl
 ·exact .inl ⟨h.hB,_,h.hd,hr,h.ne⟩
 ·exact .inr ⟨h.hB,_,h.hd,hr,h.ne⟩
theorem k249 {B b:Nat} {l:List UInt8} (h:Bu w B b l) (hB:B≤w.heap.size) (hR:∀ w',Kp (fun y=>B≤y) w w'→K (.string ⟨l.toArray⟩) w'):Ct Tryz.prog 249 #[Pt b 0] w K:=by
 refine ct_calls (Tryz.Builder_String_any B b l w h.is hB) ?_
 rintro _ w' ⟨rfl,hb⟩
 exact hR w' ⟨hb.os,hb.tape,hb.output,hb.size,fun k hk hn=>hb.block k (by omega)⟩
theorem k252 {B b:Nat} {l:List UInt8} (h:Bu w B b l) (hR:K (I l.length) w):Ct Tryz.prog 252 #[Pt b 0] w K:=by
 refine c252 ?_
 unfold F252
 obtain ⟨p,a,n,c,h,hp⟩:=h
 simp only [SS,h.hd.rd (o:=1) (v:=.slice a n c) rfl]
 rw [own_len0 h.row]
 exact hR
end
section
open Sy
def F244 (R:Ko) (x0:Int) (w:World):Prop:=Ifm ((x0:Int) == 0) (R (.string (⟨#[45]⟩)) w) (Ct Tryz.prog 326 #[.int .i64 x0] w fun v11 w1=>onB v11 fun x11=>Ifm (!x11) (R (.string (⟨#[]⟩)) w1) (Ct Tryz.prog 327 #[.int .i64 x0] w1 fun v15 w2=>on3 v15 fun y15_0 y15_1 y15_2=>onI y15_0 fun x15_0=>onI y15_1 fun x15_1=>onI y15_2 fun x15_2=>Ss (⟨#[110,116,115]⟩) (IntKind.i64.wrap (x15_0 - 1)) x15_0 fun x22=>Ct Tryz.prog 34 #[.int .i64 x15_1] w2.drew fun v24 w3=>onS v24 fun x24=>Rd Tryz.prog (Bin .add 9 (.tmp 22) (.tmp 24) (.string x22) (.string x24)) w3 fun v25=>onS v25 fun x25=>Rd Tryz.prog (Bin .add 9 (.tmp 25) (.const (.string (⟨#[46]⟩))) (.string x25) (.string (⟨#[46]⟩))) w3 fun v26=>onS v26 fun x26=>Ct Tryz.prog 34 #[.int .i64 x15_2] w3 fun v28 w4=>onS v28 fun x28=>Hd Tryz.prog (Bin .add 9 (.tmp 25) (.const (.string (⟨#[46]⟩))) (.string x25) (.string (⟨#[46]⟩))) (.string x26) w4∧Hd Tryz.prog (Bin .add 9 (.tmp 22) (.tmp 24) (.string x22) (.string x24)) (.string x25) w4∧Rd Tryz.prog (Bin .add 9 (.tmp 26) (.tmp 28) (.string x26) (.string x28)) w4 fun v29=>onS v29 fun x29=>R (.string x29) w4))
noncomputable def b244:Code:=Tryz.f244.body.getD .skip
theorem c244 {R:Ko} {x0:Int} {w:World} (h:F244 R x0 w):Ct Tryz.prog 244 #[.int .i64 x0] w R :=
 ctS (args:=[.int .i64 x0]) (body:=b244) (n:=30) (rs:=[.tmp 2]) Tryz.func244
  (sg (cuts:=[]) trivial h)
def F160 (R:Ko) (x0:Int) (w:World):Prop:=Ct Tryz.prog 244 #[.int .i64 x0] w fun v5 w1=>onS v5 fun x5=>Ifm (!(x5.toList == (⟨#[]⟩:ByteArray).toList)) (R (.string x5) w1) (Ct Tryz.prog 34 #[.int .i64 x0] w1 fun v10 w2=>onS v10 fun x10=>Rd Tryz.prog (Bin .add 9 (.const (.string (⟨#[35]⟩))) (.tmp 10) (.string (⟨#[35]⟩)) (.string x10)) w2 fun v11=>onS v11 fun x11=>R (.string x11) w2)
noncomputable def b160:Code:=Tryz.f160.body.getD .skip
theorem c160 {R:Ko} {x0:Int} {w:World} (h:F160 R x0 w):Ct Tryz.prog 160 #[.int .i64 x0] w R :=
 ctS (args:=[.int .i64 x0]) (body:=b160) (n:=12) (rs:=[.tmp 2]) Tryz.func160
  (sg (cuts:=[]) trivial h)
def F251_0 (R:Ko) (x0:ByteArray) (x1:Int) (x2:Addr) (w:World):Prop:=Ct Tryz.prog 34 #[.int .i64 x1] w fun v10 w3=>onS v10 fun x10=>Rd Tryz.prog (Bin .add 9 (.tmp 8) (.tmp 10) (.string x0) (.string x10)) w3 fun v11=>onS v11 fun x11=>Ct Tryz.prog 245 #[.pointer (some x2),.string x11] w3 fun v12 w4=>on2 v12 fun y12_0 y12_1=>onI y12_0 fun x12_0=>R (.tuple #[]) w4
def F251 (R:Ko) (x0:ByteArray) (x1:Int) (x2:Addr) (w:World):Prop:=Ct Tryz.prog 252 #[.pointer (some x2)] w fun v5 w1=>onI v5 fun x5=>Ifm (decide ((x5:Int) > 0)) (Ct Tryz.prog 253 #[.pointer (some x2),.int .u8 32] w1 fun v7 w2=>F251_0 R x0 x1 x2 w2) (F251_0 R x0 x1 x2 w1)
noncomputable def b251:Code:=Tryz.f251.body.getD .skip
def q251_0:List Bool:=[true]
def L251_0 (F:ByteArray→Int→Addr→World→Prop):Env→World→Prop:=fun ρ w=>onS (ρ 0) fun x0=>onI (ρ 1) fun x1=>onA (ρ 2) fun x2=>F x0 x1 x2 w
abbrev T251 (z:Fr) (R:Ko) (p:List Bool) (ρ:Env) (w:World):Prop:=TW z Tryz.prog 13 (segTodo b251 p) (QR Tryz.prog [] R) ρ w
theorem s251_0 (R:Ko):∀ ρ w,(L251_0 (F251_0 R)) ρ w→T251 z0 R q251_0 ρ w:=by
 intro ρ w h
 obtain ⟨x0,e0,h⟩:=onS_of h
 obtain ⟨x1,e1,h⟩:=onI_of h
 obtain ⟨x2,e2,h⟩:=onA_of h
 rw [← upds_same (ρ:=ρ) [(0,.string x0),(1,.int .i64 x1),(2,.pointer (some x2))] (alc e0 (alc e1 (alc e2 aln)))]
 exact sg (cuts:=[]) trivial h
theorem c251 {R:Ko} {x0:ByteArray} {x1:Int} {x2:Addr} {w:World} (h:F251 R x0 x1 x2 w):Ct Tryz.prog 251 #[.string x0,.int .i64 x1,.pointer (some x2)] w R :=
 ctS (args:=[.string x0,.int .i64 x1,.pointer (some x2)]) (body:=b251) (n:=13) (rs:=[]) Tryz.func251
  (sg (cuts:=[(q251_0,L251_0 (F251_0 R))]) ⟨s251_0 R,trivial⟩ h)
variable {K:Ko} {w w':World}
theorem hd_cat {a b:ByteArray} (h:a.size+b.size≤9223372036854775807) (x y:Operand) (w:World):Hd Tryz.prog (Bin .add 9 x y (.string a) (.string b)) (.string (a++b)) w:=by
 show (Bin .add 9 x y (.string a) (.string b)).run Tryz.prog w=_
 simp [Bin,eqGuard,binOp_string_add,run_string_add_sum w a b h]
def dig (i:Nat):ByteArray:=⟨(Lib.decDigits i).toArray⟩
def sNts:ByteArray:=⟨#[110,116,115]⟩
def textH (k s g:Nat):ByteArray:=sNts.extract (k - 1) k++dig s++sDot++dig g
theorem dig_size {i:Nat} (h:i<100):(dig i).size≤2:=by
 have:∀ i:Fin 100,(dig i.val).size≤2:=by decide +kernel
 exact this ⟨i,h⟩
theorem sub_size (s:ByteArray) (a b:Nat):(s.extract a b).size≤s.size:=by
 show (s.extract a b).data.size≤s.data.size
 rw [ByteArray.data_extract,Array.size_extract]
 omega
theorem k244 {x:Int} {k s g:Nat} (h0:x≠0) (hok:okV x=true) (hk:pK x=k) (h1:1≤k) (h3:k≤3) (hs:pS x=s) (hs1:s<100) (hg:pG x=g) (hg1:g<100) (hR:∀ w',Kp No w w'→K (.string (textH k s g)) w'):Ct Tryz.prog 244 #[I x] w K:=by
 refine c244 ?_
 unfold F244
 simp only [SS]
 rw [if_neg h0]
 refine k326 ?_
 rw [hok]
 simp only [SS]
 refine k327 ?_
 simp only [SS,hk,hs,hg]
 have e1:IntKind.i64.wrap ((k:Int) - 1)=((k - 1:Nat):Int):=by rw [IntKind.wrap_i64]; omega
 rw [e1]
 refine ⟨by omega,by omega,by show (k:Int)≤3; omega,?_⟩
 refine k34 (w:=dr w _) hs1 ?_
 simp only [SS]
 have z0:((⟨#[110,116,115]⟩:ByteArray).extract (k - 1) k).size≤3:=sub_size _ _ _
 have z1:=dig_size hs1
 have z2:=dig_size hg1
 have d1:(⟨(Lib.decDigits s).toArray⟩:ByteArray)=dig s:=rfl
 have d2:(⟨(Lib.decDigits g).toArray⟩:ByteArray)=dig g:=rfl
 have c1:((⟨#[110,116,115]⟩:ByteArray).extract (k - 1) k).size+(dig s).size≤9223372036854775807:=by omega
 rw [d1,cat_c c1]
 simp only [SS]
 have q1:=size_app ((⟨#[110,116,115]⟩:ByteArray).extract (k - 1) k) (dig s)
 rw [cat_dot (by omega)]
 simp only [SS]
 refine k34 (w:=dr w _) hg1 ?_
 simp only [SS]
 have q2:=size_app ((⟨#[110,116,115]⟩:ByteArray).extract (k - 1) k++dig s) sDot
 have q3:sDot.size=1:=rfl
 refine ⟨hd_cat (b:=sDot) (by omega) _ _ _,hd_cat c1 _ _ _,?_⟩
 rw [d2,cat_c (by omega)]
 simp only [SS]
 exact hR _ (Kp.dr No w _)
theorem k160 {x:Int} {k s g:Nat} (h0:x≠0) (hok:okV x=true) (hk:pK x=k) (h1:1≤k) (h3:k≤3) (hs:pS x=s) (hs1:s<100) (hg:pG x=g) (hg1:g<100) (hne:((textH k s g).toList == (⟨#[]⟩:ByteArray).toList)=false) (hR:∀ w',Kp No w w'→K (.string (textH k s g)) w'):Ct Tryz.prog 160 #[I x] w K:=by
 refine c160 ?_
 unfold F160
 refine k244 h0 hok hk h1 h3 hs hs1 hg hg1 fun w1 k1=>?_
 simp only [SS,hne]
 exact hR w1 k1
def wordS (l:List UInt8) (s:ByteArray) (i:Nat):List UInt8:=(if l.length=0 then l else l++[32])++(s++dig i).data.toList
theorem k251 {B b i:Nat} {l:List UInt8} {s:ByteArray} (h:Bu w B b l) (hB:B≤w.heap.size) (hl:l.length<500) (hs:s.size<100) (hi:i<100) (hR:∀ w',Kp (Byt w B b) w w'→Bu w' B b (wordS l s i)→K (.tuple #[]) w'):Ct Tryz.prog 251 #[.string s,I i,Pt b 0] w K:=by
 refine c251 ?_
 unfold F251
 have z1:=dig_size hi
 have d1:(⟨(Lib.decDigits i).toArray⟩:ByteArray)=dig i:=rfl
 have fin:∀ {w1:World} {l1:List UInt8},Kp (Byt w B b) w w1→Bu w1 B b l1→l1.length≤500→wordS l s i=l1++(s++dig i).data.toList→F251_0 K s i ⟨b,0,none⟩ w1:=by
  intro w1 l1 k1 h1 hl1 he
  unfold F251_0
  refine k34 hi ?_
  simp only [SS]
  rw [d1,cat_c (by omega)]
  simp only [SS]
  refine k245 h1 (by have:=k1.size; omega) (by omega) (by rw [size_app]; omega) fun w2 k2 h2=>?_
  simp only [SS]
  rw [← he] at h2
  exact hR w2 (byt_trans k1 k2) h2
 refine k252 h ?_
 simp only [SS]
 by_cases e:(l.length:Int) > 0
 ·rw [if_pos e]
  refine k253 (x:=32) h hB (by omega) fun w1 k1 h1=>?_
  exact fin k1 h1 (by simp; omega) (by unfold wordS; rw [if_neg (by omega)])
 ·rw [if_neg e]
  exact fin (Kp.refl _ _) h (by omega) (by unfold wordS; rw [if_pos (by omega)])
end
section
open Sy
def F162_2 (R:Ko) (C0:Addr→Value→Option Addr→Nat→Nat→Int→Int→World→Prop) (x3:Addr) (x4:Value) (x6:Addr) (a36:Option Addr) (l36 c36:Nat) (x37:Int) (x38:Int) (w:World):Prop:=Lc (x6.add 3) w fun v62=>onI v62 fun x62=>CallV Tryz.prog goB x4 #[.string (⟨#[100,117,101,32]⟩),.int .i64 x62] w fun v63 w14=>Ct Tryz.prog 253 #[.pointer (some x3),.int .u8 93] w14 fun v64 w15=>C0 x3 x4 a36 l36 c36 x37 (IntKind.i64.wrap (x38+1)) w15
def F162_1 (R:Ko) (C0:Addr→Value→Option Addr→Nat→Nat→Int→Int→World→Prop) (x3:Addr) (x4:Value) (x6:Addr) (a36:Option Addr) (l36 c36:Nat) (x37:Int) (x38:Int) (w:World):Prop:=Lc (x6.add 2) w fun v55=>onI v55 fun x55=>CallV Tryz.prog goB x4 #[.string (⟨#[97,116,32]⟩),.int .i64 x55] w fun v56 w16=>Lc (x6.add 3) w16 fun v58=>onI v58 fun x58=>Ifm (decide ((x58:Int) > 0)) (F162_2 R C0 x3 x4 x6 a36 l36 c36 x37 x38 w16) (Ct Tryz.prog 253 #[.pointer (some x3),.int .u8 93] w16 fun v64 w17=>C0 x3 x4 a36 l36 c36 x37 (IntKind.i64.wrap (x38+1)) w17)
def F162_0B (R:Ko) (C0:Addr→Value→Option Addr→Nat→Nat→Int→Int→World→Prop) (x3:Addr) (x4:Value) (a36:Option Addr) (l36 c36:Nat) (x37:Int) (x38:Int) (w:World):Prop:=Ifm (decide ((x38:Int)<x37)) (Ix a36 l36 x38 4 fun x40=>La 4 x40 w fun x41=>New (.cells (.agg #[.int .i64 0,.int .i64 0,.int .i64 0,.int .i64 0]:Value).cells 37) w fun x6 w9=>Sa 4 x6 x41 w9 fun w10=>Lc (x6.add 0) w10 fun v44=>onI v44 fun x44=>CallV Tryz.prog goB x4 #[.string (⟨#[91]⟩),.int .i64 x44] w10 fun v45 w11=>Lc (x6.add 1) w11 fun v47=>onI v47 fun x47=>Ifm (decide ((x47:Int) > 0)) (Lc (x6.add 1) w11 fun v51=>onI v51 fun x51=>CallV Tryz.prog goB x4 #[.string (⟨#[99,97,112,32]⟩),.int .i64 x51] w11 fun v52 w12=>F162_1 R C0 x3 x4 x6 a36 l36 c36 x37 x38 w12) (F162_1 R C0 x3 x4 x6 a36 l36 c36 x37 x38 w11)) (Ct Tryz.prog 249 #[.pointer (some x3)] w fun v66 w13=>onS v66 fun x66=>R (.string x66) w13)
def F162_0 (R:Ko) (x3:Addr) (x4:Value) (a36:Option Addr) (l36 c36:Nat) (x37:Int) (x38:Int) (w:World):Prop:=∃ (Inv:Addr→Value→Option Addr→Nat→Nat→Int→Int→World→Prop) (μ:Addr→Value→Option Addr→Nat→Nat→Int→Int→World→Nat),Inv x3 x4 a36 l36 c36 x37 x38 w∧∀ x3 x4 a36 l36 c36 x37 x38 w,Inv x3 x4 a36 l36 c36 x37 x38 w→F162_0B R (fun x3' x4' a36' l36' c36' x37' x38' w'=>Inv x3' x4' a36' l36' c36' x37' x38' w'∧μ x3' x4' a36' l36' c36' x37' x38' w'<μ x3 x4 a36 l36 c36 x37 x38 w) x3 x4 a36 l36 c36 x37 x38 w
def F162 (R:Ko) (x0:Array Value) (w:World):Prop:=New (.cells (.agg x0:Value).cells 47) w fun x1 w1=>La 8 x1 w1 fun x7=>Ct Tryz.prog 250 #[.agg x7] w1 fun v8 w2=>Nl v8 fun x9=>Ifm (!x9) (R (.string (⟨#[]⟩)) w2) (New (.cells (.agg #[.pointer none,.slice none 0 0]:Value).cells 403) w2 fun x3 w3=>Lc (x1.add 0) w3 fun v13=>onI v13 fun x13=>CallV Tryz.prog goB (.func (.func 251) #[] #[.pointer (some x3)]) #[.string (⟨#[112,114,105,111,32]⟩),.int .i64 x13] w3 fun v14 w4=>Lc ((x1.add 2).add 0) w4 fun v18=>onI v18 fun x18=>CallV Tryz.prog goB (.func (.func 251) #[] #[.pointer (some x3)]) #[.string (⟨#[103,105,118,101,110,32]⟩),.int .i64 x18] w4 fun v19 w5=>Lc ((x1.add 2).add 3) w5 fun v23=>onI v23 fun x23=>CallV Tryz.prog goB (.func (.func 251) #[] #[.pointer (some x3)]) #[.string (⟨#[100,111,110,101,32]⟩),.int .i64 x23] w5 fun v24 w6=>Lc ((x1.add 2).add 4) w6 fun v28=>onI v28 fun x28=>CallV Tryz.prog goB (.func (.func 251) #[] #[.pointer (some x3)]) #[.string (⟨#[99,117,116,32]⟩),.int .i64 x28] w6 fun v29 w7=>Lc ((x1.add 2).add 5) w7 fun v33=>onI v33 fun x33=>CallV Tryz.prog goB (.func (.func 251) #[] #[.pointer (some x3)]) #[.string (⟨#[108,97,116,101,32]⟩),.int .i64 x33] w7 fun v34 w8=>Lc (x1.add 1) w8 fun v36=>onL v36 fun a36 l36 c36=>F162_0 R x3 (.func (.func 251) #[] #[.pointer (some x3)]) a36 l36 c36 (l36:Nat) 0 w8)
noncomputable def b162:Code:=Tryz.f162.body.getD .skip
def q162_2:List Bool:=[false,true,false,true,true,true,true,false,false,true,true,false,false,true,false,true,true,true,true,true,true,true,true,true]
def L162_2 (F:Addr→Value→Addr→Option Addr→Nat→Nat→Int→Int→World→Prop):Env→World→Prop:=fun ρ w=>onA (ρ 3) fun x3=>onA (ρ 6) fun x6=>onL (ρ 36) fun a36 l36 c36=>onI (ρ 37) fun x37=>onI (ρ 38) fun x38=>F x3 (ρ 4) x6 a36 l36 c36 x37 x38 w
def q162_1:List Bool:=[false,true,true,true,false,false,true,true,false,false,true,false,true,true,true,true,true,true,true,true,true]
def L162_1 (F:Addr→Value→Addr→Option Addr→Nat→Nat→Int→Int→World→Prop):Env→World→Prop:=fun ρ w=>onA (ρ 3) fun x3=>onA (ρ 6) fun x6=>onL (ρ 36) fun a36 l36 c36=>onI (ρ 37) fun x37=>onI (ρ 38) fun x38=>F x3 (ρ 4) x6 a36 l36 c36 x37 x38 w
def q162_0:List Bool:=[false,true,false,true,true,true,true,true,true,true,true,true]
def L162_0 (F:Addr→Value→Option Addr→Nat→Nat→Int→Int→World→Prop):Env→World→Prop:=fun ρ w=>onA (ρ 3) fun x3=>onL (ρ 36) fun a36 l36 c36=>onI (ρ 37) fun x37=>onI (ρ 38) fun x38=>F x3 (ρ 4) a36 l36 c36 x37 x38 w
abbrev T162 (z:Fr) (R:Ko) (p:List Bool) (ρ:Env) (w:World):Prop:=TW z Tryz.prog 67 (segTodo b162 p) (QR Tryz.prog [.tmp 2] R) ρ w
theorem s162_2 (R:Ko) (C0:Addr→Value→Option Addr→Nat→Nat→Int→Int→World→Prop) (h0:∀ ρ w,(L162_0 C0) ρ w→T162 z0 R q162_0 ρ w):∀ ρ w,(L162_2 (F162_2 R C0)) ρ w→T162 z0 R q162_2 ρ w:=by
 intro ρ w h
 unfold L162_2 at h
 obtain ⟨x3,e3,h⟩:=onA_of h
 generalize e4:ρ 4=x4 at h
 obtain ⟨x6,e6,h⟩:=onA_of h
 obtain ⟨a36,l36,c36,e36,h⟩:=onL_of h
 obtain ⟨x37,e37,h⟩:=onI_of h
 obtain ⟨x38,e38,h⟩:=onI_of h
 rw [← upds_same (ρ:=ρ) [(3,.pointer (some x3)),(4,x4),(6,.pointer (some x6)),(36,.slice a36 l36 c36),(37,.int .i64 x37),(38,.int .i64 x38)] (alc e3 (alc e4 (alc e6 (alc e36 (alc e37 (alc e38 aln))))))]
 exact sg (cuts:=[(q162_0,L162_0 C0)]) ⟨h0,trivial⟩ h
theorem s162_1 (R:Ko) (C0:Addr→Value→Option Addr→Nat→Nat→Int→Int→World→Prop) (h0:∀ ρ w,(L162_0 C0) ρ w→T162 z0 R q162_0 ρ w):∀ ρ w,(L162_1 (F162_1 R C0)) ρ w→T162 z0 R q162_1 ρ w:=by
 intro ρ w h
 unfold L162_1 at h
 obtain ⟨x3,e3,h⟩:=onA_of h
 generalize e4:ρ 4=x4 at h
 obtain ⟨x6,e6,h⟩:=onA_of h
 obtain ⟨a36,l36,c36,e36,h⟩:=onL_of h
 obtain ⟨x37,e37,h⟩:=onI_of h
 obtain ⟨x38,e38,h⟩:=onI_of h
 rw [← upds_same (ρ:=ρ) [(3,.pointer (some x3)),(4,x4),(6,.pointer (some x6)),(36,.slice a36 l36 c36),(37,.int .i64 x37),(38,.int .i64 x38)] (alc e3 (alc e4 (alc e6 (alc e36 (alc e37 (alc e38 aln))))))]
 exact sg (cuts:=[(q162_2,L162_2 (F162_2 R C0)),(q162_0,L162_0 C0)]) ⟨s162_2 R C0 h0,h0,trivial⟩ h
theorem s162_0 (R:Ko):∀ ρ w,(L162_0 (F162_0 R)) ρ w→T162 z0 R q162_0 ρ w:=by
 intro ρ w h
 unfold L162_0 at h
 obtain ⟨x3,e3,h⟩:=onA_of h
 generalize e4:ρ 4=x4 at h
 obtain ⟨a36,l36,c36,e36,h⟩:=onL_of h
 obtain ⟨x37,e37,h⟩:=onI_of h
 obtain ⟨x38,e38,h⟩:=onI_of h
 obtain ⟨Inv,μ,hi,hb⟩:=h
 refine lpT (fun m=>L162_0 (fun x3 x4 a36 l36 c36 x37 x38 w=>Inv x3 x4 a36 l36 c36 x37 x38 w∧μ x3 x4 a36 l36 c36 x37 x38 w=m)) ?_ (μ x3 x4 a36 l36 c36 x37 x38 w) ρ w ?_
 ·intro m ρ w ih h
  unfold L162_0 at h
  obtain ⟨x3,e3,h⟩:=onA_of h
  generalize e4:ρ 4=x4 at h
  obtain ⟨a36,l36,c36,e36,h⟩:=onL_of h
  obtain ⟨x37,e37,h⟩:=onI_of h
  obtain ⟨x38,e38,h⟩:=onI_of h
  obtain ⟨hv,hm⟩:=h
  subst hm
  have hh:=hb x3 x4 a36 l36 c36 x37 x38 w hv
  obtain ⟨C0,hC⟩:∃ C,C=fun x3' x4' a36' l36' c36' x37' x38' w'=>Inv x3' x4' a36' l36' c36' x37' x38' w'∧μ x3' x4' a36' l36' c36' x37' x38' w'<μ x3 x4 a36 l36 c36 x37 x38 w:=⟨_,rfl⟩
  rw [← hC] at hh
  have h0:∀ ρ w,(L162_0 C0) ρ w→T162 z0 R q162_0 ρ w:=by
   intro ρ' w' h'
   refine ih ρ' w' ?_
   unfold L162_0 at h'
   obtain ⟨x3',e3',h'⟩:=onA_of h'
   generalize e4':ρ' 4=x4' at h'
   obtain ⟨a36',l36',c36',e36',h'⟩:=onL_of h'
   obtain ⟨x37',e37',h'⟩:=onI_of h'
   obtain ⟨x38',e38',h'⟩:=onI_of h'
   rw [hC] at h'
   refine ⟨_,h'.2,?_⟩
   simp only [e3',e4',e36',e37',e38',L162_0,ons]
   exact ⟨h'.1,by trivial⟩
  rw [← upds_same (ρ:=ρ) [(3,.pointer (some x3)),(4,x4),(36,.slice a36 l36 c36),(37,.int .i64 x37),(38,.int .i64 x38)] (alc e3 (alc e4 (alc e36 (alc e37 (alc e38 aln)))))]
  exact sg (cuts:=[(q162_1,L162_1 (F162_1 R C0))]) ⟨s162_1 R C0 h0,trivial⟩ hh
 ·simp only [e3,e4,e36,e37,e38,L162_0,ons]
  exact ⟨hi,by trivial⟩
theorem c162 {R:Ko} {x0:Array Value} {w:World} (h:F162 R x0 w):Ct Tryz.prog 162 #[.agg x0] w R :=
 ctS (args:=[.agg x0]) (body:=b162) (n:=67) (rs:=[.tmp 2]) Tryz.func162
  (sg (cuts:=[(q162_0,L162_0 (F162_0 R))]) ⟨s162_0 R,trivial⟩ h)
def F78_0 (R:Ko) (x3:Addr) (x21:Int) (x28:Bool) (w:World):Prop:=Ifm x28 (La 24 (x3.add 2) w fun x31=>Ct Tryz.prog 161 #[.agg x31] w fun v32 w7=>onS v32 fun x32=>R (.string x32) w7) (Ifm ((x21:Int) == 9) (La 8 (x3.add 26) w fun x36=>Ct Tryz.prog 162 #[.agg x36] w fun v37 w8=>onS v37 fun x37=>R (.string x37) w8) (R (.string (⟨#[111,107]⟩)) w))
def F78 (R:Ko) (x0:Array Value) (x1:Array Value) (w:World):Prop:=New (.cells (.agg x0:Value).cells 39) w fun x2 w1=>New (.cells (.agg x1:Value).cells 49) w1 fun x3 w2=>Lc (x3.add 0) w2 fun v7=>onI v7 fun x7=>Ifm ((x7:Int) != 0) (Lc (x3.add 0) w2 fun v10=>onI v10 fun x10=>Ct Tryz.prog 159 #[.int .i64 x10] w2 fun v11 w3=>onS v11 fun x11=>Ifm (!(x11.toList == (⟨#[]⟩:ByteArray).toList)) (Rd Tryz.prog (Bin .add 9 (.const (.string (⟨#[101,114,114,111,114,32]⟩))) (.tmp 14) (.string (⟨#[101,114,114,111,114,32]⟩)) (.string x11)) w3 fun v15=>onS v15 fun x15=>R (.string x15) w3) (Lc (x3.add 0) w3 fun v17=>onI v17 fun x17=>Ct Tryz.prog 34 #[.int .i64 x17] w3 fun v18 w4=>onS v18 fun x18=>Rd Tryz.prog (Bin .add 9 (.const (.string (⟨#[101,114,114,111,114,32]⟩))) (.tmp 18) (.string (⟨#[101,114,114,111,114,32]⟩)) (.string x18)) w4 fun v19=>onS v19 fun x19=>R (.string x19) w4)) (Lc (x2.add 0) w2 fun v21=>onI v21 fun x21=>Ifm ((x21:Int) == 1) (Ifm ((x21:Int) == 1) (Lc (x3.add 1) w2 fun v26=>onI v26 fun x26=>Ct Tryz.prog 160 #[.int .i64 x26] w2 fun v27 w5=>onS v27 fun x27=>R (.string x27) w5) (F78_0 R x3 x21 ((x21:Int) == 8) w2)) (Ifm ((x21:Int) == 4) (Lc (x3.add 1) w2 fun v26=>onI v26 fun x26=>Ct Tryz.prog 160 #[.int .i64 x26] w2 fun v27 w6=>onS v27 fun x27=>R (.string x27) w6) (F78_0 R x3 x21 ((x21:Int) == 8) w2)))
noncomputable def b78:Code:=Tryz.f78.body.getD .skip
def q78_0:List Bool:=[true,true,true,false,true,false,true,true]
def L78_0 (F:Addr→Int→Bool→World→Prop):Env→World→Prop:=fun ρ w=>onA (ρ 3) fun x3=>onI (ρ 21) fun x21=>onB (ρ 28) fun x28=>F x3 x21 x28 w
abbrev T78 (z:Fr) (R:Ko) (p:List Bool) (ρ:Env) (w:World):Prop:=TW z Tryz.prog 38 (segTodo b78 p) (QR Tryz.prog [.tmp 4] R) ρ w
theorem s78_0 (R:Ko):∀ ρ w,(L78_0 (F78_0 R)) ρ w→T78 z0 R q78_0 ρ w:=by
 intro ρ w h
 obtain ⟨x3,e3,h⟩:=onA_of h
 obtain ⟨x21,e21,h⟩:=onI_of h
 obtain ⟨x28,e28,h⟩:=onB_of h
 rw [← upds_same (ρ:=ρ) [(3,.pointer (some x3)),(21,.int .i64 x21),(28,.bool x28)] (alc e3 (alc e21 (alc e28 aln)))]
 exact sg (cuts:=[]) trivial h
theorem c78 {R:Ko} {x0:Array Value} {x1:Array Value} {w:World} (h:F78 R x0 x1 w):Ct Tryz.prog 78 #[.agg x0,.agg x1] w R :=
 ctS (args:=[.agg x0,.agg x1]) (body:=b78) (n:=38) (rs:=[.tmp 4]) Tryz.func78
  (sg (cuts:=[(q78_0,L78_0 (F78_0 R))]) ⟨s78_0 R,trivial⟩ h)
variable {K:Ko} {w w':World}
theorem word_k {B b i:Nat} {l:List UInt8} {s:ByteArray} {x:Int} (hx:x=(i:Nat)) (h:Bu w B b l) (hB:B≤w.heap.size) (hl:l.length<500) (hs:s.size<100) (hi:i<100) (hR:∀ w',Kp (Byt w B b) w w'→Bu w' B b (wordS l s i)→K (.tuple #[]) w'):CallV Tryz.prog goB (.func (.func 251) #[] #[.pointer (some ⟨b,0,none⟩)]) #[.string s,I x] w K:=by
 subst hx
 refine ⟨by kernel_rfl,?_⟩
 rw [show (#[]++#[Value.string s,I (i:Nat)]++#[Value.pointer (some ⟨b,0,none⟩)]:Array Value)=#[.string s,I (i:Nat),Pt b 0] by simp]
 exact k251 h hB hl hs hi hR
def tk1:Tk:=⟨5,[⟨1,0,0,9⟩],⟨3,3,0,0,0,0⟩⟩
def sPrio:ByteArray:=⟨#[112,114,105,111,32]⟩
def sGiven:ByteArray:=⟨#[103,105,118,101,110,32]⟩
def sDone:ByteArray:=⟨#[100,111,110,101,32]⟩
def sCut:ByteArray:=⟨#[99,117,116,32]⟩
def sLate:ByteArray:=⟨#[108,97,116,101,32]⟩
def sBr:ByteArray:=⟨#[91]⟩
def sAt:ByteArray:=⟨#[97,116,32]⟩
def sDue:ByteArray:=⟨#[100,117,101,32]⟩
def tx5:List UInt8:=wordS (wordS (wordS (wordS (wordS [] sPrio 5) sGiven 3) sDone 0) sCut 0) sLate 0
def tx8:List UInt8:=wordS (wordS (wordS tx5 sBr 1) sAt 0) sDue 9++[93]
def txt1:ByteArray:=⟨tx8.toArray⟩
theorem tx8_val:tx8=[112,114,105,111,32,53,32,103,105,118,101,110,32,51,32,100,111,110,101,32,48,32,99,117,116,32,48,32,108,97,116,101,32,48,32,91,49,32,97,116,32,48,32,100,117,101,32,57,93]:=by kernel_rfl
theorem tx_len:(wordS [] sPrio 5).length<100∧(wordS (wordS [] sPrio 5) sGiven 3).length<100∧(wordS (wordS (wordS [] sPrio 5) sGiven 3) sDone 0).length<100∧(wordS (wordS (wordS (wordS [] sPrio 5) sGiven 3) sDone 0) sCut 0).length<100∧tx5.length<100∧(wordS tx5 sBr 1).length<100∧(wordS (wordS tx5 sBr 1) sAt 0).length<100∧(wordS (wordS (wordS tx5 sBr 1) sAt 0) sDue 9).length<100:=by decide +kernel
theorem tk1_ok:validB tk1=true:=by decide +kernel
set_option maxHeartbeats 2000000 in
theorem k162 {v:TkV} (h:TkAt w v tk1) (hR:∀ w',Kp No w w'→K (.string txt1) w'):Ct Tryz.prog 162 #[.agg v.cells.toArray] w K:=by
 refine c162 ?_
 unfold F162
 obtain ⟨l1,l2,l3,l4,l5,l6,l7,l8⟩:=tx_len
 have hp:v.prio=5:=h.prio
 have ha:v.acc=⟨3,3,0,0,0,0⟩:=h.acc
 have hj:v.jl=1:=h.jl
 refine new_k v.cells fun w1 k1 b1 s1=>?_
 simp only [SS,show ∀ k,La 8 ⟨w.heap.size,0,none⟩ w1 k=k v.cells.toArray from fun k=>b1.la0 v.len k]
 refine k250 (h.kp k1 fun _ _=>id) fun w2 k2=>?_
 rw [if_pos tk1_ok]
 have k02:=k1.trans k2
 have b2:Bk w2 w.heap.size v.cells 47:=k2.bk b1 id
 have z2:=k02.size
 simp only [SS]
 refine new_k [.pointer none,.slice none 0 0] fun w3 k3 b3 s3=>?_
 have k03:=k02.trans k3
 have b23:Bk w3 w.heap.size v.cells 47:=k3.bk b2 id
 have hlt:=b2.lt
 have u0:Bu w3 w2.heap.size w2.heap.size []:=⟨_,_,_,_,⟨Nat.le_refl _,b3,World.ownsRow_nil _ _ _ _,nofun⟩,.inl rfl⟩
 have kb:∀ {u:World},Kp (fun y=>w2.heap.size≤y) w3 u→Bk u w.heap.size v.cells 47:=fun ku=>ku.bk b23 (by omega)
 have tk:∀ {u:World},Kp (fun y=>w2.heap.size≤y) w3 u→Kp No w u:=fun ku=>k03.step ku fun i hi hle=>by omega
 have sz:∀ {u:World},Kp (fun y=>w2.heap.size≤y) w3 u→w2.heap.size≤u.heap.size:=fun ku=>by have:=ku.size; omega
 simp only [b23.rd (o:=0) (v:=I v.prio) rfl,SS,hp]
 refine word_k (i:=5) rfl u0 (sz (Kp.refl _ _)) (by simp) (by decide) (by omega) fun w4 k4 u4=>?_
 have b4:=kb (k4.mono fun _ _ h=>h.1)
 simp only [SS,Nat.reduceAdd,b4.rd (o:=2) (v:=I v.acc.g) rfl,ha]
 refine word_k (i:=3) rfl u4 (sz (k4.mono fun _ _ h=>h.1)) (by show (wordS [] sPrio 5).length<500; omega) (by decide) (by omega) fun w5 k5 u5=>?_
 have k4:Kp (fun y=>w2.heap.size≤y) w3 w4:=k4.mono fun _ _ h=>h.1
 have k5:=k4.trans (k5.mono fun _ _ h=>h.1)
 have b5:=kb k5
 simp only [SS,Nat.reduceAdd,b5.rd (o:=5) (v:=I v.acc.d) rfl,ha]
 refine word_k (i:=0) rfl u5 (sz k5) (by show (wordS (wordS [] sPrio 5) sGiven 3).length<500; omega) (by decide) (by omega) fun w6 k6 u6=>?_
 have k6:=k5.trans (k6.mono fun _ _ h=>h.1)
 have b6:=kb k6
 simp only [SS,Nat.reduceAdd,b6.rd (o:=6) (v:=I v.acc.c) rfl,ha]
 refine word_k (i:=0) rfl u6 (sz k6) (by show (wordS (wordS (wordS [] sPrio 5) sGiven 3) sDone 0).length<500; omega) (by decide) (by omega) fun w7 k7 u7=>?_
 have k7:=k6.trans (k7.mono fun _ _ h=>h.1)
 have b7:=kb k7
 simp only [SS,Nat.reduceAdd,b7.rd (o:=7) (v:=I v.acc.t) rfl,ha]
 refine word_k (i:=0) rfl u7 (sz k7) (by show (wordS (wordS (wordS (wordS [] sPrio 5) sGiven 3) sDone 0) sCut 0).length<500; omega) (by decide) (by omega) fun w8 k8 u8=>?_
 have k8:=k7.trans (k8.mono fun _ _ h=>h.1)
 have b8:=kb k8
 have u8:Bu w8 w2.heap.size w2.heap.size tx5:=u8
 simp only [SS,b8.rd (o:=1) (v:=.slice v.ja v.jl v.jc) rfl,hj]
 unfold F162_0
 refine ⟨fun x3 x4 a36 l36 c36 x37 x38 u=>x3=⟨w2.heap.size,0,none⟩∧x4=.func (.func 251) #[] #[.pointer (some ⟨w2.heap.size,0,none⟩)]∧v.ja=a36∧l36=1∧x37=1∧Kp (fun y=>w2.heap.size≤y) w3 u∧((x38=0∧Bu u w2.heap.size w2.heap.size tx5)∨(x38=1∧Bu u w2.heap.size w2.heap.size tx8)),fun _ _ _ _ _ _ x38 _=>(1 - x38).toNat,
  ⟨rfl,rfl,rfl,rfl,rfl,k8,.inl ⟨rfl,u8⟩⟩,?_⟩
 rintro _ _ _ _ c36 _ x38 w9 ⟨rfl,rfl,rfl,rfl,rfl,k9,hx⟩
 unfold F162_0B
 rcases hx with ⟨rfl,u9⟩ | ⟨rfl,u9⟩
 ·simp only [SS]
  rw [if_pos (by decide)]
  have hjobs:=own_kp h.jobs (tk k9) fun _ _=>id
  rw [hj] at hjobs
  have hjobs:w9.ownsRow 0 37 4 (.slice v.ja 1 v.jc) 1 (cellsJ [⟨1,0,0,9⟩]):=hjobs
  refine ix_own hjobs (i:=0) (by omega) rfl fun g hg _=>?_
  rw [hg] at hjobs
  rw [own_la hjobs (by omega),jobs_drop [⟨1,0,0,9⟩] (i:=0) (by simp)]
  refine new_k zJ.cells fun w10 k10 b10 s10=>?_
  refine sa_k (cs:=(⟨1,0,0,9⟩:Jb).cells) b10 rfl (by decide) (Jb.one _) fun w11 k11 b11 s11=>?_
  rw [over_all _ _ (by rfl)] at b11
  have z9:=sz k9
  have k911:Kp No w9 w11:=k10.own k11 (by omega)
  have u11:=u9.no k911
  have hk11:Kp (fun y=>w2.heap.size≤y) w3 w11:=k9.trans (k911.no _)
  simp only [SS,b11.rd (o:=0) (v:=I 1) rfl]
  refine word_k (i:=1) rfl u11 (sz hk11) (by omega) (by decide) (by omega) fun w12 k12 u12=>?_
  have keep:∀ {u u':World},Bk u w9.heap.size (⟨1,0,0,9⟩:Jb).cells 37→Kp (Byt u w2.heap.size w2.heap.size) u u'→Bk u' w9.heap.size (⟨1,0,0,9⟩:Jb).cells 37:=fun hb ku=>ku.bk hb fun ⟨_,hh⟩=>by
   rcases hh with hh | ⟨c,hc⟩
   ·have:=k9.size; omega
   ·rw [hb] at hc; injection hc with hc; injection hc with _ hc; cases hc
  have b12:=keep b11 k12
  have hk12:=hk11.trans (k12.mono fun _ _ h=>h.1)
  simp only [SS,b12.rd (o:=1) (v:=I 0) rfl]
  rw [if_neg (by decide)]
  unfold F162_1
  simp only [SS,b12.rd (o:=2) (v:=I 0) rfl]
  refine word_k (i:=0) rfl u12 (sz hk12) (by show (wordS tx5 sBr 1).length<500; omega) (by decide) (by omega) fun w13 k13 u13=>?_
  have b13:=keep b12 k13
  have hk13:=hk12.trans (k13.mono fun _ _ h=>h.1)
  simp only [SS,b13.rd (o:=3) (v:=I 9) rfl]
  rw [if_pos (by decide)]
  unfold F162_2
  simp only [SS,b13.rd (o:=3) (v:=I 9) rfl]
  refine word_k (i:=9) rfl u13 (sz hk13) (by show (wordS (wordS tx5 sBr 1) sAt 0).length<500; omega) (by decide) (by omega) fun w14 k14 u14=>?_
  have hk14:=hk13.trans (k14.mono fun _ _ h=>h.1)
  refine k253 (x:=93) u14 (sz hk14) (by show (wordS (wordS (wordS tx5 sBr 1) sAt 0) sDue 9).length<1000; omega) fun w15 k15 u15=>?_
  have hk15:=hk14.trans (k15.mono fun _ _ h=>h.1)
  exact ⟨⟨hk15,.inr ⟨by decide,u15⟩⟩,by decide⟩
 ·simp only [SS]
  rw [if_neg (by decide)]
  refine k249 u9 (sz k9) fun w10 k10=>?_
  simp only [SS]
  exact hR w10 (tk (k9.trans k10))
def sOk:ByteArray:=⟨#[111,107]⟩
theorem f78 {o:OpV} {a:AnsA} {cs:List Value} {B:Nat} (h:AnsAt w B cs a) (he:a.err=0)
  (hR:∀ (x3:Nat) w2,Kp No w w2→Bk w2 x3 cs 49→(if o.k=1 then (onI (I a.hd) fun x26=>Ct Tryz.prog 160 #[.int .i64 x26] w2 fun v27 w5=>onS v27 fun x27=>K (.string x27) w5) else if o.k=4 then (onI (I a.hd) fun x26=>Ct Tryz.prog 160 #[.int .i64 x26] w2 fun v27 w6=>onS v27 fun x27=>K (.string x27) w6) else F78_0 K ⟨x3,0,none⟩ o.k (o.k == 8) w2)):Ct Tryz.prog 78 #[.agg o.cells.toArray,.agg cs.toArray] w K:=by
 refine c78 ?_
 unfold F78
 refine new_k o.cells fun w1 k1 b1 s1=>?_
 refine new_k cs fun w2 k2 b2 s2=>?_
 have b12:Bk w2 w.heap.size o.cells 39:=k2.bk b1 id
 obtain ⟨nc,tc,rfl,hn,ht⟩:=h
 have hR:=hR w1.heap.size w2 (k1.trans k2) b2
 simp only [SS,b2.rd (o:=0) (v:=I a.err) rfl,he,b12.rd (o:=0) (v:=I o.k) rfl,b2.rd (o:=1) (v:=I a.hd) rfl]
 simp only [SS] at hR
 by_cases e1:o.k=1
 ·simp only [if_pos e1] at hR ⊢
  exact hR
 ·simp only [if_neg e1] at hR ⊢
  exact hR
theorem k78_h {o:OpV} {a:AnsA} {cs:List Value} {B k s g:Nat} (h:AnsAt w B cs a) (he:a.err=0) (ho:o.k=1∨o.k=4) (h0:a.hd≠0) (hok:okV a.hd=true) (hk:pK a.hd=k) (h1:1≤k) (h3:k≤3) (hs:pS a.hd=s) (hs1:s<100) (hg:pG a.hd=g) (hg1:g<100) (hne:((textH k s g).toList == (⟨#[]⟩:ByteArray).toList)=false)
  (hR:∀ w',Kp No w w'→K (.string (textH k s g)) w'):Ct Tryz.prog 78 #[.agg o.cells.toArray,.agg cs.toArray] w K:=by
 refine f78 h he fun x3 w2 k2 b2=>?_
 have:Ct Tryz.prog 160 #[.int .i64 a.hd] w2 fun v27 w5=>onS v27 fun x27=>K (.string x27) w5:=k160 h0 hok hk h1 h3 hs hs1 hg hg1 hne fun w3 k3=>hR w3 (k2.trans k3)
 by_cases e1:o.k=1
 ·rw [if_pos e1]; exact this
 ·rw [if_neg e1,if_pos (by omega)]; exact this
theorem k78_ok {o:OpV} {a:AnsA} {cs:List Value} {B:Nat} (h:AnsAt w B cs a) (he:a.err=0) (h1:o.k≠1) (h4:o.k≠4) (h8:o.k≠8) (h9:o.k≠9) (hR:∀ w',Kp No w w'→K (.string sOk) w'):Ct Tryz.prog 78 #[.agg o.cells.toArray,.agg cs.toArray] w K:=by
 refine f78 h he fun x3 w2 k2 b2=>?_
 rw [if_neg h1,if_neg h4]
 unfold F78_0
 rw [show (o.k == 8)=false by simpa using h8]
 simp only [SS]
 rw [if_neg h9]
 exact hR w2 k2
theorem k78_t {o:OpV} {a:AnsA} {cs:List Value} {B:Nat} (h:AnsAt w B cs a) (he:a.err=0) (h9:o.k=9) (ht:a.tk=some tk1) (hR:∀ w',Kp No w w'→K (.string txt1) w'):Ct Tryz.prog 78 #[.agg o.cells.toArray,.agg cs.toArray] w K:=by
 have hh:=h
 refine f78 h he fun x3 w2 k2 b2=>?_
 rw [if_neg (by omega),if_neg (by omega),h9]
 unfold F78_0
 rw [show ((9:Int) == 8)=false from rfl]
 obtain ⟨nc,tc,rfl,hn,h3⟩:=hh
 rw [ht] at h3
 obtain ⟨v,rfl,hv,_⟩:=h3
 have e:∀ k,La 8 ⟨x3,26,none⟩ w2 k=k v.cells.toArray:=fun k=>by
  rw [b2.la (by simp [nd_len hn,TkV.cells])]; simp [List.drop_append,nd_len hn,TkV.cells]
 simp only [SS,e]
 refine k162 (hv.kp k2 fun _ _=>id) fun w3 k3=>?_
 exact hR w3 (k2.trans k3)
end
section
open Sy
def F393_0B (R:Ko) (C0:Ko) (x14:Value) (w:World):Prop:=Rv Tryz.prog (Instr.next x14 true 0) w fun v15 w2=>onNext v15 (fun y15_0 y15_1=>onI y15_0 fun x15_0=>onR y15_1 fun x15_1=>Ifm (decide ((x15_1:Int)≥97)) (Ifm (!(decide ((x15_1:Int)≤122))) (Ifm ((x15_0:Int) == 0) (R (.bool false) w2) (Ifm ((x15_1:Int) != 95) (Ifm (decide ((x15_1:Int)<48)) (R (.bool false) w2) (Ifm (decide ((x15_1:Int) > 57)) (R (.bool false) w2) (C0 x14 w2))) (C0 x14 w2))) (C0 x14 w2)) (Ifm ((x15_0:Int) == 0) (R (.bool false) w2) (Ifm ((x15_1:Int) != 95) (Ifm (decide ((x15_1:Int)<48)) (R (.bool false) w2) (Ifm (decide ((x15_1:Int) > 57)) (R (.bool false) w2) (C0 x14 w2))) (C0 x14 w2)))) (R (.bool true) w2)
def F393_0 (R:Ko) (x14:Value) (w:World):Prop:=∃ (Inv:Ko) (μ:Value→World→Nat),Inv x14 w∧∀ x14 w,Inv x14 w→F393_0B R (fun x14' w'=>Inv x14' w'∧μ x14' w'<μ x14 w) x14 w
def F393 (R:Ko) (x0:ByteArray) (w:World):Prop:=Ifm (x0.toList == (⟨#[]⟩:ByteArray).toList) (R (.bool false) w) (Ifm (decide (((x0.size:Nat):Int) > 32)) (R (.bool false) w) (Rv Tryz.prog (Instr.range 9 (.string x0)) w fun v14 w1=>F393_0 R v14 w1))
noncomputable def b393:Code:=Tryz.f393.body.getD .skip
def q393_0:List Bool:=[false,true,false,true,true]
def L393_0 (F:Ko):Env→World→Prop:=fun ρ w=>F (ρ 14) w
abbrev T393 (z:Fr) (R:Ko) (p:List Bool) (ρ:Env) (w:World):Prop:=TW z Tryz.prog 43 (segTodo b393 p) (QR Tryz.prog [.tmp 2] R) ρ w
theorem s393_0 (R:Ko):∀ ρ w,(L393_0 (F393_0 R)) ρ w→T393 z0 R q393_0 ρ w:=by
 intro ρ w h
 unfold L393_0 at h
 generalize e14:ρ 14=x14 at h
 obtain ⟨Inv,μ,hi,hb⟩:=h
 refine lpT (fun m=>L393_0 (fun x14 w=>Inv x14 w∧μ x14 w=m)) ?_ (μ x14 w) ρ w ?_
 ·intro m ρ w ih h
  unfold L393_0 at h
  generalize e14:ρ 14=x14 at h
  obtain ⟨hv,hm⟩:=h
  subst hm
  have hh:=hb x14 w hv
  obtain ⟨C0,hC⟩:∃ C,C=fun x14' w'=>Inv x14' w'∧μ x14' w'<μ x14 w:=⟨_,rfl⟩
  rw [← hC] at hh
  have h0:∀ ρ w,(L393_0 C0) ρ w→T393 z0 R q393_0 ρ w:=by
   intro ρ' w' h'
   refine ih ρ' w' ?_
   unfold L393_0 at h'
   generalize e14':ρ' 14=x14' at h'
   rw [hC] at h'
   refine ⟨_,h'.2,?_⟩
   simp only [e14',L393_0,ons]
   exact ⟨h'.1,by trivial⟩
  rw [← upds_same (ρ:=ρ) [(14,x14)] (alc e14 aln)]
  exact sg (cuts:=[(q393_0,L393_0 C0)]) ⟨h0,trivial⟩ hh
 ·simp only [e14,L393_0,ons]
  exact ⟨hi,by trivial⟩
theorem c393 {R:Ko} {x0:ByteArray} {w:World} (h:F393 R x0 w):Ct Tryz.prog 393 #[.string x0] w R :=
 ctS (args:=[.string x0]) (body:=b393) (n:=43) (rs:=[.tmp 2]) Tryz.func393
  (sg (cuts:=[(q393_0,L393_0 (F393_0 R))]) ⟨s393_0 R,trivial⟩ h)
def F371_0B (R:Ko) (C0:ByteArray→Int→Int→World→Prop) (x0:ByteArray) (x26:Int) (x27:Int) (w:World):Prop:=Ifm (decide ((x27:Int)<x26)) (Is x0 x27 fun x32=>Ifm (decide ((x32:Int)<48)) (R (.tuple #[.int .i64 0,.iface 129 (.int .i64 4)]) w) (Is x0 x27 fun x37=>Ifm (decide ((x37:Int) > 57)) (R (.tuple #[.int .i64 0,.iface 129 (.int .i64 4)]) w) (C0 x0 x26 (IntKind.i64.wrap (x27+1)) w))) (Ct Tryz.prog 394 #[.string x0] w fun v44 w1=>on2 v44 fun y44_0 y44_1=>onI y44_0 fun x44_0=>Ifm (decide ((x44_0:Int) > 2147483647)) (R (.tuple #[.int .i64 0,.iface 129 (.int .i64 2)]) w1) (R (.tuple #[.int .i64 x44_0,.nilIface]) w1))
def F371_0 (R:Ko) (x0:ByteArray) (x26:Int) (x27:Int) (w:World):Prop:=∃ (Inv:ByteArray→Int→Int→World→Prop) (μ:ByteArray→Int→Int→World→Nat),Inv x0 x26 x27 w∧∀ x0 x26 x27 w,Inv x0 x26 x27 w→F371_0B R (fun x0' x26' x27' w'=>Inv x0' x26' x27' w'∧μ x0' x26' x27' w'<μ x0 x26 x27 w) x0 x26 x27 w
def F371 (R:Ko) (x0:ByteArray) (w:World):Prop:=Ifm (x0.toList == (⟨#[]⟩:ByteArray).toList) (R (.tuple #[.int .i64 0,.iface 129 (.int .i64 4)]) w) (Ifm (decide (((x0.size:Nat):Int) > 10)) (R (.tuple #[.int .i64 0,.iface 129 (.int .i64 4)]) w) (Is x0 0 fun x16=>Ifm ((x16:Int) == 48) (Ifm (decide (((x0.size:Nat):Int) > 1)) (R (.tuple #[.int .i64 0,.iface 129 (.int .i64 4)]) w) (F371_0 R x0 (x0.size:Nat) 0 w)) (F371_0 R x0 (x0.size:Nat) 0 w)))
noncomputable def b371:Code:=Tryz.f371.body.getD .skip
def q371_0:List Bool:=[false,true,false,true,true]
def L371_0 (F:ByteArray→Int→Int→World→Prop):Env→World→Prop:=fun ρ w=>onS (ρ 0) fun x0=>onI (ρ 26) fun x26=>onI (ρ 27) fun x27=>F x0 x26 x27 w
abbrev T371 (z:Fr) (R:Ko) (p:List Bool) (ρ:Env) (w:World):Prop:=TW z Tryz.prog 51 (segTodo b371 p) (QR Tryz.prog [.tmp 2,.tmp 3] R) ρ w
theorem s371_0 (R:Ko):∀ ρ w,(L371_0 (F371_0 R)) ρ w→T371 z0 R q371_0 ρ w:=by
 intro ρ w h
 obtain ⟨x0,e0,h⟩:=onS_of h
 obtain ⟨x26,e26,h⟩:=onI_of h
 obtain ⟨x27,e27,h⟩:=onI_of h
 obtain ⟨Inv,μ,hi,hb⟩:=h
 refine lpT (fun m=>L371_0 (fun x0 x26 x27 w=>Inv x0 x26 x27 w∧μ x0 x26 x27 w=m)) ?_ (μ x0 x26 x27 w) ρ w ?_
 ·intro m ρ w ih h
  obtain ⟨x0,e0,h⟩:=onS_of h
  obtain ⟨x26,e26,h⟩:=onI_of h
  obtain ⟨x27,e27,h⟩:=onI_of h
  obtain ⟨hv,hm⟩:=h
  subst hm
  have hh:=hb x0 x26 x27 w hv
  obtain ⟨C0,hC⟩:∃ C,C=fun x0' x26' x27' w'=>Inv x0' x26' x27' w'∧μ x0' x26' x27' w'<μ x0 x26 x27 w:=⟨_,rfl⟩
  rw [← hC] at hh
  have h0:∀ ρ w,(L371_0 C0) ρ w→T371 z0 R q371_0 ρ w:=by
   intro ρ' w' h'
   refine ih ρ' w' ?_
   obtain ⟨x0',e0',h'⟩:=onS_of h'
   obtain ⟨x26',e26',h'⟩:=onI_of h'
   obtain ⟨x27',e27',h'⟩:=onI_of h'
   rw [hC] at h'
   refine ⟨_,h'.2,?_⟩
   simp only [e0',e26',e27',L371_0,ons]
   exact ⟨h'.1,by trivial⟩
  rw [← upds_same (ρ:=ρ) [(0,.string x0),(26,.int .i64 x26),(27,.int .i64 x27)] (alc e0 (alc e26 (alc e27 aln)))]
  exact sg (cuts:=[(q371_0,L371_0 C0)]) ⟨h0,trivial⟩ hh
 ·simp only [e0,e26,e27,L371_0,ons]
  exact ⟨hi,by trivial⟩
theorem c371 {R:Ko} {x0:ByteArray} {w:World} (h:F371 R x0 w):Ct Tryz.prog 371 #[.string x0] w R :=
 ctS (args:=[.string x0]) (body:=b371) (n:=51) (rs:=[.tmp 2,.tmp 3]) Tryz.func371
  (sg (cuts:=[(q371_0,L371_0 (F371_0 R))]) ⟨s371_0 R,trivial⟩ h)
def F368_0B (R:Ko) (C0:Option Addr→Nat→Nat→Option Addr→Nat→Nat→Int→Int→World→Prop) (a4:Option Addr) (l4 c4:Nat) (a17:Option Addr) (l17 c17:Nat) (x18:Int) (x19:Int) (w:World):Prop:=Ifm (decide ((x19:Int)<x18)) (Ix a17 l17 x19 1 fun x21=>Lc x21 w fun v22=>onS v22 fun x22=>Ct Tryz.prog 393 #[.string x22] w fun v24 w2=>onB v24 fun x24=>Ifm (!x24) (R (.tuple #[.slice none 0 0,.iface 129 (.int .i64 4)]) w2) (C0 a4 l4 c4 a17 l17 c17 x18 (IntKind.i64.wrap (x19+1)) w2)) (R (.tuple #[.slice a4 l4 c4,.nilIface]) w)
def F368_0 (R:Ko) (a4:Option Addr) (l4 c4:Nat) (a17:Option Addr) (l17 c17:Nat) (x18:Int) (x19:Int) (w:World):Prop:=∃ (Inv:Option Addr→Nat→Nat→Option Addr→Nat→Nat→Int→Int→World→Prop) (μ:Option Addr→Nat→Nat→Option Addr→Nat→Nat→Int→Int→World→Nat),Inv a4 l4 c4 a17 l17 c17 x18 x19 w∧∀ a4 l4 c4 a17 l17 c17 x18 x19 w,Inv a4 l4 c4 a17 l17 c17 x18 x19 w→F368_0B R (fun a4' l4' c4' a17' l17' c17' x18' x19' w'=>Inv a4' l4' c4' a17' l17' c17' x18' x19' w'∧μ a4' l4' c4' a17' l17' c17' x18' x19' w'<μ a4 l4 c4 a17 l17 c17 x18 x19 w) a4 l4 c4 a17 l17 c17 x18 x19 w
def F368 (R:Ko) (x0:ByteArray) (w:World):Prop:=Ifm (decide (((x0.size:Nat):Int) > 264)) (R (.tuple #[.slice none 0 0,.iface 129 (.int .i64 3)]) w) (Ct Tryz.prog 392 #[.string x0,.string (⟨#[47]⟩)] w fun v12 w1=>onL v12 fun a12 l12 c12=>Ifm (decide (((l12:Nat):Int) > 8)) (R (.tuple #[.slice none 0 0,.iface 129 (.int .i64 4)]) w1) (F368_0 R a12 l12 c12 a12 l12 c12 (l12:Nat) 0 w1))
noncomputable def b368:Code:=Tryz.f368.body.getD .skip
def q368_0:List Bool:=[false,true,false,true,true,true,true]
def L368_0 (F:Option Addr→Nat→Nat→Option Addr→Nat→Nat→Int→Int→World→Prop):Env→World→Prop:=fun ρ w=>onL (ρ 4) fun a4 l4 c4=>onL (ρ 17) fun a17 l17 c17=>onI (ρ 18) fun x18=>onI (ρ 19) fun x19=>F a4 l4 c4 a17 l17 c17 x18 x19 w
abbrev T368 (z:Fr) (R:Ko) (p:List Bool) (ρ:Env) (w:World):Prop:=TW z Tryz.prog 29 (segTodo b368 p) (QR Tryz.prog [.tmp 2,.tmp 3] R) ρ w
theorem s368_0 (R:Ko):∀ ρ w,(L368_0 (F368_0 R)) ρ w→T368 z0 R q368_0 ρ w:=by
 intro ρ w h
 obtain ⟨a4,l4,c4,e4,h⟩:=onL_of h
 obtain ⟨a17,l17,c17,e17,h⟩:=onL_of h
 obtain ⟨x18,e18,h⟩:=onI_of h
 obtain ⟨x19,e19,h⟩:=onI_of h
 obtain ⟨Inv,μ,hi,hb⟩:=h
 refine lpT (fun m=>L368_0 (fun a4 l4 c4 a17 l17 c17 x18 x19 w=>Inv a4 l4 c4 a17 l17 c17 x18 x19 w∧μ a4 l4 c4 a17 l17 c17 x18 x19 w=m)) ?_ (μ a4 l4 c4 a17 l17 c17 x18 x19 w) ρ w ?_
 ·intro m ρ w ih h
  obtain ⟨a4,l4,c4,e4,h⟩:=onL_of h
  obtain ⟨a17,l17,c17,e17,h⟩:=onL_of h
  obtain ⟨x18,e18,h⟩:=onI_of h
  obtain ⟨x19,e19,h⟩:=onI_of h
  obtain ⟨hv,hm⟩:=h
  subst hm
  have hh:=hb a4 l4 c4 a17 l17 c17 x18 x19 w hv
  obtain ⟨C0,hC⟩:∃ C,C=fun a4' l4' c4' a17' l17' c17' x18' x19' w'=>Inv a4' l4' c4' a17' l17' c17' x18' x19' w'∧μ a4' l4' c4' a17' l17' c17' x18' x19' w'<μ a4 l4 c4 a17 l17 c17 x18 x19 w:=⟨_,rfl⟩
  rw [← hC] at hh
  have h0:∀ ρ w,(L368_0 C0) ρ w→T368 z0 R q368_0 ρ w:=by
   intro ρ' w' h'
   refine ih ρ' w' ?_
   obtain ⟨a4',l4',c4',e4',h'⟩:=onL_of h'
   obtain ⟨a17',l17',c17',e17',h'⟩:=onL_of h'
   obtain ⟨x18',e18',h'⟩:=onI_of h'
   obtain ⟨x19',e19',h'⟩:=onI_of h'
   rw [hC] at h'
   refine ⟨_,h'.2,?_⟩
   simp only [e4',e17',e18',e19',L368_0,ons]
   exact ⟨h'.1,by trivial⟩
  rw [← upds_same (ρ:=ρ) [(4,.slice a4 l4 c4),(17,.slice a17 l17 c17),(18,.int .i64 x18),(19,.int .i64 x19)] (alc e4 (alc e17 (alc e18 (alc e19 aln))))]
  exact sg (cuts:=[(q368_0,L368_0 C0)]) ⟨h0,trivial⟩ hh
 ·simp only [e4,e17,e18,e19,L368_0,ons]
  exact ⟨hi,by trivial⟩
theorem c368 {R:Ko} {x0:ByteArray} {w:World} (h:F368 R x0 w):Ct Tryz.prog 368 #[.string x0] w R :=
 ctS (args:=[.string x0]) (body:=b368) (n:=29) (rs:=[.tmp 2,.tmp 3]) Tryz.func368
  (sg (cuts:=[(q368_0,L368_0 (F368_0 R))]) ⟨s368_0 R,trivial⟩ h)
def F369 (R:Ko) (x0:ByteArray) (w:World):Prop:=Ct Tryz.prog 393 #[.string x0] w fun v4 w1=>onB v4 fun x4=>Ifm x4 (Ifm (!(x0.toList == (⟨#[114,111,111,116]⟩:ByteArray).toList)) (Ifm (!(x0.toList == (⟨#[115,108,97,99,107]⟩:ByteArray).toList)) (R (.bool (!(x0.toList == (⟨#[116,97,115,107,115]⟩:ByteArray).toList))) w1) (R (.bool false) w1)) (R (.bool false) w1)) (R (.bool false) w1)
noncomputable def b369:Code:=Tryz.f369.body.getD .skip
theorem c369 {R:Ko} {x0:ByteArray} {w:World} (h:F369 R x0 w):Ct Tryz.prog 369 #[.string x0] w R :=
 ctS (args:=[.string x0]) (body:=b369) (n:=17) (rs:=[.tmp 2]) Tryz.func369
  (sg (cuts:=[]) trivial h)
variable {K:Ko} {w w':World}
def nonB (s:ByteArray):Bool := !(s.toList == (⟨#[]⟩:ByteArray).toList)
def lowB (s:ByteArray):Bool:=nonB s && decide (s.size≤32) && s.data.toList.all fun b=>decide (97≤b.toNat) && decide (b.toNat≤122)
def digB (s:ByteArray):Bool:=nonB s && decide (0<s.size) && decide (s.size≤10) && (s.data.toList.all fun b=>decide (48≤b.toNat) && decide (b.toNat≤57)) && (decide (s.size=1) || !(s.data.toList.head? == some 48))
theorem all_at {s:ByteArray} {p:UInt8→Bool} (h:s.data.toList.all p=true) {i:Nat} {b:UInt8} (hb:s[i]?=some b):p b=true:=by
 rw [at_data] at hb
 have:b∈s.data.toList:=by
  rw [Array.mem_toList_iff]
  exact Array.mem_of_getElem? hb
 exact List.all_eq_true.1 h b this
theorem nonB_eq {s:ByteArray} (h:nonB s=true):(s.toList == (⟨#[]⟩:ByteArray).toList)=false:=by
 unfold nonB at h
 cases e:(s.toList == (⟨#[]⟩:ByteArray).toList) with
 | false=>rfl
 | true=>rw [e] at h; cases h
theorem k393 {s:ByteArray} (h:lowB s=true) (hR:∀ w',Kp No w w'→K (.bool true) w'):Ct Tryz.prog 393 #[.string s] w K:=by
 simp only [lowB,Bool.and_eq_true,decide_eq_true_eq] at h
 obtain ⟨⟨h0,h1⟩,h2⟩:=h
 refine c393 ?_
 unfold F393
 rw [nonB_eq h0]
 simp only [SS]
 rw [if_neg (by omega)]
 refine ⟨_,_,run_range_string w 9 s u9s,?_⟩
 have k1:Kp No w (w.iter s 0):=Kp.alloc No w (.stringIter s 0)
 have hi:(w.iter s 0).heap[w.heap.size]?=some (.stringIter s 0):=heap_alloc_new w (.stringIter s 0)
 unfold F393_0
 refine ⟨fun x u=>x=Pt w.heap.size 0∧Kp No w u∧∃ pos,pos≤s.size∧u.heap[w.heap.size]?=some (.stringIter s pos),fun _ u=>match u.heap[w.heap.size]? with | some (.stringIter _ pos)=>s.size - pos | _=>0,⟨rfl,k1,0,by omega,hi⟩,?_⟩
 rintro _ w1 ⟨rfl,k1,pos,hp,hi⟩
 unfold F393_0B
 by_cases e:pos<s.size
 ·have hb:s[pos]?=some (s[pos]'e):=getElem?_pos s pos e
  have hl:=all_at h2 hb
  simp only [Bool.and_eq_true,decide_eq_true_eq] at hl
  refine ⟨_,_,Lib.run_next_ascii_at w1 w.heap.size s pos 0 hi e (by omega),?_⟩
  have hi2:=Lib.iterAt_heap w1 w.heap.size s pos (pos+1) hi
  have k2:Kp (·=w.heap.size) w1 (w1.iterAt w.heap.size s (pos+1)):=(Kp.obj hi).1
  simp only [onNext_t,SS]
  rw [if_pos (by omega),if_pos (by omega)]
  refine ⟨⟨k1.own k2 (Nat.le_refl _),pos+1,by omega,hi2⟩,?_⟩
  rw [hi,hi2]
  show s.size - (pos+1)<s.size - pos
  omega
 ·refine ⟨_,_,Lib.run_next_end_at w1 w.heap.size s pos 0 hi e,?_⟩
  simp only [onNext_f]
  exact hR w1 k1
theorem k369 {s:ByteArray} (h:lowB s=true) (h1:sEq s sRoot=false) (h2:sEq s sSlack=false) (h3:sEq s ⟨#[116,97,115,107,115]⟩=false) (hR:∀ w',Kp No w w'→K (.bool true) w'):Ct Tryz.prog 369 #[.string s] w K:=by
 refine c369 ?_
 unfold F369
 refine k393 h fun w1 k1=>?_
 simp only [SS,show (s.toList == (⟨#[114,111,111,116]⟩:ByteArray).toList)=false from h1,show (s.toList == (⟨#[115,108,97,99,107]⟩:ByteArray).toList)=false from h2,show (s.toList == (⟨#[116,97,115,107,115]⟩:ByteArray).toList)=false from h3]
 exact hR w1 k1
theorem k371 {s:ByteArray} {n:Int} (h:digB s=true) (ha:Lib.atoi s.data.toList=some n) (hn:n≤2147483647) (hR:∀ w',Kp No w w'→K (.tuple #[I n,.nilIface]) w'):Ct Tryz.prog 371 #[.string s] w K:=by
 simp only [digB,Bool.and_eq_true,decide_eq_true_eq] at h
 obtain ⟨⟨⟨⟨h0,hp⟩,h1⟩,h2⟩,h3⟩:=h
 refine c371 ?_
 unfold F371
 rw [nonB_eq h0]
 simp only [SS]
 rw [if_neg (by omega)]
 have loop:F371_0 K s (s.size:Nat) 0 w:=by
  unfold F371_0
  refine ⟨fun x0 x26 x27 u=>s=x0∧x26=(s.size:Int)∧w=u∧0≤x27∧x27≤(s.size:Int),fun _ _ x27 _=>((s.size:Int) - x27).toNat,⟨rfl,rfl,rfl,by omega,by omega⟩,?_⟩
  rintro _ _ x27 _ ⟨rfl,rfl,rfl,q0,q1⟩
  unfold F371_0B
  simp only [SS]
  by_cases e:x27<(s.size:Int)
  ·rw [if_pos e]
   obtain ⟨i,rfl⟩:∃ i:Nat,x27=i:=⟨x27.toNat,by omega⟩
   have dg:∀ b:UInt8,s[i]?=some b→48≤b.toNat∧b.toNat≤57:=fun b hb=>by
    have:=all_at h2 hb
    simpa using this
   refine byte_k (i:=i) (by omega) rfl fun b hb=>?_
   have:=dg b hb
   rw [if_neg (by omega)]
   refine byte_k (i:=i) (by omega) rfl fun b' hb'=>?_
   have:=dg b' hb'
   rw [if_neg (by omega),wr1 (by omega) (by omega)]
   exact ⟨⟨by omega,by omega⟩,by omega⟩
  ·rw [if_neg e]
   refine k394 (by omega) ha fun w1 k1=>?_
   simp only [SS]
   rw [if_neg (by omega)]
   exact hR w1 k1
 refine byte_k (i:=0) (by omega) rfl fun b hb=>?_
 by_cases e:(b.toNat:Int)=48
 ·rw [if_pos e]
  have e1:s.size=1:=by
   rw [Bool.or_eq_true,decide_eq_true_eq] at h3
   rcases h3 with h | h
   ·exact h
   ·exfalso
    have hd:s.data.toList.head?=some b:=by
     rw [List.head?_eq_getElem?,Array.getElem?_toList]
     exact hb
    have hb48:b=48:=by
     apply UInt8.toNat_inj.1
     show b.toNat=48
     omega
    rw [hd,hb48] at h
    cases h
  rw [if_neg (by omega)]
  exact loop
 ·rw [if_neg e]
  exact loop
theorem k368 {s:ByteArray} {ps:List ByteArray} {n:Nat} (hm:M0 w) (hs:s.size≤264) (hn:Lib.countB s sSlash+1=n) (hp:Lib.splitB sSlash 0 (Lib.countB s sSlash) s=ps) (hl:ps.length=n) (hn8:n≤8) (hok:∀ p∈ps,lowB p=true) (hR:∀ a l c w',Kp No w w'→K (.tuple #[.slice a l c,.nilIface]) w'):Ct Tryz.prog 368 #[.string s] w K:=by
 refine c368 ?_
 unfold F368
 simp only [SS]
 rw [if_neg (by omega)]
 refine k392 (sep:=sSlash) hm (by omega) (by decide) hn hp hl (fun w1 k1 ho=>?_) (by omega)
 simp only [SS]
 rw [if_neg (by omega)]
 unfold F368_0
 refine ⟨fun a4 l4 c4 a17 l17 c17 x18 x19 u=>a17=some ⟨w.heap.size,0,none⟩∧n=l17∧n=c17∧x18=(n:Int)∧Kp No w1 u∧0≤x19∧x19≤(n:Int),fun _ _ _ _ _ _ _ x19 _=>((n:Int) - x19).toNat,⟨rfl,rfl,rfl,rfl,Kp.refl _ _,by omega,by omega⟩,?_⟩
 rintro a4 l4 c4 _ _ _ _ x19 w2 ⟨rfl,rfl,rfl,rfl,k2,q0,q1⟩
 unfold F368_0B
 simp only [SS]
 by_cases e:x19<(n:Int)
 ·rw [if_pos e]
  obtain ⟨i,rfl⟩:∃ i:Nat,x19=i:=⟨x19.toNat,by omega⟩
  have ho2:=own_kp ho k2 fun _ _=>id
  have hi:i<ps.length:=by omega
  refine ix_k rfl (by omega) ?_
  simp only [Nat.mul_one,SS]
  rw [own_lc ho2 (o:=i) (v:=.string ps[i]) (by omega) (by simp [strs,hi])]
  simp only [SS]
  refine k393 (hok _ (List.getElem_mem hi)) fun w3 k3=>?_
  simp only [SS]
  rw [wr1 (by omega) (by omega)]
  exact ⟨⟨k2.trans k3,by omega,by omega⟩,by omega⟩
 ·rw [if_neg e]
  exact hR _ _ _ _ (k1.trans k2)
end
end Go.Proofs.YtbgbidpecmepmaaGreatDoor
