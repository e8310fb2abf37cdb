/-
  works answers true; so does ScriptOps, of all rows of steps in memory; What the rows' conditions give: the listed variables, the steps in memory; a world that meets them; ScriptOps: every row of steps over a new kernel, and a second one over its twin: the call returns true, and the input reads as it did.
-/
import Derived.Test.YtbgbidpecmepmaaGreatDoorM26
import Derived.Test.YtbgbidpecmepmaaGreatDoorCards
import Derived.Test.YtbgbidpecmepmaaGreatDoorTie
import Derived.ProofKit
import Derived.OpenShut
import Derived.Deep.DeepHandedRow
import Derived.Deep.DeepWitnessRowRef
import Derived.LaidMore
import Derived.LaidHandle
import Derived.Shelf.Vars
import Derived.Carry
import Derived.Test.YtbgbidpecmepmaaGreatDoorXE0
set_option maxRecDepth 100000
namespace Go.Proofs.YtbgbidpecmepmaaGreatDoor
section
open Sy
def F6 (R:Ko)  (w:World):Prop:=Ct Tryz.prog 25 #[.string (⟨#[99,114,101,97,116,101,32,114,111,111,116,32,97,32,51,47,49,48,10,116,97,115,107,32,97,32,116,32,53,10,106,111,98,32,97,46,116,32,52,32,100,117,101,32,57,10,116,105,99,107,32,49,48,10,115,104,111,119,32,97,46,116,10]⟩)] w fun v12 w1=>on2 v12 fun y12_0 y12_1=>onL y12_0 fun a12_0 l12_0 c12_0=>Ct Tryz.prog 8 #[] w1 fun v16 w2=>onP v16 fun x16=>Ct Tryz.prog 9 #[.pointer x16,.slice none 0 0] w2 fun v17 w3=>on2 v17 fun y17_0 y17_1=>onP y17_0 fun x17_0=>Nl y12_1 fun x21=>Ifm (!x21) (R (.bool false) w3) (Nl y17_1 fun x24=>Ifm (!x24) (R (.bool false) w3) (Ifm x17_0.isNone (R (.bool false) w3) (Ct Tryz.prog 26 #[.pointer x17_0,.slice a12_0 l12_0 c12_0] w3 fun v33 w4=>on2 v33 fun y33_0 y33_1=>onL y33_0 fun a33_0 l33_0 c33_0=>Ct Tryz.prog 25 #[.string (⟨#[116,105,99,107,32,49,10,116,105,99,107,115,32,50]⟩)] w4 fun v37 w5=>on2 v37 fun y37_0 y37_1=>onL y37_0 fun a37_0 l37_0 c37_0=>Rd Tryz.prog (Instr.typeAssert y37_1 30 105 true) w5 fun v42=>on2 v42 fun y42_0 y42_1=>onP y42_0 fun x42_0=>onB y42_1 fun x42_1=>Nl y33_1 fun x46=>Ifm x46 (Ifm (((l33_0:Nat):Int) == 5) (Ix a33_0 l33_0 0 1 fun x54=>Lc x54 w5 fun v55=>onS v55 fun x55=>Ifm (x55.toList == (⟨#[49,58,32,110,49,46,49]⟩:ByteArray).toList) (Ix a33_0 l33_0 1 1 fun x60=>Lc x60 w5 fun v61=>onS v61 fun x61=>Ifm (x61.toList == (⟨#[50,58,32,116,48,46,49]⟩:ByteArray).toList) (Ix a33_0 l33_0 3 1 fun x66=>Lc x66 w5 fun v67=>onS v67 fun x67=>Ifm (x67.toList == (⟨#[52,58,32,111,107]⟩:ByteArray).toList) (Ix a33_0 l33_0 4 1 fun x72=>Lc x72 w5 fun v73=>onS v73 fun x73=>Ifm (x73.toList == (⟨#[53,58,32,112,114,105,111,32,53,32,103,105,118,101,110,32,51,32,100,111,110,101,32,48,32,99,117,116,32,48,32,108,97,116,101,32,48,32,91,49,32,97,116,32,48,32,100,117,101,32,57,93]⟩:ByteArray).toList) (Ct Tryz.prog 15 #[.pointer x17_0,.string (⟨#[114,111,111,116]⟩)] w5 fun v78 w6=>onI v78 fun x78=>Ifm ((x78:Int) == 1099511627777) (Ct Tryz.prog 15 #[.pointer x17_0,.string (⟨#[120]⟩)] w6 fun v83 w7=>onI v83 fun x83=>Ifm ((x83:Int) == (-1)) (Ifm x42_1 (Ifm (!x42_0.isNone) (onSome x42_0 fun x95=>Lc (x95.add 0) w7 fun v97=>onI v97 fun x97=>Ifm ((x97:Int) == 2) (onSome x42_0 fun x102=>Lc (x102.add 1) w7 fun v104=>Ct Tryz.prog 27 #[v104] w7 fun v105 w8=>onI v105 fun x105=>R (.bool ((x105:Int) == 250)) w8) (R (.bool false) w7)) (R (.bool false) w7)) (R (.bool false) w7)) (R (.bool false) w7)) (R (.bool false) w6)) (R (.bool false) w5)) (R (.bool false) w5)) (R (.bool false) w5)) (R (.bool false) w5)) (R (.bool false) w5)) (R (.bool false) w5))))
noncomputable def b6:Code:=Tryz.f6.body.getD .skip
theorem c6 {R:Ko}  {w:World} (h:F6 R  w):Ct Tryz.prog 6 #[] w R :=
 ctS (args:=[]) (body:=b6) (n:=108) (rs:=[.tmp 0]) Tryz.func6
  (sg (cuts:=[]) trivial h)
def F27 (R:Ko) (x0:Value) (w:World):Prop:=Nl x0 fun x6=>Ifm x6 (R (.int .i64 0) w) (Rd Tryz.prog (Instr.typeAssert x0 30 129 true) w fun v9=>on2 v9 fun y9_0 y9_1=>onI y9_0 fun x9_0=>onB y9_1 fun x9_1=>Ifm (!x9_1) (R (.int .i64 (-1)) w) (R (.int .i64 x9_0) w))
noncomputable def b27:Code:=Tryz.f27.body.getD .skip
theorem c27 {R:Ko} {x0:Value} {w:World} (h:F27 R x0 w):Ct Tryz.prog 27 #[x0] w R :=
 ctS (args:=[x0]) (body:=b27) (n:=15) (rs:=[.tmp 2]) Tryz.func27
  (sg (cuts:=[]) trivial h)
variable {K:Ko} {w w':World}
theorem u105:∃ t,Tryz.prog.underlying 105=some (.pointer t):=⟨108,by kernel_rfl⟩
theorem u129:Tryz.prog.underlying 129=some (.int .i64):=by kernel_rfl
theorem as_ptr' {P:Program} {t e x:TypeId} (ht:P.underlying t=some (.pointer e)) (v:Value) (w:World) (k:Value→Prop):Rd P (Instr.typeAssert (.iface t v) x t true) w k=k (.tuple #[v,.bool true]):=by
 refine Rd_ok ?_ k
 simp [Instr.typeAssert,run_underlying ht,go_sem,Result.andThen]
theorem as_int' {P:Program} {t x:TypeId} {d:IntKind} (ht:P.underlying t=some (.int d)) (v:Value) (w:World) (k:Value→Prop):Rd P (Instr.typeAssert (.iface t v) x t true) w k=k (.tuple #[v,.bool true]):=by
 refine Rd_ok ?_ k
 simp [Instr.typeAssert,run_underlying ht,go_sem,Result.andThen]
theorem k27 {e:Int} (hR:K (I e) w):Ct Tryz.prog 27 #[Er e] w K:=by
 refine c27 ?_
 unfold F27
 simp only [Nl_if,SS]
 rw [as_int' u129]
 simp only [SS]
 exact hR
theorem k27_nil (hR:K (I 0) w):Ct Tryz.prog 27 #[.nilIface] w K:=by
 refine c27 ?_
 unfold F27
 simp only [SS]
 exact hR
theorem str_k {B e l c:Nat} {a:Option Addr} {ts:List ByteArray} (h:w.ownsRow B e 1 (.slice a l c) l (strs ts)) {i:Nat} {x:Int} (hx:x=(i:Nat)) {t:ByteArray} (ht:ts[i]?=some t) {k:ByteArray→Prop} (hk:k t):Ix a l x 1 fun y=>Lc y w fun v=>onS v k:=by
 have hl:l=ts.length:=by have:=h.1; simp [strs] at this; omega
 have hi:i<l:=by have:=(List.getElem?_eq_some_iff.1 ht).1; omega
 refine ix_own h hi hx fun g hg _=>?_
 subst hg
 rw [Nat.mul_one,own_lc h (o:=i) (v:=.string t) (by omega) (by simp [strs,ht])]
 simp only [SS]
 exact hk
set_option maxHeartbeats 4000000 in
theorem k6 (hg:G0 w) (hm:M0 w) (hR:∀ w',Kp No w w'→K (.bool true) w'):Ct Tryz.prog 6 #[] w K:=by
 refine c6 ?_
 unfold F6
 refine k25a hm fun a c w1 k1 ho=>?_
 simp only [SS]
 have h0:2<w.heap.size:=hm.lt
 refine k8 (lab:=fun _=>0) (q:=1000) (fun x hx=>absurd rfl hx) (by omega) (fun x hx=>by unfold inK at hx; omega) fun k w2 lab2 kp2 hk2 sp2 hkr2=>?_
 simp only [SS]
 refine k9_nil hkr2 fun x m nn w3 k3 hx hmm hnn hv=>?_
 simp only [SS]
 have z1:=k1.size
 have z2:=kp2.size
 have z3:=k3.size
 have k13:Kp No w1 w3:=kp2.trans k3
 have k03:Kp No w w3:=k1.trans k13
 have lz:∀ y,y<w1.heap.size→lab2 y=0:=fun y hy=>sp2.old y hy
 refine k26 (lab:=lab2) (q:=1000) (x:=x) (k:=k) (m:=m) (n:=nn) (ss:=[st1,st2,st3,st4,st5]) (tx:=txs) PW hv (hg.kp k03 id) (lz 0 (by omega)) (by decide) (own_kp ho k13 fun _ _=>id) (fun b hb=>lz b (own_lt ho hb).2) hst fun a2 c2 w4 lab4 hv4 hg4 hl4 k4 old4 ho4=>?_
 have k04:Kp No w w4:=k03.step k4 fun i hi hS=>by
  rcases hS with hS | rfl | rfl
  ·rw [lz i (by omega)] at hS; unfold inK at hS; omega
  ·omega
  ·omega
 simp only [SS]
 refine k25b (hm.kp k04 id) fun b w5 k5 hb=>?_
 simp only [SS]
 obtain ⟨e5,u5⟩:=u105
 rw [as_ptr' u5]
 simp only [SS]
 have k05:=k04.trans k5
 have ho5:w5.ownsRow w3.heap.size 9 1 (.slice a2 5 c2) 5 (strs txs):=own_kp ho4 k5 fun _ _=>id
 have hv5:=hv4.no k5
 rw [if_pos (show ((([st1,st2,st3,st4,st5]:List StV).length:Nat):Int)=5 from rfl)]
 refine str_k ho5 (i:=0) (t:=dig 1++sCol++tt1) rfl rfl ?_
 rw [show ((dig 1++sCol++tt1).toList == (⟨#[49,58,32,110,49,46,49]⟩:ByteArray).toList)=true by kernel_rfl]
 simp only [SS]
 refine str_k ho5 (i:=1) (t:=dig 2++sCol++tt2) rfl rfl ?_
 rw [show ((dig 2++sCol++tt2).toList == (⟨#[50,58,32,116,48,46,49]⟩:ByteArray).toList)=true by kernel_rfl]
 simp only [SS]
 refine str_k ho5 (i:=3) (t:=dig 4++sCol++sOk) rfl rfl ?_
 rw [show ((dig 4++sCol++sOk).toList == (⟨#[52,58,32,111,107]⟩:ByteArray).toList)=true by kernel_rfl]
 simp only [SS]
 refine str_k ho5 (i:=4) (t:=dig 5++sCol++txt1) rfl rfl ?_
 rw [show ((dig 5++sCol++txt1).toList == (⟨#[53,58,32,112,114,105,111,32,53,32,103,105,118,101,110,32,51,32,100,111,110,101,32,48,32,99,117,116,32,48,32,108,97,116,101,32,48,32,91,49,32,97,116,32,48,32,100,117,101,32,57,93]⟩:ByteArray).toList)=true by kernel_rfl]
 simp only [SS]
 refine k15 hv5 ?_
 rw [show handD (PW ([st1,st2,st3,st4,st5]:List StV).length).2 ⟨#[114,111,111,116]⟩=1099511627777 from hand1]
 simp only [SS]
 refine k15 hv5 ?_
 rw [show handD (PW ([st1,st2,st3,st4,st5]:List StV).length).2 ⟨#[120]⟩ = -1 from hand2]
 simp only [SS,hb.rd (o:=0) (v:=I 2) rfl]
 rw [hb.rd (o:=1) (v:=Er 250) rfl]
 refine k27 ?_
 simp only [SS]
 exact hR w5 k05
theorem k3_all {B l0 c0 l1 c1:Nat} {a0 a1:Option Addr} {ss0 ss1:List StV} (h0:Stps w B a0 l0 ss0) (h1:Stps w B a1 l1 ss1) (hB:B≤w.heap.size) (hg:G0 w) (hm:M0 w) (hl0:l0<4611686018427387904) (hl1:l1<4611686018427387904) (hR:∀ u,Kp No w u→K (.bool true) u):Ct Tryz.prog 3 #[.slice a0 l0 c0,.slice a1 l1 c1] w K :=
 k3 h0 h1 hB hg hl0 hl1 (fun u K ku hu=>k6 (hg.kp ku id) (hm.kp ku id) hu) hR
end
section
open Sy
open Go.ChangeShapes Go.WideShapes Go.ChangeAt Go.RowKit
variable {w w':World}
theorem own_:ownKnob Tryz.prog.godebug=none:=by kernel_rfl
theorem laidOut_:laidOutB Tryz.prog=true:=by kernel_rfl
theorem g_et:Tryz.prog.globalNamed "errors.errorType"=some 0:=by kernel_rfl
theorem rt_:(Tryz.prog.cutTypes.find? (·.1 == "internal/reflectlite.rtype")).map (·.2)=some 419:=by kernel_rfl
theorem size_:Tryz.prog.types.size=611:=by kernel_rfl
theorem oneRow_:((List.range 611).filter fun t=>Tryz.prog.rowNamed t [101,114,114,111,114])=[30]:=by kernel_rfl
theorem g0_of (h:laidMetH Tryz.prog Rows.scriptOpsRow.laid w):G0 w:=by
 have h':laidMet Tryz.prog (Rows.scriptOpsRow.laid.filter fun x=>x.2.handleName?.isNone) w∧handlesMet Tryz.prog [("errors.errorType",Rows.laid_errors_errorType)] w:=h
 obtain ⟨name,u,ty,e1,e2,e3,e4,e5⟩:=h'.2 _ (List.mem_singleton.2 rfl)
 have en:name=[101,114,114,111,114]:=(Option.some.inj e1).symm
 subst en
 obtain rfl:=Option.some.inj (rt_.symm.trans e2)
 have hm:ty∈(List.range 611).filter fun t=>Tryz.prog.rowNamed t [101,114,114,111,114]:=List.mem_filter.2 ⟨List.mem_range.2 (by rw [← size_]; exact e3),e4⟩
 rw [oneRow_] at hm
 obtain rfl:=List.mem_singleton.1 hm
 have hh:typeHandle Tryz.prog 30=Ty 30:=by kernel_rfl
 rw [hh] at e5
 unfold G0
 simpa using World.var?_cell g_et e5 0
theorem m0_of (h:w.ShapedOpen Tryz.prog):M0 w :=
 Go.Proofs.cell_of_shapedOpen_int (g:=2) (t:=3) (zero:=#[.int .i64 0]) h (of_decide_eq_true (by kernel_rfl)) (by kernel_rfl) rfl (by kernel_rfl) (by kernel_rfl) (by kernel_rfl)
section
variable {H:Type} {enc:TypeId × Value→H} {base:Nat} {sp:Nat→Bool} {held:Bool}
theorem i64_of {t:TypeId} {fuel:Nat} {cs:List Value} {x:DataW H × List MemPlace} (ht:Tryz.prog.underlying t=some (.int .i64)) (h:DataW.trod enc Tryz.prog w base sp held fuel t cs=some x):∃ n,cs=[I n]:=by
 obtain ⟨n,h,_⟩:=DataW.trod_int ht h
 exact ⟨n,h⟩
theorem u22:Tryz.prog.underlying 22=some (.slice 54):=by kernel_rfl
theorem u3':Tryz.prog.underlying 3=some (.int .i64):=by kernel_rfl
theorem fs54:∃ fs:Array Field,Tryz.prog.underlying 54=some (.struct fs)∧fs.toList.map (fun f=>(f.type,f.offset))=[(3,0),(3,1),(9,2),(9,3),(35,4),(37,6),(3,10)]:=⟨match Tryz.prog.underlying 54 with | some (.struct fs)=>fs | _=>#[],by kernel_rfl,by kernel_rfl⟩
theorem fs35:∃ fs:Array Field,Tryz.prog.underlying 35=some (.struct fs)∧fs.toList.map (fun f=>(f.type,f.offset))=[(3,0),(3,1)]:=⟨match Tryz.prog.underlying 35 with | some (.struct fs)=>fs | _=>#[],by kernel_rfl,by kernel_rfl⟩
theorem fs37:∃ fs:Array Field,Tryz.prog.underlying 37=some (.struct fs)∧fs.toList.map (fun f=>(f.type,f.offset))=[(3,0),(3,1),(3,2),(3,3)]:=⟨match Tryz.prog.underlying 37 with | some (.struct fs)=>fs | _=>#[],by kernel_rfl,by kernel_rfl⟩
theorem cl54:Tryz.prog.cellsOf 54=11:=by kernel_rfl
theorem cl35:Tryz.prog.cellsOf 35=2:=by kernel_rfl
theorem cl37:Tryz.prog.cellsOf 37=4:=by kernel_rfl
theorem cl3:Tryz.prog.cellsOf 3=1:=by kernel_rfl
theorem cl9:Tryz.prog.cellsOf 9=1:=by kernel_rfl
theorem each_mem {P:Program} {n:Nat}:∀ (ts:List TypeId) (ds:List (DataW H)) (i:Nat) (t:TypeId) (d:DataW H),ts[i]?=some t→ds[i]?=some d→n∈d.weights P t→n∈DataW.weightsEach P ts ds
 | [],_,_,_,_,h,_,_=>by cases h
 | _ :: _,[],_,_,_,_,h,_=>by cases h
 | t :: ts,d :: ds,0,_,_,h1,h2,h3=>by
  injection h1 with h1; injection h2 with h2; subst h1; subst h2
  unfold DataW.weightsEach
  exact List.mem_append_left _ h3
 | t :: ts,d :: ds,i+1,t',d',h1,h2,h3=>by
  unfold DataW.weightsEach
  exact List.mem_append_right _ (each_mem ts ds i t' d' h1 h2 h3)
theorem wall_mem {P:Program} {n:Nat} {e:TypeId}:∀ (ds:List (DataW H)) (i:Nat) (d:DataW H),ds[i]?=some d→n∈d.weights P e→n∈DataW.weightsAll P e ds
 | [],_,_,h,_=>by cases h
 | d :: ds,0,_,h2,h3=>by
  injection h2 with h2; subst h2
  unfold DataW.weightsAll
  exact List.mem_append_left _ h3
 | d :: ds,i+1,d',h2,h3=>by
  unfold DataW.weightsAll
  exact List.mem_append_right _ (wall_mem ds i d' h2 h3)
def Light (t:TypeId) (d:DataW H):Prop:=∀ n∈d.weights Tryz.prog t,n≤140737488351232
theorem light_each {ts:List TypeId} {ds:List (DataW H)} (h:(DataW.weightsEach Tryz.prog ts ds).all (·≤reachBytes)=true) {i:Nat} {t:TypeId} {d:DataW H} (h1:ts[i]?=some t) (h2:ds[i]?=some d):Light t d:=fun n hn=>by
 have:=List.all_eq_true.1 h n (each_mem ts ds i t d h1 h2 hn)
 exact of_decide_eq_true this
theorem field_of {t:TypeId} {fuel:Nat} {cs:List Value} {x:DataW H × List MemPlace} {fs:Array Field} {l:List (TypeId × Nat)} (ht:Tryz.prog.underlying t=some (.struct fs)) (hl:fs.toList.map (fun f=>(f.type,f.offset))=l)
  (h:DataW.trod enc Tryz.prog w base sp held fuel t cs=some x):cs.length=Tryz.prog.cellsOf t∧∀ (i:Nat) (t':TypeId) (o:Nat),l[i]?=some (t',o)→∃ n y,DataW.trod enc Tryz.prog w base sp held n t' ((cs.drop o).take (Tryz.prog.cellsOf t'))=some y∧(Light t x.1→Light t' y.1):=by
 obtain ⟨xs,n,_,hxe,hlen,hx,hf⟩:=DataW.trod_struct ht h
 refine ⟨hlen,fun i t' o hi=>?_⟩
 rw [← hl,List.getElem?_map,Option.map_eq_some_iff] at hi
 obtain ⟨f,hfi,he⟩:=hi
 injection he with h1 h2
 subst h1; subst h2
 have hfi2:fs[i]?=some f:=by rw [← Array.getElem?_toList]; exact hfi
 have hi:i<xs.length:=by
  have:=(Array.getElem?_eq_some_iff.1 hfi2).1
  omega
 refine ⟨n,xs[i],?_,fun hL n hn=>?_⟩
 ·rw [hf i f hfi2]
  simp [hi]
 ·refine hL n ?_
  rw [hxe]
  show n∈DataW.weights Tryz.prog t (.agg (xs.map (·.1)))
  unfold DataW.weights
  rw [ht]
  exact each_mem _ _ i f.type xs[i].1 (by simp [hfi2]) (by simp [hi]) hn
theorem one_of {cs:List Value} {o:Nat} {x:Value} (h:(cs.drop o).take 1=[x]):cs[o]?=some x:=cell_of_cut h
theorem str_light {t:TypeId} {s:ByteArray} {y:DataW H × List MemPlace} (e:y=(.lit (.string s.data.toList),[])) (h:Light t y.1):s.size≤140737488351232:=by
 subst e
 have:=h s.data.toList.length (by unfold DataW.weights; exact List.mem_singleton.2 rfl)
 have e:s.size=s.data.toList.length:=by rw [Array.length_toList]; rfl
 omega
theorem reserve_of {fuel:Nat} {cs:List Value} {x:DataW H × List MemPlace} (h:DataW.trod enc Tryz.prog w base sp held fuel 35 cs=some x):∃ q p,cs=[I q,I p]:=by
 obtain ⟨fs,hu,hl⟩:=fs35
 obtain ⟨hlen,hf⟩:=field_of hu hl h
 rw [cl35] at hlen
 obtain ⟨_,_,h0,_⟩:=hf 0 3 0 rfl
 obtain ⟨_,_,h1,_⟩:=hf 1 3 1 rfl
 rw [cl3] at h0 h1
 obtain ⟨a,e0⟩:=i64_of u3' h0
 obtain ⟨b,e1⟩:=i64_of u3' h1
 match cs,hlen with
 | [x,y],_ =>
  simp at e0 e1
  exact ⟨a,b,by rw [e0,e1]⟩
theorem job_of {fuel:Nat} {cs:List Value} {x:DataW H × List MemPlace} (h:DataW.trod enc Tryz.prog w base sp held fuel 37 cs=some x):∃ a b c d,cs=[I a,I b,I c,I d]:=by
 obtain ⟨fs,hu,hl⟩:=fs37
 obtain ⟨hlen,hf⟩:=field_of hu hl h
 rw [cl37] at hlen
 obtain ⟨_,_,h0,_⟩:=hf 0 3 0 rfl
 obtain ⟨_,_,h1,_⟩:=hf 1 3 1 rfl
 obtain ⟨_,_,h2,_⟩:=hf 2 3 2 rfl
 obtain ⟨_,_,h3,_⟩:=hf 3 3 3 rfl
 rw [cl3] at h0 h1 h2 h3
 obtain ⟨a,e0⟩:=i64_of u3' h0
 obtain ⟨b,e1⟩:=i64_of u3' h1
 obtain ⟨c,e2⟩:=i64_of u3' h2
 obtain ⟨d,e3⟩:=i64_of u3' h3
 match cs,hlen with
 | [x,y,z,u],_ =>
  simp at e0 e1 e2 e3
  exact ⟨a,b,c,d,by rw [e0,e1,e2,e3]⟩
theorem step_of {fuel:Nat} {cs:List Value} {x:DataW H × List MemPlace} (h:DataW.trod enc Tryz.prog w base sp held fuel 54 cs=some x) (hL:Light 54 x.1):∃ s:StV,cs=s.cells∧s.ok:=by
 obtain ⟨fs,hu,hl⟩:=fs54
 obtain ⟨hlen,hf⟩:=field_of hu hl h
 rw [cl54] at hlen
 obtain ⟨_,_,h0,_⟩:=hf 0 3 0 rfl
 obtain ⟨_,_,h1,_⟩:=hf 1 3 1 rfl
 obtain ⟨_,y2,h2,g2⟩:=hf 2 9 2 rfl
 obtain ⟨_,y3,h3,g3⟩:=hf 3 9 3 rfl
 obtain ⟨_,_,h4,_⟩:=hf 4 35 4 rfl
 obtain ⟨_,_,h6,_⟩:=hf 5 37 6 rfl
 obtain ⟨_,_,h10,_⟩:=hf 6 3 10 rfl
 rw [cl3] at h0 h1 h10
 rw [cl9] at h2 h3
 rw [cl35] at h4
 rw [cl37] at h6
 obtain ⟨a,e0⟩:=i64_of u3' h0
 obtain ⟨b,e1⟩:=i64_of u3' h1
 obtain ⟨s2,e2,hz2,_⟩:=DataW.trod_string u9s h2
 obtain ⟨s3,e3,hz3,_⟩:=DataW.trod_string u9s h3
 have z2:=str_light hz2 (g2 hL)
 have z3:=str_light hz3 (g3 hL)
 obtain ⟨q,p,e4⟩:=reserve_of h4
 obtain ⟨jl,jc,ja,jd,e6⟩:=job_of h6
 obtain ⟨n,e10⟩:=i64_of u3' h10
 match cs,hlen with
 | [x0,x1,x2,x3,x4,x5,x6,x7,x8,x9,x10],_ =>
  simp at e0 e1 e2 e3 e4 e6 e10
  refine ⟨⟨a,b,s2,s3,q,p,jl,jc,ja,jd,n⟩,by rw [e0,e1,e2,e3,e4.1,e4.2,e6.1,e6.2.1,e6.2.2.1,e6.2.2.2,e10]; rfl,?_⟩
  unfold StV.ok
  show s2.size+s3.size<_
  omega
theorem cells_at {a:Addr} {n:Nat} {cs:List Value} (h:w.cells? base a n=some cs):base≤a.block∧cs.length=n∧∀ j,j<n→w.cell? (a.add j)=cs[j]?:=by
 unfold World.cells? at h
 split at h
 ·rename_i hb
  refine ⟨by simpa using hb,by simpa using mapM_some_length h,fun j hj=>?_⟩
  have:=mapM_some_get h j j (by simp [hj])
  exact this
 ·cases h
theorem cell_lt {a:Addr} {v:Value} (h:w.cell? a=some v):a.block<w.heap.size:=by
 refine Classical.byContradiction fun e=>?_
 unfold World.cell? at h
 rw [Array.getElem?_eq_none (by omega)] at h
 cases h
theorem cell_plain {a:Addr} {v:Value} (h:w.cell? a=some v):a.spot=none:=by
 unfold World.cell? at h
 cases hp:a.spot with
 | none=>rfl
 | some x=>rw [hp] at h; simp only [Option.isSome_some,if_true] at h; split at h <;> cases h
theorem stps_of {v:Value} {d:DataW H} {p:List MemPlace} (hsl:∃ a l c,v=.slice a l c) (h:DataW.Trod enc Tryz.prog w 0 sp held 22 v d p) (hL:Light 22 d):∃ a l c ss,v=.slice a l c∧Stps w w.heap.size a l ss∧l<4611686018427387904:=by
 obtain ⟨fuel,h⟩:=h
 obtain ⟨a',l',c',rfl⟩:=hsl
 rcases DataW.trod_slice u22 h with ⟨hc,_⟩ | ⟨a,len,cap,elems,rest,n,_,hc,hd,_,hl,hm,hlen,hel,_⟩
 ·have hv:Value.slice a' l' c'=.slice none 0 0:=by simpa [Value.cells] using hc
  exact ⟨none,0,0,[],hv,⟨rfl,fun i s hi=>by cases hi⟩,by omega⟩
 ·have hv:Value.slice a' l' c'=.slice (some a) len cap:=by simpa [Value.cells] using hc
  injection hd with hd _
  subst hd
  have hL2:∀ k,k∈((elems.map (·.1)).length+(rest.map (·.1)).length)*Tryz.prog.bytesOf 54 :: (DataW.weightsAll Tryz.prog 54 (elems.map (·.1))++DataW.weightsAll Tryz.prog 54 (rest.map (·.1)))→k≤140737488351232:=fun k hk=>hL k (by
   unfold DataW.weights
   rw [u22]
   exact hk)
  have hlen2:len≤140737488351232:=by
   have:=hL2 _ (List.mem_cons_self ..)
   rw [show Tryz.prog.bytesOf 54=104 by kernel_rfl,List.length_map,hlen] at this
   omega
  have key:∀ i,i<len→∃ s:StV,s.ok∧∀ j,j<11→w.cell? ((a.add (i*11)).add j)=s.cells[j]?:=fun i hi=>by
   have:=hel i hi
   rw [cl54,List.getElem?_eq_getElem (by omega)] at this
   obtain ⟨cs',h1,h2⟩:=Option.bind_eq_some_iff.1 this
   obtain ⟨s,rfl,hs⟩:=step_of h2 fun k hk=>hL2 k (List.mem_cons_of_mem _ (List.mem_append_left _ (wall_mem _ i elems[i].1 (by simp [hlen,hi]) hk)))
   exact ⟨s,hs,fun j hj=>(cells_at h1).2.2 j hj⟩
  have hap:0<len→a.spot=none∧a.block<w.heap.size:=fun h0=>by
   obtain ⟨s,_,hc⟩:=key 0 h0
   have h0:=hc 0 (by omega)
   have e:w.cell? ((a.add (0*11)).add 0)=some (I s.no):=h0
   exact ⟨by have:=cell_plain e; simpa [Addr.add] using this,by have:=cell_lt e; simpa [Addr.add] using this⟩
  let f:Nat→StV:=fun i=>if h:i<len then (key i h).choose else ⟨0,0,⟨#[]⟩,⟨#[]⟩,0,0,0,0,0,0,0⟩
  refine ⟨some a,len,cap,(List.range len).map f,hv,⟨by simp,fun i s hi=>?_⟩,by omega⟩
  have hil:i<len:=by have:=(List.getElem?_eq_some_iff.1 hi).1; simpa using this
  simp [hil] at hi
  obtain ⟨h1,h2⟩:=(key i hil).choose_spec
  have hs:(key i hil).choose=s:=by rw [← hi]; simp [f,hil]
  rw [hs] at h1 h2
  obtain ⟨hp,hb⟩:=hap (by omega)
  obtain ⟨ab,ao,ap⟩:=a
  simp only at hp hb
  subst hp
  refine ⟨h1,ab,ao,rfl,hb,fun j hj=>?_⟩
  have:=h2 j hj
  rw [add_eq,add_eq] at this
  exact this
end
theorem kp_same {w w':World} (k:Kp No w w'):Below w.heap.size w w':=⟨k.os,k.tape,k.output,k.size,fun i hi=>k.block i hi id⟩
end
section
open Sy
open Go.ChangeShapes Go.WideShapes Go.ChangeAt Go.RowKit
theorem par3:Tryz.f3.params=#[22,22]:=by kernel_rfl
theorem res3:Tryz.f3.resultTypes=#[4]:=by kernel_rfl
theorem u4b:Tryz.prog.underlying 4=some .bool:=by kernel_rfl
theorem contract3 (H:Type) (enc:TypeId × Value→H) (W:World) (base:Nat) (args:Array Value) (ds gs:List (DataW H)) (before:List MemPlace)
  (hval:∀ (j:Nat) t v,Tryz.f3.params[j]?=some t→args[j]?=some v→Value.okWide Tryz.prog W .any base t v) (hW:DataW.Whole enc Tryz.prog Tryz.f3.params.toList Rows.scriptOpsSpec.vars false W args.toList ds gs before) (hz:(DataW.weightsEach Tryz.prog (Tryz.f3.params.toList++Rows.scriptOpsSpec.plain.varTypes Tryz.prog) (ds++gs)).all (·≤reachBytes)=true) (hL:laidMetH Tryz.prog Rows.scriptOpsRow.laid W) (hS:W.ShapedOpen Tryz.prog) :
  Calls Tryz.prog 3 args W fun e W'=>∃ v,e=.returned v∧Rows.scriptOpsSpec.post enc Tryz.prog Tryz.f3 false true false false W args v W':=by
 have hW':=hW
 obtain ⟨p,q,hA0,hV,rfl,hfz,hnd⟩:=hW
 have hA:DataW.TrodAll enc Tryz.prog W 0 (fun _=>true) true Tryz.f3.params.toList args.toList ds p:=hA0
 rw [par3] at hA hval
 obtain ⟨v0,v1,d0,d1,p0,p1,rfl,rfl,rfl,h0,h1⟩:=trodAll_two hA
 obtain ⟨rfl,rfl⟩:=trodVars_none hV
 clear hA0
 rw [par3] at hz
 obtain ⟨a0,l0,c0,ss0,rfl,hs0,hl0⟩:=stps_of (okWide_slice u22 (hval 0 22 _ rfl rfl)) h0 (light_each (i:=0) hz rfl rfl)
 obtain ⟨a1,l1,c1,ss1,rfl,hs1,hl1⟩:=stps_of (okWide_slice u22 (hval 1 22 _ rfl rfl)) h1 (light_each (i:=1) hz rfl rfl)
 have hk:Ct Tryz.prog 3 #[.slice a0 l0 c0,.slice a1 l1 c1] W fun v W'=>v=.bool true∧Kp No W W':=k3_all hs0 hs1 (Nat.le_refl _) (g0_of hL) (m0_of hS) hl0 hl1 fun u ku=>⟨rfl,ku⟩
 refine (show Calls Tryz.prog 3 _ W _ from hk).mono fun e W' he=>?_
 cases e with
 | returned v =>
  obtain ⟨rfl,ku⟩:=he
  have hb:=kp_same ku
  have hlt:∀ x∈p0++p1,x.block<W.heap.size:=fun x hx=>by simpa using hW'.lt x (by simpa using hx)
  refine ⟨_,rfl,[d0,d1],[],_,[],p0++p1,[],hW',?_,?_,rfl,hb.frame _,fun h=>by cases h⟩
  ·rw [res3]
   exact trodAll_mk1 (shut_bool u4b true)
  ·rw [par3]
   exact trodAll_mk2 (Below.trod laidOut_ (by kernel_rfl) (of_decide_eq_true (by kernel_rfl)) h0 hb fun x hx=>hlt x (by simp [hx])) (Below.trod laidOut_ (by kernel_rfl) (of_decide_eq_true (by kernel_rfl)) h1 hb fun x hx=>hlt x (by simp [hx]))
 | _=>exact he.elim
end
end Go.Proofs.YtbgbidpecmepmaaGreatDoor
