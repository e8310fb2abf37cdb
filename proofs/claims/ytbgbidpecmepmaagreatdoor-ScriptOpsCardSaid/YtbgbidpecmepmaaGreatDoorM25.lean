/-
  Pairs; a reader's words; A reader's lines; A reader's lines: each form's; A line's step.
-/
import Derived.Test.YtbgbidpecmepmaaGreatDoorM24
set_option maxRecDepth 100000
namespace Go.Proofs.YtbgbidpecmepmaaGreatDoor
section
open Sy
def F370 (R:Ko) (x0:ByteArray) (w:World):Prop:=New (.cells (.agg #[.int .i64 0,.int .i64 0]:Value).cells 35) w fun x2 w1=>Ct Tryz.prog 155 #[.string x0,.string (⟨#[47]⟩)] w1 fun v14 w2=>on3 v14 fun y14_0 y14_1 y14_2=>onS y14_0 fun x14_0=>onS y14_1 fun x14_1=>onB y14_2 fun x14_2=>Ct Tryz.prog 371 #[.string x14_0] w2 fun v20 w3=>on2 v20 fun y20_0 y20_1=>onI y20_0 fun x20_0=>Ct Tryz.prog 371 #[.string x14_1] w3 fun v25 w4=>on2 v25 fun y25_0 y25_1=>onI y25_0 fun x25_0=>New (.cells (.agg #[.int .i64 0,.int .i64 0]:Value).cells 35) w4 fun x11 w5=>Sa 2 x11 (#[.int .i64 x20_0,.int .i64 x25_0]) w5 fun w6=>Ifm (!x14_2) (Sa 2 x2 (#[.int .i64 0,.int .i64 0]) w6 fun w7=>Rd Tryz.prog (Instr.loadAt 35 (.pointer (some x2))) w7 fun r0=>R (.tuple #[r0,.iface 129 (.int .i64 4)]) w7) (Rd Tryz.prog (Bin .eql 30 (.tmp 35) (.tmp 36) y20_1 (.iface 129 (.int .i64 4))) w6 fun v37=>onB v37 fun x37=>Ifm x37 (Sa 2 x2 (#[.int .i64 0,.int .i64 0]) w6 fun w8=>Rd Tryz.prog (Instr.loadAt 35 (.pointer (some x2))) w8 fun r0=>R (.tuple #[r0,.iface 129 (.int .i64 4)]) w8) (Rd Tryz.prog (Bin .eql 30 (.tmp 40) (.tmp 41) y25_1 (.iface 129 (.int .i64 4))) w6 fun v42=>onB v42 fun x42=>Ifm x42 (Sa 2 x2 (#[.int .i64 0,.int .i64 0]) w6 fun w9=>Rd Tryz.prog (Instr.loadAt 35 (.pointer (some x2))) w9 fun r0=>R (.tuple #[r0,.iface 129 (.int .i64 4)]) w9) (Nl y20_1 fun x48=>Ifm (!x48) (Sa 2 x2 (#[.int .i64 0,.int .i64 0]) w6 fun w10=>Rd Tryz.prog (Instr.loadAt 35 (.pointer (some x2))) w10 fun r0=>R (.tuple #[r0,.iface 129 (.int .i64 2)]) w10) (Nl y25_1 fun x51=>Ifm (!x51) (Sa 2 x2 (#[.int .i64 0,.int .i64 0]) w6 fun w11=>Rd Tryz.prog (Instr.loadAt 35 (.pointer (some x2))) w11 fun r0=>R (.tuple #[r0,.iface 129 (.int .i64 2)]) w11) (La 2 x11 w6 fun x54=>Ct Tryz.prog 201 #[.agg x54] w6 fun v55 w12=>Nl v55 fun x56=>Ifm (!x56) (Sa 2 x2 (#[.int .i64 0,.int .i64 0]) w12 fun w13=>Rd Tryz.prog (Instr.loadAt 35 (.pointer (some x2))) w13 fun r0=>R (.tuple #[r0,.iface 129 (.int .i64 2)]) w13) (La 2 x11 w12 fun x60=>Sa 2 x2 x60 w12 fun w14=>Rd Tryz.prog (Instr.loadAt 35 (.pointer (some x2))) w14 fun r0=>R (.tuple #[r0,.nilIface]) w14))))))
noncomputable def b370:Code:=Tryz.f370.body.getD .skip
theorem c370 {R:Ko} {x0:ByteArray} {w:World} (h:F370 R x0 w):Ct Tryz.prog 370 #[.string x0] w R :=
 ctS (args:=[.string x0]) (body:=b370) (n:=61) (rs:=[.cell 2 35,.tmp 3]) Tryz.func370
  (sg (cuts:=[]) trivial h)
def F317 (R:Ko) (x0:Option Addr) (x1:ByteArray) (w:World):Prop:=Ct Tryz.prog 368 #[.string x1] w fun v8 w1=>on2 v8 fun y8_0 y8_1=>onL y8_0 fun a8_0 l8_0 c8_0=>Nl y8_1 fun x12=>Ifm (!x12) (Ct Tryz.prog 325 #[.pointer x0,.iface 129 (.int .i64 251)] w1 fun v19 w2=>onSome x0 fun x22=>Sc ((x22.add 0).add 2) (.string x1) w2 fun w3=>R (.tuple #[]) w3) (Ifm (x1.toList == (⟨#[115,108,97,99,107]⟩:ByteArray).toList) (Ct Tryz.prog 325 #[.pointer x0,.iface 129 (.int .i64 251)] w1 fun v19 w4=>onSome x0 fun x22=>Sc ((x22.add 0).add 2) (.string x1) w4 fun w5=>R (.tuple #[]) w5) (onSome x0 fun x22=>Sc ((x22.add 0).add 2) (.string x1) w1 fun w6=>R (.tuple #[]) w6))
noncomputable def b317:Code:=Tryz.f317.body.getD .skip
theorem c317 {R:Ko} {x0:Option Addr} {x1:ByteArray} {w:World} (h:F317 R x0 x1 w):Ct Tryz.prog 317 #[.pointer x0,.string x1] w R :=
 ctS (args:=[.pointer x0,.string x1]) (body:=b317) (n:=25) (rs:=[]) Tryz.func317
  (sg (cuts:=[]) trivial h)
def F318 (R:Ko) (x0:Option Addr) (x1:ByteArray) (w:World):Prop:=Ct Tryz.prog 369 #[.string x1] w fun v5 w1=>onB v5 fun x5=>Ifm (!x5) (Ct Tryz.prog 325 #[.pointer x0,.iface 129 (.int .i64 251)] w1 fun v9 w2=>onSome x0 fun x12=>Sc ((x12.add 0).add 3) (.string x1) w2 fun w3=>R (.tuple #[]) w3) (onSome x0 fun x12=>Sc ((x12.add 0).add 3) (.string x1) w1 fun w4=>R (.tuple #[]) w4)
noncomputable def b318:Code:=Tryz.f318.body.getD .skip
theorem c318 {R:Ko} {x0:Option Addr} {x1:ByteArray} {w:World} (h:F318 R x0 x1 w):Ct Tryz.prog 318 #[.pointer x0,.string x1] w R :=
 ctS (args:=[.pointer x0,.string x1]) (body:=b318) (n:=15) (rs:=[]) Tryz.func318
  (sg (cuts:=[]) trivial h)
def F319 (R:Ko) (x0:Option Addr) (x1:ByteArray) (w:World):Prop:=Ct Tryz.prog 370 #[.string x1] w fun v8 w1=>on2 v8 fun y8_0 y8_1=>onG y8_0 fun x8_0=>New (.cells (.agg #[.int .i64 0,.int .i64 0]:Value).cells 35) w1 fun x4 w2=>Sa 2 x4 x8_0 w2 fun w3=>Nl y8_1 fun x12=>Ifm (!x12) (Ct Tryz.prog 325 #[.pointer x0,.iface 129 (.int .i64 2)] w3 fun v15 w4=>La 2 x4 w4 fun x17=>onSome x0 fun x18=>Sa 2 ((x18.add 0).add 4) x17 w4 fun w5=>R (.tuple #[]) w5) (La 2 x4 w3 fun x17=>onSome x0 fun x18=>Sa 2 ((x18.add 0).add 4) x17 w3 fun w6=>R (.tuple #[]) w6)
noncomputable def b319:Code:=Tryz.f319.body.getD .skip
theorem c319 {R:Ko} {x0:Option Addr} {x1:ByteArray} {w:World} (h:F319 R x0 x1 w):Ct Tryz.prog 319 #[.pointer x0,.string x1] w R :=
 ctS (args:=[.pointer x0,.string x1]) (body:=b319) (n:=21) (rs:=[]) Tryz.func319
  (sg (cuts:=[]) trivial h)
def F320 (R:Ko) (x0:Option Addr) (x1:ByteArray) (w:World):Prop:=onSome x0 fun x6=>Sc ((x6.add 0).add 2) (.string x1) w fun w1=>Ifm (!(x1.toList == (⟨#[115,108,97,99,107]⟩:ByteArray).toList)) (Ct Tryz.prog 317 #[.pointer x0,.string x1] w1 fun v13 w2=>R (.tuple #[]) w2) (R (.tuple #[]) w1)
noncomputable def b320:Code:=Tryz.f320.body.getD .skip
theorem c320 {R:Ko} {x0:Option Addr} {x1:ByteArray} {w:World} (h:F320 R x0 x1 w):Ct Tryz.prog 320 #[.pointer x0,.string x1] w R :=
 ctS (args:=[.pointer x0,.string x1]) (body:=b320) (n:=14) (rs:=[]) Tryz.func320
  (sg (cuts:=[]) trivial h)
def F321 (R:Ko) (x0:Option Addr) (x1:ByteArray) (w:World):Prop:=Ct Tryz.prog 323 #[.pointer x0,.string x1] w fun v7 w1=>onI v7 fun x7=>onSome x0 fun x8=>Sc ((x8.add 0).add 10) (.int .i64 x7) w1 fun w2=>onSome x0 fun x12=>Lc ((x12.add 0).add 10) w2 fun v15=>onI v15 fun x15=>Ifm (decide ((x15:Int) > 31)) (Ct Tryz.prog 325 #[.pointer x0,.iface 129 (.int .i64 2)] w2 fun v19 w3=>R (.tuple #[]) w3) (R (.tuple #[]) w2)
noncomputable def b321:Code:=Tryz.f321.body.getD .skip
theorem c321 {R:Ko} {x0:Option Addr} {x1:ByteArray} {w:World} (h:F321 R x0 x1 w):Ct Tryz.prog 321 #[.pointer x0,.string x1] w R :=
 ctS (args:=[.pointer x0,.string x1]) (body:=b321) (n:=20) (rs:=[]) Tryz.func321
  (sg (cuts:=[]) trivial h)
def F322 (R:Ko) (x0:Option Addr) (x1:ByteArray) (w:World):Prop:=Ct Tryz.prog 155 #[.string x1,.string (⟨#[46]⟩)] w fun v9 w1=>on3 v9 fun y9_0 y9_1 y9_2=>onS y9_0 fun x9_0=>onS y9_1 fun x9_1=>onB y9_2 fun x9_2=>Ifm (!x9_2) (Ct Tryz.prog 325 #[.pointer x0,.iface 129 (.int .i64 251)] w1 fun v17 w2=>Ct Tryz.prog 320 #[.pointer x0,.string x9_0] w2 fun v20 w3=>Ct Tryz.prog 318 #[.pointer x0,.string x9_1] w3 fun v23 w4=>R (.tuple #[]) w4) (Ct Tryz.prog 320 #[.pointer x0,.string x9_0] w1 fun v20 w5=>Ct Tryz.prog 318 #[.pointer x0,.string x9_1] w5 fun v23 w6=>R (.tuple #[]) w6)
noncomputable def b322:Code:=Tryz.f322.body.getD .skip
theorem c322 {R:Ko} {x0:Option Addr} {x1:ByteArray} {w:World} (h:F322 R x0 x1 w):Ct Tryz.prog 322 #[.pointer x0,.string x1] w R :=
 ctS (args:=[.pointer x0,.string x1]) (body:=b322) (n:=24) (rs:=[]) Tryz.func322
  (sg (cuts:=[]) trivial h)
def F323 (R:Ko) (x0:Option Addr) (x1:ByteArray) (w:World):Prop:=Ct Tryz.prog 371 #[.string x1] w fun v9 w1=>on2 v9 fun y9_0 y9_1=>onI y9_0 fun x9_0=>Nl y9_1 fun x13=>Ifm (!x13) (Ct Tryz.prog 325 #[.pointer x0,.iface 129 (.int .i64 2)] w1 fun v16 w2=>R (.int .i64 x9_0) w2) (R (.int .i64 x9_0) w1)
noncomputable def b323:Code:=Tryz.f323.body.getD .skip
theorem c323 {R:Ko} {x0:Option Addr} {x1:ByteArray} {w:World} (h:F323 R x0 x1 w):Ct Tryz.prog 323 #[.pointer x0,.string x1] w R :=
 ctS (args:=[.pointer x0,.string x1]) (body:=b323) (n:=18) (rs:=[.tmp 4]) Tryz.func323
  (sg (cuts:=[]) trivial h)
variable {K:Ko} {w w':World}
theorem ifc_nil' {P:Program} {t u:TypeId} {ms:Array (String × TypeId)} (ht:P.underlying t=some (.interface ms)) (v:Value) (x y:Operand) (w:World) (k:Value→Prop):Rd P (Bin .eql t x y .nilIface (.iface u v)) w k=k (.bool false):=by
 refine Rd_ok ?_ k
 have e':∀ d:Nat,(Op.equalIn (d+1) t .nilIface (.iface u v)).run P w=.ok false w:=fun d=>by simp [Op.equalIn,run_underlying ht]
 have e1:=e' 9999
 simp only [Bin,eqGuard,binOp]
 simp [show Op.equal t .nilIface (.iface u v)=Op.equalIn (9999+1) t .nilIface (.iface u v) from rfl,e1]
theorem u30:∃ ms,Tryz.prog.underlying 30=some (.interface ms):=⟨match Tryz.prog.underlying 30 with | some (.interface ms)=>ms | _=>#[],by kernel_rfl⟩
theorem ifc_nil {u:TypeId} (v:Value) (x y:Operand) (w:World) (k:Value→Prop):Rd Tryz.prog (Bin .eql 30 x y .nilIface (.iface u v)) w k=k (.bool false):=by
 obtain ⟨ms,h⟩:=u30
 exact ifc_nil' h v x y w k
structure PathOk (s:ByteArray):Prop where
 sz:s.size≤264
 ex:∃ ps,Lib.splitB sSlash 0 (Lib.countB s sSlash) s=ps∧ps.length=Lib.countB s sSlash+1∧ps.length≤8∧∀ p∈ps,lowB p=true
structure NameOk (s:ByteArray):Prop where
 low:lowB s=true
 n1:sEq s sRoot=false
 n2:sEq s sSlack=false
 n3:sEq s ⟨#[116,97,115,107,115]⟩=false
structure NumOk (s:ByteArray) (n:Int):Prop where
 dig:digB s=true
 val:Lib.atoi s.data.toList=some n
 le:n≤2147483647
theorem ld35:loadKind Tryz.prog 35=some (some 2):=by kernel_rfl
theorem k370 {s a b:ByteArray} {q p:Int} (hm:M0 w) (hs:s.size<1000) (hc:Lib.cut s.data.toList sSlash.data.toList=(a.data.toList,b.data.toList,true)) (ha:NumOk a q) (hb:NumOk b p) (hv:valR q p=true) (hR:∀ w',Kp No w w'→K (.tuple #[.agg #[I q,I p],.nilIface]) w'):Ct Tryz.prog 370 #[.string s] w K:=by
 refine c370 ?_
 unfold F370
 refine new_k [I 0,I 0] fun w1 k1 b1 s1=>?_
 refine k155 (sep:=sSlash) (hm.kp k1 id) (by omega) hc fun w2 k2=>?_
 simp only [SS]
 refine k371 ha.dig ha.val ha.le fun w3 k3=>?_
 simp only [SS]
 refine k371 hb.dig hb.val hb.le fun w4 k4=>?_
 simp only [SS]
 refine new_k [I 0,I 0] fun w5 k5 b5 s5=>?_
 refine sa_k (cs:=[I q,I p]) b5 rfl (by decide) (by simp [oneCell]) fun w6 k6 b6 s6=>?_
 rw [over_all _ _ (by rfl)] at b6
 have k14:=(k2.trans k3).trans k4
 have k04:=k1.trans k14
 have k46:Kp No w4 w6:=k5.own k6 (by omega)
 have b16:Bk w6 w.heap.size [I 0,I 0] 35:=k46.bk (k14.bk b1 id) id
 simp only [ifc_nil,SS]
 rw [show ∀ k,La 2 ⟨w4.heap.size,0,none⟩ w6 k=k #[I q,I p] from fun k=>by rw [b6.la0 (n:=2) rfl]]
 refine k201 fun w7 k7=>?_
 rw [if_pos hv]
 have b67:Bk w7 w4.heap.size [I q,I p] 35:=k7.bk b6 id
 simp only [SS]
 rw [show ∀ k,La 2 ⟨w4.heap.size,0,none⟩ w7 k=k #[I q,I p] from fun k=>by rw [b67.la0 (n:=2) rfl]]
 exact res_k (c:=[I 0,I 0]) (cs:=[I q,I p]) (k:=fun r0 w8=>K (.tuple #[r0,.nilIface]) w8) ld35 (k7.bk b16 id) rfl rfl (by simp [oneCell]) fun w8 k8=>hR w8 (((k04.trans k46).trans k7).own k8 (Nat.le_refl _))
abbrev RD (w:World) (r:Nat) (s:StV):Prop:=Bk w r (s.cells++[.nilIface]) 303
section
variable {r:Nat} {s:StV} {x:ByteArray}
theorem k323 {n:Int} (h:NumOk x n) (hR:∀ w',Kp No w w'→K (I n) w'):Ct Tryz.prog 323 #[Pt r 0,.string x] w K:=by
 refine c323 ?_
 unfold F323
 refine k371 h.dig h.val h.le fun w1 k1=>?_
 simp only [SS]
 exact hR w1 k1
theorem k317 (hm:M0 w) (h:RD w r s) (hp:PathOk x) (hn:sEq x sSlack=false) (hR:∀ w',Kp (·=r) w w'→RD w' r { s with at_:=x }→K (.tuple #[]) w'):Ct Tryz.prog 317 #[Pt r 0,.string x] w K:=by
 refine c317 ?_
 unfold F317
 obtain ⟨ps,h1,h2,h3,h4⟩:=hp.ex
 refine k368 hm hp.sz rfl h1 h2 (by omega) h4 fun a l c w1 k1=>?_
 simp only [SS,show (x.toList == (⟨#[115,108,97,99,107]⟩:ByteArray).toList)=false from hn]
 refine sc_k (k1.bk h id) (by simp [StV.cells]) rfl fun w2 k2 b2 s2=>?_
 exact hR w2 ((k1.no _).trans k2) b2
theorem k318 (h:RD w r s) (hn:NameOk x) (hR:∀ w',Kp (·=r) w w'→RD w' r { s with nm:=x }→K (.tuple #[]) w'):Ct Tryz.prog 318 #[Pt r 0,.string x] w K:=by
 refine c318 ?_
 unfold F318
 refine k369 hn.low hn.n1 hn.n2 hn.n3 fun w1 k1=>?_
 simp only [SS]
 refine sc_k (k1.bk h id) (by simp [StV.cells]) rfl fun w2 k2 b2 s2=>?_
 exact hR w2 ((k1.no _).trans k2) b2
theorem k319 {a b:ByteArray} {q p:Int} (hm:M0 w) (h:RD w r s) (hs:x.size<1000) (hc:Lib.cut x.data.toList sSlash.data.toList=(a.data.toList,b.data.toList,true)) (ha:NumOk a q) (hb:NumOk b p) (hv:valR q p=true) (hR:∀ w',Kp (·=r) w w'→RD w' r { s with q:=q,p:=p }→K (.tuple #[]) w'):Ct Tryz.prog 319 #[Pt r 0,.string x] w K:=by
 refine c319 ?_
 unfold F319
 refine k370 hm hs hc ha hb hv fun w1 k1=>?_
 simp only [SS]
 refine new_k [I 0,I 0] fun w2 k2 b2 s2=>?_
 refine sa_k (cs:=[I q,I p]) b2 rfl (by decide) (by simp [oneCell]) fun w3 k3 b3 s3=>?_
 rw [over_all _ _ (by rfl)] at b3
 have k03:Kp No w w3:=(k1.trans k2).own k3 (by have:=k1.size; omega)
 rw [show ∀ k,La 2 ⟨w1.heap.size,0,none⟩ w3 k=k #[I q,I p] from fun k=>by rw [b3.la0 (n:=2) rfl]]
 refine sa_k (cs:=[I q,I p]) (k03.bk h id) rfl (by simp [StV.cells]) (by simp [oneCell]) fun w4 k4 b4 s4=>?_
 exact hR w4 ((k03.no _).trans k4) b4
theorem k320 (hm:M0 w) (hr:r≠2) (h:RD w r s) (hp:PathOk x) (hn:sEq x sSlack=false) (hR:∀ w',Kp (·=r) w w'→RD w' r { s with at_:=x }→K (.tuple #[]) w'):Ct Tryz.prog 320 #[Pt r 0,.string x] w K:=by
 refine c320 ?_
 unfold F320
 simp only [SS,show (x.toList == (⟨#[115,108,97,99,107]⟩:ByteArray).toList)=false from hn]
 refine sc_k h (by simp [StV.cells]) rfl fun w1 k1 b1 s1=>?_
 refine k317 (s:={ s with at_:=x }) (hm.kp k1 (fun e=>hr e.symm)) b1 hp hn fun w2 k2 b2=>?_
 exact hR w2 (k1.trans k2) b2
theorem k321 {n:Int} (h:RD w r s) (hn:NumOk x n) (h31:n≤31) (hR:∀ w',Kp (·=r) w w'→RD w' r { s with n:=n }→K (.tuple #[]) w'):Ct Tryz.prog 321 #[Pt r 0,.string x] w K:=by
 refine c321 ?_
 unfold F321
 refine k323 hn fun w1 k1=>?_
 simp only [SS]
 refine sc_k (k1.bk h id) (by simp [StV.cells]) rfl fun w2 k2 b2 s2=>?_
 have b2:RD w2 r { s with n:=n }:=b2
 simp only [SS,b2.rd (o:=10) (v:=I n) rfl]
 rw [if_neg (by omega)]
 exact hR w2 ((k1.no _).trans k2) b2
theorem k322 {a b:ByteArray} (hm:M0 w) (hr:r≠2) (h:RD w r s) (hs:x.size<1000) (hc:Lib.cut x.data.toList sDot.data.toList=(a.data.toList,b.data.toList,true)) (hp:PathOk a) (hns:sEq a sSlack=false) (hn:NameOk b) (hR:∀ w',Kp (·=r) w w'→RD w' r { s with at_:=a,nm:=b }→K (.tuple #[]) w'):Ct Tryz.prog 322 #[Pt r 0,.string x] w K:=by
 refine c322 ?_
 unfold F322
 refine k155 (sep:=sDot) hm (by omega) hc fun w1 k1=>?_
 simp only [SS]
 refine k320 (hm.kp k1 id) hr (k1.bk h id) hp hns fun w2 k2 b2=>?_
 refine k318 b2 hn fun w3 k3 b3=>?_
 exact hR w3 (((k1.no _).trans k2).trans k3) b3
end
end
section
open Sy
def F324_2B (R:Ko) (C0:Option Addr→Nat→Nat→Option Addr→Nat→Nat→Option Addr→Nat→Nat→Option Addr→Nat→Nat→Int→World→Prop) (C2:Option Addr→Nat→Nat→Option Addr→Nat→Nat→Option Addr→Nat→Nat→Option Addr→Nat→Nat→Int→Bool→Option Addr→Nat→Nat→Int→Int→World→Prop) (a0:Option Addr) (l0 c0:Nat) (a1:Option Addr) (l1 c1:Nat) (a6:Option Addr) (l6 c6:Nat) (a7:Option Addr) (l7 c7:Nat) (x8:Int) (x11:Bool) (a49:Option Addr) (l49 c49:Nat) (x50:Int) (x51:Int) (w:World):Prop:=Ifm (decide ((x51:Int)<x50)) (Ix a49 l49 x51 1 fun x54=>Lc x54 w fun v55=>onS v55 fun x55=>Ix a0 l0 x8 1 fun x59=>Lc x59 w fun v60=>onS v60 fun x60=>Ifm (x55.toList == x60.toList) (Ix a0 l0 (IntKind.i64.wrap (x8+1)) 1 fun x67=>Lc x67 w fun v68=>onS v68 fun x68=>Ix a6 l6 x51 1 fun x69=>Sc x69 (.string x68) w fun w4=>C2 a0 l0 c0 a1 l1 c1 a6 l6 c6 a7 l7 c7 x8 true a49 l49 c49 x50 (IntKind.i64.wrap (x51+1)) w4) (C2 a0 l0 c0 a1 l1 c1 a6 l6 c6 a7 l7 c7 x8 x11 a49 l49 c49 x50 (IntKind.i64.wrap (x51+1)) w)) (Ifm x11 (C0 a0 l0 c0 a1 l1 c1 a6 l6 c6 a7 l7 c7 (IntKind.i64.wrap (x8+2)) w) (R (.tuple #[.slice none 0 0,.iface 129 (.int .i64 240)]) w))
def F324_2 (R:Ko) (C0:Option Addr→Nat→Nat→Option Addr→Nat→Nat→Option Addr→Nat→Nat→Option Addr→Nat→Nat→Int→World→Prop) (a0:Option Addr) (l0 c0:Nat) (a1:Option Addr) (l1 c1:Nat) (a6:Option Addr) (l6 c6:Nat) (a7:Option Addr) (l7 c7:Nat) (x8:Int) (x11:Bool) (a49:Option Addr) (l49 c49:Nat) (x50:Int) (x51:Int) (w:World):Prop:=∃ (Inv:Option Addr→Nat→Nat→Option Addr→Nat→Nat→Option Addr→Nat→Nat→Option Addr→Nat→Nat→Int→Bool→Option Addr→Nat→Nat→Int→Int→World→Prop) (μ:Option Addr→Nat→Nat→Option Addr→Nat→Nat→Option Addr→Nat→Nat→Option Addr→Nat→Nat→Int→Bool→Option Addr→Nat→Nat→Int→Int→World→Nat),Inv a0 l0 c0 a1 l1 c1 a6 l6 c6 a7 l7 c7 x8 x11 a49 l49 c49 x50 x51 w∧∀ a0 l0 c0 a1 l1 c1 a6 l6 c6 a7 l7 c7 x8 x11 a49 l49 c49 x50 x51 w,Inv a0 l0 c0 a1 l1 c1 a6 l6 c6 a7 l7 c7 x8 x11 a49 l49 c49 x50 x51 w→F324_2B R C0 (fun a0' l0' c0' a1' l1' c1' a6' l6' c6' a7' l7' c7' x8' x11' a49' l49' c49' x50' x51' w'=>Inv a0' l0' c0' a1' l1' c1' a6' l6' c6' a7' l7' c7' x8' x11' a49' l49' c49' x50' x51' w'∧μ a0' l0' c0' a1' l1' c1' a6' l6' c6' a7' l7' c7' x8' x11' a49' l49' c49' x50' x51' w'<μ a0 l0 c0 a1 l1 c1 a6 l6 c6 a7 l7 c7 x8 x11 a49 l49 c49 x50 x51 w) a0 l0 c0 a1 l1 c1 a6 l6 c6 a7 l7 c7 x8 x11 a49 l49 c49 x50 x51 w
def F324_1B (R:Ko) (C0:Option Addr→Nat→Nat→Option Addr→Nat→Nat→Option Addr→Nat→Nat→Option Addr→Nat→Nat→Int→World→Prop) (C1:Option Addr→Nat→Nat→Option Addr→Nat→Nat→Option Addr→Nat→Nat→Option Addr→Nat→Nat→Int→Option Addr→Nat→Nat→Int→Int→World→Prop) (a0:Option Addr) (l0 c0:Nat) (a1:Option Addr) (l1 c1:Nat) (a6:Option Addr) (l6 c6:Nat) (a7:Option Addr) (l7 c7:Nat) (x8:Int) (a28:Option Addr) (l28 c28:Nat) (x29:Int) (x30:Int) (w:World):Prop:=Ifm (decide ((x30:Int)<x29)) (Ix a28 l28 x30 1 fun x32=>Lc x32 w fun v33=>onS v33 fun x33=>Ix a0 l0 x8 1 fun x37=>Lc x37 w fun v38=>onS v38 fun x38=>Ifm (x33.toList == x38.toList) (R (.tuple #[.slice none 0 0,.iface 129 (.int .i64 240)]) w) (C1 a0 l0 c0 a1 l1 c1 a6 l6 c6 a7 l7 c7 x8 a28 l28 c28 x29 (IntKind.i64.wrap (x30+1)) w)) (Ix a0 l0 x8 1 fun x45=>Lc x45 w fun v46=>onS v46 fun x46=>Rv Tryz.prog (Instr.buildSlice 102 1 #[(0,.string x46)]) w fun v47 w2=>onL v47 fun a47 l47 c47=>Rv Tryz.prog (Builtin.append_ #[102,102] 102 #[.slice a7 l7 c7,.slice a47 l47 c47]) w2 fun v48 w3=>onL v48 fun a48 l48 c48=>F324_2 R C0 a0 l0 c0 a1 l1 c1 a6 l6 c6 a48 l48 c48 x8 false a1 l1 c1 (l1:Nat) 0 w3)
def F324_1 (R:Ko) (C0:Option Addr→Nat→Nat→Option Addr→Nat→Nat→Option Addr→Nat→Nat→Option Addr→Nat→Nat→Int→World→Prop) (a0:Option Addr) (l0 c0:Nat) (a1:Option Addr) (l1 c1:Nat) (a6:Option Addr) (l6 c6:Nat) (a7:Option Addr) (l7 c7:Nat) (x8:Int) (a28:Option Addr) (l28 c28:Nat) (x29:Int) (x30:Int) (w:World):Prop:=∃ (Inv:Option Addr→Nat→Nat→Option Addr→Nat→Nat→Option Addr→Nat→Nat→Option Addr→Nat→Nat→Int→Option Addr→Nat→Nat→Int→Int→World→Prop) (μ:Option Addr→Nat→Nat→Option Addr→Nat→Nat→Option Addr→Nat→Nat→Option Addr→Nat→Nat→Int→Option Addr→Nat→Nat→Int→Int→World→Nat),Inv a0 l0 c0 a1 l1 c1 a6 l6 c6 a7 l7 c7 x8 a28 l28 c28 x29 x30 w∧∀ a0 l0 c0 a1 l1 c1 a6 l6 c6 a7 l7 c7 x8 a28 l28 c28 x29 x30 w,Inv a0 l0 c0 a1 l1 c1 a6 l6 c6 a7 l7 c7 x8 a28 l28 c28 x29 x30 w→F324_1B R C0 (fun a0' l0' c0' a1' l1' c1' a6' l6' c6' a7' l7' c7' x8' a28' l28' c28' x29' x30' w'=>Inv a0' l0' c0' a1' l1' c1' a6' l6' c6' a7' l7' c7' x8' a28' l28' c28' x29' x30' w'∧μ a0' l0' c0' a1' l1' c1' a6' l6' c6' a7' l7' c7' x8' a28' l28' c28' x29' x30' w'<μ a0 l0 c0 a1 l1 c1 a6 l6 c6 a7 l7 c7 x8 a28 l28 c28 x29 x30 w) a0 l0 c0 a1 l1 c1 a6 l6 c6 a7 l7 c7 x8 a28 l28 c28 x29 x30 w
def F324_0B (R:Ko) (C0:Option Addr→Nat→Nat→Option Addr→Nat→Nat→Option Addr→Nat→Nat→Option Addr→Nat→Nat→Int→World→Prop) (a0:Option Addr) (l0 c0:Nat) (a1:Option Addr) (l1 c1:Nat) (a6:Option Addr) (l6 c6:Nat) (a7:Option Addr) (l7 c7:Nat) (x8:Int) (w:World):Prop:=Ifm (decide ((x8:Int)<(l0:Nat))) (F324_1 R C0 a0 l0 c0 a1 l1 c1 a6 l6 c6 a7 l7 c7 x8 a7 l7 c7 (l7:Nat) 0 w) (R (.tuple #[.slice a6 l6 c6,.nilIface]) w)
def F324_0 (R:Ko) (a0:Option Addr) (l0 c0:Nat) (a1:Option Addr) (l1 c1:Nat) (a6:Option Addr) (l6 c6:Nat) (a7:Option Addr) (l7 c7:Nat) (x8:Int) (w:World):Prop:=∃ (Inv:Option Addr→Nat→Nat→Option Addr→Nat→Nat→Option Addr→Nat→Nat→Option Addr→Nat→Nat→Int→World→Prop) (μ:Option Addr→Nat→Nat→Option Addr→Nat→Nat→Option Addr→Nat→Nat→Option Addr→Nat→Nat→Int→World→Nat),Inv a0 l0 c0 a1 l1 c1 a6 l6 c6 a7 l7 c7 x8 w∧∀ a0 l0 c0 a1 l1 c1 a6 l6 c6 a7 l7 c7 x8 w,Inv a0 l0 c0 a1 l1 c1 a6 l6 c6 a7 l7 c7 x8 w→F324_0B R (fun a0' l0' c0' a1' l1' c1' a6' l6' c6' a7' l7' c7' x8' w'=>Inv a0' l0' c0' a1' l1' c1' a6' l6' c6' a7' l7' c7' x8' w'∧μ a0' l0' c0' a1' l1' c1' a6' l6' c6' a7' l7' c7' x8' w'<μ a0 l0 c0 a1 l1 c1 a6 l6 c6 a7 l7 c7 x8 w) a0 l0 c0 a1 l1 c1 a6 l6 c6 a7 l7 c7 x8 w
def F324 (R:Ko) (a0:Option Addr) (l0 c0:Nat) (a1:Option Addr) (l1 c1:Nat) (w:World):Prop:=Rd Tryz.prog (Bin .rem 3 (.tmp 15) (.const (.int .i64 2)) (.int .i64 (l0:Nat)) (.int .i64 2)) w fun v16=>onI v16 fun x16=>Ifm ((x16:Int) != 0) (R (.tuple #[.slice none 0 0,.iface 129 (.int .i64 240)]) w) (Rv Tryz.prog (Instr.makeSlice 102 (.int .i64 (l1:Nat)) (.int .i64 (l1:Nat))) w fun v21 w1=>onL v21 fun a21 l21 c21=>F324_0 R a0 l0 c0 a1 l1 c1 a21 l21 c21 none 0 0 0 w1)
noncomputable def b324:Code:=Tryz.f324.body.getD .skip
def q324_2:List Bool:=[false,true,false,true,true,true,false,false,true,false,false,true,false,true,true,true,true,false,true]
def L324_2 (F:Option Addr→Nat→Nat→Option Addr→Nat→Nat→Option Addr→Nat→Nat→Option Addr→Nat→Nat→Int→Bool→Option Addr→Nat→Nat→Int→Int→World→Prop):Env→World→Prop:=fun ρ w=>onL (ρ 0) fun a0 l0 c0=>onL (ρ 1) fun a1 l1 c1=>onL (ρ 6) fun a6 l6 c6=>onL (ρ 7) fun a7 l7 c7=>onI (ρ 8) fun x8=>onB (ρ 11) fun x11=>onL (ρ 49) fun a49 l49 c49=>onI (ρ 50) fun x50=>onI (ρ 51) fun x51=>F a0 l0 c0 a1 l1 c1 a6 l6 c6 a7 l7 c7 x8 x11 a49 l49 c49 x50 x51 w
def q324_1:List Bool:=[false,true,false,false,false,true,false,false,true,false,true,true,true,true,false,true]
def L324_1 (F:Option Addr→Nat→Nat→Option Addr→Nat→Nat→Option Addr→Nat→Nat→Option Addr→Nat→Nat→Int→Option Addr→Nat→Nat→Int→Int→World→Prop):Env→World→Prop:=fun ρ w=>onL (ρ 0) fun a0 l0 c0=>onL (ρ 1) fun a1 l1 c1=>onL (ρ 6) fun a6 l6 c6=>onL (ρ 7) fun a7 l7 c7=>onI (ρ 8) fun x8=>onL (ρ 28) fun a28 l28 c28=>onI (ρ 29) fun x29=>onI (ρ 30) fun x30=>F a0 l0 c0 a1 l1 c1 a6 l6 c6 a7 l7 c7 x8 a28 l28 c28 x29 x30 w
def q324_0:List Bool:=[false,true,false,true,true,true,true,false,true]
def L324_0 (F:Option Addr→Nat→Nat→Option Addr→Nat→Nat→Option Addr→Nat→Nat→Option Addr→Nat→Nat→Int→World→Prop):Env→World→Prop:=fun ρ w=>onL (ρ 0) fun a0 l0 c0=>onL (ρ 1) fun a1 l1 c1=>onL (ρ 6) fun a6 l6 c6=>onL (ρ 7) fun a7 l7 c7=>onI (ρ 8) fun x8=>F a0 l0 c0 a1 l1 c1 a6 l6 c6 a7 l7 c7 x8 w
abbrev T324 (z:Fr) (R:Ko) (p:List Bool) (ρ:Env) (w:World):Prop:=TW z Tryz.prog 74 (segTodo b324 p) (QR Tryz.prog [.tmp 4,.tmp 5] R) ρ w
theorem s324_2 (R:Ko) (C0:Option Addr→Nat→Nat→Option Addr→Nat→Nat→Option Addr→Nat→Nat→Option Addr→Nat→Nat→Int→World→Prop) (h0:∀ ρ w,(L324_0 C0) ρ w→T324 z0 R q324_0 ρ w):∀ ρ w,(L324_2 (F324_2 R C0)) ρ w→T324 z0 R q324_2 ρ w:=by
 intro ρ w h
 obtain ⟨a0,l0,c0,e0,h⟩:=onL_of h
 obtain ⟨a1,l1,c1,e1,h⟩:=onL_of h
 obtain ⟨a6,l6,c6,e6,h⟩:=onL_of h
 obtain ⟨a7,l7,c7,e7,h⟩:=onL_of h
 obtain ⟨x8,e8,h⟩:=onI_of h
 obtain ⟨x11,e11,h⟩:=onB_of h
 obtain ⟨a49,l49,c49,e49,h⟩:=onL_of h
 obtain ⟨x50,e50,h⟩:=onI_of h
 obtain ⟨x51,e51,h⟩:=onI_of h
 obtain ⟨Inv,μ,hi,hb⟩:=h
 refine lpT (fun m=>L324_2 (fun a0 l0 c0 a1 l1 c1 a6 l6 c6 a7 l7 c7 x8 x11 a49 l49 c49 x50 x51 w=>Inv a0 l0 c0 a1 l1 c1 a6 l6 c6 a7 l7 c7 x8 x11 a49 l49 c49 x50 x51 w∧μ a0 l0 c0 a1 l1 c1 a6 l6 c6 a7 l7 c7 x8 x11 a49 l49 c49 x50 x51 w=m)) ?_ (μ a0 l0 c0 a1 l1 c1 a6 l6 c6 a7 l7 c7 x8 x11 a49 l49 c49 x50 x51 w) ρ w ?_
 ·intro m ρ w ih h
  obtain ⟨a0,l0,c0,e0,h⟩:=onL_of h
  obtain ⟨a1,l1,c1,e1,h⟩:=onL_of h
  obtain ⟨a6,l6,c6,e6,h⟩:=onL_of h
  obtain ⟨a7,l7,c7,e7,h⟩:=onL_of h
  obtain ⟨x8,e8,h⟩:=onI_of h
  obtain ⟨x11,e11,h⟩:=onB_of h
  obtain ⟨a49,l49,c49,e49,h⟩:=onL_of h
  obtain ⟨x50,e50,h⟩:=onI_of h
  obtain ⟨x51,e51,h⟩:=onI_of h
  obtain ⟨hv,hm⟩:=h
  subst hm
  have hh:=hb a0 l0 c0 a1 l1 c1 a6 l6 c6 a7 l7 c7 x8 x11 a49 l49 c49 x50 x51 w hv
  obtain ⟨C2,hC⟩:∃ C,C=fun a0' l0' c0' a1' l1' c1' a6' l6' c6' a7' l7' c7' x8' x11' a49' l49' c49' x50' x51' w'=>Inv a0' l0' c0' a1' l1' c1' a6' l6' c6' a7' l7' c7' x8' x11' a49' l49' c49' x50' x51' w'∧μ a0' l0' c0' a1' l1' c1' a6' l6' c6' a7' l7' c7' x8' x11' a49' l49' c49' x50' x51' w'<μ a0 l0 c0 a1 l1 c1 a6 l6 c6 a7 l7 c7 x8 x11 a49 l49 c49 x50 x51 w:=⟨_,rfl⟩
  rw [← hC] at hh
  have h2:∀ ρ w,(L324_2 C2) ρ w→T324 z0 R q324_2 ρ w:=by
   intro ρ' w' h'
   refine ih ρ' w' ?_
   obtain ⟨a0',l0',c0',e0',h'⟩:=onL_of h'
   obtain ⟨a1',l1',c1',e1',h'⟩:=onL_of h'
   obtain ⟨a6',l6',c6',e6',h'⟩:=onL_of h'
   obtain ⟨a7',l7',c7',e7',h'⟩:=onL_of h'
   obtain ⟨x8',e8',h'⟩:=onI_of h'
   obtain ⟨x11',e11',h'⟩:=onB_of h'
   obtain ⟨a49',l49',c49',e49',h'⟩:=onL_of h'
   obtain ⟨x50',e50',h'⟩:=onI_of h'
   obtain ⟨x51',e51',h'⟩:=onI_of h'
   rw [hC] at h'
   refine ⟨_,h'.2,?_⟩
   simp only [e0',e1',e6',e7',e8',e11',e49',e50',e51',L324_2,ons]
   exact ⟨h'.1,by trivial⟩
  rw [← upds_same (ρ:=ρ) [(0,.slice a0 l0 c0),(1,.slice a1 l1 c1),(6,.slice a6 l6 c6),(7,.slice a7 l7 c7),(8,.int .i64 x8),(11,.bool x11),(49,.slice a49 l49 c49),(50,.int .i64 x50),(51,.int .i64 x51)] (alc e0 (alc e1 (alc e6 (alc e7 (alc e8 (alc e11 (alc e49 (alc e50 (alc e51 aln)))))))))]
  exact sg (cuts:=[(q324_0,L324_0 C0),(q324_2,L324_2 C2)]) ⟨h0,h2,trivial⟩ hh
 ·simp only [e0,e1,e6,e7,e8,e11,e49,e50,e51,L324_2,ons]
  exact ⟨hi,by trivial⟩
theorem s324_1 (R:Ko) (C0:Option Addr→Nat→Nat→Option Addr→Nat→Nat→Option Addr→Nat→Nat→Option Addr→Nat→Nat→Int→World→Prop) (h0:∀ ρ w,(L324_0 C0) ρ w→T324 z0 R q324_0 ρ w):∀ ρ w,(L324_1 (F324_1 R C0)) ρ w→T324 z0 R q324_1 ρ w:=by
 intro ρ w h
 obtain ⟨a0,l0,c0,e0,h⟩:=onL_of h
 obtain ⟨a1,l1,c1,e1,h⟩:=onL_of h
 obtain ⟨a6,l6,c6,e6,h⟩:=onL_of h
 obtain ⟨a7,l7,c7,e7,h⟩:=onL_of h
 obtain ⟨x8,e8,h⟩:=onI_of h
 obtain ⟨a28,l28,c28,e28,h⟩:=onL_of h
 obtain ⟨x29,e29,h⟩:=onI_of h
 obtain ⟨x30,e30,h⟩:=onI_of h
 obtain ⟨Inv,μ,hi,hb⟩:=h
 refine lpT (fun m=>L324_1 (fun a0 l0 c0 a1 l1 c1 a6 l6 c6 a7 l7 c7 x8 a28 l28 c28 x29 x30 w=>Inv a0 l0 c0 a1 l1 c1 a6 l6 c6 a7 l7 c7 x8 a28 l28 c28 x29 x30 w∧μ a0 l0 c0 a1 l1 c1 a6 l6 c6 a7 l7 c7 x8 a28 l28 c28 x29 x30 w=m)) ?_ (μ a0 l0 c0 a1 l1 c1 a6 l6 c6 a7 l7 c7 x8 a28 l28 c28 x29 x30 w) ρ w ?_
 ·intro m ρ w ih h
  obtain ⟨a0,l0,c0,e0,h⟩:=onL_of h
  obtain ⟨a1,l1,c1,e1,h⟩:=onL_of h
  obtain ⟨a6,l6,c6,e6,h⟩:=onL_of h
  obtain ⟨a7,l7,c7,e7,h⟩:=onL_of h
  obtain ⟨x8,e8,h⟩:=onI_of h
  obtain ⟨a28,l28,c28,e28,h⟩:=onL_of h
  obtain ⟨x29,e29,h⟩:=onI_of h
  obtain ⟨x30,e30,h⟩:=onI_of h
  obtain ⟨hv,hm⟩:=h
  subst hm
  have hh:=hb a0 l0 c0 a1 l1 c1 a6 l6 c6 a7 l7 c7 x8 a28 l28 c28 x29 x30 w hv
  obtain ⟨C1,hC⟩:∃ C,C=fun a0' l0' c0' a1' l1' c1' a6' l6' c6' a7' l7' c7' x8' a28' l28' c28' x29' x30' w'=>Inv a0' l0' c0' a1' l1' c1' a6' l6' c6' a7' l7' c7' x8' a28' l28' c28' x29' x30' w'∧μ a0' l0' c0' a1' l1' c1' a6' l6' c6' a7' l7' c7' x8' a28' l28' c28' x29' x30' w'<μ a0 l0 c0 a1 l1 c1 a6 l6 c6 a7 l7 c7 x8 a28 l28 c28 x29 x30 w:=⟨_,rfl⟩
  rw [← hC] at hh
  have h1:∀ ρ w,(L324_1 C1) ρ w→T324 z0 R q324_1 ρ w:=by
   intro ρ' w' h'
   refine ih ρ' w' ?_
   obtain ⟨a0',l0',c0',e0',h'⟩:=onL_of h'
   obtain ⟨a1',l1',c1',e1',h'⟩:=onL_of h'
   obtain ⟨a6',l6',c6',e6',h'⟩:=onL_of h'
   obtain ⟨a7',l7',c7',e7',h'⟩:=onL_of h'
   obtain ⟨x8',e8',h'⟩:=onI_of h'
   obtain ⟨a28',l28',c28',e28',h'⟩:=onL_of h'
   obtain ⟨x29',e29',h'⟩:=onI_of h'
   obtain ⟨x30',e30',h'⟩:=onI_of h'
   rw [hC] at h'
   refine ⟨_,h'.2,?_⟩
   simp only [e0',e1',e6',e7',e8',e28',e29',e30',L324_1,ons]
   exact ⟨h'.1,by trivial⟩
  rw [← upds_same (ρ:=ρ) [(0,.slice a0 l0 c0),(1,.slice a1 l1 c1),(6,.slice a6 l6 c6),(7,.slice a7 l7 c7),(8,.int .i64 x8),(28,.slice a28 l28 c28),(29,.int .i64 x29),(30,.int .i64 x30)] (alc e0 (alc e1 (alc e6 (alc e7 (alc e8 (alc e28 (alc e29 (alc e30 aln))))))))]
  exact sg (cuts:=[(q324_2,L324_2 (F324_2 R C0)),(q324_1,L324_1 C1)]) ⟨s324_2 R C0 h0,h1,trivial⟩ hh
 ·simp only [e0,e1,e6,e7,e8,e28,e29,e30,L324_1,ons]
  exact ⟨hi,by trivial⟩
theorem s324_0 (R:Ko):∀ ρ w,(L324_0 (F324_0 R)) ρ w→T324 z0 R q324_0 ρ w:=by
 intro ρ w h
 obtain ⟨a0,l0,c0,e0,h⟩:=onL_of h
 obtain ⟨a1,l1,c1,e1,h⟩:=onL_of h
 obtain ⟨a6,l6,c6,e6,h⟩:=onL_of h
 obtain ⟨a7,l7,c7,e7,h⟩:=onL_of h
 obtain ⟨x8,e8,h⟩:=onI_of h
 obtain ⟨Inv,μ,hi,hb⟩:=h
 refine lpT (fun m=>L324_0 (fun a0 l0 c0 a1 l1 c1 a6 l6 c6 a7 l7 c7 x8 w=>Inv a0 l0 c0 a1 l1 c1 a6 l6 c6 a7 l7 c7 x8 w∧μ a0 l0 c0 a1 l1 c1 a6 l6 c6 a7 l7 c7 x8 w=m)) ?_ (μ a0 l0 c0 a1 l1 c1 a6 l6 c6 a7 l7 c7 x8 w) ρ w ?_
 ·intro m ρ w ih h
  obtain ⟨a0,l0,c0,e0,h⟩:=onL_of h
  obtain ⟨a1,l1,c1,e1,h⟩:=onL_of h
  obtain ⟨a6,l6,c6,e6,h⟩:=onL_of h
  obtain ⟨a7,l7,c7,e7,h⟩:=onL_of h
  obtain ⟨x8,e8,h⟩:=onI_of h
  obtain ⟨hv,hm⟩:=h
  subst hm
  have hh:=hb a0 l0 c0 a1 l1 c1 a6 l6 c6 a7 l7 c7 x8 w hv
  obtain ⟨C0,hC⟩:∃ C,C=fun a0' l0' c0' a1' l1' c1' a6' l6' c6' a7' l7' c7' x8' w'=>Inv a0' l0' c0' a1' l1' c1' a6' l6' c6' a7' l7' c7' x8' w'∧μ a0' l0' c0' a1' l1' c1' a6' l6' c6' a7' l7' c7' x8' w'<μ a0 l0 c0 a1 l1 c1 a6 l6 c6 a7 l7 c7 x8 w:=⟨_,rfl⟩
  rw [← hC] at hh
  have h0:∀ ρ w,(L324_0 C0) ρ w→T324 z0 R q324_0 ρ w:=by
   intro ρ' w' h'
   refine ih ρ' w' ?_
   obtain ⟨a0',l0',c0',e0',h'⟩:=onL_of h'
   obtain ⟨a1',l1',c1',e1',h'⟩:=onL_of h'
   obtain ⟨a6',l6',c6',e6',h'⟩:=onL_of h'
   obtain ⟨a7',l7',c7',e7',h'⟩:=onL_of h'
   obtain ⟨x8',e8',h'⟩:=onI_of h'
   rw [hC] at h'
   refine ⟨_,h'.2,?_⟩
   simp only [e0',e1',e6',e7',e8',L324_0,ons]
   exact ⟨h'.1,by trivial⟩
  rw [← upds_same (ρ:=ρ) [(0,.slice a0 l0 c0),(1,.slice a1 l1 c1),(6,.slice a6 l6 c6),(7,.slice a7 l7 c7),(8,.int .i64 x8)] (alc e0 (alc e1 (alc e6 (alc e7 (alc e8 aln)))))]
  exact sg (cuts:=[(q324_1,L324_1 (F324_1 R C0))]) ⟨s324_1 R C0 h0,trivial⟩ hh
 ·simp only [e0,e1,e6,e7,e8,L324_0,ons]
  exact ⟨hi,by trivial⟩
theorem c324 {R:Ko} {a0:Option Addr} {l0 c0:Nat} {a1:Option Addr} {l1 c1:Nat} {w:World} (h:F324 R a0 l0 c0 a1 l1 c1 w):Ct Tryz.prog 324 #[.slice a0 l0 c0,.slice a1 l1 c1] w R :=
 ctS (args:=[.slice a0 l0 c0,.slice a1 l1 c1]) (body:=b324) (n:=74) (rs:=[.tmp 4,.tmp 5]) Tryz.func324
  (sg (cuts:=[(q324_0,L324_0 (F324_0 R))]) ⟨s324_0 R,trivial⟩ h)
variable {K:Ko} {w w':World}
structure Ws (w:World) (g o l:Nat) (ts:List ByteArray):Prop where
 len:ts.length=l
 at_:∀ i t,ts[i]?=some t→w.cell? ⟨g,o+i,none⟩=some (.string t)
 lt:g<w.heap.size
theorem Ws.kp {S:Nat→Prop} {g o l:Nat} {ts:List ByteArray} (h:Ws w g o l ts) (k:Kp S w w') (hs:¬ S g):Ws w' g o l ts :=
 ⟨h.len,fun i t hi=>(cell_kp k h.lt hs).trans (h.at_ i t hi),Nat.lt_of_lt_of_le h.lt k.size⟩
theorem Ws.drop {g o l:Nat} {ts:List ByteArray} (h:Ws w g o l ts) (d:Nat):Ws w g (o+d) (l - d) (ts.drop d) :=
 ⟨by rw [List.length_drop,h.len],fun i t hi=>by
  rw [List.getElem?_drop] at hi
  have:=h.at_ (d+i) t hi
  rw [← Nat.add_assoc] at this
  exact this,h.lt⟩
theorem ws_k {g o l:Nat} {ts:List ByteArray} (h:Ws w g o l ts) {i:Nat} {x:Int} (hx:x=(i:Nat)) {t:ByteArray} (ht:ts[i]?=some t) {k:ByteArray→Prop} (hk:k t):Ix (some ⟨g,o,none⟩) l x 1 fun y=>Lc y w fun v=>onS v k:=by
 have hi:i<l:=by have:=(List.getElem?_eq_some_iff.1 ht).1; have:=h.len; omega
 refine ix_k hx hi ?_
 rw [Nat.mul_one,Lc_c (h.at_ i t ht)]
 exact hk
def sCap:ByteArray:=⟨#[99,97,112]⟩
def sDueW:ByteArray:=⟨#[100,117,101]⟩
theorem eq_bytes (a:ByteArray):(a.toList == a.toList)=true:=by rw [beq_self_eq_true]
theorem cap_due:(sCap.toList == sDueW.toList)=false:=by decide +kernel
theorem st_two {a b:ByteArray}:([Value.string a,.string b].set 1 (.string ⟨#[57]⟩))=[.string a,.string ⟨#[57]⟩]:=rfl
theorem e102z:∃ i z,Elem Tryz.prog 102 9 1 i z∧z.cells.toList=[.string ⟨#[]⟩]:=by
 obtain ⟨i,z,E⟩:=e102
 refine ⟨i,z,E,?_⟩
 have h1:=E.hz
 have h2:=E.hi
 have h3:Tryz.prog.info? 9=some ((Tryz.prog.info? 9).getD default):=by kernel_rfl
 have h4:((Tryz.prog.info? 9).getD default).zero=some (.string ⟨#[]⟩):=by kernel_rfl
 rw [h3] at h2
 injection h2 with h2
 rw [← h2,h4] at h1
 injection h1 with h1
 rw [← h1]; rfl
theorem made2:(madeCells #[Value.string ⟨#[]⟩] (2*1)).toList=[.string ⟨#[]⟩,.string ⟨#[]⟩]:=by kernel_rfl
set_option maxHeartbeats 2000000 in
theorem k324 {g o c g2:Nat} {v:ByteArray} (h:Ws w g o 2 [sDueW,v]) (h2:Ws w g2 0 2 [sCap,sDueW]) (hR:∀ a c w',Kp No w w'→w'.ownsRow w.heap.size 9 1 (.slice a 2 c) 2 [.string ⟨#[]⟩,.string v]→K (.tuple #[.slice a 2 c,.nilIface]) w'):Ct Tryz.prog 324 #[.slice (some ⟨g,o,none⟩) 2 c,.slice (some ⟨g2,0,none⟩) 2 2] w K:=by
 refine c324 ?_
 unfold F324
 rw [rem_c (by decide)]
 simp only [SS]
 rw [if_pos (by decide)]
 obtain ⟨i9,z9,E9,hz9⟩:=e102z
 refine mk_own E9 (B:=w.heap.size) (n:=2) (Nat.le_refl _) (by omega) fun w1 ho1 k1=>?_
 have em:(madeCells z9.cells (2*1)).toList=[.string ⟨#[]⟩,.string ⟨#[]⟩]:=by
  have:z9.cells=#[.string ⟨#[]⟩]:=by apply Array.ext'; exact hz9
  rw [this]; exact made2
 rw [em] at ho1
 simp only [SS]
 unfold F324_0
 refine ⟨fun a0 l0 c0 b0 m0 d0 a6 l6 c6 a7 l7 c7 x8 u=>a0=some ⟨g,o,none⟩∧l0=2∧c=c0∧b0=some ⟨g2,0,none⟩∧m0=2∧d0=2∧a6=some ⟨w.heap.size,0,none⟩∧l6=2∧c6=2∧Kp No w u∧((x8=0∧a7=none∧l7=0∧c7=0∧u.ownsRow w.heap.size 9 1 (.slice (some ⟨w.heap.size,0,none⟩) 2 2) 2 [.string ⟨#[]⟩,.string ⟨#[]⟩])∨(x8=2∧u.ownsRow w.heap.size 9 1 (.slice (some ⟨w.heap.size,0,none⟩) 2 2) 2 [.string ⟨#[]⟩,.string v])),fun _ _ _ _ _ _ _ _ _ _ _ _ x8 _=>(2 - x8).toNat,
  ⟨rfl,rfl,rfl,rfl,rfl,rfl,rfl,rfl,rfl,k1,.inl ⟨rfl,rfl,rfl,rfl,ho1⟩⟩,?_⟩
 rintro _ _ _ _ _ _ _ _ _ a7 l7 c7 x8 w2 ⟨rfl,rfl,rfl,rfl,rfl,rfl,rfl,rfl,rfl,k2,hx⟩
 unfold F324_0B
 rcases hx with ⟨rfl,rfl,rfl,rfl,ho2⟩ | ⟨rfl,ho2⟩
 ·simp only [SS]
  rw [if_pos (by decide)]
  unfold F324_1
  refine ⟨fun a0 l0 c0 b0 m0 d0 a6 l6 c6 a7 l7 c7 x8 a28 l28 c28 x29 x30 u=>a0=some ⟨g,o,none⟩∧l0=2∧c=c0∧b0=some ⟨g2,0,none⟩∧m0=2∧d0=2∧a6=some ⟨w.heap.size,0,none⟩∧l6=2∧c6=2∧a7=none∧l7=0∧c7=0∧x8=0∧x29=0∧x30=0∧w2=u,fun _ _ _ _ _ _ _ _ _ _ _ _ _ _ _ _ _ _ _=>0,
   ⟨rfl,rfl,rfl,rfl,rfl,rfl,rfl,rfl,rfl,rfl,rfl,rfl,rfl,rfl,rfl,rfl⟩,?_⟩
  rintro _ _ _ _ _ _ _ _ _ _ _ _ _ a28 l28 c28 _ _ _ ⟨rfl,rfl,rfl,rfl,rfl,rfl,rfl,rfl,rfl,rfl,rfl,rfl,rfl,rfl,rfl,rfl⟩
  unfold F324_1B
  simp only [SS]
  rw [if_neg (by decide)]
  refine ws_k (h.kp k2 id) (i:=0) rfl rfl ?_
  refine app1 E9 (World.ownsRow_nil w2 w.heap.size 9 1) k2.size (by omega) (x:=.string sDueW) rfl (by simp [Value.cells,Value.oneCell']) fun g' c' w3 hg' ho3 hk3=>?_
  have k23:Kp No w2 w3:=hk3.mono fun b hb e=>by cases e
  have k03:=k2.trans k23
  have ho23:=own_kp ho2 k23 fun _ _=>id
  unfold F324_2
  refine ⟨fun a0 l0 c0 b0 m0 d0 a6 l6 c6 a7 l7 c7 x8 x11 a49 l49 c49 x50 x51 u=>a0=some ⟨g,o,none⟩∧l0=2∧c=c0∧b0=some ⟨g2,0,none⟩∧m0=2∧d0=2∧a6=some ⟨w.heap.size,0,none⟩∧l6=2∧c6=2∧x8=0∧a49=some ⟨g2,0,none⟩∧l49=2∧x50=2∧Kp No w u∧((x51=0∧x11=false∧u.ownsRow w.heap.size 9 1 (.slice (some ⟨w.heap.size,0,none⟩) 2 2) 2 [.string ⟨#[]⟩,.string ⟨#[]⟩])∨(x51=1∧x11=false∧u.ownsRow w.heap.size 9 1 (.slice (some ⟨w.heap.size,0,none⟩) 2 2) 2 [.string ⟨#[]⟩,.string ⟨#[]⟩])∨(x51=2∧x11=true∧u.ownsRow w.heap.size 9 1 (.slice (some ⟨w.heap.size,0,none⟩) 2 2) 2 [.string ⟨#[]⟩,.string v])),fun _ _ _ _ _ _ _ _ _ _ _ _ _ _ _ _ _ _ x51 _=>(2 - x51).toNat,
   ⟨rfl,rfl,rfl,rfl,rfl,rfl,rfl,rfl,rfl,rfl,rfl,rfl,rfl,k03,.inl ⟨rfl,rfl,ho23⟩⟩,?_⟩
  rintro _ _ _ _ _ _ _ _ _ a7 l7 c7 _ x11 _ _ c49 _ x51 w4 ⟨rfl,rfl,rfl,rfl,rfl,rfl,rfl,rfl,rfl,rfl,rfl,rfl,rfl,k4,hy⟩
  unfold F324_2B
  simp only [SS]
  rcases hy with ⟨rfl,rfl,ho4⟩ | ⟨rfl,rfl,ho4⟩ | ⟨rfl,rfl,ho4⟩
  ·rw [if_pos (by decide)]
   refine ws_k (h2.kp k4 id) (i:=0) rfl rfl ?_
   refine ws_k (h.kp k4 id) (i:=0) rfl rfl ?_
   rw [cap_due]
   simp only [SS]
   exact ⟨⟨k4,.inr (.inl ⟨by decide,ho4⟩)⟩,by decide⟩
  ·rw [if_pos (by decide)]
   refine ws_k (h2.kp k4 id) (i:=1) rfl rfl ?_
   refine ws_k (h.kp k4 id) (i:=0) rfl rfl ?_
   rw [eq_bytes]
   simp only [SS]
   rw [show IntKind.i64.wrap ((0:Int)+1)=1 by decide]
   refine ws_k (h.kp k4 id) (i:=1) rfl rfl ?_
   refine ix_k (j:=1) rfl (by omega) ?_
   simp only [Nat.mul_one,SS]
   refine own_sc ho4 (by omega) rfl fun w5 k5 ho5=>?_
   exact ⟨⟨k4.own k5 (Nat.le_refl _),.inr (.inr ⟨by decide,ho5⟩)⟩,by decide⟩
  ·rw [if_neg (by decide)]
   simp only [SS]
   exact ⟨⟨k4,.inr ⟨by decide,ho4⟩⟩,by decide⟩
 ·simp only [SS]
  rw [if_neg (by decide)]
  exact hR _ _ _ k2 ho2
end
section
open Sy
def F240_0B (R:Ko) (C0:Option Addr→Option Addr→Nat→Nat→Int→Int→World→Prop) (x0:Option Addr) (a36:Option Addr) (l36 c36:Nat) (x37:Int) (x38:Int) (w:World):Prop:=Ifm (decide ((x38:Int)<x37)) (Ix a36 l36 x38 1 fun x41=>Lc x41 w fun v42=>onS v42 fun x42=>Ifm (x42.toList == (⟨#[]⟩:ByteArray).toList) (C0 x0 a36 l36 c36 x37 (IntKind.i64.wrap (x38+1)) w) (Ct Tryz.prog 323 #[.pointer x0,.string x42] w fun v47 w7=>onI v47 fun x47=>Ifm ((x38:Int) == 0) (onSome x0 fun x52=>Sc (((x52.add 0).add 6).add 1) (.int .i64 x47) w7 fun w8=>C0 x0 a36 l36 c36 x37 (IntKind.i64.wrap (x38+1)) w8) (onSome x0 fun x58=>Sc (((x58.add 0).add 6).add 3) (.int .i64 x47) w7 fun w9=>C0 x0 a36 l36 c36 x37 (IntKind.i64.wrap (x38+1)) w9))) (R (.tuple #[]) w)
def F240_0 (R:Ko) (x0:Option Addr) (a36:Option Addr) (l36 c36:Nat) (x37:Int) (x38:Int) (w:World):Prop:=∃ (Inv:Option Addr→Option Addr→Nat→Nat→Int→Int→World→Prop) (μ:Option Addr→Option Addr→Nat→Nat→Int→Int→World→Nat),Inv x0 a36 l36 c36 x37 x38 w∧∀ x0 a36 l36 c36 x37 x38 w,Inv x0 a36 l36 c36 x37 x38 w→F240_0B R (fun x0' a36' l36' c36' x37' x38' w'=>Inv x0' a36' l36' c36' x37' x38' w'∧μ x0' a36' l36' c36' x37' x38' w'<μ x0 a36 l36 c36 x37 x38 w) x0 a36 l36 c36 x37 x38 w
def F240 (R:Ko) (x0:Option Addr) (a1:Option Addr) (l1 c1:Nat) (w:World):Prop:=Ix a1 l1 0 1 fun x11=>Lc x11 w fun v12=>onS v12 fun x12=>Ct Tryz.prog 322 #[.pointer x0,.string x12] w fun v13 w1=>Ix a1 l1 1 1 fun x17=>Lc x17 w1 fun v18=>onS v18 fun x18=>Ct Tryz.prog 323 #[.pointer x0,.string x18] w1 fun v19 w2=>onI v19 fun x19=>onSome x0 fun x20=>Sc (((x20.add 0).add 6).add 0) (.int .i64 x19) w2 fun w3=>Sl a1 c1 1 2 (l1:Nat) fun a26 l26 c26=>Rv Tryz.prog (Instr.buildSlice 102 2 #[(0,.string (⟨#[99,97,112]⟩)),(1,.string (⟨#[100,117,101]⟩))]) w3 fun v27 w4=>onL v27 fun a27 l27 c27=>Ct Tryz.prog 324 #[.slice a26 l26 c26,.slice a27 l27 c27] w4 fun v28 w5=>on2 v28 fun y28_0 y28_1=>onL y28_0 fun a28_0 l28_0 c28_0=>Nl y28_1 fun x32=>Ifm (!x32) (Ct Tryz.prog 325 #[.pointer x0,.iface 129 (.int .i64 240)] w5 fun v35 w6=>R (.tuple #[]) w6) (F240_0 R x0 a28_0 l28_0 c28_0 (l28_0:Nat) 0 w5)
noncomputable def b240:Code:=Tryz.f240.body.getD .skip
def q240_0:List Bool:=[false,true,true,true,true,true]
def L240_0 (F:Option Addr→Option Addr→Nat→Nat→Int→Int→World→Prop):Env→World→Prop:=fun ρ w=>onP (ρ 0) fun x0=>onL (ρ 36) fun a36 l36 c36=>onI (ρ 37) fun x37=>onI (ρ 38) fun x38=>F x0 a36 l36 c36 x37 x38 w
abbrev T240 (z:Fr) (R:Ko) (p:List Bool) (ρ:Env) (w:World):Prop:=TW z Tryz.prog 63 (segTodo b240 p) (QR Tryz.prog [] R) ρ w
theorem s240_0 (R:Ko):∀ ρ w,(L240_0 (F240_0 R)) ρ w→T240 z0 R q240_0 ρ w:=by
 intro ρ w h
 obtain ⟨x0,e0,h⟩:=onP_of h
 obtain ⟨a36,l36,c36,e36,h⟩:=onL_of h
 obtain ⟨x37,e37,h⟩:=onI_of h
 obtain ⟨x38,e38,h⟩:=onI_of h
 obtain ⟨Inv,μ,hi,hb⟩:=h
 refine lpT (fun m=>L240_0 (fun x0 a36 l36 c36 x37 x38 w=>Inv x0 a36 l36 c36 x37 x38 w∧μ x0 a36 l36 c36 x37 x38 w=m)) ?_ (μ x0 a36 l36 c36 x37 x38 w) ρ w ?_
 ·intro m ρ w ih h
  obtain ⟨x0,e0,h⟩:=onP_of h
  obtain ⟨a36,l36,c36,e36,h⟩:=onL_of h
  obtain ⟨x37,e37,h⟩:=onI_of h
  obtain ⟨x38,e38,h⟩:=onI_of h
  obtain ⟨hv,hm⟩:=h
  subst hm
  have hh:=hb x0 a36 l36 c36 x37 x38 w hv
  obtain ⟨C0,hC⟩:∃ C,C=fun x0' a36' l36' c36' x37' x38' w'=>Inv x0' a36' l36' c36' x37' x38' w'∧μ x0' a36' l36' c36' x37' x38' w'<μ x0 a36 l36 c36 x37 x38 w:=⟨_,rfl⟩
  rw [← hC] at hh
  have h0:∀ ρ w,(L240_0 C0) ρ w→T240 z0 R q240_0 ρ w:=by
   intro ρ' w' h'
   refine ih ρ' w' ?_
   obtain ⟨x0',e0',h'⟩:=onP_of h'
   obtain ⟨a36',l36',c36',e36',h'⟩:=onL_of h'
   obtain ⟨x37',e37',h'⟩:=onI_of h'
   obtain ⟨x38',e38',h'⟩:=onI_of h'
   rw [hC] at h'
   refine ⟨_,h'.2,?_⟩
   simp only [e0',e36',e37',e38',L240_0,ons]
   exact ⟨h'.1,by trivial⟩
  rw [← upds_same (ρ:=ρ) [(0,.pointer x0),(36,.slice a36 l36 c36),(37,.int .i64 x37),(38,.int .i64 x38)] (alc e0 (alc e36 (alc e37 (alc e38 aln))))]
  exact sg (cuts:=[(q240_0,L240_0 C0)]) ⟨h0,trivial⟩ hh
 ·simp only [e0,e36,e37,e38,L240_0,ons]
  exact ⟨hi,by trivial⟩
theorem c240 {R:Ko} {x0:Option Addr} {a1:Option Addr} {l1 c1:Nat} {w:World} (h:F240 R x0 a1 l1 c1 w):Ct Tryz.prog 240 #[.pointer x0,.slice a1 l1 c1] w R :=
 ctS (args:=[.pointer x0,.slice a1 l1 c1]) (body:=b240) (n:=63) (rs:=[]) Tryz.func240
  (sg (cuts:=[(q240_0,L240_0 (F240_0 R))]) ⟨s240_0 R,trivial⟩ h)
def F235 (R:Ko) (x0:Option Addr) (a1:Option Addr) (l1 c1:Nat) (w:World):Prop:=Ix a1 l1 0 1 fun x6=>Lc x6 w fun v7=>onS v7 fun x7=>Ct Tryz.prog 317 #[.pointer x0,.string x7] w fun v8 w1=>Ix a1 l1 1 1 fun x11=>Lc x11 w1 fun v12=>onS v12 fun x12=>Ct Tryz.prog 318 #[.pointer x0,.string x12] w1 fun v13 w2=>Ix a1 l1 2 1 fun x16=>Lc x16 w2 fun v17=>onS v17 fun x17=>Ct Tryz.prog 319 #[.pointer x0,.string x17] w2 fun v18 w3=>R (.tuple #[]) w3
noncomputable def b235:Code:=Tryz.f235.body.getD .skip
theorem c235 {R:Ko} {x0:Option Addr} {a1:Option Addr} {l1 c1:Nat} {w:World} (h:F235 R x0 a1 l1 c1 w):Ct Tryz.prog 235 #[.pointer x0,.slice a1 l1 c1] w R :=
 ctS (args:=[.pointer x0,.slice a1 l1 c1]) (body:=b235) (n:=19) (rs:=[]) Tryz.func235
  (sg (cuts:=[]) trivial h)
def F238 (R:Ko) (x0:Option Addr) (a1:Option Addr) (l1 c1:Nat) (w:World):Prop:=Ix a1 l1 0 1 fun x6=>Lc x6 w fun v7=>onS v7 fun x7=>Ct Tryz.prog 320 #[.pointer x0,.string x7] w fun v8 w1=>Ix a1 l1 1 1 fun x11=>Lc x11 w1 fun v12=>onS v12 fun x12=>Ct Tryz.prog 318 #[.pointer x0,.string x12] w1 fun v13 w2=>Ix a1 l1 2 1 fun x16=>Lc x16 w2 fun v17=>onS v17 fun x17=>Ct Tryz.prog 321 #[.pointer x0,.string x17] w2 fun v18 w3=>R (.tuple #[]) w3
noncomputable def b238:Code:=Tryz.f238.body.getD .skip
theorem c238 {R:Ko} {x0:Option Addr} {a1:Option Addr} {l1 c1:Nat} {w:World} (h:F238 R x0 a1 l1 c1 w):Ct Tryz.prog 238 #[.pointer x0,.slice a1 l1 c1] w R :=
 ctS (args:=[.pointer x0,.slice a1 l1 c1]) (body:=b238) (n:=19) (rs:=[]) Tryz.func238
  (sg (cuts:=[]) trivial h)
def F239 (R:Ko) (x0:Option Addr) (a1:Option Addr) (l1 c1:Nat) (w:World):Prop:=Ix a1 l1 0 1 fun x6=>Lc x6 w fun v7=>onS v7 fun x7=>Ct Tryz.prog 322 #[.pointer x0,.string x7] w fun v8 w1=>R (.tuple #[]) w1
noncomputable def b239:Code:=Tryz.f239.body.getD .skip
theorem c239 {R:Ko} {x0:Option Addr} {a1:Option Addr} {l1 c1:Nat} {w:World} (h:F239 R x0 a1 l1 c1 w):Ct Tryz.prog 239 #[.pointer x0,.slice a1 l1 c1] w R :=
 ctS (args:=[.pointer x0,.slice a1 l1 c1]) (body:=b239) (n:=9) (rs:=[]) Tryz.func239
  (sg (cuts:=[]) trivial h)
def F241 (R:Ko) (x0:Option Addr) (a1:Option Addr) (l1 c1:Nat) (w:World):Prop:=Ix a1 l1 0 1 fun x7=>Lc x7 w fun v8=>onS v8 fun x8=>Ct Tryz.prog 323 #[.pointer x0,.string x8] w fun v9 w1=>onI v9 fun x9=>onSome x0 fun x10=>Sc ((x10.add 0).add 10) (.int .i64 x9) w1 fun w2=>R (.tuple #[]) w2
noncomputable def b241:Code:=Tryz.f241.body.getD .skip
theorem c241 {R:Ko} {x0:Option Addr} {a1:Option Addr} {l1 c1:Nat} {w:World} (h:F241 R x0 a1 l1 c1 w):Ct Tryz.prog 241 #[.pointer x0,.slice a1 l1 c1] w R :=
 ctS (args:=[.pointer x0,.slice a1 l1 c1]) (body:=b241) (n:=13) (rs:=[]) Tryz.func241
  (sg (cuts:=[]) trivial h)
variable {K:Ko} {w w':World} {r g o:Nat} {s:StV}
theorem k235 {c:Nat} {x y z a b:ByteArray} {q p:Int} (hm:M0 w) (hr:r≠2) (hg:g≠r) (h:RD w r s) (hw:Ws w g o 3 [x,y,z]) (hx:PathOk x) (hns:sEq x sSlack=false) (hy:NameOk y) (hz:z.size<1000) (hc:Lib.cut z.data.toList sSlash.data.toList=(a.data.toList,b.data.toList,true)) (ha:NumOk a q) (hb:NumOk b p) (hv:valR q p=true)
  (hR:∀ w',Kp (·=r) w w'→RD w' r { s with at_:=x,nm:=y,q:=q,p:=p }→K (.tuple #[]) w'):Ct Tryz.prog 235 #[Pt r 0,.slice (some ⟨g,o,none⟩) 3 c] w K:=by
 refine c235 ?_
 unfold F235
 refine ws_k hw (i:=0) rfl rfl ?_
 refine k317 hm h hx hns fun w1 k1 b1=>?_
 refine ws_k (hw.kp k1 hg) (i:=1) rfl rfl ?_
 refine k318 b1 hy fun w2 k2 b2=>?_
 have k02:=k1.trans k2
 refine ws_k (hw.kp k02 hg) (i:=2) rfl rfl ?_
 refine k319 (hm.kp k02 (fun e=>hr e.symm)) b2 hz hc ha hb hv fun w3 k3 b3=>?_
 exact hR w3 (k02.trans k3) b3
theorem k238 {c:Nat} {x y z:ByteArray} {n:Int} (hm:M0 w) (hr:r≠2) (hg:g≠r) (h:RD w r s) (hw:Ws w g o 3 [x,y,z]) (hx:PathOk x) (hns:sEq x sSlack=false) (hy:NameOk y) (hz:NumOk z n) (h31:n≤31)
  (hR:∀ w',Kp (·=r) w w'→RD w' r { s with at_:=x,nm:=y,n:=n }→K (.tuple #[]) w'):Ct Tryz.prog 238 #[Pt r 0,.slice (some ⟨g,o,none⟩) 3 c] w K:=by
 refine c238 ?_
 unfold F238
 refine ws_k hw (i:=0) rfl rfl ?_
 refine k320 hm hr h hx hns fun w1 k1 b1=>?_
 refine ws_k (hw.kp k1 hg) (i:=1) rfl rfl ?_
 refine k318 b1 hy fun w2 k2 b2=>?_
 have k02:=k1.trans k2
 refine ws_k (hw.kp k02 hg) (i:=2) rfl rfl ?_
 refine k321 b2 hz h31 fun w3 k3 b3=>?_
 exact hR w3 (k02.trans k3) b3
theorem k239 {c:Nat} {x a b:ByteArray} (hm:M0 w) (hr:r≠2) (h:RD w r s) (hw:Ws w g o 1 [x]) (hs:x.size<1000) (hc:Lib.cut x.data.toList sDot.data.toList=(a.data.toList,b.data.toList,true)) (hp:PathOk a) (hns:sEq a sSlack=false) (hn:NameOk b)
  (hR:∀ w',Kp (·=r) w w'→RD w' r { s with at_:=a,nm:=b }→K (.tuple #[]) w'):Ct Tryz.prog 239 #[Pt r 0,.slice (some ⟨g,o,none⟩) 1 c] w K:=by
 refine c239 ?_
 unfold F239
 refine ws_k hw (i:=0) rfl rfl ?_
 refine k322 hm hr h hs hc hp hns hn fun w1 k1 b1=>?_
 exact hR w1 k1 b1
theorem k241 {c:Nat} {x:ByteArray} {n:Int} (h:RD w r s) (hw:Ws w g o 1 [x]) (hn:NumOk x n) (hR:∀ w',Kp (·=r) w w'→RD w' r { s with n:=n }→K (.tuple #[]) w'):Ct Tryz.prog 241 #[Pt r 0,.slice (some ⟨g,o,none⟩) 1 c] w K:=by
 refine c241 ?_
 unfold F241
 refine ws_k hw (i:=0) rfl rfl ?_
 refine k323 hn fun w1 k1=>?_
 simp only [SS]
 refine sc_k (k1.bk h id) (by simp [StV.cells]) rfl fun w2 k2 b2 s2=>?_
 exact hR w2 ((k1.no _).trans k2) b2
theorem k240 {c:Nat} {x y v a b:ByteArray} {n d:Int} (hm:M0 w) (hr:r≠2) (hg:g≠r) (h:RD w r s) (hw:Ws w g o 4 [x,y,sDueW,v]) (hc4:4≤c) (hs:x.size<1000) (hc:Lib.cut x.data.toList sDot.data.toList=(a.data.toList,b.data.toList,true)) (hp:PathOk a) (hns:sEq a sSlack=false) (hn:NameOk b) (hy:NumOk y n) (hv:NumOk v d) (hne:(v.toList == (⟨#[]⟩:ByteArray).toList)=false)
  (hR:∀ w',Kp (·=r) w w'→RD w' r { s with at_:=a,nm:=b,jl:=n,jd:=d }→K (.tuple #[]) w'):Ct Tryz.prog 240 #[Pt r 0,.slice (some ⟨g,o,none⟩) 4 c] w K:=by
 refine c240 ?_
 unfold F240
 have rl:=h.lt
 refine ws_k hw (i:=0) rfl rfl ?_
 refine k322 hm hr h hs hc hp hns hn fun w1 k1 b1=>?_
 refine ws_k (hw.kp k1 hg) (i:=1) rfl rfl ?_
 refine k323 hy fun w2 k2=>?_
 simp only [SS,Nat.reduceAdd]
 refine sc_k (k2.bk b1 id) (by simp [StV.cells]) rfl fun w3 k3 b3 s3=>?_
 have k03:Kp (·=r) w w3:=(k1.trans (k2.no _)).trans k3
 have b3:RD w3 r { s with at_:=a,nm:=b,jl:=n }:=b3
 refine ⟨by omega,by omega,by omega,?_⟩
 have hw3:=(hw.kp k03 hg).drop 2
 rw [if_neg (by show ¬ c=2; omega)]
 simp only [SS,Option.map_some]
 obtain ⟨i9,z9,E9⟩:=e102
 have z3:=k03.size
 refine bs_flat E9 [.string sCap,.string sDueW] (by simp [Value.cells]) (by simp) (by simp) rfl fun w4 k4 ho4=>?_
 simp only [SS]
 have hw2:Ws w4 w3.heap.size 0 2 [sCap,sDueW]:=⟨rfl,fun i t hi=>by
  rw [Nat.zero_add]
  refine (ho4.cellAt i (by have:=(List.getElem?_eq_some_iff.1 hi).1; simpa using this)).trans ?_
  match i,hi with
  | 0,hi=>injection hi with hi; rw [← hi]; rfl
  | 1,hi=>injection hi with hi; rw [← hi]; rfl,(own_lt ho4 rfl).2⟩
 refine k324 (v:=v) (hw3.kp k4 id) hw2 fun a' c' w5 k5 ho5=>?_
 have k35:=k4.trans k5
 have b5:RD w5 r { s with at_:=a,nm:=b,jl:=n }:=k35.bk b3 id
 simp only [SS]
 have z4:=k4.size
 have gr:∀ gg,(Value.slice a' 2 c').ownBlock=some gg→gg≠r:=fun gg hgg e=>by have:=(own_lt ho5 hgg).1; omega
 unfold F240_0
 refine ⟨fun x0 a36 l36 c36 x37 x38 u=>x0=some ⟨r,0,none⟩∧a'=a36∧l36=2∧c'=c36∧x37=2∧Kp (·=r) w u∧u.ownsRow w4.heap.size 9 1 (.slice a' 2 c') 2 [.string ⟨#[]⟩,.string v]∧((x38=0∧RD u r { s with at_:=a,nm:=b,jl:=n })∨(x38=1∧RD u r { s with at_:=a,nm:=b,jl:=n })∨(x38=2∧RD u r { s with at_:=a,nm:=b,jl:=n,jd:=d })),fun _ _ _ _ _ x38 _=>(2 - x38).toNat,
  ⟨rfl,rfl,rfl,rfl,rfl,k03.trans (k35.no _),ho5,.inl ⟨rfl,b5⟩⟩,?_⟩
 rintro _ _ _ _ _ x38 w6 ⟨rfl,rfl,rfl,rfl,rfl,k6,ho6,hx⟩
 unfold F240_0B
 simp only [SS]
 rcases hx with ⟨rfl,b6⟩ | ⟨rfl,b6⟩ | ⟨rfl,b6⟩
 ·rw [if_pos (by decide)]
  refine ix_own ho6 (i:=0) (by omega) rfl fun gg hgg _=>?_
  rw [hgg] at ho6
  rw [Nat.mul_one,own_lc ho6 (o:=0) (v:=.string ⟨#[]⟩) (by omega) rfl]
  rw [← hgg] at ho6
  simp only [SS]
  rw [eq_bytes]
  simp only [SS]
  exact ⟨⟨k6,ho6,.inr (.inl ⟨by decide,b6⟩)⟩,by decide⟩
 ·rw [if_pos (by decide)]
  refine ix_own ho6 (i:=1) (by omega) rfl fun gg hgg _=>?_
  rw [hgg] at ho6
  rw [Nat.mul_one,own_lc ho6 (o:=1) (v:=.string v) (by omega) rfl]
  rw [← hgg] at ho6
  simp only [SS]
  rw [hne]
  simp only [SS]
  refine k323 hv fun w7 k7=>?_
  simp only [SS,Nat.reduceAdd]
  rw [if_neg (by decide)]
  refine sc_k (k7.bk b6 id) (by simp [StV.cells]) rfl fun w8 k8 b8 s8=>?_
  exact ⟨⟨(k6.trans (k7.no _)).trans k8,own_kp (own_kp ho6 k7 fun _ _=>id) k8 (fun gg hgg e=>gr gg hgg e),.inr (.inr ⟨by decide,b8⟩)⟩,by decide⟩
 ·rw [if_neg (by decide)]
  exact hR w6 k6 b6
end
section
open Sy
def F158 (R:Ko)  (w:World):Prop:=Rv Tryz.prog (Instr.makeMap 299 none) w fun v1 w1=>onM v1 fun x1=>Rd Tryz.prog (Instr.build 297 #[(0,.int .i64 1),(1,.int .i64 3),(2,.func (.func 235) #[] #[])]) w1 fun v2=>onG v2 fun x2=>Ru Tryz.prog (Instr.mapUpdate 299 (.map x1) (.string (⟨#[99,114,101,97,116,101]⟩)) (.agg x2)) w1 fun w2=>Rd Tryz.prog (Instr.build 297 #[(0,.int .i64 2),(1,.int .i64 2),(2,.func (.func 236) #[] #[])]) w2 fun v3=>onG v3 fun x3=>Ru Tryz.prog (Instr.mapUpdate 299 (.map x1) (.string (⟨#[114,101,115,105,122,101]⟩)) (.agg x3)) w2 fun w3=>Rd Tryz.prog (Instr.build 297 #[(0,.int .i64 3),(1,.int .i64 1),(2,.func (.func 237) #[] #[])]) w3 fun v4=>onG v4 fun x4=>Ru Tryz.prog (Instr.mapUpdate 299 (.map x1) (.string (⟨#[100,101,108,101,116,101]⟩)) (.agg x4)) w3 fun w4=>Rd Tryz.prog (Instr.build 297 #[(0,.int .i64 4),(1,.int .i64 3),(2,.func (.func 238) #[] #[])]) w4 fun v5=>onG v5 fun x5=>Ru Tryz.prog (Instr.mapUpdate 299 (.map x1) (.string (⟨#[116,97,115,107]⟩)) (.agg x5)) w4 fun w5=>Rd Tryz.prog (Instr.build 297 #[(0,.int .i64 5),(1,.int .i64 1),(2,.func (.func 239) #[] #[])]) w5 fun v6=>onG v6 fun x6=>Ru Tryz.prog (Instr.mapUpdate 299 (.map x1) (.string (⟨#[117,110,116,97,115,107]⟩)) (.agg x6)) w5 fun w6=>Rd Tryz.prog (Instr.build 297 #[(0,.int .i64 6),(1,.int .i64 (-1)),(2,.func (.func 240) #[] #[])]) w6 fun v7=>onG v7 fun x7=>Ru Tryz.prog (Instr.mapUpdate 299 (.map x1) (.string (⟨#[106,111,98]⟩)) (.agg x7)) w6 fun w7=>Rd Tryz.prog (Instr.build 297 #[(0,.int .i64 7),(1,.int .i64 1),(2,.func (.func 241) #[] #[])]) w7 fun v8=>onG v8 fun x8=>Ru Tryz.prog (Instr.mapUpdate 299 (.map x1) (.string (⟨#[116,105,99,107]⟩)) (.agg x8)) w7 fun w8=>Rd Tryz.prog (Instr.build 297 #[(0,.int .i64 8),(1,.int .i64 1),(2,.func (.func 237) #[] #[])]) w8 fun v9=>onG v9 fun x9=>Ru Tryz.prog (Instr.mapUpdate 299 (.map x1) (.string (⟨#[110,111,100,101]⟩)) (.agg x9)) w8 fun w9=>Rd Tryz.prog (Instr.build 297 #[(0,.int .i64 9),(1,.int .i64 1),(2,.func (.func 239) #[] #[])]) w9 fun v10=>onG v10 fun x10=>Ru Tryz.prog (Instr.mapUpdate 299 (.map x1) (.string (⟨#[115,104,111,119]⟩)) (.agg x10)) w9 fun w10=>R (.map x1) w10
noncomputable def b158:Code:=Tryz.f158.body.getD .skip
theorem c158 {R:Ko}  {w:World} (h:F158 R  w):Ct Tryz.prog 158 #[] w R :=
 ctS (args:=[]) (body:=b158) (n:=12) (rs:=[.tmp 0]) Tryz.func158
  (sg (cuts:=[]) trivial h)
def F77_3 (R:Ko) (x2:Addr) (w:World):Prop:=Sa 11 x2 (#[.int .i64 0,.int .i64 0,.string (⟨#[]⟩),.string (⟨#[]⟩),.int .i64 0,.int .i64 0,.int .i64 0,.int .i64 0,.int .i64 0,.int .i64 0,.int .i64 0]) w fun w9=>Rd Tryz.prog (Instr.loadAt 53 (.pointer (some x2))) w9 fun r0=>R (.tuple #[r0,.iface 129 (.int .i64 250)]) w9
def F77_4 (R:Ko) (x2:Addr) (x7:Addr) (w:World):Prop:=Lc (x7.add 11) w.drew fun v67=>Sa 11 x2 (#[.int .i64 0,.int .i64 0,.string (⟨#[]⟩),.string (⟨#[]⟩),.int .i64 0,.int .i64 0,.int .i64 0,.int .i64 0,.int .i64 0,.int .i64 0,.int .i64 0]) w.drew fun w10=>Hc (x7.add 11) v67 w10∧Rd Tryz.prog (Instr.loadAt 53 (.pointer (some x2))) w10 fun r0=>R (.tuple #[r0,v67]) w10
def F77_2 (R:Ko) (x2:Addr) (x4:Addr) (a6:Option Addr) (l6 c6:Nat) (x7:Addr) (w:World):Prop:=Lc (x4.add 2) w fun v54=>CallV Tryz.prog goB v54 #[.pointer (some x7),.slice a6 l6 c6] w fun v57 w11=>Lc (x7.add 11) w11 fun v61=>Nl v61 fun x62=>Ifm (!x62) (F77_4 R x2 x7 w11) (La 11 (x7.add 0) w11 fun x71=>Sa 11 x2 x71 w11 fun w12=>Rd Tryz.prog (Instr.loadAt 53 (.pointer (some x2))) w12 fun r0=>R (.tuple #[r0,.nilIface]) w12)
def F77_1 (R:Ko) (x1:Addr) (x2:Addr) (x4:Addr) (a6:Option Addr) (l6 c6:Nat) (w:World):Prop:=Lc (x1.add 0) w fun v47=>onI v47 fun x47=>Lc (x4.add 0) w fun v49=>onI v49 fun x49=>Rd Tryz.prog (Instr.build 303 #[(0,.agg #[.int .i64 x47,.int .i64 x49,.string (⟨#[]⟩),.string (⟨#[]⟩),.int .i64 0,.int .i64 0,.int .i64 0,.int .i64 0,.int .i64 0,.int .i64 0,.int .i64 0])]) w fun v51=>onG v51 fun x51=>New (.cells (.agg x51:Value).cells 303) w fun x52 w13=>F77_2 R x2 x4 a6 l6 c6 x52 w13
def F77_0 (R:Ko) (x1:Addr) (x2:Addr) (x4:Addr) (x5:Bool) (a6:Option Addr) (l6 c6:Nat) (w:World):Prop:=Ifm (!x5) (F77_3 R x2 w) (Lc (x4.add 1) w fun v24=>onI v24 fun x24=>Ifm (decide ((x24:Int)≥0)) (Lc (x4.add 1) w fun v30=>onI v30 fun x30=>Ifm (((l6:Nat):Int) != x30) (F77_3 R x2 w) (Ifm (decide (((l6:Nat):Int)<2)) (Lc (x4.add 1) w fun v40=>onI v40 fun x40=>Ifm (decide ((x40:Int)<0)) (F77_3 R x2 w) (F77_1 R x1 x2 x4 a6 l6 c6 w)) (F77_1 R x1 x2 x4 a6 l6 c6 w))) (Ifm (decide (((l6:Nat):Int)<2)) (Lc (x4.add 1) w fun v40=>onI v40 fun x40=>Ifm (decide ((x40:Int)<0)) (F77_3 R x2 w) (F77_1 R x1 x2 x4 a6 l6 c6 w)) (F77_1 R x1 x2 x4 a6 l6 c6 w)))
def F77 (R:Ko) (x0:Array Value) (w:World):Prop:=New (.cells (.agg x0:Value).cells 191) w fun x1 w1=>New (.cells (.agg #[.int .i64 0,.int .i64 0,.string (⟨#[]⟩),.string (⟨#[]⟩),.int .i64 0,.int .i64 0,.int .i64 0,.int .i64 0,.int .i64 0,.int .i64 0,.int .i64 0]:Value).cells 53) w1 fun x2 w2=>Lc (x1.add 1) w2.drew fun v11=>onL v11 fun a11 l11 c11=>Ix a11 l11 0 1 fun x12=>Lc x12 w2.drew fun v13=>onS v13 fun x13=>(Ct Tryz.prog 158 #[] w2.drew fun v9 w3=>onM v9 fun x9=>Hc x12 (.string x13) w3∧Hc (x1.add 1) (.slice a11 l11 c11) w3∧Rd Tryz.prog (Instr.lookup 299 (.map x9) (.string x13) true) w3 fun v14=>on2 v14 fun y14_0 y14_1=>onG y14_0 fun x14_0=>onB y14_1 fun x14_1=>New (.cells (.agg #[.int .i64 0,.int .i64 0,.nilFunc]:Value).cells 297) w3 fun x4 w4=>Hd Tryz.prog (Instr.lookup 299 (.map x9) (.string x13) true) (.tuple #[.agg x14_0,.bool x14_1]) w4∧Hc x12 (.string x13) w4∧Hc (x1.add 1) (.slice a11 l11 c11) w4∧Sa 3 x4 x14_0 w4 fun w5=>Lc (x1.add 1) w5 fun v18=>onL v18 fun a18 l18 c18=>Sl a18 c18 1 1 (l18:Nat) fun a19 l19 c19=>F77_0 R x1 x2 x4 x14_1 a19 l19 c19 w5)∧(New (.cells (.agg #[.int .i64 0,.int .i64 0,.nilFunc]:Value).cells 297) w2.drew fun x4 w6=>Hc x12 (.string x13) w6∧Hc (x1.add 1) (.slice a11 l11 c11) w6∧Ct Tryz.prog 158 #[] w6 fun v9 w7=>onM v9 fun x9=>Hc x12 (.string x13) w7∧Hc (x1.add 1) (.slice a11 l11 c11) w7∧Rd Tryz.prog (Instr.lookup 299 (.map x9) (.string x13) true) w7 fun v14=>on2 v14 fun y14_0 y14_1=>onG y14_0 fun x14_0=>onB y14_1 fun x14_1=>Sa 3 x4 x14_0 w7 fun w8=>Lc (x1.add 1) w8 fun v18=>onL v18 fun a18 l18 c18=>Sl a18 c18 1 1 (l18:Nat) fun a19 l19 c19=>F77_0 R x1 x2 x4 x14_1 a19 l19 c19 w8)
noncomputable def b77:Code:=Tryz.f77.body.getD .skip
def q77_3:List Bool:=[false,false,true,false,true,true,true]
def L77_3 (F:Addr→World→Prop):Env→World→Prop:=fun ρ w=>onA (ρ 2) fun x2=>F x2 w
def q77_4:List Bool:=[false,false,true,false,true,true,true,true,true,true]
def L77_4 (F:Addr→Addr→World→Prop):Env→World→Prop:=fun ρ w=>onA (ρ 2) fun x2=>onA (ρ 7) fun x7=>F x2 x7 w
def q77_2:List Bool:=[false,true,true,true,true,true]
def L77_2 (F:Addr→Addr→Option Addr→Nat→Nat→Addr→World→Prop):Env→World→Prop:=fun ρ w=>onA (ρ 2) fun x2=>onA (ρ 4) fun x4=>onL (ρ 6) fun a6 l6 c6=>onA (ρ 7) fun x7=>F x2 x4 a6 l6 c6 x7 w
def q77_1:List Bool:=[false,true,true,true,true]
def L77_1 (F:Addr→Addr→Addr→Option Addr→Nat→Nat→World→Prop):Env→World→Prop:=fun ρ w=>onA (ρ 1) fun x1=>onA (ρ 2) fun x2=>onA (ρ 4) fun x4=>onL (ρ 6) fun a6 l6 c6=>F x1 x2 x4 a6 l6 c6 w
def q77_0:List Bool:=[false,false,true,true,true]
def L77_0 (F:Addr→Addr→Addr→Bool→Option Addr→Nat→Nat→World→Prop):Env→World→Prop:=fun ρ w=>onA (ρ 1) fun x1=>onA (ρ 2) fun x2=>onA (ρ 4) fun x4=>onB (ρ 5) fun x5=>onL (ρ 6) fun a6 l6 c6=>F x1 x2 x4 x5 a6 l6 c6 w
abbrev T77 (z:Fr) (R:Ko) (p:List Bool) (ρ:Env) (w:World):Prop:=TW z Tryz.prog 72 (segTodo b77 p) (QR Tryz.prog [.cell 2 53,.tmp 3] R) ρ w
theorem s77_3 (R:Ko):∀ ρ w,(L77_3 (F77_3 R)) ρ w→T77 z0 R q77_3 ρ w:=by
 intro ρ w h
 obtain ⟨x2,e2,h⟩:=onA_of h
 rw [← upds_same (ρ:=ρ) [(2,.pointer (some x2))] (alc e2 aln)]
 exact sg (cuts:=[]) trivial h
theorem s77_4 (R:Ko):∀ ρ w,(L77_4 (F77_4 R)) ρ w→T77 z0 R q77_4 ρ w:=by
 intro ρ w h
 obtain ⟨x2,e2,h⟩:=onA_of h
 obtain ⟨x7,e7,h⟩:=onA_of h
 rw [← upds_same (ρ:=ρ) [(2,.pointer (some x2)),(7,.pointer (some x7))] (alc e2 (alc e7 aln))]
 exact sg (cuts:=[]) trivial h
theorem s77_2 (R:Ko):∀ ρ w,(L77_2 (F77_2 R)) ρ w→T77 z0 R q77_2 ρ w:=by
 intro ρ w h
 obtain ⟨x2,e2,h⟩:=onA_of h
 obtain ⟨x4,e4,h⟩:=onA_of h
 obtain ⟨a6,l6,c6,e6,h⟩:=onL_of h
 obtain ⟨x7,e7,h⟩:=onA_of h
 rw [← upds_same (ρ:=ρ) [(2,.pointer (some x2)),(4,.pointer (some x4)),(6,.slice a6 l6 c6),(7,.pointer (some x7))] (alc e2 (alc e4 (alc e6 (alc e7 aln))))]
 exact sg (cuts:=[(q77_4,L77_4 (F77_4 R))]) ⟨s77_4 R,trivial⟩ h
theorem s77_1 (R:Ko):∀ ρ w,(L77_1 (F77_1 R)) ρ w→T77 z0 R q77_1 ρ w:=by
 intro ρ w h
 obtain ⟨x1,e1,h⟩:=onA_of h
 obtain ⟨x2,e2,h⟩:=onA_of h
 obtain ⟨x4,e4,h⟩:=onA_of h
 obtain ⟨a6,l6,c6,e6,h⟩:=onL_of h
 rw [← upds_same (ρ:=ρ) [(1,.pointer (some x1)),(2,.pointer (some x2)),(4,.pointer (some x4)),(6,.slice a6 l6 c6)] (alc e1 (alc e2 (alc e4 (alc e6 aln))))]
 exact sg (cuts:=[(q77_2,L77_2 (F77_2 R))]) ⟨s77_2 R,trivial⟩ h
theorem s77_0 (R:Ko):∀ ρ w,(L77_0 (F77_0 R)) ρ w→T77 z0 R q77_0 ρ w:=by
 intro ρ w h
 obtain ⟨x1,e1,h⟩:=onA_of h
 obtain ⟨x2,e2,h⟩:=onA_of h
 obtain ⟨x4,e4,h⟩:=onA_of h
 obtain ⟨x5,e5,h⟩:=onB_of h
 obtain ⟨a6,l6,c6,e6,h⟩:=onL_of h
 rw [← upds_same (ρ:=ρ) [(1,.pointer (some x1)),(2,.pointer (some x2)),(4,.pointer (some x4)),(5,.bool x5),(6,.slice a6 l6 c6)] (alc e1 (alc e2 (alc e4 (alc e5 (alc e6 aln)))))]
 exact sg (cuts:=[(q77_1,L77_1 (F77_1 R)),(q77_3,L77_3 (F77_3 R))]) ⟨s77_1 R,s77_3 R,trivial⟩ h
theorem c77 {R:Ko} {x0:Array Value} {w:World} (h:F77 R x0 w):Ct Tryz.prog 77 #[.agg x0] w R :=
 ctS (args:=[.agg x0]) (body:=b77) (n:=72) (rs:=[.cell 2 53,.tmp 3]) Tryz.func77
  (sg (cuts:=[(q77_0,L77_0 (F77_0 R))]) ⟨s77_0 R,trivial⟩ h)
variable {K:Ko} {w w':World}
theorem u299:Tryz.prog.underlying 299=some (.map 9 297):=by kernel_rfl
def fmV (k n:Int) (f:Nat):Value:=.agg #[I k,I n,.func (.func f) #[] #[]]
def sCreate:ByteArray:=⟨#[99,114,101,97,116,101]⟩
def sResize:ByteArray:=⟨#[114,101,115,105,122,101]⟩
def sDelete:ByteArray:=⟨#[100,101,108,101,116,101]⟩
def sTask:ByteArray:=⟨#[116,97,115,107]⟩
def sUntask:ByteArray:=⟨#[117,110,116,97,115,107]⟩
def sJob:ByteArray:=⟨#[106,111,98]⟩
def sTick:ByteArray:=⟨#[116,105,99,107]⟩
def sNode:ByteArray:=⟨#[110,111,100,101]⟩
def sShow:ByteArray:=⟨#[115,104,111,119]⟩
def gF:ByteArray→Option Value:=updO (updO (updO (updO (updO (updO (updO (updO (updO (fun _=>none) sCreate (some (fmV 1 3 235))) sResize (some (fmV 2 2 236))) sDelete (some (fmV 3 1 237))) sTask (some (fmV 4 3 238))) sUntask (some (fmV 5 1 239))) sJob (some (fmV 6 (-1) 240))) sTick (some (fmV 7 1 241))) sNode (some (fmV 8 1 237))) sShow (some (fmV 9 1 239))
theorem fm_k {m:Nat} {g:ByteArray→Option Value} (h:Map w m .string Value.string g) (key:ByteArray) (k n:Int) (f:Nat) {kk:World→Prop} (hk:∀ w',Kp (·=m) w w'→Map w' m .string Value.string (updO g key (some (fmV k n f)))→kk w') :
  Rd Tryz.prog (Instr.build 297 #[(0,I k),(1,I n),(2,.func (.func f) #[] #[])]) w fun v2=>onG v2 fun x2=>Ru Tryz.prog (Instr.mapUpdate 299 (.map (some m)) (.string key) (.agg x2)) w kk:=by
 rw [build_f (P:=Tryz.prog) (t:=297) (vals:=[(0,I k),(1,I n),(2,.func (.func f) #[] #[])]) (v:=fmV k n f) (by kernel_rfl) (by kernel_rfl)]
 obtain ⟨w2,hr2,k2,hm2⟩:=h.upd keyS u299 u9s key (fmV k n f)
 exact ⟨w2,hr2,hk w2 k2 hm2⟩
theorem k158 (hR:∀ m w',Kp No w w'→Map w' m .string Value.string gF→K (.map (some m)) w'):Ct Tryz.prog 158 #[] w K:=by
 refine c158 ?_
 unfold F158
 obtain ⟨w1,hr,k1,s1,hm⟩:=Map.mk (P:=Tryz.prog) u299 w Value.string .string
 rw [Rv_ok hr]
 simp only [onM_eq]
 refine fm_k hm sCreate 1 3 235 fun w2 k2 h2=>?_
 refine fm_k h2 sResize 2 2 236 fun w3 k3 h3=>?_
 refine fm_k h3 sDelete 3 1 237 fun w4 k4 h4=>?_
 refine fm_k h4 sTask 4 3 238 fun w5 k5 h5=>?_
 refine fm_k h5 sUntask 5 1 239 fun w6 k6 h6=>?_
 refine fm_k h6 sJob 6 (-1) 240 fun w7 k7 h7=>?_
 refine fm_k h7 sTick 7 1 241 fun w8 k8 h8=>?_
 refine fm_k h8 sNode 8 1 237 fun w9 k9 h9=>?_
 refine fm_k h9 sShow 9 1 239 fun w10 k10 h10=>?_
 have kk:=(((((((k2.trans k3).trans k4).trans k5).trans k6).trans k7).trans k8).trans k9).trans k10
 exact hR _ w10 (k1.own kk (Nat.le_refl _)) h10
theorem zv297 (w:World):(zeroValue 297).run Tryz.prog w=.ok (.agg #[I 0,I 0,.nilFunc]) w:=by kernel_rfl
theorem map_lkF {m:Nat} (h:Map w m .string Value.string gF) (s:ByteArray) (k:Value→Prop):Rd Tryz.prog (Instr.lookup 299 (.map (some m)) (.string s) true) w k=k (.tuple #[(gF s).getD (.agg #[I 0,I 0,.nilFunc]),.bool (gF s).isSome]):=by
 rw [Rd_ok (h.look keyS u299 u9s (zv297 w) s true) k,if_pos rfl]
theorem hd_lkF {m:Nat} (h:Map w m .string Value.string gF) (s:ByteArray):Hd Tryz.prog (Instr.lookup 299 (.map (some m)) (.string s) true) (.tuple #[(gF s).getD (.agg #[I 0,I 0,.nilFunc]),.bool (gF s).isSome]) w:=by
 have:=h.look keyS u299 u9s (zv297 w) s true
 rw [if_pos rfl] at this
 exact this
def zS:StV:=⟨0,0,⟨#[]⟩,⟨#[]⟩,0,0,0,0,0,0,0⟩
theorem ld53:loadKind Tryz.prog 53=some (some 11):=by kernel_rfl
def Reads (f g o l c:Nat) (ts:List ByteArray) (s0 s1:StV):Prop:=∀ (u:World) (r:Nat) (K:Ko),M0 u→r≠2→g≠r→RD u r s0→Ws u g o l ts→(∀ u',Kp (·=r) u u'→RD u' r s1→K (.tuple #[]) u')→Ct Tryz.prog f #[Pt r 0,.slice (some ⟨g,o,none⟩) l c] u K
section
variable {x1 x2 x4 g o l c f:Nat} {no kd n:Int} {ts:List ByteArray} {a:Option Addr} {l1 c1:Nat} {s1:StV}
theorem f77_no {x6:Option Addr} {u:World} (hk:Kp No w u) (hx:w.heap.size≤x2) (h2:Bk u x2 zS.cells 53) (hR:∀ w',Kp No w w'→K (.tuple #[.agg zS.cells.toArray,Er 250]) w'):F77_0 K ⟨x1,0,none⟩ ⟨x2,0,none⟩ ⟨x4,0,none⟩ false x6 l c u:=by
 unfold F77_0 F77_3
 simp only [SS]
 exact res_k (c:=zS.cells) (cs:=zS.cells) (k:=fun r0 w8=>K (.tuple #[r0,Er 250]) w8) ld53 h2 rfl rfl (StV.one _) fun w8 k8=>hR w8 (hk.own k8 hx)
theorem f77_yes {u:World} (hk:Kp No w u) (hm:M0 u) (hx:w.heap.size≤x2) (h1:Bk u x1 [I no,.slice a l1 c1] 191) (h2:Bk u x2 zS.cells 53) (h4:Bk u x4 [I kd,I n,.func (.func f) #[] #[]] 297) (hw:Ws u g o l ts)
  (hg:goB f=true) (hn:(0≤n∧n=(l:Int))∨(n<0∧2≤l)) (hu:2<u.heap.size) (hrd:Reads f g o l c ts { zS with no:=no,k:=kd } s1)
  (hR:∀ w',Kp No w w'→K (.tuple #[.agg s1.cells.toArray,.nilIface]) w'):F77_0 K ⟨x1,0,none⟩ ⟨x2,0,none⟩ ⟨x4,0,none⟩ true (some ⟨g,o,none⟩) l c u:=by
 unfold F77_0
 have go:F77_1 K ⟨x1,0,none⟩ ⟨x2,0,none⟩ ⟨x4,0,none⟩ (some ⟨g,o,none⟩) l c u:=by
  unfold F77_1
  simp only [SS,h1.rd (o:=0) (v:=I no) rfl,h4.rd (o:=0) (v:=I kd) rfl]
  rw [build_f (P:=Tryz.prog) (t:=303) (vals:=[(0,.agg #[I no,I kd,.string ⟨#[]⟩,.string ⟨#[]⟩,I 0,I 0,I 0,I 0,I 0,I 0,I 0])]) (v:=.agg (({ zS with no:=no,k:=kd }:StV).cells++[Value.nilIface]).toArray) (by kernel_rfl) (by kernel_rfl)]
  simp only [SS]
  refine new_k (({ zS with no:=no,k:=kd }:StV).cells++[Value.nilIface]) fun u1 k1 b1 s1'=>?_
  unfold F77_2
  have b4:=k1.bk h4 id
  have b4:Bk u1 x4 [I kd,I n,.func (.func f) #[] #[]] 297:=b4
  rw [show ∀ k,Lc ((Addr.mk x4 0 none).add 2) u1 k=k (.func (.func f) #[] #[]) from fun k=>b4.rd (o:=2) rfl k]
  refine ⟨hg,?_⟩
  rw [show (#[]++#[Value.pointer (some ⟨u.heap.size,0,none⟩),.slice (some ⟨g,o,none⟩) l c]++#[]:Array Value)=#[Pt u.heap.size 0,.slice (some ⟨g,o,none⟩) l c] by simp]
  refine hrd u1 u.heap.size _ (hm.kp k1 id) (by omega) (by have:=hw.lt; omega) b1 (hw.kp k1 id) fun u2 k2 b2=>?_
  have e11:(s1.cells++[Value.nilIface])[11]?=some .nilIface:=rfl
  simp only [SS,b2.rd e11]
  have ku2:Kp No u u2:=k1.own k2 (Nat.le_refl _)
  rw [show ∀ k,La 11 ⟨u.heap.size,0,none⟩ u2 k=k s1.cells.toArray from fun k=>by rw [b2.la (by simp [StV.cells])]; rfl]
  exact res_k (c:=zS.cells) (cs:=s1.cells) (k:=fun r0 w8=>K (.tuple #[r0,.nilIface]) w8) ld53 (ku2.bk h2 id) rfl rfl (StV.one _) fun w8 k8=>hR w8 ((hk.trans ku2).own k8 hx)
 simp only [SS,h4.rd (o:=1) (v:=I n) rfl]
 rcases hn with ⟨h0,hl⟩ | ⟨h0,hl⟩
 ·rw [if_pos (by omega),if_pos (by omega)]
  by_cases e:(l:Int)<2
  ·rw [if_pos e,if_neg (by omega)]
   exact go
  ·rw [if_neg e]; exact go
 ·rw [if_neg (by omega),if_neg (by omega)]
  exact go
theorem f77 {key:ByteArray} {fc:List Value} (hw:Ws w g 0 l ts) (h0:ts[0]?=some key) (hl:2≤l) (hlc:l≤c) (hf:(gF key).getD (.agg #[I 0,I 0,.nilFunc])=.agg fc.toArray) (h3:fc.length=3) (h1c:∀ v∈fc,oneCell v=true)
  (fin:∀ u x4,Kp No w u→Bk u w.heap.size [I no,.slice (some ⟨g,0,none⟩) l c] 191→Bk u (w.heap.size+1) zS.cells 53→Bk u x4 fc 297→F77_0 K ⟨w.heap.size,0,none⟩ ⟨w.heap.size+1,0,none⟩ ⟨x4,0,none⟩ (gF key).isSome (some ⟨g,1,none⟩) (l - 1) (c - 1) u) :
  Ct Tryz.prog 77 #[.agg #[I no,.slice (some ⟨g,0,none⟩) l c]] w K:=by
 refine c77 ?_
 unfold F77
 refine new_k [I no,.slice (some ⟨g,0,none⟩) l c] fun w1 k1 b1 s1=>?_
 refine new_k zS.cells fun w2 k2 b2 s2=>?_
 rw [show w1.heap.size=w.heap.size+1 from s1] at b2 ⊢
 have b12:Bk w2 w.heap.size [I no,.slice (some ⟨g,0,none⟩) l c] 191:=k2.bk b1 id
 have k02:=k1.trans k2
 have hw2:=hw.kp k02 id
 have hc0:∀ {u:World},Ws u g 0 l ts→u.cell? ⟨g,0,none⟩=some (.string key):=fun hh=>by have:=hh.at_ 0 key h0; simpa using this
 have hsl:∀ (k:Option Addr→Nat→Nat→Prop),k (some ⟨g,1,none⟩) (l - 1) (c - 1)→Sl (some ⟨g,0,none⟩) c 1 1 (l:Nat) k:=fun k hk=>by
  refine ⟨by omega,by omega,by omega,?_⟩
  rw [if_neg (by show ¬ c=1; omega)]
  exact hk
 simp only [SS,b12.rd (o:=1) (v:=.slice (some ⟨g,0,none⟩) l c) rfl]
 refine ix_k (i:=0) (j:=0) rfl (by omega) ?_
 simp only [Nat.zero_mul,SS,Lc_c (hc0 hw2)]
 refine ⟨?_,?_⟩
 ·refine k158 (w:=dr w2 _) fun m w3 k3 hm3=>?_
  have k3:=k3.drL
  have hw3:=hw2.kp k3 id
  have b13:Bk w3 w.heap.size [I no,.slice (some ⟨g,0,none⟩) l c] 191:=k3.bk b12 id
  simp only [SS,Hc_c (hc0 hw3),b13.hc (o:=1) (v:=.slice (some ⟨g,0,none⟩) l c) rfl]
  rw [map_lkF hm3,hf]
  simp only [SS]
  refine new_k [I 0,I 0,.nilFunc] fun w4 k4 b4 s4=>?_
  have hw4:=hw3.kp k4 id
  have b14:Bk w4 w.heap.size [I no,.slice (some ⟨g,0,none⟩) l c] 191:=k4.bk b13 id
  have hh:=hd_lkF (hm3.kp k4 id) key
  rw [hf] at hh
  refine ⟨hh,?_⟩
  simp only [Hc_c (hc0 hw4),b14.hc (o:=1) (v:=.slice (some ⟨g,0,none⟩) l c) rfl,SS]
  refine sa_k b4 h3 (by simp) h1c fun w5 k5 b5 s5=>?_
  rw [over_all _ _ (by rw [h3]; rfl)] at b5
  have b15:Bk w5 w.heap.size [I no,.slice (some ⟨g,0,none⟩) l c] 191:=k5.bk b14 (by have:=b13.lt; omega)
  have z3:=k3.size
  simp only [b15.rd (o:=1) (v:=.slice (some ⟨g,0,none⟩) l c) rfl,SS]
  refine hsl _ ?_
  have k25:Kp No w2 w5:=(k3.trans k4).own k5 (by omega)
  exact fin w5 _ (k02.trans k25) b15 (k25.bk b2 id) b5
 ·refine new_k (w:=dr w2 _) [I 0,I 0,.nilFunc] fun w4 k4 b4 s4=>?_
  have k4:=k4.drL
  simp only [dr_heap] at b4
  have hw4:=hw2.kp k4 id
  have b14:Bk w4 w.heap.size [I no,.slice (some ⟨g,0,none⟩) l c] 191:=k4.bk b12 id
  simp only [Hc_c (hc0 hw4),b14.hc (o:=1) (v:=.slice (some ⟨g,0,none⟩) l c) rfl,SS]
  refine k158 fun m w3 k3 hm3=>?_
  have hw3:=hw4.kp k3 id
  have b13:Bk w3 w.heap.size [I no,.slice (some ⟨g,0,none⟩) l c] 191:=k3.bk b14 id
  simp only [SS,Hc_c (hc0 hw3),b13.hc (o:=1) (v:=.slice (some ⟨g,0,none⟩) l c) rfl]
  rw [map_lkF hm3,hf]
  simp only [SS]
  refine sa_k (k3.bk b4 id) h3 (by simp) h1c fun w5 k5 b5 s5=>?_
  rw [over_all _ _ (by rw [h3]; rfl)] at b5
  have z2:=b12.lt
  have b15:Bk w5 w.heap.size [I no,.slice (some ⟨g,0,none⟩) l c] 191:=k5.bk b13 (by omega)
  simp only [b15.rd (o:=1) (v:=.slice (some ⟨g,0,none⟩) l c) rfl,SS]
  refine hsl _ ?_
  have k25:Kp No w2 w5:=(k4.trans k3).own k5 (by simp)
  exact fin w5 _ (k02.trans k25) b15 (k25.bk b2 id) b5
theorem k77 {key:ByteArray} (hm:M0 w) (hu:2<w.heap.size) (hw:Ws w g 0 l ts) (h0:ts[0]?=some key) (hl:2≤l) (hlc:l≤c) (hf:gF key=some (fmV kd n f)) (hg:goB f=true) (hn:(0≤n∧n=((l - 1:Nat):Int))∨(n<0∧2≤l - 1))
  (hrd:Reads f g 1 (l - 1) (c - 1) (ts.drop 1) { zS with no:=no,k:=kd } s1) (hR:∀ w',Kp No w w'→K (.tuple #[.agg s1.cells.toArray,.nilIface]) w'):Ct Tryz.prog 77 #[.agg #[I no,.slice (some ⟨g,0,none⟩) l c]] w K:=by
 refine f77 (fc:=[I kd,I n,.func (.func f) #[] #[]]) hw h0 hl hlc (by rw [hf]; rfl) rfl (by simp [oneCell]) fun u x4 ku b1 b2 b4=>?_
 rw [hf]
 have hwd:=(hw.kp ku id).drop 1
 rw [Nat.zero_add] at hwd
 exact f77_yes ku (hm.kp ku id) (by omega) b1 b2 b4 hwd hg hn (by have:=ku.size; omega) hrd hR
theorem k77_no {key:ByteArray} (hw:Ws w g 0 l ts) (h0:ts[0]?=some key) (hl:2≤l) (hlc:l≤c) (hf:gF key=none) (hR:∀ w',Kp No w w'→K (.tuple #[.agg zS.cells.toArray,Er 250]) w'):Ct Tryz.prog 77 #[.agg #[I no,.slice (some ⟨g,0,none⟩) l c]] w K:=by
 refine f77 (fc:=[I 0,I 0,.nilFunc]) hw h0 hl hlc (by rw [hf]; rfl) rfl (by simp [oneCell]) fun u x4 ku b1 b2 b4=>?_
 rw [hf]
 exact f77_no ku (by omega) b2 hR
end
end
end Go.Proofs.YtbgbidpecmepmaaGreatDoor
