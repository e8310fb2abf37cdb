/-
  An operation done; The script's world: names and what they stand for; A step of a script, and the operation that it means; Entries taken out while a map is gone over; names below a path.
-/
import Derived.Test.YtbgbidpecmepmaaGreatDoorM17
import Derived.Test.YtbgbidpecmepmaaGreatDoorM5
set_option maxRecDepth 100000
namespace Go.Proofs.YtbgbidpecmepmaaGreatDoor
section
open Sy
def F41 (R:Ko) (x0:Option Addr) (x1:Array Value) (x2:Option Addr) (w:World):Prop:=New (.cells (.pointer x0:Value).cells 26) w fun x3 w1=>New (.cells (.agg x1:Value).cells 39) w1 fun x4 w2=>New (.cells (.pointer x2:Value).cells 145) w2 fun x5 w3=>Rv Tryz.prog (Instr.makeMap 143 none) w3 fun v7 w4=>onM v7 fun x7=>Ru Tryz.prog (Instr.mapUpdate 143 (.map x7) (.int .i64 1) (.func (.func 88) #[] #[.pointer (some x3),.pointer (some x4),.pointer (some x5)])) w4 fun w5=>Ru Tryz.prog (Instr.mapUpdate 143 (.map x7) (.int .i64 2) (.func (.func 89) #[] #[.pointer (some x3),.pointer (some x4)])) w5 fun w6=>Ru Tryz.prog (Instr.mapUpdate 143 (.map x7) (.int .i64 3) (.func (.func 91) #[] #[.pointer (some x3),.pointer (some x4)])) w6 fun w7=>Ru Tryz.prog (Instr.mapUpdate 143 (.map x7) (.int .i64 4) (.func (.func 93) #[] #[.pointer (some x3),.pointer (some x4),.pointer (some x5)])) w7 fun w8=>Ru Tryz.prog (Instr.mapUpdate 143 (.map x7) (.int .i64 5) (.func (.func 94) #[] #[.pointer (some x3),.pointer (some x4)])) w8 fun w9=>Ru Tryz.prog (Instr.mapUpdate 143 (.map x7) (.int .i64 6) (.func (.func 96) #[] #[.pointer (some x3),.pointer (some x4)])) w9 fun w10=>Ru Tryz.prog (Instr.mapUpdate 143 (.map x7) (.int .i64 8) (.func (.func 98) #[] #[.pointer (some x3),.pointer (some x4),.pointer (some x5)])) w10 fun w11=>Ru Tryz.prog (Instr.mapUpdate 143 (.map x7) (.int .i64 9) (.func (.func 99) #[] #[.pointer (some x3),.pointer (some x4),.pointer (some x5)])) w11 fun w12=>Ru Tryz.prog (Instr.mapUpdate 143 (.map x7) (.int .i64 7) (.func (.func 100) #[] #[.pointer (some x3),.pointer (some x4)])) w12 fun w13=>R (.map x7) w13
noncomputable def b41:Code:=Tryz.f41.body.getD .skip
theorem c41 {R:Ko} {x0:Option Addr} {x1:Array Value} {x2:Option Addr} {w:World} (h:F41 R x0 x1 x2 w):Ct Tryz.prog 41 #[.pointer x0,.agg x1,.pointer x2] w R :=
 ctS (args:=[.pointer x0,.agg x1,.pointer x2]) (body:=b41) (n:=18) (rs:=[.tmp 6]) Tryz.func41
  (sg (cuts:=[]) trivial h)
def F12 (R:Ko) (x0:Option Addr) (x1:Array Value) (w:World):Prop:=New (.cells (.agg x1:Value).cells 39) w fun x3 w1=>New (.cells (.agg #[.int .i64 0,.int .i64 0,.int .i64 0,.int .i64 0,.int .i64 0,.int .i64 0,.int .i64 0,.bool false,.int .i64 0,.int .i64 0,.int .i64 0,.int .i64 0,.int .i64 0,.int .i64 0,.int .i64 0,.int .i64 0,.int .i64 0,.int .i64 0,.int .i64 0,.int .i64 0,.int .i64 0,.int .i64 0,.int .i64 0,.int .i64 0,.slice none 0 0,.slice none 0 0,.int .i64 0,.slice none 0 0,.int .i64 0,.int .i64 0,.int .i64 0,.int .i64 0,.int .i64 0,.int .i64 0]:Value).cells 49) w1 fun x4 w2=>Ifm x0.isNone (Sa 34 x4 (#[.int .i64 1,.int .i64 0,.int .i64 0,.int .i64 0,.int .i64 0,.int .i64 0,.int .i64 0,.bool false,.int .i64 0,.int .i64 0,.int .i64 0,.int .i64 0,.int .i64 0,.int .i64 0,.int .i64 0,.int .i64 0,.int .i64 0,.int .i64 0,.int .i64 0,.int .i64 0,.int .i64 0,.int .i64 0,.int .i64 0,.int .i64 0,.slice none 0 0,.slice none 0 0,.int .i64 0,.slice none 0 0,.int .i64 0,.int .i64 0,.int .i64 0,.int .i64 0,.int .i64 0,.int .i64 0]) w2 fun w3=>Rd Tryz.prog (Instr.loadAt 49 (.pointer (some x4))) w3 fun r0=>R r0 w3) (La 10 x3 w2 fun x11=>Ct Tryz.prog 39 #[.agg x11] w2 fun v12 w4=>Nl v12 fun x14=>Ifm (!x14) (Ct Tryz.prog 40 #[v12] w4 fun v16 w5=>onI v16 fun x16=>Sa 34 x4 (#[.int .i64 x16,.int .i64 0,.int .i64 0,.int .i64 0,.int .i64 0,.int .i64 0,.int .i64 0,.bool false,.int .i64 0,.int .i64 0,.int .i64 0,.int .i64 0,.int .i64 0,.int .i64 0,.int .i64 0,.int .i64 0,.int .i64 0,.int .i64 0,.int .i64 0,.int .i64 0,.int .i64 0,.int .i64 0,.int .i64 0,.int .i64 0,.slice none 0 0,.slice none 0 0,.int .i64 0,.slice none 0 0,.int .i64 0,.int .i64 0,.int .i64 0,.int .i64 0,.int .i64 0,.int .i64 0]) w5 fun w6=>Rd Tryz.prog (Instr.loadAt 49 (.pointer (some x4))) w6 fun r0=>R r0 w6) (New (.cells (.agg #[.int .i64 0,.int .i64 0,.int .i64 0,.int .i64 0,.int .i64 0,.int .i64 0,.int .i64 0,.bool false,.int .i64 0,.int .i64 0,.int .i64 0,.int .i64 0,.int .i64 0,.int .i64 0,.int .i64 0,.int .i64 0,.int .i64 0,.int .i64 0,.int .i64 0,.int .i64 0,.int .i64 0,.int .i64 0,.int .i64 0,.int .i64 0,.slice none 0 0,.slice none 0 0,.int .i64 0,.slice none 0 0,.int .i64 0,.int .i64 0,.int .i64 0,.int .i64 0,.int .i64 0,.int .i64 0]:Value).cells 49) w4 fun x6 w7=>La 10 x3 w7.drew fun x19=>Lc (x3.add 0) w7.drew fun v22=>onI v22 fun x22=>Ct Tryz.prog 41 #[.pointer x0,.agg x19,.pointer (some x6)] w7.drew fun v20 w8=>onM v20 fun x20=>Hc (x3.add 0) (.int .i64 x22) w8∧Rd Tryz.prog (Instr.lookup 143 (.map x20) (.int .i64 x22) false) w8 fun v23=>CallV Tryz.prog goB v23 #[] w8 fun v24 w9=>Nl v24 fun x26=>Ifm (!x26) (Ct Tryz.prog 40 #[v24] w9 fun v28 w10=>onI v28 fun x28=>Sa 34 x4 (#[.int .i64 x28,.int .i64 0,.int .i64 0,.int .i64 0,.int .i64 0,.int .i64 0,.int .i64 0,.bool false,.int .i64 0,.int .i64 0,.int .i64 0,.int .i64 0,.int .i64 0,.int .i64 0,.int .i64 0,.int .i64 0,.int .i64 0,.int .i64 0,.int .i64 0,.int .i64 0,.int .i64 0,.int .i64 0,.int .i64 0,.int .i64 0,.slice none 0 0,.slice none 0 0,.int .i64 0,.slice none 0 0,.int .i64 0,.int .i64 0,.int .i64 0,.int .i64 0,.int .i64 0,.int .i64 0]) w10 fun w11=>Rd Tryz.prog (Instr.loadAt 49 (.pointer (some x4))) w11 fun r0=>R r0 w11) (La 34 x6 w9 fun x30=>Sa 34 x4 x30 w9 fun w12=>Rd Tryz.prog (Instr.loadAt 49 (.pointer (some x4))) w12 fun r0=>R r0 w12)))
noncomputable def b12:Code:=Tryz.f12.body.getD .skip
theorem c12 {R:Ko} {x0:Option Addr} {x1:Array Value} {w:World} (h:F12 R x0 x1 w):Ct Tryz.prog 12 #[.pointer x0,.agg x1] w R :=
 ctS (args:=[.pointer x0,.agg x1]) (body:=b12) (n:=31) (rs:=[.cell 4 49]) Tryz.func12
  (sg (cuts:=[]) trivial h)
variable {K:Ko} {w w':World}
theorem u143:Tryz.prog.underlying 143=some (.map 3 142):=by kernel_rfl
theorem u3i:Tryz.prog.underlying 3=some (.int .i64):=by kernel_rfl
theorem up143 {m:Nat} {g:Int→Option Value} (h:Map w m (.int .i64) (fun a:Int=>I a) g) (x:Int) (v:Value) {k:World→Prop} (hk:∀ w',Kp (·=m) w w'→Map w' m (.int .i64) (fun a:Int=>I a) (updO g x (some v))→k w') :
  Ru Tryz.prog (Instr.mapUpdate 143 (.map (some m)) (I x) v) w k:=by
 obtain ⟨w2,hr2,k2,hm2⟩:=h.upd keyI u143 u3i x v
 exact ⟨w2,hr2,hk w2 k2 hm2⟩
def gC (bx bo ba:Nat):Int→Option Value:=fun x=>if x=1 then some (.func (.func 88) #[] #[Pt bx 0,Pt bo 0,Pt ba 0]) else if x=2 then some (.func (.func 89) #[] #[Pt bx 0,Pt bo 0]) else if x=3 then some (.func (.func 91) #[] #[Pt bx 0,Pt bo 0])
 else if x=4 then some (.func (.func 93) #[] #[Pt bx 0,Pt bo 0,Pt ba 0]) else if x=5 then some (.func (.func 94) #[] #[Pt bx 0,Pt bo 0]) else if x=6 then some (.func (.func 96) #[] #[Pt bx 0,Pt bo 0])
 else if x=8 then some (.func (.func 98) #[] #[Pt bx 0,Pt bo 0,Pt ba 0]) else if x=9 then some (.func (.func 99) #[] #[Pt bx 0,Pt bo 0,Pt ba 0]) else if x=7 then some (.func (.func 100) #[] #[Pt bx 0,Pt bo 0]) else none
theorem k41 {k y:Nat} {o:OpV} (h:∀ m bx bo ba w',Kp No w w'→w.heap.size≤bx→w.heap.size≤bo→w.heap.size≤ba→Bk w' bx [Pt k 0] 26→Bk w' bo o.cells 39→Bk w' ba [Pt y 0] 145→Map w' m (.int .i64) (fun a:Int=>I a) (gC bx bo ba)→K (.map (some m)) w') :
  Ct Tryz.prog 41 #[Pt k 0,.agg o.cells.toArray,Pt y 0] w K:=by
 refine c41 ?_
 unfold F41
 refine new_k [Pt k 0] fun w1 k1 b1 s1=>?_
 refine new_k o.cells fun w2 k2 b2 s2=>?_
 refine new_k [Pt y 0] fun w3 k3 b3 s3=>?_
 obtain ⟨w4,hr,k4,s4,hm⟩:=Map.mk (P:=Tryz.prog) u143 w3 (fun a:Int=>I a) (.int .i64)
 rw [Rv_ok hr]
 simp only [SS]
 refine up143 hm _ _ fun w5 k5 h5=>?_
 refine up143 h5 _ _ fun w6 k6 h6=>?_
 refine up143 h6 _ _ fun w7 k7 h7=>?_
 refine up143 h7 _ _ fun w8 k8 h8=>?_
 refine up143 h8 _ _ fun w9 k9 h9=>?_
 refine up143 h9 _ _ fun w10 k10 h10=>?_
 refine up143 h10 _ _ fun w11 k11 h11=>?_
 refine up143 h11 _ _ fun w12 k12 h12=>?_
 refine up143 h12 _ _ fun w13 k13 h13=>?_
 have kk:Kp (·=w3.heap.size) w4 w13:=(((((((k5.trans k6).trans k7).trans k8).trans k9).trans k10).trans k11).trans k12).trans k13
 have k313:Kp No w3 w13:=k4.own kk (Nat.le_refl _)
 refine h w3.heap.size w.heap.size w1.heap.size w2.heap.size w13 (((k1.trans k2).trans k3).trans k313) (Nat.le_refl _) (by omega) (by omega) (k313.bk (k3.bk (k2.bk b1 id) id) id) (k313.bk (k3.bk b2 id) id) (k313.bk b3 id) ?_
 have e:gC w.heap.size w1.heap.size w2.heap.size=updO (updO (updO (updO (updO (updO (updO (updO (updO (fun _=>none) 1 (some (.func (.func 88) #[] #[Pt w.heap.size 0,Pt w1.heap.size 0,Pt w2.heap.size 0]))) 2 (some (.func (.func 89) #[] #[Pt w.heap.size 0,Pt w1.heap.size 0]))) 3 (some (.func (.func 91) #[] #[Pt w.heap.size 0,Pt w1.heap.size 0])))
   4 (some (.func (.func 93) #[] #[Pt w.heap.size 0,Pt w1.heap.size 0,Pt w2.heap.size 0]))) 5 (some (.func (.func 94) #[] #[Pt w.heap.size 0,Pt w1.heap.size 0]))) 6 (some (.func (.func 96) #[] #[Pt w.heap.size 0,Pt w1.heap.size 0]))) 8 (some (.func (.func 98) #[] #[Pt w.heap.size 0,Pt w1.heap.size 0,Pt w2.heap.size 0]))) 9 (some (.func (.func 99) #[] #[Pt w.heap.size 0,Pt w1.heap.size 0,Pt w2.heap.size 0]))) 7 (some (.func (.func 100) #[] #[Pt w.heap.size 0,Pt w1.heap.size 0])):=by
  funext x
  unfold gC updO
  by_cases x7:x=7
  ·subst x7; simp
  by_cases x9:x=9
  ·subst x9; simp
  by_cases x8:x=8
  ·subst x8; simp
  by_cases x6:x=6
  ·subst x6; simp
  by_cases x5:x=5
  ·subst x5; simp
  by_cases x4:x=4
  ·subst x4; simp
  by_cases x3:x=3
  ·subst x3; simp
  by_cases x2:x=2
  ·subst x2; simp
  by_cases x1:x=1
  ·subst x1; simp
  simp [x1,x2,x3,x4,x5,x6,x7,x8,x9]
 rw [e]
 exact h13
noncomputable def applyK (K:Kn) (o:OpV):AnsA × Kn:=if validO o=0 then (if (doK K o).1=0 then ((doK K o).2.1,(doK K o).2.2) else ({ ans0 with err:=(doK K o).1 },(doK K o).2.2)) else ({ ans0 with err:=validO o },K)
theorem ld49:loadKind Tryz.prog 49=some (some 34):=by kernel_rfl
theorem zv142 (w:World):(zeroValue 142).run Tryz.prog w=.ok .nilFunc w:=by kernel_rfl
theorem AnsAt.base {B B':Nat} {cs:List Value} {a:AnsA} (h:AnsAt w B cs a) (hb:B'≤B):AnsAt w B' cs a:=by
 obtain ⟨nc,tc,h1,h2,h3⟩:=h
 refine ⟨nc,tc,h1,?_,?_⟩
 ·cases hn:a.nd with
  | none=>rw [hn] at h2; exact h2
  | some r =>
   obtain ⟨n,e,ks,ts⟩:=r
   rw [hn] at h2
   obtain ⟨ka,kl,kc,ta,tl,tc',h4,h5,h6⟩:=h2
   exact ⟨ka,kl,kc,ta,tl,tc',h4,own_base h5 hb,own_base h6 hb⟩
 ·cases ht:a.tk with
  | none=>rw [ht] at h3; exact h3
  | some t =>
   rw [ht] at h3
   obtain ⟨v,h4,h5,h6⟩:=h3
   exact ⟨v,h4,h5,fun a ha=>Nat.le_trans hb (h6 a ha)⟩
theorem k12 {lab:Nat→Nat} {q k:Nat} {Kk:Kn} {o:OpV} (hK:KR w lab q k Kk) (hg:G0 w) (hl0:lab 0=0)
  (hR:∀ cs w' lab',Stp w w' lab lab' q→KR w' lab' q k (applyK Kk o).2→AnsAt w' w.heap.size cs (applyK Kk o).1→K (.agg cs.toArray) w'):Ct Tryz.prog 12 #[Pt k 0,.agg o.cells.toArray] w K:=by
 refine c12 ?_
 unfold F12
 refine new_k o.cells fun w1 k1 b1 s1=>?_
 refine new_k (zAns 0) fun w2 k2 b2 s2=>?_
 have b12:Bk w2 w.heap.size o.cells 39:=k2.bk b1 id
 have lo10:∀ {w':World},Bk w' w.heap.size o.cells 39→∀ k,La 10 ⟨w.heap.size,0,none⟩ w' k=k o.cells.toArray:=fun hb k=>hb.la0 rfl k
 simp only [SS,lo10 b12]
 have h0:0<w.heap.size:=by
  rcases Nat.eq_zero_or_pos w.heap.size with h0 | h1
  ·unfold G0 at hg; simp [World.cell?,h0] at hg
  ·exact h1
 have bad:∀ (w5:World) (lab5:Nat→Nat) (e:Int),Stp w w5 lab lab5 q→Bk w5 w1.heap.size (zAns 0) 49→lab5 w1.heap.size=0→KR w5 lab5 q k (applyK Kk o).2→(applyK Kk o).1={ ans0 with err:=e }→Sa 34 ⟨w1.heap.size,0,none⟩ (zAns e).toArray w5 fun w6=>Rd Tryz.prog (Instr.loadAt 49 (.pointer (some ⟨w1.heap.size,0,none⟩))) w6 fun r0=>K r0 w6:=by
  intro w5 lab5 e st hb hl hk ha
  have hz:=ans_z w5 w.heap.size e
  refine res_k (c:=zAns 0) (cs:=zAns e) (k:=fun r0 w5=>K r0 w5) ld49 hb rfl rfl hz.one fun w6 k6=>?_
  refine hR _ w6 lab5 ⟨st.kp.own k6 (by omega),st.old,st.new⟩ (hk.kp k6 fun x hx e=>by rw [e,hl] at hx; unfold inK at hx; omega) ?_
  rw [ha]; exact ans_z _ _ e
 have lz:∀ {b:Nat},w.heap.size≤b→lab b=0:=fun {b} hb=>by
  by_cases e:lab b=0
  ·exact e
  ·have:=hK.bd b e; omega
 refine k39 fun w4 k4=>?_
 have k14:=k2.trans k4
 have k04:=k1.trans k14
 have b24:Bk w4 w1.heap.size (zAns 0) 49:=k4.bk b2 id
 by_cases e1:validO o=0
 case neg =>
  rw [if_neg e1]
  simp only [SS]
  refine k40_er (hg.kp k04 id) fun w5 k5=>?_
  simp only [SS]
  exact bad w5 lab _ (Stp.no (k04.trans k5) hK.bd) (k5.bk b24 id) (lz (by omega)) (by rw [show (applyK Kk o).2=Kk by unfold applyK; rw [if_neg e1]]; exact hK.no (k04.trans k5)) (by unfold applyK; rw [if_neg e1])
 rw [if_pos e1]
 simp only [SS]
 refine new_k (zAns 0) fun w7 k7 b7 s7=>?_
 have k07:=k04.trans k7
 have b17:Bk w7 w.heap.size o.cells 39:=k7.bk (k4.bk b12 id) id
 have b27:Bk w7 w1.heap.size (zAns 0) 49:=k7.bk b24 id
 simp only [SS,lo10 b17,b17.rd (o:=0) (v:=I o.k) rfl]
 refine k41 (w:=dr w7 _) fun m bx bo ba w8 k8 hbx hbo hba h8x h8o h8a hm=>?_
 have k8:Kp No w7 w8:=k8.drL
 simp only [dr_heap] at hbx hbo hba
 have b18:Bk w8 w.heap.size o.cells 39:=k8.bk b17 id
 have b28:Bk w8 w1.heap.size (zAns 0) 49:=k8.bk b27 id
 have b78:Bk w8 w4.heap.size (zAns 0) 49:=k8.bk b7 id
 simp only [SS,b18.hc (o:=0) (v:=I o.k) rfl]
 have hkk:1≤o.k∧o.k≤9:=by
  unfold validO at e1
  split at e1
  ·omega
  ·omega
 have k08:=k07.trans k8
 have s4:=k04.size
 rw [Rd_ok (hm.look keyI u143 u3i (zv142 w8) o.k false)]
 have cl:Cl w8 lab q k w4.heap.size bx bo ba o Kk:=⟨hK.no k08,h8x,h8o,h8a,b78,lz (by omega),lz (by omega),lz (by omega),lz (by omega)⟩
 have fin:∀ v w9 lab9,Dn w8 w9 lab lab9 q k w4.heap.size (doK Kk o).2.2 (doK Kk o).1 (doK Kk o).2.1 v→Nl v fun x26=>Ifm (!x26) (Ct Tryz.prog 40 #[v] w9 fun v28 w10=>onI v28 fun x28=>Sa 34 ⟨w1.heap.size,0,none⟩ (zAns x28).toArray w10 fun w11=>Rd Tryz.prog (Instr.loadAt 49 (.pointer (some ⟨w1.heap.size,0,none⟩))) w11 fun r0=>K r0 w11)
   (La 34 ⟨w4.heap.size,0,none⟩ w9 fun x30=>Sa 34 ⟨w1.heap.size,0,none⟩ x30 w9 fun w12=>Rd Tryz.prog (Instr.loadAt 49 (.pointer (some ⟨w1.heap.size,0,none⟩))) w12 fun r0=>K r0 w12):=by
  intro v w9 lab9 hd
  have kp9:Kp (fun x=>inK q (lab x)) w w9:=(k08.no _).step hd.kp fun i hi h=>by
   rcases h with h | h
   ·exact h
   ·omega
  have s8:=k08.size
  have st9:Stp w w9 lab lab9 q:=⟨kp9,fun x hx=>hd.old x (by omega),fun x hx hn=>by
   by_cases hx2:x<w8.heap.size
   ·rw [hd.old x hx2] at hn ⊢; have:=hK.bd x hn; omega
   ·exact hd.new x (by omega) hn⟩
  have l1:lab w1.heap.size=0:=lz (by omega)
  have s24:=k4.size
  have b29:Bk w9 w1.heap.size (zAns 0) 49:=hd.kp.bk b28 (by rw [l1]; unfold inK; omega)
  have l9:lab9 w1.heap.size=0:=by rw [hd.old _ b28.lt]; exact l1
  by_cases e2:(doK Kk o).1=0
  ·obtain ⟨rfl,cs,hb9,ha9⟩:=hd.ok e2
   simp only [SS,show ∀ k,La 34 ⟨w4.heap.size,0,none⟩ w9 k=k cs.toArray from fun k=>hb9.la0 ha9.len k]
   refine res_k (c:=zAns 0) (cs:=cs) (k:=fun r0 w5=>K r0 w5) ld49 b29 rfl ha9.len ha9.one fun w12 k12=>?_
   refine hR cs w12 lab9 ⟨st9.kp.own k12 (by omega),st9.old,st9.new⟩ ?_ ?_
   ·rw [show (applyK Kk o).2=(doK Kk o).2.2 by unfold applyK; rw [if_pos e1,if_pos e2]]
    exact hd.kr.kp k12 fun x hx e=>by rw [e,l9] at hx; unfold inK at hx; omega
   ·rw [show (applyK Kk o).1=(doK Kk o).2.1 by unfold applyK; rw [if_pos e1,if_pos e2]]
    have s18:w1.heap.size<w8.heap.size:=b28.lt
    exact (ha9.kp k12 fun x hx e=>by omega).base s8
  ·have hf:=hd.er e2
   have hnn:Nl v=fun k=>k false:=by
    rcases hf with ⟨h,_⟩ | ⟨_,f,op,a,rfl,_⟩
    ·exact absurd h e2
    ·rfl
   rw [hnn]
   simp only [SS]
   refine k40 e2 hf (hg.kp kp9 (by rw [hl0]; unfold inK; omega)) fun w10 k10=>?_
   simp only [SS]
   refine bad w10 lab9 _ (st9.tail k10) (k10.bk b29 id) l9 ?_ (by unfold applyK; rw [if_pos e1,if_neg e2])
   rw [show (applyK Kk o).2=(doK Kk o).2.2 by unfold applyK; rw [if_pos e1,if_neg e2]]
   exact hd.kr.no k10
 have ea:∀ (a b c:Value),(#[]++#[]++#[a,b,c]:Array Value)=#[a,b,c]:=fun a b c=>by simp
 have eb:∀ (a b:Value),(#[]++#[]++#[a,b]:Array Value)=#[a,b]:=fun a b=>by simp
 have h9:o.k=1∨o.k=2∨o.k=3∨o.k=4∨o.k=5∨o.k=6∨o.k=7∨o.k=8∨o.k=9:=by omega
 have g_:∀ x v,gC bx bo ba x=some v→(if false=true then Value.tuple #[(gC bx bo ba x).getD .nilFunc,.bool (gC bx bo ba x).isSome] else (gC bx bo ba x).getD .nilFunc)=v:=fun x v h=>by rw [h]; rfl
 rcases h9 with h | h | h | h | h | h | h | h | h
 ·rw [g_ o.k (.func (.func 88) #[] #[Pt bx 0,Pt bo 0,Pt ba 0]) (by rw [h]; rfl)]
  refine ⟨by kernel_rfl,?_⟩
  rw [ea]
  exact k88 cl h fin
 ·rw [g_ o.k (.func (.func 89) #[] #[Pt bx 0,Pt bo 0]) (by rw [h]; rfl)]
  refine ⟨by kernel_rfl,?_⟩
  rw [eb]
  exact k89 cl h fin
 ·rw [g_ o.k (.func (.func 91) #[] #[Pt bx 0,Pt bo 0]) (by rw [h]; rfl)]
  refine ⟨by kernel_rfl,?_⟩
  rw [eb]
  exact k91 cl h fin
 ·rw [g_ o.k (.func (.func 93) #[] #[Pt bx 0,Pt bo 0,Pt ba 0]) (by rw [h]; rfl)]
  refine ⟨by kernel_rfl,?_⟩
  rw [ea]
  exact k93 cl h fin
 ·rw [g_ o.k (.func (.func 94) #[] #[Pt bx 0,Pt bo 0]) (by rw [h]; rfl)]
  refine ⟨by kernel_rfl,?_⟩
  rw [eb]
  exact k94 cl h fin
 ·rw [g_ o.k (.func (.func 96) #[] #[Pt bx 0,Pt bo 0]) (by rw [h]; rfl)]
  refine ⟨by kernel_rfl,?_⟩
  rw [eb]
  exact k96 cl h fin
 ·rw [g_ o.k (.func (.func 100) #[] #[Pt bx 0,Pt bo 0]) (by rw [h]; rfl)]
  refine ⟨by kernel_rfl,?_⟩
  rw [eb]
  have hv:1≤o.n∧o.n≤4096:=by
   unfold validO at e1
   rw [if_neg (by omega)] at e1
   split at e1
   ·omega
   ·omega
  exact k100 cl h hv.1 hv.2 fin
 ·rw [g_ o.k (.func (.func 98) #[] #[Pt bx 0,Pt bo 0,Pt ba 0]) (by rw [h]; rfl)]
  refine ⟨by kernel_rfl,?_⟩
  rw [ea]
  exact k98 cl h fin
 ·rw [g_ o.k (.func (.func 99) #[] #[Pt bx 0,Pt bo 0,Pt ba 0]) (by rw [h]; rfl)]
  refine ⟨by kernel_rfl,?_⟩
  rw [ea]
  exact k99 cl h fin
end
section
open Sy
def F14 (R:Ko) (x0:Option Addr) (w:World):Prop:=Ifm x0.isNone (R (.pointer none) w) (onSome x0 fun x6=>Lc (x6.add 0) w fun v8=>onP v8 fun x8=>R (.pointer x8) w)
noncomputable def b14:Code:=Tryz.f14.body.getD .skip
theorem c14 {R:Ko} {x0:Option Addr} {w:World} (h:F14 R x0 w):Ct Tryz.prog 14 #[.pointer x0] w R :=
 ctS (args:=[.pointer x0]) (body:=b14) (n:=9) (rs:=[.tmp 2]) Tryz.func14
  (sg (cuts:=[]) trivial h)
def F52 (R:Ko) (x0:Option Addr) (w:World):Prop:=Ifm x0.isNone (R (.int .i64 0) w) (onSome x0 fun x6=>Lc (x6.add 1) w fun v8=>onI v8 fun x8=>R (.int .i64 x8) w)
noncomputable def b52:Code:=Tryz.f52.body.getD .skip
theorem c52 {R:Ko} {x0:Option Addr} {w:World} (h:F52 R x0 w):Ct Tryz.prog 52 #[.pointer x0] w R :=
 ctS (args:=[.pointer x0]) (body:=b52) (n:=9) (rs:=[.tmp 2]) Tryz.func52
  (sg (cuts:=[]) trivial h)
def F43 (R:Ko) (x0:Option Addr) (x1:ByteArray) (w:World):Prop:=Ifm (x1.toList == (⟨#[114,111,111,116]⟩:ByteArray).toList) (onSome x0 fun x11=>Lc (x11.add 0) w fun v13=>onP v13 fun x13=>Ct Tryz.prog 52 #[.pointer x13] w fun v14 w1=>onI v14 fun x14=>R (.int .i64 x14) w1) (Ifm (x1.toList == (⟨#[115,108,97,99,107]⟩:ByteArray).toList) (R (.int .i64 0) w) (onSome x0 fun x19=>Lc (x19.add 1) w fun v21=>onM v21 fun x21=>Rd Tryz.prog (Instr.lookup 130 (.map x21) (.string x1) true) w fun v23=>on2 v23 fun y23_0 y23_1=>onI y23_0 fun x23_0=>onB y23_1 fun x23_1=>Ifm x23_1 (R (.int .i64 x23_0) w) (R (.int .i64 (-1)) w)))
noncomputable def b43:Code:=Tryz.f43.body.getD .skip
theorem c43 {R:Ko} {x0:Option Addr} {x1:ByteArray} {w:World} (h:F43 R x0 x1 w):Ct Tryz.prog 43 #[.pointer x0,.string x1] w R :=
 ctS (args:=[.pointer x0,.string x1]) (body:=b43) (n:=28) (rs:=[.tmp 4]) Tryz.func43
  (sg (cuts:=[]) trivial h)
def F44 (R:Ko) (x0:Option Addr) (x1:ByteArray) (w:World):Prop:=onSome x0 fun x9=>Lc (x9.add 2) w fun v11=>onM v11 fun x11=>Rd Tryz.prog (Instr.lookup 130 (.map x11) (.string x1) true) w fun v13=>on2 v13 fun y13_0 y13_1=>onI y13_0 fun x13_0=>onB y13_1 fun x13_1=>Ifm x13_1 (R (.int .i64 x13_0) w) (R (.int .i64 (-1)) w)
noncomputable def b44:Code:=Tryz.f44.body.getD .skip
theorem c44 {R:Ko} {x0:Option Addr} {x1:ByteArray} {w:World} (h:F44 R x0 x1 w):Ct Tryz.prog 44 #[.pointer x0,.string x1] w R :=
 ctS (args:=[.pointer x0,.string x1]) (body:=b44) (n:=18) (rs:=[.tmp 4]) Tryz.func44
  (sg (cuts:=[]) trivial h)
def F15 (R:Ko) (x0:Option Addr) (x1:ByteArray) (w:World):Prop:=Ifm x0.isNone (R (.int .i64 (-1)) w) (Ct Tryz.prog 43 #[.pointer x0,.string x1] w fun v10 w1=>onI v10 fun x10=>Ifm ((x10:Int) != (-1)) (R (.int .i64 x10) w1) (Ct Tryz.prog 44 #[.pointer x0,.string x1] w1 fun v16 w2=>onI v16 fun x16=>R (.int .i64 x16) w2))
noncomputable def b15:Code:=Tryz.f15.body.getD .skip
theorem c15 {R:Ko} {x0:Option Addr} {x1:ByteArray} {w:World} (h:F15 R x0 x1 w):Ct Tryz.prog 15 #[.pointer x0,.string x1] w R :=
 ctS (args:=[.pointer x0,.string x1]) (body:=b15) (n:=17) (rs:=[.tmp 4]) Tryz.func15
  (sg (cuts:=[]) trivial h)
variable {K:Ko} {w w':World}
theorem u130:Tryz.prog.underlying 130=some (.map 9 33):=by kernel_rfl
theorem u9s:Tryz.prog.underlying 9=some .string:=by kernel_rfl
theorem zv33 (w:World):(zeroValue 33).run Tryz.prog w=.ok (I 0) w:=by kernel_rfl
abbrev sEq (a b:ByteArray):Bool:=a.toList == b.toList
def sRoot:ByteArray:=⟨#[114,111,111,116]⟩
def sSlack:ByteArray:=⟨#[115,108,97,99,107]⟩
def sDot:ByteArray:=⟨#[46]⟩
def sSlash:ByteArray:=⟨#[47]⟩
structure Wd where
 nd:ByteArray→Option Int
 tk:ByteArray→Option Int
abbrev hv (g:ByteArray→Option Int):ByteArray→Option Value:=fun s=>(g s).map fun x=>I x
def atD (D:Wd) (s:ByteArray):Int:=if sEq s sRoot=true then rootH else if sEq s sSlack=true then 0 else (D.nd s).getD (-1)
def taskD (D:Wd) (s:ByteArray):Int:=(D.tk s).getD (-1)
def handD (D:Wd) (s:ByteArray):Int:=if atD D s = -1 then taskD D s else atD D s
structure SW (w:World) (lab:Nat→Nat) (q x k m n:Nat) (Kk:Kn) (D:Wd):Prop where
 kr:KR w lab q k Kk
 hd:Bk w x [Pt k 0,.map (some m),.map (some n)] 132
 nd:Map w m .string Value.string (hv D.nd)
 tk:Map w n .string Value.string (hv D.tk)
 lx:lab x=0
 lm:lab m=0
 ln:lab n=0
 ne:m≠n
section
variable {lab:Nat→Nat} {q x k m n:Nat} {Kk:Kn} {D:Wd}
theorem SW.kp {S:Nat→Prop} (h:SW w lab q x k m n Kk D) (kp:Kp S w w') (hs:∀ y,inK q (lab y)∨y=x∨y=m∨y=n→¬ S y):SW w' lab q x k m n Kk D :=
 ⟨h.kr.kp kp fun y hy=>hs y (.inl hy),kp.bk h.hd (hs x (.inr (.inl rfl))),h.nd.kp kp (hs m (.inr (.inr (.inl rfl)))),h.tk.kp kp (hs n (.inr (.inr (.inr rfl)))),h.lx,h.lm,h.ln,h.ne⟩
theorem SW.no (h:SW w lab q x k m n Kk D) (kp:Kp No w w'):SW w' lab q x k m n Kk D:=h.kp kp fun _ _=>id
theorem SW.bd (h:SW w lab q x k m n Kk D):∀ x,lab x≠0→x<w.heap.size:=h.kr.bd
theorem map_lk {g:ByteArray→Option Int} {m:Nat} (h:Map w m .string Value.string (hv g)) (s:ByteArray) (k:Value→Prop):Rd Tryz.prog (Instr.lookup 130 (.map (some m)) (.string s) true) w k=k (.tuple #[I ((g s).getD 0),.bool (g s).isSome]):=by
 rw [Rd_ok (h.look keyS u130 u9s (zv33 w) s true) k,if_pos rfl]
 cases e:g s with
 | none=>simp [hv,e]
 | some v=>simp [hv,e]
theorem k14 (h:SW w lab q x k m n Kk D) (hR:K (Pt k 0) w):Ct Tryz.prog 14 #[Pt x 0] w K:=by
 refine c14 ?_
 unfold F14
 simp only [SS,h.hd.rd (o:=0) (v:=Pt k 0) rfl]
 exact hR
theorem k52 (h:KR w lab q k Kk) (hR:K (I rootH) w):Ct Tryz.prog 52 #[Pt k 0] w K:=by
 refine c52 ?_
 unfold F52
 obtain ⟨t,L,bk,mm,p,nb,lf,hw⟩:=h
 simp only [SS,hw.kh.rd (o:=1) (v:=I rootH) rfl]
 exact hR
theorem k43 {s:ByteArray} (h:SW w lab q x k m n Kk D) (hR:K (I (atD D s)) w):Ct Tryz.prog 43 #[Pt x 0,.string s] w K:=by
 refine c43 ?_
 unfold F43
 unfold atD at hR
 simp only [show (s.toList == (⟨#[114,111,111,116]⟩:ByteArray).toList)=sEq s sRoot from rfl,show (s.toList == (⟨#[115,108,97,99,107]⟩:ByteArray).toList)=sEq s sSlack from rfl]
 cases e1:sEq s sRoot with
 | true =>
  rw [if_pos e1] at hR
  simp only [SS,h.hd.rd (o:=0) (v:=Pt k 0) rfl]
  refine k52 h.kr ?_
  exact hR
 | false =>
  rw [if_neg (by rw [e1]; decide)] at hR
  cases e2:sEq s sSlack with
  | true =>
   rw [if_pos e2] at hR
   simp only [SS]
   exact hR
  | false =>
   rw [if_neg (by rw [e2]; decide)] at hR
   simp only [SS,h.hd.rd (o:=1) (v:=.map (some m)) rfl,map_lk h.nd]
   cases e3:D.nd s with
   | none=>rw [e3] at hR; exact hR
   | some v=>rw [e3] at hR; exact hR
theorem k44 {s:ByteArray} (h:SW w lab q x k m n Kk D) (hR:K (I (taskD D s)) w):Ct Tryz.prog 44 #[Pt x 0,.string s] w K:=by
 refine c44 ?_
 unfold F44
 unfold taskD at hR
 simp only [SS,h.hd.rd (o:=2) (v:=.map (some n)) rfl,map_lk h.tk]
 cases e3:D.tk s with
 | none=>rw [e3] at hR; exact hR
 | some v=>rw [e3] at hR; exact hR
theorem k15 {s:ByteArray} (h:SW w lab q x k m n Kk D) (hR:K (I (handD D s)) w):Ct Tryz.prog 15 #[Pt x 0,.string s] w K:=by
 refine c15 ?_
 unfold F15
 unfold handD at hR
 simp only [SS]
 refine k43 h ?_
 simp only [SS]
 by_cases e:atD D s = -1
 ·rw [if_pos e] at hR ⊢
  refine k44 h ?_
  exact hR
 ·rw [if_neg e] at hR ⊢
  exact hR
end
end
section
open Sy
def F35_0 (R:Ko) (x0:Option Addr) (x3:Addr) (x4:Addr) (x5:Addr) (w:World):Prop:=Lc (x3.add 2) w fun v42=>onS v42 fun x42=>Rd Tryz.prog (Bin .add 9 (.tmp 42) (.const (.string (⟨#[46]⟩))) (.string x42) (.string (⟨#[46]⟩))) w fun v43=>onS v43 fun x43=>Lc (x3.add 3) w fun v45=>onS v45 fun x45=>Rd Tryz.prog (Bin .add 9 (.tmp 43) (.tmp 45) (.string x43) (.string x45)) w fun v46=>onS v46 fun x46=>Ct Tryz.prog 44 #[.pointer x0,.string x46] w fun v47 w9=>onI v47 fun x47=>Sc (x5.add 2) (.int .i64 x47) w9 fun w10=>La 10 x5 w10 fun x49=>Ct Tryz.prog 83 #[.agg x49] w10 fun v50 w11=>onG v50 fun x50=>Sa 10 x4 x50 w11 fun w12=>Rd Tryz.prog (Instr.loadAt 39 (.pointer (some x4))) w12 fun r0=>R r0 w12
def F35_1 (R:Ko) (x3:Addr) (x4:Addr) (x5:Addr) (w:World):Prop:=Lc (x3.add 10) w.drew fun v34=>onI v34 fun x34=>Sc (x5.add 1) (.int .i64 0) w.drew fun w16=>Hc (x3.add 10) (.int .i64 x34) w16∧Sc (x5.add 9) (.int .i64 x34) w16 fun w17=>La 10 x5 w17 fun x49=>Ct Tryz.prog 83 #[.agg x49] w17 fun v50 w18=>onG v50 fun x50=>Sa 10 x4 x50 w18 fun w19=>Rd Tryz.prog (Instr.loadAt 39 (.pointer (some x4))) w19 fun r0=>R r0 w19
def F35_2 (R:Ko) (x3:Addr) (x4:Addr) (x5:Addr) (w:World):Prop:=Lc (x3.add 10) w fun v31=>onI v31 fun x31=>Sc (x5.add 9) (.int .i64 x31) w fun w13=>La 10 x5 w13 fun x49=>Ct Tryz.prog 83 #[.agg x49] w13 fun v50 w14=>onG v50 fun x50=>Sa 10 x4 x50 w14 fun w15=>Rd Tryz.prog (Instr.loadAt 39 (.pointer (some x4))) w15 fun r0=>R r0 w15
def F35_4 (R:Ko) (x0:Option Addr) (x3:Addr) (x4:Addr) (x5:Addr) (x14:Int) (x24:Bool) (w:World):Prop:=Ifm x24 (Ifm x24 (F35_0 R x0 x3 x4 x5 w) (La 10 x5 w fun x49=>Ct Tryz.prog 83 #[.agg x49] w fun v50 w20=>onG v50 fun x50=>Sa 10 x4 x50 w20 fun w21=>Rd Tryz.prog (Instr.loadAt 39 (.pointer (some x4))) w21 fun r0=>R r0 w21)) (Ifm ((x14:Int) == 9) (F35_0 R x0 x3 x4 x5 w) (La 10 x5 w fun x49=>Ct Tryz.prog 83 #[.agg x49] w fun v50 w22=>onG v50 fun x50=>Sa 10 x4 x50 w22 fun w23=>Rd Tryz.prog (Instr.loadAt 39 (.pointer (some x4))) w23 fun r0=>R r0 w23))
def F35_3 (R:Ko) (x0:Option Addr) (x3:Addr) (x4:Addr) (x5:Addr) (x14:Int) (x15:Bool) (w:World):Prop:=Ifm x15 (La 2 (x3.add 4) w fun x28=>Sa 2 (x5.add 3) x28 w fun w24=>La 10 x5 w24 fun x49=>Ct Tryz.prog 83 #[.agg x49] w24 fun v50 w25=>onG v50 fun x50=>Sa 10 x4 x50 w25 fun w26=>Rd Tryz.prog (Instr.loadAt 39 (.pointer (some x4))) w26 fun r0=>R r0 w26) (Ifm ((x14:Int) == 4) (F35_2 R x3 x4 x5 w) (Ifm ((x14:Int) == 7) (F35_1 R x3 x4 x5 w) (Ifm ((x14:Int) == 6) (La 4 (x3.add 6) w fun x38=>Sa 4 (x5.add 5) x38 w fun w27=>F35_0 R x0 x3 x4 x5 w27) (F35_4 R x0 x3 x4 x5 x14 ((x14:Int) == 5) w))))
def F35 (R:Ko) (x0:Option Addr) (x1:Array Value) (w:World):Prop:=New (.cells (.agg x1:Value).cells 53) w fun x3 w1=>New (.cells (.agg #[.int .i64 0,.int .i64 0,.int .i64 0,.int .i64 0,.int .i64 0,.int .i64 0,.int .i64 0,.int .i64 0,.int .i64 0,.int .i64 0]:Value).cells 39) w1 fun x4 w2=>Lc (x3.add 1) w2.drew fun v7=>onI v7 fun x7=>Lc (x3.add 2) w2.drew fun v10=>onS v10 fun x10=>(Ct Tryz.prog 43 #[.pointer x0,.string x10] w2.drew fun v11 w3=>onI v11 fun x11=>Hc (x3.add 1) (.int .i64 x7) w3∧New (.cells (.agg #[.int .i64 0,.int .i64 0,.int .i64 0,.int .i64 0,.int .i64 0,.int .i64 0,.int .i64 0,.int .i64 0,.int .i64 0,.int .i64 0]:Value).cells 39) w3 fun x5 w4=>Hc (x3.add 1) (.int .i64 x7) w4∧Sa 10 x5 (#[.int .i64 x7,.int .i64 x11,.int .i64 0,.int .i64 0,.int .i64 0,.int .i64 0,.int .i64 0,.int .i64 0,.int .i64 0,.int .i64 0]) w4 fun w5=>Lc (x3.add 1) w5 fun v14=>onI v14 fun x14=>Ifm ((x14:Int) == 1) (F35_3 R x0 x3 x4 x5 x14 ((x14:Int) == 1) w5) (F35_3 R x0 x3 x4 x5 x14 ((x14:Int) == 2) w5))∧(New (.cells (.agg #[.int .i64 0,.int .i64 0,.int .i64 0,.int .i64 0,.int .i64 0,.int .i64 0,.int .i64 0,.int .i64 0,.int .i64 0,.int .i64 0]:Value).cells 39) w2.drew fun x5 w6=>Hc (x3.add 2) (.string x10) w6∧Hc (x3.add 1) (.int .i64 x7) w6∧Ct Tryz.prog 43 #[.pointer x0,.string x10] w6 fun v11 w7=>onI v11 fun x11=>Hc (x3.add 1) (.int .i64 x7) w7∧Sa 10 x5 (#[.int .i64 x7,.int .i64 x11,.int .i64 0,.int .i64 0,.int .i64 0,.int .i64 0,.int .i64 0,.int .i64 0,.int .i64 0,.int .i64 0]) w7 fun w8=>Lc (x3.add 1) w8 fun v14=>onI v14 fun x14=>Ifm ((x14:Int) == 1) (F35_3 R x0 x3 x4 x5 x14 ((x14:Int) == 1) w8) (F35_3 R x0 x3 x4 x5 x14 ((x14:Int) == 2) w8))
noncomputable def b35:Code:=Tryz.f35.body.getD .skip
def q35_0:List Bool:=[false,true,false,true,false,true,true]
def L35_0 (F:Option Addr→Addr→Addr→Addr→World→Prop):Env→World→Prop:=fun ρ w=>onP (ρ 0) fun x0=>onA (ρ 3) fun x3=>onA (ρ 4) fun x4=>onA (ρ 5) fun x5=>F x0 x3 x4 x5 w
def q35_1:List Bool:=[false,true,false,false,false,false,false,true,false,true,true]
def L35_1 (F:Addr→Addr→Addr→World→Prop):Env→World→Prop:=fun ρ w=>onA (ρ 3) fun x3=>onA (ρ 4) fun x4=>onA (ρ 5) fun x5=>F x3 x4 x5 w
def q35_2:List Bool:=[false,true,false,false,false,false,false,false,false,true,false,true,true]
def L35_2 (F:Addr→Addr→Addr→World→Prop):Env→World→Prop:=fun ρ w=>onA (ρ 3) fun x3=>onA (ρ 4) fun x4=>onA (ρ 5) fun x5=>F x3 x4 x5 w
def q35_4:List Bool:=[true,false,true,true,true,true,false,false,false,false,false,false,false,false,false,false,false,false,true,false,true,true]
def L35_4 (F:Option Addr→Addr→Addr→Addr→Int→Bool→World→Prop):Env→World→Prop:=fun ρ w=>onP (ρ 0) fun x0=>onA (ρ 3) fun x3=>onA (ρ 4) fun x4=>onA (ρ 5) fun x5=>onI (ρ 14) fun x14=>onB (ρ 24) fun x24=>F x0 x3 x4 x5 x14 x24 w
def q35_3:List Bool:=[true,false,false,false,false,false,false,false,false,false,false,false,false,false,true,false,true,true]
def L35_3 (F:Option Addr→Addr→Addr→Addr→Int→Bool→World→Prop):Env→World→Prop:=fun ρ w=>onP (ρ 0) fun x0=>onA (ρ 3) fun x3=>onA (ρ 4) fun x4=>onA (ρ 5) fun x5=>onI (ρ 14) fun x14=>onB (ρ 15) fun x15=>F x0 x3 x4 x5 x14 x15 w
abbrev T35 (z:Fr) (R:Ko) (p:List Bool) (ρ:Env) (w:World):Prop:=TW z Tryz.prog 51 (segTodo b35 p) (QR Tryz.prog [.cell 4 39] R) ρ w
theorem s35_0 (R:Ko):∀ ρ w,(L35_0 (F35_0 R)) ρ w→T35 z0 R q35_0 ρ w:=by
 intro ρ w h
 obtain ⟨x0,e0,h⟩:=onP_of h
 obtain ⟨x3,e3,h⟩:=onA_of h
 obtain ⟨x4,e4,h⟩:=onA_of h
 obtain ⟨x5,e5,h⟩:=onA_of h
 rw [← upds_same (ρ:=ρ) [(0,.pointer x0),(3,.pointer (some x3)),(4,.pointer (some x4)),(5,.pointer (some x5))] (alc e0 (alc e3 (alc e4 (alc e5 aln))))]
 exact sg (cuts:=[]) trivial h
theorem s35_1 (R:Ko):∀ ρ w,(L35_1 (F35_1 R)) ρ w→T35 z0 R q35_1 ρ w:=by
 intro ρ w h
 obtain ⟨x3,e3,h⟩:=onA_of h
 obtain ⟨x4,e4,h⟩:=onA_of h
 obtain ⟨x5,e5,h⟩:=onA_of h
 rw [← upds_same (ρ:=ρ) [(3,.pointer (some x3)),(4,.pointer (some x4)),(5,.pointer (some x5))] (alc e3 (alc e4 (alc e5 aln)))]
 exact sg (cuts:=[]) trivial h
theorem s35_2 (R:Ko):∀ ρ w,(L35_2 (F35_2 R)) ρ w→T35 z0 R q35_2 ρ w:=by
 intro ρ w h
 obtain ⟨x3,e3,h⟩:=onA_of h
 obtain ⟨x4,e4,h⟩:=onA_of h
 obtain ⟨x5,e5,h⟩:=onA_of h
 rw [← upds_same (ρ:=ρ) [(3,.pointer (some x3)),(4,.pointer (some x4)),(5,.pointer (some x5))] (alc e3 (alc e4 (alc e5 aln)))]
 exact sg (cuts:=[]) trivial h
theorem s35_4 (R:Ko):∀ ρ w,(L35_4 (F35_4 R)) ρ w→T35 z0 R q35_4 ρ w:=by
 intro ρ w h
 obtain ⟨x0,e0,h⟩:=onP_of h
 obtain ⟨x3,e3,h⟩:=onA_of h
 obtain ⟨x4,e4,h⟩:=onA_of h
 obtain ⟨x5,e5,h⟩:=onA_of h
 obtain ⟨x14,e14,h⟩:=onI_of h
 obtain ⟨x24,e24,h⟩:=onB_of h
 rw [← upds_same (ρ:=ρ) [(0,.pointer x0),(3,.pointer (some x3)),(4,.pointer (some x4)),(5,.pointer (some x5)),(14,.int .i64 x14),(24,.bool x24)] (alc e0 (alc e3 (alc e4 (alc e5 (alc e14 (alc e24 aln))))))]
 exact sg (cuts:=[(q35_0,L35_0 (F35_0 R))]) ⟨s35_0 R,trivial⟩ h
theorem s35_3 (R:Ko):∀ ρ w,(L35_3 (F35_3 R)) ρ w→T35 z0 R q35_3 ρ w:=by
 intro ρ w h
 obtain ⟨x0,e0,h⟩:=onP_of h
 obtain ⟨x3,e3,h⟩:=onA_of h
 obtain ⟨x4,e4,h⟩:=onA_of h
 obtain ⟨x5,e5,h⟩:=onA_of h
 obtain ⟨x14,e14,h⟩:=onI_of h
 obtain ⟨x15,e15,h⟩:=onB_of h
 rw [← upds_same (ρ:=ρ) [(0,.pointer x0),(3,.pointer (some x3)),(4,.pointer (some x4)),(5,.pointer (some x5)),(14,.int .i64 x14),(15,.bool x15)] (alc e0 (alc e3 (alc e4 (alc e5 (alc e14 (alc e15 aln))))))]
 exact sg (cuts:=[(q35_0,L35_0 (F35_0 R)),(q35_1,L35_1 (F35_1 R)),(q35_2,L35_2 (F35_2 R)),(q35_4,L35_4 (F35_4 R))]) ⟨s35_0 R,s35_1 R,s35_2 R,s35_4 R,trivial⟩ h
theorem c35 {R:Ko} {x0:Option Addr} {x1:Array Value} {w:World} (h:F35 R x0 x1 w):Ct Tryz.prog 35 #[.pointer x0,.agg x1] w R :=
 ctS (args:=[.pointer x0,.agg x1]) (body:=b35) (n:=51) (rs:=[.cell 4 39]) Tryz.func35
  (sg (cuts:=[(q35_3,L35_3 (F35_3 R))]) ⟨s35_3 R,trivial⟩ h)
variable {K:Ko} {w w':World}
structure StV where
 no:Int
 k:Int
 at_:ByteArray
 nm:ByteArray
 q:Int
 p:Int
 jl:Int
 jc:Int
 ja:Int
 jd:Int
 n:Int
def StV.cells (s:StV):List Value:=[I s.no,I s.k,.string s.at_,.string s.nm,I s.q,I s.p,I s.jl,I s.jc,I s.ja,I s.jd,I s.n]
theorem StV.one (o:StV):∀ v∈o.cells,oneCell v=true:=by simp [StV.cells,oneCell]
def StV.full (s:StV):ByteArray:=s.at_++sDot++s.nm
def StV.ok (s:StV):Prop:=s.at_.size+s.nm.size<9223372036854775000
theorem cat_c {a b:ByteArray} (h:a.size+b.size≤9223372036854775807) (x y:Operand) (w:World) (k:Value→Prop):Rd Tryz.prog (Bin .add 9 x y (.string a) (.string b)) w k=k (.string (a++b)):=by
 refine Rd_ok ?_ k
 simp [Bin,eqGuard,binOp_string_add,run_string_add_sum w a b h]
theorem size_app (a b:ByteArray):(a++b).size=a.size+b.size:=by simp
def rawD (D:Wd) (s:StV):OpV :=
 if s.k=1∨s.k=2 then { zO with k:=s.k,a:=atD D s.at_,q:=s.q,p:=s.p }
 else if s.k=4 then { zO with k:=s.k,a:=atD D s.at_,n:=s.n }
 else if s.k=7 then { zO with k:=s.k,n:=s.n }
 else if s.k=6 then { zO with k:=s.k,a:=atD D s.at_,t:=taskD D s.full,jl:=s.jl,jc:=s.jc,ja:=s.ja,jd:=s.jd }
 else if s.k=5∨s.k=9 then { zO with k:=s.k,a:=atD D s.at_,t:=taskD D s.full }
 else { zO with k:=s.k,a:=atD D s.at_ }
def opD (D:Wd) (s:StV):OpV:=cleanO (rawD D s)
section
variable {lab:Nat→Nat} {q x k m n:Nat} {Kk:Kn} {D:Wd} {s:StV}
theorem ld39':loadKind Tryz.prog 39=some (some 10):=by kernel_rfl
theorem st_la2 {b:Nat} (hb:Bk w b s.cells 53) (k:Array Value→Prop):La 2 ⟨b,4,none⟩ w k=k #[I s.q,I s.p]:=by rw [hb.la (by simp [StV.cells])]; rfl
theorem st_la4 {b:Nat} (hb:Bk w b s.cells 53) (k:Array Value→Prop):La 4 ⟨b,6,none⟩ w k=k #[I s.jl,I s.jc,I s.ja,I s.jd]:=by rw [hb.la (by simp [StV.cells])]; rfl
theorem f35 {w0 w5:World} {b4 b5:Nat} {c:OpV} (kp:Kp No w0 w5) (h5:Bk w5 b5 c.cells 39) (h4:Bk w5 b4 zO.cells 39) (hx:w0.heap.size≤b4) (hR:∀ w',Kp No w0 w'→K (.agg (cleanO c).cells.toArray) w') :
  La 10 ⟨b5,0,none⟩ w5 fun x49=>Ct Tryz.prog 83 #[.agg x49] w5 fun v50 w14=>onG v50 fun x50=>Sa 10 ⟨b4,0,none⟩ x50 w14 fun w15=>Rd Tryz.prog (Instr.loadAt 39 (.pointer (some ⟨b4,0,none⟩))) w15 fun r0=>K r0 w15:=by
 rw [h5.la0 c.len]
 refine k83 fun w6 k6=>?_
 simp only [SS]
 exact res_k (c:=zO.cells) (cs:=(cleanO c).cells) (k:=fun r0 w5=>K r0 w5) ld39 (k6.bk h4 id) rfl rfl (OpV.one _) fun w7 k7=>hR w7 ((kp.trans k6).own k7 hx)
set_option maxHeartbeats 2000000 in
theorem k35 (h:SW w lab q x k m n Kk D) (hs:s.ok) (hR:∀ w',Kp No w w'→K (.agg (opD D s).cells.toArray) w'):Ct Tryz.prog 35 #[Pt x 0,.agg s.cells.toArray] w K:=by
 refine c35 ?_
 unfold F35
 refine new_k s.cells fun w1 k1 b1 s1=>?_
 refine new_k zO.cells fun w2 k2 b2 s2=>?_
 have b12:Bk w2 w.heap.size s.cells 53:=k2.bk b1 id
 have k02:=k1.trans k2
 simp only [SS,b12.rd (o:=1) (v:=I s.k) rfl,b12.rd (o:=2) (v:=.string s.at_) rfl]
 have rest:∀ w4 d,Kp No w w4→Bk w4 w.heap.size s.cells 53→Bk w4 w1.heap.size zO.cells 39→∀ b5,w2.heap.size≤b5→Bk w4 b5 ({ zO with k:=s.k,a:=atD D s.at_ }:OpV).cells 39 →
   Lc ⟨w.heap.size,1,none⟩ (dr w4 d) fun v14=>onI v14 fun x14=>if x14=1 then (F35_3 K (some ⟨x,0,none⟩) ⟨w.heap.size,0,none⟩ ⟨w1.heap.size,0,none⟩ ⟨b5,0,none⟩ x14 ((x14:Int) == 1) (dr w4 d)) else (F35_3 K (some ⟨x,0,none⟩) ⟨w.heap.size,0,none⟩ ⟨w1.heap.size,0,none⟩ ⟨b5,0,none⟩ x14 ((x14:Int) == 2) (dr w4 d)):=by
  intro w4' d k4' b4' z4' b5 h5 c4'
  obtain ⟨w4,hw4⟩:∃ y,y=dr w4' d:=⟨_,rfl⟩
  have k4:Kp No w w4:=by rw [hw4]; exact k4'.drR d
  have b4:Bk w4 w.heap.size s.cells 53:=by rw [hw4]; exact b4'
  have z4:Bk w4 w1.heap.size zO.cells 39:=by rw [hw4]; exact z4'
  have c4:Bk w4 b5 ({ zO with k:=s.k,a:=atD D s.at_ }:OpV).cells 39:=by rw [hw4]; exact c4'
  rw [← hw4]
  have hx:w.heap.size≤w1.heap.size:=by omega
  have setA:∀ {kk:World→Prop} {off:Nat} {cs:List Value} {c c':OpV} {n:Nat} {w5:World},Kp No w w5→Bk w5 b5 c.cells 39→Bk w5 w1.heap.size zO.cells 39→Bk w5 w.heap.size s.cells 53→cs.length=n→off+n≤10→(∀ v∈cs,oneCell v=true)→over c.cells off cs=c'.cells →
    (∀ w6,Kp No w w6→Bk w6 b5 c'.cells 39→Bk w6 w1.heap.size zO.cells 39→Bk w6 w.heap.size s.cells 53→kk w6)→Sa n ⟨b5,off,none⟩ cs.toArray w5 kk:=by
   intro kk off cs c c' n w5 k5 hb hb2 hb1 hn ho h1 he hk
   refine sa_k hb hn (by simp [OpV.cells]; omega) h1 fun w6 k6 b6 s6=>?_
   rw [he] at b6
   exact hk w6 (k5.own k6 (by omega)) b6 (k6.bk hb2 (by omega)) (k6.bk hb1 (by omega))
  have set1:∀ {kk:World→Prop} {off:Nat} {v:Value} {c c':OpV} {w5:World},Kp No w w5→Bk w5 b5 c.cells 39→Bk w5 w1.heap.size zO.cells 39→Bk w5 w.heap.size s.cells 53→off<10→oneCell v=true→c.cells.set off v=c'.cells →
    (∀ w6,Kp No w w6→Bk w6 b5 c'.cells 39→Bk w6 w1.heap.size zO.cells 39→Bk w6 w.heap.size s.cells 53→kk w6)→Sc ⟨b5,off,none⟩ v w5 kk:=by
   intro kk off v c c' w5 k5 hb hb2 hb1 ho h1 he hk
   refine sc_k hb (by simp [OpV.cells]; omega) h1 fun w6 k6 b6 s6=>?_
   rw [he] at b6
   exact hk w6 (k5.own k6 (by omega)) b6 (k6.bk hb2 (by omega)) (k6.bk hb1 (by omega))
  have f0:∀ {w5:World} {c c':OpV},Kp No w w5→Bk w5 b5 c.cells 39→Bk w5 w1.heap.size zO.cells 39→Bk w5 w.heap.size s.cells 53→c.cells.set 2 (I (taskD D s.full))=c'.cells→opD D s=cleanO c' →
    F35_0 K (some ⟨x,0,none⟩) ⟨w.heap.size,0,none⟩ ⟨w1.heap.size,0,none⟩ ⟨b5,0,none⟩ w5:=by
   intro w5 c c' k5 hb hb2 hb1 he ho
   unfold F35_0
   unfold StV.ok at hs
   simp only [SS,hb1.rd (o:=2) (v:=.string s.at_) rfl,hb1.rd (o:=3) (v:=.string s.nm) rfl]
   rw [cat_c (by show _+1≤_; omega)]
   simp only [SS]
   rw [cat_c (by rw [size_app]; show _+1+_≤_; omega)]
   simp only [SS]
   refine k44 (h.no k5) ?_
   simp only [SS]
   refine set1 k5 hb hb2 hb1 (by omega) rfl he fun w6 k6 c6 z6 _=>?_
   exact f35 k6 c6 z6 hx fun w7 k7=>by rw [← ho]; exact hR w7 k7
  rw [b4.rd (o:=1) (v:=I s.k) rfl]
  simp only [onI_eq]
  have fin:∀ {w5:World} {c:OpV},Kp No w w5→Bk w5 b5 c.cells 39→Bk w5 w1.heap.size zO.cells 39→opD D s=cleanO c→La 10 ⟨b5,0,none⟩ w5 fun x49=>Ct Tryz.prog 83 #[.agg x49] w5 fun v50 w14=>onG v50 fun x50=>Sa 10 ⟨w1.heap.size,0,none⟩ x50 w14 fun w15=>Rd Tryz.prog (Instr.loadAt 39 (.pointer (some ⟨w1.heap.size,0,none⟩))) w15 fun r0=>K r0 w15 :=
   fun k5 hb hb2 ho=>f35 k5 hb hb2 hx fun w7 k7=>by rw [← ho]; exact hR w7 k7
  have e12:∀ b:Bool,(b=true→s.k=1∨s.k=2)→(b=false→s.k≠1∧s.k≠2)→F35_3 K (some ⟨x,0,none⟩) ⟨w.heap.size,0,none⟩ ⟨w1.heap.size,0,none⟩ ⟨b5,0,none⟩ s.k b w4:=by
   intro b hb1 hb2
   unfold F35_3
   cases b with
   | true =>
    simp only [SS,st_la2 b4]
    refine setA (c':={ zO with k:=s.k,a:=atD D s.at_,q:=s.q,p:=s.p }) k4 c4 z4 b4 rfl (by omega) (by simp [oneCell]) rfl fun w6 k6 c6 z6 _=>?_
    refine fin k6 c6 z6 ?_
    unfold opD rawD
    rw [if_pos (hb1 rfl)]
   | false =>
    obtain ⟨n1,n2⟩:=hb2 rfl
    have hraw:rawD D s=if s.k=4 then { zO with k:=s.k,a:=atD D s.at_,n:=s.n }
     else if s.k=7 then { zO with k:=s.k,n:=s.n }
     else if s.k=6 then { zO with k:=s.k,a:=atD D s.at_,t:=taskD D s.full,jl:=s.jl,jc:=s.jc,ja:=s.ja,jd:=s.jd }
     else if s.k=5∨s.k=9 then { zO with k:=s.k,a:=atD D s.at_,t:=taskD D s.full }
     else { zO with k:=s.k,a:=atD D s.at_ }:=by unfold rawD; rw [if_neg (by omega)]
    simp only [SS]
    by_cases e4:s.k=4
    ·rw [if_pos e4]
     unfold F35_2
     simp only [SS,b4.rd (o:=10) (v:=I s.n) rfl]
     refine set1 (c':={ zO with k:=s.k,a:=atD D s.at_,n:=s.n }) k4 c4 z4 b4 (by omega) rfl rfl fun w6 k6 c6 z6 _=>?_
     exact fin k6 c6 z6 (by unfold opD; rw [hraw,if_pos e4])
    rw [if_neg e4]
    rw [if_neg e4] at hraw
    by_cases e7:s.k=7
    ·rw [if_pos e7]
     unfold F35_1
     simp only [SS,b4.rd (o:=10) (v:=I s.n) rfl]
     refine set1 (c':={ zO with k:=s.k }) k4 c4 z4 b4 (by omega) rfl rfl fun w6 k6 c6 z6 b6=>?_
     simp only [SS,b6.hc (o:=10) (v:=I s.n) rfl]
     refine set1 (c':={ zO with k:=s.k,n:=s.n }) k6 c6 z6 b6 (by omega) rfl rfl fun w7 k7 c7 z7 _=>?_
     obtain ⟨w8,hw8⟩:∃ y,y=dr w7 (w4.drawn+1):=⟨_,rfl⟩
     have:=fin (w5:=w8) (c:={ zO with k:=s.k,n:=s.n }) (by rw [hw8]; exact k7.drR _) (by rw [hw8]; exact c7) (by rw [hw8]; exact z7) (by unfold opD; rw [hraw,if_pos e7])
     rw [hw8] at this
     simp only [SS] at this
     exact this
    rw [if_neg e7]
    rw [if_neg e7] at hraw
    by_cases e6:s.k=6
    ·rw [if_pos e6]
     rw [if_pos e6] at hraw
     simp only [st_la4 b4]
     refine setA (c':={ zO with k:=s.k,a:=atD D s.at_,jl:=s.jl,jc:=s.jc,ja:=s.ja,jd:=s.jd }) k4 c4 z4 b4 rfl (by omega) (by simp [oneCell]) rfl fun w6 k6 c6 z6 b6=>?_
     exact f0 k6 c6 z6 b6 (c':={ zO with k:=s.k,a:=atD D s.at_,t:=taskD D s.full,jl:=s.jl,jc:=s.jc,ja:=s.ja,jd:=s.jd }) rfl (by unfold opD; rw [hraw])
    rw [if_neg e6]
    rw [if_neg e6] at hraw
    unfold F35_4
    have ft:=fun (e:s.k=5∨s.k=9)=>f0 k4 c4 z4 b4 (c':={ zO with k:=s.k,a:=atD D s.at_,t:=taskD D s.full }) rfl (by unfold opD; rw [hraw,if_pos e])
    by_cases e5:s.k=5
    ·rw [show ((s.k:Int) == 5)=true by simpa using e5]
     exact ft (.inl e5)
    ·rw [show ((s.k:Int) == 5)=false by simpa using e5]
     simp only [SS]
     by_cases e9:s.k=9
     ·rw [if_pos e9]; exact ft (.inr e9)
     ·rw [if_neg e9]
      exact fin k4 c4 z4 (by unfold opD; rw [hraw,if_neg (by omega)])
  by_cases e1:s.k=1
  ·rw [if_pos e1,show ((s.k:Int) == 1)=true by simpa using e1]
   exact e12 true (fun _=>.inl e1) (fun h=>by cases h)
  ·rw [if_neg e1]
   exact e12 _ (fun h=>.inr (by simpa using h)) (fun h=>⟨e1,by simpa using h⟩)
 refine ⟨?_,?_⟩
 ·refine k43 ((h.no k02).no (Kp.dr No w2 _)) ?_
  simp only [SS,b12.hc (o:=1) (v:=I s.k) rfl]
  refine new_k zO.cells fun w3 k3 b3 s3=>?_
  have k3:=k3.drL
  simp only [dr_heap] at b3
  have b13:Bk w3 w.heap.size s.cells 53:=k3.bk b12 id
  have b23:Bk w3 w1.heap.size zO.cells 39:=k3.bk b2 id
  simp only [SS,b13.hc (o:=1) (v:=I s.k) rfl]
  refine sa_k (cs:=({ zO with k:=s.k,a:=atD D s.at_ }:OpV).cells) b3 rfl (by decide) (OpV.one _) fun w4 k4 b4 s4=>?_
  rw [over_all _ _ (by rfl)] at b4
  have:=rest w4 w4.drawn ((k02.trans k3).own k4 (by omega)) (k4.bk b13 (by omega)) (k4.bk b23 (by omega)) _ (Nat.le_refl _) b4
  rw [dr_self] at this
  exact this
 ·refine new_k zO.cells fun w3 k3 b3 s3=>?_
  have k3:=k3.drL
  simp only [dr_heap] at b3
  have b13:Bk w3 w.heap.size s.cells 53:=k3.bk b12 id
  have b23:Bk w3 w1.heap.size zO.cells 39:=k3.bk b2 id
  simp only [SS,b13.hc (o:=1) (v:=I s.k) rfl,b13.hc (o:=2) (v:=.string s.at_) rfl]
  refine k43 (h.no (k02.trans k3)) ?_
  simp only [SS,b13.hc (o:=1) (v:=I s.k) rfl]
  refine sa_k (cs:=({ zO with k:=s.k,a:=atD D s.at_ }:OpV).cells) b3 rfl (by decide) (OpV.one _) fun w4 k4 b4 s4=>?_
  rw [over_all _ _ (by rfl)] at b4
  have:=rest w4 w4.drawn ((k02.trans k3).own k4 (by omega)) (k4.bk b13 (by omega)) (k4.bk b23 (by omega)) _ (Nat.le_refl _) b4
  rw [dr_self] at this
  exact this
end
end
section
open Sy
def F258 (R:Ko) (x0:ByteArray) (x1:ByteArray) (w:World):Prop:=Ifm (decide (((x0.size:Nat):Int)≥(x1.size:Nat))) (Ss x0 0 (x1.size:Nat) fun x14=>R (.bool (x14.toList == x1.toList)) w) (R (.bool false) w)
noncomputable def b258:Code:=Tryz.f258.body.getD .skip
theorem c258 {R:Ko} {x0:ByteArray} {x1:ByteArray} {w:World} (h:F258 R x0 x1 w):Ct Tryz.prog 258 #[.string x0,.string x1] w R :=
 ctS (args:=[.string x0,.string x1]) (body:=b258) (n:=18) (rs:=[.tmp 4]) Tryz.func258
  (sg (cuts:=[]) trivial h)
def F165 (R:Ko) (x0:ByteArray) (x1:ByteArray) (w:World):Prop:=Ct Tryz.prog 258 #[.string x0,.string x1] w fun v7 w1=>onB v7 fun x7=>R (.bool x7) w1
noncomputable def b165:Code:=Tryz.f165.body.getD .skip
theorem c165 {R:Ko} {x0:ByteArray} {x1:ByteArray} {w:World} (h:F165 R x0 x1 w):Ct Tryz.prog 165 #[.string x0,.string x1] w R :=
 ctS (args:=[.string x0,.string x1]) (body:=b165) (n:=8) (rs:=[.tmp 4]) Tryz.func165
  (sg (cuts:=[]) trivial h)
def F84_1B (R:Ko) (C1:Option Addr→ByteArray→Ko) (x0:Option Addr) (x1:ByteArray) (x28:Value) (w:World):Prop:=Rv Tryz.prog (Instr.next x28 false 0) w fun v29 w6=>onNext v29 (fun y29_0 y29_1=>Rd Tryz.prog (Instr.entry x28) w6 fun v31=>on2 v31 fun y31_0 y31_1=>onS y31_0 fun x32=>Rd Tryz.prog (Bin .add 9 (.tmp 34) (.const (.string (⟨#[47]⟩))) (.string x1) (.string (⟨#[47]⟩))) w6 fun v35=>onS v35 fun x35=>Ct Tryz.prog 165 #[.string x32,.string x35] w6 fun v36 w7=>onB v36 fun x36=>Ifm x36 (onSome x0 fun x44=>Lc (x44.add 2) w7 fun v46=>onM v46 fun x46=>Rv Tryz.prog (Builtin.delete_ #[130,9] 0 #[.map x46,.string x32]) w7 fun v_ w8=>C1 x0 x1 x28 w8) (Rd Tryz.prog (Bin .add 9 (.tmp 39) (.const (.string (⟨#[46]⟩))) (.string x1) (.string (⟨#[46]⟩))) w7 fun v40=>onS v40 fun x40=>Ct Tryz.prog 165 #[.string x32,.string x40] w7 fun v41 w9=>onB v41 fun x41=>Ifm x41 (onSome x0 fun x44=>Lc (x44.add 2) w9 fun v46=>onM v46 fun x46=>Rv Tryz.prog (Builtin.delete_ #[130,9] 0 #[.map x46,.string x32]) w9 fun v_ w10=>C1 x0 x1 x28 w10) (C1 x0 x1 x28 w9))) (R (.tuple #[]) w6)
def F84_1 (R:Ko) (x0:Option Addr) (x1:ByteArray) (x28:Value) (w:World):Prop:=∃ (Inv:Option Addr→ByteArray→Ko) (μ:Option Addr→ByteArray→Value→World→Nat),Inv x0 x1 x28 w∧∀ x0 x1 x28 w,Inv x0 x1 x28 w→F84_1B R (fun x0' x1' x28' w'=>Inv x0' x1' x28' w'∧μ x0' x1' x28' w'<μ x0 x1 x28 w) x0 x1 x28 w
def F84_0B (R:Ko) (C0:Option Addr→ByteArray→Ko) (x0:Option Addr) (x1:ByteArray) (x10:Value) (w:World):Prop:=Rv Tryz.prog (Instr.next x10 false 0) w fun v11 w2=>onNext v11 (fun y11_0 y11_1=>Rd Tryz.prog (Instr.entry x10) w2 fun v13=>on2 v13 fun y13_0 y13_1=>onS y13_0 fun x14=>Rd Tryz.prog (Bin .add 9 (.tmp 16) (.const (.string (⟨#[47]⟩))) (.string x1) (.string (⟨#[47]⟩))) w2 fun v17=>onS v17 fun x17=>Ct Tryz.prog 165 #[.string x14,.string x17] w2 fun v18 w4=>onB v18 fun x18=>Ifm x18 (onSome x0 fun x20=>Lc (x20.add 1) w4 fun v22=>onM v22 fun x22=>Rv Tryz.prog (Builtin.delete_ #[130,9] 0 #[.map x22,.string x14]) w4 fun v_ w5=>C0 x0 x1 x10 w5) (C0 x0 x1 x10 w4)) (onSome x0 fun x25=>Lc (x25.add 2) w2 fun v27=>onM v27 fun x27=>Rv Tryz.prog (Instr.range 130 (.map x27)) w2 fun v28 w3=>F84_1 R x0 x1 v28 w3)
def F84_0 (R:Ko) (x0:Option Addr) (x1:ByteArray) (x10:Value) (w:World):Prop:=∃ (Inv:Option Addr→ByteArray→Ko) (μ:Option Addr→ByteArray→Value→World→Nat),Inv x0 x1 x10 w∧∀ x0 x1 x10 w,Inv x0 x1 x10 w→F84_0B R (fun x0' x1' x10' w'=>Inv x0' x1' x10' w'∧μ x0' x1' x10' w'<μ x0 x1 x10 w) x0 x1 x10 w
def F84 (R:Ko) (x0:Option Addr) (x1:ByteArray) (w:World):Prop:=onSome x0 fun x7=>Lc (x7.add 1) w fun v9=>onM v9 fun x9=>Rv Tryz.prog (Instr.range 130 (.map x9)) w fun v10 w1=>F84_0 R x0 x1 v10 w1
noncomputable def b84:Code:=Tryz.f84.body.getD .skip
def q84_1:List Bool:=[false,true,true]
def L84_1 (F:Option Addr→ByteArray→Ko):Env→World→Prop:=fun ρ w=>onP (ρ 0) fun x0=>onS (ρ 1) fun x1=>F x0 x1 (ρ 28) w
def q84_0:List Bool:=[false,true,false]
def L84_0 (F:Option Addr→ByteArray→Ko):Env→World→Prop:=fun ρ w=>onP (ρ 0) fun x0=>onS (ρ 1) fun x1=>F x0 x1 (ρ 10) w
abbrev T84 (z:Fr) (R:Ko) (p:List Bool) (ρ:Env) (w:World):Prop:=TW z Tryz.prog 48 (segTodo b84 p) (QR Tryz.prog [] R) ρ w
theorem s84_1 (R:Ko):∀ ρ w,(L84_1 (F84_1 R)) ρ w→T84 z0 R q84_1 ρ w:=by
 intro ρ w h
 unfold L84_1 at h
 obtain ⟨x0,e0,h⟩:=onP_of h
 obtain ⟨x1,e1,h⟩:=onS_of h
 generalize e28:ρ 28=x28 at h
 obtain ⟨Inv,μ,hi,hb⟩:=h
 refine lpT (fun m=>L84_1 (fun x0 x1 x28 w=>Inv x0 x1 x28 w∧μ x0 x1 x28 w=m)) ?_ (μ x0 x1 x28 w) ρ w ?_
 ·intro m ρ w ih h
  unfold L84_1 at h
  obtain ⟨x0,e0,h⟩:=onP_of h
  obtain ⟨x1,e1,h⟩:=onS_of h
  generalize e28:ρ 28=x28 at h
  obtain ⟨hv,hm⟩:=h
  subst hm
  have hh:=hb x0 x1 x28 w hv
  obtain ⟨C1,hC⟩:∃ C,C=fun x0' x1' x28' w'=>Inv x0' x1' x28' w'∧μ x0' x1' x28' w'<μ x0 x1 x28 w:=⟨_,rfl⟩
  rw [← hC] at hh
  have h1:∀ ρ w,(L84_1 C1) ρ w→T84 z0 R q84_1 ρ w:=by
   intro ρ' w' h'
   refine ih ρ' w' ?_
   unfold L84_1 at h'
   obtain ⟨x0',e0',h'⟩:=onP_of h'
   obtain ⟨x1',e1',h'⟩:=onS_of h'
   generalize e28':ρ' 28=x28' at h'
   rw [hC] at h'
   refine ⟨_,h'.2,?_⟩
   simp only [e0',e1',e28',L84_1,ons]
   exact ⟨h'.1,by trivial⟩
  rw [← upds_same (ρ:=ρ) [(0,.pointer x0),(1,.string x1),(28,x28)] (alc e0 (alc e1 (alc e28 aln)))]
  exact sg (cuts:=[(q84_1,L84_1 C1)]) ⟨h1,trivial⟩ hh
 ·simp only [e0,e1,e28,L84_1,ons]
  exact ⟨hi,by trivial⟩
theorem s84_0 (R:Ko):∀ ρ w,(L84_0 (F84_0 R)) ρ w→T84 z0 R q84_0 ρ w:=by
 intro ρ w h
 unfold L84_0 at h
 obtain ⟨x0,e0,h⟩:=onP_of h
 obtain ⟨x1,e1,h⟩:=onS_of h
 generalize e10:ρ 10=x10 at h
 obtain ⟨Inv,μ,hi,hb⟩:=h
 refine lpT (fun m=>L84_0 (fun x0 x1 x10 w=>Inv x0 x1 x10 w∧μ x0 x1 x10 w=m)) ?_ (μ x0 x1 x10 w) ρ w ?_
 ·intro m ρ w ih h
  unfold L84_0 at h
  obtain ⟨x0,e0,h⟩:=onP_of h
  obtain ⟨x1,e1,h⟩:=onS_of h
  generalize e10:ρ 10=x10 at h
  obtain ⟨hv,hm⟩:=h
  subst hm
  have hh:=hb x0 x1 x10 w hv
  obtain ⟨C0,hC⟩:∃ C,C=fun x0' x1' x10' w'=>Inv x0' x1' x10' w'∧μ x0' x1' x10' w'<μ x0 x1 x10 w:=⟨_,rfl⟩
  rw [← hC] at hh
  have h0:∀ ρ w,(L84_0 C0) ρ w→T84 z0 R q84_0 ρ w:=by
   intro ρ' w' h'
   refine ih ρ' w' ?_
   unfold L84_0 at h'
   obtain ⟨x0',e0',h'⟩:=onP_of h'
   obtain ⟨x1',e1',h'⟩:=onS_of h'
   generalize e10':ρ' 10=x10' at h'
   rw [hC] at h'
   refine ⟨_,h'.2,?_⟩
   simp only [e0',e1',e10',L84_0,ons]
   exact ⟨h'.1,by trivial⟩
  rw [← upds_same (ρ:=ρ) [(0,.pointer x0),(1,.string x1),(10,x10)] (alc e0 (alc e1 (alc e10 aln)))]
  exact sg (cuts:=[(q84_1,L84_1 (F84_1 R)),(q84_0,L84_0 C0)]) ⟨s84_1 R,h0,trivial⟩ hh
 ·simp only [e0,e1,e10,L84_0,ons]
  exact ⟨hi,by trivial⟩
theorem c84 {R:Ko} {x0:Option Addr} {x1:ByteArray} {w:World} (h:F84 R x0 x1 w):Ct Tryz.prog 84 #[.pointer x0,.string x1] w R :=
 ctS (args:=[.pointer x0,.string x1]) (body:=b84) (n:=48) (rs:=[]) Tryz.func84
  (sg (cuts:=[(q84_0,L84_0 (F84_0 R))]) ⟨s84_0 R,trivial⟩ h)
namespace Sy
open Go.MapKept
section
variable {α:Type} {w:World} {r m:Nat} {d:TypeDesc} {κ:α→Value} {g:α→Option Value} {left:α→Bool} {P:Program} {t kt et:TypeId}
theorem Iter.del [DecidableEq α] (h:Iter w r m d κ g left) (E:KeyE d κ) (ht:P.underlying t=some (.map kt et)) (hk:P.underlying kt=some d) (a:α) (t2 ty:TypeId) :
  ∃ w',(Builtin.delete_ #[t,t2] ty #[.map (some m),κ a]).run P w=.ok (.tuple #[]) w'∧Kp (·=m) w w'∧Iter w' r m d κ (updO g a none) left∧itLeft w' r m≤itLeft w r m:=by
 obtain ⟨w1,hr1,k1,es1,cl1,hm1⟩:=h.map.del E ht hk a t2 ty
 obtain ⟨es,cl,s,sn,c,h⟩:=h
 have hrm:r≠m:=ne_of_bk h.it h.mp.hp (by simp)
 have hit:w1.heap[r]?=some (.mapIter (some m) s sn c):=k1.bk h.it hrm
 have hc:=run_checkKey (P:=P) (w:=w) hk (E.isKey a) es.isEmpty 9999
 suffices hh:cl1=cl∧List.Sublist es1.toList es.toList by
  obtain ⟨rfl,hs⟩:=hh
  refine ⟨w1,hr1,k1,⟨es1,cl1,s,sn,c,hm1,hit,fun x hx=>h.old x (hs.subset hx),h.le,h.lc,fun x hx=>h.lf x (hs.subset hx)⟩,?_⟩
  simp only [itLeft,h.it,h.mp.hp,hit,hm1.hp,leftOf]
  have:=(hs.filter fun e => !sn.contains e.born).length_le
  rw [← Array.toList_filter,← Array.toList_filter,Array.length_toList,Array.length_toList] at this
  exact this
 rcases findNow_spec (E.isKey a) es.toList 0 h.mp.ks with ⟨h1,h2⟩ | ⟨j,e,h1,h2,h3⟩
 ·have hf:=run_findKey (w:=w) hk h1
  obtain ⟨k2,hk2⟩:=Kp.obj (o':=.map es cl) h.mp.hp
  have hr2:(Builtin.delete_ #[t,t2] ty #[.map (some m),κ a]).run P w=.ok (.tuple #[]) { w with heap:=w.heap.setIfInBounds m (.map es cl) }:=by
   simp [Builtin.delete_,run_underlying' ht,Sem.run_bind,MapKept.run_getObj_map h.mp.hp,hc,hf,MapKept.run_setObj_map _ h.mp.hp]
  rw [hr2] at hr1
  injection hr1 with _ hr1
  rw [← hr1] at hm1
  have:=hm1.hp.symm.trans hk2
  injection this with this
  injection this with e1 e2
  subst e1; subst e2
  exact ⟨rfl,List.Sublist.refl _⟩
 ·have hf:=run_findKey (w:=w) hk h1
  obtain ⟨k2,hk2⟩:=Kp.obj (o':=.map (es.eraseIdxIfInBounds j) cl) h.mp.hp
  have hr2:(Builtin.delete_ #[t,t2] ty #[.map (some m),κ a]).run P w=.ok (.tuple #[]) { w with heap:=w.heap.setIfInBounds m (.map (es.eraseIdxIfInBounds j) cl) }:=by
   simp [Builtin.delete_,run_underlying' ht,Sem.run_bind,MapKept.run_getObj_map h.mp.hp,hc,hf,MapKept.run_setObj_map _ h.mp.hp]
  rw [hr2] at hr1
  injection hr1 with _ hr1
  rw [← hr1] at hm1
  have:=hm1.hp.symm.trans hk2
  injection this with this
  injection this with e1 e2
  subst e1; subst e2
  refine ⟨rfl,?_⟩
  have hjl:j<es.size:=by
   have:=(List.getElem?_eq_some_iff.1 h2).1
   simpa using this
  have her:(es.eraseIdxIfInBounds j).toList=es.toList.eraseIdx j:=by
   unfold Array.eraseIdxIfInBounds; rw [dif_pos hjl]; simp
  rw [her]
  exact List.eraseIdx_sublist _ _
end
end Sy
variable {K:Ko} {w w':World}
def hasP (s p:ByteArray):Bool:=if (s.size:Int)≥(p.size:Nat) then sEq (s.extract 0 p.size) p else false
theorem k258 {s p:ByteArray} (h:K (.bool (hasP s p)) w):Ct Tryz.prog 258 #[.string s,.string p] w K:=by
 refine c258 ?_
 unfold F258
 unfold hasP at h
 simp only [SS]
 by_cases e:(s.size:Int)≥(p.size:Nat)
 ·rw [if_pos e] at h ⊢
  exact ⟨by omega,by omega,by omega,h⟩
 ·rw [if_neg e] at h ⊢
  exact h
theorem k165 {s p:ByteArray} (h:K (.bool (hasP s p)) w):Ct Tryz.prog 165 #[.string s,.string p] w K:=by
 refine c165 ?_
 unfold F165
 refine k258 ?_
 exact h
noncomputable def dropS (g:ByteArray→Option Int) (f:ByteArray→Bool):ByteArray→Option Int:=fun s=>if f s=true then none else g s
def undN (path s:ByteArray):Bool:=hasP s (path++sSlash)
def undT (path s:ByteArray):Bool:=hasP s (path++sSlash) || hasP s (path++sDot)
noncomputable def belowD (D:Wd) (path:ByteArray):Wd:=⟨dropS D.nd (undN path),dropS D.tk (undT path)⟩
open Classical in
theorem hv_upd (g:ByteArray→Option Int) (a:ByteArray) (v:Option Int):updO (hv g) a (v.map fun x=>I x)=hv (fun s=>if s=a then v else g s):=by
 funext s
 unfold updO hv
 by_cases e:s=a
 ·simp only [if_pos e]
 ·simp only [if_neg e]
structure Left (g0 g:ByteArray→Option Int) (f left:ByteArray→Bool):Prop where
 no:∀ s,f s=false→g s=g0 s
 yes:∀ s,f s=true→left s=false→g s=none
theorem Left.zero (g:ByteArray→Option Int) (f:ByteArray→Bool):Left g g f fun s=>(hv g s).isSome:=⟨fun _ _=>rfl,fun s _ h=>by unfold hv at h; cases e:g s with | none=>rfl | some v=>rw [e] at h; cases h⟩
theorem Left.done {g0 g:ByteArray→Option Int} {f left:ByteArray→Bool} (h:Left g0 g f left) (ha:∀ s,(hv g s).isSome=true→left s=false):g=dropS g0 f:=by
 funext s
 unfold dropS
 cases e:f s with
 | false=>rw [if_neg (by decide)]; exact h.no s e
 | true =>
  rw [if_pos rfl]
  cases eg:g s with
  | none=>rfl
  | some v=>rw [← eg]; exact h.yes s e (ha s (by simp [hv,eg]))
open Classical in
theorem Left.cut {g0 g:ByteArray→Option Int} {f left:ByteArray→Bool} {a:ByteArray} (h:Left g0 g f left) (hf:f a=true):Left g0 (fun s=>if s=a then none else g s) f fun b=>left b && decide (b≠a):=by
 refine ⟨fun s hs=>?_,fun s hs hl=>?_⟩
 ·have:s≠a:=fun e=>by rw [e,hf] at hs; cases hs
  simp only [if_neg this]; exact h.no s hs
 ·by_cases e:s=a
  ·simp only [if_pos e]
  ·simp only [if_neg e]; exact h.yes s hs (by simpa [e] using hl)
open Classical in
theorem Left.stay {g0 g:ByteArray→Option Int} {f left:ByteArray→Bool} {a:ByteArray} (h:Left g0 g f left) (hf:f a=false):Left g0 g f fun b=>left b && decide (b≠a):=by
 refine ⟨h.no,fun s hs hl=>h.yes s hs ?_⟩
 have:s≠a:=fun e=>by rw [e,hf] at hs; cases hs
 simpa [this] using hl
theorem cat_slash {a:ByteArray} (h:a.size<9223372036854775800) (x y:Operand) (w:World) (k:Value→Prop):Rd Tryz.prog (Bin .add 9 x y (.string a) (.string (⟨#[47]⟩))) w k=k (.string (a++sSlash)):=cat_c (by show _+1≤_; omega) x y w k
theorem cat_dot {a:ByteArray} (h:a.size<9223372036854775800) (x y:Operand) (w:World) (k:Value→Prop):Rd Tryz.prog (Bin .add 9 x y (.string a) (.string (⟨#[46]⟩))) w k=k (.string (a++sDot)):=cat_c (by show _+1≤_; omega) x y w k
section
variable {lab:Nat→Nat} {q x k m n:Nat} {Kk:Kn} {D:Wd}
open Classical in
set_option maxHeartbeats 2000000 in
theorem k84 {path:ByteArray} (h:SW w lab q x k m n Kk D) (hp:path.size<9223372036854775800) (hR:∀ w',Kp (fun y=>y=m∨y=n) w w'→SW w' lab q x k m n Kk (belowD D path)→K (.tuple #[]) w'):Ct Tryz.prog 84 #[Pt x 0,.string path] w K:=by
 refine c84 ?_
 unfold F84
 have xm:x≠m:=fun e=>by obtain ⟨es,cl,hm⟩:=h.nd; exact ne_of_bk h.hd hm.hp (fun e=>by cases e) e
 have xn:x≠n:=fun e=>by obtain ⟨es,cl,hm⟩:=h.tk; exact ne_of_bk h.hd hm.hp (fun e=>by cases e) e
 have hne:=h.ne
 have lm:=h.nd.lt
 have ln:=h.tk.lt
 have lx:=h.hd.lt
 simp only [SS,h.hd.rd (o:=1) (v:=.map (some m)) rfl]
 refine range_k h.nd u130 fun w1 k1 hI=>?_
 unfold F84_0
 refine ⟨fun x0 x1 x10 w'=>x0=some ⟨x,0,none⟩∧path=x1∧x10=Pt w.heap.size 0∧Kp (·=m) w w'∧∃ g left,Iter w' w.heap.size m .string Value.string (hv g) left∧Left D.nd g (undN path) left,fun _ _ _ w'=>itLeft w' w.heap.size m,
  ⟨rfl,rfl,rfl,k1.no _,D.nd,_,hI,Left.zero _ _⟩,?_⟩
 rintro _ _ _ w2 ⟨rfl,rfl,rfl,k2,g,left,hI2,hL2⟩
 unfold F84_0B
 refine next_k hI2 keyS 0 (fun hall=>?_) fun a v w3 hg hla k3 hI3 hlt3 hent=>?_
 ·simp only [onNext_f]
  have hg:=hL2.done hall
  have hx2:Bk w2 x [Pt k 0,.map (some m),.map (some n)] 132:=k2.bk h.hd xm
  simp only [SS,hx2.rd (o:=2) (v:=.map (some n)) rfl]
  have ht2:Map w2 n .string Value.string (hv D.tk):=h.tk.kp k2 (Ne.symm hne)
  refine range_k ht2 u130 fun w4 k4 hJ=>?_
  unfold F84_1
  have hN2:Map w2 m .string Value.string (hv (dropS D.nd (undN path))):=by rw [← hg]; exact hI2.map
  refine ⟨fun x0 x1 x10 w'=>x0=some ⟨x,0,none⟩∧path=x1∧x10=Pt w2.heap.size 0∧Kp (·=n) w2 w'∧∃ g left,Iter w' w2.heap.size n .string Value.string (hv g) left∧Left D.tk g (undT path) left,fun _ _ _ w'=>itLeft w' w2.heap.size n,
   ⟨rfl,rfl,rfl,k4.no _,D.tk,_,hJ,Left.zero _ _⟩,?_⟩
  rintro _ _ _ w5 ⟨rfl,rfl,rfl,k5,g',left',hI5,hL5⟩
  unfold F84_1B
  have s02:=k2.size
  refine next_k hI5 keyS 0 (fun hall=>?_) fun a v w6 hg hla k6 hI6 hlt6 hent=>?_
  ·simp only [onNext_f]
   have hg':=hL5.done hall
   have k05:Kp (fun y=>y=m∨y=n) w w5:=(k2.mono fun _ _=>.inl).trans (k5.mono fun _ _=>.inr)
   refine hR w5 k05 ⟨h.kr.kp k05 fun y hy hh=>?_,k05.bk h.hd (by omega),hN2.kp k5 hne,?_,h.lx,h.lm,h.ln,h.ne⟩
   ·rcases hh with rfl | rfl
    ·rw [h.lm] at hy; unfold inK at hy; omega
    ·rw [h.ln] at hy; unfold inK at hy; omega
   ·show Map w5 n .string Value.string (hv (dropS D.tk (undT path)))
    rw [← hg']; exact hI5.map
  ·simp only [onNext_t]
   rw [Rd_ok hent]
   simp only [SS]
   rw [cat_slash hp]
   simp only [SS]
   refine k165 ?_
   have k26:Kp (·=n) w2 w6:=k5.step k6 fun i hi e=>by omega
   have hx6:Bk w6 x [Pt k 0,.map (some m),.map (some n)] 132:=k26.bk hx2 (by omega)
   have hI6':=hI6 (fun b=>left' b && decide (b≠a)) fun b=>by simp
   have cut:undT path a=true→Lc ⟨x,2,none⟩ w6 fun v46=>onM v46 fun x46=>Rv Tryz.prog (Builtin.delete_ #[130,9] 0 #[.map x46,.string a]) w6 fun v_ w8=>(Kp (·=n) w2 w8∧∃ g left,Iter w8 w2.heap.size n .string Value.string (hv g) left∧Left D.tk g (undT path) left)∧itLeft w8 w2.heap.size n<itLeft w5 w2.heap.size n:=by
    intro hu
    simp only [hx6.rd (o:=2) (v:=.map (some n)) rfl,onM_eq]
    obtain ⟨w7,hr,k7,hI7,hle⟩:=hI6'.del keyS u130 u9s a 9 0
    refine ⟨_,w7,hr,⟨k26.trans k7,_,_,?_,hL5.cut hu⟩,by omega⟩
    rw [← hv_upd g' a none]
    exact hI7
   simp only [onB_eq]
   have ed:undT path a=(hasP a (path++sSlash) || hasP a (path++sDot)):=rfl
   cases e1:hasP a (path++sSlash) with
   | true =>
    simp only [SS]
    exact cut (by rw [ed,e1]; rfl)
   | false =>
    simp only [SS]
    rw [cat_dot hp]
    simp only [SS]
    refine k165 ?_
    simp only [onB_eq]
    cases e2:hasP a (path++sDot) with
    | true =>
     simp only [SS]
     exact cut (by rw [ed,e2]; simp)
    | false =>
     simp only [SS]
     exact ⟨⟨k26,g',_,hI6',hL5.stay (by rw [ed,e1,e2]; rfl)⟩,hlt6⟩
 ·simp only [onNext_t]
  rw [Rd_ok hent]
  simp only [SS]
  rw [cat_slash hp]
  simp only [SS]
  refine k165 ?_
  have k03:Kp (·=m) w w3:=k2.step k3 fun i hi e=>by omega
  have hx3:Bk w3 x [Pt k 0,.map (some m),.map (some n)] 132:=k03.bk h.hd (by omega)
  have hI3':=hI3 (fun b=>left b && decide (b≠a)) fun b=>by simp
  have ed:undN path a=hasP a (path++sSlash):=rfl
  simp only [onB_eq]
  cases e1:hasP a (path++sSlash) with
  | true =>
   simp only [SS,hx3.rd (o:=1) (v:=.map (some m)) rfl]
   obtain ⟨w7,hr,k7,hI7,hle⟩:=hI3'.del keyS u130 u9s a 9 0
   refine ⟨_,w7,hr,⟨k03.trans k7,_,_,?_,hL2.cut (by rw [ed,e1])⟩,by omega⟩
   rw [← hv_upd g a none]
   exact hI7
  | false =>
   simp only [SS]
   exact ⟨⟨k03,g,_,hI3',hL2.stay (by rw [ed,e1])⟩,hlt3⟩
end
end
end Go.Proofs.YtbgbidpecmepmaaGreatDoor
