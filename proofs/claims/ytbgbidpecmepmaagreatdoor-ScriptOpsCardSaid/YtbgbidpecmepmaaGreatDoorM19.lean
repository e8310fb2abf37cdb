/-
  What a step gives a name; a step done; Worlds made: new ones, and over another kernel; Rows of steps; names and paths (that they are asked, not what they are); short rows; plain ones.
-/
import Derived.Test.YtbgbidpecmepmaaGreatDoorM18
import GoSem.Extern.MapsClone
import Derived.Laws.Externs
set_option maxRecDepth 100000
namespace Go.Proofs.YtbgbidpecmepmaaGreatDoor
section
open Sy
def F36 (R:Ko) (x0:Option Addr) (x1:Array Value) (x2:Int) (w:World):Prop:=New (.cells (.agg x1:Value).cells 53) w fun x4 w1=>Lc (x4.add 1) w1 fun v8=>onI v8 fun x8=>Ifm ((x8:Int) == 4) (onSome x0 fun x11=>Lc (x11.add 2) w1.drew fun v13=>onM v13 fun x13=>Lc (x4.add 2) w1.drew fun v15=>onS v15 fun x15=>Rd Tryz.prog (Bin .add 9 (.tmp 15) (.const (.string (⟨#[46]⟩))) (.string x15) (.string (⟨#[46]⟩))) w1.drew fun v16=>onS v16 fun x16=>Lc (x4.add 3) w1.drew fun v18=>onS v18 fun x18=>Rd Tryz.prog (Bin .add 9 (.tmp 16) (.tmp 18) (.string x16) (.string x18)) w1.drew fun v19=>onS v19 fun x19=>Ru Tryz.prog (Instr.mapUpdate 130 (.map x13) (.string x19) (.int .i64 x2)) w1.drew fun w2=>R (.tuple #[]) w2) (Lc (x4.add 3) w1 fun v22=>onS v22 fun x22=>Lc (x4.add 2) w1 fun v24=>onS v24 fun x24=>Ifm (!(x24.toList == (⟨#[114,111,111,116]⟩:ByteArray).toList)) (Lc (x4.add 2) w1 fun v27=>onS v27 fun x27=>Rd Tryz.prog (Bin .add 9 (.tmp 27) (.const (.string (⟨#[47]⟩))) (.string x27) (.string (⟨#[47]⟩))) w1 fun v28=>onS v28 fun x28=>Lc (x4.add 3) w1 fun v30=>onS v30 fun x30=>Rd Tryz.prog (Bin .add 9 (.tmp 28) (.tmp 30) (.string x28) (.string x30)) w1 fun v31=>onS v31 fun x31=>Ct Tryz.prog 84 #[.pointer x0,.string x31] w1 fun v34 w3=>onSome x0 fun x36=>Lc (x36.add 1) w3 fun v38=>onM v38 fun x38=>Ru Tryz.prog (Instr.mapUpdate 130 (.map x38) (.string x31) (.int .i64 x2)) w3 fun w4=>R (.tuple #[]) w4) (Ct Tryz.prog 84 #[.pointer x0,.string x22] w1 fun v34 w5=>onSome x0 fun x36=>Lc (x36.add 1) w5 fun v38=>onM v38 fun x38=>Ru Tryz.prog (Instr.mapUpdate 130 (.map x38) (.string x22) (.int .i64 x2)) w5 fun w6=>R (.tuple #[]) w6))
noncomputable def b36:Code:=Tryz.f36.body.getD .skip
theorem c36 {R:Ko} {x0:Option Addr} {x1:Array Value} {x2:Int} {w:World} (h:F36 R x0 x1 x2 w):Ct Tryz.prog 36 #[.pointer x0,.agg x1,.int .i64 x2] w R :=
 ctS (args:=[.pointer x0,.agg x1,.int .i64 x2]) (body:=b36) (n:=41) (rs:=[]) Tryz.func36
  (sg (cuts:=[]) trivial h)
def F10_1 (R:Ko) (x4:Addr) (x5:Addr) (x6:Addr) (x7:Addr) (w:World):Prop:=La 10 x6 w.drew fun x39=>La 34 x7 w.drew fun x40=>Sa 10 x4 x39 w.drew fun w15=>Ha 34 x7 x40 w15∧Sa 34 x5 x40 w15 fun w16=>Rd Tryz.prog (Instr.loadAt 39 (.pointer (some x4))) w16 fun r0=>Rd Tryz.prog (Instr.loadAt 49 (.pointer (some x5))) w16 fun r1=>R (.tuple #[r0,r1]) w16
def F10_0 (R:Ko) (x0:Option Addr) (x3:Addr) (x4:Addr) (x5:Addr) (x6:Addr) (x7:Addr) (w:World):Prop:=Lc (x7.add 0) w fun v22=>onI v22 fun x22=>Ifm ((x22:Int) == 0) (Lc (x3.add 1) w fun v26=>onI v26 fun x26=>Ifm ((x26:Int) == 1) (La 11 x3 w fun x35=>Lc (x7.add 1) w fun v37=>onI v37 fun x37=>Ct Tryz.prog 36 #[.pointer x0,.agg x35,.int .i64 x37] w fun v38 w17=>F10_1 R x4 x5 x6 x7 w17) (Lc (x3.add 1) w fun v30=>onI v30 fun x30=>Ifm ((x30:Int) == 4) (La 11 x3 w fun x35=>Lc (x7.add 1) w fun v37=>onI v37 fun x37=>Ct Tryz.prog 36 #[.pointer x0,.agg x35,.int .i64 x37] w fun v38 w18=>F10_1 R x4 x5 x6 x7 w18) (F10_1 R x4 x5 x6 x7 w))) (F10_1 R x4 x5 x6 x7 w)
def F10 (R:Ko) (x0:Option Addr) (x1:Array Value) (w:World):Prop:=New (.cells (.agg x1:Value).cells 53) w fun x3 w1=>New (.cells (.agg #[.int .i64 0,.int .i64 0,.int .i64 0,.int .i64 0,.int .i64 0,.int .i64 0,.int .i64 0,.int .i64 0,.int .i64 0,.int .i64 0]:Value).cells 39) w1 fun x4 w2=>New (.cells (.agg #[.int .i64 0,.int .i64 0,.int .i64 0,.int .i64 0,.int .i64 0,.int .i64 0,.int .i64 0,.bool false,.int .i64 0,.int .i64 0,.int .i64 0,.int .i64 0,.int .i64 0,.int .i64 0,.int .i64 0,.int .i64 0,.int .i64 0,.int .i64 0,.int .i64 0,.int .i64 0,.int .i64 0,.int .i64 0,.int .i64 0,.int .i64 0,.slice none 0 0,.slice none 0 0,.int .i64 0,.slice none 0 0,.int .i64 0,.int .i64 0,.int .i64 0,.int .i64 0,.int .i64 0,.int .i64 0]:Value).cells 49) w2 fun x5 w3=>Ifm x0.isNone (Sa 10 x4 (#[.int .i64 0,.int .i64 0,.int .i64 0,.int .i64 0,.int .i64 0,.int .i64 0,.int .i64 0,.int .i64 0,.int .i64 0,.int .i64 0]) w3 fun w4=>Sa 34 x5 (#[.int .i64 1,.int .i64 0,.int .i64 0,.int .i64 0,.int .i64 0,.int .i64 0,.int .i64 0,.bool false,.int .i64 0,.int .i64 0,.int .i64 0,.int .i64 0,.int .i64 0,.int .i64 0,.int .i64 0,.int .i64 0,.int .i64 0,.int .i64 0,.int .i64 0,.int .i64 0,.int .i64 0,.int .i64 0,.int .i64 0,.int .i64 0,.slice none 0 0,.slice none 0 0,.int .i64 0,.slice none 0 0,.int .i64 0,.int .i64 0,.int .i64 0,.int .i64 0,.int .i64 0,.int .i64 0]) w4 fun w5=>Rd Tryz.prog (Instr.loadAt 39 (.pointer (some x4))) w5 fun r0=>Rd Tryz.prog (Instr.loadAt 49 (.pointer (some x5))) w5 fun r1=>R (.tuple #[r0,r1]) w5) (La 11 x3 w3 fun x13=>Ct Tryz.prog 35 #[.pointer x0,.agg x13] w3 fun v14 w6=>onG v14 fun x14=>New (.cells (.agg #[.int .i64 0,.int .i64 0,.int .i64 0,.int .i64 0,.int .i64 0,.int .i64 0,.int .i64 0,.int .i64 0,.int .i64 0,.int .i64 0]:Value).cells 39) w6 fun x6 w7=>Sa 10 x6 x14 w7 fun w8=>onSome x0 fun x16=>Lc (x16.add 0) w8.drew fun v18=>onP v18 fun x18=>La 10 x6 w8.drew fun x19=>(Ct Tryz.prog 12 #[.pointer x18,.agg x19] w8.drew fun v20 w9=>onG v20 fun x20=>New (.cells (.agg #[.int .i64 0,.int .i64 0,.int .i64 0,.int .i64 0,.int .i64 0,.int .i64 0,.int .i64 0,.bool false,.int .i64 0,.int .i64 0,.int .i64 0,.int .i64 0,.int .i64 0,.int .i64 0,.int .i64 0,.int .i64 0,.int .i64 0,.int .i64 0,.int .i64 0,.int .i64 0,.int .i64 0,.int .i64 0,.int .i64 0,.int .i64 0,.slice none 0 0,.slice none 0 0,.int .i64 0,.slice none 0 0,.int .i64 0,.int .i64 0,.int .i64 0,.int .i64 0,.int .i64 0,.int .i64 0]:Value).cells 49) w9 fun x7 w10=>Sa 34 x7 x20 w10 fun w11=>F10_0 R x0 x3 x4 x5 x6 x7 w11)∧(New (.cells (.agg #[.int .i64 0,.int .i64 0,.int .i64 0,.int .i64 0,.int .i64 0,.int .i64 0,.int .i64 0,.bool false,.int .i64 0,.int .i64 0,.int .i64 0,.int .i64 0,.int .i64 0,.int .i64 0,.int .i64 0,.int .i64 0,.int .i64 0,.int .i64 0,.int .i64 0,.int .i64 0,.int .i64 0,.int .i64 0,.int .i64 0,.int .i64 0,.slice none 0 0,.slice none 0 0,.int .i64 0,.slice none 0 0,.int .i64 0,.int .i64 0,.int .i64 0,.int .i64 0,.int .i64 0,.int .i64 0]:Value).cells 49) w8.drew fun x7 w12=>Ha 10 x6 x19 w12∧Hc (x16.add 0) (.pointer x18) w12∧Ct Tryz.prog 12 #[.pointer x18,.agg x19] w12 fun v20 w13=>onG v20 fun x20=>Sa 34 x7 x20 w13 fun w14=>F10_0 R x0 x3 x4 x5 x6 x7 w14))
noncomputable def b10:Code:=Tryz.f10.body.getD .skip
def q10_1:List Bool:=[false,true,true,true,true,true]
def L10_1 (F:Addr→Addr→Addr→Addr→World→Prop):Env→World→Prop:=fun ρ w=>onA (ρ 4) fun x4=>onA (ρ 5) fun x5=>onA (ρ 6) fun x6=>onA (ρ 7) fun x7=>F x4 x5 x6 x7 w
def q10_0:List Bool:=[false,false,true,true,true,true]
def L10_0 (F:Option Addr→Addr→Addr→Addr→Addr→Addr→World→Prop):Env→World→Prop:=fun ρ w=>onP (ρ 0) fun x0=>onA (ρ 3) fun x3=>onA (ρ 4) fun x4=>onA (ρ 5) fun x5=>onA (ρ 6) fun x6=>onA (ρ 7) fun x7=>F x0 x3 x4 x5 x6 x7 w
abbrev T10 (z:Fr) (R:Ko) (p:List Bool) (ρ:Env) (w:World):Prop:=TW z Tryz.prog 41 (segTodo b10 p) (QR Tryz.prog [.cell 4 39,.cell 5 49] R) ρ w
theorem s10_1 (R:Ko):∀ ρ w,(L10_1 (F10_1 R)) ρ w→T10 z0 R q10_1 ρ w:=by
 intro ρ w h
 obtain ⟨x4,e4,h⟩:=onA_of h
 obtain ⟨x5,e5,h⟩:=onA_of h
 obtain ⟨x6,e6,h⟩:=onA_of h
 obtain ⟨x7,e7,h⟩:=onA_of h
 rw [← upds_same (ρ:=ρ) [(4,.pointer (some x4)),(5,.pointer (some x5)),(6,.pointer (some x6)),(7,.pointer (some x7))] (alc e4 (alc e5 (alc e6 (alc e7 aln))))]
 exact sg (cuts:=[]) trivial h
theorem s10_0 (R:Ko):∀ ρ w,(L10_0 (F10_0 R)) ρ w→T10 z0 R q10_0 ρ w:=by
 intro ρ w h
 obtain ⟨x0,e0,h⟩:=onP_of h
 obtain ⟨x3,e3,h⟩:=onA_of h
 obtain ⟨x4,e4,h⟩:=onA_of h
 obtain ⟨x5,e5,h⟩:=onA_of h
 obtain ⟨x6,e6,h⟩:=onA_of h
 obtain ⟨x7,e7,h⟩:=onA_of h
 rw [← upds_same (ρ:=ρ) [(0,.pointer x0),(3,.pointer (some x3)),(4,.pointer (some x4)),(5,.pointer (some x5)),(6,.pointer (some x6)),(7,.pointer (some x7))] (alc e0 (alc e3 (alc e4 (alc e5 (alc e6 (alc e7 aln))))))]
 exact sg (cuts:=[(q10_1,L10_1 (F10_1 R))]) ⟨s10_1 R,trivial⟩ h
theorem c10 {R:Ko} {x0:Option Addr} {x1:Array Value} {w:World} (h:F10 R x0 x1 w):Ct Tryz.prog 10 #[.pointer x0,.agg x1] w R :=
 ctS (args:=[.pointer x0,.agg x1]) (body:=b10) (n:=41) (rs:=[.cell 4 39,.cell 5 49]) Tryz.func10
  (sg (cuts:=[(q10_0,L10_0 (F10_0 R))]) ⟨s10_0 R,trivial⟩ h)
variable {K:Ko} {w w':World}
def StV.path (s:StV):ByteArray:=if sEq s.at_ sRoot=true then s.nm else s.at_++sSlash++s.nm
open Classical in
noncomputable def updS (g:ByteArray→Option Int) (a:ByteArray) (h:Int):ByteArray→Option Int:=fun t=>if t=a then some h else g t
noncomputable def givesD (D:Wd) (s:StV) (h:Int):Wd :=
 if s.k=4 then ⟨D.nd,updS D.tk s.full h⟩
 else ⟨updS (belowD D s.path).nd s.path h,(belowD D s.path).tk⟩
noncomputable def nextD (D:Wd) (s:StV) (a:AnsA):Wd:=if a.err=0∧(s.k=1∨s.k=4) then givesD D s a.hd else D
section
variable {lab:Nat→Nat} {q x k m n:Nat} {Kk:Kn} {D:Wd} {s:StV}
theorem SW.set_nd {a:ByteArray} {h:Int} {D':Wd} (hw:SW w lab q x k m n Kk D) (hd:D'=⟨updS D.nd a h,D.tk⟩):∃ w',(Instr.mapUpdate 130 (.map (some m)) (.string a) (I h)).run Tryz.prog w=.ok () w'∧Kp (·=m) w w'∧SW w' lab q x k m n Kk D':=by
 classical
 obtain ⟨w',hr,kp,hm⟩:=hw.nd.upd keyS u130 u9s a (I h)
 refine ⟨w',hr,kp,hw.kr.kp kp fun y hy e=>?_,kp.bk hw.hd fun e=>?_,?_,?_,hw.lx,hw.lm,hw.ln,hw.ne⟩
 ·rw [e,hw.lm] at hy; unfold inK at hy; omega
 ·obtain ⟨es,cl,hm⟩:=hw.nd; exact ne_of_bk hw.hd hm.hp (fun e=>by cases e) e
 ·rw [hd]
  have:=hv_upd D.nd a (some h)
  rw [show updS D.nd a h=fun s=>if s=a then some h else D.nd s from by funext t; unfold updS; by_cases e:t=a <;> simp [e],← this]
  exact hm
 ·rw [hd]; exact hw.tk.kp kp (Ne.symm hw.ne)
theorem SW.set_tk {a:ByteArray} {h:Int} {D':Wd} (hw:SW w lab q x k m n Kk D) (hd:D'=⟨D.nd,updS D.tk a h⟩):∃ w',(Instr.mapUpdate 130 (.map (some n)) (.string a) (I h)).run Tryz.prog w=.ok () w'∧Kp (·=n) w w'∧SW w' lab q x k m n Kk D':=by
 classical
 obtain ⟨w',hr,kp,hm⟩:=hw.tk.upd keyS u130 u9s a (I h)
 refine ⟨w',hr,kp,hw.kr.kp kp fun y hy e=>?_,kp.bk hw.hd fun e=>?_,?_,?_,hw.lx,hw.lm,hw.ln,hw.ne⟩
 ·rw [e,hw.ln] at hy; unfold inK at hy; omega
 ·obtain ⟨es,cl,hm⟩:=hw.tk; exact ne_of_bk hw.hd hm.hp (fun e=>by cases e) e
 ·rw [hd]; exact hw.nd.kp kp hw.ne
 ·rw [hd]
  have:=hv_upd D.tk a (some h)
  rw [show updS D.tk a h=fun s=>if s=a then some h else D.tk s from by funext t; unfold updS; by_cases e:t=a <;> simp [e],← this]
  exact hm
theorem k36 {h:Int} (hw:SW w lab q x k m n Kk D) (hs:s.ok) (hR:∀ w',Kp (fun y=>y=m∨y=n) w w'→SW w' lab q x k m n Kk (givesD D s h)→K (.tuple #[]) w'):Ct Tryz.prog 36 #[Pt x 0,.agg s.cells.toArray,I h] w K:=by
 refine c36 ?_
 unfold F36
 unfold StV.ok at hs
 refine new_k s.cells fun w1 k1 b1 s1=>?_
 have hw1:=hw.no k1
 have g4:s.k=4→givesD D s h=⟨D.nd,updS D.tk s.full h⟩:=fun e=>by unfold givesD; rw [if_pos e]
 have g1:s.k≠4→givesD D s h=⟨updS (belowD D s.path).nd s.path h,(belowD D s.path).tk⟩:=fun e=>by unfold givesD; rw [if_neg e]
 simp only [SS,b1.rd (o:=1) (v:=I s.k) rfl]
 by_cases e4:s.k=4
 ·rw [if_pos e4]
  have hg:=g4 e4
  simp only [SS,hw1.hd.rd (o:=2) (v:=.map (some n)) rfl,b1.rd (o:=2) (v:=.string s.at_) rfl,b1.rd (o:=3) (v:=.string s.nm) rfl]
  rw [cat_dot (by omega)]
  simp only [SS]
  rw [cat_c (by rw [size_app]; show _+1+_≤_; omega)]
  simp only [SS]
  obtain ⟨w2,hr,k2,hw2⟩:=(hw1.no (Kp.dr No w1 (w1.drawn+1))).set_tk hg
  exact ⟨w2,hr,hR w2 ((k1.no _).trans (k2.drL.mono fun _ _=>.inr)) hw2⟩
 ·rw [if_neg e4]
  have hg:=g1 e4
  simp only [SS,b1.rd (o:=2) (v:=.string s.at_) rfl,b1.rd (o:=3) (v:=.string s.nm) rfl]
  rw [show (s.at_.toList == (⟨#[114,111,111,116]⟩:ByteArray).toList)=sEq s.at_ sRoot from rfl]
  have fin:s.path.size<9223372036854775800→Ct Tryz.prog 84 #[Pt x 0,.string s.path] w1 fun v34 w3=>onSome (some ⟨x,0,none⟩) fun x36=>Lc (x36.add 1) w3 fun v38=>onM v38 fun x38=>Ru Tryz.prog (Instr.mapUpdate 130 (.map x38) (.string s.path) (.int .i64 h)) w3 fun w4=>K (.tuple #[]) w4:=by
   intro hp
   refine k84 hw1 hp fun w3 k3 hw3=>?_
   simp only [SS,hw3.hd.rd (o:=1) (v:=.map (some m)) rfl]
   obtain ⟨w2,hr,k2,hw2⟩:=hw3.set_nd hg
   exact ⟨w2,hr,hR w2 (((k1.no _).trans k3).trans (k2.mono fun _ _=>.inl)) hw2⟩
  simp only [SS] at fin
  unfold StV.path at fin
  cases e:sEq s.at_ sRoot with
  | true =>
   rw [if_pos e] at fin
   simp only [SS]
   exact fin (by omega)
  | false =>
   rw [if_neg (by rw [e]; decide)] at fin
   simp only [SS]
   rw [cat_slash (by omega)]
   simp only [SS]
   rw [cat_c (by rw [size_app]; show _+1+_≤_; omega)]
   simp only [SS]
   have hz:(s.at_++sSlash++s.nm).size=s.at_.size+1+s.nm.size:=by rw [size_app,size_app]; rfl
   exact fin (by rw [hz]; omega)
theorem SW.stp {lab':Nat→Nat} {K':Kn} (h:SW w lab q x k m n Kk D) (st:Stp w w' lab lab' q) (hk:KR w' lab' q k K'):SW w' lab' q x k m n K' D:=by
 have nin:∀ {y},lab y=0→¬ inK q (lab y):=fun e=>by rw [e]; unfold inK; omega
 exact ⟨hk,st.kp.bk h.hd (nin h.lx),h.nd.kp st.kp (nin h.lm),h.tk.kp st.kp (nin h.ln),by rw [st.old x h.hd.lt,h.lx],by rw [st.old m h.nd.lt,h.lm],by rw [st.old n h.tk.lt,h.ln],h.ne⟩
theorem SW.nz (h:SW w lab q x k m n Kk D) (hg:G0 w):m≠0∧n≠0:=by
 unfold G0 at hg
 constructor
 ·rintro rfl
  obtain ⟨es,cl,hm⟩:=h.nd
  simp [World.cell?,hm.hp] at hg
 ·rintro rfl
  obtain ⟨es,cl,hm⟩:=h.tk
  simp [World.cell?,hm.hp] at hg
theorem f10_1 {u:World} {b4 b5 b6 b7:Nat} {o:OpV} {cs c4 c5:List Value} (h4:Bk u b4 c4 39) (l4:c4.length=10) (h5:Bk u b5 c5 49) (l5:c5.length=34) (h6:Bk u b6 o.cells 39) (h7:Bk u b7 cs 49) (l7:cs.length=34) (o7:∀ v∈cs,oneCell v=true)
  (n67:b6≠b4) (n47:b4≠b7) (n45:b4≠b5) (hR:∀ w',Kp (fun y=>y=b4∨y=b5) u w'→K (.tuple #[.agg o.cells.toArray,.agg cs.toArray]) w'):F10_1 K ⟨b4,0,none⟩ ⟨b5,0,none⟩ ⟨b6,0,none⟩ ⟨b7,0,none⟩ u:=by
 unfold F10_1
 simp only [SS]
 have e7:∀ {u:World},Bk u b7 cs 49→∀ k,La 34 ⟨b7,0,none⟩ u k=k cs.toArray:=fun h k=>h.la0 l7 k
 have e6:∀ {u:World},Bk u b6 o.cells 39→∀ k,La 10 ⟨b6,0,none⟩ u k=k o.cells.toArray:=fun h k=>h.la0 o.len k
 rw [e6 h6,e7 h7]
 refine sa_k h4 o.len (by omega) o.one fun w1 k1 b1 s1=>?_
 rw [over_all _ _ (by rw [l4]; rfl)] at b1
 have b17:Bk w1 b7 cs 49:=k1.bk h7 (Ne.symm n47)
 rw [show Ha 34 ⟨b7,0,none⟩ cs.toArray w1=True from b17.ha0 l7]
 refine ⟨trivial,?_⟩
 refine sa_k (k1.bk h5 (Ne.symm n45)) l7 (by omega) o7 fun w2 k2 b2 s2=>?_
 rw [over_all _ _ (by rw [l5,l7])] at b2
 have b14:Bk w2 b4 o.cells 39:=k2.bk b1 n45
 obtain ⟨w3,hw3⟩:∃ y,y=dr w2 (u.drawn+1):=⟨_,rfl⟩
 rw [← hw3]
 have d4:Bk w3 b4 o.cells 39:=by rw [hw3]; exact b14
 have d5:Bk w3 b5 cs 49:=by rw [hw3]; exact b2
 rw [res_ag ld39 d4 o.len,res_ag ld49 d5 l7]
 refine hR w3 ?_
 rw [hw3]
 exact ((k1.mono fun _ _=>.inl).trans (k2.mono fun _ _=>.inr)).drR _
structure DoR (w w':World) (lab lab':Nat→Nat) (q x k m n:Nat) (Kk:Kn) (D:Wd) (s:StV) (cs:List Value):Prop where
 kp:Kp (fun y=>inK q (lab y)∨y=m∨y=n) w w'
 old:∀ x,x<w.heap.size→lab' x=lab x
 new:∀ x,w.heap.size≤x→lab' x≠0→inK q (lab' x)
 g0:G0 w'
 l0:lab' 0=0
 sw:SW w' lab' q x k m n (applyK Kk (opD D s)).2 (nextD D s (applyK Kk (opD D s)).1)
 an:AnsAt w' w.heap.size cs (applyK Kk (opD D s)).1
set_option maxHeartbeats 4000000 in
theorem k10 (h:SW w lab q x k m n Kk D) (hs:s.ok) (hg:G0 w) (hl0:lab 0=0) (hR:∀ cs w' lab',DoR w w' lab lab' q x k m n Kk D s cs→K (.tuple #[.agg (opD D s).cells.toArray,.agg cs.toArray]) w'):Ct Tryz.prog 10 #[Pt x 0,.agg s.cells.toArray] w K:=by
 refine c10 ?_
 unfold F10
 obtain ⟨hm0,hn0⟩:=h.nz hg
 have h0:0<w.heap.size:=by
  rcases Nat.eq_zero_or_pos w.heap.size with h0 | h1
  ·unfold G0 at hg; simp [World.cell?,h0] at hg
  ·exact h1
 refine new_k s.cells fun w1 k1 b1 s1=>?_
 refine new_k zO.cells fun w2 k2 b2 s2=>?_
 refine new_k (zAns 0) fun w3 k3 b3 s3=>?_
 have k03:=(k1.trans k2).trans k3
 have b13:Bk w3 w.heap.size s.cells 53:=k3.bk (k2.bk b1 id) id
 have b23:Bk w3 w1.heap.size zO.cells 39:=k3.bk b2 id
 have ls:∀ {u:World},Bk u w.heap.size s.cells 53→∀ k,La 11 ⟨w.heap.size,0,none⟩ u k=k s.cells.toArray:=fun h k=>h.la0 rfl k
 simp only [SS]
 rw [ls b13]
 refine k35 (h.no k03) hs fun w6 k6=>?_
 simp only [SS]
 refine new_k zO.cells fun w7 k7 b7 s7=>?_
 have k37:=k6.trans k7
 refine sa_k b7 (opD D s).len (by decide) (opD D s).one fun w8 k8 b8 s8=>?_
 rw [over_all _ _ (by rfl)] at b8
 have k68:Kp No w6 w8:=k7.own k8 (by omega)
 have k38:Kp No w3 w8:=k6.trans k68
 have k08:=k03.trans k38
 have h8:=h.no k08
 have b18:Bk w8 w.heap.size s.cells 53:=k38.bk b13 id
 have b28:Bk w8 w1.heap.size zO.cells 39:=k38.bk b23 id
 have b38:Bk w8 w2.heap.size (zAns 0) 49:=k38.bk b3 id
 have z36:=k6.size
 have z68:=k68.size
 have bd:=h.bd
 have lz:∀ {b:Nat},w.heap.size≤b→lab b=0:=fun {b} hb=>by
  by_cases e:lab b=0
  ·exact e
  ·have:=bd b e; omega
 have nin:∀ {b:Nat},w.heap.size≤b→¬ inK q (lab b):=fun hb=>by rw [lz hb]; unfold inK; omega
 have l6:∀ {u:World},Bk u w6.heap.size (opD D s).cells 39→∀ k,La 10 ⟨w6.heap.size,0,none⟩ u k=k (opD D s).cells.toArray:=fun h k=>h.la0 (opD D s).len k
 simp only [h8.hd.rd (o:=0) (v:=Pt k 0) rfl,onP_eq]
 rw [l6 b8]
 have fin:∀ (w11:World) (lab':Nat→Nat) (b7:Nat) (cs:List Value),Kp (fun y=>inK q (lab y)) w w11→(∀ x,x<w8.heap.size→lab' x=lab x)→(∀ x,w8.heap.size≤x→lab' x≠0→inK q (lab' x))→SW w11 lab' q x k m n (applyK Kk (opD D s)).2 D →
   Bk w11 w.heap.size s.cells 53→Bk w11 w1.heap.size zO.cells 39→Bk w11 w2.heap.size (zAns 0) 49→Bk w11 w6.heap.size (opD D s).cells 39→Bk w11 b7 cs 49→w8.heap.size≤b7→(∃ B,w8.heap.size≤B∧AnsAt w11 B cs (applyK Kk (opD D s)).1) →
   F10_0 K (some ⟨x,0,none⟩) ⟨w.heap.size,0,none⟩ ⟨w1.heap.size,0,none⟩ ⟨w2.heap.size,0,none⟩ ⟨w6.heap.size,0,none⟩ ⟨b7,0,none⟩ w11:=by
  intro w11 lab' b7 cs kp old new h11 c1 c4 c5 c6 c7 hb7 ⟨B,hB,ha⟩
  have hm:=h.nd.lt
  have hn:=h.tk.lt
  have end_:∀ w12,Kp (fun y=>y=m∨y=n) w11 w12→SW w12 lab' q x k m n (applyK Kk (opD D s)).2 (nextD D s (applyK Kk (opD D s)).1)→F10_1 K ⟨w1.heap.size,0,none⟩ ⟨w2.heap.size,0,none⟩ ⟨w6.heap.size,0,none⟩ ⟨b7,0,none⟩ w12:=by
   intro w12 kk h12
   refine f10_1 (kk.bk c4 (by omega)) rfl (kk.bk c5 (by omega)) rfl (kk.bk c6 (by omega)) (kk.bk c7 (by omega)) ha.len ha.one (by omega) (by omega) (by omega) fun w13 k13=>?_
   have kf:Kp (fun y=>inK q (lab y)∨y=m∨y=n) w w13:=((kp.mono fun _ _=>.inl).trans (kk.mono fun _ _=>.inr)).step k13 fun i hi e=>by omega
   have oldw:∀ x,x<w.heap.size→lab' x=lab x:=fun x hx=>old x (by omega)
   refine hR cs w13 lab' ⟨kf,oldw,fun y hy hn=>?_,hg.kp kf ?_,?_,h12.kp k13 fun y hy e=>?_,((ha.kp kk fun y hy e=>by omega).kp k13 fun y hy e=>by omega).base (by omega)⟩
   ·by_cases h8y:y<w8.heap.size
    ·rw [old y h8y,lz hy] at hn; exact absurd rfl hn
    ·exact new y (by omega) hn
   ·rw [hl0]; unfold inK; omega
   ·rw [oldw 0 h0,hl0]
   ·have hxl:=h.hd.lt
    rcases hy with hy | rfl | rfl | rfl
    ·have hl4:lab' y=0:=by rw [old y (by omega),lz (by omega)]
     rw [hl4] at hy; unfold inK at hy; omega
    ·omega
    ·omega
    ·omega
  unfold F10_0
  have hc0:cs[0]?=some (I (applyK Kk (opD D s)).1.err)∧cs[1]?=some (I (applyK Kk (opD D s)).1.hd):=by
   obtain ⟨nc,tc,rfl,_,_⟩:=ha
   exact ⟨rfl,rfl⟩
  simp only [SS,c7.rd hc0.1]
  have stay:¬ ((applyK Kk (opD D s)).1.err=0∧(s.k=1∨s.k=4))→F10_1 K ⟨w1.heap.size,0,none⟩ ⟨w2.heap.size,0,none⟩ ⟨w6.heap.size,0,none⟩ ⟨b7,0,none⟩ w11:=fun hn=>end_ w11 (Kp.refl _ _) (by unfold nextD; rw [if_neg hn]; exact h11)
  have give:(applyK Kk (opD D s)).1.err=0→(s.k=1∨s.k=4)→Ct Tryz.prog 36 #[Pt x 0,.agg s.cells.toArray,I (applyK Kk (opD D s)).1.hd] w11 fun v38 w17=>F10_1 K ⟨w1.heap.size,0,none⟩ ⟨w2.heap.size,0,none⟩ ⟨w6.heap.size,0,none⟩ ⟨b7,0,none⟩ w17:=fun h1 h2 =>
   k36 h11 hs fun w12 k12 h12=>end_ w12 k12 (by unfold nextD; rw [if_pos ⟨h1,h2⟩]; exact h12)
  by_cases e0:(applyK Kk (opD D s)).1.err=0
  ·rw [if_pos e0]
   simp only [SS,c1.rd (o:=1) (v:=I s.k) rfl]
   by_cases e1:s.k=1
   ·rw [if_pos e1,ls c1]
    simp only [SS,c7.rd hc0.2]
    exact give e0 (.inl e1)
   ·rw [if_neg e1]
    by_cases e4:s.k=4
    ·rw [if_pos e4,ls c1]
     simp only [SS,c7.rd hc0.2]
     exact give e0 (.inr e4)
    ·rw [if_neg e4]
     exact stay (by omega)
  ·rw [if_neg e0]
   exact stay (by omega)
 refine ⟨?_,?_⟩
 ·refine k12 (w:=dr w8 _) (h8.kr.no (Kp.dr No w8 _)) ((hg.kp k08 id).kp (Kp.dr No w8 _) id) hl0 fun cs w9 lab' st hk ha=>?_
  simp only [SS]
  have st8:Stp w8 w9 lab lab' q:=⟨st.kp.drL,st.old,st.new⟩
  have h9:=h8.stp st8 hk
  refine new_k (zAns 0) fun w10 k10 b10 s10=>?_
  refine sa_k b10 ha.len (by rw [show (zAns 0).length=34 from rfl]; omega) ha.one fun w11 k11 b11 s11=>?_
  rw [over_all _ _ (by rw [ha.len]; rfl)] at b11
  have k911:Kp No w9 w11:=k10.own k11 (by omega)
  have z89:=st8.kp.size
  refine fin w11 lab' w9.heap.size cs ((k08.no _).trans (st8.kp.trans (k911.no _))) st8.old st8.new (h9.no k911) ?_ ?_ ?_ ?_ b11 (by omega) ⟨w8.heap.size,Nat.le_refl _,ha.kp k911 fun _ _=>id⟩
  ·exact k911.bk (st8.kp.bk b18 (nin (by omega))) id
  ·exact k911.bk (st8.kp.bk b28 (nin (by omega))) id
  ·exact k911.bk (st8.kp.bk b38 (nin (by omega))) id
  ·exact k911.bk (st8.kp.bk b8 (nin (by omega))) id
 ·refine new_k (zAns 0) fun w12 kk12 b12 s12=>?_
  have k812:Kp No w8 w12:=kk12.drL
  simp only [dr_heap] at b12 s12
  have h12:=h8.no k812
  have c8:Bk w12 w6.heap.size (opD D s).cells 39:=k812.bk b8 id
  rw [show Ha 10 ⟨w6.heap.size,0,none⟩ (opD D s).cells.toArray w12=True from c8.ha0 (opD D s).len,h12.hd.hc (o:=0) (v:=Pt k 0) rfl]
  refine ⟨trivial,trivial,?_⟩
  refine k12 h12.kr (hg.kp (k08.trans k812) id) hl0 fun cs w13 lab' st hk ha=>?_
  simp only [SS]
  have h13:=h12.stp st hk
  have z:=st.kp.size
  have b13':Bk w13 w8.heap.size (zAns 0) 49:=st.kp.bk b12 (nin (by omega))
  refine sa_k b13' ha.len (by rw [show (zAns 0).length=34 from rfl]; omega) ha.one fun w14 k14 b14 s14=>?_
  rw [over_all _ _ (by rw [ha.len]; rfl)] at b14
  have l8:lab' w8.heap.size=0:=by rw [st.old _ (by omega),lz (by omega)]
  have kp14:Kp (fun y=>inK q (lab y)) w w14:=((((k08.trans k812).no _).trans st.kp)).own k14 (by omega)
  have nb:∀ {b:Nat} {c:List Value} {T:TypeId},Bk w8 b c T→w.heap.size≤b→Bk w14 b c T:=fun hb hx=>k14.bk (st.kp.bk (k812.bk hb id) (nin hx)) (by have:=hb.lt; omega)
  refine fin w14 lab' w8.heap.size cs kp14 (fun y hy=>st.old y (by omega)) (fun y hy hn=>?_) (h13.kp k14 fun y hy e=>?_) (nb b18 (by omega)) (nb b28 (by omega)) (nb b38 (by omega)) (nb b8 (by omega)) b14 (Nat.le_refl _) ⟨w12.heap.size,by omega,ha.kp k14 fun y hy e=>by omega⟩
  ·by_cases e:y<w12.heap.size
   ·rw [st.old y e,lz (by omega)] at hn; exact absurd rfl hn
   ·exact st.new y (by omega) hn
  ·have q1:=h.hd.lt
   have q2:=h.nd.lt
   have q3:=h.tk.lt
   have q4:=k08.size
   rcases hy with hy | rfl | rfl | rfl
   ·rw [e,l8] at hy; unfold inK at hy; omega
   ·omega
   ·omega
   ·omega
end
end
section
open Sy
def F9_1B (R:Ko) (C0:Addr→Option Addr→Nat→Nat→Int→Int→World→Prop) (C1:Addr→Addr→Option Addr→Nat→Nat→Int→Int→Option Addr→Nat→Nat→Int→Int→World→Prop) (x6:Addr) (x8:Addr) (a19:Option Addr) (l19 c19:Nat) (x20:Int) (x21:Int) (a42:Option Addr) (l42 c42:Nat) (x43:Int) (x44:Int) (w:World):Prop:=Ifm (decide ((x44:Int)<x43)) (Ix a42 l42 x44 1 fun x47=>Lc x47 w fun v48=>onI v48 fun x48=>Lc (x6.add 2) w.drew fun v52=>onM v52 fun x52=>Lc (x8.add 0) w.drew fun v54=>onS v54 fun x54=>Rd Tryz.prog (Bin .add 9 (.tmp 54) (.const (.string (⟨#[46,116]⟩))) (.string x54) (.string (⟨#[46,116]⟩))) w.drew fun v55=>onS v55 fun x55=>Ct Tryz.prog 34 #[.int .i64 x44] w.drew fun v57 w7=>onS v57 fun x57=>Hd Tryz.prog (Bin .add 9 (.tmp 54) (.const (.string (⟨#[46,116]⟩))) (.string x54) (.string (⟨#[46,116]⟩))) (.string x55) w7∧Hc (x8.add 0) (.string x54) w7∧Hc (x6.add 2) (.map x52) w7∧Rd Tryz.prog (Bin .add 9 (.tmp 55) (.tmp 57) (.string x55) (.string x57)) w7 fun v58=>onS v58 fun x58=>Ru Tryz.prog (Instr.mapUpdate 130 (.map x52) (.string x58) (.int .i64 x48)) w7 fun w8=>C1 x6 x8 a19 l19 c19 x20 x21 a42 l42 c42 x43 (IntKind.i64.wrap (x44+1)) w8) (C0 x6 a19 l19 c19 x20 (IntKind.i64.wrap (x21+1)) w)
def F9_1 (R:Ko) (C0:Addr→Option Addr→Nat→Nat→Int→Int→World→Prop) (x6:Addr) (x8:Addr) (a19:Option Addr) (l19 c19:Nat) (x20:Int) (x21:Int) (a42:Option Addr) (l42 c42:Nat) (x43:Int) (x44:Int) (w:World):Prop:=∃ (Inv:Addr→Addr→Option Addr→Nat→Nat→Int→Int→Option Addr→Nat→Nat→Int→Int→World→Prop) (μ:Addr→Addr→Option Addr→Nat→Nat→Int→Int→Option Addr→Nat→Nat→Int→Int→World→Nat),Inv x6 x8 a19 l19 c19 x20 x21 a42 l42 c42 x43 x44 w∧∀ x6 x8 a19 l19 c19 x20 x21 a42 l42 c42 x43 x44 w,Inv x6 x8 a19 l19 c19 x20 x21 a42 l42 c42 x43 x44 w→F9_1B R C0 (fun x6' x8' a19' l19' c19' x20' x21' a42' l42' c42' x43' x44' w'=>Inv x6' x8' a19' l19' c19' x20' x21' a42' l42' c42' x43' x44' w'∧μ x6' x8' a19' l19' c19' x20' x21' a42' l42' c42' x43' x44' w'<μ x6 x8 a19 l19 c19 x20 x21 a42 l42 c42 x43 x44 w) x6 x8 a19 l19 c19 x20 x21 a42 l42 c42 x43 x44 w
def F9_0B (R:Ko) (C0:Addr→Option Addr→Nat→Nat→Int→Int→World→Prop) (x6:Addr) (a19:Option Addr) (l19 c19:Nat) (x20:Int) (x21:Int) (w:World):Prop:=Ifm (decide ((x21:Int)<x20)) (Ix a19 l19 x21 3 fun x23=>La 3 x23 w fun x24=>New (.cells (.agg #[.string (⟨#[]⟩),.int .i64 0,.slice none 0 0]:Value).cells 134) w fun x8 w4=>Sa 3 x8 x24 w4 fun w5=>Lc (x8.add 0) w5 fun v26=>onS v26 fun x26=>Ifm (!(x26.toList == (⟨#[115,108,97,99,107]⟩:ByteArray).toList)) (Lc (x8.add 0) w5 fun v30=>onS v30 fun x30=>Ifm (!(x30.toList == (⟨#[114,111,111,116]⟩:ByteArray).toList)) (Lc (x6.add 1) w5.drew fun v36=>onM v36 fun x36=>Lc (x8.add 0) w5.drew fun v38=>onS v38 fun x38=>Lc (x8.add 1) w5.drew fun v40=>onI v40 fun x40=>Ru Tryz.prog (Instr.mapUpdate 130 (.map x36) (.string x38) (.int .i64 x40)) w5.drew fun w6=>Lc (x8.add 2) w6 fun v42=>onL v42 fun a42 l42 c42=>F9_1 R C0 x6 x8 a19 l19 c19 x20 x21 a42 l42 c42 (l42:Nat) 0 w6) (Lc (x8.add 2) w5 fun v42=>onL v42 fun a42 l42 c42=>F9_1 R C0 x6 x8 a19 l19 c19 x20 x21 a42 l42 c42 (l42:Nat) 0 w5)) (Lc (x8.add 2) w5 fun v42=>onL v42 fun a42 l42 c42=>F9_1 R C0 x6 x8 a19 l19 c19 x20 x21 a42 l42 c42 (l42:Nat) 0 w5)) (R (.tuple #[.pointer (some x6),.nilIface]) w)
def F9_0 (R:Ko) (x6:Addr) (a19:Option Addr) (l19 c19:Nat) (x20:Int) (x21:Int) (w:World):Prop:=∃ (Inv:Addr→Option Addr→Nat→Nat→Int→Int→World→Prop) (μ:Addr→Option Addr→Nat→Nat→Int→Int→World→Nat),Inv x6 a19 l19 c19 x20 x21 w∧∀ x6 a19 l19 c19 x20 x21 w,Inv x6 a19 l19 c19 x20 x21 w→F9_0B R (fun x6' a19' l19' c19' x20' x21' w'=>Inv x6' a19' l19' c19' x20' x21' w'∧μ x6' a19' l19' c19' x20' x21' w'<μ x6 a19 l19 c19 x20 x21 w) x6 a19 l19 c19 x20 x21 w
def F9 (R:Ko) (x0:Option Addr) (a1:Option Addr) (l1 c1:Nat) (w:World):Prop:=Ifm x0.isNone (R (.tuple #[.pointer none,.iface 129 (.int .i64 1)]) w) (Rv Tryz.prog (Instr.makeMap 130 none) w fun v15 w1=>onM v15 fun x15=>Rv Tryz.prog (Instr.makeMap 130 none) w1 fun v16 w2=>onM v16 fun x16=>New (.cells (.agg #[.pointer x0,.map x15,.map x16]:Value).cells 132) w2 fun x18 w3=>F9_0 R x18 a1 l1 c1 (l1:Nat) 0 w3)
noncomputable def b9:Code:=Tryz.f9.body.getD .skip
def q9_1:List Bool:=[false,true,true,true,false,false,true,true,false,false,true,false,true,true,true]
def L9_1 (F:Addr→Addr→Option Addr→Nat→Nat→Int→Int→Option Addr→Nat→Nat→Int→Int→World→Prop):Env→World→Prop:=fun ρ w=>onA (ρ 6) fun x6=>onA (ρ 8) fun x8=>onL (ρ 19) fun a19 l19 c19=>onI (ρ 20) fun x20=>onI (ρ 21) fun x21=>onL (ρ 42) fun a42 l42 c42=>onI (ρ 43) fun x43=>onI (ρ 44) fun x44=>F x6 x8 a19 l19 c19 x20 x21 a42 l42 c42 x43 x44 w
def q9_0:List Bool:=[false,true,false,true,true,true]
def L9_0 (F:Addr→Option Addr→Nat→Nat→Int→Int→World→Prop):Env→World→Prop:=fun ρ w=>onA (ρ 6) fun x6=>onL (ρ 19) fun a19 l19 c19=>onI (ρ 20) fun x20=>onI (ρ 21) fun x21=>F x6 a19 l19 c19 x20 x21 w
abbrev T9 (z:Fr) (R:Ko) (p:List Bool) (ρ:Env) (w:World):Prop:=TW z Tryz.prog 63 (segTodo b9 p) (QR Tryz.prog [.tmp 4,.tmp 5] R) ρ w
theorem s9_1 (R:Ko) (C0:Addr→Option Addr→Nat→Nat→Int→Int→World→Prop) (h0:∀ ρ w,(L9_0 C0) ρ w→T9 z0 R q9_0 ρ w):∀ ρ w,(L9_1 (F9_1 R C0)) ρ w→T9 z0 R q9_1 ρ w:=by
 intro ρ w h
 obtain ⟨x6,e6,h⟩:=onA_of h
 obtain ⟨x8,e8,h⟩:=onA_of h
 obtain ⟨a19,l19,c19,e19,h⟩:=onL_of h
 obtain ⟨x20,e20,h⟩:=onI_of h
 obtain ⟨x21,e21,h⟩:=onI_of h
 obtain ⟨a42,l42,c42,e42,h⟩:=onL_of h
 obtain ⟨x43,e43,h⟩:=onI_of h
 obtain ⟨x44,e44,h⟩:=onI_of h
 obtain ⟨Inv,μ,hi,hb⟩:=h
 refine lpT (fun m=>L9_1 (fun x6 x8 a19 l19 c19 x20 x21 a42 l42 c42 x43 x44 w=>Inv x6 x8 a19 l19 c19 x20 x21 a42 l42 c42 x43 x44 w∧μ x6 x8 a19 l19 c19 x20 x21 a42 l42 c42 x43 x44 w=m)) ?_ (μ x6 x8 a19 l19 c19 x20 x21 a42 l42 c42 x43 x44 w) ρ w ?_
 ·intro m ρ w ih h
  obtain ⟨x6,e6,h⟩:=onA_of h
  obtain ⟨x8,e8,h⟩:=onA_of h
  obtain ⟨a19,l19,c19,e19,h⟩:=onL_of h
  obtain ⟨x20,e20,h⟩:=onI_of h
  obtain ⟨x21,e21,h⟩:=onI_of h
  obtain ⟨a42,l42,c42,e42,h⟩:=onL_of h
  obtain ⟨x43,e43,h⟩:=onI_of h
  obtain ⟨x44,e44,h⟩:=onI_of h
  obtain ⟨hv,hm⟩:=h
  subst hm
  have hh:=hb x6 x8 a19 l19 c19 x20 x21 a42 l42 c42 x43 x44 w hv
  obtain ⟨C1,hC⟩:∃ C,C=fun x6' x8' a19' l19' c19' x20' x21' a42' l42' c42' x43' x44' w'=>Inv x6' x8' a19' l19' c19' x20' x21' a42' l42' c42' x43' x44' w'∧μ x6' x8' a19' l19' c19' x20' x21' a42' l42' c42' x43' x44' w'<μ x6 x8 a19 l19 c19 x20 x21 a42 l42 c42 x43 x44 w:=⟨_,rfl⟩
  rw [← hC] at hh
  have h1:∀ ρ w,(L9_1 C1) ρ w→T9 z0 R q9_1 ρ w:=by
   intro ρ' w' h'
   refine ih ρ' w' ?_
   obtain ⟨x6',e6',h'⟩:=onA_of h'
   obtain ⟨x8',e8',h'⟩:=onA_of h'
   obtain ⟨a19',l19',c19',e19',h'⟩:=onL_of h'
   obtain ⟨x20',e20',h'⟩:=onI_of h'
   obtain ⟨x21',e21',h'⟩:=onI_of h'
   obtain ⟨a42',l42',c42',e42',h'⟩:=onL_of h'
   obtain ⟨x43',e43',h'⟩:=onI_of h'
   obtain ⟨x44',e44',h'⟩:=onI_of h'
   rw [hC] at h'
   refine ⟨_,h'.2,?_⟩
   simp only [e6',e8',e19',e20',e21',e42',e43',e44',L9_1,ons]
   exact ⟨h'.1,by trivial⟩
  rw [← upds_same (ρ:=ρ) [(6,.pointer (some x6)),(8,.pointer (some x8)),(19,.slice a19 l19 c19),(20,.int .i64 x20),(21,.int .i64 x21),(42,.slice a42 l42 c42),(43,.int .i64 x43),(44,.int .i64 x44)] (alc e6 (alc e8 (alc e19 (alc e20 (alc e21 (alc e42 (alc e43 (alc e44 aln))))))))]
  exact sg (cuts:=[(q9_0,L9_0 C0),(q9_1,L9_1 C1)]) ⟨h0,h1,trivial⟩ hh
 ·simp only [e6,e8,e19,e20,e21,e42,e43,e44,L9_1,ons]
  exact ⟨hi,by trivial⟩
theorem s9_0 (R:Ko):∀ ρ w,(L9_0 (F9_0 R)) ρ w→T9 z0 R q9_0 ρ w:=by
 intro ρ w h
 obtain ⟨x6,e6,h⟩:=onA_of h
 obtain ⟨a19,l19,c19,e19,h⟩:=onL_of h
 obtain ⟨x20,e20,h⟩:=onI_of h
 obtain ⟨x21,e21,h⟩:=onI_of h
 obtain ⟨Inv,μ,hi,hb⟩:=h
 refine lpT (fun m=>L9_0 (fun x6 a19 l19 c19 x20 x21 w=>Inv x6 a19 l19 c19 x20 x21 w∧μ x6 a19 l19 c19 x20 x21 w=m)) ?_ (μ x6 a19 l19 c19 x20 x21 w) ρ w ?_
 ·intro m ρ w ih h
  obtain ⟨x6,e6,h⟩:=onA_of h
  obtain ⟨a19,l19,c19,e19,h⟩:=onL_of h
  obtain ⟨x20,e20,h⟩:=onI_of h
  obtain ⟨x21,e21,h⟩:=onI_of h
  obtain ⟨hv,hm⟩:=h
  subst hm
  have hh:=hb x6 a19 l19 c19 x20 x21 w hv
  obtain ⟨C0,hC⟩:∃ C,C=fun x6' a19' l19' c19' x20' x21' w'=>Inv x6' a19' l19' c19' x20' x21' w'∧μ x6' a19' l19' c19' x20' x21' w'<μ x6 a19 l19 c19 x20 x21 w:=⟨_,rfl⟩
  rw [← hC] at hh
  have h0:∀ ρ w,(L9_0 C0) ρ w→T9 z0 R q9_0 ρ w:=by
   intro ρ' w' h'
   refine ih ρ' w' ?_
   obtain ⟨x6',e6',h'⟩:=onA_of h'
   obtain ⟨a19',l19',c19',e19',h'⟩:=onL_of h'
   obtain ⟨x20',e20',h'⟩:=onI_of h'
   obtain ⟨x21',e21',h'⟩:=onI_of h'
   rw [hC] at h'
   refine ⟨_,h'.2,?_⟩
   simp only [e6',e19',e20',e21',L9_0,ons]
   exact ⟨h'.1,by trivial⟩
  rw [← upds_same (ρ:=ρ) [(6,.pointer (some x6)),(19,.slice a19 l19 c19),(20,.int .i64 x20),(21,.int .i64 x21)] (alc e6 (alc e19 (alc e20 (alc e21 aln))))]
  exact sg (cuts:=[(q9_1,L9_1 (F9_1 R C0))]) ⟨s9_1 R C0 h0,trivial⟩ hh
 ·simp only [e6,e19,e20,e21,L9_0,ons]
  exact ⟨hi,by trivial⟩
theorem c9 {R:Ko} {x0:Option Addr} {a1:Option Addr} {l1 c1:Nat} {w:World} (h:F9 R x0 a1 l1 c1 w):Ct Tryz.prog 9 #[.pointer x0,.slice a1 l1 c1] w R :=
 ctS (args:=[.pointer x0,.slice a1 l1 c1]) (body:=b9) (n:=63) (rs:=[.tmp 4,.tmp 5]) Tryz.func9
  (sg (cuts:=[(q9_0,L9_0 (F9_0 R))]) ⟨s9_0 R,trivial⟩ h)
def F42 (R:Ko) (x0:Option Nat) (w:World):Prop:=Rd Tryz.prog (Bin .eql 130 (.tmp 3) (.const (.map none)) (.map x0) (.map none)) w fun v4=>onB v4 fun x4=>Ifm x4 (R (.map none) w) (Rx Tryz.prog 102 #[.iface 130 (.map x0)] w fun v7 w1=>Rd Tryz.prog (Instr.typeAssert v7 20 130 false) w1 fun v8=>onM v8 fun x8=>R (.map x8) w1)
noncomputable def b42:Code:=Tryz.f42.body.getD .skip
theorem c42 {R:Ko} {x0:Option Nat} {w:World} (h:F42 R x0 w):Ct Tryz.prog 42 #[.map x0] w R :=
 ctS (args:=[.map x0]) (body:=b42) (n:=9) (rs:=[.tmp 2]) Tryz.func42
  (sg (cuts:=[]) trivial h)
def F13 (R:Ko) (x0:Option Addr) (x1:Option Addr) (w:World):Prop:=Ifm x0.isNone (R (.tuple #[.pointer none,.iface 129 (.int .i64 1)]) w) (Ifm x1.isNone (R (.tuple #[.pointer none,.iface 129 (.int .i64 1)]) w) (onSome x0 fun x15=>Lc (x15.add 1) w.drew fun v17=>onM v17 fun x17=>onSome x0 fun x20=>Lc (x20.add 2) w.drew fun v22=>onM v22 fun x22=>Ct Tryz.prog 42 #[.map x17] w.drew fun v18 w1=>onM v18 fun x18=>Hc (x20.add 2) (.map x22) w1∧Ct Tryz.prog 42 #[.map x22] w1 fun v23 w2=>onM v23 fun x23=>New (.cells (.agg #[.pointer x1,.map x18,.map x23]:Value).cells 132) w2 fun x25 w3=>R (.tuple #[.pointer (some x25),.nilIface]) w3))
noncomputable def b13:Code:=Tryz.f13.body.getD .skip
theorem c13 {R:Ko} {x0:Option Addr} {x1:Option Addr} {w:World} (h:F13 R x0 x1 w):Ct Tryz.prog 13 #[.pointer x0,.pointer x1] w R :=
 ctS (args:=[.pointer x0,.pointer x1]) (body:=b13) (n:=26) (rs:=[.tmp 4,.tmp 5]) Tryz.func13
  (sg (cuts:=[]) trivial h)
variable {K:Ko} {w w':World}
theorem map_nil' {P:Program} {t a b:TypeId} (ht:P.underlying t=some (.map a b)) (p:Option Nat) (x y:Operand) (w:World) (k:Value→Prop):Rd P (Bin .eql t x y (.map p) (.map none)) w k=k (.bool p.isNone):=by
 refine Rd_ok ?_ k
 have e':∀ d:Nat,(Op.equalIn (d+1) t (.map p) (.map none)).run P w=.ok p.isNone w:=fun d=>by cases p <;> simp [Op.equalIn,run_underlying ht]
 have e:=e' 9999
 simp only [Bin,eqGuard,binOp]
 simp [show Op.equal t (.map p) (.map none)=Op.equalIn (9999+1) t (.map p) (.map none) from rfl,e]
theorem map_nil (p:Option Nat) (x y:Operand) (w:World) (k:Value→Prop):Rd Tryz.prog (Bin .eql 130 x y (.map p) (.map none)) w k=k (.bool p.isNone):=map_nil' u130 p x y w k
theorem as_map' {P:Program} {t a b x:TypeId} (ht:P.underlying t=some (.map a b)) (v:Value) (w:World) (k:Value→Prop):Rd P (Instr.typeAssert (.iface t v) x t false) w k=k v:=by
 refine Rd_ok ?_ k
 simp [Instr.typeAssert,run_underlying ht,go_sem,Result.andThen]
theorem as_map (v:Value) (w:World) (k:Value→Prop):Rd Tryz.prog (Instr.typeAssert (.iface 130 v) 20 130 false) w k=k v:=as_map' u130 v w k
theorem clone_run {r:Nat} {es:Array MapEntry} {clock:Nat} (t:TypeId) (hb:w.heap[r]?=some (.map es clock)) :
  (Extern.MapsClone.clone #[.iface t (.map (some r))]).run Tryz.prog w=.ok (.iface t (.map (some w.heap.size))) (w.alloc (.map es clock)):=by
 have e:Extern.MapsClone.clone #[.iface t (.map (some r))]=(getObj r >>= fun o=>match o with
   | .map entries clock=>(newObj (.map entries clock) >>= fun n=>pure (.iface t (.map (some n))))
   | _=>stuck "maps.clone: a map expected"):=rfl
 rw [e]
 simp [MapKept.run_getObj_map hb,Result.andThen,go_sem]
theorem k42 {r:Nat} {g:ByteArray→Option Value} (h:Map w r .string Value.string g) (hR:∀ w',Kp No w w'→Map w' w.heap.size .string Value.string g→w'.heap.size=w.heap.size+1→K (.map (some w.heap.size)) w'):Ct Tryz.prog 42 #[.map (some r)] w K:=by
 refine c42 ?_
 unfold F42
 rw [map_nil]
 simp only [SS]
 obtain ⟨es,cl,hm⟩:=h
 have k1:=Kp.alloc No w (.map es cl)
 refine ⟨.iface 130 (.map (some w.heap.size)),w.alloc (.map es cl),?_,?_⟩
 ·rw [run_callFunc_extern Tryz.func102 (by kernel_rfl) (by kernel_rfl) (by kernel_rfl) (e:=Extern.MapsClone.clone) (by kernel_rfl),clone_run 130 hm.hp]
  rfl
 show Rd Tryz.prog (Instr.typeAssert (.iface 130 _) 20 130 false) _ _
 rw [as_map]
 simp only [SS]
 exact hR _ k1 ⟨es,cl,heap_alloc_new w _,hm.st,hm.ks,hm.to,hm.fro⟩ (by simp)
section
variable {lab:Nat→Nat} {q k:Nat} {Kk:Kn}
def noD:Wd:=⟨fun _=>none,fun _=>none⟩
theorem k9_nil {a:Option Addr} {c:Nat} (h:KR w lab q k Kk) (hR:∀ x m n w',Kp No w w'→w.heap.size≤x→w.heap.size≤m→w.heap.size≤n→SW w' lab q x k m n Kk noD→K (.tuple #[Pt x 0,.nilIface]) w'):Ct Tryz.prog 9 #[Pt k 0,.slice a 0 c] w K:=by
 refine c9 ?_
 unfold F9
 simp only [SS]
 obtain ⟨w1,hr1,k1,s1,hm1⟩:=Map.mk (P:=Tryz.prog) u130 w Value.string .string
 refine ⟨_,w1,hr1,?_⟩
 simp only [SS]
 obtain ⟨w2,hr2,k2,s2,hm2⟩:=Map.mk (P:=Tryz.prog) u130 w1 Value.string .string
 refine ⟨_,w2,hr2,?_⟩
 simp only [SS]
 refine new_k [Pt k 0,.map (some w.heap.size),.map (some w1.heap.size)] fun w3 k3 b3 s3=>?_
 unfold F9_0
 have k03:=(k1.trans k2).trans k3
 have z1:=k1.size
 have z2:=k2.size
 have bd:=h.bd
 have lz:∀ {b:Nat},w.heap.size≤b→lab b=0:=fun {b} hb=>by
  by_cases e:lab b=0
  ·exact e
  ·have:=bd b e; omega
 have hw:SW w3 lab q w2.heap.size k w.heap.size w1.heap.size Kk noD:=⟨h.no k03,b3,hm1.kp (k2.trans k3) id,hm2.kp k3 id,lz (by omega),lz (by omega),lz (by omega),by omega⟩
 refine ⟨fun x6 a19 l19 c19 x20 x21 w'=>x6=⟨w2.heap.size,0,none⟩∧x20=0∧x21=0∧w'=w3,fun _ _ _ _ _ _ _=>0,⟨rfl,rfl,rfl,rfl⟩,?_⟩
 rintro _ _ _ _ _ _ _ ⟨rfl,rfl,rfl,rfl⟩
 unfold F9_0B
 simp only [SS]
 exact hR _ _ _ _ k03 (by omega) (by omega) (by omega) hw
theorem k13 {lab:Nat→Nat} {q1 x k1 m n q2 k2:Nat} {K1 K2:Kn} {D:Wd} (h1:SW w lab q1 x k1 m n K1 D) (h2:KR w lab q2 k2 K2) (hR:∀ x' m' n' w',Kp No w w'→w.heap.size≤x'→w.heap.size≤m'→w.heap.size≤n'→SW w' lab q2 x' k2 m' n' K2 D→K (.tuple #[Pt x' 0,.nilIface]) w'):Ct Tryz.prog 13 #[Pt x 0,Pt k2 0] w K:=by
 refine c13 ?_
 unfold F13
 simp only [SS,h1.hd.rd (o:=1) (v:=.map (some m)) rfl,h1.hd.rd (o:=2) (v:=.map (some n)) rfl]
 refine k42 (w:=dr w _) (h1.nd.kp (Kp.dr No w _) id) fun w1 k1 hm1 s1=>?_
 have k1:=k1.drL
 simp only [dr_heap] at hm1 s1
 have g1:=h1.no k1
 simp only [SS,g1.hd.hc (o:=2) (v:=.map (some n)) rfl]
 refine k42 g1.tk fun w2 k2' hm2 s2=>?_
 simp only [SS]
 refine new_k [Pt k2 0,.map (some w.heap.size),.map (some w1.heap.size)] fun w3 k3 b3 s3=>?_
 have k03:=(k1.trans k2').trans k3
 have bd:=h2.bd
 have lz:∀ {b:Nat},w.heap.size≤b→lab b=0:=fun {b} hb=>by
  by_cases e:lab b=0
  ·exact e
  ·have:=bd b e; omega
 exact hR _ _ _ _ k03 (by omega) (by omega) (by omega) ⟨h2.no k03,b3,hm1.kp (k2'.trans k3) id,hm2.kp k3 id,lz (by omega),lz (by omega),lz (by omega),by omega⟩
end
end
section
open Sy
def F79_0B (R:Ko) (C0:ByteArray→Int→World→Prop) (x0:ByteArray) (x3:Int) (w:World):Prop:=Ifm (decide ((x3:Int)<(x0.size:Nat))) (Is x0 x3 fun x30=>Ifm (decide ((x30:Int)<97)) (Ifm (decide ((x30:Int)<48)) (Ifm ((x30:Int) != 95) (R (.bool false) w) (C0 x0 (IntKind.i64.wrap (x3+1)) w)) (Ifm (decide ((x30:Int) > 57)) (Ifm ((x30:Int) != 95) (R (.bool false) w) (C0 x0 (IntKind.i64.wrap (x3+1)) w)) (C0 x0 (IntKind.i64.wrap (x3+1)) w))) (Ifm (decide ((x30:Int) > 122)) (Ifm (decide ((x30:Int)<48)) (Ifm ((x30:Int) != 95) (R (.bool false) w) (C0 x0 (IntKind.i64.wrap (x3+1)) w)) (Ifm (decide ((x30:Int) > 57)) (Ifm ((x30:Int) != 95) (R (.bool false) w) (C0 x0 (IntKind.i64.wrap (x3+1)) w)) (C0 x0 (IntKind.i64.wrap (x3+1)) w))) (C0 x0 (IntKind.i64.wrap (x3+1)) w))) (R (.bool true) w)
def F79_0 (R:Ko) (x0:ByteArray) (x3:Int) (w:World):Prop:=∃ (Inv:ByteArray→Int→World→Prop) (μ:ByteArray→Int→World→Nat),Inv x0 x3 w∧∀ x0 x3 w,Inv x0 x3 w→F79_0B R (fun x0' x3' w'=>Inv x0' x3' w'∧μ x0' x3' w'<μ x0 x3 w) x0 x3 w
def F79 (R:Ko) (x0:ByteArray) (w:World):Prop:=Ifm (x0.toList == (⟨#[]⟩:ByteArray).toList) (R (.bool false) w) (Ifm (decide (((x0.size:Nat):Int) > 32)) (R (.bool false) w) (Is x0 0 fun x14=>Ifm (decide ((x14:Int)<97)) (R (.bool false) w) (Is x0 0 fun x19=>Ifm (decide ((x19:Int) > 122)) (R (.bool false) w) (F79_0 R x0 0 w))))
noncomputable def b79:Code:=Tryz.f79.body.getD .skip
def q79_0:List Bool:=[false,true,false,true,true]
def L79_0 (F:ByteArray→Int→World→Prop):Env→World→Prop:=fun ρ w=>onS (ρ 0) fun x0=>onI (ρ 3) fun x3=>F x0 x3 w
abbrev T79 (z:Fr) (R:Ko) (p:List Bool) (ρ:Env) (w:World):Prop:=TW z Tryz.prog 49 (segTodo b79 p) (QR Tryz.prog [.tmp 2] R) ρ w
theorem s79_0 (R:Ko):∀ ρ w,(L79_0 (F79_0 R)) ρ w→T79 z0 R q79_0 ρ w:=by
 intro ρ w h
 obtain ⟨x0,e0,h⟩:=onS_of h
 obtain ⟨x3,e3,h⟩:=onI_of h
 obtain ⟨Inv,μ,hi,hb⟩:=h
 refine lpT (fun m=>L79_0 (fun x0 x3 w=>Inv x0 x3 w∧μ x0 x3 w=m)) ?_ (μ x0 x3 w) ρ w ?_
 ·intro m ρ w ih h
  obtain ⟨x0,e0,h⟩:=onS_of h
  obtain ⟨x3,e3,h⟩:=onI_of h
  obtain ⟨hv,hm⟩:=h
  subst hm
  have hh:=hb x0 x3 w hv
  obtain ⟨C0,hC⟩:∃ C,C=fun x0' x3' w'=>Inv x0' x3' w'∧μ x0' x3' w'<μ x0 x3 w:=⟨_,rfl⟩
  rw [← hC] at hh
  have h0:∀ ρ w,(L79_0 C0) ρ w→T79 z0 R q79_0 ρ w:=by
   intro ρ' w' h'
   refine ih ρ' w' ?_
   obtain ⟨x0',e0',h'⟩:=onS_of h'
   obtain ⟨x3',e3',h'⟩:=onI_of h'
   rw [hC] at h'
   refine ⟨_,h'.2,?_⟩
   simp only [e0',e3',L79_0,ons]
   exact ⟨h'.1,by trivial⟩
  rw [← upds_same (ρ:=ρ) [(0,.string x0),(3,.int .i64 x3)] (alc e0 (alc e3 aln))]
  exact sg (cuts:=[(q79_0,L79_0 C0)]) ⟨h0,trivial⟩ hh
 ·simp only [e0,e3,L79_0,ons]
  exact ⟨hi,by trivial⟩
theorem c79 {R:Ko} {x0:ByteArray} {w:World} (h:F79 R x0 w):Ct Tryz.prog 79 #[.string x0] w R :=
 ctS (args:=[.string x0]) (body:=b79) (n:=49) (rs:=[.tmp 2]) Tryz.func79
  (sg (cuts:=[(q79_0,L79_0 (F79_0 R))]) ⟨s79_0 R,trivial⟩ h)
def F5_0B (R:Ko) (C0:Option Addr→Nat→Nat→Int→Int→World→Prop) (a0:Option Addr) (l0 c0:Nat) (x3:Int) (x4:Int) (w:World):Prop:=Ifm (decide ((x4:Int)<(l0:Nat))) (Ix a0 l0 x4 11 fun x13=>Lc (x13.add 1) w fun v15=>onI v15 fun x15=>Ifm ((x15:Int) == 7) (Ix a0 l0 x4 11 fun x20=>Lc (x20.add 10) w fun v22=>onI v22 fun x22=>Ifm (decide ((x22:Int) > 0)) (Ix a0 l0 x4 11 fun x28=>Lc (x28.add 10) w fun v30=>onI v30 fun x30=>Ifm (decide ((x30:Int)≤4096)) (Ix a0 l0 x4 11 fun x36=>Lc (x36.add 10) w fun v38=>onI v38 fun x38=>C0 a0 l0 c0 (IntKind.i64.wrap (x3+x38)) (IntKind.i64.wrap (x4+1)) w) (C0 a0 l0 c0 x3 (IntKind.i64.wrap (x4+1)) w)) (C0 a0 l0 c0 x3 (IntKind.i64.wrap (x4+1)) w)) (C0 a0 l0 c0 x3 (IntKind.i64.wrap (x4+1)) w)) (Ifm (decide (((l0:Nat):Int)≤200)) (R (.bool (decide ((x3:Int)≤6000))) w) (R (.bool false) w))
def F5_0 (R:Ko) (a0:Option Addr) (l0 c0:Nat) (x3:Int) (x4:Int) (w:World):Prop:=∃ (Inv:Option Addr→Nat→Nat→Int→Int→World→Prop) (μ:Option Addr→Nat→Nat→Int→Int→World→Nat),Inv a0 l0 c0 x3 x4 w∧∀ a0 l0 c0 x3 x4 w,Inv a0 l0 c0 x3 x4 w→F5_0B R (fun a0' l0' c0' x3' x4' w'=>Inv a0' l0' c0' x3' x4' w'∧μ a0' l0' c0' x3' x4' w'<μ a0 l0 c0 x3 x4 w) a0 l0 c0 x3 x4 w
def F5 (R:Ko) (a0:Option Addr) (l0 c0:Nat) (w:World):Prop:=F5_0 R a0 l0 c0 0 0 w
noncomputable def b5:Code:=Tryz.f5.body.getD .skip
def q5_0:List Bool:=[false,true,false,true,true]
def L5_0 (F:Option Addr→Nat→Nat→Int→Int→World→Prop):Env→World→Prop:=fun ρ w=>onL (ρ 0) fun a0 l0 c0=>onI (ρ 3) fun x3=>onI (ρ 4) fun x4=>F a0 l0 c0 x3 x4 w
abbrev T5 (z:Fr) (R:Ko) (p:List Bool) (ρ:Env) (w:World):Prop:=TW z Tryz.prog 47 (segTodo b5 p) (QR Tryz.prog [.tmp 2] R) ρ w
theorem s5_0 (R:Ko):∀ ρ w,(L5_0 (F5_0 R)) ρ w→T5 z0 R q5_0 ρ w:=by
 intro ρ w h
 obtain ⟨a0,l0,c0,e0,h⟩:=onL_of h
 obtain ⟨x3,e3,h⟩:=onI_of h
 obtain ⟨x4,e4,h⟩:=onI_of h
 obtain ⟨Inv,μ,hi,hb⟩:=h
 refine lpT (fun m=>L5_0 (fun a0 l0 c0 x3 x4 w=>Inv a0 l0 c0 x3 x4 w∧μ a0 l0 c0 x3 x4 w=m)) ?_ (μ a0 l0 c0 x3 x4 w) ρ w ?_
 ·intro m ρ w ih h
  obtain ⟨a0,l0,c0,e0,h⟩:=onL_of h
  obtain ⟨x3,e3,h⟩:=onI_of h
  obtain ⟨x4,e4,h⟩:=onI_of h
  obtain ⟨hv,hm⟩:=h
  subst hm
  have hh:=hb a0 l0 c0 x3 x4 w hv
  obtain ⟨C0,hC⟩:∃ C,C=fun a0' l0' c0' x3' x4' w'=>Inv a0' l0' c0' x3' x4' w'∧μ a0' l0' c0' x3' x4' w'<μ a0 l0 c0 x3 x4 w:=⟨_,rfl⟩
  rw [← hC] at hh
  have h0:∀ ρ w,(L5_0 C0) ρ w→T5 z0 R q5_0 ρ w:=by
   intro ρ' w' h'
   refine ih ρ' w' ?_
   obtain ⟨a0',l0',c0',e0',h'⟩:=onL_of h'
   obtain ⟨x3',e3',h'⟩:=onI_of h'
   obtain ⟨x4',e4',h'⟩:=onI_of h'
   rw [hC] at h'
   refine ⟨_,h'.2,?_⟩
   simp only [e0',e3',e4',L5_0,ons]
   exact ⟨h'.1,by trivial⟩
  rw [← upds_same (ρ:=ρ) [(0,.slice a0 l0 c0),(3,.int .i64 x3),(4,.int .i64 x4)] (alc e0 (alc e3 (alc e4 aln)))]
  exact sg (cuts:=[(q5_0,L5_0 C0)]) ⟨h0,trivial⟩ hh
 ·simp only [e0,e3,e4,L5_0,ons]
  exact ⟨hi,by trivial⟩
theorem c5 {R:Ko} {a0:Option Addr} {l0 c0:Nat} {w:World} (h:F5 R a0 l0 c0 w):Ct Tryz.prog 5 #[.slice a0 l0 c0] w R :=
 ctS (args:=[.slice a0 l0 c0]) (body:=b5) (n:=47) (rs:=[.tmp 2]) Tryz.func5
  (sg (cuts:=[(q5_0,L5_0 (F5_0 R))]) ⟨s5_0 R,trivial⟩ h)
variable {K:Ko} {w w':World}
theorem cell_kp {S:Nat→Prop} (k:Kp S w w') {b o:Nat} (hb:b<w.heap.size) (hs:¬ S b):w'.cell? ⟨b,o,none⟩=w.cell? ⟨b,o,none⟩:=by
 unfold World.cell?
 rw [k.block b hb hs]
theorem cellsAt_of {b o:Nat}:∀ (l:List Value) (i:Nat),(∀ j,j<l.length→w.cell? ⟨b,o+i+j,none⟩=l[j]?)→Sy.cellsAt w ⟨b,o,none⟩ i l.length=some l
 | [],i,_=>rfl
 | v :: l,i,h=>by
  have h0:=h 0 (by simp)
  rw [Nat.add_zero] at h0
  have ih:=cellsAt_of l (i+1) fun j hj=>by
   have:=h (j+1) (by simpa using hj)
   rw [show o+i+(j+1)=o+(i+1)+j by omega] at this
   simpa using this
  simp only [List.length_cons,Sy.cellsAt,add_eq,h0,ih]
  rfl
structure Stps (w:World) (B:Nat) (a:Option Addr) (l:Nat) (ss:List StV):Prop where
 len:ss.length=l
 row:∀ i s,ss[i]?=some s→s.ok∧∃ b o,a=some ⟨b,o,none⟩∧b<B∧∀ j,j<11→w.cell? ⟨b,o+i*11+j,none⟩=s.cells[j]?
theorem Stps.kp {S:Nat→Prop} {B:Nat} {a:Option Addr} {l:Nat} {ss:List StV} (h:Stps w B a l ss) (k:Kp S w w') (hB:B≤w.heap.size) (hs:∀ x,x<B→¬ S x):Stps w' B a l ss:=by
 refine ⟨h.len,fun i s hi=>?_⟩
 obtain ⟨h1,b,o,h2,h3,h4⟩:=h.row i s hi
 exact ⟨h1,b,o,h2,h3,fun j hj=>(cell_kp k (by omega) (hs b h3)).trans (h4 j hj)⟩
section
variable {B l:Nat} {a:Option Addr} {ss:List StV}
theorem Stps.at (h:Stps w B a l ss) {i:Nat} (hi:i<l):∃ s,ss[i]?=some s∧s.ok∧∃ b o,a=some ⟨b,o,none⟩∧b<B∧(∀ j v,s.cells[j]?=some v→∀ k,Lc ⟨b,o+i*11+j,none⟩ w k=k v)∧(∀ k,La 11 ⟨b,o+i*11,none⟩ w k=k s.cells.toArray):=by
 have hl:=h.len
 refine ⟨ss[i],by simp [hl,hi],?_⟩
 obtain ⟨h1,b,o,h2,h3,h4⟩:=h.row i ss[i] (by simp [hl,hi])
 refine ⟨h1,b,o,h2,h3,fun j v hv k=>Lc_c ?_ k,fun k=>?_⟩
 ·rw [h4 j (by have:=(List.getElem?_eq_some_iff.1 hv).1; exact this),hv]
 ·have:=cellsAt_of (w:=w) (b:=b) (o:=o+i*11) ss[i].cells 0 fun j hj=>h4 j hj
  have e:Sy.cellsAt w ⟨b,o+i*11,none⟩ 0 11=some ss[i].cells:=this
  simp [La,cellsA,e]
theorem ix_k {n sz:Nat} {i:Int} {j:Nat} {b o:Nat} (hj:i=(j:Nat)) (hi:j<n) {k:Addr→Prop} (h:k ⟨b,o+j*sz,none⟩):Ix (some ⟨b,o,none⟩) n i sz k:=by
 subst hj
 refine ⟨by omega,by omega,?_⟩
 simp only [onSome_eq,add_eq,Int.toNat_natCast]
 exact h
theorem wr1 {i:Int} (h1:0≤i) (h2:i<4611686018427387904):IntKind.i64.wrap (i+1)=i+1:=by rw [IntKind.wrap_i64]; omega
theorem k5 (h:Stps w B a l ss) {c:Nat} (hl:l<4611686018427387904) (hR:∀ b w',Kp No w w'→(b=true→l≤200)→K (.bool b) w'):Ct Tryz.prog 5 #[.slice a l c] w K:=by
 refine c5 ?_
 unfold F5 F5_0
 refine ⟨fun a0 l0 c0 x3 x4 w'=>a=a0∧l=l0∧w=w'∧0≤x4∧x4≤(l:Int),fun _ _ _ _ x4 _=>(l - x4).toNat,⟨rfl,rfl,rfl,by omega,by omega⟩,?_⟩
 rintro _ _ _ x3 x4 _ ⟨rfl,rfl,rfl,h0,h1⟩
 unfold F5_0B
 simp only [SS]
 by_cases e:x4<(l:Int)
 ·rw [if_pos e]
  obtain ⟨i,rfl⟩:∃ i:Nat,x4=i:=⟨x4.toNat,by omega⟩
  obtain ⟨s,hs,hok,b,o,rfl,hb,hL,_⟩:=h.at (i:=i) (by omega)
  have nx:∀ (x3':Int),((some (Addr.mk b o none)=some ⟨b,o,none⟩∧l=l∧w=w∧0≤IntKind.i64.wrap ((i:Int)+1)∧IntKind.i64.wrap ((i:Int)+1)≤(l:Int))∧((l:Int) - IntKind.i64.wrap ((i:Int)+1)).toNat<((l:Int) - i).toNat):=fun _=>by
   rw [wr1 (by omega) (by omega)]
   exact ⟨⟨rfl,rfl,rfl,by omega,by omega⟩,by omega⟩
  have nx:=nx 0
  simp only [SS] at nx
  refine ix_k rfl (by omega) ?_
  simp only [SS,hL 1 (I s.k) rfl]
  by_cases e7:s.k=7
  ·rw [if_pos e7]
   refine ix_k rfl (by omega) ?_
   simp only [SS,hL 10 (I s.n) rfl]
   by_cases e1:s.n > 0
   ·rw [if_pos e1]
    refine ix_k rfl (by omega) ?_
    simp only [SS,hL 10 (I s.n) rfl]
    by_cases e2:s.n≤4096
    ·rw [if_pos e2]
     refine ix_k rfl (by omega) ?_
     simp only [SS,hL 10 (I s.n) rfl]
     exact nx
    ·rw [if_neg e2]; exact nx
   ·rw [if_neg e1]; exact nx
  ·rw [if_neg e7]; exact nx
 ·rw [if_neg e]
  by_cases e2:(l:Int)≤200
  ·rw [if_pos e2]; exact hR _ _ (Kp.refl _ _) fun _=>by omega
  ·rw [if_neg e2]; exact hR _ _ (Kp.refl _ _) fun h=>by cases h
end
theorem at_data (s:ByteArray) (i:Nat):s[i]?=s.data[i]?:=rfl
theorem byte_k {s:ByteArray} {i:Nat} (h:i<s.size) {x:Int} (hx:x=(i:Nat)) {k:Int→Prop} (hk:∀ b:UInt8,s[i]?=some b→k (b.toNat:Int)):Is s x k:=by
 subst hx
 refine ⟨by omega,?_⟩
 simp only [Int.toNat_natCast]
 have e:s[i]?=some s[i]:=getElem?_pos s i h
 rw [e]
 exact hk _ e
def noDot (s:ByteArray):Prop:=∀ (i:Nat) (b:UInt8),s[i]?=some b→b.toNat≠46
theorem k79 {s:ByteArray} (hR:∀ b,(b=true→noDot s)→K (.bool b) w):Ct Tryz.prog 79 #[.string s] w K:=by
 refine c79 ?_
 unfold F79
 cases e0:(s.toList == (⟨#[]⟩:ByteArray).toList) with
 | true=>exact hR false nofun
 | false =>
  simp only [SS]
  by_cases e1:(s.size:Int) > 32
  ·rw [if_pos e1]; exact hR false nofun
  rw [if_neg e1]
  have hz:0<s.size:=by
   rcases Nat.eq_zero_or_pos s.size with h | h
   ·have:s=⟨#[]⟩:=by
     apply ByteArray.ext
     exact Array.eq_empty_of_size_eq_zero h
    rw [this] at e0
    have e0:((⟨#[]⟩:ByteArray).toList == (⟨#[]⟩:ByteArray).toList)=false:=e0
    rw [beq_self_eq_true] at e0
    cases e0
   ·exact h
  refine byte_k (i:=0) hz rfl fun x14 _=>?_
  split
  ·exact hR false nofun
  refine byte_k (i:=0) hz rfl fun x19 _=>?_
  split
  ·exact hR false nofun
  unfold F79_0
  refine ⟨fun x0 x3 w'=>s=x0∧w=w'∧0≤x3∧x3≤(s.size:Int)∧∀ (i:Nat) (b:UInt8),(i:Int)<x3→s[i]?=some b→b.toNat≠46,fun _ x3 _=>((s.size:Int) - x3).toNat,⟨rfl,rfl,by omega,by omega,fun i b hi=>by omega⟩,?_⟩
  rintro _ x3 _ ⟨rfl,rfl,h0,h1,hd⟩
  unfold F79_0B
  simp only [SS]
  by_cases e:x3<(s.size:Int)
  ·rw [if_pos e]
   obtain ⟨i,rfl⟩:∃ i:Nat,x3=i:=⟨x3.toNat,by omega⟩
   refine byte_k (i:=i) (by omega) rfl fun b hb=>?_
   have nx:b.toNat≠46→(0≤IntKind.i64.wrap ((i:Int)+1)∧IntKind.i64.wrap ((i:Int)+1)≤(s.size:Int)∧∀ (j:Nat) (b:UInt8),(j:Int)<IntKind.i64.wrap ((i:Int)+1)→s[j]?=some b→b.toNat≠46)∧((s.size:Int) - IntKind.i64.wrap ((i:Int)+1)).toNat<((s.size:Int) - i).toNat:=by
    intro hn
    rw [wr1 (by omega) (by omega)]
    refine ⟨⟨by omega,by omega,fun j c hj hc=>?_⟩,by omega⟩
    by_cases ej:j=i
    ·subst ej; rw [hb] at hc; injection hc with hc; rw [← hc]; exact hn
    ·exact hd j c (by omega) hc
   repeat' (first | exact hR false nofun | exact nx (by omega) | split)
  ·rw [if_neg e]
   refine hR true fun _ i b hb=>hd i b ?_ hb
   have:i<s.size:=by
    rcases Nat.lt_or_ge i s.size with h | h
    ·exact h
    ·rw [at_data,Array.getElem?_eq_none (show s.data.size≤i from h)] at hb; cases hb
   omega
end
end Go.Proofs.YtbgbidpecmepmaaGreatDoor
