/-
  The ledger; The ledger: ways, charges; The ledger: an account closed; Handles as numbers.
-/
import Derived.Test.YtbgbidpecmepmaaGreatDoorM5
import Derived.Test.YtbgbidpecmepmaaGreatDoorM10
set_option maxRecDepth 100000
namespace Go.Proofs.YtbgbidpecmepmaaGreatDoor
section
open Sy
def F32 (R:Ko) (x0:Int) (w:World):Prop:=Ifm ((x0:Int) == 0) (R (.pointer none) w) (Rv Tryz.prog (Instr.makeMap 211 none) w fun v6 w1=>onM v6 fun x6=>Ru Tryz.prog (Instr.mapUpdate 211 (.map x6) (.int .i64 x0) (.agg #[.int .i64 0,.int .i64 0,.int .i64 0,.int .i64 0,.int .i64 0,.int .i64 0,.int .i64 0,.int .i64 0,.int .i64 0,.int .i64 0,.int .i64 0,.int .i64 0,.int .i64 0])) w1 fun w2=>New (.cells (.agg #[.int .i64 x0,.map x6]:Value).cells 213) w2 fun x11 w3=>R (.pointer (some x11)) w3)
noncomputable def b32:Code:=Tryz.f32.body.getD .skip
theorem c32 {R:Ko} {x0:Int} {w:World} (h:F32 R x0 w):Ct Tryz.prog 32 #[.int .i64 x0] w R :=
 ctS (args:=[.int .i64 x0]) (body:=b32) (n:=12) (rs:=[.tmp 2]) Tryz.func32
  (sg (cuts:=[]) trivial h)
def F221 (R:Ko) (x0:Option Addr) (x1:Int) (w:World):Prop:=New (.cells (.agg #[.int .i64 0,.int .i64 0,.int .i64 0,.int .i64 0,.int .i64 0,.int .i64 0,.int .i64 0,.int .i64 0,.int .i64 0,.int .i64 0,.int .i64 0,.int .i64 0,.int .i64 0]:Value).cells 210) w fun x4 w1=>Ifm x0.isNone (Sa 13 x4 (#[.int .i64 0,.int .i64 0,.int .i64 0,.int .i64 0,.int .i64 0,.int .i64 0,.int .i64 0,.int .i64 0,.int .i64 0,.int .i64 0,.int .i64 0,.int .i64 0,.int .i64 0]) w1 fun w2=>Rd Tryz.prog (Instr.loadAt 210 (.pointer (some x4))) w2 fun r0=>R (.tuple #[r0,.iface 129 (.int .i64 20)]) w2) (onSome x0 fun x14=>Lc (x14.add 1) w1 fun v16=>onM v16 fun x16=>Rd Tryz.prog (Instr.lookup 211 (.map x16) (.int .i64 x1) true) w1 fun v18=>on2 v18 fun y18_0 y18_1=>onG y18_0 fun x18_0=>onB y18_1 fun x18_1=>New (.cells (.agg #[.int .i64 0,.int .i64 0,.int .i64 0,.int .i64 0,.int .i64 0,.int .i64 0,.int .i64 0,.int .i64 0,.int .i64 0,.int .i64 0,.int .i64 0,.int .i64 0,.int .i64 0]:Value).cells 210) w1 fun x6 w3=>Sa 13 x6 x18_0 w3 fun w4=>Ifm (!x18_1) (Sa 13 x4 (#[.int .i64 0,.int .i64 0,.int .i64 0,.int .i64 0,.int .i64 0,.int .i64 0,.int .i64 0,.int .i64 0,.int .i64 0,.int .i64 0,.int .i64 0,.int .i64 0,.int .i64 0]) w4 fun w5=>Rd Tryz.prog (Instr.loadAt 210 (.pointer (some x4))) w5 fun r0=>R (.tuple #[r0,.iface 129 (.int .i64 20)]) w5) (La 13 x6 w4 fun x25=>Sa 13 x4 x25 w4 fun w6=>Rd Tryz.prog (Instr.loadAt 210 (.pointer (some x4))) w6 fun r0=>R (.tuple #[r0,.nilIface]) w6))
noncomputable def b221:Code:=Tryz.f221.body.getD .skip
theorem c221 {R:Ko} {x0:Option Addr} {x1:Int} {w:World} (h:F221 R x0 x1 w):Ct Tryz.prog 221 #[.pointer x0,.int .i64 x1] w R :=
 ctS (args:=[.pointer x0,.int .i64 x1]) (body:=b221) (n:=26) (rs:=[.cell 4 210,.tmp 5]) Tryz.func221
  (sg (cuts:=[]) trivial h)
def F207 (R:Ko) (x0:Option Addr) (x1:Int) (x2:Int) (w:World):Prop:=Ct Tryz.prog 221 #[.pointer x0,.int .i64 x2] w fun v14 w1=>on2 v14 fun y14_0 y14_1=>onG y14_0 fun x14_0=>New (.cells (.agg #[.int .i64 0,.int .i64 0,.int .i64 0,.int .i64 0,.int .i64 0,.int .i64 0,.int .i64 0,.int .i64 0,.int .i64 0,.int .i64 0,.int .i64 0,.int .i64 0,.int .i64 0]:Value).cells 210) w1 fun x7 w2=>Sa 13 x7 x14_0 w2 fun w3=>Nl y14_1 fun x18=>Ifm (!x18) (R (.iface 129 (.int .i64 20)) w3) (Ifm ((x1:Int) == 0) (R (.iface 129 (.int .i64 20)) w3) (Ct Tryz.prog 221 #[.pointer x0,.int .i64 x1] w3 fun v27 w4=>on2 v27 fun y27_0 y27_1=>onG y27_0 fun x27_0=>New (.cells (.agg #[.int .i64 0,.int .i64 0,.int .i64 0,.int .i64 0,.int .i64 0,.int .i64 0,.int .i64 0,.int .i64 0,.int .i64 0,.int .i64 0,.int .i64 0,.int .i64 0,.int .i64 0]:Value).cells 210) w4 fun x9 w5=>Sa 13 x9 x27_0 w5 fun w6=>Nl y27_1 fun x31=>Ifm x31 (R (.iface 129 (.int .i64 251)) w6) (onSome x0 fun x34=>Lc (x34.add 1) w6 fun v36=>onM v36 fun x36=>Ru Tryz.prog (Instr.mapUpdate 211 (.map x36) (.int .i64 x1) (.agg #[.int .i64 x2,.int .i64 0,.int .i64 0,.int .i64 0,.int .i64 0,.int .i64 0,.int .i64 0,.int .i64 0,.int .i64 0,.int .i64 0,.int .i64 0,.int .i64 0,.int .i64 0])) w6 fun w7=>R (.nilIface) w7)))
noncomputable def b207:Code:=Tryz.f207.body.getD .skip
theorem c207 {R:Ko} {x0:Option Addr} {x1:Int} {x2:Int} {w:World} (h:F207 R x0 x1 x2 w):Ct Tryz.prog 207 #[.pointer x0,.int .i64 x1,.int .i64 x2] w R :=
 ctS (args:=[.pointer x0,.int .i64 x1,.int .i64 x2]) (body:=b207) (n:=40) (rs:=[.tmp 6]) Tryz.func207
  (sg (cuts:=[]) trivial h)
def F275_1 (R:Ko) (x0:Option Addr) (x1:Int) (x9:Addr) (w:World):Prop:=Lc ((x9.add 1).add 5) w fun v44=>onI v44 fun x44=>Sc ((x9.add 1).add 5) (.int .i64 (IntKind.i64.wrap (x44+1))) w fun w4=>onSome x0 fun x49=>Lc (x49.add 1) w4.drew fun v51=>onM v51 fun x51=>La 13 x9 w4.drew fun x53=>Ru Tryz.prog (Instr.mapUpdate 211 (.map x51) (.int .i64 x1) (.agg x53)) w4.drew fun w5=>R (.nilIface) w5
def F275_0 (R:Ko) (x0:Option Addr) (x1:Int) (x3:Bool) (x9:Addr) (x11:Addr) (w:World):Prop:=Lc x11 w fun v38=>onI v38 fun x38=>Sc x11 (.int .i64 (IntKind.i64.wrap (x38+1))) w fun w6=>Ifm x3 (F275_1 R x0 x1 x9 w6) (onSome x0 fun x49=>Lc (x49.add 1) w6.drew fun v51=>onM v51 fun x51=>La 13 x9 w6.drew fun x53=>Ru Tryz.prog (Instr.mapUpdate 211 (.map x51) (.int .i64 x1) (.agg x53)) w6.drew fun w7=>R (.nilIface) w7)
def F275 (R:Ko) (x0:Option Addr) (x1:Int) (x2:Int) (x3:Bool) (w:World):Prop:=Ct Tryz.prog 221 #[.pointer x0,.int .i64 x1] w fun v15 w1=>on2 v15 fun y15_0 y15_1=>onG y15_0 fun x15_0=>New (.cells (.agg #[.int .i64 0,.int .i64 0,.int .i64 0,.int .i64 0,.int .i64 0,.int .i64 0,.int .i64 0,.int .i64 0,.int .i64 0,.int .i64 0,.int .i64 0,.int .i64 0,.int .i64 0]:Value).cells 210) w1 fun x9 w2=>Sa 13 x9 x15_0 w2 fun w3=>Nl y15_1 fun x19=>Ifm (!x19) (R y15_1 w3) (Ifm ((x2:Int) == 9) (Lc ((x9.add 1).add 4) w3 fun v33=>onI v33 fun x33=>Ifm ((x33:Int) == 1073741824) (R (.iface 129 (.int .i64 10)) w3) (F275_0 R x0 x1 x3 x9 ((x9.add 1).add 4) w3)) (Ifm ((x2:Int) == 8) (Lc ((x9.add 1).add 3) w3 fun v33=>onI v33 fun x33=>Ifm ((x33:Int) == 1073741824) (R (.iface 129 (.int .i64 10)) w3) (F275_0 R x0 x1 x3 x9 ((x9.add 1).add 3) w3)) (R (.iface 129 (.int .i64 1)) w3)))
noncomputable def b275:Code:=Tryz.f275.body.getD .skip
def q275_1:List Bool:=[false,true,false,true,true,true,true,true,true,true]
def L275_1 (F:Option Addr→Int→Addr→World→Prop):Env→World→Prop:=fun ρ w=>onP (ρ 0) fun x0=>onI (ρ 1) fun x1=>onA (ρ 9) fun x9=>F x0 x1 x9 w
def q275_0:List Bool:=[false,true,true,true,true,true,true]
def L275_0 (F:Option Addr→Int→Bool→Addr→Addr→World→Prop):Env→World→Prop:=fun ρ w=>onP (ρ 0) fun x0=>onI (ρ 1) fun x1=>onB (ρ 3) fun x3=>onA (ρ 9) fun x9=>onA (ρ 11) fun x11=>F x0 x1 x3 x9 x11 w
abbrev T275 (z:Fr) (R:Ko) (p:List Bool) (ρ:Env) (w:World):Prop:=TW z Tryz.prog 54 (segTodo b275 p) (QR Tryz.prog [.tmp 8] R) ρ w
theorem s275_1 (R:Ko):∀ ρ w,(L275_1 (F275_1 R)) ρ w→T275 z0 R q275_1 ρ w:=by
 intro ρ w h
 obtain ⟨x0,e0,h⟩:=onP_of h
 obtain ⟨x1,e1,h⟩:=onI_of h
 obtain ⟨x9,e9,h⟩:=onA_of h
 rw [← upds_same (ρ:=ρ) [(0,.pointer x0),(1,.int .i64 x1),(9,.pointer (some x9))] (alc e0 (alc e1 (alc e9 aln)))]
 exact sg (cuts:=[]) trivial h
theorem s275_0 (R:Ko):∀ ρ w,(L275_0 (F275_0 R)) ρ w→T275 z0 R q275_0 ρ w:=by
 intro ρ w h
 obtain ⟨x0,e0,h⟩:=onP_of h
 obtain ⟨x1,e1,h⟩:=onI_of h
 obtain ⟨x3,e3,h⟩:=onB_of h
 obtain ⟨x9,e9,h⟩:=onA_of h
 obtain ⟨x11,e11,h⟩:=onA_of h
 rw [← upds_same (ρ:=ρ) [(0,.pointer x0),(1,.int .i64 x1),(3,.bool x3),(9,.pointer (some x9)),(11,.pointer (some x11))] (alc e0 (alc e1 (alc e3 (alc e9 (alc e11 aln)))))]
 exact sg (cuts:=[(q275_1,L275_1 (F275_1 R))]) ⟨s275_1 R,trivial⟩ h
theorem c275 {R:Ko} {x0:Option Addr} {x1:Int} {x2:Int} {x3:Bool} {w:World} (h:F275 R x0 x1 x2 x3 w):Ct Tryz.prog 275 #[.pointer x0,.int .i64 x1,.int .i64 x2,.bool x3] w R :=
 ctS (args:=[.pointer x0,.int .i64 x1,.int .i64 x2,.bool x3]) (body:=b275) (n:=54) (rs:=[.tmp 8]) Tryz.func275
  (sg (cuts:=[(q275_0,L275_0 (F275_0 R))]) ⟨s275_0 R,trivial⟩ h)
def F348 (R:Ko) (x0:Array Value) (x1:Array Value) (w:World):Prop:=New (.cells (.agg x0:Value).cells 41) w fun x2 w1=>New (.cells (.agg x1:Value).cells 41) w1 fun x3 w2=>New (.cells (.agg #[.int .i64 0,.int .i64 0,.int .i64 0,.int .i64 0,.int .i64 0,.int .i64 0]:Value).cells 41) w2 fun x4 w3=>Lc (x2.add 0) w3 fun v6=>onI v6 fun x6=>Lc (x3.add 0) w3 fun v8=>onI v8 fun x8=>Lc (x2.add 1) w3 fun v11=>onI v11 fun x11=>Lc (x3.add 1) w3 fun v13=>onI v13 fun x13=>Lc (x2.add 2) w3 fun v16=>onI v16 fun x16=>Lc (x3.add 2) w3 fun v18=>onI v18 fun x18=>Lc (x2.add 3) w3 fun v21=>onI v21 fun x21=>Lc (x3.add 3) w3 fun v23=>onI v23 fun x23=>Lc (x2.add 4) w3 fun v26=>onI v26 fun x26=>Lc (x3.add 4) w3 fun v28=>onI v28 fun x28=>Lc (x2.add 5) w3 fun v31=>onI v31 fun x31=>Lc (x3.add 5) w3 fun v33=>onI v33 fun x33=>Sa 6 x4 (#[.int .i64 (IntKind.i64.wrap (x6+x8)),.int .i64 (IntKind.i64.wrap (x11+x13)),.int .i64 (IntKind.i64.wrap (x16+x18)),.int .i64 (IntKind.i64.wrap (x21+x23)),.int .i64 (IntKind.i64.wrap (x26+x28)),.int .i64 (IntKind.i64.wrap (x31+x33))]) w3 fun w4=>Rd Tryz.prog (Instr.loadAt 41 (.pointer (some x4))) w4 fun r0=>R r0 w4
noncomputable def b348:Code:=Tryz.f348.body.getD .skip
theorem c348 {R:Ko} {x0:Array Value} {x1:Array Value} {w:World} (h:F348 R x0 x1 w):Ct Tryz.prog 348 #[.agg x0,.agg x1] w R :=
 ctS (args:=[.agg x0,.agg x1]) (body:=b348) (n:=36) (rs:=[.cell 4 41]) Tryz.func348
  (sg (cuts:=[]) trivial h)
def F144 (R:Ko) (x0:Option Addr) (x1:Int) (w:World):Prop:=New (.cells (.agg #[.int .i64 0,.int .i64 0,.int .i64 0,.int .i64 0,.int .i64 0,.int .i64 0]:Value).cells 41) w fun x4 w1=>New (.cells (.agg #[.int .i64 0,.int .i64 0,.int .i64 0,.int .i64 0,.int .i64 0,.int .i64 0]:Value).cells 41) w1 fun x5 w2=>Ct Tryz.prog 221 #[.pointer x0,.int .i64 x1] w2 fun v12 w3=>on2 v12 fun y12_0 y12_1=>onG y12_0 fun x12_0=>New (.cells (.agg #[.int .i64 0,.int .i64 0,.int .i64 0,.int .i64 0,.int .i64 0,.int .i64 0,.int .i64 0,.int .i64 0,.int .i64 0,.int .i64 0,.int .i64 0,.int .i64 0,.int .i64 0]:Value).cells 210) w3 fun x7 w4=>Sa 13 x7 x12_0 w4 fun w5=>La 6 (x7.add 1) w5.drew fun x16=>La 6 (x7.add 7) w5.drew fun x18=>Sa 6 x4 x16 w5.drew fun w6=>Ha 6 (x7.add 7) x18 w6∧Sa 6 x5 x18 w6 fun w7=>Rd Tryz.prog (Instr.loadAt 41 (.pointer (some x4))) w7 fun r0=>Rd Tryz.prog (Instr.loadAt 41 (.pointer (some x5))) w7 fun r1=>R (.tuple #[r0,r1,y12_1]) w7
noncomputable def b144:Code:=Tryz.f144.body.getD .skip
theorem c144 {R:Ko} {x0:Option Addr} {x1:Int} {w:World} (h:F144 R x0 x1 w):Ct Tryz.prog 144 #[.pointer x0,.int .i64 x1] w R :=
 ctS (args:=[.pointer x0,.int .i64 x1]) (body:=b144) (n:=20) (rs:=[.cell 4 41,.cell 5 41,.tmp 6]) Tryz.func144
  (sg (cuts:=[]) trivial h)
variable {K:Ko} {w w':World}
def zA:Ac:=⟨0,0,0,0,0,0⟩
structure En where
 par:Int
 acc:Ac
 clo:Ac
def En.cells (e:En):List Value:=I e.par :: (e.acc.cells++e.clo.cells)
def zE:En:=⟨0,zA,zA⟩
theorem En.one (e:En):∀ v∈e.cells,oneCell v=true:=by simp [En.cells,Ac.cells,oneCell]
theorem Ac.one (a:Ac):∀ v∈a.cells,oneCell v=true:=by simp [Ac.cells,oneCell]
theorem En.len (e:En):e.cells.length=13:=rfl
theorem ld210:loadKind Tryz.prog 210=some (some 13):=by kernel_rfl
theorem u211:Tryz.prog.underlying 211=some (.map 33 210):=by kernel_rfl
theorem u33:Tryz.prog.underlying 33=some (.int .i64):=by kernel_rfl
theorem z210 (w:World):(zeroValue 210).run Tryz.prog w=.ok (.agg zE.cells.toArray) w:=by
 have h:(Tryz.prog.info? 210).bind (·.zero)=some (.agg zE.cells.toArray):=by kernel_rfl
 cases hi:Tryz.prog.info? 210 with
 | none=>rw [hi] at h; cases h
 | some i =>
  rw [hi] at h
  have h:i.zero=some (.agg zE.cells.toArray):=h
  simp [zeroValue,run_typeInfo' hi,h,Sem.run_bind]
def enV (g:Int→Option En) (a:Int):Option Value:=(g a).map fun e=>.agg e.cells.toArray
structure BL (w:World) (b m:Nat) (root:Int) (g:Int→Option En):Prop where
 hd:Bk w b [I root,.map (some m)] 213
 mp:Map w m (.int .i64) (fun a:Int=>I a) (enV g)
section
variable {b m:Nat} {root:Int} {g:Int→Option En}
theorem BL.kp {S:Nat→Prop} (h:BL w b m root g) (k:Kp S w w') (hb:¬ S b) (hm:¬ S m):BL w' b m root g:=⟨k.bk h.hd hb,h.mp.kp k hm⟩
theorem BL.no (h:BL w b m root g) (k:Kp No w w'):BL w' b m root g:=h.kp k id id
theorem BL.ne (h:BL w b m root g):b≠m:=by
 obtain ⟨es,cl,hm⟩:=h.mp
 exact ne_of_bk h.hd hm.hp (by simp)
theorem BL.lt (h:BL w b m root g):b<w.heap.size∧m<w.heap.size:=⟨h.hd.lt,h.mp.lt⟩
theorem look_ok (h:BL w b m root g) (x:Int) (k:Value→Prop):Rd Tryz.prog (Instr.lookup 211 (.map (some m)) (I x) true) w k=k (.tuple #[.agg ((g x).getD zE).cells.toArray,.bool (g x).isSome]):=by
 refine Rd_ok ?_ k
 have:=h.mp.look keyI u211 u33 (z210 w) x true
 rw [if_pos rfl] at this
 rw [this]
 unfold enV
 cases g x <;> rfl
theorem look_one (h:BL w b m root g) (x:Int) (k:Value→Prop):Rd Tryz.prog (Instr.lookup 211 (.map (some m)) (I x) false) w k=k (.agg ((g x).getD zE).cells.toArray):=by
 refine Rd_ok ?_ k
 have:=h.mp.look keyI u211 u33 (z210 w) x false
 rw [if_neg (by simp)] at this
 rw [this]
 unfold enV
 cases g x <;> rfl
def updG (g:Int→Option En) (x:Int) (e:Option En):Int→Option En:=fun y=>if y=x then e else g y
theorem enV_upd (x:Int) (e:Option En):enV (updG g x e)=updO (enV g) x (e.map fun e=>.agg e.cells.toArray):=by
 funext y
 unfold enV updG updO
 by_cases h:y=x <;> simp [h]
theorem upd_k (h:BL w b m root g) (x:Int) (e:En) {k:World→Prop} (hk:∀ w',Kp (·=m) w w'→BL w' b m root (updG g x (some e))→k w'):Ru Tryz.prog (Instr.mapUpdate 211 (.map (some m)) (I x) (.agg e.cells.toArray)) w k:=by
 obtain ⟨w1,hr,k1,hm⟩:=h.mp.upd keyI u211 u33 x (.agg e.cells.toArray)
 exact ⟨w1,hr,hk w1 k1 ⟨k1.bk h.hd h.ne,by rw [enV_upd]; exact hm⟩⟩
theorem del_k (h:BL w b m root g) (x:Int) {k:Ko} (hk:∀ w',Kp (·=m) w w'→BL w' b m root (updG g x none)→k (.tuple #[]) w'):Rv Tryz.prog (Builtin.delete_ #[211,33] 0 #[.map (some m),I x]) w k:=by
 obtain ⟨w1,hr,k1,hm⟩:=h.mp.del keyI u211 u33 x 33 0
 exact ⟨_,w1,hr,hk w1 k1 ⟨k1.bk h.hd h.ne,by rw [enV_upd]; exact hm⟩⟩
theorem ven_k {k:Addr→World→Prop} {e:En} (h:∀ w',Kp No w w'→Bk w' w.heap.size e.cells 210→w.heap.size<w'.heap.size→k ⟨w.heap.size,0,none⟩ w'):New (.cells zE.cells.toArray 210) w fun x w1=>Sa 13 x e.cells.toArray w1 fun w2=>k x w2:=by
 refine new_k zE.cells fun w2 k2 b2 s2=>?_
 refine sa_k (cs:=e.cells) b2 rfl (by decide) (En.one _) fun w3 k3 b3 s3=>?_
 rw [over_all _ _ (by rfl)] at b3
 exact h w3 (k2.own k3 (Nat.le_refl _)) b3 (by omega)
theorem k32 {x:Int} (hx:x≠0) (h:∀ b m w',Kp No w w'→w.heap.size≤b→w.heap.size≤m→BL w' b m x (updG (fun _=>none) x (some zE))→K (Pt b 0) w'):Ct Tryz.prog 32 #[I x] w K:=by
 refine c32 ?_
 unfold F32
 simp only [SS]
 rw [if_neg hx]
 obtain ⟨w1,hr,k1,s1,hm⟩:=Map.mk (P:=Tryz.prog) u211 w (fun a:Int=>I a) (.int .i64)
 rw [Rv_ok hr]
 simp only [SS]
 obtain ⟨w2,hr2,k2,hm2⟩:=hm.upd keyI u211 u33 x (.agg zE.cells.toArray)
 refine ⟨w2,hr2,?_⟩
 refine new_k [I x,.map (some w.heap.size)] fun w3 k3 b3 s3=>?_
 have:=k2.size
 refine h w2.heap.size w.heap.size w3 ((k1.own k2 (Nat.le_refl _)).trans k3) (by omega) (Nat.le_refl _) ⟨b3,?_⟩
 rw [enV_upd]
 exact hm2.kp k3 id
theorem k221 {x:Int} (hb:BL w b m root g) (h:∀ w',Kp No w w'→K (match g x with | some e=>.tuple #[.agg e.cells.toArray,.nilIface] | none=>.tuple #[.agg zE.cells.toArray,Er 20]) w'):Ct Tryz.prog 221 #[Pt b 0,I x] w K:=by
 refine c221 ?_
 unfold F221
 refine new_k zE.cells fun w1 k1 b1 s1=>?_
 have hb1:=hb.no k1
 simp only [SS,hb1.hd.rd (o:=1) (v:=.map (some m)) rfl,look_ok hb1]
 refine ven_k fun w2 k2 b2 s2=>?_
 have c2:Bk w2 w.heap.size zE.cells 210:=k2.bk b1 id
 cases e:g x with
 | none =>
  simp only [e] at h
  simp only [Option.isSome_none,SS]
  exact res_k (c:=zE.cells) (cs:=zE.cells) (k:=fun r0 w4=>K (.tuple #[r0,Er 20]) w4) ld210 c2 rfl rfl (En.one _) fun w4 k4=>h w4 ((k1.trans k2).own k4 (Nat.le_refl _))
 | some en =>
  simp only [e] at h
  rw [e] at b2
  have b2:Bk w2 w1.heap.size en.cells 210:=b2
  simp only [Option.isSome_some,SS,b2.la0 (n:=13) rfl]
  exact res_k (c:=zE.cells) (cs:=en.cells) (k:=fun r0 w4=>K (.tuple #[r0,.nilIface]) w4) ld210 c2 rfl rfl (En.one _) fun w4 k4=>h w4 ((k1.trans k2).own k4 (Nat.le_refl _))
def openG (g:Int→Option En) (h parent:Int):Except Int (Int→Option En):=if (g parent).isSome=false∨h=0 then .error 20 else if (g h).isSome=true then .error 251 else .ok (updG g h (some ⟨parent,zA,zA⟩))
theorem k207 {x p:Int} (hb:BL w b m root g) (h:match openG g x p with
  | .error e=>∀ w',Kp No w w'→K (Er e) w'
  | .ok g'=>∀ w',Kp (·=m) w w'→BL w' b m root g'→K .nilIface w'):Ct Tryz.prog 207 #[Pt b 0,I x,I p] w K:=by
 refine c207 ?_
 unfold F207
 unfold openG at h
 refine k221 hb fun w1 k1=>?_
 cases e1:g p with
 | none =>
  rw [if_pos (.inl (by rw [e1]; rfl))] at h
  simp only [SS]
  exact ven_k (e:=zE) fun w2 k2 b2 s2=>h w2 (k1.trans k2)
 | some en =>
  simp only [SS]
  refine ven_k (e:=en) fun w2 k2 b2 s2=>?_
  by_cases e2:x=0
  ·rw [if_pos (.inr e2)] at h
   rw [if_pos e2]
   exact h w2 (k1.trans k2)
  rw [if_neg (by rw [e1]; simpa using e2)] at h
  rw [if_neg e2]
  have k02:=k1.trans k2
  refine k221 (hb.no k02) fun w3 k3=>?_
  cases e3:g x with
  | some en2 =>
   rw [if_pos (by rw [e3]; rfl)] at h
   simp only [SS]
   refine ven_k (e:=en2) fun w4 k4 b4 s4=>?_
   exact h w4 ((k02.trans k3).trans k4)
  | none =>
   rw [if_neg (by rw [e3]; simp)] at h
   simp only [SS]
   refine ven_k (e:=zE) fun w4 k4 b4 s4=>?_
   have k04:=(k02.trans k3).trans k4
   have hb4:=hb.no k04
   simp only [SS,hb4.hd.rd (o:=1) (v:=.map (some m)) rfl]
   exact upd_k hb4 x ⟨p,zA,zA⟩ fun w5 k5 hb5=>h w5 ((k04.no _).trans k5) hb5
def plusA (a b:Ac):Ac:=⟨wr (a.g+b.g),wr (a.o+b.o),wr (a.l+b.l),wr (a.d+b.d),wr (a.c+b.c),wr (a.t+b.t)⟩
theorem k348 {x y:Ac} (h:∀ w',Kp No w w'→K (.agg (plusA x y).cells.toArray) w'):Ct Tryz.prog 348 #[.agg x.cells.toArray,.agg y.cells.toArray] w K:=by
 refine c348 ?_
 unfold F348
 refine new_k x.cells fun w1 k1 b1 s1=>?_
 refine new_k y.cells fun w2 k2 b2 s2=>?_
 refine new_k zA.cells fun w3 k3 b3 s3=>?_
 have x3:Bk w3 w.heap.size x.cells 41:=k3.bk (k2.bk b1 id) id
 have y3:Bk w3 w1.heap.size y.cells 41:=k3.bk b2 id
 simp only [SS,x3.rd (o:=0) (v:=I x.g) rfl,x3.rd (o:=1) (v:=I x.o) rfl,x3.rd (o:=2) (v:=I x.l) rfl,x3.rd (o:=3) (v:=I x.d) rfl,x3.rd (o:=4) (v:=I x.c) rfl,x3.rd (o:=5) (v:=I x.t) rfl,
  y3.rd (o:=0) (v:=I y.g) rfl,y3.rd (o:=1) (v:=I y.o) rfl,y3.rd (o:=2) (v:=I y.l) rfl,y3.rd (o:=3) (v:=I y.d) rfl,y3.rd (o:=4) (v:=I y.c) rfl,y3.rd (o:=5) (v:=I y.t) rfl]
 exact res_k (c:=zA.cells) (cs:=(plusA x y).cells) (k:=fun r0 w4=>K r0 w4) ld41 b3 rfl rfl (Ac.one _) fun w4 k4=>h w4 (((k1.trans k2).trans k3).own k4 (by omega))
theorem k144 {x:Int} (hb:BL w b m root g) (h:∀ w' v,Kp No w w'→K (.tuple #[.agg ((g x).getD zE).acc.cells.toArray,.agg ((g x).getD zE).clo.cells.toArray,v]) w'):Ct Tryz.prog 144 #[Pt b 0,I x] w K:=by
 refine c144 ?_
 unfold F144
 refine new_k zA.cells fun w1 k1 b1 s1=>?_
 refine new_k zA.cells fun w2 k2 b2 s2=>?_
 have k02:=k1.trans k2
 refine k221 (hb.no k02) fun w3 k3=>?_
 have fin:∀ v:Value,(on2 (.tuple #[.agg ((g x).getD zE).cells.toArray,v]) fun yv12_0 yv12_1=>onG yv12_0 fun xyv12_0=>New (.cells zE.cells.toArray 210) w3 fun x7 w4=>Sa 13 x7 xyv12_0 w4 fun w5=>La 6 (x7.add 1) w5.drew fun x16=>La 6 (x7.add 7) w5.drew fun x18=>Sa 6 ⟨w.heap.size,0,none⟩ x16 w5.drew fun w6=>Ha 6 (x7.add 7) x18 w6∧Sa 6 ⟨w1.heap.size,0,none⟩ x18 w6 fun w7 =>
   Rd Tryz.prog (Instr.loadAt 41 (.pointer (some ⟨w.heap.size,0,none⟩))) w7 fun r0=>Rd Tryz.prog (Instr.loadAt 41 (.pointer (some ⟨w1.heap.size,0,none⟩))) w7 fun r1=>K (.tuple #[r0,r1,yv12_1]) w7):=by
  intro v
  obtain ⟨e,he⟩:∃ e,e=(g x).getD zE:=⟨_,rfl⟩
  rw [← he] at h ⊢
  simp only [on2_eq,onG_eq]
  refine ven_k (e:=e) fun w4 k4 b4 s4=>?_
  have hs:=k3.size
  have c4:Bk w4 w.heap.size zA.cells 41:=k4.bk (k3.bk (k2.bk b1 id) id) id
  have d4:Bk w4 w1.heap.size zA.cells 41:=k4.bk (k3.bk b2 id) id
  have la1:∀ k,La 6 ⟨w3.heap.size,1,none⟩ w4 k=k e.acc.cells.toArray:=fun k=>by rw [b4.la (by simp [En.cells,Ac.cells])]; rfl
  have la7:∀ k,La 6 ⟨w3.heap.size,7,none⟩ w4 k=k e.clo.cells.toArray:=fun k=>by rw [b4.la (by simp [En.cells,Ac.cells])]; rfl
  simp only [SS,la1,la7]
  refine sa_k (cs:=e.acc.cells) c4 rfl (by decide) (Ac.one _) fun w5 k5 b5 s5=>?_
  rw [over_all _ _ (by rfl)] at b5
  have e5:Bk w5 w3.heap.size e.cells 210:=k5.bk b4 (by omega)
  refine ⟨by rw [e5.ha (by simp [En.cells,Ac.cells]) (cs:=e.clo.cells.toArray) rfl]; trivial,?_⟩
  refine sa_k (cs:=e.clo.cells) (k5.bk d4 (by omega)) rfl (by decide) (Ac.one _) fun w6 k6 b6 s6=>?_
  rw [over_all _ _ (by rfl)] at b6
  have c6:Bk w6 w.heap.size e.acc.cells 41:=k6.bk b5 (by omega)
  have c6':Bk (dr w6 (w4.drawn+1)) w.heap.size e.acc.cells 41:=c6
  have b6':Bk (dr w6 (w4.drawn+1)) w1.heap.size e.clo.cells 41:=b6
  rw [res_ag ld41 c6' rfl,res_ag ld41 b6' rfl]
  exact h _ v (((((k02.trans k3).trans k4).own k5 (Nat.le_refl _)).own k6 (by omega)).drR _)
 cases e:g x with
 | none=>have:=fin (Er 20); rw [e] at this; exact this
 | some en=>have:=fin .nilIface; rw [e] at this; exact this
def noteE (e:En) (kind:Int) (late:Bool):Except Int En :=
 let t (a:Ac):Ac:=if late=true then { a with t:=wr (a.t+1) } else a
 if kind=9 then (if e.acc.c=1073741824 then .error 10 else .ok { e with acc:=t { e.acc with c:=wr (e.acc.c+1) } })
 else if kind=8 then (if e.acc.d=1073741824 then .error 10 else .ok { e with acc:=t { e.acc with d:=wr (e.acc.d+1) } })
 else .error 1
def noteG (g:Int→Option En) (x kind:Int) (late:Bool):Int→Option En:=match g x with
 | none=>g
 | some e=>match noteE e kind late with
  | .error _=>g
  | .ok e'=>updG g x (some e')
theorem p275_e {y:Nat} {e:En} {x:Int} {w0:World} (hb:BL w b m root g) (hy:Bk w y e.cells 210) (h:∀ w',Kp (·=m) w w'→BL w' b m root (updG g x (some e))→K .nilIface w') :
  onSome (some (Addr.mk b 0 none)) fun x49=>Lc (x49.add 1) w.drew fun v51=>onM v51 fun x51=>La 13 ⟨y,0,none⟩ w.drew fun x53=>Ru Tryz.prog (Instr.mapUpdate 211 (.map x51) (.int .i64 x) (.agg x53)) w.drew fun w7=>K (.nilIface) w7:=by
 simp only [SS,hb.hd.rd (o:=1) (v:=.map (some m)) rfl,hy.la0 (n:=13) rfl]
 exact upd_k (hb.kp (Kp.dr No w _) id id) x e fun w1 k1 hb1=>h w1 k1.drL hb1
theorem p275_0 {y o:Nat} {e:En} {e1:Int→En} {x n:Int} {late:Bool} (hb:BL w b m root g) (hy:Bk w y e.cells 210) (hym:y≠m) (hyb:y≠b) (ho:e.cells[o]?=some (I n)) (he:∀ v,e.cells.set o (I v)=(e1 v).cells)
  (h:∀ w',Kp (fun i=>i=y∨i=m) w w'→BL w' b m root (updG g x (some (if late=true then { e1 (wr (n+1)) with acc:={ (e1 (wr (n+1))).acc with t:=wr ((e1 (wr (n+1))).acc.t+1) } } else e1 (wr (n+1)))))→K .nilIface w'):F275_0 K (some ⟨b,0,none⟩) x late ⟨y,0,none⟩ ⟨y,o,none⟩ w:=by
 unfold F275_0
 have hlt:o<e.cells.length:=(List.getElem?_eq_some_iff.1 ho).1
 simp only [hy.rd ho,onI_eq]
 refine sc_k hy hlt rfl fun w1 k1 b1 s1=>?_
 rw [he] at b1
 have hb1:=hb.kp k1 (fun e=>hyb e.symm) (fun e=>hym e.symm)
 cases late with
 | false =>
  simp only [Ifm_f]
  exact p275_e (w0:=w) hb1 b1 fun w2 k2 hb2=>h w2 ((k1.mono fun _ _=>.inl).trans (k2.mono fun _ _=>.inr)) hb2
 | true =>
  simp only [Ifm_t]
  unfold F275_1
  simp only [add_eq]
  rw [Bk.rd b1 (o:=0+1+5) (v:=I (e1 (wr (n+1))).acc.t) rfl]
  simp only [onI_eq]
  refine sc_k b1 (by simp [En.cells,Ac.cells]) rfl fun w2 k2 b2 s2=>?_
  have hb2:=hb1.kp k2 (fun e=>hyb e.symm) (fun e=>hym e.symm)
  have b2:Bk w2 y ({ e1 (wr (n+1)) with acc:={ (e1 (wr (n+1))).acc with t:=wr ((e1 (wr (n+1))).acc.t+1) } }:En).cells 210:=b2
  exact p275_e (w0:=w) hb2 b2 fun w3 k3 hb3=>h w3 (((k1.trans k2).mono fun _ _=>.inl).trans (k3.mono fun _ _=>.inr)) hb3
theorem k275 {x kind:Int} {late:Bool} (hb:BL w b m root g) (h:∀ w' v,Kp (·=m) w w'→BL w' b m root (noteG g x kind late)→K v w'):Ct Tryz.prog 275 #[Pt b 0,I x,I kind,.bool late] w K:=by
 refine c275 ?_
 unfold F275
 unfold noteG at h
 refine k221 hb fun w1 k1=>?_
 have hlt:=hb.lt
 cases e1:g x with
 | none =>
  simp only [e1] at h
  simp only [SS]
  exact ven_k (e:=zE) fun w2 k2 b2 s2=>h w2 _ ((k1.trans k2).no _) (hb.no (k1.trans k2))
 | some e =>
  simp only [e1] at h
  simp only [SS]
  refine ven_k (e:=e) fun w2 k2 b2 s2=>?_
  have k02:=k1.trans k2
  have hb2:=hb.no k02
  have hs:=k1.size
  have keep:∀ {w3:World},Kp (fun i=>i=w1.heap.size∨i=m) w2 w3→Kp (·=m) w w3:=fun k3=>(k02.no _).step k3 fun i hi hx=>by omega
  unfold noteE at h
  by_cases c1:kind=9
  ·rw [if_pos c1] at h ⊢
   simp only [SS,b2.rd (o:=1+4) (v:=I e.acc.c) rfl]
   by_cases c2:e.acc.c=1073741824
   ·rw [if_pos c2] at h ⊢; exact h w2 _ (k02.no _) hb2
   rw [if_neg c2] at h ⊢
   refine p275_0 (o:=1+4) (n:=e.acc.c) (e1:=fun v=>{ e with acc:={ e.acc with c:=v } }) hb2 b2 (by omega) (by omega) rfl (fun _=>rfl) fun w3 k3 hb3=>h w3 _ (keep k3) ?_
   cases late <;> exact hb3
  rw [if_neg c1] at h ⊢
  by_cases c3:kind=8
  ·rw [if_pos c3] at h ⊢
   simp only [SS,b2.rd (o:=1+3) (v:=I e.acc.d) rfl]
   by_cases c2:e.acc.d=1073741824
   ·rw [if_pos c2] at h ⊢; exact h w2 _ (k02.no _) hb2
   rw [if_neg c2] at h ⊢
   refine p275_0 (o:=1+3) (n:=e.acc.d) (e1:=fun v=>{ e with acc:={ e.acc with d:=v } }) hb2 b2 (by omega) (by omega) rfl (fun _=>rfl) fun w3 k3 hb3=>h w3 _ (keep k3) ?_
   cases late <;> exact hb3
  rw [if_neg c3] at h ⊢
  exact h w2 _ (k02.no _) hb2
end
end
section
open Sy
def F342_0B (R:Ko) (C0:Option Addr→Option Addr→Nat→Nat→Option Addr→Nat→Nat→Int→Int→World→Prop) (x0:Option Addr) (a1:Option Addr) (l1 c1:Nat) (a9:Option Addr) (l9 c9:Nat) (x10:Int) (x11:Int) (w:World):Prop:=Ifm (decide ((x11:Int)<x10)) (Ix a9 l9 x11 1 fun x14=>Lc x14 w fun v15=>onI v15 fun x15=>Ct Tryz.prog 221 #[.pointer x0,.int .i64 x15] w fun v19 w1=>on2 v19 fun y19_0 y19_1=>onG y19_0 fun x19_0=>New (.cells (.agg #[.int .i64 0,.int .i64 0,.int .i64 0,.int .i64 0,.int .i64 0,.int .i64 0,.int .i64 0,.int .i64 0,.int .i64 0,.int .i64 0,.int .i64 0,.int .i64 0,.int .i64 0]:Value).cells 210) w1 fun x7 w2=>Sa 13 x7 x19_0 w2 fun w3=>Nl y19_1 fun x23=>Ifm (!x23) (R (.iface 129 (.int .i64 20)) w3.drew) (Ifm ((x11:Int) == 0) (onSome x0 fun x30=>Lc (x30.add 0) w3.drew fun v32=>onI v32 fun x32=>Ifm ((x15:Int) != x32) (R (.iface 129 (.int .i64 20)) w3.drew) (Ifm (decide ((x11:Int) > 0)) (onSome x0 fun x42=>Lc (x42.add 0) w3.drew fun v44=>onI v44 fun x44=>Ifm ((x15:Int) == x44) (R (.iface 129 (.int .i64 20)) w3.drew) (Lc (x7.add 0) w3.drew fun v48=>onI v48 fun x48=>Ix a1 l1 (IntKind.i64.wrap (x11 - 1)) 1 fun x52=>Lc x52 w3.drew fun v53=>onI v53 fun x53=>Ifm ((x48:Int) != x53) (R (.iface 129 (.int .i64 20)) w3.drew) (C0 x0 a1 l1 c1 a9 l9 c9 x10 (IntKind.i64.wrap (x11+1)) w3.drew))) (C0 x0 a1 l1 c1 a9 l9 c9 x10 (IntKind.i64.wrap (x11+1)) w3.drew))) (Ifm (decide ((x11:Int) > 0)) (onSome x0 fun x42=>Lc (x42.add 0) w3.drew fun v44=>onI v44 fun x44=>Ifm ((x15:Int) == x44) (R (.iface 129 (.int .i64 20)) w3.drew) (Lc (x7.add 0) w3.drew fun v48=>onI v48 fun x48=>Ix a1 l1 (IntKind.i64.wrap (x11 - 1)) 1 fun x52=>Lc x52 w3.drew fun v53=>onI v53 fun x53=>Ifm ((x48:Int) != x53) (R (.iface 129 (.int .i64 20)) w3.drew) (C0 x0 a1 l1 c1 a9 l9 c9 x10 (IntKind.i64.wrap (x11+1)) w3.drew))) (C0 x0 a1 l1 c1 a9 l9 c9 x10 (IntKind.i64.wrap (x11+1)) w3.drew)))) (Ifm (((l1:Nat):Int) == 0) (R (.iface 129 (.int .i64 20)) w) (R (.nilIface) w))
def F342_0 (R:Ko) (x0:Option Addr) (a1:Option Addr) (l1 c1:Nat) (a9:Option Addr) (l9 c9:Nat) (x10:Int) (x11:Int) (w:World):Prop:=∃ (Inv:Option Addr→Option Addr→Nat→Nat→Option Addr→Nat→Nat→Int→Int→World→Prop) (μ:Option Addr→Option Addr→Nat→Nat→Option Addr→Nat→Nat→Int→Int→World→Nat),Inv x0 a1 l1 c1 a9 l9 c9 x10 x11 w∧∀ x0 a1 l1 c1 a9 l9 c9 x10 x11 w,Inv x0 a1 l1 c1 a9 l9 c9 x10 x11 w→F342_0B R (fun x0' a1' l1' c1' a9' l9' c9' x10' x11' w'=>Inv x0' a1' l1' c1' a9' l9' c9' x10' x11' w'∧μ x0' a1' l1' c1' a9' l9' c9' x10' x11' w'<μ x0 a1 l1 c1 a9 l9 c9 x10 x11 w) x0 a1 l1 c1 a9 l9 c9 x10 x11 w
def F342 (R:Ko) (x0:Option Addr) (a1:Option Addr) (l1 c1:Nat) (w:World):Prop:=F342_0 R x0 a1 l1 c1 a1 l1 c1 (l1:Nat) 0 w
noncomputable def b342:Code:=Tryz.f342.body.getD .skip
def q342_0:List Bool:=[false,true,false,true]
def L342_0 (F:Option Addr→Option Addr→Nat→Nat→Option Addr→Nat→Nat→Int→Int→World→Prop):Env→World→Prop:=fun ρ w=>onP (ρ 0) fun x0=>onL (ρ 1) fun a1 l1 c1=>onL (ρ 9) fun a9 l9 c9=>onI (ρ 10) fun x10=>onI (ρ 11) fun x11=>F x0 a1 l1 c1 a9 l9 c9 x10 x11 w
abbrev T342 (z:Fr) (R:Ko) (p:List Bool) (ρ:Env) (w:World):Prop:=TW z Tryz.prog 64 (segTodo b342 p) (QR Tryz.prog [.tmp 4] R) ρ w
theorem s342_0 (R:Ko):∀ ρ w,(L342_0 (F342_0 R)) ρ w→T342 z0 R q342_0 ρ w:=by
 intro ρ w h
 obtain ⟨x0,e0,h⟩:=onP_of h
 obtain ⟨a1,l1,c1,e1,h⟩:=onL_of h
 obtain ⟨a9,l9,c9,e9,h⟩:=onL_of h
 obtain ⟨x10,e10,h⟩:=onI_of h
 obtain ⟨x11,e11,h⟩:=onI_of h
 obtain ⟨Inv,μ,hi,hb⟩:=h
 refine lpT (fun m=>L342_0 (fun x0 a1 l1 c1 a9 l9 c9 x10 x11 w=>Inv x0 a1 l1 c1 a9 l9 c9 x10 x11 w∧μ x0 a1 l1 c1 a9 l9 c9 x10 x11 w=m)) ?_ (μ x0 a1 l1 c1 a9 l9 c9 x10 x11 w) ρ w ?_
 ·intro m ρ w ih h
  obtain ⟨x0,e0,h⟩:=onP_of h
  obtain ⟨a1,l1,c1,e1,h⟩:=onL_of h
  obtain ⟨a9,l9,c9,e9,h⟩:=onL_of h
  obtain ⟨x10,e10,h⟩:=onI_of h
  obtain ⟨x11,e11,h⟩:=onI_of h
  obtain ⟨hv,hm⟩:=h
  subst hm
  have hh:=hb x0 a1 l1 c1 a9 l9 c9 x10 x11 w hv
  obtain ⟨C0,hC⟩:∃ C,C=fun x0' a1' l1' c1' a9' l9' c9' x10' x11' w'=>Inv x0' a1' l1' c1' a9' l9' c9' x10' x11' w'∧μ x0' a1' l1' c1' a9' l9' c9' x10' x11' w'<μ x0 a1 l1 c1 a9 l9 c9 x10 x11 w:=⟨_,rfl⟩
  rw [← hC] at hh
  have h0:∀ ρ w,(L342_0 C0) ρ w→T342 z0 R q342_0 ρ w:=by
   intro ρ' w' h'
   refine ih ρ' w' ?_
   obtain ⟨x0',e0',h'⟩:=onP_of h'
   obtain ⟨a1',l1',c1',e1',h'⟩:=onL_of h'
   obtain ⟨a9',l9',c9',e9',h'⟩:=onL_of h'
   obtain ⟨x10',e10',h'⟩:=onI_of h'
   obtain ⟨x11',e11',h'⟩:=onI_of h'
   rw [hC] at h'
   refine ⟨_,h'.2,?_⟩
   simp only [e0',e1',e9',e10',e11',L342_0,ons]
   exact ⟨h'.1,by trivial⟩
  rw [← upds_same (ρ:=ρ) [(0,.pointer x0),(1,.slice a1 l1 c1),(9,.slice a9 l9 c9),(10,.int .i64 x10),(11,.int .i64 x11)] (alc e0 (alc e1 (alc e9 (alc e10 (alc e11 aln)))))]
  exact sg (cuts:=[(q342_0,L342_0 C0)]) ⟨h0,trivial⟩ hh
 ·simp only [e0,e1,e9,e10,e11,L342_0,ons]
  exact ⟨hi,by trivial⟩
theorem c342 {R:Ko} {x0:Option Addr} {a1:Option Addr} {l1 c1:Nat} {w:World} (h:F342 R x0 a1 l1 c1 w):Ct Tryz.prog 342 #[.pointer x0,.slice a1 l1 c1] w R :=
 ctS (args:=[.pointer x0,.slice a1 l1 c1]) (body:=b342) (n:=64) (rs:=[.tmp 4]) Tryz.func342
  (sg (cuts:=[(q342_0,L342_0 (F342_0 R))]) ⟨s342_0 R,trivial⟩ h)
def F272_0B (R:Ko) (C0:Option Addr→Option Addr→Nat→Nat→Bool→Option Addr→Nat→Nat→Int→Int→World→Prop) (x0:Option Addr) (a1:Option Addr) (l1 c1:Nat) (x2:Bool) (a30:Option Addr) (l30 c30:Nat) (x31:Int) (x32:Int) (w:World):Prop:=Ifm (decide ((x32:Int)<x31)) (Ix a30 l30 x32 1 fun x35=>Lc x35 w fun v36=>onI v36 fun x36=>onSome x0 fun x38=>Lc (x38.add 1) w fun v40=>onM v40 fun x40=>Rd Tryz.prog (Instr.lookup 211 (.map x40) (.int .i64 x36) false) w fun v42=>onG v42 fun x42=>New (.cells (.agg #[.int .i64 0,.int .i64 0,.int .i64 0,.int .i64 0,.int .i64 0,.int .i64 0,.int .i64 0,.int .i64 0,.int .i64 0,.int .i64 0,.int .i64 0,.int .i64 0,.int .i64 0]:Value).cells 210) w fun x10 w2=>Sa 13 x10 x42 w2 fun w3=>Lc ((x10.add 1).add 0) w3 fun v45=>onI v45 fun x45=>Sc ((x10.add 1).add 0) (.int .i64 (IntKind.i64.wrap (x45+1))) w3 fun w4=>Ifm ((x32:Int) == (IntKind.i64.wrap ((l1:Nat) - 1))) (Lc ((x10.add 1).add 1) w4 fun v56=>onI v56 fun x56=>Sc ((x10.add 1).add 1) (.int .i64 (IntKind.i64.wrap (x56+1))) w4 fun w5=>Ifm x2 (Lc ((x10.add 1).add 2) w5 fun v63=>onI v63 fun x63=>Sc ((x10.add 1).add 2) (.int .i64 (IntKind.i64.wrap (x63+1))) w5 fun w6=>onSome x0 fun x68=>Lc (x68.add 1) w6.drew fun v70=>onM v70 fun x70=>La 13 x10 w6.drew fun x72=>Ru Tryz.prog (Instr.mapUpdate 211 (.map x70) (.int .i64 x36) (.agg x72)) w6.drew fun w7=>C0 x0 a1 l1 c1 x2 a30 l30 c30 x31 (IntKind.i64.wrap (x32+1)) w7) (onSome x0 fun x68=>Lc (x68.add 1) w5.drew fun v70=>onM v70 fun x70=>La 13 x10 w5.drew fun x72=>Ru Tryz.prog (Instr.mapUpdate 211 (.map x70) (.int .i64 x36) (.agg x72)) w5.drew fun w8=>C0 x0 a1 l1 c1 x2 a30 l30 c30 x31 (IntKind.i64.wrap (x32+1)) w8)) (onSome x0 fun x68=>Lc (x68.add 1) w4.drew fun v70=>onM v70 fun x70=>La 13 x10 w4.drew fun x72=>Ru Tryz.prog (Instr.mapUpdate 211 (.map x70) (.int .i64 x36) (.agg x72)) w4.drew fun w9=>C0 x0 a1 l1 c1 x2 a30 l30 c30 x31 (IntKind.i64.wrap (x32+1)) w9)) (R (.nilIface) w)
def F272_0 (R:Ko) (x0:Option Addr) (a1:Option Addr) (l1 c1:Nat) (x2:Bool) (a30:Option Addr) (l30 c30:Nat) (x31:Int) (x32:Int) (w:World):Prop:=∃ (Inv:Option Addr→Option Addr→Nat→Nat→Bool→Option Addr→Nat→Nat→Int→Int→World→Prop) (μ:Option Addr→Option Addr→Nat→Nat→Bool→Option Addr→Nat→Nat→Int→Int→World→Nat),Inv x0 a1 l1 c1 x2 a30 l30 c30 x31 x32 w∧∀ x0 a1 l1 c1 x2 a30 l30 c30 x31 x32 w,Inv x0 a1 l1 c1 x2 a30 l30 c30 x31 x32 w→F272_0B R (fun x0' a1' l1' c1' x2' a30' l30' c30' x31' x32' w'=>Inv x0' a1' l1' c1' x2' a30' l30' c30' x31' x32' w'∧μ x0' a1' l1' c1' x2' a30' l30' c30' x31' x32' w'<μ x0 a1 l1 c1 x2 a30 l30 c30 x31 x32 w) x0 a1 l1 c1 x2 a30 l30 c30 x31 x32 w
def F272 (R:Ko) (x0:Option Addr) (a1:Option Addr) (l1 c1:Nat) (x2:Bool) (w:World):Prop:=Ct Tryz.prog 342 #[.pointer x0,.slice a1 l1 c1] w fun v13 w1=>Nl v13 fun x15=>Ifm (!x15) (R v13 w1) (onSome x0 fun x18=>Lc (x18.add 1) w1.drew fun v20=>onM v20 fun x20=>onSome x0 fun x22=>Lc (x22.add 0) w1.drew fun v24=>onI v24 fun x24=>Rd Tryz.prog (Instr.lookup 211 (.map x20) (.int .i64 x24) false) w1.drew fun v25=>onG v25 fun x25=>Fe (x25.extract 1 7) 0 fun v27=>onI v27 fun x27=>Ifm ((x27:Int) == 1073741824) (R (.iface 129 (.int .i64 10)) w1.drew) (F272_0 R x0 a1 l1 c1 x2 a1 l1 c1 (l1:Nat) 0 w1.drew))
noncomputable def b272:Code:=Tryz.f272.body.getD .skip
def q272_0:List Bool:=[false,true,false,true,true,true]
def L272_0 (F:Option Addr→Option Addr→Nat→Nat→Bool→Option Addr→Nat→Nat→Int→Int→World→Prop):Env→World→Prop:=fun ρ w=>onP (ρ 0) fun x0=>onL (ρ 1) fun a1 l1 c1=>onB (ρ 2) fun x2=>onL (ρ 30) fun a30 l30 c30=>onI (ρ 31) fun x31=>onI (ρ 32) fun x32=>F x0 a1 l1 c1 x2 a30 l30 c30 x31 x32 w
abbrev T272 (z:Fr) (R:Ko) (p:List Bool) (ρ:Env) (w:World):Prop:=TW z Tryz.prog 74 (segTodo b272 p) (QR Tryz.prog [.tmp 6] R) ρ w
theorem s272_0 (R:Ko):∀ ρ w,(L272_0 (F272_0 R)) ρ w→T272 z0 R q272_0 ρ w:=by
 intro ρ w h
 obtain ⟨x0,e0,h⟩:=onP_of h
 obtain ⟨a1,l1,c1,e1,h⟩:=onL_of h
 obtain ⟨x2,e2,h⟩:=onB_of h
 obtain ⟨a30,l30,c30,e30,h⟩:=onL_of h
 obtain ⟨x31,e31,h⟩:=onI_of h
 obtain ⟨x32,e32,h⟩:=onI_of h
 obtain ⟨Inv,μ,hi,hb⟩:=h
 refine lpT (fun m=>L272_0 (fun x0 a1 l1 c1 x2 a30 l30 c30 x31 x32 w=>Inv x0 a1 l1 c1 x2 a30 l30 c30 x31 x32 w∧μ x0 a1 l1 c1 x2 a30 l30 c30 x31 x32 w=m)) ?_ (μ x0 a1 l1 c1 x2 a30 l30 c30 x31 x32 w) ρ w ?_
 ·intro m ρ w ih h
  obtain ⟨x0,e0,h⟩:=onP_of h
  obtain ⟨a1,l1,c1,e1,h⟩:=onL_of h
  obtain ⟨x2,e2,h⟩:=onB_of h
  obtain ⟨a30,l30,c30,e30,h⟩:=onL_of h
  obtain ⟨x31,e31,h⟩:=onI_of h
  obtain ⟨x32,e32,h⟩:=onI_of h
  obtain ⟨hv,hm⟩:=h
  subst hm
  have hh:=hb x0 a1 l1 c1 x2 a30 l30 c30 x31 x32 w hv
  obtain ⟨C0,hC⟩:∃ C,C=fun x0' a1' l1' c1' x2' a30' l30' c30' x31' x32' w'=>Inv x0' a1' l1' c1' x2' a30' l30' c30' x31' x32' w'∧μ x0' a1' l1' c1' x2' a30' l30' c30' x31' x32' w'<μ x0 a1 l1 c1 x2 a30 l30 c30 x31 x32 w:=⟨_,rfl⟩
  rw [← hC] at hh
  have h0:∀ ρ w,(L272_0 C0) ρ w→T272 z0 R q272_0 ρ w:=by
   intro ρ' w' h'
   refine ih ρ' w' ?_
   obtain ⟨x0',e0',h'⟩:=onP_of h'
   obtain ⟨a1',l1',c1',e1',h'⟩:=onL_of h'
   obtain ⟨x2',e2',h'⟩:=onB_of h'
   obtain ⟨a30',l30',c30',e30',h'⟩:=onL_of h'
   obtain ⟨x31',e31',h'⟩:=onI_of h'
   obtain ⟨x32',e32',h'⟩:=onI_of h'
   rw [hC] at h'
   refine ⟨_,h'.2,?_⟩
   simp only [e0',e1',e2',e30',e31',e32',L272_0,ons]
   exact ⟨h'.1,by trivial⟩
  rw [← upds_same (ρ:=ρ) [(0,.pointer x0),(1,.slice a1 l1 c1),(2,.bool x2),(30,.slice a30 l30 c30),(31,.int .i64 x31),(32,.int .i64 x32)] (alc e0 (alc e1 (alc e2 (alc e30 (alc e31 (alc e32 aln))))))]
  exact sg (cuts:=[(q272_0,L272_0 C0)]) ⟨h0,trivial⟩ hh
 ·simp only [e0,e1,e2,e30,e31,e32,L272_0,ons]
  exact ⟨hi,by trivial⟩
theorem c272 {R:Ko} {x0:Option Addr} {a1:Option Addr} {l1 c1:Nat} {x2:Bool} {w:World} (h:F272 R x0 a1 l1 c1 x2 w):Ct Tryz.prog 272 #[.pointer x0,.slice a1 l1 c1,.bool x2] w R :=
 ctS (args:=[.pointer x0,.slice a1 l1 c1,.bool x2]) (body:=b272) (n:=74) (rs:=[.tmp 6]) Tryz.func272
  (sg (cuts:=[(q272_0,L272_0 (F272_0 R))]) ⟨s272_0 R,trivial⟩ h)
variable {K:Ko} {w w':World}
def wayAt (g:Int→Option En) (root:Int) (hs:List Int) (i:Nat):Bool:=match g (hs.getD i 0) with
 | none=>false
 | some e=>if i=0 then decide (hs.getD i 0=root) else !decide (hs.getD i 0=root) && decide (e.par=hs.getD (i - 1) 0)
def wayB (g:Int→Option En) (root:Int) (hs:List Int):Bool := !hs.isEmpty && (List.range hs.length).all (wayAt g root hs)
section
variable {b m:Nat} {root:Int} {g:Int→Option En}
theorem k342 {B l c:Nat} {a:Option Addr} {hs:List Int} (hl:hs.length<1000000) (hb:BL w b m root g) (ho:w.ownsRow B 33 1 (.slice a l c) hs.length (hs.map I)) (h:∀ w',Kp No w w'→K (if wayB g root hs=true then .nilIface else Er 20) w'):Ct Tryz.prog 342 #[Pt b 0,.slice a l c] w K:=by
 refine c342 ?_
 unfold F342
 have hlen:=own_len ho
 unfold F342_0
 refine ⟨fun y0 a1 l1 c1 a9 l9 c9 x10 x11 w'=>y0=some ⟨b,0,none⟩∧a=a1∧l=l1∧c=c1∧a=a9∧l=l9∧c=c9∧x10=l∧Kp No w w'∧∃ i:Nat,x11=i∧i≤hs.length∧∀ j,j<i→wayAt g root hs j=true,fun _ _ _ _ _ _ _ _ x11 _=>hs.length - x11.toNat,
  ⟨rfl,rfl,rfl,rfl,rfl,rfl,rfl,rfl,Kp.refl _ _,0,rfl,Nat.zero_le _,fun j hj=>absurd hj (Nat.not_lt_zero j)⟩,?_⟩
 rintro _ _ _ _ _ _ _ _ _ w1 ⟨rfl,rfl,rfl,rfl,rfl,rfl,rfl,rfl,k1,i,rfl,hi,hx⟩
 unfold F342_0B
 simp only [SS]
 by_cases e1:i<l
 case neg =>
  rw [if_neg (by omega)]
  have hh:=h w1 k1
  have hall:(List.range hs.length).all (wayAt g root hs)=true:=by rw [List.all_eq_true]; intro j hj; exact hx j (by rw [List.mem_range] at hj; omega)
  unfold wayB at hh
  rw [hall] at hh
  by_cases e2:((l:Nat):Int)=0
  ·rw [if_pos e2]
   have:hs=[]:=List.eq_nil_of_length_eq_zero (by omega)
   rw [this] at hh; simpa using hh
  ·rw [if_neg e2]
   cases hs with
   | nil=>simp at hlen; omega
   | cons x hs=>simpa using hh
 rw [if_pos (by omega)]
 have hi':i<hs.length:=by omega
 have ho1:=own_kp ho k1 fun _ _=>id
 have hb1:=hb.no k1
 obtain ⟨gb,rfl,_,hlc⟩:=hd_lc ho1 hi'
 have hgd:hs.getD i 0=hs[i]:=by simp [hi']
 simp only [SS,Ix_c e1,hlc]
 have bad:wayAt g root hs i=false→∀ w2,Kp No w w2→K (Er 20) w2:=by
  intro hf w2 k2
  have hh:=h w2 k2
  have:wayB g root hs=false:=by
   unfold wayB
   have:(List.range hs.length).all (wayAt g root hs)=false:=by
    rw [List.all_eq_false]; exact ⟨i,by simpa using hi',by simp [hf]⟩
   rw [this]; simp
  rw [this] at hh; exact hh
 have good:wayAt g root hs i=true→∀ w2,Kp No w1 w2→(Kp No w w2∧∃ j:Nat,IntKind.i64.wrap ((i:Int)+1)=j∧j≤hs.length∧∀ k,k<j→wayAt g root hs k=true)∧hs.length - (IntKind.i64.wrap ((i:Int)+1)).toNat<hs.length - i:=by
  intro ht w2 k2
  rw [cast_succ _ (by omega)]
  refine ⟨⟨k1.trans k2,i+1,rfl,by omega,fun k hk=>?_⟩,by simp; omega⟩
  rcases Nat.lt_or_ge k i with h' | h'
  ·exact hx k h'
  ·have:k=i:=by omega
   subst this; exact ht
 unfold wayAt at bad good
 rw [hgd] at bad good
 refine k221 hb1 fun w2 k2=>?_
 cases e2:g hs[i] with
 | none =>
  simp only [e2] at bad
  simp only [SS]
  refine ven_k (e:=zE) fun w3 k3 b3 s3=>?_
  exact bad trivial _ (((k1.trans k2).trans k3).drR _)
 | some en =>
  simp only [e2] at bad good
  simp only [SS]
  refine ven_k (e:=en) fun w3 k3 b3 s3=>?_
  have k13:=k2.trans k3
  have hb3:=hb1.no k13
  simp only [SS,hb3.hd.rd (o:=0) (v:=I root) rfl,b3.rd (o:=0) (v:=I en.par) rfl]
  by_cases e3:i=0
  ·subst e3
   rw [if_pos (by simp)]
   simp only [if_true,decide_eq_false_iff_not,decide_eq_true_eq] at bad good
   by_cases e4:hs[0]=root
   ·rw [if_pos e4,if_neg (by simp)]
    exact good e4 _ (k13.drR _)
   ·rw [if_neg e4]
    exact bad e4 _ ((k1.trans k13).drR _)
  ·rw [if_neg (by omega),if_pos (by omega)]
   rw [if_neg e3] at bad good
   by_cases e4:hs[i]=root
   ·rw [if_pos e4]
    exact bad (by simp [e4]) _ ((k1.trans k13).drR _)
   rw [if_neg e4]
   have hp:IntKind.i64.wrap ((i:Int) - 1)=((i - 1:Nat):Int):=by rw [IntKind.wrap_i64]; omega
   have ho3:=own_kp ho1 k13 fun _ _=>id
   obtain ⟨gb',hgb,_,hlc'⟩:=hd_lc ho3 (i:=i - 1) (by omega)
   injection hgb with hgb; injection hgb with hgb; subst hgb
   simp only [hp,Ix_c (show i - 1<l by omega),hlc',SS]
   have hgd':hs.getD (i - 1) 0=hs[i - 1]:=by simp [show i - 1<hs.length by omega]
   rw [hgd'] at bad good
   by_cases e5:en.par=hs[i - 1]
   ·rw [if_pos e5]
    exact good (by simp [e4,e5]) _ (k13.drR _)
   ·rw [if_neg e5]
    exact bad (by simp [e5]) _ ((k1.trans k13).drR _)
def chargeE (e:En) (last lent:Bool):En:={ e with acc:={ e.acc with g:=wr (e.acc.g+1),o:=if last=true then wr (e.acc.o+1) else e.acc.o,l:=if last=true∧lent=true then wr (e.acc.l+1) else e.acc.l } }
def chargeF (hs:List Int) (lent:Bool) (g:Int→Option En) (i:Nat):Int→Option En:=updG g (hs.getD i 0) (some (chargeE ((g (hs.getD i 0)).getD zE) (decide (i+1=hs.length)) lent))
def chargeG (g:Int→Option En) (root:Int) (hs:List Int) (lent:Bool):Int→Option En :=
 if wayB g root hs=false then g else if ((g root).getD zE).acc.g=1073741824 then g else (List.range hs.length).foldl (chargeF hs lent) g
theorem k272 {B l c:Nat} {a:Option Addr} {hs:List Int} {lent:Bool} (hl:hs.length<1000000) (hb:BL w b m root g) (ho:w.ownsRow B 33 1 (.slice a l c) hs.length (hs.map I)) (h:∀ w' v,Kp (·=m) w w'→BL w' b m root (chargeG g root hs lent)→K v w'):Ct Tryz.prog 272 #[Pt b 0,.slice a l c,.bool lent] w K:=by
 refine c272 ?_
 unfold F272
 refine k342 hl hb ho fun w1 k1=>?_
 have hb1:=hb.no k1
 have hlt:=hb.lt
 unfold chargeG at h
 cases e1:wayB g root hs with
 | false=>rw [if_pos e1] at h; rw [if_neg (by simp)]; simp only [SS]; exact h w1 _ (k1.no _) hb1
 | true =>
 rw [if_neg (by simp [e1])] at h
 rw [if_pos rfl]
 simp only [SS,hb1.hd.rd (o:=0) (v:=I root) rfl,hb1.hd.rd (o:=1) (v:=.map (some m)) rfl]
 rw [look_one (hb1.kp (Kp.dr No w1 _) id id)]
 obtain ⟨re,hre⟩:∃ y,y=(g root).getD zE:=⟨_,rfl⟩
 rw [← hre] at h ⊢
 simp only [SS]
 rw [Fe_of (v:=I re.acc.g) (by simp [En.cells,Ac.cells])]
 simp only [SS]
 by_cases e2:re.acc.g=1073741824
 ·rw [if_pos e2] at h ⊢; exact h _ _ ((k1.no _).drR _) (hb1.kp (Kp.dr No w1 _) id id)
 rw [if_neg e2] at h ⊢
 have hlen:=own_len ho
 unfold F272_0
 refine ⟨fun y0 a1 l1 c1 x2 a30 l30 c30 x31 x32 w'=>y0=some ⟨b,0,none⟩∧a=a1∧l=l1∧c=c1∧lent=x2∧a=a30∧l=l30∧c=c30∧x31=l∧Kp (·=m) w w'∧∃ i:Nat,x32=i∧i≤hs.length∧BL w' b m root ((List.range i).foldl (chargeF hs lent) g),fun _ _ _ _ _ _ _ _ _ x32 _=>hs.length - x32.toNat,
  ⟨rfl,rfl,rfl,rfl,rfl,rfl,rfl,rfl,rfl,(k1.no _).drR _,0,rfl,Nat.zero_le _,hb1.kp (Kp.dr No w1 _) id id⟩,?_⟩
 rintro _ _ _ _ _ _ _ _ _ _ w2 ⟨rfl,rfl,rfl,rfl,rfl,rfl,rfl,rfl,rfl,k2,i,rfl,hi,hb2⟩
 unfold F272_0B
 simp only [SS]
 by_cases e3:i<l
 case neg =>
  rw [if_neg (by omega)]
  rw [show i=hs.length by omega] at hb2
  exact h w2 _ k2 hb2
 rw [if_pos (by omega)]
 have hi':i<hs.length:=by omega
 have ham:∀ y,(Value.slice a l c).ownBlock=some y→y≠m:=by
  intro y hy
  rcases own_bk ho with ⟨rfl,_⟩ | ⟨gb,cur,rfl,_,_,hbk,_⟩
  ·cases hy
  ·injection hy with hy
   obtain ⟨es,cl,hm⟩:=hb.mp
   rw [← hy]
   exact ne_of_bk hbk hm.hp (by simp)
 have ho2:=own_kp ho k2 fun y hy e=>ham y hy e
 obtain ⟨gb,rfl,_,hlc⟩:=hd_lc ho2 hi'
 have hgd:hs.getD i 0=hs[i]:=by simp [hi']
 obtain ⟨g2,hg2⟩:∃ y,y=(List.range i).foldl (chargeF hs lent) g:=⟨_,rfl⟩
 rw [← hg2] at hb2
 have hstep:(List.range (i+1)).foldl (chargeF hs lent) g=updG g2 hs[i] (some (chargeE ((g2 hs[i]).getD zE) (decide (i+1=hs.length)) lent)):=by
  rw [List.range_succ,List.foldl_append,← hg2]
  simp only [List.foldl_cons,List.foldl_nil,chargeF,hgd]
 simp only [SS,Ix_c e3,hlc,hb2.hd.rd (o:=1) (v:=.map (some m)) rfl]
 rw [look_one hb2]
 obtain ⟨en,hen⟩:∃ y,y=(g2 hs[i]).getD zE:=⟨_,rfl⟩
 rw [← hen] at hstep ⊢
 simp only [SS]
 refine ven_k (e:=en) fun w3 k3 b3 s3=>?_
 have hb3:=hb2.no k3
 have hs2:=k2.size
 have hlt2:=hb2.lt
 have fin:∀ (w4:World) (e':En),Kp (·=w2.heap.size) w3 w4→Bk w4 w2.heap.size e'.cells 210→e'=chargeE en (decide (i+1=hs.length)) lent→onSome (some (Addr.mk b 0 none)) fun x68=>Lc (x68.add 1) w4.drew fun v70=>onM v70 fun x70=>La 13 ⟨w2.heap.size,0,none⟩ w4.drew fun x72=>Ru Tryz.prog (Instr.mapUpdate 211 (.map x70) (.int .i64 hs[i]) (.agg x72)) w4.drew fun w7 =>
   (Kp (·=m) w w7∧∃ j:Nat,IntKind.i64.wrap ((i:Int)+1)=j∧j≤hs.length∧BL w7 b m root ((List.range j).foldl (chargeF hs lent) g))∧hs.length - (IntKind.i64.wrap ((i:Int)+1)).toNat<hs.length - i:=by
  intro w4 e' k4 b4 he
  have hb4:=hb3.kp k4 (by omega) (by omega)
  simp only [SS,hb4.hd.rd (o:=1) (v:=.map (some m)) rfl,b4.la0 (n:=13) rfl]
  refine upd_k (hb4.kp (Kp.dr No w4 _) id id) hs[i] e' fun w5 k5 hb5=>?_
  rw [cast_succ _ (by omega)]
  refine ⟨⟨((k2.trans (k3.no _)).own k4 (by omega)).trans k5.drL,i+1,rfl,by omega,?_⟩,by simp; omega⟩
  rw [hstep,← he]; exact hb5
 simp only [SS,b3.rd (o:=1) (v:=I en.acc.g) rfl]
 refine sc_k b3 (by simp [En.cells,Ac.cells]) rfl fun w4 k4 b4 s4=>?_
 have b4:Bk w4 w2.heap.size ({ en with acc:={ en.acc with g:=wr (en.acc.g+1) } }:En).cells 210:=b4
 have hlw:IntKind.i64.wrap ((l:Int) - 1)=((l - 1:Nat):Int):=by rw [IntKind.wrap_i64]; omega
 rw [hlw]
 by_cases e4:i+1=hs.length
 case neg =>
  rw [if_neg (by omega)]
  have:=fin w4 _ k4 b4 (by unfold chargeE; simp [e4])
  simp only [SS] at this
  exact this
 rw [if_pos (by omega)]
 simp only [SS,b4.rd (o:=1+1) (v:=I en.acc.o) rfl]
 refine sc_k b4 (by simp [En.cells,Ac.cells]) rfl fun w5 k5 b5 s5=>?_
 have b5:Bk w5 w2.heap.size ({ en with acc:={ en.acc with g:=wr (en.acc.g+1),o:=wr (en.acc.o+1) } }:En).cells 210:=b5
 cases lent with
 | false =>
  simp only [SS]
  have:=fin w5 _ (k4.trans k5) b5 (by unfold chargeE; simp [e4])
  simp only [SS] at this
  exact this
 | true =>
  simp only [SS,b5.rd (o:=1+2) (v:=I en.acc.l) rfl]
  refine sc_k b5 (by simp [En.cells,Ac.cells]) rfl fun w6 k6 b6 s6=>?_
  have b6:Bk w6 w2.heap.size ({ en with acc:={ en.acc with g:=wr (en.acc.g+1),o:=wr (en.acc.o+1),l:=wr (en.acc.l+1) } }:En).cells 210:=b6
  have:=fin w6 _ ((k4.trans k5).trans k6) b6 (by unfold chargeE; simp [e4])
  simp only [SS] at this
  exact this
end
end
section
open Sy
def F279_1 (R:Ko) (C0:Option Addr→Int→Addr→Ko) (x0:Option Addr) (x1:Int) (x5:Addr) (x33:Value) (x35:Bool) (w:World):Prop:=Ifm x35 (Rd Tryz.prog (Instr.entry x33) w fun v36=>on2 v36 fun y36_0 y36_1=>onG y36_1 fun x37=>New (.cells (.agg #[.int .i64 0,.int .i64 0,.int .i64 0,.int .i64 0,.int .i64 0,.int .i64 0,.int .i64 0,.int .i64 0,.int .i64 0,.int .i64 0,.int .i64 0,.int .i64 0,.int .i64 0]:Value).cells 210) w fun x8 w6=>Sa 13 x8 x37 w6 fun w7=>Lc (x8.add 0) w7 fun v39=>onI v39 fun x39=>Ifm ((x39:Int) == x1) (R (.iface 129 (.int .i64 1)) w7) (C0 x0 x1 x5 x33 w7)) (La 6 (x5.add 7) w fun x44=>New (.cells (.agg #[.int .i64 0,.int .i64 0,.int .i64 0,.int .i64 0,.int .i64 0,.int .i64 0]:Value).cells 41) w fun x9 w8=>Sa 6 x9 x44 w8 fun w9=>Sc (x9.add 0) (.int .i64 0) w9 fun w10=>onSome x0 fun x47=>Lc (x47.add 1) w10.drew fun v49=>onM v49 fun x49=>Lc (x5.add 0) w10.drew fun v51=>onI v51 fun x51=>Rd Tryz.prog (Instr.lookup 211 (.map x49) (.int .i64 x51) false) w10.drew fun v52=>onG v52 fun x52=>New (.cells (.agg #[.int .i64 0,.int .i64 0,.int .i64 0,.int .i64 0,.int .i64 0,.int .i64 0,.int .i64 0,.int .i64 0,.int .i64 0,.int .i64 0,.int .i64 0,.int .i64 0,.int .i64 0]:Value).cells 210) w10.drew fun x10 w11=>Hd Tryz.prog (Instr.lookup 211 (.map x49) (.int .i64 x51) false) (.agg x52) w11∧Hc (x5.add 0) (.int .i64 x51) w11∧Hc (x47.add 1) (.map x49) w11∧Sa 13 x10 x52 w11 fun w12=>La 6 (x10.add 7) w12.drew fun x54=>La 6 (x5.add 1) w12.drew fun x56=>La 6 x9 w12.drew fun x57=>Ct Tryz.prog 348 #[.agg x56,.agg x57] w12.drew fun v58 w13=>onG v58 fun x58=>Ha 6 (x10.add 7) x54 w13∧Ct Tryz.prog 348 #[.agg x54,.agg x58] w13 fun v59 w14=>onG v59 fun x59=>Sa 6 (x10.add 7) x59 w14 fun w15=>onSome x0 fun x62=>Lc (x62.add 1) w15.drew fun v64=>onM v64 fun x64=>Lc (x5.add 0) w15.drew fun v66=>onI v66 fun x66=>La 13 x10 w15.drew fun x67=>Ru Tryz.prog (Instr.mapUpdate 211 (.map x64) (.int .i64 x66) (.agg x67)) w15.drew fun w16=>onSome x0 fun x69=>Lc (x69.add 1) w16 fun v71=>onM v71 fun x71=>Rv Tryz.prog (Builtin.delete_ #[211,33] 0 #[.map x71,.int .i64 x1]) w16 fun v_ w17=>R (.nilIface) w17)
def F279_0B (R:Ko) (C0:Option Addr→Int→Addr→Ko) (x0:Option Addr) (x1:Int) (x5:Addr) (x33:Value) (w:World):Prop:=Rv Tryz.prog (Instr.next x33 false 0) w fun v34 w5=>onNext v34 (fun y34_0 y34_1=>F279_1 R C0 x0 x1 x5 x33 true w5) (F279_1 R C0 x0 x1 x5 x33 false w5)
def F279_0 (R:Ko) (x0:Option Addr) (x1:Int) (x5:Addr) (x33:Value) (w:World):Prop:=∃ (Inv:Option Addr→Int→Addr→Ko) (μ:Option Addr→Int→Addr→Value→World→Nat),Inv x0 x1 x5 x33 w∧∀ x0 x1 x5 x33 w,Inv x0 x1 x5 x33 w→F279_0B R (fun x0' x1' x5' x33' w'=>Inv x0' x1' x5' x33' w'∧μ x0' x1' x5' x33' w'<μ x0 x1 x5 x33 w) x0 x1 x5 x33 w
def F279 (R:Ko) (x0:Option Addr) (x1:Int) (w:World):Prop:=Ct Tryz.prog 221 #[.pointer x0,.int .i64 x1] w fun v14 w1=>on2 v14 fun y14_0 y14_1=>onG y14_0 fun x14_0=>New (.cells (.agg #[.int .i64 0,.int .i64 0,.int .i64 0,.int .i64 0,.int .i64 0,.int .i64 0,.int .i64 0,.int .i64 0,.int .i64 0,.int .i64 0,.int .i64 0,.int .i64 0,.int .i64 0]:Value).cells 210) w1 fun x5 w2=>Sa 13 x5 x14_0 w2 fun w3=>Nl y14_1 fun x19=>Ifm (!x19) (R y14_1 w3) (onSome x0 fun x24=>Lc (x24.add 0) w3 fun v26=>onI v26 fun x26=>Ifm ((x1:Int) == x26) (R (.iface 129 (.int .i64 91)) w3) (onSome x0 fun x30=>Lc (x30.add 1) w3 fun v32=>onM v32 fun x32=>Rv Tryz.prog (Instr.range 211 (.map x32)) w3 fun v33 w4=>F279_0 R x0 x1 x5 v33 w4))
noncomputable def b279:Code:=Tryz.f279.body.getD .skip
def q279_1:List Bool:=[false,true,false,false,true,false,true,true,true]
def L279_1 (F:Option Addr→Int→Addr→Value→Bool→World→Prop):Env→World→Prop:=fun ρ w=>onP (ρ 0) fun x0=>onI (ρ 1) fun x1=>onA (ρ 5) fun x5=>onB (ρ 35) fun x35=>F x0 x1 x5 (ρ 33) x35 w
def q279_0:List Bool:=[false,true,false,true,true,true]
def L279_0 (F:Option Addr→Int→Addr→Ko):Env→World→Prop:=fun ρ w=>onP (ρ 0) fun x0=>onI (ρ 1) fun x1=>onA (ρ 5) fun x5=>F x0 x1 x5 (ρ 33) w
abbrev T279 (z:Fr) (R:Ko) (p:List Bool) (ρ:Env) (w:World):Prop:=TW z Tryz.prog 73 (segTodo b279 p) (QR Tryz.prog [.tmp 4] R) ρ w
theorem s279_1 (R:Ko) (C0:Option Addr→Int→Addr→Ko) (h0:∀ ρ w,(L279_0 C0) ρ w→T279 z0 R q279_0 ρ w):∀ ρ w,(L279_1 (F279_1 R C0)) ρ w→T279 z0 R q279_1 ρ w:=by
 intro ρ w h
 unfold L279_1 at h
 obtain ⟨x0,e0,h⟩:=onP_of h
 obtain ⟨x1,e1,h⟩:=onI_of h
 obtain ⟨x5,e5,h⟩:=onA_of h
 generalize e33:ρ 33=x33 at h
 obtain ⟨x35,e35,h⟩:=onB_of h
 rw [← upds_same (ρ:=ρ) [(0,.pointer x0),(1,.int .i64 x1),(5,.pointer (some x5)),(33,x33),(35,.bool x35)] (alc e0 (alc e1 (alc e5 (alc e33 (alc e35 aln)))))]
 exact sg (cuts:=[(q279_0,L279_0 C0)]) ⟨h0,trivial⟩ h
theorem s279_0 (R:Ko):∀ ρ w,(L279_0 (F279_0 R)) ρ w→T279 z0 R q279_0 ρ w:=by
 intro ρ w h
 unfold L279_0 at h
 obtain ⟨x0,e0,h⟩:=onP_of h
 obtain ⟨x1,e1,h⟩:=onI_of h
 obtain ⟨x5,e5,h⟩:=onA_of h
 generalize e33:ρ 33=x33 at h
 obtain ⟨Inv,μ,hi,hb⟩:=h
 refine lpT (fun m=>L279_0 (fun x0 x1 x5 x33 w=>Inv x0 x1 x5 x33 w∧μ x0 x1 x5 x33 w=m)) ?_ (μ x0 x1 x5 x33 w) ρ w ?_
 ·intro m ρ w ih h
  unfold L279_0 at h
  obtain ⟨x0,e0,h⟩:=onP_of h
  obtain ⟨x1,e1,h⟩:=onI_of h
  obtain ⟨x5,e5,h⟩:=onA_of h
  generalize e33:ρ 33=x33 at h
  obtain ⟨hv,hm⟩:=h
  subst hm
  have hh:=hb x0 x1 x5 x33 w hv
  obtain ⟨C0,hC⟩:∃ C,C=fun x0' x1' x5' x33' w'=>Inv x0' x1' x5' x33' w'∧μ x0' x1' x5' x33' w'<μ x0 x1 x5 x33 w:=⟨_,rfl⟩
  rw [← hC] at hh
  have h0:∀ ρ w,(L279_0 C0) ρ w→T279 z0 R q279_0 ρ w:=by
   intro ρ' w' h'
   refine ih ρ' w' ?_
   unfold L279_0 at h'
   obtain ⟨x0',e0',h'⟩:=onP_of h'
   obtain ⟨x1',e1',h'⟩:=onI_of h'
   obtain ⟨x5',e5',h'⟩:=onA_of h'
   generalize e33':ρ' 33=x33' at h'
   rw [hC] at h'
   refine ⟨_,h'.2,?_⟩
   simp only [e0',e1',e5',e33',L279_0,ons]
   exact ⟨h'.1,by trivial⟩
  rw [← upds_same (ρ:=ρ) [(0,.pointer x0),(1,.int .i64 x1),(5,.pointer (some x5)),(33,x33)] (alc e0 (alc e1 (alc e5 (alc e33 aln))))]
  exact sg (cuts:=[(q279_1,L279_1 (F279_1 R C0))]) ⟨s279_1 R C0 h0,trivial⟩ hh
 ·simp only [e0,e1,e5,e33,L279_0,ons]
  exact ⟨hi,by trivial⟩
theorem c279 {R:Ko} {x0:Option Addr} {x1:Int} {w:World} (h:F279 R x0 x1 w):Ct Tryz.prog 279 #[.pointer x0,.int .i64 x1] w R :=
 ctS (args:=[.pointer x0,.int .i64 x1]) (body:=b279) (n:=73) (rs:=[.tmp 4]) Tryz.func279
  (sg (cuts:=[(q279_0,L279_0 (F279_0 R))]) ⟨s279_0 R,trivial⟩ h)
variable {K:Ko} {w w':World}
theorem onNext_t (a b:Value) (f:Value→Value→Prop) (g:Prop):onNext (.tuple #[.bool true,a,b]) f g=f a b:=rfl
theorem onNext_f (f:Value→Value→Prop) (g:Prop):onNext (.tuple #[.bool false]) f g=g:=rfl
open Classical in
noncomputable def closeG (g:Int→Option En) (root h:Int):Int→Option En:=match g h with
 | none=>g
 | some e=>if h=root then g else if ∃ x en,g x=some en∧en.par=h then g else
  updG (updG g e.par (some { (g e.par).getD zE with clo:=plusA ((g e.par).getD zE).clo (plusA e.acc { e.clo with g:=0 }) })) h none
section
variable {b m:Nat} {root:Int} {g:Int→Option En}
theorem p279 {y:Nat} {e:En} {x:Int} {C:Option Addr→Int→Addr→Ko} {v33:Value} (hb:BL w b m root g) (hy:Bk w y e.cells 210) (hyb:y≠b) (hym:y≠m)
  (h:∀ w',Kp (fun i=>i=y∨i=m) w w'→BL w' b m root (updG (updG g e.par (some { (g e.par).getD zE with clo:=plusA ((g e.par).getD zE).clo (plusA e.acc { e.clo with g:=0 }) })) x none)→K .nilIface w'):F279_1 K C (some ⟨b,0,none⟩) x ⟨y,0,none⟩ v33 false w:=by
 unfold F279_1
 simp only [Ifm_f]
 have la7:∀ {w':World} {e:En} {y:Nat},Bk w' y e.cells 210→∀ k,La 6 ⟨y,7,none⟩ w' k=k e.clo.cells.toArray:=fun hy k=>by rw [hy.la (by simp [En.cells,Ac.cells])]; rfl
 have la1:∀ {w':World} {e:En} {y:Nat},Bk w' y e.cells 210→∀ k,La 6 ⟨y,1,none⟩ w' k=k e.acc.cells.toArray:=fun hy k=>by rw [hy.la (by simp [En.cells,Ac.cells])]; rfl
 simp only [SS,la7 hy]
 refine new_k zA.cells fun w1 k1 b1 s1=>?_
 refine sa_k (cs:=e.clo.cells) b1 rfl (by decide) (Ac.one _) fun w2 k2 b2 s2=>?_
 rw [over_all _ _ (by rfl)] at b2
 simp only [SS]
 refine sc_k b2 (by simp [Ac.cells]) rfl fun w3 k3 b3 s3=>?_
 have b3:Bk w3 w.heap.size ({ e.clo with g:=0 }:Ac).cells 41:=b3
 have k03:Kp No w w3:=(k1.own k2 (Nat.le_refl _)).own k3 (Nat.le_refl _)
 have hb3:=hb.no k03
 have hlt:=hb.lt
 have hyl:=hy.lt
 have hy3:Bk w3 y e.cells 210:=k03.bk hy id
 obtain ⟨d3,hd3⟩:∃ d,d=w3.drawn+1:=⟨_,rfl⟩
 simp only [SS,hb3.hd.rd (o:=1) (v:=.map (some m)) rfl,hy3.rd (o:=0) (v:=I e.par) rfl]
 rw [← hd3,look_one (hb3.kp (Kp.dr No w3 d3) id id)]
 obtain ⟨p,hp⟩:∃ p,p=(g e.par).getD zE:=⟨_,rfl⟩
 rw [← hp] at h ⊢
 simp only [SS]
 refine new_dr zE.cells fun w4 k4 b4 s4=>?_
 have hb4:=hb3.no k4
 have hy4:Bk w4 y e.cells 210:=k4.bk hy3 id
 have hs3:=k03.size
 refine ⟨?_,by rw [hy4.hc (o:=0) (v:=I e.par) rfl]; trivial,by rw [hb4.hd.hc (o:=1) (v:=.map (some m)) rfl]; trivial,?_⟩
 ·have:=look_one hb4 e.par (fun v=>v=.agg p.cells.toArray)
  rw [← hp] at this
  obtain ⟨v,hv,rfl⟩:Rd Tryz.prog (Instr.lookup 211 (.map (some m)) (I e.par) false) w4 (fun v=>v=.agg p.cells.toArray):=by rw [this]
  exact hv
 refine sa_k (cs:=p.cells) b4 rfl (by decide) (En.one _) fun w5 k5 b5 s5=>?_
 rw [over_all _ _ (by rfl)] at b5
 have hy5:Bk w5 y e.cells 210:=k5.bk hy4 (by omega)
 have c5:Bk w5 w.heap.size ({ e.clo with g:=0 }:Ac).cells 41:=k5.bk (k4.bk b3 id) (by omega)
 have hb5:=hb4.kp k5 (by omega) (by omega)
 simp only [SS,la7 b5,la1 hy5,c5.la0 (n:=6) rfl]
 refine k348 fun w6 k6=>?_
 have k56:Kp No w5 w6:=k6.drL
 have b6:Bk w6 w3.heap.size p.cells 210:=k56.bk b5 id
 simp only [SS]
 refine ⟨by rw [b6.ha (by simp [En.cells,Ac.cells]) (cs:=p.clo.cells.toArray) rfl]; trivial,?_⟩
 refine k348 fun w7 k7=>?_
 have k57:=k56.trans k7
 have b7:Bk w7 w3.heap.size p.cells 210:=k7.bk b6 id
 simp only [SS]
 refine sa_k (cs:=(plusA p.clo (plusA e.acc { e.clo with g:=0 })).cells) b7 rfl (by simp [En.cells,Ac.cells]) (Ac.one _) fun w8 k8 b8 s8=>?_
 have b8:Bk w8 w3.heap.size ({ p with clo:=plusA p.clo (plusA e.acc { e.clo with g:=0 }) }:En).cells 210:=b8
 have k48:Kp (·=w3.heap.size) w4 w8:=(k5.trans (k57.no _)).trans k8
 have hb8:=hb4.kp k48 (by omega) (by omega)
 have hy8:Bk w8 y e.cells 210:=k48.bk hy4 (by omega)
 simp only [SS,hb8.hd.rd (o:=1) (v:=.map (some m)) rfl,hy8.rd (o:=0) (v:=I e.par) rfl,b8.la0 (n:=13) rfl]
 refine upd_k (hb8.kp (Kp.dr No w8 _) id id) e.par _ fun w9 k9 hb9=>?_
 simp only [SS,hb9.hd.rd (o:=1) (v:=.map (some m)) rfl]
 refine del_k hb9 x fun w10 k10 hb10=>h w10 ?_ hb10
 have k08:Kp No w w8:=(k03.trans k4).own k48 (by omega)
 exact (k08.no _).trans ((k9.drL.trans k10).mono fun _ _=>.inr)
theorem k279 {x:Int} (hb:BL w b m root g) (h:∀ w' v,Kp (·=m) w w'→BL w' b m root (closeG g root x)→K v w'):Ct Tryz.prog 279 #[Pt b 0,I x] w K:=by
 refine c279 ?_
 unfold F279
 unfold closeG at h
 refine k221 hb fun w1 k1=>?_
 have hlt:=hb.lt
 cases e1:g x with
 | none =>
  simp only [e1] at h
  simp only [SS]
  exact ven_k (e:=zE) fun w2 k2 b2 s2=>h w2 _ ((k1.trans k2).no _) (hb.no (k1.trans k2))
 | some e =>
  simp only [e1] at h
  simp only [SS]
  refine ven_k (e:=e) fun w2 k2 b2 s2=>?_
  have k02:=k1.trans k2
  have hb2:=hb.no k02
  have hs1:=k1.size
  simp only [SS,hb2.hd.rd (o:=0) (v:=I root) rfl,hb2.hd.rd (o:=1) (v:=.map (some m)) rfl]
  by_cases e2:x=root
  ·rw [if_pos e2] at h ⊢; exact h w2 _ (k02.no _) hb2
  rw [if_neg e2] at h ⊢
  refine range_k hb2.mp u211 fun w3 k3 hI=>?_
  unfold F279_0
  obtain ⟨r,hr⟩:∃ r,r=w2.heap.size:=⟨_,rfl⟩
  obtain ⟨y,hyy⟩:∃ y,y=w1.heap.size:=⟨_,rfl⟩
  rw [← hr] at hI ⊢
  rw [← hyy] at b2 ⊢
  refine ⟨fun x0 x1 x5 x33 w'=>x0=some ⟨b,0,none⟩∧x=x1∧x5=⟨y,0,none⟩∧x33=Pt r 0∧Kp No w w'∧Bk w' y e.cells 210∧∃ left:Int→Bool,Iter w' r m (.int .i64) (fun a:Int=>I a) (enV g) left∧∀ z en,g z=some en→left z=false→en.par≠x,fun _ _ _ _ w'=>itLeft w' r m,
   ⟨rfl,rfl,rfl,rfl,k02.trans k3,k3.bk b2 id,_,hI,fun z en hz hl=>by simp [enV,hz] at hl⟩,?_⟩
  rintro _ _ _ _ w4 ⟨rfl,rfl,rfl,rfl,k4,b4,left,hI4,hl⟩
  unfold F279_0B
  have hb4:=hb.no k4
  refine next_k hI4 keyI 0 (fun hall=>?_) fun a v w5 hg hla k5 hI5 hlt5 hent=>?_
  ·simp only [onNext_f]
   have hnone:¬ ∃ z en,g z=some en∧en.par=x:=by
    rintro ⟨z,en,hz,hp⟩
    exact hl z en hz (hall z (by simp [enV,hz])) hp
   rw [if_neg hnone] at h
   exact p279 hb4 b4 (by omega) (by omega) fun w5 k5 hb5=>h w5 _ ((k4.no _).step k5 fun i hi hx=>by omega) hb5
  ·simp only [onNext_t]
   unfold F279_1
   have k05:Kp No w w5:=k4.own k5 (by omega)
   have b5:Bk w5 y e.cells 210:=k5.bk b4 (by omega)
   obtain ⟨en,hen,rfl⟩:∃ en,g a=some en∧v=.agg en.cells.toArray:=by
    unfold enV at hg
    cases ha:g a with
    | none=>rw [ha] at hg; cases hg
    | some en=>rw [ha] at hg; injection hg with hg; exact ⟨en,rfl,hg.symm⟩
   rw [Ifm_t,Rd_ok hent]
   simp only [SS]
   refine ven_k (e:=en) fun w6 k6 b6 s6=>?_
   simp only [SS,b6.rd (o:=0) (v:=I en.par) rfl]
   have k06:=k05.trans k6
   by_cases e3:en.par=x
   ·rw [if_pos e3]
    rw [if_pos ⟨a,en,hen,e3⟩] at h
    exact h w6 _ (k06.no _) (hb.no k06)
   ·rw [if_neg e3]
    have hI6:=(hI5 (fun z=>left z && !decide (z=a)) (fun z=>by simp)).kp k6 id id
    refine ⟨⟨k06,k6.bk b5 id,_,hI6,fun z en' hz hz2=>?_⟩,?_⟩
    ·by_cases e4:z=a
     ·subst e4; rw [hen] at hz; injection hz with hz; subst hz; exact e3
     ·exact hl z en' hz (by simpa [e4] using hz2)
    ·rw [itLeft_kp (hI5 (fun z=>left z && !decide (z=a)) (fun z=>by simp)) k6 id id]
     exact hlt5
end
end
section
open Sy
theorem bv_toNat {a:Int} (h0:0≤a) (h1:a<9223372036854775808):(BitVec.ofInt 64 a).toNat=a.toNat:=by
 rw [BitVec.toNat_ofInt]
 have:a % ((2 ^ 64:Nat):Int)=a:=Int.emod_eq_of_lt h0 (by omega)
 rw [this]
theorem orV_nat {a b:Int} (ha:0≤a) (ha1:a<9223372036854775808) (hb:0≤b) (hb1:b<9223372036854775808):orV .i64 a b=((a.toNat ||| b.toNat:Nat):Int):=by
 unfold orV
 show IntKind.i64.wrap (((BitVec.ofInt 64 a ||| BitVec.ofInt 64 b).toNat:Nat):Int)=_
 rw [BitVec.toNat_or,bv_toNat ha ha1,bv_toNat hb hb1]
 have h:a.toNat ||| b.toNat<2 ^ 63:=Nat.or_lt_two_pow (by omega) (by omega)
 rw [IntKind.wrap_i64]; omega
theorem andV_nat {a b:Int} (ha:0≤a) (ha1:a<9223372036854775808) (hb:0≤b) (hb1:b<9223372036854775808):andV .i64 a b=((a.toNat &&& b.toNat:Nat):Int):=by
 unfold andV
 show IntKind.i64.wrap (((BitVec.ofInt 64 a &&& BitVec.ofInt 64 b).toNat:Nat):Int)=_
 rw [BitVec.toNat_and,bv_toNat ha ha1,bv_toNat hb hb1]
 have h:a.toNat &&& b.toNat≤a.toNat:=Nat.and_le_left
 rw [IntKind.wrap_i64]; omega
theorem shl_40 {k:Int} (h0:0≤k) (h1:k≤3):shlV .i64 k 40=k*1099511627776:=by
 unfold shlV
 show IntKind.i64.wrap (k*2 ^ (min 40 64))=_
 rw [show (2:Int) ^ (min 40 64)=1099511627776 by rfl,IntKind.wrap_i64]; omega
theorem shl_20 {k:Int} (h0:0≤k) (h1:k≤65535):shlV .i64 k 20=k*1048576:=by
 unfold shlV
 show IntKind.i64.wrap (k*2 ^ (min 20 64))=_
 rw [show (2:Int) ^ (min 20 64)=1048576 by rfl,IntKind.wrap_i64]; omega
theorem or_add {a b i:Nat} (h:b<2 ^ i):a*2 ^ i ||| b=a*2 ^ i+b:=by
 have:=Nat.shiftLeft_add_eq_or_of_lt h a
 rw [Nat.shiftLeft_eq] at this
 exact this.symm
theorem mkH_eq {k s g:Int} (h:okH k s g=true):mkH k s g=k*1099511627776+s*1048576+g:=by
 unfold okH at h
 simp only [Bool.and_eq_true,decide_eq_true_eq] at h
 obtain ⟨⟨⟨⟨⟨h1,h2⟩,h3⟩,h4⟩,h5⟩,h6⟩:=h
 unfold mkH
 rw [shl_40 (by omega) h2,shl_20 h3 h4]
 have e1:(k*1099511627776).toNat ||| (s*1048576).toNat=(k*1099511627776+s*1048576).toNat:=by
  have:=or_add (a:=k.toNat) (b:=s.toNat*1048576) (i:=40) (by omega)
  rw [show (k*1099511627776).toNat=k.toNat*2 ^ 40 by omega,show (s*1048576).toNat=s.toNat*1048576 by omega,this]; omega
 have e0:orV .i64 (k*1099511627776) (s*1048576)=k*1099511627776+s*1048576:=by
  rw [orV_nat (by omega) (by omega) (by omega) (by omega),e1]; omega
 rw [e0,orV_nat (by omega) (by omega) (by omega) (by omega)]
 have e2:(k*1099511627776+s*1048576).toNat ||| g.toNat=(k*1099511627776+s*1048576+g).toNat:=by
  have:=or_add (a:=(k*1048576+s).toNat) (b:=g.toNat) (i:=20) (by omega)
  rw [show (k*1099511627776+s*1048576).toNat=(k*1048576+s).toNat*2 ^ 20 by omega,this]; omega
 rw [e2]; omega
theorem parts_mk {k s g:Int} (h:okH k s g=true):pK (mkH k s g)=k∧pS (mkH k s g)=s∧pG (mkH k s g)=g:=by
 have hm:=mkH_eq h
 unfold okH at h
 simp only [Bool.and_eq_true,decide_eq_true_eq] at h
 obtain ⟨⟨⟨⟨⟨h1,h2⟩,h3⟩,h4⟩,h5⟩,h6⟩:=h
 have hs:∀ n:Nat,n≤64→shrV .i64 (mkH k s g) n=(mkH k s g).fdiv (2 ^ n):=fun n hn=>by
  unfold shrV
  show (mkH k s g).fdiv (2 ^ (min n 64))=_
  rw [Nat.min_eq_left hn]
 refine ⟨?_,?_,?_⟩
 ·unfold pK
  rw [hs 40 (by omega),hm,Int.fdiv_eq_ediv_of_nonneg _ (by decide)]
  show (k*1099511627776+s*1048576+g) / 1099511627776=k
  omega
 ·unfold pS
  rw [hs 20 (by omega),hm,Int.fdiv_eq_ediv_of_nonneg _ (by decide)]
  show andV .i64 ((k*1099511627776+s*1048576+g) / 1048576) 1048575=s
  rw [andV_nat (by omega) (by omega) (by omega) (by omega)]
  have:=Nat.and_two_pow_sub_one_eq_mod ((k*1099511627776+s*1048576+g) / 1048576).toNat 20
  rw [show (1048575:Int).toNat=2 ^ 20 - 1 by rfl,this]
  omega
 ·unfold pG
  rw [hm,andV_nat (by omega) (by omega) (by omega) (by omega)]
  have:=Nat.and_two_pow_sub_one_eq_mod (k*1099511627776+s*1048576+g).toNat 20
  rw [show (1048575:Int).toNat=2 ^ 20 - 1 by rfl,this]
  omega
theorem back {k s g:Int} (h:okH k s g=true):kindH (mkH k s g)=k∧slotH (mkH k s g)=s∧genH (mkH k s g)=g:=by
 obtain ⟨h1,h2,h3⟩:=parts_mk h
 have hv:okV (mkH k s g)=true:=by unfold okV; rw [h1,h2,h3]; exact h
 unfold kindH slotH genH
 rw [if_pos hv,if_pos hv,if_pos hv]
 exact ⟨h1,h2,h3⟩
theorem find_name {α:Type} {S:Slots α} {kind:Int} {n i:Nat} (hk:okH kind i (S i).1=true) (hi:i<n) (ht:(S i).2.isSome=true):findS S kind n (nameS kind i (S i).1)=some i:=by
 obtain ⟨h1,h2,h3⟩:=back hk
 unfold findS nameS
 rw [if_pos hk,h1,h2,h3]
 rw [if_pos ⟨rfl,by omega,by omega,by simpa using ht,by simp⟩]
 simp
end
end Go.Proofs.YtbgbidpecmepmaaGreatDoor
