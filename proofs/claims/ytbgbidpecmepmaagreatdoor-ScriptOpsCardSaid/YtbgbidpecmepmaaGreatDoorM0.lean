/-
  A small calculus over the given model: a function's code, read as a formula over its live values alone ('ev'), and the proof that the formula is enough. Nothing is assumed: each rule is proved from the library's.
-/
import Derived.OrdersHeld
import Derived.Tactics
import Derived.Scope
import Derived.Laws.Sem
import Derived.KernelRfl
set_option maxRecDepth 100000
namespace Go.Proofs.YtbgbidpecmepmaaGreatDoor
abbrev Ko:=Go.Value→Go.World→Prop
section
namespace Sy
abbrev Env:=Nat→Value
def upd (ρ:Env) (d:Nat) (v:Value):Env:=fun i=>cond (Nat.beq i d) v (ρ i)
def evE (ρ:Env):Operand→Value
 | .tmp t=>ρ t
 | .const v=>v
 | .global g=>.pointer (some ⟨g,0,none⟩)
 | .func f=>.func (.func f) #[] #[]
theorem upd_at (ρ:Env) (d:Nat) (v:Value):upd ρ d v d=v:=by simp [upd]
theorem upd_ne (ρ:Env) {d i:Nat} (v:Value) (h:i≠d):upd ρ d v i=ρ i:=by
 have:Nat.beq i d=false:=by
  cases e:Nat.beq i d with
  | false=>rfl
  | true=>exact absurd (Nat.eq_of_beq_eq_true e) h
 simp [upd,this]
theorem upd_same (ρ:Env) (d:Nat) (v:Value) (h:ρ d=v):upd ρ d v=ρ:=by
 funext i
 by_cases e:i=d
 ·subst e; rw [upd_at,h]
 ·rw [upd_ne _ _ e]
structure Rel (ds:List Deferred) (n:Nat) (a:Act) (ρ:Env):Prop where
 defers:a.defers=ds
 size:a.tmps.size=n
 get:∀ i,a.tmps.getD i undef=ρ i
theorem Rel.eval {ds:List Deferred} {n:Nat} {a:Act} {ρ:Env} (h:Rel ds n a ρ):a.eval=evE ρ:=by
 funext x
 cases x with
 | tmp t=>exact h.get t
 | _=>rfl
def putE (ρ:Env) (d:Option Nat) (v:Value):Env:=match d with | some d=>upd ρ d v | none=>ρ
def okDst (n:Nat) (d:Option Nat):Bool:=match d with | some d=>Nat.blt d n | none=>true
theorem Rel.put {ds:List Deferred} {n:Nat} {a:Act} {ρ:Env} (h:Rel ds n a ρ) {d:Option Nat} (hd:okDst n d=true) (v:Value):Rel ds n (a.put d v) (putE ρ d v):=by
 cases d with
 | none=>exact h
 | some d =>
  have hlt:d<n:=Nat.le_of_ble_eq_true hd
  refine ⟨h.defers,by simp [Act.put,h.size],fun i=>?_⟩
  by_cases e:i=d
  ·subst e
   have:i<a.tmps.size:=by rw [h.size]; exact hlt
   simp [Act.put,putE,upd_at,this]
  ·have e':d≠i:=fun x=>e x.symm
   have hg:=h.get i
   simp only [Array.getD_eq_getD_getElem?] at hg ⊢
   simp only [Act.put,putE,upd_ne _ _ e,Array.getElem?_setIfInBounds_ne e']
   exact hg
def onB (v:Value) (f:Bool→Prop):Prop:=match v with | .bool b=>f b | _=>False
def onI (v:Value) (f:Int→Prop):Prop:=match v with | .int .i64 x=>f x | _=>False
def onC (v:Value) (f:Int→Prop):Prop:=match v with | .int .u8 x=>f x | _=>False
def onU (v:Value) (f:Int→Prop):Prop:=match v with | .int .u64 x=>f x | _=>False
def onR (v:Value) (f:Int→Prop):Prop:=match v with | .int .i32 x=>f x | _=>False
def onS (v:Value) (f:ByteArray→Prop):Prop:=match v with | .string s=>f s | _=>False
def onP (v:Value) (f:Option Addr→Prop):Prop:=match v with | .pointer p=>f p | _=>False
def onA (v:Value) (f:Addr→Prop):Prop:=match v with | .pointer (some p)=>f p | _=>False
def onL (v:Value) (f:Option Addr→Nat→Nat→Prop):Prop:=match v with | .slice a l c=>f a l c | _=>False
def onG (v:Value) (f:Array Value→Prop):Prop:=match v with | .agg cs=>f cs | _=>False
def onM (v:Value) (f:Option Nat→Prop):Prop:=match v with | .map r=>f r | _=>False
def on2 (v:Value) (f:Value→Value→Prop):Prop:=match v with | .tuple vs=>(match vs.toList with | [a,b]=>f a b | _=>False) | _=>False
def on3 (v:Value) (f:Value→Value→Value→Prop):Prop:=match v with | .tuple vs=>(match vs.toList with | [a,b,c]=>f a b c | _=>False) | _=>False
def on4 (v:Value) (f:Value→Value→Value→Value→Prop):Prop:=match v with | .tuple vs=>(match vs.toList with | [a,b,c,d]=>f a b c d | _=>False) | _=>False
def on5 (v:Value) (f:Value→Value→Value→Value→Value→Prop):Prop:=match v with | .tuple vs=>(match vs.toList with | [a,b,c,d,e]=>f a b c d e | _=>False) | _=>False
def onNext (v:Value) (f:Value→Value→Prop) (g:Prop):Prop:=match v with | .tuple vs=>(match vs.toList with | [.bool true,a,b]=>f a b | [.bool false]=>g | _=>False) | _=>False
def onSome (p:Option Addr) (f:Addr→Prop):Prop:=match p with | some a=>f a | none=>False
def Ifb (b:Bool) (x y:Prop):Prop:=(b=true→x)∧(b=false→y)
inductive TD where
 | ti | tc | tu | tr | tb | ts | tp | ta | tl | tm | tg | tx
 | t2 (x y:TD) | t3 (x y z:TD) | t4 (x y z u:TD) | t5 (x y z u v:TD)
def onT:TD→Value→(Value→Prop)→Prop
 | .ti,v,f=>onI v fun x=>f (.int .i64 x)
 | .tc,v,f=>onC v fun x=>f (.int .u8 x)
 | .tu,v,f=>onU v fun x=>f (.int .u64 x)
 | .tr,v,f=>onR v fun x=>f (.int .i32 x)
 | .tb,v,f=>onB v fun x=>f (.bool x)
 | .ts,v,f=>onS v fun x=>f (.string x)
 | .tp,v,f=>onP v fun x=>f (.pointer x)
 | .ta,v,f=>onA v fun x=>f (.pointer (some x))
 | .tl,v,f=>onL v fun a l c=>f (.slice a l c)
 | .tm,v,f=>onM v fun x=>f (.map x)
 | .tg,v,f=>onG v fun x=>f (.agg x)
 | .tx,v,f=>f v
 | .t2 x y,v,f=>on2 v fun a b=>onT x a fun a=>onT y b fun b=>f (.tuple #[a,b])
 | .t3 x y z,v,f=>on3 v fun a b c=>onT x a fun a=>onT y b fun b=>onT z c fun c=>f (.tuple #[a,b,c])
 | .t4 x y z u,v,f=>on4 v fun a b c d=>onT x a fun a=>onT y b fun b=>onT z c fun c=>onT u d fun d=>f (.tuple #[a,b,c,d])
 | .t5 x y z u t,v,f=>on5 v fun a b c d e=>onT x a fun a=>onT y b fun b=>onT z c fun c=>onT u d fun d=>onT t e fun e=>f (.tuple #[a,b,c,d,e])
theorem onI_of {v:Value} {f:Int→Prop} (h:onI v f):∃ x,v=.int .i64 x∧f x:=by unfold onI at h; split at h <;> first | exact ⟨_,rfl,h⟩ | exact h.elim
theorem onC_of {v:Value} {f:Int→Prop} (h:onC v f):∃ x,v=.int .u8 x∧f x:=by unfold onC at h; split at h <;> first | exact ⟨_,rfl,h⟩ | exact h.elim
theorem onU_of {v:Value} {f:Int→Prop} (h:onU v f):∃ x,v=.int .u64 x∧f x:=by unfold onU at h; split at h <;> first | exact ⟨_,rfl,h⟩ | exact h.elim
theorem onR_of {v:Value} {f:Int→Prop} (h:onR v f):∃ x,v=.int .i32 x∧f x:=by unfold onR at h; split at h <;> first | exact ⟨_,rfl,h⟩ | exact h.elim
theorem onB_of {v:Value} {f:Bool→Prop} (h:onB v f):∃ x,v=.bool x∧f x:=by unfold onB at h; split at h <;> first | exact ⟨_,rfl,h⟩ | exact h.elim
theorem onS_of {v:Value} {f:ByteArray→Prop} (h:onS v f):∃ x,v=.string x∧f x:=by unfold onS at h; split at h <;> first | exact ⟨_,rfl,h⟩ | exact h.elim
theorem onP_of {v:Value} {f:Option Addr→Prop} (h:onP v f):∃ x,v=.pointer x∧f x:=by unfold onP at h; split at h <;> first | exact ⟨_,rfl,h⟩ | exact h.elim
theorem onA_of {v:Value} {f:Addr→Prop} (h:onA v f):∃ x,v=.pointer (some x)∧f x:=by unfold onA at h; split at h <;> first | exact ⟨_,rfl,h⟩ | exact h.elim
theorem onL_of {v:Value} {f:Option Addr→Nat→Nat→Prop} (h:onL v f):∃ a l c,v=.slice a l c∧f a l c:=by unfold onL at h; split at h <;> first | exact ⟨_,_,_,rfl,h⟩ | exact h.elim
theorem onG_of {v:Value} {f:Array Value→Prop} (h:onG v f):∃ x,v=.agg x∧f x:=by unfold onG at h; split at h <;> first | exact ⟨_,rfl,h⟩ | exact h.elim
theorem onM_of {v:Value} {f:Option Nat→Prop} (h:onM v f):∃ x,v=.map x∧f x:=by unfold onM at h; split at h <;> first | exact ⟨_,rfl,h⟩ | exact h.elim
theorem on2_of {v:Value} {f:Value→Value→Prop} (h:on2 v f):∃ a b,v=.tuple #[a,b]∧f a b:=by
 unfold on2 at h
 split at h
 ·rename_i vs
  split at h
  ·rename_i a b e
   exact ⟨a,b,by congr 1; exact Array.ext' (by simpa using e),h⟩
  ·exact h.elim
 ·exact h.elim
theorem on3_of {v:Value} {f:Value→Value→Value→Prop} (h:on3 v f):∃ a b c,v=.tuple #[a,b,c]∧f a b c:=by
 unfold on3 at h
 split at h
 ·rename_i vs
  split at h
  ·rename_i a b c e
   exact ⟨a,b,c,by congr 1; exact Array.ext' (by simpa using e),h⟩
  ·exact h.elim
 ·exact h.elim
theorem on4_of {v:Value} {f:Value→Value→Value→Value→Prop} (h:on4 v f):∃ a b c d,v=.tuple #[a,b,c,d]∧f a b c d:=by
 unfold on4 at h
 split at h
 ·rename_i vs
  split at h
  ·rename_i a b c d e
   exact ⟨a,b,c,d,by congr 1; exact Array.ext' (by simpa using e),h⟩
  ·exact h.elim
 ·exact h.elim
theorem on5_of {v:Value} {f:Value→Value→Value→Value→Value→Prop} (h:on5 v f):∃ a b c d e,v=.tuple #[a,b,c,d,e]∧f a b c d e:=by
 unfold on5 at h
 split at h
 ·rename_i vs
  split at h
  ·rename_i a b c d e q
   exact ⟨a,b,c,d,e,by congr 1; exact Array.ext' (by simpa using q),h⟩
  ·exact h.elim
 ·exact h.elim
theorem onNext_of {v:Value} {f:Value→Value→Prop} {g:Prop} (h:onNext v f g):(∃ a b,v=.tuple #[.bool true,a,b]∧f a b)∨(v=.tuple #[.bool false]∧g):=by
 unfold onNext at h
 split at h
 ·rename_i vs
  split at h
  ·rename_i a b q
   exact .inl ⟨a,b,by congr 1; exact Array.ext' (by simpa using q),h⟩
  ·rename_i q
   exact .inr ⟨by congr 1; exact Array.ext' (by simpa using q),h⟩
  ·exact h.elim
 ·exact h.elim
theorem onSome_of {p:Option Addr} {f:Addr→Prop} (h:onSome p f):∃ a,p=some a∧f a:=by cases p with | none=>exact h.elim | some a=>exact ⟨a,rfl,h⟩
theorem onT_of:∀ (d:TD) {v:Value} {f:Value→Prop},onT d v f→f v:=by
 intro d
 induction d with
 | ti=>intro v f h; obtain ⟨x,rfl,h⟩:=onI_of h; exact h
 | tc=>intro v f h; obtain ⟨x,rfl,h⟩:=onC_of h; exact h
 | tu=>intro v f h; obtain ⟨x,rfl,h⟩:=onU_of h; exact h
 | tr=>intro v f h; obtain ⟨x,rfl,h⟩:=onR_of h; exact h
 | tb=>intro v f h; obtain ⟨x,rfl,h⟩:=onB_of h; exact h
 | ts=>intro v f h; obtain ⟨x,rfl,h⟩:=onS_of h; exact h
 | tp=>intro v f h; obtain ⟨x,rfl,h⟩:=onP_of h; exact h
 | ta=>intro v f h; obtain ⟨x,rfl,h⟩:=onA_of h; exact h
 | tl=>intro v f h; obtain ⟨a,l,c,rfl,h⟩:=onL_of h; exact h
 | tm=>intro v f h; obtain ⟨x,rfl,h⟩:=onM_of h; exact h
 | tg=>intro v f h; obtain ⟨x,rfl,h⟩:=onG_of h; exact h
 | tx=>intro v f h; exact h
 | t2 x y hx hy=>intro v f h; obtain ⟨a,b,rfl,h⟩:=on2_of h; have h1:onT y b fun b=>f (.tuple #[a,b]):=hx h; have h2:=hy h1; exact h2
 | t3 x y z hx hy hz=>intro v f h; obtain ⟨a,b,c,rfl,h⟩:=on3_of h; have h1:onT y b fun b=>onT z c fun c=>f (.tuple #[a,b,c]):=hx h; have h2:onT z c fun c=>f (.tuple #[a,b,c]):=hy h1; have h3:=hz h2; exact h3
 | t4 x y z u hx hy hz hu=>intro v f h; obtain ⟨a,b,c,d,rfl,h⟩:=on4_of h; have h1:onT y b fun b=>onT z c fun c=>onT u d fun d=>f (.tuple #[a,b,c,d]):=hx h; have h2:onT z c fun c=>onT u d fun d=>f (.tuple #[a,b,c,d]):=hy h1; have h3:onT u d fun d=>f (.tuple #[a,b,c,d]):=hz h2; have h4:=hu h3; exact h4
 | t5 x y z u t hx hy hz hu ht=>intro v f h; obtain ⟨a,b,c,d,e,rfl,h⟩:=on5_of h; have h1:onT y b fun b=>onT z c fun c=>onT u d fun d=>onT t e fun e=>f (.tuple #[a,b,c,d,e]):=hx h; have h2:onT z c fun c=>onT u d fun d=>onT t e fun e=>f (.tuple #[a,b,c,d,e]):=hy h1; have h3:onT u d fun d=>onT t e fun e=>f (.tuple #[a,b,c,d,e]):=hz h2; have h4:onT t e fun e=>f (.tuple #[a,b,c,d,e]):=hu h3; have h5:=ht h4; exact h5
def Rd (P:Program) (s:Sem Value) (w:World) (k:Value→Prop):Prop:=∃ v,s.run P w=.ok v w∧k v
def Hd (P:Program) (s:Sem Value) (v:Value) (w:World):Prop:=s.run P w=.ok v w
def Rv (P:Program) (s:Sem Value) (w:World) (k:Ko):Prop:=∃ v w',s.run P w=.ok v w'∧k v w'
def Ru (P:Program) (s:Sem Unit) (w:World) (k:World→Prop):Prop:=∃ w',s.run P w=.ok () w'∧k w'
def Lc (a:Addr) (w:World) (k:Value→Prop):Prop:=match w.cell? a with | some v=>k v | none=>False
def Hc (a:Addr) (v:Value) (w:World):Prop:=w.cell? a=some v
def cellsAt (w:World) (a:Addr) (i:Nat):Nat→Option (List Value)
 | 0=>some []
 | n+1=>match w.cell? (a.add i),cellsAt w a (i+1) n with | some v,some l=>some (v :: l) | _,_=>none
def cellsA (w:World) (a:Addr) (n:Nat):Option (Array Value):=match cellsAt w a 0 n with | some l=>some l.toArray | none=>none
def La (n:Nat) (a:Addr) (w:World) (k:Array Value→Prop):Prop:=match cellsA w a n with | some cs=>k cs | none=>False
def Ha (n:Nat) (a:Addr) (cs:Array Value) (w:World):Prop:=cellsA w a n=some cs
def oneCell:Value→Bool
 | .agg _=>false
 | .tuple _=>false
 | _=>true
def Sc (a:Addr) (v:Value) (w:World) (k:World→Prop):Prop:=oneCell v=true∧(w.cell? a).isSome=true∧w.frozen? a=false∧k (w.setCell a v)
def stAll (a:Addr):Nat→List Value→World→Option World
 | _,[],w=>some w
 | i,v :: l,w=>cond (oneCell v && (w.cell? (a.add i)).isSome && !w.frozen? (a.add i)) (stAll a (i+1) l (w.setCell (a.add i) v)) none
def Sa (n:Nat) (a:Addr) (cs:Array Value) (w:World) (k:World→Prop):Prop:=cs.size=n∧(match stAll a 0 cs.toList w with | some w'=>k w' | none=>False)
def Ix (a:Option Addr) (l:Nat) (i:Int) (sz:Nat) (k:Addr→Prop):Prop:=0≤i∧i<(l:Int)∧onSome a fun b=>k (b.add (i.toNat*sz))
def Is (s:ByteArray) (i:Int) (k:Int→Prop):Prop:=0≤i∧(match s[i.toNat]? with | some b=>k (b.toNat:Int) | none=>False)
def Ss (s:ByteArray) (l h:Int) (k:ByteArray→Prop):Prop:=0≤l∧l≤h∧h≤(s.size:Int)∧k (s.extract l.toNat h.toNat)
def Sl (a:Option Addr) (c sz:Nat) (l h:Int) (k:Option Addr→Nat→Nat→Prop):Prop:=0≤l∧l≤h∧h≤(c:Int)∧k (if c=l.toNat then a else a.map (·.add (l.toNat*sz))) (h.toNat - l.toNat) (c - l.toNat)
def Nl (v:Value) (k:Bool→Prop):Prop:=match v with | .nilIface=>k true | .iface _ _=>k false | _=>False
def Fe (cs:Array Value) (off:Nat) (k:Value→Prop):Prop:=match cs[off]? with | some v=>k v | none=>False
def Ct (P:Program) (f:FuncId) (args:Array Value) (w:World) (k:Ko):Prop :=
 Calls P f args w fun e w'=>match e with | .returned v=>k v w' | _=>False
def New (o:Obj) (w:World) (k:Addr→World→Prop):Prop:=k ⟨w.heap.size,0,none⟩ { w with heap:=w.heap.push o }
theorem Ct.mono {P:Program} {f:FuncId} {args:Array Value} {w:World} {k k':Ko} (h:Ct P f args w k) (hk:∀ v w',k v w'→k' v w'):Ct P f args w k' :=
 Calls.mono h fun e w' h=>by cases e <;> first | exact hk _ _ h | exact h
end Sy
end
end Go.Proofs.YtbgbidpecmepmaaGreatDoor
