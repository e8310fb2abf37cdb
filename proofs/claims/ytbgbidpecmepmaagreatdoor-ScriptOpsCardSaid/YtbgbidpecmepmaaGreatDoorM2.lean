/-
  The single operations of the calculus: which yield a value whatever the world, which read, which turn it; and that each formula is enough for the model's own step; Rows of operations: in the order of the text, and, where the model draws the order, in whatever order: one walk that takes what reads as early as it may, and shows behind each other operation that what was read still reads so.
-/
import Derived.Test.YtbgbidpecmepmaaGreatDoorM0
import Derived.TacticsIn
import Derived.OrdersIn
import Derived.RangeFuncIn
import Derived.RangeFuncRecord
set_option maxRecDepth 100000
namespace Go.Proofs.YtbgbidpecmepmaaGreatDoor
section
namespace Sy
def andV (k:IntKind) (a b:Int):Int:=k.wrap ((BitVec.ofInt k.bits a &&& BitVec.ofInt k.bits b).toNat)
def orV (k:IntKind) (a b:Int):Int:=k.wrap ((BitVec.ofInt k.bits a ||| BitVec.ofInt k.bits b).toNat)
def shlV (k:IntKind) (a:Int) (n:Nat):Int:=k.wrap (a*2 ^ (min n k.bits))
def shrV (k:IntKind) (a:Int) (n:Nat):Int:=a.fdiv (2 ^ (min n k.bits))
def isShift:BinOp→Bool
 | .shl=>true
 | .shr=>true
 | _=>false
def shiftPure (op:BinOp):Value→Value→Option Value
 | .int k a,.int _ b=>cond (decide (b<0)) none (match op with
   | .shl=>some (.int k (shlV k a b.toNat))
   | .shr=>some (.int k (shrV k a b.toNat))
   | _=>none)
 | _,_=>none
def boolPure (op:BinOp):Value→Value→Option Value
 | .bool a,.bool b=>(match op with
   | .eql=>some (.bool (a == b))
   | .neq=>some (.bool !(a == b))
   | _=>none)
 | _,_=>none
def binPure (op:BinOp):Value→Value→Option Value
 | .int k a,.int k' b=>if k=k' then (match op with
   | .and=>some (.int k (andV k a b))
   | .or=>some (.int k (orV k a b))
   | .add=>some (.int k (k.wrap (a+b)))
   | .sub=>some (.int k (k.wrap (a - b)))
   | .mul=>some (.int k (k.wrap (a*b)))
   | .eql=>some (.bool (a == b))
   | .neq=>some (.bool (a != b))
   | .lss=>some (.bool (decide (a<b)))
   | .leq=>some (.bool (decide (a≤b)))
   | .gtr=>some (.bool (decide (a > b)))
   | .geq=>some (.bool (decide (a≥b)))
   | _=>none) else none
 | .string a,.string b=>(match op with
   | .eql=>some (.bool (a.toList == b.toList))
   | .neq=>some (.bool !(a.toList == b.toList))
   | .lss=>some (.bool (Op.bytesLess a.toList b.toList))
   | _=>none)
 | _,_=>none
def isBoolT (P:Program) (t:TypeId):Bool:=match P.underlying t with | some .bool=>true | _=>false
def isIfT (P:Program) (t:TypeId):Bool:=match P.underlying t with | some (.interface _)=>true | _=>false
def isPtrT (P:Program) (t:TypeId):Bool:=match P.underlying t with | some (.pointer _)=>true | _=>false
def isConcT (P:Program) (t:TypeId):Bool:=match P.underlying t with | some (.interface _)=>false | some _=>true | none=>false
def isSliceT (P:Program) (t:TypeId):Bool:=match P.underlying t with | some (.slice _)=>true | _=>false
def isStrT (P:Program) (t:TypeId):Bool:=match P.underlying t with | some .string=>true | _=>false
def fieldOff (P:Program) (s:TypeId) (f:Nat):Option Nat :=
 match P.underlying s with
 | some (.struct fs)=>(match fs[f]? with
  | some fd=>(match P.info? fd.type with
   | some i=>bif Nat.beq i.size 0 then none else some fd.offset
   | none=>none)
  | none=>none)
 | _=>none
def scalT:TD→Bool
 | .tg=>false
 | .tx=>false
 | .t2 _ _=>false
 | .t3 _ _ _=>false
 | .t4 _ _ _ _=>false
 | .t5 _ _ _ _ _=>false
 | _=>true
def placesL (P:Program):List Field→Option (List (Nat × Nat))
 | []=>some []
 | f :: r=>match P.info? f.type,placesL P r with | some i,some l=>some ((f.offset,i.size) :: l) | _,_=>none
def partScal (td:Nat→TD) (fs:Array Field) (x:Nat × Operand):Bool:=match fs[x.1]? with | some f=>scalT (td f.type) | none=>false
def buildPure (P:Program) (t:TypeId) (fs:Array Field) (vals:List (Nat × Value)):Option Value:=match P.info? t,placesL P fs.toList with
 | some i,some l=>(match i.zero with
  | some z=>(match Instr.fill (l.toArray[·]?) z.cells vals with | some cs=>some (.agg cs) | none=>none)
  | none=>none)
 | _,_=>none
def pureVal (P:Program) (td:Nat→TD) (ρ:Env):Op→Option Value
 | .move x=>some (evE ρ x)
 | .assign x=>some (evE ρ x)
 | .pick c a b=>(match evE ρ c with | .bool t=>some (cond t (evE ρ a) (evE ρ b)) | _=>none)
 | .binOp op t x y _=>(match td t with
  | .tp=>(match y with
   | .const (.pointer none)=>(match evE ρ x with
    | .pointer p=>(match op with
     | .eql=>bif isPtrT P t then some (.bool p.isNone) else none
     | .neq=>bif isPtrT P t then some (.bool !p.isNone) else none
     | _=>none)
    | _=>none)
   | _=>none)
  | .ti=>cond (isShift op) (shiftPure op (evE ρ x) (evE ρ y)) (binPure op (evE ρ x) (evE ρ y))
  | .tb=>cond (isBoolT P t) (boolPure op (evE ρ x) (evE ρ y)) none
  | .tc=>binPure op (evE ρ x) (evE ρ y)
  | .ts=>binPure op (evE ρ x) (evE ρ y)
  | .tu=>binPure op (evE ρ x) (evE ρ y)
  | .tr=>binPure op (evE ρ x) (evE ρ y)
  | _=>none)
 | .unOp op _ x=>(match op,evE ρ x with | .not,.bool b=>some (.bool !b) | _,_=>none)
 | .makeInterface t x=>bif isConcT P t then some (.iface t (evE ρ x)) else none
 | .build t ps=>(match P.underlying t with
  | some (.struct fs)=>cond (ps.toList.all (partScal td fs)) (buildPure P t fs (ps.toList.map fun x=>(x.1,evE ρ x.2))) none
  | _=>none)
 | .makeFunc fn first cap=>some (.func fn (first.toList.map (evE ρ)).toArray (cap.toList.map (evE ρ)).toArray)
 | .fieldAddr s x f=>(match evE ρ x with | .pointer (some a)=>(match fieldOff P s f with | some off=>some (.pointer (some (a.add off))) | none=>none) | _=>none)
 | .extract x i=>(match evE ρ x with | .tuple vs=>vs.toList[i]? | _=>none)
 | .nilCheck x=>(match evE ρ x with | .func (.func g) f c=>some (.func (.func g) f c) | _=>none)
 | .call c=>(match c.callee,c.args.toList,c.argTypes.toList with
  | .builtin .len,[x],[t]=>(match evE ρ x with
   | .slice _ n _=>bif isSliceT P t then some (.int .i64 n) else none
   | .string s=>bif isStrT P t then some (.int .i64 s.size) else none
   | _=>none)
  | _,_,_=>none)
 | _=>none
def isAggD:TypeDesc→Bool
 | .struct _=>true
 | .array _ _=>true
 | _=>false
def loadKind (P:Program) (t:TypeId):Option (Option Nat):=match P.underlying t,P.info? t with
 | some d,some i=>cond (isAggD d) (some (some i.size)) (cond (Nat.beq i.size 1) (some none) none)
 | _,_=>none
def bv (v:Option Value) (d:Int):Option Int:=match v with | none=>some d | some (.int _ n)=>some n | _=>none
def condE (P:Program) (td:Nat→TD) (ρ:Env):Op→Option ((Value→Prop)→Prop)
 | .nilCheck x=>(match evE ρ x with | .pointer p=>some fun k=>onSome p fun a=>k (.pointer (some a)) | _=>none)
 | .indexAddr t x i=>(match P.underlying t with
  | some (.slice e)=>(match P.info? e,evE ρ x,evE ρ i with
   | some inf,.slice a l _,.int _ n=>some fun k=>Ix a l n inf.size fun p=>k (.pointer (some p))
   | _,_,_=>none)
  | _=>none)
 | .index t x i=>(match P.underlying t with
  | some .string=>(match evE ρ x,evE ρ i with
   | .string s,.int _ n=>some fun k=>Is s n fun c=>k (.int .u8 c)
   | _,_=>none)
  | _=>none)
 | .slice t x lo hi mx=>(match P.underlying t,mx,evE ρ x with
  | some .string,none,.string s=>(match bv (lo.map (evE ρ)) 0,bv (hi.map (evE ρ)) (s.size:Int) with
   | some l,some h=>some fun k=>Ss s l h fun r=>k (.string r)
   | _,_=>none)
  | some (.slice e),none,.slice a n c=>(match P.info? e,bv (lo.map (evE ρ)) 0,bv (hi.map (evE ρ)) (n:Int) with
   | some inf,some l,some h=>some fun k=>Sl a c inf.size l h fun a l c=>k (.slice a l c)
   | _,_,_=>none)
  | _,_,_=>none)
 | .field t x f=>(match P.underlying t,evE ρ x with
  | some (.struct fs),.agg cs=>(match fs[f]? with
   | some fd=>(match loadKind P fd.type with
    | some none=>some fun k=>Fe cs fd.offset k
    | some (some n)=>some fun k=>k (.agg (cs.extract fd.offset (fd.offset+n)))
    | none=>none)
   | none=>none)
  | _,_=>none)
 | .binOp op t x y _=>(match td t,y with
  | .tx,.const .nilIface=>cond (isIfT P t) (match op with
   | .eql=>some fun k=>Nl (evE ρ x) fun b=>k (.bool b)
   | .neq=>some fun k=>Nl (evE ρ x) fun b=>k (.bool !b)
   | _=>none) none
  | _,_=>none)
 | _=>none
inductive RSpec where
 | cell (a:Addr)
 | cells (n:Nat) (a:Addr)
 | sem (s:Sem Value)
def RSpec.rd (P:Program):RSpec→World→(Value→Prop)→Prop
 | .cell a,w,k=>Lc a w k
 | .cells n a,w,k=>La n a w fun cs=>k (.agg cs)
 | .sem s,w,k=>Rd P s w k
def RSpec.fact (P:Program):RSpec→Ko
 | .cell a,v=>Hc a v
 | .cells n a,v=>(match v with | .agg cs=>Ha n a cs | _=>fun _=>False)
 | .sem s,v=>Hd P s v
def readSem (ρ:Env) (ty:TypeId):Op→Option (Sem Value)
 | .lookup t x i ok=>some (Instr.lookup t (evE ρ x) (evE ρ i) ok)
 | .entry it=>some (Instr.entry (evE ρ it))
 | .typeAssert x t a ok=>some (Instr.typeAssert (evE ρ x) t a ok)
 | .binOp op t x y _=>some (do eqGuard op t x y (evE ρ x) (evE ρ y); binOp op t (evE ρ x) (evE ρ y))
 | .unOp op _ x=>some (Op.unary op (evE ρ x))
 | .convert s d x=>some (Go.convert s d (evE ρ x))
 | .build t ps=>some (Instr.build t (ps.toList.map fun (i,x)=>(i,evE ρ x)).toArray)
 | .call c=>(match c.callee with
  | .builtin .len=>some (Builtin.len_ c.argTypes ty (c.args.toList.map (evE ρ)).toArray)
  | .builtin .max=>some (Builtin.max_ c.argTypes ty (c.args.toList.map (evE ρ)).toArray)
  | .builtin .min=>some (Builtin.min_ c.argTypes ty (c.args.toList.map (evE ρ)).toArray)
  | _=>none)
 | _=>none
def readE (P:Program) (ρ:Env) (ty:TypeId) (o:Op):Option RSpec:=match o with
 | .load t x=>(match evE ρ x,loadKind P t with
  | .pointer (some a),some none=>some (.cell a)
  | .pointer (some a),some (some n)=>some (.cells n a)
  | _,_=>none)
 | _=>match readSem ρ ty o with | some s=>some (.sem s) | none=>none
def storeE (P:Program) (ρ:Env):Op→Option (World→(World→Prop)→Prop)
 | .store t x y=>(match evE ρ x,loadKind P t with
  | .pointer (some a),some none=>some (Sc a (evE ρ y))
  | .pointer (some a),some (some n)=>(match evE ρ y with | .agg cs=>some (Sa n a cs) | _=>none)
  | _,_=>none)
 | _=>none
def newObjOf (P:Program) (ρ:Env):Op→Option Obj
 | .alloc t=>(match P.info? t with | some i=>(match i.zero with | some z=>some (.cells z.cells t) | none=>none) | none=>none)
 | .box t x=>some (.cells (evE ρ x).cells t)
 | _=>none
def effSem (ρ:Env) (ty:TypeId):Op→Option (Sem Value)
 | .buildSlice t n ps=>some (Instr.buildSlice t n (ps.toList.map fun (i,x)=>(i,evE ρ x)).toArray)
 | .makeMap t r=>some (Instr.makeMap t (r.map (evE ρ)))
 | .makeSlice t l c=>some (Instr.makeSlice t (evE ρ l) (evE ρ c))
 | .range t x=>some (Instr.range t (evE ρ x))
 | .call c=>(match c.callee with
  | .builtin .append=>some (Builtin.append_ c.argTypes ty (c.args.toList.map (evE ρ)).toArray)
  | .builtin .copy=>some (Builtin.copy_ c.argTypes ty (c.args.toList.map (evE ρ)).toArray)
  | .builtin .delete=>some (Builtin.delete_ c.argTypes ty (c.args.toList.map (evE ρ)).toArray)
  | _=>none)
 | _=>none
def effUnit (ρ:Env):Op→Option (Sem Unit)
 | .mapUpdate t m k x=>some (Instr.mapUpdate t (evE ρ m) (evE ρ k) (evE ρ x))
 | .insert t m k x=>some (Instr.mapUpdate t (evE ρ m) (evE ρ k) (evE ρ x))
 | _=>none
def CallV (P:Program) (go:Nat→Bool) (v:Value) (args:Array Value) (w:World) (k:Ko):Prop :=
 match v with
 | .func (.func g) first cap=>go g=true∧Ct P g (first++args++cap) w k
 | _=>False
def Rx (P:Program) (g:FuncId) (args:Array Value) (w:World) (k:Ko):Prop:=∃ v w',(callFunc g args).run P w=.ok (.value v) w'∧k v w'
def callE (P:Program) (go:Nat→Bool) (ρ:Env) (c:Call) (w:World) (k:Ko):Prop :=
 match c.callee with
 | .value (.func g)=>bif go g then Ct P g (c.args.toList.map (evE ρ)).toArray w k else Rx P g (c.args.toList.map (evE ρ)).toArray w k
 | .value f=>CallV P go (evE ρ f) (c.args.toList.map (evE ρ)).toArray w k
 | _=>False
def GoFn (P:Program) (go:Nat→Bool):Prop:=∀ g,go g=true→∀ args w,(callFunc g args).run P w=.ok (.enter g args) w
section
variable {P:Program} {ρ:Env} {o:Oper}
theorem run_underlying' {t:TypeId} {d:TypeDesc} (h:P.underlying t=some d) (w:World):(underlying t).run P w=.ok d w:=by
 simp [underlying,program,Sem.run,h]
theorem run_typeInfo' {t:TypeId} {i:TypeInfo} (h:P.info? t=some i) (w:World):(typeInfo t).run P w=.ok i w:=by
 simp [typeInfo,program,Sem.run,h]
theorem run_sizeOf' {t:TypeId} {i:TypeInfo} (h:P.info? t=some i) (w:World):(sizeOf t).run P w=.ok i.size w:=by
 simp [sizeOf,Sem.run_bind,run_typeInfo' h]
theorem shiftPure_run {op:BinOp} {a b v:Value} (h:shiftPure op a b=some v) (t:TypeId) (x y:Operand) (w:World) :
  (do eqGuard op t x y a b; binOp op t a b:Sem Value).run P w=.ok v w:=by
 unfold shiftPure at h
 split at h
 ·rename_i k a yk b
  cases hb:decide (b<0) with
  | true=>rw [hb] at h; cases h
  | false =>
   rw [hb] at h
   have hb':¬ b<0:=by simpa using hb
   cases op <;> simp at h <;> subst h <;> simp [eqGuard,binOp,Op.shift,hb',shlV,shrV]
 ·cases h
theorem isBoolT_spec {t:TypeId} (h:isBoolT P t=true):P.underlying t=some .bool:=by
 unfold isBoolT at h
 split at h
 ·assumption
 ·cases h
theorem boolPure_run {op:BinOp} {a b v:Value} (h:boolPure op a b=some v) (t:TypeId) (ht:isBoolT P t=true) (x y:Operand) (w:World) :
  (do eqGuard op t x y a b; binOp op t a b:Sem Value).run P w=.ok v w:=by
 unfold boolPure at h
 split at h
 ·rename_i a b
  have hu:=run_underlying' (isBoolT_spec ht) w
  have hd:∀ d,(Op.equalIn (d+1) t (.bool a) (.bool b)).run P w=.ok (a == b) w:=fun d=>by simp [Op.equalIn,hu,Sem.run_bind]
  have h0:(Op.equal t (.bool a) (.bool b)).run P w=.ok (a == b) w:=hd 9999
  split at h
  ·simp at h; subst h
   have h1:(binOp .eql t (.bool a) (.bool b)).run P w=.ok (.bool (a == b)) w:=by
    show ((Op.equal t (.bool a) (.bool b)) >>= fun r=>pure (Value.bool r):Sem Value).run P w=_
    rw [Sem.run_bind,h0]; simp
   have h2:eqGuard .eql t x y (.bool a) (.bool b)=(pure ():Sem Unit):=by simp [eqGuard]
   rw [h2,Sem.run_bind]; simpa using h1
  ·simp at h; subst h
   have h1:(binOp .neq t (.bool a) (.bool b)).run P w=.ok (.bool !(a == b)) w:=by
    show ((Op.equal t (.bool a) (.bool b)) >>= fun r=>pure (Value.bool !r):Sem Value).run P w=_
    rw [Sem.run_bind,h0]; simp
   have h2:eqGuard .neq t x y (.bool a) (.bool b)=(pure ():Sem Unit):=by simp [eqGuard]
   rw [h2,Sem.run_bind]; simpa using h1
  ·cases h
 ·cases h
theorem binPure_run {op:BinOp} {a b v:Value} (h:binPure op a b=some v) (t:TypeId) (x y:Operand) (w:World) :
  (do eqGuard op t x y a b; binOp op t a b:Sem Value).run P w=.ok v w:=by
 unfold binPure at h
 split at h
 ·split at h
  ·rename_i k a k' b hk
   subst hk
   cases op <;> simp at h <;> subst h <;> simp [eqGuard,binOp,Op.intArith,Op.intCmp,Op.intBits,andV,orV]
  ·cases h
 ·cases op <;> simp at h <;> subst h <;> simp [eqGuard,binOp,Op.stringOp]
 ·cases h
theorem isPtrT_spec {t:TypeId} (h:isPtrT P t=true):∃ e,P.underlying t=some (.pointer e):=by
 unfold isPtrT at h
 split at h
 ·rename_i e he; exact ⟨e,he⟩
 ·cases h
theorem equalIn_nil {t:TypeId} (h:isPtrT P t=true) (p:Option Addr) (d:Nat) (w:World):(Op.equalIn (d+1) t (.pointer p) (.pointer none)).run P w=.ok p.isNone w:=by
 obtain ⟨e,he⟩:=isPtrT_spec h
 have hu:=run_underlying' he w
 cases p <;> simp [Op.equalIn,hu,Sem.run_bind,Sem.run]
theorem eqlNil_run {t:TypeId} (h:isPtrT P t=true) (p:Option Addr) (x y:Operand) (w:World) :
  (do eqGuard .eql t x y (.pointer p) (.pointer none); binOp .eql t (.pointer p) (.pointer none):Sem Value).run P w=.ok (.bool p.isNone) w:=by
 have h0:(Op.equal t (.pointer p) (.pointer none)).run P w=.ok p.isNone w:=equalIn_nil h p 9999 w
 have h1:(binOp .eql t (.pointer p) (.pointer none)).run P w=.ok (.bool p.isNone) w:=by
  show ((Op.equal t (.pointer p) (.pointer none)) >>= fun b=>pure (Value.bool b):Sem Value).run P w=_
  rw [Sem.run_bind,h0]; simp
 have h2:eqGuard .eql t x y (.pointer p) (.pointer none)=(pure ():Sem Unit):=by simp [eqGuard]
 rw [h2,Sem.run_bind]
 simpa using h1
theorem neqNil_run {t:TypeId} (h:isPtrT P t=true) (p:Option Addr) (x y:Operand) (w:World) :
  (do eqGuard .neq t x y (.pointer p) (.pointer none); binOp .neq t (.pointer p) (.pointer none):Sem Value).run P w=.ok (.bool !p.isNone) w:=by
 have h0:(Op.equal t (.pointer p) (.pointer none)).run P w=.ok p.isNone w:=equalIn_nil h p 9999 w
 have h1:(binOp .neq t (.pointer p) (.pointer none)).run P w=.ok (.bool !p.isNone) w:=by
  show ((Op.equal t (.pointer p) (.pointer none)) >>= fun b=>pure (Value.bool !b):Sem Value).run P w=_
  rw [Sem.run_bind,h0]; simp
 have h2:eqGuard .neq t x y (.pointer p) (.pointer none)=(pure ():Sem Unit):=by simp [eqGuard]
 rw [h2,Sem.run_bind]
 simpa using h1
theorem fieldOff_run {s:TypeId} {f off:Nat} (h:fieldOff P s f=some off) (a:Addr) (w:World) :
  (Instr.fieldAt s (.pointer (some a)) f).run P w=.ok (.pointer (some (a.add off))) w:=by
 unfold fieldOff at h
 split at h
 ·rename_i fs hs
  split at h
  ·rename_i fd hf
   split at h
   ·rename_i i hi
    cases hb:Nat.beq i.size 0 with
    | true=>rw [hb] at h; cases h
    | false =>
     rw [hb] at h
     injection h with h
     subst h
     have hne:i.size≠0:=fun e=>by rw [e] at hb; cases hb
     have hu:=run_underlying' hs w
     have hsz:(sizeOf fd.type).run P w=.ok i.size w:=by simp [sizeOf,typeInfo,program,Sem.run,hi]
     simp [Instr.fieldAt,hu,hf,Instr.sureAddr,fieldPlace,hsz,hne,Sem.run_bind,Sem.run]
   ·cases h
  ·cases h
 ·cases h
theorem map_toList (xs:Array Operand) (f:Operand→Value):(xs.toList.map f).toArray=xs.map f:=by
 apply Array.ext'; simp
theorem lift_value {s:Sem Value} {v:Value} {w w':World} (hs:s.run P w=.ok v w'):(do pure (Next.value (← s)):Sem Next).run P w=.ok (.value v) w':=by
 simp [Sem.run_bind,hs,Sem.run]
theorem placesL_run (w:World):∀ (fs:List Field) (l:List (Nat × Nat)),placesL P fs=some l→(fs.mapM (m:=Sem) fun f=>do pure (f.offset,← sizeOf f.type)).run P w=.ok l w
 | [],l,h=>by simp [placesL] at h; subst h; simp
 | f :: r,l,h=>by
  unfold placesL at h
  split at h
  ·rename_i i l' hi hl
   injection h with h; subst h
   have ih:=placesL_run w r l' hl
   simp only [List.mapM_cons,Sem.run_bind,run_sizeOf' hi,Result.andThen_ok,Sem.run_pure,ih]
  ·cases h
theorem buildPure_run {t:TypeId} {fs:Array Field} (ht:P.underlying t=some (.struct fs)) {vals:List (Nat × Value)} {v:Value} (h:buildPure P t fs vals=some v) (w:World):(Instr.build t vals.toArray).run P w=.ok v w:=by
 unfold buildPure at h
 split at h
 ·rename_i i l hi hl
  split at h
  ·rename_i z hz
   split at h
   ·rename_i cs hcs
    injection h with h; subst h
    have hzr:(zeroValue t).run P w=.ok z w:=by simp [zeroValue,run_typeInfo' hi,hz,Sem.run_bind]
    have hp:=placesL_run (P:=P) w fs.toList l hl
    have hp':(fs.mapM (m:=Sem) fun f=>do pure (f.offset,← sizeOf f.type)).run P w=.ok l.toArray w:=by
     rw [Array.mapM_eq_mapM_toList]
     simp only [← bind_pure_comp (m:=Sem),Sem.run_bind] at hp ⊢
     rw [hp]; rfl
    simp only [Instr.build,Sem.run_bind,hzr,Result.andThen_ok,run_underlying' ht,hp']
    rw [hcs]; rfl
   ·cases h
  ·cases h
 ·cases h
theorem pureVal_run {td:Nat→TD} {v:Value} (h:pureVal P td ρ o.op=some v) (w:World):(execOp (evE ρ) o).run P w=.ok (.value v) w:=by
 obtain ⟨dst,op,type,pos,after,guard⟩:=o
 simp only at h
 cases op <;> simp only [pureVal] at h <;> try (cases h; done)
 case move x=>injection h with h; subst h; simp [execOp,Sem.run]
 case assign x=>injection h with h; subst h; simp [execOp,Sem.run]
 case pick c a b =>
  split at h
  ·rename_i t ht
   injection h with h
   subst h
   simp only [execOp,ht,asBool]
   cases t <;> simp [Sem.run]
  ·cases h
 case binOp op t x y u =>
  simp only [execOp]
  have lift:∀ {s:Sem Value},s.run P w=.ok v w→(do pure (Next.value (← s)):Sem Next).run P w=.ok (.value v) w:=by
   intro s hs; simp [Sem.run_bind,hs,Sem.run]
  refine lift ?_
  split at h
  ·split at h
   ·split at h
    ·rename_i p hx
     rw [hx]
     simp only [evE]
     split at h
     ·cases hp:isPtrT P t with
      | true=>rw [hp] at h; injection h with h; subst h; exact eqlNil_run hp _ _ _ _
      | false=>rw [hp] at h; cases h
     ·cases hp:isPtrT P t with
      | true=>rw [hp] at h; injection h with h; subst h; exact neqNil_run hp _ _ _ _
      | false=>rw [hp] at h; cases h
     ·cases h
    ·cases h
   ·cases h
  ·cases hsh:isShift op with
   | true=>rw [hsh] at h; exact shiftPure_run h _ _ _ _
   | false=>rw [hsh] at h; exact binPure_run h _ _ _ _
  ·cases hb:isBoolT P t with
   | true=>rw [hb] at h; exact boolPure_run h _ hb _ _ _
   | false=>rw [hb] at h; cases h
  ·exact binPure_run h _ _ _ _
  ·exact binPure_run h _ _ _ _
  ·exact binPure_run h _ _ _ _
  ·exact binPure_run h _ _ _ _
  ·cases h
 case unOp op t x =>
  split at h
  ·rename_i b hx
   injection h with h
   subst h
   simp [execOp,hx,Op.unary,Sem.run]
  ·cases h
 case makeInterface t x =>
  cases hc:isConcT P t with
  | false=>rw [hc] at h; cases h
  | true =>
   rw [hc] at h
   injection h with h
   subst h
   unfold isConcT at hc
   split at hc
   ·cases hc
   ·rename_i d hd hn
    have hu:=run_underlying' hn w
    simp only [execOp,Instr.makeInterface]
    cases d <;> first | (exact (hd _ rfl).elim) | simp [hu,Sem.run_bind,Sem.run]
   ·cases hc
 case build t ps =>
  split at h
  ·rename_i fs ht
   cases hc:ps.toList.all (partScal td fs) with
   | false=>rw [hc] at h; cases h
   | true =>
    rw [hc] at h
    have e:(ps.toList.map fun (x:Nat × Operand)=>(x.1,evE ρ x.2)).toArray=ps.map fun (x:Nat × Operand)=>(x.1,evE ρ x.2):=by apply Array.ext'; simp
    have hb:=buildPure_run ht h w
    rw [e] at hb
    simp only [execOp]
    exact lift_value hb
  ·cases h
 case makeFunc fn first cap=>injection h with h; subst h; rw [map_toList,map_toList]; simp [execOp,Instr.makeFunc,Sem.run]
 case fieldAddr s x f =>
  split at h
  ·rename_i a hx
   split at h
   ·rename_i off hoff
    injection h with h
    subst h
    simp [execOp,hx,fieldOff_run hoff,Sem.run_bind,Sem.run]
   ·cases h
  ·cases h
 case extract x i =>
  split at h
  ·rename_i vs hx
   simp at h
   simp [execOp,hx,Instr.extract,h,Sem.run]
  ·cases h
 case nilCheck x =>
  split at h
  ·rename_i g f c hx
   injection h with h
   subst h
   simp [execOp,hx,Sem.run]
  ·cases h
 case call c =>
  obtain ⟨callee,args,argTypes⟩:=c
  split at h
  ·rename_i x t hc ha ht
   simp only at hc ha ht
   have ha':args=#[x]:=Array.ext' (by simpa using ha)
   have ht':argTypes=#[t]:=Array.ext' (by simpa using ht)
   subst hc ha' ht'
   split at h
   ·rename_i b n c hx
    cases hs:isSliceT P t with
    | false=>rw [hs] at h; cases h
    | true =>
     rw [hs] at h
     injection h with h
     subst h
     unfold isSliceT at hs
     split at hs
     ·rename_i e he
      have hu:=run_underlying' he w
      simp [execOp,resolve,invoke,builtin,Builtin.len_,hx,hu,goInt,Sem.run_bind,Sem.run]
     ·cases hs
   ·rename_i s hx
    cases hs:isStrT P t with
    | false=>rw [hs] at h; cases h
    | true =>
     rw [hs] at h
     injection h with h
     subst h
     unfold isStrT at hs
     split at hs
     ·rename_i he
      have hu:=run_underlying' he w
      simp [execOp,resolve,invoke,builtin,Builtin.len_,hx,hu,goInt,Sem.run_bind,Sem.run]
     ·cases hs
   ·cases h
  ·cases h
theorem readSem_run {s:Sem Value} {v:Value} {w w':World} (h:readSem ρ o.type o.op=some s) (hs:s.run P w=.ok v w'):(execOp (evE ρ) o).run P w=.ok (.value v) w':=by
 obtain ⟨dst,op,type,pos,after,guard⟩:=o
 simp only at h
 cases op <;> simp only [readSem] at h <;> try (cases h; done)
 case call c =>
  obtain ⟨callee,args,argTypes⟩:=c
  split at h
  ·rename_i hc; simp only at hc; subst hc; injection h with h; subst h
   rw [map_toList] at hs
   simpa [execOp,resolve,invoke,builtin] using lift_value hs
  ·rename_i hc; simp only at hc; subst hc; injection h with h; subst h
   rw [map_toList] at hs
   simpa [execOp,resolve,invoke,builtin] using lift_value hs
  ·rename_i hc; simp only at hc; subst hc; injection h with h; subst h
   rw [map_toList] at hs
   simpa [execOp,resolve,invoke,builtin] using lift_value hs
  ·cases h
 case build t ps =>
  injection h with h; subst h
  have e:(ps.toList.map fun (x:Nat × Operand)=>(x.1,evE ρ x.2)).toArray=ps.map fun (x:Nat × Operand)=>(x.1,evE ρ x.2):=by apply Array.ext'; simp
  rw [e] at hs
  exact lift_value hs
 all_goals
  injection h with h; subst h
  exact lift_value hs
theorem effSem_run {s:Sem Value} {v:Value} {w w':World} (h:effSem ρ o.type o.op=some s) (hs:s.run P w=.ok v w'):(execOp (evE ρ) o).run P w=.ok (.value v) w':=by
 obtain ⟨dst,op,type,pos,after,guard⟩:=o
 simp only at h
 cases op <;> simp only [effSem] at h <;> try (cases h; done)
 case call c =>
  obtain ⟨callee,args,argTypes⟩:=c
  split at h
  ·rename_i hc; simp only at hc; subst hc; injection h with h; subst h
   rw [map_toList] at hs
   simpa [execOp,resolve,invoke,builtin] using lift_value hs
  ·rename_i hc; simp only at hc; subst hc; injection h with h; subst h
   rw [map_toList] at hs
   simpa [execOp,resolve,invoke,builtin] using lift_value hs
  ·rename_i hc; simp only at hc; subst hc; injection h with h; subst h
   rw [map_toList] at hs
   simpa [execOp,resolve,invoke,builtin] using lift_value hs
  ·cases h
 case buildSlice t n ps =>
  injection h with h; subst h
  have e:(ps.toList.map fun (x:Nat × Operand)=>(x.1,evE ρ x.2)).toArray=ps.map fun (x:Nat × Operand)=>(x.1,evE ρ x.2):=by apply Array.ext'; simp
  rw [e] at hs
  exact lift_value hs
 all_goals
  injection h with h; subst h
  exact lift_value hs
theorem effUnit_run {s:Sem Unit} {w w':World} (h:effUnit ρ o.op=some s) (hs:s.run P w=.ok () w'):(execOp (evE ρ) o).run P w=.ok .skip w':=by
 obtain ⟨dst,op,type,pos,after,guard⟩:=o
 simp only at h
 cases op <;> simp only [effUnit] at h <;> try (cases h; done)
 all_goals
  injection h with h; subst h
  simp [execOp,Sem.run_bind,hs,Sem.run]
theorem newObj_run {b:Obj} (h:newObjOf P ρ o.op=some b) (w:World) :
  (execOp (evE ρ) o).run P w=.ok (.value (.pointer (some ⟨w.heap.size,0,none⟩))) { w with heap:=w.heap.push b }:=by
 obtain ⟨dst,op,type,pos,after,guard⟩:=o
 simp only at h
 cases op <;> simp only [newObjOf] at h <;> try (cases h; done)
 case alloc t =>
  split at h
  ·rename_i i hi
   split at h
   ·rename_i z hz
    injection h with h; subst h
    have hzr:(zeroValue t).run P w=.ok z w:=by simp [zeroValue,typeInfo,program,Sem.run,hi,hz]
    simp [execOp,Instr.alloc,hzr,newVar,newRow,newObj,Sem.run_bind,Sem.run]
   ·cases h
  ·cases h
 case box t x =>
  injection h with h; subst h
  simp [execOp,Instr.box,newVar,newRow,newObj,Sem.run_bind,Sem.run]
theorem ok_value {s:Sem Value} {v:Value} (hs:∀ w,s.run P w=.ok v w) (w:World):(do pure (Next.value (← s)):Sem Next).run P w=.ok (.value v) w:=lift_value (hs w)
theorem Ix_of {a:Option Addr} {l:Nat} {i:Int} {sz:Nat} {k:Addr→Prop} (h:Ix a l i sz k):∃ b,a=some b∧0≤i∧i<(l:Int)∧k (b.add (i.toNat*sz)):=by
 obtain ⟨h0,h1,h2⟩:=h
 obtain ⟨b,rfl,h⟩:=onSome_of h2
 exact ⟨b,rfl,h0,h1,h⟩
theorem indexAt_run {t e:TypeId} {inf:TypeInfo} (ht:P.underlying t=some (.slice e)) (hi:P.info? e=some inf) {b:Addr} {l c:Nat} {k:IntKind} {n:Int} (h0:0≤n) (h1:n<(l:Int)) (w:World) :
  (Instr.indexAt t (.slice (some b) l c) (.int k n)).run P w=.ok (.pointer (some (b.add (n.toNat*inf.size)))) w:=by
 simp [Instr.indexAt,asIntOf,Sem.run_bind,run_underlying' ht,run_sizeOf' hi,h0,h1]
theorem index_run {t:TypeId} (ht:P.underlying t=some .string) {s:ByteArray} {k:IntKind} {n:Int} (h0:0≤n) {b:UInt8} (hb:s[n.toNat]?=some b) (w:World) :
  (Instr.index t (.string s) (.int k n)).run P w=.ok (.int .u8 (b.toNat:Int)) w:=by
 simp [Instr.index,asIntOf,Sem.run_bind,run_underlying' ht,h0,hb]
theorem sliceBound_run {k:IntKind} {i:Int} {y:Nat} {code:BoundsCode} (h0:0≤i) (h1:i≤(y:Int)) (w:World):(Instr.sliceBound (.int k i) y code).run P w=.ok i.toNat w:=by
 simp [Instr.sliceBound,asIntOf,Sem.run_bind,h0,h1]
theorem sliceBounds_run {isSl:Bool} {n c:Nat} {lo hi:Option Value} {l h:Int} (hl:bv lo 0=some l) (hh:bv hi (n:Int)=some h) (h0:0≤l) (h1:l≤h) (h2:h≤(c:Int)) (w:World) :
  (Instr.sliceBounds isSl n c lo hi none).run P w=.ok (l.toNat,h.toNat,c) w:=by
 have hhi:∀ code,(match hi with | some v=>Instr.sliceBound v c code | none=>(pure n:Sem Nat)).run P w=.ok h.toNat w:=by
  intro code
  unfold bv at hh
  split at hh
  ·injection hh with hh; subst hh; simp
  ·injection hh with hh; subst hh; exact sliceBound_run (Int.le_trans h0 h1) h2 w
  ·cases hh
 have hlo:∀ code,(match lo with | some v=>Instr.sliceBound v h.toNat code | none=>(pure 0:Sem Nat)).run P w=.ok l.toNat w:=by
  intro code
  unfold bv at hl
  split at hl
  ·injection hl with hl; subst hl; simp
  ·injection hl with hl; subst hl; exact sliceBound_run h0 (by omega) w
  ·cases hl
 cases hi with
 | none =>
  have hhi:=hhi .index
  simp only at hhi
  cases lo with
  | none =>
   have hlo:=hlo .index
   simp only at hlo
   simp [Instr.sliceBounds] at hhi hlo ⊢
   exact ⟨hlo,hhi⟩
  | some v =>
   have hlo:=hlo .sliceB
   simp only at hlo
   simp at hhi
   simp [Instr.sliceBounds,Sem.run_bind,hlo,hhi]
 | some u =>
  cases lo with
  | none =>
   have hlo:=hlo .index
   simp at hlo
   have:=hhi (if isSl then .sliceAcap else .sliceAlen)
   simp only at this
   simp [Instr.sliceBounds,Sem.run_bind,this,hlo]
  | some v =>
   have h3:=hlo .sliceB
   have:=hhi (if isSl then .sliceAcap else .sliceAlen)
   simp only at this h3
   simp [Instr.sliceBounds,Sem.run_bind,this,h3]
theorem sliceStr_run {t:TypeId} (ht:P.underlying t=some .string) {s:ByteArray} {lo hi:Option Value} {l h:Nat} (w:World)
  (hb:(Instr.sliceBounds false s.size s.size lo hi none).run P w=.ok (l,h,s.size) w) :
  (Instr.sliceAt t (.string s) lo hi none).run P w=.ok (.string (s.extract l h)) w:=by
 simp [Instr.sliceAt,Instr.slice,Sem.run_bind,run_underlying' ht,hb]
theorem sliceSl_run {t e:TypeId} {inf:TypeInfo} (ht:P.underlying t=some (.slice e)) (hinf:P.info? e=some inf) {a:Option Addr} {n c:Nat} {lo hi:Option Value} {l h:Nat} (w:World)
  (hb:(Instr.sliceBounds true n c lo hi none).run P w=.ok (l,h,c) w) :
  (Instr.sliceAt t (.slice a n c) lo hi none).run P w=.ok (.slice (if c=l then a else a.map (·.add (l*inf.size))) (h - l) (c - l)) w:=by
 simp [Instr.sliceAt,Instr.slice,Sem.run_bind,run_underlying' ht,run_sizeOf' hinf,hb]
theorem isAggD_run {t:TypeId} {d:TypeDesc} (h:P.underlying t=some d) (w:World):(isAgg t).run P w=.ok (isAggD d) w:=by
 cases d <;> simp [isAgg,Sem.run_bind,run_underlying' h,isAggD]
theorem isAgg_run {t:TypeId} (w:World):(∀ n,loadKind P t=some (some n)→(isAgg t).run P w=.ok true w∧(sizeOf t).run P w=.ok n w)∧(loadKind P t=some none→(isAgg t).run P w=.ok false w∧(sizeOf t).run P w=.ok 1 w):=by
 unfold loadKind
 split
 ·rename_i d i hu hi
  have ha:=isAggD_run hu w
  cases hd:isAggD d with
  | true =>
   rw [hd] at ha
   exact ⟨fun n h=>(by injection h with h; injection h with h; subst h; exact ⟨ha,run_sizeOf' hi w⟩),fun h=>(by cases h)⟩
  | false =>
   rw [hd] at ha
   simp only [cond]
   cases hb:Nat.beq i.size 1 with
   | false=>exact ⟨fun n h=>(by cases h),fun h=>(by cases h)⟩
   | true=>exact ⟨fun n h=>(by cases h),fun _=>⟨ha,by rw [← Nat.eq_of_beq_eq_true hb]; exact run_sizeOf' hi w⟩⟩
 ·exact ⟨fun n h=>(by cases h),fun h=>(by cases h)⟩
theorem eqlIf_run {t:TypeId} (h:isIfT P t=true) {v:Value} {b:Bool} (hv:(v=.nilIface∧b=true)∨(∃ u x,v=.iface u x∧b=false)) (x:Operand) (w:World) :
  (do eqGuard .eql t x (.const .nilIface) v .nilIface; binOp .eql t v .nilIface:Sem Value).run P w=.ok (.bool b) w ∧
  (do eqGuard .neq t x (.const .nilIface) v .nilIface; binOp .neq t v .nilIface:Sem Value).run P w=.ok (.bool !b) w:=by
 unfold isIfT at h
 split at h
 ·rename_i ms he
  have hu:=run_underlying' he w
  have hd:∀ d,(Op.equalIn (d+1) t v .nilIface).run P w=.ok b w:=fun d=>by
   rcases hv with ⟨rfl,rfl⟩ | ⟨u,y,rfl,rfl⟩ <;> simp [Op.equalIn,hu,Sem.run_bind]
  have h0:(Op.equal t v .nilIface).run P w=.ok b w:=hd 9999
  have h1:(binOp .eql t v .nilIface).run P w=.ok (.bool b) w:=by
   have:binOp .eql t v .nilIface=((Op.equal t v .nilIface) >>= fun r=>pure (Value.bool r):Sem Value):=by rcases hv with ⟨rfl,rfl⟩ | ⟨u,y,rfl,rfl⟩ <;> rfl
   rw [this,Sem.run_bind,h0]; simp
  have h2:(binOp .neq t v .nilIface).run P w=.ok (.bool !b) w:=by
   have:binOp .neq t v .nilIface=((Op.equal t v .nilIface) >>= fun r=>pure (Value.bool !r):Sem Value):=by rcases hv with ⟨rfl,rfl⟩ | ⟨u,y,rfl,rfl⟩ <;> rfl
   rw [this,Sem.run_bind,h0]; simp
  constructor
  ·rcases hv with ⟨rfl,rfl⟩ | ⟨u,y,rfl,rfl⟩ <;> simpa [eqGuard,Sem.run_bind] using h1
  ·rcases hv with ⟨rfl,rfl⟩ | ⟨u,y,rfl,rfl⟩ <;> simpa [eqGuard,Sem.run_bind] using h2
 ·cases h
theorem Nl_of {v:Value} {k:Bool→Prop} (h:Nl v k):∃ b,((v=.nilIface∧b=true)∨(∃ u x,v=.iface u x∧b=false))∧k b:=by
 unfold Nl at h
 split at h
 ·exact ⟨true,.inl ⟨rfl,rfl⟩,h⟩
 ·exact ⟨false,.inr ⟨_,_,rfl,rfl⟩,h⟩
 ·exact h.elim
theorem condE_run {td:Nat→TD} {g:(Value→Prop)→Prop} (h:condE P td ρ o.op=some g) {k:Value→Prop} (hk:g k):∃ v,(∀ w,(execOp (evE ρ) o).run P w=.ok (.value v) w)∧k v:=by
 obtain ⟨dst,op,type,pos,after,guard⟩:=o
 simp only at h
 cases op <;> simp only [condE] at h <;> try (cases h; done)
 case nilCheck x =>
  split at h
  ·rename_i p hx
   injection h with h
   subst h
   obtain ⟨a,rfl,hk⟩:=onSome_of hk
   exact ⟨_,fun w=>by simp [execOp,hx],hk⟩
  ·cases h
 case indexAddr t x i =>
  split at h
  ·rename_i e ht
   split at h
   ·rename_i inf a l c kk n hi hx hii
    injection h with h
    subst h
    obtain ⟨b,rfl,h0,h1,hk⟩:=Ix_of hk
    exact ⟨_,fun w=>by simp only [execOp,hx,hii]; exact lift_value (indexAt_run ht hi h0 h1 w),hk⟩
   ·cases h
  ·cases h
 case index t x i =>
  split at h
  ·rename_i ht
   split at h
   ·rename_i s kk n hx hi
    injection h with h
    subst h
    obtain ⟨h0,hk⟩:=hk
    split at hk
    ·rename_i b hb
     exact ⟨_,fun w=>by simp only [execOp,hx,hi]; exact lift_value (index_run ht h0 hb w),hk⟩
    ·exact hk.elim
   ·cases h
  ·cases h
 case slice t x lo hi mx =>
  split at h
  ·rename_i s ht hx
   split at h
   ·rename_i l h' hl hh
    injection h with h
    subst h
    obtain ⟨h0,h1,h2,hk⟩:=hk
    refine ⟨_,fun w=>?_,hk⟩
    simp only [execOp,hx,Option.map_none]
    exact lift_value (sliceStr_run ht w (sliceBounds_run hl hh h0 h1 h2 w))
   ·cases h
  ·rename_i e a n c ht hx
   split at h
   ·rename_i inf l h' hinf hl hh
    injection h with h
    subst h
    obtain ⟨h0,h1,h2,hk⟩:=hk
    refine ⟨_,fun w=>?_,hk⟩
    simp only [execOp,hx,Option.map_none]
    exact lift_value (sliceSl_run ht hinf w (sliceBounds_run hl hh h0 h1 h2 w))
   ·cases h
  ·cases h
 case field t x f =>
  split at h
  ·rename_i fs cs ht hx
   split at h
   ·rename_i fd hf
    split at h
    ·rename_i hlk
     injection h with h
     subst h
     unfold Fe at hk
     split at hk
     ·rename_i v hv
      refine ⟨_,fun w=>?_,hk⟩
      simp only [execOp,hx]
      refine lift_value ?_
      simp [Instr.field,Sem.run_bind,run_underlying' ht,hf,asAgg,part,((isAgg_run (P:=P) (t:=fd.type) w).2 hlk).1,hv]
     ·exact hk.elim
    ·rename_i n hlk
     injection h with h
     subst h
     refine ⟨_,fun w=>?_,hk⟩
     simp only [execOp,hx]
     refine lift_value ?_
     simp [Instr.field,Sem.run_bind,run_underlying' ht,hf,asAgg,part,((isAgg_run (P:=P) (t:=fd.type) w).1 n hlk).1,((isAgg_run (P:=P) (t:=fd.type) w).1 n hlk).2]
    ·cases h
   ·cases h
  ·cases h
 case binOp op t x y u =>
  split at h
  ·cases hif:isIfT P t with
   | false=>rw [hif] at h; cases h
   | true =>
    rw [hif] at h
    simp only [cond] at h
    split at h
    ·injection h with h
     subst h
     obtain ⟨b,hb,hk⟩:=Nl_of hk
     exact ⟨_,fun w=>by simp only [execOp]; exact lift_value (eqlIf_run hif hb x w).1,hk⟩
    ·injection h with h
     subst h
     obtain ⟨b,hb,hk⟩:=Nl_of hk
     exact ⟨_,fun w=>by simp only [execOp]; exact lift_value (eqlIf_run hif hb x w).2,hk⟩
    ·cases h
  ·cases h
theorem Lc_of {a:Addr} {w:World} {k:Value→Prop} (h:Lc a w k):∃ v,w.cell? a=some v∧k v:=by
 unfold Lc at h
 split at h
 ·exact ⟨_,by assumption,h⟩
 ·exact h.elim
theorem La_of {n:Nat} {a:Addr} {w:World} {k:Array Value→Prop} (h:La n a w k):∃ cs,cellsA w a n=some cs∧k cs:=by
 unfold La at h
 split at h
 ·exact ⟨_,by assumption,h⟩
 ·exact h.elim
theorem load_run {a:Addr} {w:World} {v:Value} (h:w.cell? a=some v):(load a).run P w=.ok v w:=by simp [load,Sem.run,h]
theorem loadCellsFrom_run {a:Addr} {w:World}:∀ (n i:Nat) (l:List Value) (acc:Array Value),cellsAt w a i n=some l→(loadCellsFrom a i n acc).run P w=.ok (acc++l.toArray) w
 | 0,i,l,acc,h=>by simp [cellsAt] at h; subst h; simp [loadCellsFrom]
 | n+1,i,l,acc,h=>by
  unfold cellsAt at h
  split at h
  ·rename_i v l' hv hl
   injection h with h
   subst h
   have ih:=loadCellsFrom_run n (i+1) l' (acc.push v) hl
   simp only [loadCellsFrom,Sem.run_bind,load_run hv,Result.andThen_ok,ih]
   simp
  ·cases h
theorem cellsA_spec {a:Addr} {w:World} {n:Nat} {cs:Array Value} (h:cellsA w a n=some cs):∃ l,cellsAt w a 0 n=some l∧cs=l.toArray:=by
 unfold cellsA at h
 split at h
 ·injection h with h; exact ⟨_,by assumption,h.symm⟩
 ·cases h
theorem fact_run {ty:TypeId} {s:RSpec} {v:Value} {w:World} (h:readE P ρ ty o.op=some s) (hty:ty=o.type) (hf:s.fact P v w):(execOp (evE ρ) o).run P w=.ok (.value v) w:=by
 subst hty
 unfold readE at h
 split at h
 ·rename_i t x ho
  have eo:∀ s:Sem Value,s.run P w=.ok v w→Instr.loadAt t (evE ρ x)=s→(execOp (evE ρ) o).run P w=.ok (.value v) w:=by
   intro s hs he
   obtain ⟨dst,op,type,pos,after,guard⟩:=o
   simp only at ho
   subst ho
   simp only [execOp,he]
   exact lift_value hs
  split at h
  ·rename_i a hx hk
   injection h with h
   subst h
   have:=((isAgg_run (P:=P) (t:=t) w).2 hk).1
   have hf:w.cell? a=some v:=hf
   refine eo _ ?_ rfl
   rw [hx]
   simp [Instr.loadAt,Instr.sureAddr,loadVar,Sem.run_bind,this,hf]
  ·rename_i a n hx hk
   injection h with h
   subst h
   obtain ⟨h1,h2⟩:=(isAgg_run (P:=P) (t:=t) w).1 n hk
   unfold RSpec.fact at hf
   simp only at hf
   split at hf
   ·rename_i cs
    obtain ⟨l,hl,rfl⟩:=cellsA_spec hf
    refine eo _ ?_ rfl
    rw [hx]
    have:=loadCellsFrom_run (P:=P) n 0 l #[] hl
    simp [Instr.loadAt,Instr.sureAddr,loadVar,Sem.run_bind,h1,h2,loadCells,this]
   ·exact hf.elim
  ·cases h
 ·split at h
  ·rename_i s' hs
   injection h with h
   subst h
   exact readSem_run hs hf
  ·cases h
theorem rd_of {s:RSpec} {w:World} {k:Value→Prop} (h:s.rd P w k):∃ v,s.fact P v w∧k v:=by
 cases s with
 | cell a=>exact Lc_of h
 | cells n a=>obtain ⟨cs,h1,h2⟩:=La_of h; exact ⟨.agg cs,h1,h2⟩
 | sem s=>exact h
theorem store_run {a:Addr} {v:Value} {w:World} (h1:oneCell v=true) (h2:(w.cell? a).isSome=true) (h3:w.frozen? a=false):(store a v).run P w=.ok () (w.setCell a v):=by
 cases hc:w.cell? a with
 | none=>rw [hc] at h2; cases h2
 | some u=>cases v <;> simp [oneCell] at h1 <;> simp [store,Sem.run,hc,h3]
theorem storeCells_run {a:Addr}:∀ (l:List Value) (i:Nat) (w w':World),stAll a i l w=some w'→(storeCells a l i).run P w=.ok () w'
 | [],i,w,w',h=>by simp [stAll] at h; subst h; simp [storeCells]
 | v :: l,i,w,w',h=>by
  unfold stAll at h
  cases hc:(oneCell v && (w.cell? (a.add i)).isSome && !w.frozen? (a.add i)) with
  | false=>rw [hc] at h; cases h
  | true =>
   rw [hc] at h
   simp only [Bool.and_eq_true,Bool.not_eq_true'] at hc
   have ih:=storeCells_run l (i+1) _ w' h
   simp [storeCells,Sem.run_bind,store_run hc.1.1 hc.1.2 hc.2,ih]
theorem storeE_run {g:World→(World→Prop)→Prop} (h:storeE P ρ o.op=some g) {w:World} {k:World→Prop} (hg:g w k):∃ w',(execOp (evE ρ) o).run P w=.ok .skip w'∧k w':=by
 obtain ⟨dst,op,type,pos,after,guard⟩:=o
 simp only at h
 cases op <;> simp only [storeE] at h <;> try (cases h; done)
 case store t x y =>
  have lift:∀ {s:Sem Unit} {w':World},s.run P w=.ok () w'→(do s; pure Next.skip:Sem Next).run P w=.ok .skip w':=by
   intro s w' hs; simp [Sem.run_bind,hs]
  split at h
  ·rename_i a hx hk
   injection h with h
   subst h
   obtain ⟨h1,h2,h3,hk'⟩:=hg
   refine ⟨_,?_,hk'⟩
   simp only [execOp]
   refine lift ?_
   have hs:=((isAgg_run (P:=P) (t:=t) w).2 hk).2
   have hcs:(evE ρ y).cells=#[evE ρ y]:=by
    cases hv:evE ρ y <;> first | rfl | (rw [hv] at h1; cases h1)
   have ha:a.add 0=a:=by simp [Addr.add]
   simp [Instr.storeAt,hx,Instr.sureAddr,storeVar,Sem.run_bind,hs,hcs,storeCells,ha,store_run h1 h2 h3]
  ·rename_i a n hx hk
   split at h
   ·rename_i cs hy
    injection h with h
    subst h
    obtain ⟨h1,h2⟩:=hg
    split at h2
    ·rename_i w' hw'
     refine ⟨_,?_,h2⟩
     simp only [execOp]
     refine lift ?_
     have hs:=((isAgg_run (P:=P) (t:=t) w).1 n hk).2
     simp [Instr.storeAt,hx,hy,Instr.sureAddr,storeVar,Sem.run_bind,hs,Value.cells,h1,storeCells_run _ _ _ _ hw']
    ·exact h2.elim
   ·cases h
  ·cases h
theorem callE_run {go:Nat→Bool} (hgo:GoFn P go) {c:Call} {w:World} {k:Ko} (h:callE P go ρ c w k) (type:TypeId) :
  (∃ g args,(do let d ← resolve (evE ρ) c type; invoke d.target d.args:Sem Next).run P w=.ok (.enter g args) w∧Ct P g args w k) ∨
  (∃ v w',(do let d ← resolve (evE ρ) c type; invoke d.target d.args:Sem Next).run P w=.ok (.value v) w'∧k v w'):=by
 obtain ⟨callee,args,argTypes⟩:=c
 unfold callE at h
 simp only at h
 split at h
 ·rename_i g
  cases hg:go g with
  | false =>
   rw [hg] at h
   rw [map_toList] at h
   obtain ⟨v,w',hrun,h⟩:=h
   refine .inr ⟨v,w',?_,h⟩
   simpa [resolve,evE,Deferred.ofValue,invoke,Sem.run_bind] using hrun
  | true =>
   rw [hg] at h
   rw [map_toList] at h
   refine .inl ⟨g,_,?_,h⟩
   have:=hgo g hg (args.map (evE ρ)) w
   simpa [resolve,evE,Deferred.ofValue,invoke,Sem.run_bind] using this
 ·rename_i f hf
  unfold CallV at h
  split at h
  ·rename_i g first cap hv
   rw [map_toList] at h
   refine .inl ⟨g,_,?_,h.2⟩
   have:=hgo g h.1 (first++args.map (evE ρ)++cap) w
   simpa [resolve,hv,Deferred.ofValue,invoke,Sem.run_bind] using this
  ·exact h.elim
 ·exact h.elim
end
end Sy
end
section
namespace Sy
def tdOf (td:Nat→TD) (o:Oper):TD:=match o.op with
 | .indexAddr _ _ _=>.ta
 | .nilCheck _=>.ta
 | .load t _=>td t
 | .entry _=>.t2 .tx .tx
 | _=>td o.type
def postT (td:Nat→TD) (o:Oper) (v:Value) (k:Value→Prop):Prop:=match o.op with
 | .extract _ _=>onT (td o.type) v k
 | _=>k v
theorem postT_of {td:Nat→TD} {o:Oper} {v:Value} {k:Value→Prop} (h:postT td o v k):k v:=by
 unfold postT at h
 split at h
 ·exact onT_of _ h
 ·exact h
def nextE (ρ:Env) (ty:TypeId):Op→Option (Sem Value × Bool)
 | .next it isString=>some (Instr.next (evE ρ it) isString ty,isString)
 | _=>none
theorem nextE_run {P:Program} {ρ:Env} {o:Oper} {x:Sem Value × Bool} {v:Value} {w w':World} (h:nextE ρ o.type o.op=some x) (hs:x.1.run P w=.ok v w'):(execOp (evE ρ) o).run P w=.ok (.value v) w':=by
 obtain ⟨dst,op,type,pos,after,guard⟩:=o
 simp only at h
 cases op <;> simp only [nextE] at h <;> try (cases h; done)
 injection h with h; subst h
 exact lift_value hs
def onNx (isString:Bool) (v:Value) (k:Value→Prop):Prop :=
 onNext v (fun a b=>cond isString (onI a fun x=>onR b fun y=>k (.tuple #[.bool true,.int .i64 x,.int .i32 y])) (k (.tuple #[.bool true,a,b]))) (k (.tuple #[.bool false]))
theorem onNx_of {s:Bool} {v:Value} {k:Value→Prop} (h:onNx s v k):k v:=by
 rcases onNext_of h with ⟨a,b,rfl,h⟩ | ⟨rfl,h⟩
 ·cases s with
  | true =>
   obtain ⟨x,rfl,h⟩:=onI_of h
   obtain ⟨y,rfl,h⟩:=onR_of h
   exact h
  | false=>exact h
 ·exact h
def effE (P:Program) (go:Nat→Bool) (td:Nat→TD) (ρ:Env) (o:Oper) (w:World) (k:Ko):Prop :=
 match newObjOf P ρ o.op with
 | some b=>New b w fun a w'=>k (.pointer (some a)) w'
 | none=>match effSem ρ o.type o.op with
  | some s=>Rv P s w fun v w'=>onT (tdOf td o) v fun v=>k v w'
  | none=>match effUnit ρ o.op with
   | some s=>Ru P s w fun w'=>k undef w'
   | none=>match storeE P ρ o.op with
   | some g=>g w fun w'=>k undef w'
   | none=>match nextE ρ o.type o.op with
    | some x=>Rv P x.1 w fun v w'=>onNx x.2 v fun v=>k v w'
    | none=>match o.op with
     | .call c=>callE P go ρ c w fun v w'=>onT (td o.type) v fun v=>k v w'
     | _=>False
def stepE (P:Program) (go:Nat→Bool) (td:Nat→TD) (ρ:Env) (o:Oper) (w:World) (k:Ko):Prop :=
 match pureVal P td ρ o.op with
 | some v=>postT td o v fun v=>k v w
 | none=>match condE P td ρ o.op with
  | some g=>g fun v=>onT (tdOf td o) v fun v=>k v w
  | none=>match readE P ρ o.type o.op with
   | some s=>s.rd P w fun v=>onT (tdOf td o) v fun v=>k v w
   | none=>effE P go td ρ o w k
section
variable {ds:List Deferred} {P:Program} {go:Nat→Bool} {td:Nat→TD} {ρ:Env} {o:Oper} {n:Nat} {a:Act} {w:World} {next:Act→World→Prop} {Q:Exit→Act→World→Prop}
theorem effE_sound (hgo:GoFn P go) (hr:Rel ds n a ρ) {k:Ko} (h:effE P go td ρ o w k) (hk:∀ v w',k v w'→next (a.put o.dst v) w'):o.wp P a w next Q:=by
 unfold Oper.wp
 rw [hr.eval]
 unfold effE at h
 split at h
 ·rename_i b hb
  rw [newObj_run hb]
  exact hk _ _ h
 ·split at h
  ·rename_i s hs
   obtain ⟨v,w',hv,h⟩:=h
   rw [effSem_run hs hv]
   exact hk _ _ (onT_of _ h)
  ·split at h
   ·rename_i s hs
    obtain ⟨w',hv,h⟩:=h
    rw [effUnit_run hs hv]
    exact hk _ _ h
   ·split at h
    ·rename_i g hg
     obtain ⟨w',hv,h⟩:=storeE_run hg h
     rw [hv]
     exact hk _ _ h
    split at h
    ·rename_i x hx
     obtain ⟨v,w',hv,h⟩:=h
     rw [nextE_run hx hv]
     exact hk _ _ (onNx_of (k:=fun v=>k v w') h)
    ·split at h
     ·rename_i c hc
      rcases callE_run hgo h o.type with ⟨g,args,hrun,hct⟩ | ⟨v,w',hrun,h⟩
      ·have e:(execOp (evE ρ) o).run P w=.ok (.enter g args) w:=by
        obtain ⟨dst,op,type,pos,after,guard⟩:=o
        simp only at hc hrun
        subst hc
        exact hrun
       rw [e]
       exact Calls.mono hct fun e w' he=>by
        cases e with
        | returned v=>exact hk _ _ (onT_of _ he)
        | panicked c=>exact he.elim
        | outgrown=>exact he.elim
      ·have e:(execOp (evE ρ) o).run P w=.ok (.value v) w':=by
        obtain ⟨dst,op,type,pos,after,guard⟩:=o
        simp only at hc hrun
        subst hc
        exact hrun
       rw [e]
       exact hk _ _ (onT_of (f:=fun v=>k v w') _ h)
     ·exact h.elim
theorem stepE_sound (hgo:GoFn P go) (hr:Rel ds n a ρ) {k:Ko} (h:stepE P go td ρ o w k) (hk:∀ v w',k v w'→next (a.put o.dst v) w'):o.wp P a w next Q:=by
 unfold stepE at h
 split at h
 ·rename_i v hv
  unfold Oper.wp
  rw [hr.eval,pureVal_run hv]
  exact hk _ _ (postT_of h)
 ·split at h
  ·rename_i g hg
   obtain ⟨v,hv,h⟩:=condE_run hg h
   unfold Oper.wp
   rw [hr.eval,hv]
   exact hk _ _ (onT_of (f:=fun v=>k v w) _ h)
  ·split at h
   ·rename_i s hs
    obtain ⟨v,hv,h⟩:=rd_of h
    unfold Oper.wp
    rw [hr.eval,fact_run hs rfl hv]
    exact hk _ _ (onT_of (f:=fun v=>k v w) _ h)
   ·exact effE_sound hgo hr h hk
end
structure Fr where
 ds:List Deferred
 r:Option Nat
def z0:Fr:=⟨[],none⟩
def fw:Option Nat→Fence
 | none=>Fence.wide
 | some l=>Fence.wide.inRound l
theorem fw_round (r:Option Nat):(fw r).round=r:=by cases r <;> rfl
theorem fw_fn (r:Option Nat) (f:FuncId):(fw r).fn f:=by cases r <;> trivial
theorem fw_room (r:Option Nat) (n:Nat):(fw r).room n:=by cases r <;> exact room_wide n
theorem fw_fenced (P:Program) (r:Option Nat):Machine.fenced P (fw r)=Machine.fenced P Fence.wide:=by cases r <;> rfl
def ndO (o:Oper):Bool:=match o.op with | .defer _=>false | _=>true
theorem ndO_ne {o:Oper} (h:ndO o=true):∀ c,o.op≠.defer c:=by
 intro c e
 unfold ndO at h
 rw [e] at h
 cases h
section
variable {P:Program} {r:Option Nat} {ops:Array Oper} {Q:Exit→Act→World→Prop}
theorem rows_in {row:String} {args:Array Value} {w:World} {R:Ko} (h:Rows P row args w R):RowsIn (fw r) 0 P row args w R:=fun c cs _=>by
 obtain ⟨v,w',h1,h2⟩:=h c cs
 exact ⟨v,w',h1,by rw [fw_fenced]; exact stepsIn_wide.2 h2⟩
theorem calls_in {f:FuncId} {args:Array Value} {w:World} {R:Ending→World→Prop} (h:Calls P f args w R):CallsIn (fw r) 0 P f args w R:=⟨fw_fn r f,fun cs _=>by
 obtain ⟨e,w',fr,h1,h2,h3⟩:=h cs
 exact ⟨e,w',fr,h1,by rw [fw_fenced]; exact comesIn_wide.2 h2,h3⟩⟩
theorem oper_in {o:Oper} (ho:r=none∨ndO o=true) {a:Act} {w:World} {next:Act→World→Prop} (h:o.wp P a w next Q):o.wpIn (fw r) 0 P a w next Q:=by
 refine ⟨fun f _=>fw_fn r f,?_⟩
 have e:o.semAt (fw r).round a.eval=execOp a.eval o:=by
  rw [fw_round]
  rcases ho with rfl | ho
  ·rfl
  ·exact Oper.semAt_eq r _ o (ndO_ne ho)
 rw [e]
 unfold Oper.wp at h
 have hd:(fw r).depth.isSome=true→1≤0:=fun h=>by cases r <;> cases h
 revert h
 generalize (execOp a.eval o).run P w=q
 intro h
 cases q with
 | ok x w' =>
  cases x with
  | value v=>exact h
  | skip=>exact h
  | defer d=>exact h
  | enter f args=>exact ⟨hd,calls_in h⟩
  | row row args=>exact ⟨hd,rows_in h⟩
  | _=>exact h.elim
 | halt x w'=>cases x <;> exact h
end
def Yd (P:Program) (l:Nat) (args:Array Value) (w:World) (k:Ko):Prop :=
 ∃ f tmps assign body,(Instr.yield l args).run P w=.ok (.round l f tmps assign body) w∧RoundIn Fence.wide 0 P l f tmps assign body w (fun e w'=>match e with | .returned v=>k v w' | _=>False)
def YdV (P:Program) (v:Value) (args:Array Value) (w:World) (k:Ko):Prop :=
 match v with
 | .func (.yield l) first _=>Yd P l (first++args) w k
 | _=>False
def isVC:Op→Bool
 | .call c=>(match c.callee with | .value (.tmp _)=>true | _=>false)
 | _=>false
def yieldE (P:Program) (td:Nat→TD) (ρ:Env) (o:Oper) (w:World) (k:Ko):Prop:=match o.op with
 | .call c=>(match c.callee with
  | .value f=>YdV P (evE ρ f) (c.args.toList.map (evE ρ)).toArray w fun v w'=>onT (td o.type) v fun v=>k v w'
  | _=>False)
 | _=>False
def stepY (P:Program) (go:Nat→Bool) (td:Nat→TD) (y:Bool) (ρ:Env) (o:Oper) (w:World) (k:Ko):Prop :=
 cond (y && isVC o.op) (yieldE P td ρ o w k) (stepE P go td ρ o w k)
section
variable {r:Option Nat} {ds:List Deferred} {P:Program} {go:Nat→Bool} {td:Nat→TD} {ρ:Env} {o:Oper} {n:Nat} {a:Act} {w:World} {next:Act→World→Prop} {Q:Exit→Act→World→Prop}
theorem round_in {l:Nat} {f:FuncId} {tmps:Array Value} {assign body:Code} {R R':Ending→World→Prop} (h:RoundIn Fence.wide 0 P l f tmps assign body w R) (hR:∀ e w',R e w'→R' e w'):RoundIn (fw r) 0 P l f tmps assign body w R' :=
 ⟨fw_fn r f,fun c cs _=>by
  obtain ⟨e,w',h1,h2⟩:=h.2 c cs (room_wide _)
  exact ⟨e,w',hR _ _ h1,by rw [fw_fenced]; exact h2⟩⟩
theorem yieldE_sound (hr:Rel ds n a ρ) {k:Ko} (h:yieldE P td ρ o w k) (hk:∀ v w',k v w'→next (a.put o.dst v) w'):o.wpIn (fw r) 0 P a w next Q:=by
 unfold yieldE at h
 split at h
 ·rename_i c hc
  obtain ⟨callee,args,argTypes⟩:=c
  simp only at h
  split at h
  ·rename_i f
   unfold YdV at h
   split at h
   ·rename_i l first cap hv
    obtain ⟨fn,tmps,assign,body,hrun,hround⟩:=h
    refine ⟨fun f _=>fw_fn r f,?_⟩
    have e:o.semAt (fw r).round a.eval=execOp a.eval o:=Oper.semAt_eq _ _ o fun c' e=>by rw [hc] at e; cases e
    have e2:(execOp (evE ρ) o).run P w=.ok (.round l fn tmps assign body) w:=by
     obtain ⟨dst,op,type,pos,after,guard⟩:=o
     simp only at hc
     subst hc
     rw [map_toList] at hrun
     simpa [execOp,resolve,hv,Deferred.ofValue,invoke,Sem.run_bind] using hrun
    rw [e,hr.eval,e2]
    refine ⟨(fun h=>by cases r <;> cases h),round_in hround fun e w' h=>?_⟩
    cases e with
    | returned v=>exact hk _ _ (onT_of (f:=fun v=>k v w') _ h)
    | panicked c=>exact h.elim
    | outgrown=>exact h.elim
   ·exact h.elim
  ·exact h.elim
 ·exact h.elim
theorem stepY_sound {y:Bool} (hgo:GoFn P go) (hn:r=none∨ndO o=true) (hr:Rel ds n a ρ) {k:Ko} (h:stepY P go td y ρ o w k) (hk:∀ v w',k v w'→next (a.put o.dst v) w'):o.wpIn (fw r) 0 P a w next Q:=by
 unfold stepY at h
 cases hy:(y && isVC o.op) with
 | true=>rw [hy] at h; exact yieldE_sound hr h hk
 | false=>rw [hy] at h; exact oper_in hn (stepE_sound hgo hr h hk)
end
def Ifm (b:Bool) (x y:Prop):Prop:=match b with | true=>x | false=>y
theorem Ifm_of {b:Bool} {x y:Prop} (h1:b=true→x) (h2:b=false→y):Ifm b x y:=by cases b <;> first | exact h1 rfl | exact h2 rfl
def guardV (v:Value) (want:Bool) (run skip:Bool→Prop) (none_:Prop):Prop :=
 match v with
 | .bool b=>Ifm b (cond want (run true) (skip true)) (cond want (skip false) (run false))
 | _=>none_
def guardE (ops:List Oper) (ρ:Env) (g:Option (Nat × Bool)) (run skip:Env→Prop):Prop :=
 match g with
 | none=>run ρ
 | some (j,want)=>match (ops[j]?).bind (·.dst) with
  | none=>skip ρ
  | some d=>guardV (ρ d) want (fun b=>run (upd ρ d (.bool b))) (fun b=>skip (upd ρ d (.bool b))) (skip ρ)
theorem guardE_cases {ds:List Deferred} {P:Program} {ops:List Oper} {ρ:Env} {n:Nat} {a:Act} (hr:Rel ds n a ρ) {o:Oper} {run skip:Env→Prop} (h:guardE ops ρ o.guard run skip) :
  (Region.wanted o (yielded ops.toArray a.tmps)=true∧run ρ)∨(Region.wanted o (yielded ops.toArray a.tmps)=false∧skip ρ):=by
 unfold guardE at h
 unfold Region.wanted
 split at h
 ·rename_i hg; rw [hg]; exact .inl ⟨rfl,h⟩
 ·rename_i j want hg
  rw [hg]
  simp only
  split at h
  ·rename_i hd
   refine .inr ⟨?_,h⟩
   have:yielded ops.toArray a.tmps j=none:=by simp [yielded,hd]
   rw [this]; rfl
  ·rename_i d hd
   unfold guardV at h
   have hget:=hr.get d
   split at h
   ·rename_i b hb
    have hy:yielded ops.toArray a.tmps j=some b:=by
     have:a.tmps[d]?=some (.bool b):=by
      cases e:a.tmps[d]? with
      | none=>simp [e,hb,undef] at hget
      | some v=>simp [e,hb] at hget; rw [hget]
     simp [yielded,hd,this]
    rw [hy]
    cases b <;> cases want <;> simp only [Ifm,cond] at h <;> rw [upd_same _ _ _ hb] at h <;> first | exact .inl ⟨by decide,h⟩ | exact .inr ⟨by decide,h⟩
   ·rename_i hnb
    refine .inr ⟨?_,h⟩
    have:yielded ops.toArray a.tmps j=none:=by
     simp only [yielded,List.getElem?_toArray,hd,Option.bind_some]
     split
     ·rename_i b hb
      exfalso
      refine hnb b ?_
      rw [← hget]; simp [hb]
     ·rfl
    rw [this]; rfl
def dl (P:Program) (go:Nat→Bool) (td:Nat→TD) (y:Bool) (n:Nat) (ops:List Oper):List Oper→Env→World→(Env→World→Prop)→Prop
 | [],ρ,w,K=>K ρ w
 | o :: rest,ρ,w,K=>cond (okDst n o.dst) (guardE ops ρ o.guard
   (fun ρ=>stepY P go td y ρ o w fun v w'=>dl P go td y n ops rest (putE ρ o.dst v) w' K)
   (fun ρ=>dl P go td y n ops rest (putE ρ o.dst undef) w K)) False
theorem dl_sound {r:Option Nat} {ds:List Deferred} {P:Program} {go:Nat→Bool} {td:Nat→TD} {y:Bool} {n:Nat} {ops:List Oper} (hgo:GoFn P go) {K:Env→World→Prop} {Q:Exit→Act→World→Prop}
  (hK:∀ a ρ w,Rel ds n a ρ→K ρ w→Q .normal a w):∀ (l:List Oper) (a:Act) (ρ:Env) (w:World),(r=none∨l.all ndO=true)→Rel ds n a ρ→dl P go td y n ops l ρ w K→wpListIn (fw r) 0 P ops.toArray Q l a w
 | [],a,ρ,w,_,hr,h=>hK a ρ w hr h
 | o :: rest,a,ρ,w,hn,hr,h=>by
  have hn1:r=none∨ndO o=true:=hn.imp (fun x=>x) fun h=>by simp at h; exact h.1
  have hn2:r=none∨rest.all ndO=true:=hn.imp (fun x=>x) fun h=>by simp at h ⊢; exact h.2
  unfold dl at h
  cases hd:okDst n o.dst with
  | false=>rw [hd] at h; exact h.elim
  | true =>
   rw [hd] at h
   simp only [cond] at h
   unfold wpListIn
   rcases guardE_cases (P:=P) hr h with ⟨hw,h⟩ | ⟨hw,h⟩
   ·rw [if_pos hw]
    exact stepY_sound hgo hn1 hr h fun v w' h'=>dl_sound hgo hK rest _ _ _ hn2 (hr.put hd v) h'
   ·rw [if_neg (by simp [hw])]
    exact ⟨fun f _=>fw_fn r f,dl_sound hgo hK rest _ _ _ hn2 (hr.put hd _) h⟩
end Sy
end
end Go.Proofs.YtbgbidpecmepmaaGreatDoor
