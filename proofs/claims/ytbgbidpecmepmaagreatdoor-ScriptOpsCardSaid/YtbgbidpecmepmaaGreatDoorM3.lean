/-
  A row whose order the model draws: whatever order, under the facts that were read; Code as a formula: 'ev' follows a function's text from one place to the next cut; 'ev_sound': if at each cut what is said is enough, the formula is enough; From the formula of a body to a call; loops.
-/
import Derived.Test.YtbgbidpecmepmaaGreatDoorM2
import Derived.Laws.World
set_option maxRecDepth 100000
namespace Go.Proofs.YtbgbidpecmepmaaGreatDoor
section
namespace Sy
def predsOf (o:Oper):List Nat:=o.after.toList.filterMap fun e=>match e.ground with | .textOnly _=>none | .gcOnly _=>none | _=>some e.on
theorem mem_predsOf {o:Oper} {e:Edge} (he:e∈o.after) (hb:Region.binds .any e=true):e.on∈predsOf o:=by
 unfold predsOf
 refine List.mem_filterMap.2 ⟨e,by simpa using he,?_⟩
 unfold Region.binds at hb
 cases hg:e.ground <;> simp_all
theorem predsOf_mem {o:Oper} {i:Nat} (h:i∈predsOf o):∃ e∈o.after,Region.binds .any e=true∧e.on=i:=by
 unfold predsOf at h
 obtain ⟨e,he,hi⟩:=List.mem_filterMap.1 h
 refine ⟨e,by simpa using he,?_⟩
 unfold Region.binds
 cases hg:e.ground <;> simp_all
def maskOf (o:Oper) (acc:List Nat):Nat:=(predsOf o).foldl (fun s e=>s ||| (1 <<< e) ||| acc.getD e 0) 0
def masks:List Oper→List Nat→List Nat
 | [],acc=>acc
 | o :: r,acc=>masks r (acc++[maskOf o acc])
def isAnc (ms:List Nat) (i j:Nat):Bool:=(ms.getD j 0).testBit i
def Closed (ops:List Oper) (listed:Array Bool):Prop:=∀ (j:Nat) (o:Oper),ops[j]?=some o→listed.getD j false=true→∀ i∈predsOf o,listed.getD i false=true
theorem foldl_mask {acc:List Nat} {i:Nat}:∀ (l:List Nat) (s:Nat),(l.foldl (fun s e=>s ||| (1 <<< e) ||| acc.getD e 0) s).testBit i=true →
  s.testBit i=true∨∃ e∈l,e=i∨(acc.getD e 0).testBit i=true
 | [],s,h=>.inl h
 | e :: l,s,h=>by
  rcases foldl_mask l _ h with h | ⟨e',he',h⟩
  ·rw [Nat.testBit_or,Nat.testBit_or] at h
   simp only [Bool.or_eq_true] at h
   rcases h with (h | h) | h
   ·exact .inl h
   ·right
    refine ⟨e,by simp,.inl ?_⟩
    rw [Nat.one_shiftLeft,Nat.testBit_two_pow] at h
    simpa using h
   ·exact .inr ⟨e,by simp,.inr h⟩
  ·exact .inr ⟨e',by simp [he'],h⟩
def Good (ops:List Oper) (m:Nat) (k:Nat):Prop:=∀ listed,Closed ops listed→∀ o,ops[k]?=some o→(∀ i∈predsOf o,listed.getD i false=true)→∀ i,m.testBit i=true→listed.getD i false=true
theorem good_masks {ops:List Oper}:∀ (l:List Oper) (acc:List Nat),(∀ j,l[j]?=ops[acc.length+j]?)→(∀ k m,acc[k]?=some m→Good ops m k)→∀ k m,(masks l acc)[k]?=some m→Good ops m k
 | [],acc,_,hg=>hg
 | o :: l,acc,hl,hg=>by
  unfold masks
  refine good_masks l _ (fun j=>?_) (fun k m hk=>?_)
  ·have:=hl (j+1)
   simp at this ⊢
   rw [this]; congr 1; omega
  ·rcases Nat.lt_trichotomy k acc.length with h | h | h
   ·rw [List.getElem?_append_left h] at hk; exact hg k m hk
   ·subst h
    simp at hk
    subst hk
    intro listed hc o' ho' hp i hi
    have h0:ops[acc.length]?=some o:=by simpa using (hl 0).symm
    rw [h0] at ho'
    injection ho' with ho'
    subst ho'
    rcases foldl_mask _ _ hi with h | ⟨e,he,h⟩
    ·simp at h
    ·rcases h with rfl | h
     ·exact hp _ he
     ·have hel:=hp e he
      cases hme:acc[e]? with
      | none=>simp [List.getD_eq_getElem?_getD,hme] at h
      | some me =>
       simp [List.getD_eq_getElem?_getD,hme] at h
       cases hoe:ops[e]? with
       | none =>
        have hlt:=(List.getElem?_eq_some_iff.1 hme).1
        have:acc.length<ops.length:=(List.getElem?_eq_some_iff.1 h0).1
        rw [List.getElem?_eq_none_iff] at hoe
        omega
       | some oe=>exact hg e me hme listed hc oe hoe (hc e oe hoe hel) i h
   ·rw [List.getElem?_eq_none (by simp; omega)] at hk
    cases hk
theorem isAnc_false {ops:List Oper} {listed:Array Bool} (hc:Closed ops listed) {i j:Nat} {o:Oper} (ho:ops[j]?=some o) (hp:∀ i∈predsOf o,listed.getD i false=true)
  (hi:listed.getD i false=false):isAnc (masks ops []) i j=false:=by
 cases h:isAnc (masks ops []) i j with
 | false=>rfl
 | true =>
  exfalso
  unfold isAnc at h
  rw [List.getD_eq_getElem?_getD] at h
  cases hm:(masks ops [])[j]? with
  | none=>simp [hm] at h
  | some m =>
   simp only [hm,Option.getD_some] at h
   have:=good_masks ops [] (by simp) (by simp) j m hm listed hc o ho hp i h
   rw [hi] at this; cases this
abbrev Fact:=Nat × (World→Prop)
def wpF (P:Program) (ops:List Oper) (Q:Exit→Act→World→Prop):Nat→List Fact→Array Bool→Act→World→Prop
 | 0,_,listed,a,w=>Region.ready .any ops.toArray listed=[]∧Q .normal a w
 | fuel+1,F,listed,a,w=>(Region.ready .any ops.toArray listed=[]→Q .normal a w) ∧
  ∀ j∈Region.ready .any ops.toArray listed,wpOp P ops.toArray Q j (fun a' w'=>(∀ x∈F,isAnc (masks ops []) x.1 j=false→x.2 w') ∧
   wpF P ops Q fuel (F.filter fun x => !isAnc (masks ops []) x.1 j) (listed.setIfInBounds j true) a' w') a w
section
variable {P:Program} {ops:List Oper} {Q:Exit→Act→World→Prop}
theorem wpAny_of_F:∀ (fuel:Nat) (F:List Fact) (listed:Array Bool) (a:Act) (w:World),wpF P ops Q fuel F listed a w→wpAny P .any ops.toArray Q fuel listed a w
 | 0,_,_,_,_,h=>h
 | fuel+1,F,_,_,_,h=>⟨h.1,fun j hj=>wpOp_mono (fun a' w' h'=>wpAny_of_F fuel _ _ a' w' h'.2) (h.2 j hj)⟩
theorem wpF_mono:∀ (fuel:Nat) (F G:List Fact) (listed:Array Bool) (a:Act) (w:World),(∀ x∈G,x∈F)→wpF P ops Q fuel F listed a w→wpF P ops Q fuel G listed a w
 | 0,_,_,_,_,_,_,h=>h
 | fuel+1,F,G,_,_,_,hs,h=>⟨h.1,fun j hj=>wpOp_mono (fun a' w' h'=>⟨fun x hx=>h'.1 x (hs x hx),wpF_mono fuel _ _ _ a' w' (fun x hx=>by
   rw [List.mem_filter] at hx ⊢; exact ⟨hs x hx.1,hx.2⟩) h'.2⟩) (h.2 j hj)⟩
theorem wpF_true (i:Nat):∀ (fuel:Nat) (F:List Fact) (listed:Array Bool) (a:Act) (w:World),wpF P ops Q fuel F listed a w→wpF P ops Q fuel ((i,fun _=>True) :: F) listed a w
 | 0,_,_,_,_,h=>h
 | fuel+1,F,_,_,_,h=>⟨h.1,fun j hj=>wpOp_mono (fun a' w' h'=>⟨fun x hx=>by
   rcases List.mem_cons.1 hx with rfl | hx
   ·exact fun _=>trivial
   ·exact h'.1 x hx,by
   rw [List.filter_cons]
   split
   ·exact wpF_true i fuel _ _ a' w' h'.2
   ·exact h'.2⟩) (h.2 j hj)⟩
theorem closed_set {listed:Array Bool} (hc:Closed ops listed) {j:Nat} (hj:j∈Region.ready .any ops.toArray listed):Closed ops (listed.setIfInBounds j true):=by
 obtain ⟨_,o,ho,hall⟩:=mem_ready.1 hj
 intro k ok hk hl i hi
 by_cases e:j=k
 ·subst e
  rw [show ops.toArray[j]?=ops[j]? by simp] at ho
  rw [ho] at hk; injection hk with hk; subst hk
  obtain ⟨x,hx,hb,rfl⟩:=predsOf_mem hi
  exact getD_set_true (hall x hx hb)
 ·rw [getD_set_ne false e] at hl
  exact getD_set_true (hc k ok hk hl i hi)
theorem wpF_first {i:Nat} {oi:Oper} {v:Value} {s:World→Prop} (hi:ops[i]?=some oi) (hsel:∀ (j:Nat) (o:Oper) cs b,ops.toArray[j]?=some o→o.op≠.select cs b)
  (hQ:∀ c a w,Q (.panic c) (a.put oi.dst v) w→Q (.panic c) a w) :
  ∀ (fuel:Nat) (F:List Fact) (listed:Array Bool) (a:Act) (w:World),Closed ops listed →
   (∀ j oj,ops.toArray[j]?=some oj→j≠i→listed.getD j true=false→(∀ e∈oj.after,Region.binds .any e=true→e.on≠i)→oi.apart ops.toArray oj=true) →
   i∈Region.ready .any ops.toArray listed→YieldsIf P ops.toArray s oi v a→s w→(∀ x∈F,x.2 w) →
   wpF P ops Q fuel ((i,s) :: F) (listed.setIfInBounds i true) (a.put oi.dst v) w→wpF P ops Q (fuel+1) F listed a w:=by
 have hi':ops.toArray[i]?=some oi:=by simpa using hi
 intro fuel
 induction fuel with
 | zero =>
  intro F listed a w _ _ hr hy hs hF H
  refine ⟨fun h=>(by rw [h] at hr; cases hr),fun j hj=>?_⟩
  by_cases hji:j=i
  ·subst hji
   exact hy.wpOp hi' hs ⟨fun x hx _=>hF x hx,H⟩
  ·have:=ready_mono hj hji
   rw [H.1] at this
   cases this
 | succ fuel ih =>
  intro F listed a w hc hfree hr hy hs hF H
  refine ⟨fun h=>(by rw [h] at hr; cases hr),fun j hj=>?_⟩
  by_cases hji:j=i
  ·subst hji
   refine hy.wpOp hi' hs ⟨fun x hx _=>hF x hx,wpF_mono _ _ _ _ _ _ (fun x hx=>List.mem_cons_of_mem _ (List.mem_filter.1 hx).1) H⟩
  ·have h1:=H.2 j (ready_mono hj hji)
   obtain ⟨hjun,oj,hoj,hall⟩:=mem_ready.1 hj
   have hiun:listed.getD i false=false:=by
    have h0:=(mem_ready.1 hr).1
    rcases Nat.lt_or_ge i listed.size with h' | h'
    ·simp [h'] at h0 ⊢; exact h0
    ·simp [Array.getElem?_eq_none h']
   have hnot:∀ e∈oj.after,Region.binds .any e=true→e.on≠i:=fun e he hb heq=>by
    have h2:=hall e he hb
    rw [heq,hiun] at h2; cases h2
   have hoj':ops[j]?=some oj:=by simpa using hoj
   have hanc:isAnc (masks ops []) i j=false:=isAnc_false hc hoj' (fun k hk=>by
    obtain ⟨e,he,hb,rfl⟩:=predsOf_mem hk; exact hall e he hb) hiun
   have h2:=wpOp_putIf hoj (hfree j oj hoj hji hjun hnot) (fun cs b=>hsel i oi cs b hi') (fun cs b=>hsel j oj cs b hoj) hQ hy h1
   have hfree':∀ k ok,ops.toArray[k]?=some ok→k≠i→(listed.setIfInBounds j true).getD k true=false →
     (∀ e∈ok.after,Region.binds .any e=true→e.on≠i)→oi.apart ops.toArray ok=true:=fun k ok hk hki hun hno=>by
    refine hfree k ok hk hki ?_ hno
    by_cases hjk:j=k
    ·subst hjk; exact hjun
    ·rw [getD_set_ne true hjk] at hun; exact hun
   refine wpOp_mono (fun a' w' h3=>?_) h2
   obtain ⟨hy',hall',hrest⟩:=h3
   have hs':=hall' (i,s) (by simp) hanc
   refine ⟨fun x hx=>hall' x (List.mem_cons_of_mem _ hx),ih _ (listed.setIfInBounds j true) a' w' (closed_set hc hj) hfree' (ready_mono hr (Ne.symm hji)) hy' hs'
    (fun x hx=>by
     rw [List.mem_filter] at hx
     exact hall' x (List.mem_cons_of_mem _ hx.1) (by simpa using hx.2)) ?_⟩
   rw [Array.setIfInBounds_comm _ _ hji]
   rw [List.filter_cons,if_pos (by simp [hanc])] at hrest
   exact hrest
end
def bitsOk (m:Nat):List Nat→Bool
 | []=>true
 | i :: l=>cond (m.testBit i) (bitsOk m l) false
def readyM (m:Nat):List Oper→Nat→List Nat
 | [],_=>[]
 | o :: l,j=>cond (m.testBit j) (readyM m l (j+1)) (cond (bitsOk m (predsOf o)) (j :: readyM m l (j+1)) (readyM m l (j+1)))
def waitsFor (i:Nat):List Nat→Bool
 | []=>false
 | k :: l=>cond (Nat.beq k i) true (waitsFor i l)
def freeM (ops:List Oper) (m:Nat) (oi:Oper) (i:Nat):List Oper→Nat→Bool
 | [],_=>true
 | o :: l,j=>cond (cond (Nat.beq j i) true (cond (m.testBit j) true (cond (waitsFor i (predsOf o)) true (oi.apart ops.toArray o)))) (freeM ops m oi i l (j+1)) false
def isSelect (o:Oper):Bool:=match o.op with | .select _ _=>true | _=>false
def noSel:List Oper→Bool
 | []=>true
 | o :: l=>cond (isSelect o) false (noSel l)
def takeable (o:Oper):Bool:=match o.op with
 | .move _ | .assign _ | .pick _ _ _ | .binOp _ _ _ _ _ | .unOp _ _ _ | .makeInterface _ _ | .makeFunc _ _ _ | .fieldAddr _ _ _ | .extract _ _ | .nilCheck _
 | .load _ _ | .indexAddr _ _ _ | .index _ _ _ | .field _ _ _ | .lookup _ _ _ _ | .slice _ _ _ _ _ | .entry _ | .typeAssert _ _ _ _ | .convert _ _ _ | .build _ _=>true
 | .call c=>(match c.callee with | .builtin .len | .builtin .max | .builtin .min=>true | _=>false)
 | _=>false
def firstOf (ops:List Oper):List Nat→Option Nat
 | []=>none
 | i :: l=>match ops[i]? with | some o=>cond (takeable o) (some i) (firstOf ops l) | none=>firstOf ops l
def AllF (ms:List Nat) (j:Nat) (w:World) (rest:Prop):List Fact→Prop
 | []=>rest
 | (i,s) :: F=>cond (isAnc ms i j) (AllF ms j w rest F) (s w∧AllF ms j w rest F)
def filtF (ms:List Nat) (j:Nat):List Fact→List Fact
 | []=>[]
 | (i,s) :: F=>cond (isAnc ms i j) (filtF ms j F) ((i,s) :: filtF ms j F)
def allE (f:Nat→Prop):List Nat→Prop
 | []=>True
 | [x]=>f x
 | x :: y :: l=>f x∧allE f (y :: l)
def setB (m j:Nat):Nat:=m ||| (1 <<< j)
def da (P:Program) (go:Nat→Bool) (td:Nat→TD) (n:Nat) (ops:List Oper) (ms:List Nat):Nat→Nat→List Fact→Env→World→(Env→World→Prop)→Prop
 | 0,m,_,ρ,w,K=>match readyM m ops 0 with | []=>K ρ w | _=>False
 | fuel+1,m,F,ρ,w,K=>match readyM m ops 0 with
  | []=>K ρ w
  | j :: r=>match firstOf ops (j :: r) with
   | some i=>(match ops[i]? with
    | none=>False
    | some o=>cond (cond (freeM ops m o i ops 0) (okDst n o.dst) false) (guardE ops ρ o.guard
     (fun ρ=>match pureVal P td ρ o.op with
      | some v=>postT td o v fun v=>da P go td n ops ms fuel (setB m i) F (putE ρ o.dst v) w K
      | none=>match condE P td ρ o.op with
       | some g=>g fun v=>onT (tdOf td o) v fun v=>da P go td n ops ms fuel (setB m i) F (putE ρ o.dst v) w K
       | none=>match readE P ρ o.type o.op with
        | some s=>s.rd P w fun v=>onT (tdOf td o) v fun v=>da P go td n ops ms fuel (setB m i) ((i,s.fact P v) :: F) (putE ρ o.dst v) w K
        | none=>False)
     (fun ρ=>da P go td n ops ms fuel (setB m i) F (putE ρ o.dst undef) w K)) False)
   | none=>allE (fun j=>match ops[j]? with
    | none=>False
    | some o=>cond (okDst n o.dst) (guardE ops ρ o.guard
     (fun ρ=>effE P go td ρ o w fun v w'=>AllF ms j w' (da P go td n ops ms fuel (setB m j) (filtF ms j F) (putE ρ o.dst v) w' K) F)
     (fun ρ=>da P go td n ops ms fuel (setB m j) (filtF ms j F) (putE ρ o.dst undef) w K)) False) (j :: r)
structure LM (ops:List Oper) (listed:Array Bool) (m:Nat):Prop where
 size:listed.size=ops.length
 get:∀ i,listed.getD i false=m.testBit i
theorem bitsOk_iff {m:Nat}:∀ (l:List Nat),bitsOk m l=true↔∀ i∈l,m.testBit i=true
 | []=>by simp [bitsOk]
 | i :: l=>by
  unfold bitsOk
  cases h:m.testBit i <;> simp [h,bitsOk_iff l]
theorem mem_readyM {m:Nat} {j:Nat}:∀ (l:List Oper) (k:Nat),j∈readyM m l k↔k≤j∧m.testBit j=false∧∃ o,l[j - k]?=some o∧∀ i∈predsOf o,m.testBit i=true
 | [],k=>by simp [readyM]
 | o :: l,k=>by
  unfold readyM
  have ih:=mem_readyM l (k+1) (m:=m) (j:=j)
  have key:∀ (hk:k+1≤j),(o :: l)[j - k]?=l[j - (k+1)]?:=fun hk=>by
   rw [show j - k=(j - (k+1))+1 by omega]; rfl
  cases hb:m.testBit k with
  | true =>
   simp only [cond]
   rw [ih]
   constructor
   ·rintro ⟨h1,h2,h3⟩; exact ⟨by omega,h2,by rw [key h1]; exact h3⟩
   ·rintro ⟨h1,h2,h3⟩
    have:k≠j:=fun e=>by subst e; rw [hb] at h2; cases h2
    have h1':k+1≤j:=by omega
    exact ⟨h1',h2,by rw [key h1'] at h3; exact h3⟩
  | false =>
   simp only [cond]
   cases hp:bitsOk m (predsOf o) with
   | true =>
    simp only [List.mem_cons]
    rw [ih]
    rw [bitsOk_iff] at hp
    constructor
    ·rintro (rfl | ⟨h1,h2,h3⟩)
     ·exact ⟨Nat.le_refl _,hb,o,by simp,hp⟩
     ·exact ⟨by omega,h2,by rw [key h1]; exact h3⟩
    ·rintro ⟨h1,h2,h3⟩
     by_cases e:j=k
     ·exact .inl e
     ·have h1':k+1≤j:=by omega
      exact .inr ⟨h1',h2,by rw [key h1'] at h3; exact h3⟩
   | false =>
    simp only
    rw [ih]
    constructor
    ·rintro ⟨h1,h2,h3⟩; exact ⟨by omega,h2,by rw [key h1]; exact h3⟩
    ·rintro ⟨h1,h2,h3⟩
     by_cases e:j=k
     ·subst e
      obtain ⟨o',ho',hall⟩:=h3
      simp at ho'
      subst ho'
      have:=(bitsOk_iff _).2 hall
      rw [hp] at this; cases this
     ·have h1':k+1≤j:=by omega
      exact ⟨h1',h2,by rw [key h1'] at h3; exact h3⟩
section
variable {P:Program} {go:Nat→Bool} {td:Nat→TD} {n:Nat} {ops:List Oper} {listed:Array Bool} {m:Nat}
theorem LM.getT (h:LM ops listed m) {j:Nat} (hj:j<ops.length):listed.getD j true=m.testBit j:=by
 rw [← h.get]
 have:j<listed.size:=by rw [h.size]; exact hj
 simp [this]
theorem LM.ready (h:LM ops listed m) (j:Nat):j∈readyM m ops 0↔j∈Region.ready .any ops.toArray listed:=by
 rw [mem_readyM,mem_ready]
 constructor
 ·rintro ⟨_,h2,o,ho,hall⟩
  have hlt:j<ops.length:=(List.getElem?_eq_some_iff.1 ho).1
  refine ⟨by rw [h.getT hlt]; exact h2,o,by simpa using ho,fun e he hb=>?_⟩
  rw [h.get]; exact hall _ (mem_predsOf he hb)
 ·rintro ⟨h2,o,ho,hall⟩
  have ho':ops[j]?=some o:=by simpa using ho
  have hlt:j<ops.length:=(List.getElem?_eq_some_iff.1 ho').1
  refine ⟨Nat.zero_le _,by rw [← h.getT hlt]; exact h2,o,by simpa using ho',fun i hi=>?_⟩
  obtain ⟨e,he,hb,rfl⟩:=predsOf_mem hi
  rw [← h.get]; exact hall e he hb
theorem LM.set (h:LM ops listed m) {j:Nat} (hj:j<ops.length):LM ops (listed.setIfInBounds j true) (setB m j):=by
 refine ⟨by simp [h.size],fun i=>?_⟩
 unfold setB
 rw [Nat.testBit_or,Nat.one_shiftLeft,Nat.testBit_two_pow]
 by_cases e:j=i
 ·subst e
  have:j<listed.size:=by rw [h.size]; exact hj
  simp [this]
 ·rw [getD_set_ne false e,h.get]; simp [e]
theorem waitsFor_iff {i:Nat}:∀ (l:List Nat),waitsFor i l=true↔i∈l
 | []=>by simp [waitsFor]
 | k :: l=>by
  unfold waitsFor
  cases h:Nat.beq k i with
  | true=>have:=Nat.eq_of_beq_eq_true h; subst this; simp
  | false =>
   have:i≠k:=fun e=>by subst e; rw [Nat.beq_refl] at h; cases h
   simp [waitsFor_iff l,this]
theorem freeM_spec {oi:Oper} {i:Nat}:∀ (l:List Oper) (k:Nat),freeM ops m oi i l k=true→∀ j oj,l[j]?=some oj→k+j≠i→m.testBit (k+j)=false→i ∉ predsOf oj→oi.apart ops.toArray oj=true
 | [],_,_,j,oj,hj,_,_,_=>by simp at hj
 | o :: l,k,h,j,oj,hj,hne,hb,hw=>by
  unfold freeM at h
  cases j with
  | zero =>
   simp at hj
   subst hj
   simp only [Nat.add_zero] at hne hb
   have e1:Nat.beq k i=false:=by
    cases e:Nat.beq k i with
    | false=>rfl
    | true=>exact absurd (Nat.eq_of_beq_eq_true e) hne
   have e2:waitsFor i (predsOf o)=false:=by
    cases e:waitsFor i (predsOf o) with
    | false=>rfl
    | true=>exact absurd ((waitsFor_iff _).1 e) hw
   rw [e1,hb,e2] at h
   simp only [cond] at h
   cases ha:oi.apart ops.toArray o with
   | true=>rfl
   | false=>rw [ha] at h; cases h
  | succ j =>
   have h':freeM ops m oi i l (k+1)=true:=by
    revert h
    cases cond (Nat.beq k i) true (cond (m.testBit k) true (cond (waitsFor i (predsOf o)) true (oi.apart ops.toArray o))) <;> simp
   exact freeM_spec l (k+1) h' j oj (by simpa using hj) (by omega) (by rw [show k+1+j=k+(j+1) by omega]; exact hb) hw
theorem noSel_spec:∀ (l:List Oper),noSel l=true→∀ (j:Nat) (o:Oper) cs b,l[j]?=some o→o.op≠.select cs b
 | [],_,j,o,cs,b,h=>by simp at h
 | o' :: l,hn,j,o,cs,b,h=>by
  unfold noSel at hn
  cases hs:isSelect o' with
  | true=>rw [hs] at hn; cases hn
  | false =>
   rw [hs] at hn
   cases j with
   | zero=>simp at h; subst h; intro e; simp [isSelect,e] at hs
   | succ j=>exact noSel_spec l hn j o cs b (by simpa using h)
theorem AllF_spec {ms:List Nat} {j:Nat} {w:World} {rest:Prop}:∀ (F:List Fact),AllF ms j w rest F→rest∧∀ x∈F,isAnc ms x.1 j=false→x.2 w
 | [],h=>⟨h,by simp⟩
 | (i,s) :: F,h=>by
  unfold AllF at h
  cases ha:isAnc ms i j with
  | true =>
   rw [ha] at h
   obtain ⟨h1,h2⟩:=AllF_spec F h
   refine ⟨h1,fun x hx hxa=>?_⟩
   rcases List.mem_cons.1 hx with rfl | hx
   ·rw [ha] at hxa; cases hxa
   ·exact h2 x hx hxa
  | false =>
   rw [ha] at h
   obtain ⟨h1,h2⟩:=AllF_spec F h.2
   refine ⟨h1,fun x hx hxa=>?_⟩
   rcases List.mem_cons.1 hx with rfl | hx
   ·exact h.1
   ·exact h2 x hx hxa
theorem filtF_eq {ms:List Nat} {j:Nat}:∀ (F:List Fact),filtF ms j F=F.filter fun x => !isAnc ms x.1 j
 | []=>rfl
 | (i,s) :: F=>by
  unfold filtF
  rw [List.filter_cons,filtF_eq F]
  cases h:isAnc ms i j <;> simp
theorem allE_spec {f:Nat→Prop}:∀ (l:List Nat),allE f l→∀ j∈l,f j
 | [],_,j,hj=>by cases hj
 | [x],h,j,hj=>by simp at hj; subst hj; exact h
 | x :: y :: l,h,j,hj=>by
  rcases List.mem_cons.1 hj with rfl | hj
  ·exact h.1
  ·exact allE_spec (y :: l) h.2 j hj
theorem firstOf_spec {i:Nat}:∀ (l:List Nat),firstOf ops l=some i→i∈l
 | [],h=>by cases h
 | k :: l,h=>by
  unfold firstOf at h
  split at h
  ·rename_i o ho
   cases ht:takeable o with
   | true=>rw [ht] at h; injection h with h; subst h; simp
   | false=>rw [ht] at h; exact List.mem_cons_of_mem _ (firstOf_spec l h)
  ·exact List.mem_cons_of_mem _ (firstOf_spec l h)
theorem da_sound {ds:List Deferred} (hgo:GoFn P go) (hns:noSel ops=true) {K:Env→World→Prop} {Q:Exit→Act→World→Prop} (hQ:∀ c a a' w,Q (.panic c) a w→Q (.panic c) a' w)
  (hK:∀ a ρ w,Rel ds n a ρ→K ρ w→Q .normal a w):∀ (fuel m:Nat) (F:List Fact) (listed:Array Bool) (a:Act) (ρ:Env) (w:World),LM ops listed m→Closed ops listed→Rel ds n a ρ→(∀ x∈F,x.2 w) →
   da P go td n ops (masks ops []) fuel m F ρ w K→wpF P ops Q fuel F listed a w
 | 0,m,F,listed,a,ρ,w,hl,hc,hr,hF,h=>by
  unfold da at h
  split at h
  ·rename_i hre
   refine ⟨?_,hK _ _ _ hr h⟩
   rw [List.eq_nil_iff_forall_not_mem]
   intro j hj
   have:=(hl.ready j).2 hj
   rw [hre] at this; cases this
  ·exact h.elim
 | fuel+1,m,F,listed,a,ρ,w,hl,hc,hr,hF,h=>by
  have hsel:∀ (j:Nat) (o:Oper) cs b,ops.toArray[j]?=some o→o.op≠.select cs b:=fun j o cs b ho=>noSel_spec ops hns j o cs b (by simpa using ho)
  unfold da at h
  split at h
  ·rename_i hre
   have hnil:Region.ready .any ops.toArray listed=[]:=by
    rw [List.eq_nil_iff_forall_not_mem]
    intro j hj
    have:=(hl.ready j).2 hj
    rw [hre] at this; cases this
   exact ⟨fun _=>hK _ _ _ hr h,by rw [hnil]; simp⟩
  ·rename_i j r hre
   have hne:Region.ready .any ops.toArray listed≠[]:=fun e=>by
    have:j∈readyM m ops 0:=by rw [hre]; simp
    rw [hl.ready,e] at this; cases this
   split at h
   ·rename_i i hfi
    have hir:i∈readyM m ops 0:=by rw [hre]; exact firstOf_spec _ hfi
    split at h
    ·exact h.elim
    ·rename_i o ho
     have hlt:i<ops.length:=(List.getElem?_eq_some_iff.1 ho).1
     cases hfree:freeM ops m o i ops 0 with
     | false=>rw [hfree] at h; exact h.elim
     | true =>
      cases hd:okDst n o.dst with
      | false=>rw [hfree,hd] at h; exact h.elim
      | true =>
       rw [hfree,hd] at h
       simp only [cond] at h
       have hfr:∀ j oj,ops.toArray[j]?=some oj→j≠i→listed.getD j true=false→(∀ e∈oj.after,Region.binds .any e=true→e.on≠i)→o.apart ops.toArray oj=true:=by
        intro j oj hj hji hun hno
        have hj':ops[j]?=some oj:=by simpa using hj
        have hjl:j<ops.length:=(List.getElem?_eq_some_iff.1 hj').1
        refine freeM_spec ops 0 hfree j oj hj' (by omega) (by rw [Nat.zero_add,← hl.getT hjl]; exact hun) (fun hp=>?_)
        obtain ⟨e,he,hb,heq⟩:=predsOf_mem hp
        exact hno e he hb heq
       have hir':=(hl.ready i).1 hir
       have take:∀ (v:Value) (s:World→Prop),YieldsIf P ops.toArray s o v a→s w→(∀ ρ',Rel ds n (a.put o.dst v) ρ'→wpF P ops Q fuel ((i,s) :: F) (listed.setIfInBounds i true) (a.put o.dst v) w)→Rel ds n (a.put o.dst v) (putE ρ o.dst v)→wpF P ops Q (fuel+1) F listed a w :=
        fun v s hy hs H hrel=>wpF_first ho hsel (fun c a w hq=>hQ c _ _ w hq) fuel F listed a w hc hfr hir' hy hs hF (H _ hrel)
       rcases guardE_cases (P:=P) hr h with ⟨hw,h⟩ | ⟨hw,h⟩
       ·split at h
        ·rename_i v hv
         have h:=postT_of h
         refine take v (fun _=>True) (.inl ⟨hw,fun w _=>by rw [hr.eval]; exact pureVal_run hv w⟩) trivial (fun _ _=>wpF_true i _ _ _ _ _ ?_) (hr.put hd v)
         exact da_sound hgo hns hQ hK fuel _ F _ _ _ w (hl.set hlt) (closed_set hc hir') (hr.put hd v) hF h
        ·split at h
         ·rename_i g hg
          obtain ⟨v,hv,h⟩:=condE_run hg h
          have h:=onT_of (f:=fun v=>da P go td n ops (masks ops []) fuel (setB m i) F (putE ρ o.dst v) w K) _ h
          refine take v (fun _=>True) (.inl ⟨hw,fun w _=>by rw [hr.eval]; exact hv w⟩) trivial (fun _ _=>wpF_true i _ _ _ _ _ ?_) (hr.put hd _)
          exact da_sound hgo hns hQ hK fuel _ F _ _ _ w (hl.set hlt) (closed_set hc hir') (hr.put hd _) hF h
         ·split at h
          ·rename_i s hs
           obtain ⟨v,hv,h⟩:=rd_of h
           have h:=onT_of (f:=fun v=>da P go td n ops (masks ops []) fuel (setB m i) ((i,s.fact P v) :: F) (putE ρ o.dst v) w K) _ h
           refine take v (s.fact P v) (.inl ⟨hw,fun w hw'=>by rw [hr.eval]; exact fact_run hs rfl hw'⟩) hv (fun _ _=>?_) (hr.put hd v)
           refine da_sound hgo hns hQ hK fuel _ _ _ _ _ w (hl.set hlt) (closed_set hc hir') (hr.put hd v) (fun x hx=>?_) h
           rcases List.mem_cons.1 hx with rfl | hx
           ·exact hv
           ·exact hF x hx
          ·exact h.elim
       ·refine take undef (fun _=>True) (.inr ⟨hw,rfl⟩) trivial (fun _ _=>wpF_true i _ _ _ _ _ ?_) (hr.put hd _)
        exact da_sound hgo hns hQ hK fuel _ F _ _ _ w (hl.set hlt) (closed_set hc hir') (hr.put hd _) hF h
   ·refine ⟨fun e=>absurd e hne,fun j' hj'=>?_⟩
    have hjm:=(hl.ready j').2 hj'
    rw [hre] at hjm
    have h:=allE_spec _ h j' hjm
    split at h
    ·exact h.elim
    ·rename_i o ho
     have hlt:j'<ops.length:=(List.getElem?_eq_some_iff.1 ho).1
     cases hd:okDst n o.dst with
     | false=>rw [hd] at h; exact h.elim
     | true =>
      rw [hd] at h
      simp only [cond] at h
      have ho':ops.toArray[j']?=some o:=by simpa using ho
      unfold wpOp
      simp only [ho']
      rcases guardE_cases (P:=P) hr h with ⟨hw,h⟩ | ⟨hw,h⟩
      ·rw [if_pos hw]
       refine .inl (effE_sound hgo hr h fun v w' h'=>?_)
       obtain ⟨h1,h2⟩:=AllF_spec _ h'
       refine ⟨h2,?_⟩
       rw [filtF_eq] at h1
       exact da_sound hgo hns hQ hK fuel _ _ _ _ _ w' (hl.set hlt) (closed_set hc hj') (hr.put hd v) (fun x hx=>by
        rw [List.mem_filter] at hx; exact h2 x hx.1 (by simpa using hx.2)) h1
      ·rw [if_neg (by simp [hw])]
       refine ⟨fun x hx _=>hF x hx,?_⟩
       rw [filtF_eq] at h
       exact da_sound hgo hns hQ hK fuel _ _ _ _ _ w (hl.set hlt) (closed_set hc hj') (hr.put hd _) (fun x hx=>hF x (List.mem_filter.1 hx).1) h
end
end Sy
end
section
namespace Sy
inductive It where
 | c (p:List Bool) (c:Code)
 | b (id:Nat)
 | l (p:List Bool) (c:Code)
 | s (c:Code)
def It.item:It→Item
 | .c _ x=>.code x
 | .b id=>.inBlock id
 | .l _ x=>.inLoop x
 | .s x=>.inScope x
def childOf:Bool→Code→Code
 | b,.seq x y=>cond b y x
 | b,.cond _ x y=>cond b y x
 | _,.block _ x=>x
 | _,.loop x=>x
 | _,.scope x=>x
 | _,_=>.skip
def codeAt (body:Code):List Bool→Code
 | []=>body
 | b :: p=>childOf b (codeAt body p)
def contOf (body:Code):List Bool→List It
 | []=>[]
 | b :: p=>match codeAt body p with
  | .seq _ y=>cond b (contOf body p) (.c (true :: p) y :: contOf body p)
  | .block id _=>.b id :: contOf body p
  | .loop x=>.l p x :: contOf body p
  | .scope x=>.s x :: contOf body p
  | _=>contOf body p
def segTodo (body:Code) (p:List Bool):List It:=match codeAt body p with
 | .loop x=>.c (false :: p) x :: .l p x :: contOf body p
 | c=>.c p c :: contOf body p
def exitIt (id:Nat):List It→Option (List It)
 | []=>none
 | .b id' :: k=>cond (Nat.beq id' id) (some k) (exitIt id k)
 | _ :: k=>exitIt id k
def eqP:List Bool→List Bool→Bool
 | [],[]=>true
 | true :: p,true :: q=>eqP p q
 | false :: p,false :: q=>eqP p q
 | _,_=>false
theorem eqP_eq:∀ {p q:List Bool},eqP p q=true→p=q
 | [],[],_=>rfl
 | true :: p,true :: q,h=>by rw [eqP_eq (p:=p) (q:=q) h]
 | false :: p,false :: q,h=>by rw [eqP_eq (p:=p) (q:=q) h]
 | [],true :: _,h=>by cases h
 | [],false :: _,h=>by cases h
 | true :: _,[],h=>by cases h
 | false :: _,[],h=>by cases h
 | true :: _,false :: _,h=>by cases h
 | false :: _,true :: _,h=>by cases h
abbrev Cut:=List Bool × (Env→World→Prop)
def cutAt (p:List Bool):List Cut→Option (Env→World→Prop)
 | []=>none
 | (q,J) :: l=>cond (eqP q p) (some J) (cutAt p l)
theorem cutAt_mem {p:List Bool} {J:Env→World→Prop}:∀ {l:List Cut},cutAt p l=some J→(p,J)∈l
 | [],h=>by cases h
 | (q,J') :: l,h=>by
  unfold cutAt at h
  cases he:eqP q p with
  | true=>rw [he] at h; injection h with h; subst h; rw [eqP_eq he]; simp
  | false=>rw [he] at h; exact List.mem_cons_of_mem _ (cutAt_mem h)
def onIf (v:Value) (x y:Prop):Prop:=match v with | .bool b=>Ifm b x y | _=>False
section
variable (P:Program) (go:Nat→Bool) (td:Nat→TD) (y:Bool) (n:Nat) (cuts:List Cut) (Q:Exit→Env→World→Prop)
def evC (rec_:List It→Env→World→Prop) (p:List Bool) (c:Code) (k:List It) (ρ:Env) (w:World):Prop :=
 match c with
 | .skip=>rec_ k ρ w
 | .label _=>rec_ k ρ w
 | .region _ ops draw=>cond draw
  (cond (noSel ops.toList) (da P go td n ops.toList (masks ops.toList []) ops.toList.length 0 [] ρ w.drew (fun ρ w=>rec_ k ρ w)) False)
  (dl P go td y n ops.toList ops.toList ρ w (fun ρ w=>rec_ k ρ w))
 | .seq x y=>rec_ (.c (false :: p) x :: .c (true :: p) y :: k) ρ w
 | .cond t x y=>onIf (evE ρ t) (rec_ (.c (false :: p) x :: k) ρ w) (rec_ (.c (true :: p) y :: k) ρ w)
 | .block id x=>rec_ (.c (false :: p) x :: .b id :: k) ρ w
 | .scope x=>rec_ (.c (false :: p) x :: .s x :: k) ρ w
 | .exit id=>(match exitIt id k with | some k'=>rec_ k' ρ w | none=>Q (.exit id) ρ w)
 | .ret=>Q .ret ρ w
 | _=>False
def ev:Nat→List It→Env→World→Prop
 | 0,_,_,_=>False
 | f+1,todo,ρ,w=>match todo with
  | []=>Q .normal ρ w
  | .b _ :: k=>ev f k ρ w
  | .s _ :: k=>ev f k ρ w
  | .l p _ :: k=>(match cutAt p cuts with | some J=>J ρ w | none=>False)
  | .c p c :: k=>(match cutAt p cuts with
   | some J=>J ρ w
   | none=>evC P go td y n Q (ev f) p c k ρ w)
def evS (f:Nat) (body:Code) (p:List Bool) (ρ:Env) (w:World):Prop:=match codeAt body p with
 | .loop x=>ev P go td y n cuts Q f (.c (false :: p) x :: .l p x :: contOf body p) ρ w
 | c=>evC P go td y n Q (ev P go td y n cuts Q f) p c (contOf body p) ρ w
end
inductive Ok (body:Code):List It→Prop where
 | nil:Ok body []
 | c {p:List Bool} {c:Code} {k:List It} (h:c=codeAt body p) (hk:k=contOf body p) (ho:Ok body k):Ok body (.c p c :: k)
 | l {p:List Bool} {x:Code} {k:List It} (h:codeAt body p=.loop x) (hk:k=contOf body p) (ho:Ok body k):Ok body (.l p x :: k)
 | b {id:Nat} {k:List It} (ho:Ok body k):Ok body (.b id :: k)
 | s {x:Code} {k:List It} (ho:Ok body k):Ok body (.s x :: k)
theorem contOf_seq_false {body x y:Code} {p:List Bool} (h:codeAt body p=.seq x y):contOf body (false :: p)=.c (true :: p) y :: contOf body p:=by simp [contOf,h]
theorem contOf_seq_true {body x y:Code} {p:List Bool} (h:codeAt body p=.seq x y):contOf body (true :: p)=contOf body p:=by simp [contOf,h]
theorem contOf_cond {body x y:Code} {t:Operand} {p:List Bool} (b:Bool) (h:codeAt body p=.cond t x y):contOf body (b :: p)=contOf body p:=by simp [contOf,h]
theorem contOf_block {body x:Code} {id:Nat} {p:List Bool} (b:Bool) (h:codeAt body p=.block id x):contOf body (b :: p)=.b id :: contOf body p:=by simp [contOf,h]
theorem contOf_loop {body x:Code} {p:List Bool} (b:Bool) (h:codeAt body p=.loop x):contOf body (b :: p)=.l p x :: contOf body p:=by simp [contOf,h]
theorem contOf_scope {body x:Code} {p:List Bool} (b:Bool) (h:codeAt body p=.scope x):contOf body (b :: p)=.s x :: contOf body p:=by simp [contOf,h]
theorem Ok_contOf (body:Code):∀ p,Ok body (contOf body p)
 | []=>.nil
 | b :: p=>by
  have ih:=Ok_contOf body p
  cases h:codeAt body p with
  | seq x y =>
   cases b with
   | false=>rw [contOf_seq_false h]; exact .c (by simp [codeAt,h,childOf]) (contOf_seq_true h).symm ih
   | true=>rw [contOf_seq_true h]; exact ih
  | cond t x y=>rw [contOf_cond b h]; exact ih
  | block id x=>rw [contOf_block b h]; exact .b ih
  | loop x=>rw [contOf_loop b h]; exact .l h rfl ih
  | scope x=>rw [contOf_scope b h]; exact .s ih
  | skip=>simp only [contOf,h]; exact ih
  | region _ _ _=>simp only [contOf,h]; exact ih
  | rangeFunc _ _ _ _=>simp only [contOf,h]; exact ih
  | exit _=>simp only [contOf,h]; exact ih
  | label _=>simp only [contOf,h]; exact ih
  | goto _=>simp only [contOf,h]; exact ih
  | ret=>simp only [contOf,h]; exact ih
  | refuse _=>simp only [contOf,h]; exact ih
theorem Ok.tail {body:Code} {x:It} {k:List It} (h:Ok body (x :: k)):Ok body k:=by cases h <;> assumption
theorem Ok_exit {body:Code} {id:Nat}:∀ {k k':List It},Ok body k→exitIt id k=some k'→Ok body k'
 | [],_,_,h=>by cases h
 | Sy.It.b id' :: k,k',ho,h=>by
  unfold exitIt at h
  cases he:Nat.beq id' id with
  | true=>rw [he] at h; injection h with h; subst h; exact ho.tail
  | false=>rw [he] at h; exact Ok_exit ho.tail h
 | Sy.It.c p c :: k,k',ho,h=>Ok_exit ho.tail h
 | Sy.It.l p c :: k,k',ho,h=>Ok_exit ho.tail h
 | Sy.It.s c :: k,k',ho,h=>Ok_exit ho.tail h
theorem exitIt_some {id:Nat} {k0:List Item}:∀ {k k':List It},exitIt id k=some k'→exitTo id (k.map It.item++k0)=some (k'.map It.item++k0)
 | [],_,h=>by cases h
 | .b id' :: k,k',h=>by
  unfold exitIt at h
  cases he:Nat.beq id' id with
  | true =>
   rw [he] at h; injection h with h; subst h
   have:=Nat.eq_of_beq_eq_true he
   simp [It.item,exitTo,this]
  | false =>
   rw [he] at h
   have hne:(id' == id)=false:=by
    cases e:id' == id with
    | false=>rfl
    | true=>have:=eq_of_beq e; subst this; rw [Nat.beq_refl] at he; cases he
   simpa [It.item,exitTo,hne] using exitIt_some h
 | .c p c :: k,k',h=>by simpa [It.item,exitTo] using exitIt_some (k:=k) h
 | .l p c :: k,k',h=>by simpa [It.item,exitTo] using exitIt_some (k:=k) h
 | .s c :: k,k',h=>by simpa [It.item,exitTo] using exitIt_some (k:=k) h
theorem exitIt_none {id:Nat} {k0:List Item}:∀ {k:List It},exitIt id k=none→exitTo id (k.map It.item++k0)=exitTo id k0
 | [],_=>rfl
 | .b id' :: k,h=>by
  unfold exitIt at h
  cases he:Nat.beq id' id with
  | true=>rw [he] at h; cases h
  | false =>
   rw [he] at h
   have hne:(id' == id)=false:=by
    cases e:id' == id with
    | false=>rfl
    | true=>have:=eq_of_beq e; subst this; rw [Nat.beq_refl] at he; cases he
   simpa [It.item,exitTo,hne] using exitIt_none h
 | .c p c :: k,h=>by simpa [It.item,exitTo] using exitIt_none (k:=k) h
 | .l p c :: k,h=>by simpa [It.item,exitTo] using exitIt_none (k:=k) h
 | .s c :: k,h=>by simpa [It.item,exitTo] using exitIt_none (k:=k) h
def ndC:Code→Bool
 | .region _ ops _=>ops.toList.all ndO
 | .seq x y=>ndC x && ndC y
 | .cond _ x y=>ndC x && ndC y
 | .block _ x=>ndC x
 | .loop x=>ndC x
 | .scope x=>ndC x
 | _=>true
theorem ndC_child {c:Code} (h:ndC c=true) (b:Bool):ndC (childOf b c)=true:=by
 cases c with
 | seq x y=>simp only [ndC,Bool.and_eq_true] at h; cases b <;> simp [childOf,h.1,h.2]
 | cond t x y=>simp only [ndC,Bool.and_eq_true] at h; cases b <;> simp [childOf,h.1,h.2]
 | block id x=>cases b <;> exact h
 | loop x=>cases b <;> exact h
 | scope x=>cases b <;> exact h
 | _=>cases b <;> rfl
theorem ndC_at {body:Code} (h:ndC body=true):∀ p,ndC (codeAt body p)=true
 | []=>h
 | b :: p=>ndC_child (ndC_at h p) b
section
variable {P:Program} {r:Option Nat} {ops:Array Oper} {Q:Exit→Act→World→Prop}
theorem any_in {md:Region.Mode} (hQ:∀ a w,¬ Q .outgrown a w) (hn:r=none∨ops.toList.all ndO=true):∀ (fuel:Nat) (listed:Array Bool) (a:Act) (w:World),wpAny P md ops Q fuel listed a w→wpAnyIn (fw r) 0 P md ops Q fuel listed a w
 | 0,_,_,_,h=>h
 | fuel+1,listed,a,w,h=>by
  refine ⟨h.1,fun i hi=>?_⟩
  have h:=h.2 i hi
  unfold wpOp at h
  unfold wpOpIn
  cases ho:ops[i]? with
  | none=>rw [ho] at h; exact any_in hQ hn fuel _ _ _ h
  | some o =>
   rw [ho] at h
   simp only at h ⊢
   have hm:o∈ops.toList:=by
    have:=Array.mem_of_getElem? ho
    simpa using this
   split at h
   ·rename_i hw
    rw [if_pos hw]
    rcases h with h | ⟨_,a',w',h⟩
    ·exact Oper.wpIn_mono (fun a w h=>any_in hQ hn fuel _ _ _ h) (oper_in (hn.imp id fun h=>List.all_eq_true.1 h o hm) h)
    ·exact absurd h (hQ a' w')
   ·rename_i hw
    rw [if_neg hw]
    exact ⟨fun f _=>fw_fn r f,any_in hQ hn fuel _ _ _ h⟩
end
section
variable {P:Program} {b:Frame} {a:Act} {k:List Item} {cs:List Frame} {w:World}
theorem stepR_scope {c:Code}:step P (lone (b.atR a (.code (.scope c) :: k)) cs w)=.next (lone (b.atR a (.code c :: .inScope c :: k)) cs w) :=
 step_lone_go (by simp [stepG,stepG.exec,Frame.atR])
theorem stepR_inScope {c:Code}:step P (lone (b.atR a (.inScope c :: k)) cs w)=.next (lone (b.atR a k) cs w) :=
 step_lone_go (by simp [stepG,stepG.exec,Frame.atR])
end
def Shed:List Deferred→World→World→Prop
 | [],w,w'=>w'=w
 | d :: ds,w,w'=>∃ r,d.target=.collected r∧w.heap[r]?=some (.deferred (some []))∧Shed ds (w.putObj r (.deferred none)) w'
def TW (z:Fr) (P:Program) (n:Nat) (todo:List It) (Q:Exit→Env→World→Prop) (ρ:Env) (w:World):Prop :=
 ∀ a,Rel z.ds n a ρ→∀ (b:Frame) (k:List Item) (cs:List Frame),b.roundOf=z.r→∃ e a' w' ρ' new w'',Rel (new++z.ds) n a' ρ'∧(Shed new w' w''∧(z.r=none∨new=[]))∧Q e ρ' w''∧ArrivesIn (Machine.fenced P Fence.wide) P (lone (b.atR a (todo.map It.item++k)) cs w) b k cs e a' w'
section
variable {z:Fr} {P:Program} {go:Nat→Bool} {td:Nat→TD} {y:Bool} {n:Nat} {cuts:List Cut} {Q:Exit→Env→World→Prop} {ρ:Env} {w:World}
theorem TW.step {todo todo':List It} {w':World} (h:TW z P n todo' Q ρ w')
  (hs:∀ a (b:Frame) (k:List Item) (cs:List Frame),Rel z.ds n a ρ→step P (lone (b.atR a (todo.map It.item++k)) cs w)=.next (lone (b.atR a (todo'.map It.item++k)) cs w')):TW z P n todo Q ρ w :=
 fun a hr b k cs hb=>let ⟨e,a',w'',ρ',new,w3,hr',hq,harr⟩:=h a hr b k cs hb
  ⟨e,a',w'',ρ',new,w3,hr',hq,harr.1,.of_steps (stepsIn_wide.2 (.one (hs a b k cs hr))) harr.2⟩
theorem TW.region {c:Code} {p:List Bool} {k:List It} (h:∀ a,Rel z.ds n a ρ→c.wpIn (fw z.r) 0 P (fun e a' w'=>e=.normal∧∃ ρ',Rel z.ds n a' ρ'∧TW z P n k Q ρ' w') a w):TW z P n (.c p c :: k) Q ρ w:=by
 intro a hr b k0 cs hb
 obtain ⟨e,a',w',⟨rfl,ρ',hr',ht⟩,harr⟩:=h a hr b (k.map It.item++k0) cs (by rw [fw_round,hb]) (fw_fn _ _) (fw_room _ _)
 rw [fw_fenced] at harr
 obtain ⟨e,a'',w'',ρ'',new,w3,hr'',hq,hq',harr'⟩:=ht a' hr' b k0 cs hb
 exact ⟨e,a'',w'',ρ'',new,w3,hr'',hq,hq',.of_steps harr harr'⟩
theorem evC_sound {body:Code} (hnd:z.r=none∨ndC body=true) (hgo:GoFn P go) (hm:P.follows .mixedOrders=true) {rec_:List It→Env→World→Prop}
  (hrec:∀ todo ρ w,Ok body todo→rec_ todo ρ w→TW z P n todo Q ρ w) {p:List Bool} {kk:List It} (hk:kk=contOf body p) (ho:Ok body kk)
  (h:evC P go td y n Q rec_ p (codeAt body p) kk ρ w):TW z P n (.c p (codeAt body p) :: kk) Q ρ w:=by
 unfold evC at h
 split at h
 ·rename_i hc; rw [hc]; exact TW.step (hrec _ _ _ ho h) fun a b k cs hr=>stepR_skip
 ·rename_i l hc; rw [hc]; exact TW.step (hrec _ _ _ ho h) fun a b k cs hr=>stepR_label
 ·rename_i id ops draw hc
  rw [hc]
  refine TW.region fun a hr=>?_
  cases draw with
  | false =>
   simp only [cond] at h
   refine wpIn_region_list ?_
   have:=dl_sound (P:=P) (td:=td) (y:=y) (r:=z.r) (ops:=ops.toList) hgo (K:=fun ρ w=>rec_ kk ρ w) (Q:=fun e a' w'=>e=.normal∧∃ ρ',Rel z.ds n a' ρ'∧TW z P n kk Q ρ' w')
    (fun a ρ w hr hK=>⟨rfl,ρ,hr,hrec _ _ _ ho hK⟩) ops.toList a ρ w (hnd.imp (fun x=>x) fun h=>by have:=ndC_at h p; rw [hc] at this; exact this) hr h
   simpa using this
  | true =>
   simp only [cond] at h
   cases hns:noSel ops.toList with
   | false=>rw [hns] at h; exact h.elim
   | true =>
    rw [hns] at h
    refine wpIn_region_any hm (any_in (fun a w h=>by cases h.1) (hnd.imp (fun x=>x) fun h=>by have:=ndC_at h p; rw [hc] at this; exact this) _ _ _ _ ?_)
    have h0:wpF P ops.toList (fun e a' w'=>e=.normal∧∃ ρ',Rel z.ds n a' ρ'∧TW z P n kk Q ρ' w') ops.toList.length [] (Array.replicate ops.size false) a w.drew:=by
     refine da_sound hgo hns (fun c a a' w hq=>by cases hq.1) (K:=fun ρ w=>rec_ kk ρ w) (fun a ρ w hr hK=>⟨rfl,ρ,hr,hrec _ _ _ ho hK⟩) _ 0 [] _ a ρ w.drew
      ⟨by simp,fun i=>?_⟩ (fun j o hj hl=>?_) hr (by simp) h
     ·rcases Nat.lt_or_ge i ops.size with hi | hi <;> simp [hi]
     ·exfalso
      rcases Nat.lt_or_ge j ops.size with hi | hi <;> simp [hi] at hl
    have h1:=wpAny_of_F _ _ _ _ _ h0
    simpa using h1
 ·rename_i x y hc
  rw [hc]
  have e1:x=codeAt body (false :: p):=by simp [codeAt,hc,childOf]
  have e2:y=codeAt body (true :: p):=by simp [codeAt,hc,childOf]
  exact TW.step (hrec _ _ _ (.c e1 (by rw [contOf_seq_false hc,hk]) (.c e2 (by rw [contOf_seq_true hc,hk]) ho)) h) fun a b k cs hr=>stepR_seq
 ·rename_i t x y hc
  rw [hc]
  have e1:x=codeAt body (false :: p):=by simp [codeAt,hc,childOf]
  have e2:y=codeAt body (true :: p):=by simp [codeAt,hc,childOf]
  unfold onIf at h
  split at h
  ·rename_i b hb
   cases b with
   | true =>
    refine TW.step (hrec _ _ _ (.c e1 (by rw [contOf_cond false hc,hk]) ho) h) fun a b k cs hr=>?_
    have:=stepR_cond (P:=P) (b:=b) (a:=a) (cs:=cs) (w:=w) (k:=List.map It.item kk++k) (x:=x) (y:=y) (t:=true) (c:=t) (by rw [hr.eval]; exact hb)
    exact this
   | false =>
    refine TW.step (hrec _ _ _ (.c e2 (by rw [contOf_cond true hc,hk]) ho) h) fun a b k cs hr=>?_
    have:=stepR_cond (P:=P) (b:=b) (a:=a) (cs:=cs) (w:=w) (k:=List.map It.item kk++k) (x:=x) (y:=y) (t:=false) (c:=t) (by rw [hr.eval]; exact hb)
    exact this
  ·exact h.elim
 ·rename_i id x hc
  rw [hc]
  have e1:x=codeAt body (false :: p):=by simp [codeAt,hc,childOf]
  exact TW.step (hrec _ _ _ (.c e1 (by rw [contOf_block false hc,hk]) (.b ho)) h) fun a b k cs hr=>stepR_block
 ·rename_i x hc
  rw [hc]
  have e1:x=codeAt body (false :: p):=by simp [codeAt,hc,childOf]
  exact TW.step (hrec _ _ _ (.c e1 (by rw [contOf_scope false hc,hk]) (.s ho)) h) fun a b k cs hr=>stepR_scope
 ·rename_i id hc
  rw [hc]
  split at h
  ·rename_i k' hk'
   exact TW.step (hrec _ _ _ (Ok_exit ho hk') h) fun a b k cs hr=>stepR_exit (exitIt_some hk')
  ·rename_i hk'
   intro a hr b k0 cs hb
   exact ⟨.exit id,a,w,ρ,[],w,hr,⟨rfl,.inr rfl⟩,h,fun k'' hk''=>stepsIn_wide.2 (.one (stepR_exit ((exitIt_none (k0:=k0) hk').trans hk''))),fun _ hk''=>⟨List.map It.item kk++k0,(exitIt_none (k0:=k0) hk').trans hk'',StepsIn.refl _⟩⟩
 ·rename_i hc
  rw [hc]
  intro a hr b k0 cs hb
  exact ⟨.ret,a,w,ρ,[],w,hr,⟨rfl,.inr rfl⟩,h,fun hn=>⟨_,stepsIn_wide.2 (.one (stepR_ret hn))⟩,fun _=>⟨_,StepsIn.refl _⟩⟩
 ·exact h.elim
theorem segTodo_loop {body x:Code} {p:List Bool} (h:codeAt body p=.loop x):segTodo body p=.c (false :: p) x :: .l p x :: contOf body p:=by simp [segTodo,h]
theorem ev_sound {body:Code} (hnd:z.r=none∨ndC body=true) (hgo:GoFn P go) (hm:P.follows .mixedOrders=true) (H:∀ x∈cuts,∀ ρ w,x.2 ρ w→TW z P n (segTodo body x.1) Q ρ w) :
  ∀ (f:Nat) (todo:List It) (ρ:Env) (w:World),Ok body todo→ev P go td y n cuts Q f todo ρ w→TW z P n todo Q ρ w
 | 0,_,_,_,_,h=>h.elim
 | f+1,todo,ρ,w,ho,h=>by
  unfold ev at h
  split at h
  ·intro a hr b k cs hb; exact ⟨.normal,a,w,ρ,[],w,hr,⟨rfl,.inr rfl⟩,h,StepsIn.refl _⟩
  ·exact TW.step (ev_sound hnd hgo hm H f _ ρ w ho.tail h) fun a b k cs hr=>stepR_inBlock
  ·exact TW.step (ev_sound hnd hgo hm H f _ ρ w ho.tail h) fun a b k cs hr=>stepR_inScope
  ·rename_i p x k
   cases hcut:cutAt p cuts with
   | none=>rw [hcut] at h; exact h.elim
   | some J =>
    rw [hcut] at h
    have hj:=H _ (cutAt_mem hcut) ρ w h
    cases ho with
    | l hx hk ho =>
     rw [segTodo_loop hx] at hj
     subst hk
     exact TW.step hj fun a b k cs hr=>stepR_inLoop
  ·rename_i p c k
   cases hcut:cutAt p cuts with
   | some J =>
    rw [hcut] at h
    have hj:=H _ (cutAt_mem hcut) ρ w h
    cases ho with
    | c hc hk ho =>
     subst hk
     by_cases hl:∃ x,codeAt body p=.loop x
     ·obtain ⟨x,hx⟩:=hl
      rw [segTodo_loop hx] at hj
      rw [hx] at hc
      subst hc
      exact TW.step hj fun a b k cs hr=>stepR_loop
     ·have e:segTodo body p=.c p (codeAt body p) :: contOf body p:=by
       unfold segTodo
       split
       ·rename_i x hx; exact absurd ⟨x,hx⟩ hl
       ·rfl
      rw [e] at hj
      rw [hc]
      exact hj
   | none =>
    rw [hcut] at h
    cases ho with
    | c hc hk ho =>
     subst hc
     exact evC_sound hnd hgo hm (fun todo ρ w ho h=>ev_sound hnd hgo hm H f todo ρ w ho h) hk ho h
theorem evS_sound {body:Code} (hnd:z.r=none∨ndC body=true) (hgo:GoFn P go) (hm:P.follows .mixedOrders=true) (H:∀ x∈cuts,∀ ρ w,x.2 ρ w→TW z P n (segTodo body x.1) Q ρ w)
  {f:Nat} {p:List Bool} (h:evS P go td y n cuts Q f body p ρ w):TW z P n (segTodo body p) Q ρ w:=by
 unfold evS at h
 split at h
 ·rename_i x hx
  rw [segTodo_loop hx]
  exact ev_sound hnd hgo hm H f _ ρ w (.c (by simp [codeAt,hx,childOf]) (by rw [contOf_loop false hx]) (.l hx rfl (Ok_contOf body p))) h
 ·rename_i hx
  have e:segTodo body p=.c p (codeAt body p) :: contOf body p:=by
   unfold segTodo
   split
   ·rename_i x hx'; exact absurd hx' (hx x)
   ·rfl
  rw [e]
  exact evC_sound hnd hgo hm (fun todo ρ w ho h=>ev_sound hnd hgo hm H f todo ρ w ho h) rfl (Ok_contOf body p) h
end
end Sy
end
section
namespace Sy
def argE (l:List Value):Env:=fun i=>match l[i]? with | some v=>v | none=>undef
def retL (P:Program) (ρ:Env) (w:World) (K:List Value→Prop):List ResultVar→List Value→Prop
 | [],acc=>K acc
 | .tmp t :: r,acc=>retL P ρ w K r (acc++[ρ t])
 | .cell t ty :: r,acc=>onA (ρ t) fun a=>Rd P (Instr.loadAt ty (.pointer (some a))) w fun v=>retL P ρ w K r (acc++[v])
def mkRes:List Value→Value
 | [v]=>v
 | l=>.tuple l.toArray
def QR (P:Program) (rs:List ResultVar) (R:Ko):Exit→Env→World→Prop
 | .normal,ρ,w=>retL P ρ w (fun l=>R (mkRes l) w) rs []
 | .ret,ρ,w=>retL P ρ w (fun l=>R (mkRes l) w) rs []
 | _,_,_=>False
def upds (ρ:Env):List (Nat × Value)→Env
 | []=>ρ
 | (d,v) :: l=>upds (upd ρ d v) l
theorem upds_same {ρ:Env}:∀ (l:List (Nat × Value)),(∀ x∈l,ρ x.1=x.2)→upds ρ l=ρ
 | [],_=>rfl
 | (d,v) :: l,h=>by
  unfold upds
  rw [upd_same ρ d v (h (d,v) (by simp))]
  exact upds_same l fun x hx=>h x (List.mem_cons_of_mem _ hx)
theorem aln {ρ:Env}:∀ x∈([]:List (Nat × Value)),ρ x.1=x.2:=fun _ h=>by cases h
theorem alc {ρ:Env} {d:Nat} {v:Value} {l:List (Nat × Value)} (e:ρ d=v) (h:∀ x∈l,ρ x.1=x.2):∀ x∈(d,v) :: l,ρ x.1=x.2:=by
 intro x hx
 rcases List.mem_cons.1 hx with rfl | hx
 ·exact e
 ·exact h x hx
theorem ons:(∀ (x:Int) (f:Int→Prop),onI (.int .i64 x) f=f x)∧(∀ (x:Int) (f:Int→Prop),onC (.int .u8 x) f=f x)∧(∀ (x:Int) (f:Int→Prop),onU (.int .u64 x) f=f x)∧(∀ (x:Int) (f:Int→Prop),onR (.int .i32 x) f=f x)∧(∀ (x:Bool) (f:Bool→Prop),onB (.bool x) f=f x)∧(∀ (x:ByteArray) (f:ByteArray→Prop),onS (.string x) f=f x)∧(∀ (x:Option Addr) (f:Option Addr→Prop),onP (.pointer x) f=f x)∧(∀ (x:Addr) (f:Addr→Prop),onA (.pointer (some x)) f=f x)∧(∀ (a:Option Addr) (l c:Nat) (f:Option Addr→Nat→Nat→Prop),onL (.slice a l c) f=f a l c)∧(∀ (x:Option Nat) (f:Option Nat→Prop),onM (.map x) f=f x)∧(∀ (x:Array Value) (f:Array Value→Prop),onG (.agg x) f=f x) :=
 ⟨fun _ _=>rfl,fun _ _=>rfl,fun _ _=>rfl,fun _ _=>rfl,fun _ _=>rfl,fun _ _=>rfl,fun _ _=>rfl,fun _ _=>rfl,fun _ _ _ _=>rfl,fun _ _=>rfl,fun _ _=>rfl⟩
section
variable {z:Fr} {P:Program} {n:Nat} {ρ:Env} {w:World} {a:Act}
def resOf (tmps:Array Value):ResultVar→Sem Value
 | .tmp t=>pure (tmps.getD t undef)
 | .cell a t=>do loadVar t (← asAddr (tmps.getD a undef))
theorem retL_vals {ds:List Deferred} (hr:Rel ds n a ρ):∀ (rs:List ResultVar) (acc:List Value) (K:List Value→Prop),retL P ρ w K rs acc→∃ vs:List Value,vs.length=rs.length∧(∀ (i:Nat) (r:ResultVar) (v:Value),rs[i]?=some r→vs[i]?=some v→(resOf a.tmps r).run P w=.ok v w)∧K (acc++vs)
 | [],acc,K,h=>⟨[],rfl,by simp,by simpa [retL] using h⟩
 | .tmp t :: r,acc,K,h=>by
  obtain ⟨vs,hl,hv,hk⟩:=retL_vals hr r _ K h
  refine ⟨ρ t :: vs,by simp [hl],fun i x v hx hv'=>?_,by simpa using hk⟩
  cases i with
  | zero=>simp at hx hv'; subst hx; subst hv'; have:=hr.get t; simp only [resOf,this]; rfl
  | succ i=>exact hv i x v (by simpa using hx) (by simpa using hv')
 | .cell t ty :: r,acc,K,h=>by
  unfold retL at h
  obtain ⟨p,hp,v0,hrun,h⟩:=onA_of h
  obtain ⟨vs,hl,hv,hk⟩:=retL_vals hr r _ K h
  refine ⟨v0 :: vs,by simp [hl],fun i x v hx hv'=>?_,by simpa using hk⟩
  cases i with
  | zero =>
   simp at hx hv'; subst hx; subst hv'
   have:=hr.get t
   simp only [resOf,this,hp,asAddr]
   exact hrun
  | succ i=>exact hv i x v (by simpa using hx) (by simpa using hv')
theorem results_run {fn:Func} {tmps:Array Value} {rs:List ResultVar} (hrs:fn.results=rs.toArray) (hlen:rs.length≤5) {vs:List Value} (hl:vs.length=rs.length)
  (hv:∀ (i:Nat) (r:ResultVar) (v:Value),rs[i]?=some r→vs[i]?=some v→(resOf tmps r).run P w=.ok v w):(results fn tmps).run P w=.ok (mkRes vs) w:=by
 have hf:results fn tmps=(fn.results.mapM (resOf tmps) >>= fun vs=>pure (if h:vs.size=1 then vs[0] else .tuple vs)):=by
  unfold results
  congr 1
 rw [hf,hrs]
 match rs,vs,hl,hlen,hv with
 | [],[],_,_,hv=>simp [mkRes]
 | [r0],[v0],_,_,hv =>
  have h0:=hv 0 r0 v0 rfl rfl
  simp [mkRes,Sem.run_bind,h0]
 | [r0,r1],[v0,v1],_,_,hv =>
  have h0:=hv 0 r0 v0 rfl rfl
  have h1:=hv 1 r1 v1 rfl rfl
  simp [mkRes,Sem.run_bind,h0,h1]
 | [r0,r1,r2],[v0,v1,v2],_,_,hv =>
  have h0:=hv 0 r0 v0 rfl rfl
  have h1:=hv 1 r1 v1 rfl rfl
  have h2:=hv 2 r2 v2 rfl rfl
  simp [mkRes,Sem.run_bind,h0,h1,h2]
 | [r0,r1,r2,r3],[v0,v1,v2,v3],_,_,hv =>
  have h0:=hv 0 r0 v0 rfl rfl
  have h1:=hv 1 r1 v1 rfl rfl
  have h2:=hv 2 r2 v2 rfl rfl
  have h3:=hv 3 r3 v3 rfl rfl
  simp [mkRes,Sem.run_bind,h0,h1,h2,h3]
 | [r0,r1,r2,r3,r4],[v0,v1,v2,v3,v4],_,_,hv =>
  have h0:=hv 0 r0 v0 rfl rfl
  have h1:=hv 1 r1 v1 rfl rfl
  have h2:=hv 2 r2 v2 rfl rfl
  have h3:=hv 3 r3 v3 rfl rfl
  have h4:=hv 4 r4 v4 rfl rfl
  simp [mkRes,Sem.run_bind,h0,h1,h2,h3,h4]
theorem leaves_shed {fn:Func} {tmps:Array Value} {R:Ending→World→Prop}:∀ (new:List Deferred) (w w':World),Shed new w w'→(∃ v,(results fn tmps).run P w'=.ok v w'∧R (.returned v) w')→LeavesInM Fence.wide 0 P fn tmps R new .returning w
 | [],w,w',hs,h=>by
  have hs:w'=w:=hs
  subst hs
  exact h
 | d :: ds,w,w',⟨r,h1,h2,h3⟩,h=>⟨by simp,.inl ⟨r,_,h1,run_takeDeferred h2,leaves_shed ds _ w' h3 h⟩⟩
theorem ct_of_TW {f:FuncId} {fn:Func} {body:Code} {args:List Value} {rs:List ResultVar} {R:Ko} (hf:P.funcs[f]?=some fn) (hb:fn.body=some body) (hn:fn.ntmps=n)
  (hrs:fn.results=rs.toArray) (hlen:rs.length≤5) (hle:args.length≤n) (hseg:segTodo body []=[.c [] body])
  (h:TW z0 P n (segTodo body []) (QR P rs R) (argE args) w):Ct P f args.toArray w R:=by
 rw [hseg] at h
 refine (callsIn_wide (n:=0)).1 (callsIn_of_wp_marks hf hb trivial ?_)
 have hrel:Rel z0.ds n { tmps:=args.toArray++Array.replicate (fn.ntmps - args.toArray.size) undef,defers:=[] } (argE args):=by
  refine ⟨rfl,by simp; omega,fun i=>?_⟩
  unfold argE
  rcases Nat.lt_or_ge i args.length with hi | hi
  ·simp [hi,Array.getElem?_append]
  ·have:args[i]?=none:=by simp; omega
   simp only [this]
   simp [Array.getElem?_append,Nat.not_lt.2 hi,Array.getElem?_replicate]
   split <;> rfl
 intro b k cs hro _ _
 obtain ⟨e,a',w',ρ',new,w'',hr',⟨hsh,_⟩,hq,harr⟩:=h _ hrel b k cs hro
 refine ⟨e,a',w',?_,harr⟩
 have hd:a'.defers=new:=by simpa [z0] using hr'.defers
 cases e <;> first | exact hq.elim | skip
 all_goals
  obtain ⟨vs,hl,hv,hk⟩:=retL_vals hr' rs [] _ hq
  show LeavesInM Fence.wide 0 P fn a'.tmps _ a'.defers .returning w'
  rw [hd]
  exact leaves_shed new w' w'' hsh ⟨_,results_run hrs hlen hl hv,by simpa using hk⟩
variable {go:Nat→Bool} {td:Nat→TD} {Q:Exit→Env→World→Prop}
def AllC (z:Fr) (P:Program) (n:Nat) (body:Code) (Q:Exit→Env→World→Prop):List Cut→Prop
 | []=>True
 | x :: l=>(∀ ρ w,x.2 ρ w→TW z P n (segTodo body x.1) Q ρ w)∧AllC z P n body Q l
theorem AllC.mem {body:Code}:∀ {l:List Cut},AllC z P n body Q l→∀ x∈l,∀ ρ w,x.2 ρ w→TW z P n (segTodo body x.1) Q ρ w
 | [],_,x,hx=>by cases hx
 | y :: l,h,x,hx=>by
  rcases List.mem_cons.1 hx with rfl | hx
  ·exact h.1
  ·exact AllC.mem h.2 x hx
theorem seg {cuts:List Cut} {body:Code} (hgo:GoFn P go) (hm:P.follows .mixedOrders=true) {f:Nat} {p:List Bool} (H:AllC z P n body Q cuts) {F:Prop} (hF:F=evS P go td false n cuts Q f body p ρ w) (h:F) (hnd:z.r=none∨ndC body=true:=by exact .inl rfl) :
  TW z P n (segTodo body p) Q ρ w:=evS_sound hnd hgo hm H.mem (f:=f) (hF ▸ h)
theorem segY {cuts:List Cut} {body:Code} (hgo:GoFn P go) (hm:P.follows .mixedOrders=true) {f:Nat} {p:List Bool} (H:AllC z P n body Q cuts) {F:Prop} (hF:F=evS P go td true n cuts Q f body p ρ w) (h:F) (hnd:z.r=none∨ndC body=true:=by exact .inl rfl) :
  TW z P n (segTodo body p) Q ρ w:=evS_sound hnd hgo hm H.mem (f:=f) (hF ▸ h)
theorem loop_TW {body:Code} {p:List Bool} (hgo:GoFn P go) (hm:P.follows .mixedOrders=true) (I:Nat→Env→World→Prop)
  (step:∀ m ρ w,(∀ ρ' w',(∃ m',m'<m∧I m' ρ' w')→TW z P n (segTodo body p) Q ρ' w')→I m ρ w→TW z P n (segTodo body p) Q ρ w) :
  ∀ m ρ w,I m ρ w→TW z P n (segTodo body p) Q ρ w:=by
 intro m
 induction m using Nat.strongRecOn with
 | _ m ih=>exact fun ρ w h=>step m ρ w (fun ρ' w' ⟨m',hlt,h'⟩=>ih m' hlt ρ' w' h') h
end
end Sy
end
end Go.Proofs.YtbgbidpecmepmaaGreatDoor
