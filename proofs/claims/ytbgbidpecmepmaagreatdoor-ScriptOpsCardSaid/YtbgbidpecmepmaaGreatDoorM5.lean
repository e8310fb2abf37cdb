/-
  Maps: what stands under which key; Going over a map; Handles; Reservations and budgets.
-/
import Derived.Test.YtbgbidpecmepmaaGreatDoorM4
import Derived.MapKept
import Derived.Maps.RangeRun
set_option maxRecDepth 100000
namespace Go.Proofs.YtbgbidpecmepmaaGreatDoor
section
namespace Sy
open Go.MapKept
structure KeyE {α:Type} (d:TypeDesc) (κ:α→Value):Prop where
 inj:∀ a b,κ a=κ b→a=b
 isKey:∀ a,IsKey d (κ a)
 surj:∀ v,IsKey d v→∃ a,v=κ a
 stays:∀ a,Instr.sameBits 10000 (κ a) (κ a)=true
theorem keyI:KeyE (.int .i64) (fun a:Int=>I a):=⟨fun a b h=>by injection h,fun a=>by simp [IsKey],fun v h=>by cases v <;> simp_all [IsKey],fun a=>by simp [Instr.sameBits]⟩
theorem keyS:KeyE .string Value.string:=⟨fun a b h=>by injection h,fun a=>by simp [IsKey],fun v h=>by cases v <;> simp_all [IsKey],fun a=>by simp [Instr.sameBits,(bytes_beq a a).2 rfl]⟩
structure MapAt {α:Type} (w:World) (m:Nat) (d:TypeDesc) (κ:α→Value) (g:α→Option Value) (es:Array MapEntry) (clock:Nat):Prop where
 hp:w.heap[m]?=some (.map es clock)
 st:Stamped es clock
 ks:∀ x∈es.toList,IsKey d x.key
 to:∀ x∈es.toList,∀ a,x.key=κ a→g a=some x.val
 fro:∀ a v,g a=some v→∃ x∈es.toList,x.key=κ a
def Map {α:Type} (w:World) (m:Nat) (d:TypeDesc) (κ:α→Value) (g:α→Option Value):Prop:=∃ es clock,MapAt w m d κ g es clock
section
variable {α:Type} {w:World} {m:Nat} {d:TypeDesc} {κ:α→Value} {g:α→Option Value} {P:Program} {t kt et:TypeId}
theorem Map.kp {S:Nat→Prop} {w':World} (h:Map w m d κ g) (k:Kp S w w') (hs:¬ S m):Map w' m d κ g:=by
 obtain ⟨es,cl,h⟩:=h
 exact ⟨es,cl,k.bk h.hp hs,h.st,h.ks,h.to,h.fro⟩
theorem Map.lt (h:Map w m d κ g):m<w.heap.size:=by
 obtain ⟨es,cl,h⟩:=h
 exact (Array.getElem?_eq_some_iff.1 h.hp).1
theorem Map.look (h:Map w m d κ g) (E:KeyE d κ) (ht:P.underlying t=some (.map kt et)) (hk:P.underlying kt=some d) {z:Value} (hz:(zeroValue et).run P w=.ok z w) (a:α) (ok:Bool) :
  (Instr.lookup t (.map (some m)) (κ a) ok).run P w=.ok (if ok=true then .tuple #[(g a).getD z,.bool (g a).isSome] else (g a).getD z) w:=by
 obtain ⟨es,cl,h⟩:=h
 have hc:=run_checkKey (P:=P) (w:=w) hk (E.isKey a) es.isEmpty 9999
 rcases findNow_spec (E.isKey a) es.toList 0 h.ks with ⟨h1,h2⟩ | ⟨j,e,h1,h2,h3⟩
 ·have hn:g a=none:=by
   cases hg:g a with
   | none=>rfl
   | some v=>obtain ⟨x,hx,hk⟩:=h.fro a v hg; exact absurd hk (h2 x hx)
  have hf:=run_findKey (w:=w) hk h1
  cases ok <;> simp [Instr.lookup,run_underlying' ht,Sem.run_bind,MapKept.run_getObj_map h.hp,hc,hf,hz,hn]
 ·have hn:g a=some e.val:=h.to e (List.mem_of_getElem? h2) a h3
  have hf:=run_findKey (w:=w) hk h1
  cases ok <;> simp [Instr.lookup,run_underlying' ht,Sem.run_bind,MapKept.run_getObj_map h.hp,hc,hf,hn]
def updO [DecidableEq α] (g:α→Option Value) (a:α) (v:Option Value):α→Option Value:=fun x=>if x=a then v else g x
theorem Kp.obj {m:Nat} {o o':Obj} (h:w.heap[m]?=some o):Kp (·=m) w { w with heap:=w.heap.setIfInBounds m o' }∧({ w with heap:=w.heap.setIfInBounds m o' }:World).heap[m]?=some o' :=
 ⟨⟨rfl,rfl,rfl,by simp,fun k hk hn=>(MapKept.heap_set h).2 k hn⟩,(MapKept.heap_set h).1⟩
theorem Map.upd [DecidableEq α] (h:Map w m d κ g) (E:KeyE d κ) (ht:P.underlying t=some (.map kt et)) (hk:P.underlying kt=some d) (a:α) (v:Value) :
  ∃ w',(Instr.mapUpdate t (.map (some m)) (κ a) v).run P w=.ok () w'∧Kp (·=m) w w'∧Map w' m d κ (updO g a (some v)):=by
 obtain ⟨es,cl,h⟩:=h
 have hc:=run_checkKey (P:=P) (w:=w) hk (E.isKey a) false 9999
 rcases findNow_spec (E.isKey a) es.toList 0 h.ks with ⟨h1,h2⟩ | ⟨j,e,h1,h2,h3⟩
 ·have hf:=run_findKey (w:=w) hk h1
  obtain ⟨k1,k2⟩:=Kp.obj (o':=.map (es.push { key:=κ a,val:=v,born:=cl }) (cl+1)) h.hp
  refine ⟨_,by simp [Instr.mapUpdate,run_underlying' ht,Sem.run_bind,MapKept.run_getObj_map h.hp,hc,hf,MapKept.run_setObj_map _ h.hp],k1,_,_,k2,stamped_push h.st (fun x hx=>h2 x hx),?_,?_,?_⟩
  ·intro x hx
   rw [Array.toList_push,List.mem_append,List.mem_singleton] at hx
   rcases hx with hx | rfl
   ·exact h.ks x hx
   ·exact E.isKey a
  ·intro x hx b hb
   rw [Array.toList_push,List.mem_append,List.mem_singleton] at hx
   unfold updO
   rcases hx with hx | rfl
   ·rw [if_neg (fun e=>h2 x hx (by rw [hb,e]))]; exact h.to x hx b hb
   ·rw [if_pos (E.inj _ _ hb.symm)]
  ·intro b u hb
   unfold updO at hb
   by_cases e:b=a
   ·subst e; exact ⟨_,by rw [Array.toList_push]; exact List.mem_append_right _ (List.mem_singleton.2 rfl),rfl⟩
   ·rw [if_neg e] at hb
    obtain ⟨x,hx,hk'⟩:=h.fro b u hb
    exact ⟨x,by rw [Array.toList_push]; exact List.mem_append_left _ hx,hk'⟩
 ·have hf:=run_findKey (w:=w) hk h1
  have h2':es[j]?=some e:=by simpa using h2
  obtain ⟨k1,k2⟩:=Kp.obj (o':=.map (es.modify j fun e=>{ e with key:=κ a,val:=v }) cl) h.hp
  have hstay:(Instr.keyThatStays e.key (κ a)).run P w=.ok (κ a) w:=by simp [Instr.keyThatStays,h3,E.stays a]
  have mem:∀ x,x∈(es.modify j fun e=>{ e with key:=κ a,val:=v }).toList→(x.key=κ a∧x.val=v)∨(x∈es.toList∧x.key≠κ a):=by
   intro x hx
   obtain ⟨i,hi⟩:=List.mem_iff_getElem?.1 hx
   rw [Array.getElem?_toList,Array.getElem?_modify] at hi
   by_cases hij:j=i
   ·subst hij
    rw [if_pos rfl,h2'] at hi
    simp only [Option.map_some,Option.some.injEq] at hi
    subst hi
    exact .inl ⟨rfl,rfl⟩
   ·rw [if_neg hij] at hi
    have hxm:x∈es.toList:=List.mem_of_getElem? (by simpa using hi)
    refine .inr ⟨hxm,fun hxk=>hij ?_⟩
    have n3:=h.st.2.2
    have q1:(es.toList.map (·.key))[j]?=some (κ a):=by simp [h2',h3]
    have q2:(es.toList.map (·.key))[i]?=some (κ a):=by simp [hi,hxk]
    obtain ⟨l1,e1⟩:=List.getElem?_eq_some_iff.1 q1
    obtain ⟨l2,e2⟩:=List.getElem?_eq_some_iff.1 q2
    exact (List.getElem_inj n3).1 (e1.trans e2.symm)
  refine ⟨_,by simp [Instr.mapUpdate,run_underlying' ht,Sem.run_bind,MapKept.run_getObj_map h.hp,hc,hf,h2',hstay,MapKept.run_setObj_map _ h.hp],k1,_,_,k2,stamped_modify h.st j _ (fun _ _=>rfl) (fun x _ hx=>by rw [h2'] at hx; injection hx with hx; subst hx; exact h3.symm),?_,?_,?_⟩
  ·intro x hx
   rcases mem x hx with ⟨hx,_⟩ | ⟨hx,_⟩
   ·rw [hx]; exact E.isKey a
   ·exact h.ks x hx
  ·intro x hx b hb
   unfold updO
   rcases mem x hx with ⟨h5,h6⟩ | ⟨h5,h6⟩
   ·rw [if_pos (E.inj _ _ (hb.symm.trans h5)),h6]
   ·rw [if_neg (fun e=>h6 (by rw [hb,e]))]; exact h.to x h5 b hb
  ·intro b u hb
   unfold updO at hb
   by_cases e5:b=a
   ·subst e5
    refine ⟨{ e with key:=κ b,val:=v },?_,rfl⟩
    refine List.mem_of_getElem? (i:=j) ?_
    rw [Array.getElem?_toList,Array.getElem?_modify,if_pos rfl,h2']; rfl
   ·rw [if_neg e5] at hb
    obtain ⟨x,hx,hk'⟩:=h.fro b u hb
    refine ⟨x,?_,hk'⟩
    obtain ⟨i,hi⟩:=List.mem_iff_getElem?.1 hx
    refine List.mem_of_getElem? (i:=i) ?_
    rw [Array.getElem?_toList,Array.getElem?_modify,if_neg (fun e6=>?_)]
    ·simpa using hi
    ·subst e6
     rw [h2] at hi; injection hi with hi; subst hi
     exact e5 (E.inj _ _ (hk'.symm.trans h3))
theorem Map.del [DecidableEq α] (h:Map w m d κ g) (E:KeyE d κ) (ht:P.underlying t=some (.map kt et)) (hk:P.underlying kt=some d) (a:α) (t2 ty:TypeId) :
  ∃ w',(Builtin.delete_ #[t,t2] ty #[.map (some m),κ a]).run P w=.ok (.tuple #[]) w'∧Kp (·=m) w w'∧Map w' m d κ (updO g a none):=by
 obtain ⟨es,cl,h⟩:=h
 have hc:=run_checkKey (P:=P) (w:=w) hk (E.isKey a) es.isEmpty 9999
 rcases findNow_spec (E.isKey a) es.toList 0 h.ks with ⟨h1,h2⟩ | ⟨j,e,h1,h2,h3⟩
 ·have hf:=run_findKey (w:=w) hk h1
  obtain ⟨k1,k2⟩:=Kp.obj (o':=.map es cl) h.hp
  refine ⟨_,by simp [Builtin.delete_,run_underlying' ht,Sem.run_bind,MapKept.run_getObj_map h.hp,hc,hf,MapKept.run_setObj_map _ h.hp],k1,es,cl,k2,h.st,h.ks,?_,?_⟩
  ·intro x hx b hb
   unfold updO
   rw [if_neg (fun e=>h2 x hx (by rw [hb,e]))]; exact h.to x hx b hb
  ·intro b u hb
   unfold updO at hb
   by_cases e5:b=a
   ·rw [if_pos e5] at hb; cases hb
   ·rw [if_neg e5] at hb; exact h.fro b u hb
 ·have hf:=run_findKey (w:=w) hk h1
  obtain ⟨k1,k2⟩:=Kp.obj (o':=.map (es.eraseIdxIfInBounds j) cl) h.hp
  have hjl:j<es.size:=by
   have:=(List.getElem?_eq_some_iff.1 h2).1
   simpa using this
  have her:(es.eraseIdxIfInBounds j).toList=es.toList.eraseIdx j:=by
   unfold Array.eraseIdxIfInBounds; rw [dif_pos hjl]; simp
  have mem:∀ x,x∈(es.eraseIdxIfInBounds j).toList↔x∈es.toList∧x.key≠κ a:=by
   intro x
   rw [her,List.mem_eraseIdx_iff_getElem?]
   have n3:=h.st.2.2
   constructor
   ·rintro ⟨i,hij,hi⟩
    refine ⟨List.mem_of_getElem? hi,fun hxk=>hij ?_⟩
    have q1:(es.toList.map (·.key))[j]?=some (κ a):=by rw [List.getElem?_map,h2]; simp [h3]
    have q2:(es.toList.map (·.key))[i]?=some (κ a):=by rw [List.getElem?_map,hi]; simp [hxk]
    obtain ⟨l1,e1⟩:=List.getElem?_eq_some_iff.1 q1
    obtain ⟨l2,e2⟩:=List.getElem?_eq_some_iff.1 q2
    exact (List.getElem_inj n3).1 (e2.trans e1.symm)
   ·rintro ⟨hx,hxk⟩
    obtain ⟨i,hi⟩:=List.mem_iff_getElem?.1 hx
    refine ⟨i,fun hij=>?_,hi⟩
    subst hij
    rw [h2] at hi; injection hi with hi; subst hi
    exact hxk h3
  refine ⟨_,by simp [Builtin.delete_,run_underlying' ht,Sem.run_bind,MapKept.run_getObj_map h.hp,hc,hf,MapKept.run_setObj_map _ h.hp],k1,_,cl,k2,stamped_erase h.st j,fun x hx=>h.ks x ((mem x).1 hx).1,?_,?_⟩
  ·intro x hx b hb
   obtain ⟨h5,h6⟩:=(mem x).1 hx
   unfold updO
   rw [if_neg (fun e=>h6 (by rw [hb,e]))]; exact h.to x h5 b hb
  ·intro b u hb
   unfold updO at hb
   by_cases e5:b=a
   ·rw [if_pos e5] at hb; cases hb
   ·rw [if_neg e5] at hb
    obtain ⟨x,hx,hk'⟩:=h.fro b u hb
    exact ⟨x,(mem x).2 ⟨hx,fun e6=>e5 (E.inj _ _ (hk'.symm.trans e6))⟩,hk'⟩
theorem Map.mk (ht:P.underlying t=some (.map kt et)) (w:World) (κ:α→Value) (d:TypeDesc):∃ w',(Instr.makeMap t none).run P w=.ok (.map (some w.heap.size)) w'∧Kp No w w'∧w.heap.size<w'.heap.size∧Map w' w.heap.size d κ (fun _=>none):=by
 refine ⟨w.alloc (.map #[] 0),by simp [Instr.makeMap,newObj,Sem.run],Kp.alloc _ _ _,by simp,#[],0,heap_alloc_new w _,⟨by simp,by simp,by simp⟩,by simp,by simp,by simp⟩
end
end Sy
end
section
namespace Sy
open Go.MapKept
structure IterAt {α:Type} (w:World) (r m:Nat) (d:TypeDesc) (κ:α→Value) (g:α→Option Value) (left:α→Bool) (es:Array MapEntry) (cl since:Nat) (seen:Array Nat) (c0:Nat):Prop where
 mp:MapAt w m d κ g es cl
 it:w.heap[r]?=some (.mapIter (some m) since seen c0)
 old:∀ x∈es.toList,x.born<since
 le:since≤c0
 lc:since≤cl
 lf:∀ x∈es.toList,∀ a,x.key=κ a→(left a=true↔seen.contains x.born=false)
def Iter {α:Type} (w:World) (r m:Nat) (d:TypeDesc) (κ:α→Value) (g:α→Option Value) (left:α→Bool):Prop:=∃ es cl since seen c0,IterAt w r m d κ g left es cl since seen c0
def itLeft (w:World) (r m:Nat):Nat:=match w.heap[r]?,w.heap[m]? with
 | some (.mapIter _ _ seen _),some (.map es _)=>(leftOf es seen).size
 | _,_=>0
theorem map_inj {β:Type} {f:MapEntry→β} {l:List MapEntry} (n:(l.map f).Nodup) {x y:MapEntry} (hx:x∈l) (hy:y∈l) (h:f x=f y):x=y:=by
 obtain ⟨i,hi⟩:=List.mem_iff_getElem?.1 hx
 obtain ⟨j,hj⟩:=List.mem_iff_getElem?.1 hy
 have q1:(l.map f)[i]?=some (f x):=by rw [List.getElem?_map,hi]; rfl
 have q2:(l.map f)[j]?=some (f x):=by rw [List.getElem?_map,hj,h]; rfl
 obtain ⟨l1,e1⟩:=List.getElem?_eq_some_iff.1 q1
 obtain ⟨l2,e2⟩:=List.getElem?_eq_some_iff.1 q2
 have:=(List.getElem_inj n).1 (e1.trans e2.symm)
 subst this
 rw [hi] at hj; injection hj
theorem born_inj {l:List MapEntry} (n:(l.map (·.born)).Nodup) {x y:MapEntry} (hx:x∈l) (hy:y∈l) (h:x.born=y.born):x=y:=map_inj n hx hy h
theorem key_inj {l:List MapEntry} (n:(l.map (·.key)).Nodup) {x y:MapEntry} (hx:x∈l) (hy:y∈l) (h:x.key=y.key):x=y:=map_inj n hx hy h
theorem entry_any {w:World} {r m s c:Nat} {sn:Array Nat} (h:w.heap[r]?=some (.mapIter (some m) s sn c)):w.heap[r]?=some (.mapIter (some m) s sn c):=h
section
variable {α:Type} {w:World} {r m:Nat} {d:TypeDesc} {κ:α→Value} {g:α→Option Value} {left:α→Bool} {P:Program} {t kt et:TypeId}
theorem Iter.map (h:Iter w r m d κ g left):Map w m d κ g:=by obtain ⟨es,cl,_,_,_,h⟩:=h; exact ⟨es,cl,h.mp⟩
theorem Iter.kp {S:Nat→Prop} {w':World} (h:Iter w r m d κ g left) (k:Kp S w w') (hr:¬ S r) (hm:¬ S m):Iter w' r m d κ g left:=by
 obtain ⟨es,cl,s,sn,c,h⟩:=h
 exact ⟨es,cl,s,sn,c,⟨k.bk h.mp.hp hm,h.mp.st,h.mp.ks,h.mp.to,h.mp.fro⟩,k.bk h.it hr,h.old,h.le,h.lc,h.lf⟩
theorem itLeft_kp {S:Nat→Prop} {w':World} (h:Iter w r m d κ g left) (k:Kp S w w') (hr:¬ S r) (hm:¬ S m):itLeft w' r m=itLeft w r m:=by
 obtain ⟨es,cl,s,sn,c,h⟩:=h
 simp only [itLeft,h.it,h.mp.hp,k.bk h.it hr,k.bk h.mp.hp hm]
theorem Iter.lt (h:Iter w r m d κ g left):r<w.heap.size∧m<w.heap.size∧r≠m:=by
 obtain ⟨es,cl,s,sn,c,h⟩:=h
 exact ⟨(Array.getElem?_eq_some_iff.1 h.it).1,(Array.getElem?_eq_some_iff.1 h.mp.hp).1,ne_of_bk h.it h.mp.hp (by simp)⟩
theorem range_k (h:Map w m d κ g) (ht:P.underlying t=some (.map kt et)) {k:Ko} (hk:∀ w',Kp No w w'→Iter w' w.heap.size m d κ g (fun a=>(g a).isSome)→k (Pt w.heap.size 0) w'):Rv P (Instr.range t (.map (some m))) w k:=by
 obtain ⟨es,cl,h⟩:=h
 have hk1:=Kp.alloc No w (.mapIter (some m) cl #[] cl)
 refine ⟨_,w.alloc (.mapIter (some m) cl #[] cl),by simp [Instr.range,run_underlying' ht,Sem.run_bind,MapKept.run_getObj_map h.hp,newObj,Sem.run],hk _ hk1 ⟨es,cl,cl,#[],cl,⟨hk1.bk h.hp id,h.st,h.ks,h.to,h.fro⟩,heap_alloc_new w _,h.st.1,Nat.le_refl _,Nat.le_refl _,fun x hx a ha=>?_⟩⟩
 rw [h.to x hx a ha]; simp
theorem next_k (h:Iter w r m d κ g left) (E:KeyE d κ) (ty:TypeId) {k:Ko}
  (h0:(∀ a,(g a).isSome=true→left a=false)→k (.tuple #[.bool false]) w)
  (h1:∀ a v w',g a=some v→left a=true→Kp (·=r) w w'→(∀ left':α→Bool,(∀ b,left' b=true↔left b=true∧b≠a)→Iter w' r m d κ g left')→itLeft w' r m<itLeft w r m→(Instr.entry (Pt r 0)).run P w'=.ok (.tuple #[κ a,v]) w'→k (.tuple #[.bool true,κ a,v]) w') :
  Rv P (Instr.next (Pt r 0) false ty) w k:=by
 obtain ⟨es,cl,s,sn,c,h⟩:=h
 rcases run_next_at (P:=P) w ty r m s c sn es cl h.it h.mp.hp h.old h.le with ⟨hz,hr⟩ | ⟨e,he,w1,hw1,hr⟩
 ·refine ⟨_,_,hr,h0 fun a ha=>?_⟩
  obtain ⟨v,hv⟩:=Option.isSome_iff_exists.1 ha
  obtain ⟨x,hx,hxa⟩:=h.mp.fro a v hv
  cases hl:left a with
  | false=>rfl
  | true =>
   have hs:=(h.lf x hx a hxa).1 hl
   have:x∈(leftOf es sn).toList:=by
    unfold leftOf
    simp only [Array.toList_filter,List.mem_filter]
    exact ⟨hx,by simp only [hs,Bool.not_false]⟩
   have hlen:(leftOf es sn).toList.length=0:=by simpa using hz
   rw [List.eq_nil_of_length_eq_zero hlen] at this
   cases this
 ·have he':e∈es.toList∧sn.contains e.born=false:=by
   unfold leftOf at he
   simp only [Array.toList_filter,List.mem_filter,Bool.not_eq_true'] at he
   exact he
  obtain ⟨hem,hns⟩:=he'
  obtain ⟨a,ha⟩:=E.surj _ (h.mp.ks e hem)
  have hg:g a=some e.val:=h.mp.to e hem a ha
  have hl:left a=true:=(h.lf e hem a ha).2 hns
  have hit1:w1.heap[r]?=some (.mapIter (some m) s sn c):=by rcases hw1 with rfl | rfl <;> exact h.it
  have hmp1:w1.heap[m]?=some (.map es cl):=by rcases hw1 with rfl | rfl <;> exact h.mp.hp
  have hrm:r≠m:=ne_of_bk h.it h.mp.hp (by simp)
  have k1:Kp (·=r) w w1:=by rcases hw1 with rfl | rfl; exact Kp.refl _ _; exact Kp.dr _ _ _
  obtain ⟨k2,hr2⟩:=Kp.obj (o':=.mapIter (some m) s (sn.push e.born) cl) hit1
  obtain ⟨w2,hw2⟩:∃ y,y=({ w1 with heap:=w1.heap.setIfInBounds r (.mapIter (some m) s (sn.push e.born) cl) }:World):=⟨_,rfl⟩
  have hr':(Instr.next (.pointer (some ⟨r,0,none⟩)) false ty).run P w=.ok (.tuple #[.bool true,e.key,e.val]) w2:=by rw [hr,hw2]; rfl
  rw [← hw2] at k2 hr2
  have hmp2:w2.heap[m]?=some (.map es cl):=k2.bk hmp1 (fun e=>hrm e.symm)
  have hscl:s≤cl:=h.lc
  refine ⟨_,w2,hr',?_⟩
  rw [ha]
  refine h1 a e.val w2 hg hl (k1.trans k2) (fun left' hl'=>⟨es,cl,s,sn.push e.born,cl,⟨hmp2,h.mp.st,h.mp.ks,h.mp.to,h.mp.fro⟩,hr2,h.old,hscl,hscl,fun x hx b hb=>?_⟩) ?_ ?_
  ·rw [hl' b,h.lf x hx b hb]
   have hc:(sn.push e.born).contains x.born=(sn.contains x.born || x.born == e.born):=by
    rw [Array.contains_push]
   rw [hc,Bool.or_eq_false_iff]
   constructor
   ·rintro ⟨h1,h2⟩
    refine ⟨h1,?_⟩
    cases h3:(x.born == e.born) with
    | false=>rfl
    | true =>
     have:x=e:=born_inj h.mp.st.2.1 hx hem (by simpa using h3)
     subst this
     exact absurd (E.inj _ _ (hb.symm.trans ha)) h2
   ·rintro ⟨h1,h2⟩
    refine ⟨h1,fun hba=>?_⟩
    subst hba
    have:x.key=e.key:=hb.trans ha.symm
    have:x=e:=key_inj h.mp.st.2.2 hx hem this
    subst this
    simp at h2
  ·simp only [itLeft,h.it,h.mp.hp,hr2,hmp2]
   exact left_shrinks es sn e he
  ·have:=run_entry_at (P:=P) w2 r m s sn es cl e (entry_any hr2) hmp2 hem h.mp.st.2.1
   rw [ha] at this
   exact this
end
end Sy
end
section
open Sy
def F327 (R:Ko) (x0:Int) (w:World):Prop:=R (.tuple #[.int .i64 (shrV .i64 x0 40),.int .i64 (andV .i64 (shrV .i64 x0 20) 1048575),.int .i64 (andV .i64 x0 1048575)]) w
noncomputable def b327:Code:=Tryz.f327.body.getD .skip
theorem c327 {R:Ko} {x0:Int} {w:World} (h:F327 R x0 w):Ct Tryz.prog 327 #[.int .i64 x0] w R :=
 ctS (args:=[.int .i64 x0]) (body:=b327) (n:=12) (rs:=[.tmp 2,.tmp 3,.tmp 4]) Tryz.func327
  (sg (cuts:=[]) trivial h)
def F163 (R:Ko) (x0:Int) (x1:Int) (x2:Int) (w:World):Prop:=Ifm (decide ((x0:Int)<1)) (R (.tuple #[.int .i64 0,.iface 129 (.int .i64 1)]) w) (Ifm (decide ((x0:Int) > 3)) (R (.tuple #[.int .i64 0,.iface 129 (.int .i64 1)]) w) (Ifm (decide ((x1:Int)<0)) (R (.tuple #[.int .i64 0,.iface 129 (.int .i64 1)]) w) (Ifm (decide ((x1:Int) > 65535)) (R (.tuple #[.int .i64 0,.iface 129 (.int .i64 1)]) w) (Ifm (decide ((x2:Int)<1)) (R (.tuple #[.int .i64 0,.iface 129 (.int .i64 1)]) w) (Ifm (decide ((x2:Int) > 1023)) (R (.tuple #[.int .i64 0,.iface 129 (.int .i64 1)]) w) (R (.tuple #[.int .i64 (orV .i64 (orV .i64 (shlV .i64 x0 40) (shlV .i64 x1 20)) x2),.nilIface]) w))))))
noncomputable def b163:Code:=Tryz.f163.body.getD .skip
theorem c163 {R:Ko} {x0:Int} {x1:Int} {x2:Int} {w:World} (h:F163 R x0 x1 x2 w):Ct Tryz.prog 163 #[.int .i64 x0,.int .i64 x1,.int .i64 x2] w R :=
 ctS (args:=[.int .i64 x0,.int .i64 x1,.int .i64 x2]) (body:=b163) (n:=38) (rs:=[.tmp 6,.tmp 7]) Tryz.func163
  (sg (cuts:=[]) trivial h)
def F326 (R:Ko) (x0:Int) (w:World):Prop:=Ct Tryz.prog 327 #[.int .i64 x0] w fun v7 w1=>on3 v7 fun y7_0 y7_1 y7_2=>onI y7_0 fun x7_0=>onI y7_1 fun x7_1=>onI y7_2 fun x7_2=>Ct Tryz.prog 163 #[.int .i64 x7_0,.int .i64 x7_1,.int .i64 x7_2] w1 fun v11 w2=>on2 v11 fun y11_0 y11_1=>onI y11_0 fun x11_0=>Nl y11_1 fun x15=>R (.bool x15) w2
noncomputable def b326:Code:=Tryz.f326.body.getD .skip
theorem c326 {R:Ko} {x0:Int} {w:World} (h:F326 R x0 w):Ct Tryz.prog 326 #[.int .i64 x0] w R :=
 ctS (args:=[.int .i64 x0]) (body:=b326) (n:=16) (rs:=[.tmp 2]) Tryz.func326
  (sg (cuts:=[]) trivial h)
def F345 (R:Ko) (x0:Int) (w:World):Prop:=Ct Tryz.prog 326 #[.int .i64 x0] w fun v7 w1=>onB v7 fun x7=>Ifm (!x7) (R (.int .i64 0) w1) (Ct Tryz.prog 327 #[.int .i64 x0] w1 fun v11 w2=>on3 v11 fun y11_0 y11_1 y11_2=>onI y11_0 fun x11_0=>onI y11_1 fun x11_1=>onI y11_2 fun x11_2=>R (.int .i64 x11_0) w2)
noncomputable def b345:Code:=Tryz.f345.body.getD .skip
theorem c345 {R:Ko} {x0:Int} {w:World} (h:F345 R x0 w):Ct Tryz.prog 345 #[.int .i64 x0] w R :=
 ctS (args:=[.int .i64 x0]) (body:=b345) (n:=16) (rs:=[.tmp 2]) Tryz.func345
  (sg (cuts:=[]) trivial h)
def F268 (R:Ko) (x0:Int) (w:World):Prop:=Ct Tryz.prog 326 #[.int .i64 x0] w fun v7 w1=>onB v7 fun x7=>Ifm (!x7) (R (.int .i64 (-1)) w1) (Ct Tryz.prog 327 #[.int .i64 x0] w1 fun v11 w2=>on3 v11 fun y11_0 y11_1 y11_2=>onI y11_0 fun x11_0=>onI y11_1 fun x11_1=>onI y11_2 fun x11_2=>R (.int .i64 x11_1) w2)
noncomputable def b268:Code:=Tryz.f268.body.getD .skip
theorem c268 {R:Ko} {x0:Int} {w:World} (h:F268 R x0 w):Ct Tryz.prog 268 #[.int .i64 x0] w R :=
 ctS (args:=[.int .i64 x0]) (body:=b268) (n:=16) (rs:=[.tmp 2]) Tryz.func268
  (sg (cuts:=[]) trivial h)
def F346 (R:Ko) (x0:Int) (w:World):Prop:=Ct Tryz.prog 326 #[.int .i64 x0] w fun v7 w1=>onB v7 fun x7=>Ifm (!x7) (R (.int .i64 0) w1) (Ct Tryz.prog 327 #[.int .i64 x0] w1 fun v11 w2=>on3 v11 fun y11_0 y11_1 y11_2=>onI y11_0 fun x11_0=>onI y11_1 fun x11_1=>onI y11_2 fun x11_2=>R (.int .i64 x11_2) w2)
noncomputable def b346:Code:=Tryz.f346.body.getD .skip
theorem c346 {R:Ko} {x0:Int} {w:World} (h:F346 R x0 w):Ct Tryz.prog 346 #[.int .i64 x0] w R :=
 ctS (args:=[.int .i64 x0]) (body:=b346) (n:=16) (rs:=[.tmp 2]) Tryz.func346
  (sg (cuts:=[]) trivial h)
def okH (k s g:Int):Bool:=decide (1≤k) && decide (k≤3) && decide (0≤s) && decide (s≤65535) && decide (1≤g) && decide (g≤1023)
def mkH (k s g:Int):Int:=orV .i64 (orV .i64 (shlV .i64 k 40) (shlV .i64 s 20)) g
def pK (h:Int):Int:=shrV .i64 h 40
def pS (h:Int):Int:=andV .i64 (shrV .i64 h 20) 1048575
def pG (h:Int):Int:=andV .i64 h 1048575
def okV (h:Int):Bool:=okH (pK h) (pS h) (pG h)
def kindH (h:Int):Int:=if okV h=true then pK h else 0
def slotH (h:Int):Int:=if okV h=true then pS h else -1
def genH (h:Int):Int:=if okV h=true then pG h else 0
abbrev Er (n:Int):Value:=.iface 129 (.int .i64 n)
abbrev I (n:Int):Value:=.int .i64 n
variable {K:Ko} {w:World}
theorem k163 {k s g:Int} (h:K (if okH k s g=true then .tuple #[I (mkH k s g),.nilIface] else .tuple #[I 0,Er 1]) w):Ct Tryz.prog 163 #[I k,I s,I g] w K:=by
 refine c163 ?_
 unfold F163
 simp only [SS]
 unfold okH mkH at h
 simp only [Bool.and_eq_true,decide_eq_true_eq] at h
 split
 ·rw [if_neg (by omega)] at h; exact h
 split
 ·rw [if_neg (by omega)] at h; exact h
 split
 ·rw [if_neg (by omega)] at h; exact h
 split
 ·rw [if_neg (by omega)] at h; exact h
 split
 ·rw [if_neg (by omega)] at h; exact h
 split
 ·rw [if_neg (by omega)] at h; exact h
 rw [if_pos (by omega)] at h; exact h
theorem k327 {x:Int} (h:K (.tuple #[I (pK x),I (pS x),I (pG x)]) w):Ct Tryz.prog 327 #[I x] w K:=c327 h
theorem k326 {x:Int} (h:K (.bool (okV x)) w):Ct Tryz.prog 326 #[I x] w K:=by
 refine c326 ?_
 unfold F326
 refine k327 ?_
 simp only [SS]
 refine k163 ?_
 unfold okV at h
 cases e:okH (pK x) (pS x) (pG x) with
 | true=>rw [if_pos rfl]; rw [e] at h; exact h
 | false=>rw [if_neg (by simp)]; rw [e] at h; exact h
theorem k345 {x:Int} (h:K (I (kindH x)) w):Ct Tryz.prog 345 #[I x] w K:=by
 refine c345 ?_
 unfold F345
 refine k326 ?_
 unfold kindH at h
 cases e:okV x with
 | false=>rw [e] at h; exact h
 | true=>rw [e] at h; exact k327 h
theorem k268 {x:Int} (h:K (I (slotH x)) w):Ct Tryz.prog 268 #[I x] w K:=by
 refine c268 ?_
 unfold F268
 refine k326 ?_
 unfold slotH at h
 cases e:okV x with
 | false=>rw [e] at h; exact h
 | true=>rw [e] at h; exact k327 h
theorem k346 {x:Int} (h:K (I (genH x)) w):Ct Tryz.prog 346 #[I x] w K:=by
 refine c346 ?_
 unfold F346
 refine k326 ?_
 unfold genH at h
 cases e:okV x with
 | false=>rw [e] at h; exact h
 | true=>rw [e] at h; exact k327 h
end
section
open Sy
def F201 (R:Ko) (x0:Array Value) (w:World):Prop:=New (.cells (.agg x0:Value).cells 35) w fun x1 w1=>Lc (x1.add 0) w1 fun v4=>onI v4 fun x4=>Ifm (decide ((x4:Int)<1)) (R (.iface 129 (.int .i64 2)) w1) (Lc (x1.add 1) w1 fun v8=>onI v8 fun x8=>Ifm (decide ((x8:Int) > 1048576)) (R (.iface 129 (.int .i64 2)) w1) (Lc (x1.add 0) w1 fun v13=>onI v13 fun x13=>Lc (x1.add 1) w1 fun v15=>onI v15 fun x15=>Ifm (decide ((x13:Int) > x15)) (R (.iface 129 (.int .i64 2)) w1) (R (.nilIface) w1)))
noncomputable def b201:Code:=Tryz.f201.body.getD .skip
theorem c201 {R:Ko} {x0:Array Value} {w:World} (h:F201 R x0 w):Ct Tryz.prog 201 #[.agg x0] w R :=
 ctS (args:=[.agg x0]) (body:=b201) (n:=19) (rs:=[.tmp 2]) Tryz.func201
  (sg (cuts:=[]) trivial h)
def F204 (R:Ko) (x0:Array Value) (w:World):Prop:=New (.cells (.agg x0:Value).cells 35) w fun x1 w1=>La 2 x1 w1 fun x5=>Ct Tryz.prog 201 #[.agg x5] w1 fun v6 w2=>Nl v6 fun x8=>Ifm (!x8) (R (.tuple #[.int .i64 0,v6]) w2) (Lc (x1.add 0) w2 fun v11=>onI v11 fun x11=>Lc (x1.add 1) w2 fun v14=>onI v14 fun x14=>Lc (x1.add 1) w2 fun v18=>onI v18 fun x18=>Rd Tryz.prog (Bin .quo 3 (.tmp 16) (.tmp 18) (.int .i64 (IntKind.i64.wrap ((IntKind.i64.wrap ((IntKind.i64.wrap (x11*1048576))+x14)) - 1))) (.int .i64 x18)) w2 fun v19=>onI v19 fun x19=>R (.tuple #[.int .i64 x19,.nilIface]) w2)
noncomputable def b204:Code:=Tryz.f204.body.getD .skip
theorem c204 {R:Ko} {x0:Array Value} {w:World} (h:F204 R x0 w):Ct Tryz.prog 204 #[.agg x0] w R :=
 ctS (args:=[.agg x0]) (body:=b204) (n:=20) (rs:=[.tmp 2,.tmp 3]) Tryz.func204
  (sg (cuts:=[]) trivial h)
def F206 (R:Ko) (x0:Array Value) (x1:Int) (w:World):Prop:=New (.cells (.agg x0:Value).cells 35) w fun x2 w1=>New (.cells (.agg #[.int .i64 0,.int .i64 0,.int .i64 0,.int .i64 0,.bool false,.int .i64 0,.int .i64 0,.int .i64 0]:Value).cells 120) w1 fun x4 w2=>Ifm (decide ((x1:Int)<0)) (Sa 8 x4 (#[.int .i64 0,.int .i64 0,.int .i64 0,.int .i64 0,.bool false,.int .i64 0,.int .i64 0,.int .i64 0]) w2 fun w3=>Rd Tryz.prog (Instr.loadAt 120 (.pointer (some x4))) w3 fun r0=>R (.tuple #[r0,.iface 129 (.int .i64 1)]) w3) (La 2 x2 w2 fun x11=>Ct Tryz.prog 201 #[.agg x11] w2 fun v12 w4=>Nl v12 fun x14=>Ifm (!x14) (Sa 8 x4 (#[.int .i64 0,.int .i64 0,.int .i64 0,.int .i64 0,.bool false,.int .i64 0,.int .i64 0,.int .i64 0]) w4 fun w5=>Rd Tryz.prog (Instr.loadAt 120 (.pointer (some x4))) w5 fun r0=>R (.tuple #[r0,v12]) w5) (Ifm (decide ((x1:Int) > 1073741824)) (Sa 8 x4 (#[.int .i64 0,.int .i64 0,.int .i64 0,.int .i64 0,.bool false,.int .i64 0,.int .i64 0,.int .i64 0]) w4 fun w6=>Rd Tryz.prog (Instr.loadAt 120 (.pointer (some x4))) w6 fun r0=>R (.tuple #[r0,.iface 129 (.int .i64 60)]) w6) (La 2 x2 w4 fun x21=>Lc (x2.add 0) w4 fun v23=>onI v23 fun x23=>Lc (x2.add 1) w4 fun v27=>onI v27 fun x27=>Rd Tryz.prog (Instr.build 120 #[(0,.agg x21),(3,.int .i64 x23),(4,.int .i64 x1),(5,.int .i64 (IntKind.i64.wrap (x1+x27)))]) w4 fun v29=>onG v29 fun x29=>Sa 8 x4 x29 w4 fun w7=>Rd Tryz.prog (Instr.loadAt 120 (.pointer (some x4))) w7 fun r0=>R (.tuple #[r0,.nilIface]) w7)))
noncomputable def b206:Code:=Tryz.f206.body.getD .skip
theorem c206 {R:Ko} {x0:Array Value} {x1:Int} {w:World} (h:F206 R x0 x1 w):Ct Tryz.prog 206 #[.agg x0,.int .i64 x1] w R :=
 ctS (args:=[.agg x0,.int .i64 x1]) (body:=b206) (n:=30) (rs:=[.cell 4 120,.tmp 5]) Tryz.func206
  (sg (cuts:=[]) trivial h)
def F335_0 (R:Ko) (x1:Addr) (w:World):Prop:=Lc (x1.add 5) w fun v30=>onI v30 fun x30=>Ifm (decide ((x30:Int)<0)) (R (.iface 129 (.int .i64 270)) w) (Lc (x1.add 5) w fun v34=>onI v34 fun x34=>Lc ((x1.add 0).add 0) w fun v37=>onI v37 fun x37=>Ifm (decide ((x34:Int) > x37)) (R (.iface 129 (.int .i64 270)) w) (Lc (x1.add 6) w fun v42=>onI v42 fun x42=>Ifm (decide ((x42:Int)<0)) (R (.iface 129 (.int .i64 270)) w) (Lc (x1.add 6) w fun v47=>onI v47 fun x47=>Ifm (decide ((x47:Int) > 1073741824)) (R (.iface 129 (.int .i64 270)) w) (Lc (x1.add 7) w fun v52=>onI v52 fun x52=>Lc (x1.add 6) w fun v54=>onI v54 fun x54=>Lc ((x1.add 0).add 1) w fun v57=>onI v57 fun x57=>Ifm ((x52:Int) != (IntKind.i64.wrap (x54+x57))) (R (.iface 129 (.int .i64 270)) w) (R (.nilIface) w)))))
def F335 (R:Ko) (x0:Array Value) (w:World):Prop:=New (.cells (.agg x0:Value).cells 120) w fun x1 w1=>La 2 (x1.add 2) w1 fun x5=>Rd Tryz.prog (Bin .neq 35 (.tmp 5) (.tmp 6) (.agg x5) (.agg #[.int .i64 0,.int .i64 0])) w1 fun v7=>onB v7 fun x7=>La 2 (x1.add 0) w1 fun x10=>Ct Tryz.prog 201 #[.agg x10] w1 fun v11 w2=>Nl v11 fun x12=>Ifm (!x12) (Ifm (!x12) (R (.iface 129 (.int .i64 270)) w2) (F335_0 R x1 w2)) (Ifm x7 (La 2 (x1.add 2) w2 fun x16=>Ct Tryz.prog 201 #[.agg x16] w2 fun v17 w3=>Nl v17 fun x18=>Ifm (!x18) (R (.iface 129 (.int .i64 270)) w3) (La 2 (x1.add 2) w3 fun x21=>La 2 (x1.add 0) w3 fun x23=>Rd Tryz.prog (Bin .eql 35 (.tmp 21) (.tmp 23) (.agg x21) (.agg x23)) w3 fun v24=>onB v24 fun x24=>Ifm x24 (R (.iface 129 (.int .i64 270)) w3) (F335_0 R x1 w3))) (F335_0 R x1 w2))
noncomputable def b335:Code:=Tryz.f335.body.getD .skip
def q335_0:List Bool:=[false,true,true,false,false,true,true]
def L335_0 (F:Addr→World→Prop):Env→World→Prop:=fun ρ w=>onA (ρ 1) fun x1=>F x1 w
abbrev T335 (z:Fr) (R:Ko) (p:List Bool) (ρ:Env) (w:World):Prop:=TW z Tryz.prog 62 (segTodo b335 p) (QR Tryz.prog [.tmp 2] R) ρ w
theorem s335_0 (R:Ko):∀ ρ w,(L335_0 (F335_0 R)) ρ w→T335 z0 R q335_0 ρ w:=by
 intro ρ w h
 obtain ⟨x1,e1,h⟩:=onA_of h
 rw [← upds_same (ρ:=ρ) [(1,.pointer (some x1))] (alc e1 aln)]
 exact sg (cuts:=[]) trivial h
theorem c335 {R:Ko} {x0:Array Value} {w:World} (h:F335 R x0 w):Ct Tryz.prog 335 #[.agg x0] w R :=
 ctS (args:=[.agg x0]) (body:=b335) (n:=62) (rs:=[.tmp 2]) Tryz.func335
  (sg (cuts:=[(q335_0,L335_0 (F335_0 R))]) ⟨s335_0 R,trivial⟩ h)
def F263 (R:Ko) (x0:Array Value) (x1:Value) (w:World):Prop:=New (.cells (.agg x0:Value).cells 120) w fun x2 w1=>New (.cells (.agg #[.int .i64 0,.int .i64 0,.int .i64 0,.int .i64 0,.bool false,.int .i64 0,.int .i64 0,.int .i64 0]:Value).cells 120) w1 fun x4 w2=>La 8 x2 w2 fun x8=>Ct Tryz.prog 335 #[.agg x8] w2 fun v9 w3=>Nl v9 fun x11=>Ifm (!x11) (Sa 8 x4 (#[.int .i64 0,.int .i64 0,.int .i64 0,.int .i64 0,.bool false,.int .i64 0,.int .i64 0,.int .i64 0]) w3 fun w4=>Rd Tryz.prog (Instr.loadAt 120 (.pointer (some x4))) w4 fun r0=>R (.tuple #[r0,v9]) w4) (CallV Tryz.prog goB x1 #[.pointer (some x2)] w3 fun v15 w5=>Nl v15 fun x17=>Ifm (!x17) (Sa 8 x4 (#[.int .i64 0,.int .i64 0,.int .i64 0,.int .i64 0,.bool false,.int .i64 0,.int .i64 0,.int .i64 0]) w5 fun w6=>Rd Tryz.prog (Instr.loadAt 120 (.pointer (some x4))) w6 fun r0=>R (.tuple #[r0,v15]) w6) (La 8 x2 w5 fun x20=>Sa 8 x4 x20 w5 fun w7=>Rd Tryz.prog (Instr.loadAt 120 (.pointer (some x4))) w7 fun r0=>R (.tuple #[r0,.nilIface]) w7))
noncomputable def b263:Code:=Tryz.f263.body.getD .skip
theorem c263 {R:Ko} {x0:Array Value} {x1:Value} {w:World} (h:F263 R x0 x1 w):Ct Tryz.prog 263 #[.agg x0,x1] w R :=
 ctS (args:=[.agg x0,x1]) (body:=b263) (n:=21) (rs:=[.cell 4 120,.tmp 5]) Tryz.func263
  (sg (cuts:=[]) trivial h)
def F270 (R:Ko) (x0:Array Value) (w:World):Prop:=New (.cells (.agg x0:Value).cells 120) w fun x1 w1=>New (.cells (.agg #[.int .i64 0,.int .i64 0,.int .i64 0,.int .i64 0,.bool false,.int .i64 0,.int .i64 0,.int .i64 0]:Value).cells 120) w1 fun x2 w2=>La 8 x1 w2 fun x4=>Ct Tryz.prog 263 #[.agg x4,.func (.func 340) #[] #[]] w2 fun v5 w3=>on2 v5 fun y5_0 y5_1=>onG y5_0 fun x5_0=>Sa 8 x2 x5_0 w3 fun w4=>Rd Tryz.prog (Instr.loadAt 120 (.pointer (some x2))) w4 fun r0=>R (.tuple #[r0,y5_1]) w4
noncomputable def b270:Code:=Tryz.f270.body.getD .skip
theorem c270 {R:Ko} {x0:Array Value} {w:World} (h:F270 R x0 w):Ct Tryz.prog 270 #[.agg x0] w R :=
 ctS (args:=[.agg x0]) (body:=b270) (n:=8) (rs:=[.cell 2 120,.tmp 3]) Tryz.func270
  (sg (cuts:=[]) trivial h)
def F340 (R:Ko) (x0:Option Addr) (w:World):Prop:=onSome x0 fun x4=>Lc (x4.add 5) w fun v6=>onI v6 fun x6=>Ifm ((x6:Int) == 0) (R (.iface 129 (.int .i64 50)) w) (onSome x0 fun x10=>Lc (x10.add 5) w fun v12=>onI v12 fun x12=>onSome x0 fun x14=>Sc (x14.add 5) (.int .i64 (IntKind.i64.wrap (x12 - 1))) w fun w1=>R (.nilIface) w1)
noncomputable def b340:Code:=Tryz.f340.body.getD .skip
theorem c340 {R:Ko} {x0:Option Addr} {w:World} (h:F340 R x0 w):Ct Tryz.prog 340 #[.pointer x0] w R :=
 ctS (args:=[.pointer x0]) (body:=b340) (n:=16) (rs:=[.tmp 2]) Tryz.func340
  (sg (cuts:=[]) trivial h)
def F262 (R:Ko) (x0:Array Value) (x1:Array Value) (w:World):Prop:=New (.cells (.agg x0:Value).cells 120) w fun x2 w1=>New (.cells (.agg x1:Value).cells 35) w1 fun x3 w2=>New (.cells (.agg #[.int .i64 0,.int .i64 0,.int .i64 0,.int .i64 0,.bool false,.int .i64 0,.int .i64 0,.int .i64 0]:Value).cells 120) w2 fun x4 w3=>La 8 x2 w3 fun x6=>Ct Tryz.prog 263 #[.agg x6,.func (.func 334) #[] #[.pointer (some x3)]] w3 fun v8 w4=>on2 v8 fun y8_0 y8_1=>onG y8_0 fun x8_0=>Sa 8 x4 x8_0 w4 fun w5=>Rd Tryz.prog (Instr.loadAt 120 (.pointer (some x4))) w5 fun r0=>R (.tuple #[r0,y8_1]) w5
noncomputable def b262:Code:=Tryz.f262.body.getD .skip
theorem c262 {R:Ko} {x0:Array Value} {x1:Array Value} {w:World} (h:F262 R x0 x1 w):Ct Tryz.prog 262 #[.agg x0,.agg x1] w R :=
 ctS (args:=[.agg x0,.agg x1]) (body:=b262) (n:=11) (rs:=[.cell 4 120,.tmp 5]) Tryz.func262
  (sg (cuts:=[]) trivial h)
def F334 (R:Ko) (x0:Option Addr) (x1:Addr) (w:World):Prop:=La 2 x1 w fun x5=>Ct Tryz.prog 201 #[.agg x5] w fun v6 w1=>Nl v6 fun x8=>Ifm (!x8) (R v6 w1) (onSome x0 fun x11=>Lc (x11.add 4) w1 fun v13=>onB v13 fun x13=>Ifm x13 (R (.iface 129 (.int .i64 92)) w1) (La 2 x1 w1 fun x16=>onSome x0 fun x17=>Sa 2 (x17.add 2) x16 w1 fun w2=>La 2 x1 w2.drew fun x19=>onSome x0 fun x21=>La 2 (x21.add 0) w2.drew fun x23=>Rd Tryz.prog (Bin .eql 35 (.tmp 19) (.tmp 23) (.agg x19) (.agg x23)) w2.drew fun v24=>onB v24 fun x24=>Ifm x24 (onSome x0 fun x27=>Sa 2 (x27.add 2) (#[.int .i64 0,.int .i64 0]) w2.drew fun w3=>R (.nilIface) w3) (R (.nilIface) w2.drew)))
noncomputable def b334:Code:=Tryz.f334.body.getD .skip
theorem c334 {R:Ko} {x0:Option Addr} {x1:Addr} {w:World} (h:F334 R x0 x1 w):Ct Tryz.prog 334 #[.pointer x0,.pointer (some x1)] w R :=
 ctS (args:=[.pointer x0,.pointer (some x1)]) (body:=b334) (n:=29) (rs:=[.tmp 3]) Tryz.func334
  (sg (cuts:=[]) trivial h)
def F172 (R:Ko) (x0:Array Value) (w:World):Prop:=New (.cells (.agg x0:Value).cells 120) w fun x1 w1=>New (.cells (.agg #[.int .i64 0,.int .i64 0,.int .i64 0,.int .i64 0,.bool false,.int .i64 0,.int .i64 0,.int .i64 0]:Value).cells 120) w1 fun x2 w2=>La 8 x1 w2 fun x4=>Ct Tryz.prog 263 #[.agg x4,.func (.func 264) #[] #[]] w2 fun v5 w3=>on2 v5 fun y5_0 y5_1=>onG y5_0 fun x5_0=>Sa 8 x2 x5_0 w3 fun w4=>Rd Tryz.prog (Instr.loadAt 120 (.pointer (some x2))) w4 fun r0=>R (.tuple #[r0,y5_1]) w4
noncomputable def b172:Code:=Tryz.f172.body.getD .skip
theorem c172 {R:Ko} {x0:Array Value} {w:World} (h:F172 R x0 w):Ct Tryz.prog 172 #[.agg x0] w R :=
 ctS (args:=[.agg x0]) (body:=b172) (n:=8) (rs:=[.cell 2 120,.tmp 3]) Tryz.func172
  (sg (cuts:=[]) trivial h)
def F264 (R:Ko) (x0:Option Addr) (w:World):Prop:=onSome x0 fun x4=>Lc (x4.add 4) w fun v6=>onB v6 fun x6=>Ifm x6 (R (.iface 129 (.int .i64 92)) w) (onSome x0 fun x9=>Sc (x9.add 4) (.bool true) w fun w1=>R (.nilIface) w1)
noncomputable def b264:Code:=Tryz.f264.body.getD .skip
theorem c264 {R:Ko} {x0:Option Addr} {w:World} (h:F264 R x0 w):Ct Tryz.prog 264 #[.pointer x0] w R :=
 ctS (args:=[.pointer x0]) (body:=b264) (n:=11) (rs:=[.tmp 2]) Tryz.func264
  (sg (cuts:=[]) trivial h)
def F278 (R:Ko) (x0:Array Value) (x1:Int) (w:World):Prop:=New (.cells (.agg x0:Value).cells 120) w fun x2 w1=>New (.cells (.int .i64 x1:Value).cells 3) w1 fun x3 w2=>New (.cells (.agg #[.int .i64 0,.int .i64 0,.int .i64 0,.int .i64 0,.bool false,.int .i64 0,.int .i64 0,.int .i64 0]:Value).cells 120) w2 fun x4 w3=>New (.cells (.bool false:Value).cells 4) w3 fun x7 w4=>Sc x7 (.bool false) w4 fun w5=>La 8 x2 w5 fun x11=>Ct Tryz.prog 263 #[.agg x11,.func (.func 347) #[] #[.pointer (some x3),.pointer (some x7)]] w5 fun v13 w6=>on2 v13 fun y13_0 y13_1=>onG y13_0 fun x13_0=>New (.cells (.agg #[.int .i64 0,.int .i64 0,.int .i64 0,.int .i64 0,.bool false,.int .i64 0,.int .i64 0,.int .i64 0]:Value).cells 120) w6 fun x8 w7=>Sa 8 x8 x13_0 w7 fun w8=>La 8 x8 w8.drew fun x16=>Lc x7 w8.drew fun v17=>onB v17 fun x17=>Sa 8 x4 x16 w8.drew fun w9=>Hc x7 (.bool x17) w9∧Rd Tryz.prog (Instr.loadAt 120 (.pointer (some x4))) w9 fun r0=>R (.tuple #[r0,.bool x17,y13_1]) w9
noncomputable def b278:Code:=Tryz.f278.body.getD .skip
theorem c278 {R:Ko} {x0:Array Value} {x1:Int} {w:World} (h:F278 R x0 x1 w):Ct Tryz.prog 278 #[.agg x0,.int .i64 x1] w R :=
 ctS (args:=[.agg x0,.int .i64 x1]) (body:=b278) (n:=19) (rs:=[.cell 4 120,.tmp 5,.tmp 6]) Tryz.func278
  (sg (cuts:=[]) trivial h)
def F347_0 (R:Ko) (x0:Option Addr) (x1:Addr) (w:World):Prop:=onSome x0 fun x41=>La 2 (x41.add 0) w.drew fun x43=>onSome x0 fun x45=>Lc ((x45.add 0).add 0) w.drew fun v48=>onI v48 fun x48=>Lc x1 w.drew fun v49=>onI v49 fun x49=>Lc x1 w.drew fun v50=>onI v50 fun x50=>onSome x0 fun x52=>Lc ((x52.add 0).add 1) w.drew fun v55=>onI v55 fun x55=>Rd Tryz.prog (Instr.build 120 #[(0,.agg x43),(3,.int .i64 x48),(4,.int .i64 x49),(5,.int .i64 (IntKind.i64.wrap (x50+x55)))]) w.drew fun v57=>onG v57 fun x57=>onSome x0 fun x58=>Sa 8 x58 x57 w.drew fun w4=>R (.nilIface) w4
def F347 (R:Ko) (x0:Option Addr) (x1:Addr) (x2:Addr) (w:World):Prop:=Lc x1 w.drew fun v6=>onI v6 fun x6=>onSome x0 fun x8=>Lc (x8.add 7) w.drew fun v10=>onI v10 fun x10=>Ifm ((x6:Int) != x10) (R (.iface 129 (.int .i64 1)) w.drew) (Lc x1 w.drew fun v13=>onI v13 fun x13=>Ifm (decide ((x13:Int) > 1073741824)) (R (.iface 129 (.int .i64 60)) w.drew) (onSome x0 fun x17=>Lc (x17.add 4) w.drew fun v19=>onB v19 fun x19=>Ifm x19 (Sc x2 (.bool true) w.drew fun w1=>onSome x0 fun x31=>Sa 8 x31 (#[.int .i64 0,.int .i64 0,.int .i64 0,.int .i64 0,.bool false,.int .i64 0,.int .i64 0,.int .i64 0]) w1 fun w2=>R (.nilIface) w2) (onSome x0 fun x22=>La 2 (x22.add 2) w.drew fun x24=>Rd Tryz.prog (Bin .neq 35 (.tmp 24) (.tmp 25) (.agg x24) (.agg #[.int .i64 0,.int .i64 0])) w.drew fun v26=>onB v26 fun x26=>Ifm x26 (onSome x0 fun x34=>La 2 (x34.add 2) w.drew fun x36=>onSome x0 fun x37=>Sa 2 (x37.add 0) x36 w.drew fun w3=>F347_0 R x0 x1 w3) (F347_0 R x0 x1 w.drew))))
noncomputable def b347:Code:=Tryz.f347.body.getD .skip
def q347_0:List Bool:=[false,true,false,false,true]
def L347_0 (F:Option Addr→Addr→World→Prop):Env→World→Prop:=fun ρ w=>onP (ρ 0) fun x0=>onA (ρ 1) fun x1=>F x0 x1 w
abbrev T347 (z:Fr) (R:Ko) (p:List Bool) (ρ:Env) (w:World):Prop:=TW z Tryz.prog 59 (segTodo b347 p) (QR Tryz.prog [.tmp 4] R) ρ w
theorem s347_0 (R:Ko):∀ ρ w,(L347_0 (F347_0 R)) ρ w→T347 z0 R q347_0 ρ w:=by
 intro ρ w h
 obtain ⟨x0,e0,h⟩:=onP_of h
 obtain ⟨x1,e1,h⟩:=onA_of h
 rw [← upds_same (ρ:=ρ) [(0,.pointer x0),(1,.pointer (some x1))] (alc e0 (alc e1 aln))]
 exact sg (cuts:=[]) trivial h
theorem c347 {R:Ko} {x0:Option Addr} {x1:Addr} {x2:Addr} {w:World} (h:F347 R x0 x1 x2 w):Ct Tryz.prog 347 #[.pointer x0,.pointer (some x1),.pointer (some x2)] w R :=
 ctS (args:=[.pointer x0,.pointer (some x1),.pointer (some x2)]) (body:=b347) (n:=59) (rs:=[.tmp 4]) Tryz.func347
  (sg (cuts:=[(q347_0,L347_0 (F347_0 R))]) ⟨s347_0 R,trivial⟩ h)
def F301 (R:Ko) (x0:Array Value) (w:World):Prop:=New (.cells (.agg x0:Value).cells 120) w fun x1 w1=>La 8 x1 w1 fun x9=>Ct Tryz.prog 335 #[.agg x9] w1 fun v10 w2=>Nl v10 fun x12=>Ifm (!x12) (R (.tuple #[.int .i64 0,v10]) w2) (La 2 (x1.add 0) w2 fun x16=>Ct Tryz.prog 204 #[.agg x16] w2 fun v17 w3=>on2 v17 fun y17_0 y17_1=>onI y17_0 fun x17_0=>La 2 (x1.add 2) w3 fun x22=>Ct Tryz.prog 204 #[.agg x22] w3 fun v23 w4=>on2 v23 fun y23_0 y23_1=>onI y23_0 fun x23_0=>Rd Tryz.prog (Builtin.max_ #[3,3] 3 #[.int .i64 x17_0,.int .i64 x23_0]) w4 fun v28=>onI v28 fun x28=>R (.tuple #[.int .i64 x28,.nilIface]) w4)
noncomputable def b301:Code:=Tryz.f301.body.getD .skip
theorem c301 {R:Ko} {x0:Array Value} {w:World} (h:F301 R x0 w):Ct Tryz.prog 301 #[.agg x0] w R :=
 ctS (args:=[.agg x0]) (body:=b301) (n:=29) (rs:=[.tmp 2,.tmp 3]) Tryz.func301
  (sg (cuts:=[]) trivial h)
variable {K:Ko} {w:World}
structure Bg where
 nq:Int
 np:Int
 xq:Int
 xp:Int
 dy:Bool
 left:Int
 st:Int
 en:Int
 deriving DecidableEq
def Bg.cells (b:Bg):List Value:=[I b.nq,I b.np,I b.xq,I b.xp,.bool b.dy,I b.left,I b.st,I b.en]
def zB:Bg:=⟨0,0,0,0,false,0,0,0⟩
theorem Bg.one (b:Bg):∀ v∈b.cells,oneCell v=true:=by simp [Bg.cells,oneCell]
theorem Bg.len (b:Bg):b.cells.length=8:=rfl
def valR (q p:Int):Bool:=decide (1≤q) && decide (p≤1048576) && decide (q≤p)
def shareR (q p:Int):Int:=IntKind.i64.wrap ((IntKind.i64.wrap (IntKind.i64.wrap (IntKind.i64.wrap (q*1048576)+p) - 1)).tdiv p)
theorem rs35:intStruct Tryz.prog 35 2=true:=by kernel_rfl
theorem ld120:loadKind Tryz.prog 120=some (some 8):=by kernel_rfl
theorem eq35 {x y:Operand} (a b c d:Int) (w:World) (k:Value→Prop):Rd Tryz.prog (Bin .eql 35 x y (.agg #[I a,I b]) (.agg #[I c,I d])) w k=k (.bool (decide (a=c∧b=d))):=by
 have:=(eq_ints rs35 (x:=x) (y:=y) [a,b] [c,d] rfl rfl w k).1
 rw [show ([a,b] == [c,d])=decide (a=c∧b=d) by by_cases h1:a=c <;> by_cases h2:b=d <;> simp [h1,h2]] at this
 exact this
theorem ne35 {x y:Operand} (a b c d:Int) (w:World) (k:Value→Prop):Rd Tryz.prog (Bin .neq 35 x y (.agg #[I a,I b]) (.agg #[I c,I d])) w k=k (.bool !(decide (a=c∧b=d))):=by
 have:=(eq_ints rs35 (x:=x) (y:=y) [a,b] [c,d] rfl rfl w k).2
 rw [show ([a,b] == [c,d])=decide (a=c∧b=d) by by_cases h1:a=c <;> by_cases h2:b=d <;> simp [h1,h2]] at this
 exact this
theorem k201 {q p:Int} (h:∀ w',Kp No w w'→K (if valR q p=true then .nilIface else Er 2) w'):Ct Tryz.prog 201 #[.agg #[I q,I p]] w K:=by
 refine c201 ?_
 unfold F201
 refine new_k [I q,I p] fun w1 k1 b1 s1=>?_
 have h:=h w1 k1
 unfold valR at h
 simp only [Bool.and_eq_true,decide_eq_true_eq] at h
 simp only [SS,b1.rd (o:=0) (v:=I q) rfl,b1.rd (o:=1) (v:=I p) rfl]
 split
 ·rw [if_neg (by omega)] at h; exact h
 split
 ·rw [if_neg (by omega)] at h; exact h
 split
 ·rw [if_neg (by omega)] at h; exact h
 rw [if_pos (by omega)] at h; exact h
theorem k204 {q p:Int} (h:∀ w',Kp No w w'→K (if valR q p=true then .tuple #[I (shareR q p),.nilIface] else .tuple #[I 0,Er 2]) w'):Ct Tryz.prog 204 #[.agg #[I q,I p]] w K:=by
 refine c204 ?_
 unfold F204
 refine new_k [I q,I p] fun w1 k1 b1 s1=>?_
 have la:∀ k,La 2 ⟨w.heap.size,0,none⟩ w1 k=k #[I q,I p]:=fun k=>b1.la0 (n:=2) rfl k
 simp only [SS,la]
 refine k201 fun w2 k2=>?_
 have b2:Bk w2 w.heap.size [I q,I p] 35:=k2.bk b1 id
 have h:=h w2 (k1.trans k2)
 cases e:valR q p with
 | false=>rw [e] at h; rw [if_neg (by simp)] at h ⊢; simp only [SS]; exact h
 | true =>
  rw [e] at h
  rw [if_pos rfl] at h ⊢
  unfold valR at e
  simp only [Bool.and_eq_true,decide_eq_true_eq] at e
  simp only [SS,b2.rd (o:=0) (v:=I q) rfl,b2.rd (o:=1) (v:=I p) rfl,quo_c (show p≠0 by omega)]
  exact h
def validBg (b:Bg):Bool:=valR b.nq b.np && (decide (b.xq=0∧b.xp=0) || (valR b.xq b.xp && !decide (b.xq=b.nq∧b.xp=b.np))) &&
 decide (0≤b.left) && decide (b.left≤b.nq) && decide (0≤b.st) && decide (b.st≤1073741824) && decide (b.en=IntKind.i64.wrap (b.st+b.np))
theorem p335 {b:Bg} {x:Nat} {y:Bool} (hb:Bk w x b.cells 120) (h:K (if (y && decide (0≤b.left) && decide (b.left≤b.nq) && decide (0≤b.st) && decide (b.st≤1073741824) && decide (b.en=IntKind.i64.wrap (b.st+b.np)))=true then .nilIface else Er 270) w) (hy:y=true):F335_0 K ⟨x,0,none⟩ w:=by
 unfold F335_0
 subst hy
 simp only [Bool.and_eq_true,decide_eq_true_eq,true_and] at h
 simp only [SS,hb.rd (o:=5) (v:=I b.left) rfl,hb.rd (o:=0) (v:=I b.nq) rfl,hb.rd (o:=1) (v:=I b.np) rfl,hb.rd (o:=6) (v:=I b.st) rfl,hb.rd (o:=7) (v:=I b.en) rfl]
 split
 ·rw [if_neg (by omega)] at h; exact h
 split
 ·rw [if_neg (by omega)] at h; exact h
 split
 ·rw [if_neg (by omega)] at h; exact h
 split
 ·rw [if_neg (by omega)] at h; exact h
 split
 ·rw [if_pos (by rename_i e; refine ⟨⟨⟨⟨?_,?_⟩,?_⟩,?_⟩,e⟩ <;> omega)] at h; exact h
 ·rw [if_neg (by rename_i e; exact fun z=>e z.2)] at h; exact h
theorem k335 {b:Bg} (h:∀ w',Kp No w w'→K (if validBg b=true then .nilIface else Er 270) w'):Ct Tryz.prog 335 #[.agg b.cells.toArray] w K:=by
 refine c335 ?_
 unfold F335
 refine new_k b.cells fun w1 k1 b1 s1=>?_
 have la0:∀ w',Bk w' w.heap.size b.cells 120→∀ k,La 2 ⟨w.heap.size,0,none⟩ w' k=k #[I b.nq,I b.np]:=fun w' hb k=>by rw [hb.la (by simp [Bg.cells])]; rfl
 have la2:∀ w',Bk w' w.heap.size b.cells 120→∀ k,La 2 ⟨w.heap.size,2,none⟩ w' k=k #[I b.xq,I b.xp]:=fun w' hb k=>by rw [hb.la (by simp [Bg.cells])]; rfl
 simp only [SS,la0 w1 b1,la2 w1 b1,ne35]
 refine k201 fun w2 k2=>?_
 have b2:Bk w2 w.heap.size b.cells 120:=k2.bk b1 id
 have k02:=k1.trans k2
 unfold validBg at h
 cases e1:valR b.nq b.np with
 | false =>
  have:=h w2 k02
  rw [e1] at this
  rw [if_neg (by simp)]
  simp only [SS]
  simpa using this
 | true =>
 rw [if_pos rfl]
 simp only [SS]
 by_cases e2:b.xq=0∧b.xp=0
 ·simp only [e2,and_self,decide_true,SS]
  refine p335 b2 ?_ rfl
  have:=h w2 k02
  simpa [e1,e2] using this
 ·simp only [e2,decide_false,SS,la2 w2 b2]
  refine k201 fun w3 k3=>?_
  have b3:Bk w3 w.heap.size b.cells 120:=k3.bk b2 id
  have h3:=h w3 (k02.trans k3)
  cases e3:valR b.xq b.xp with
  | false =>
   rw [if_neg (by simp)]
   simp only [SS]
   simpa [e1,e2,e3] using h3
  | true =>
   rw [if_pos rfl]
   simp only [SS,la2 w3 b3,la0 w3 b3,eq35]
   by_cases e4:b.xq=b.nq∧b.xp=b.np
   ·rw [if_pos e4]
    rw [e1,e3,decide_eq_true e4,decide_eq_false e2] at h3
    simpa using h3
   ·rw [if_neg e4]
    refine p335 b3 ?_ rfl
    simpa [e1,e2,e3,e4] using h3
def outB (w0:World) (K:Ko):Except Int Bg→Prop
 | .error e=>∀ w',Kp No w0 w'→K (.tuple #[.agg zB.cells.toArray,Er e]) w'
 | .ok b=>∀ w',Kp No w0 w'→K (.tuple #[.agg b.cells.toArray,.nilIface]) w'
def newB (q p at_:Int):Except Int Bg:=if at_<0 then .error 1 else if valR q p=false then .error 2 else if at_ > 1073741824 then .error 60 else .ok ⟨q,p,0,0,false,q,at_,IntKind.i64.wrap (at_+p)⟩
theorem bld120 (a b c d e:Int) (w:World) (k:Value→Prop):Rd Tryz.prog (Instr.build 120 #[(0,.agg #[I a,I b]),(3,I c),(4,I d),(5,I e)]) w k=k (.agg (Bg.mk a b 0 0 false c d e).cells.toArray) :=
 build_f (vals:=[(0,.agg #[I a,I b]),(3,I c),(4,I d),(5,I e)]) (by kernel_rfl) (by kernel_rfl) w k
theorem k206 {q p at_:Int} (h:outB w K (newB q p at_)):Ct Tryz.prog 206 #[.agg #[I q,I p],I at_] w K:=by
 refine c206 ?_
 unfold F206
 refine new_k [I q,I p] fun w1 k1 b1 s1=>?_
 refine new_k zB.cells fun w2 k2 z2 s2=>?_
 have b2:Bk w2 w.heap.size [I q,I p] 35:=k2.bk b1 id
 have k02:=k1.trans k2
 have fail:∀ (w':World) (e:Int),Kp No w2 w'→(∀ w',Kp No w w'→K (.tuple #[.agg zB.cells.toArray,Er e]) w') →
   Sa 8 ⟨w1.heap.size,0,none⟩ zB.cells.toArray w' fun w5=>Rd Tryz.prog (Instr.loadAt 120 (.pointer (some ⟨w1.heap.size,0,none⟩))) w5 fun r0=>K (.tuple #[r0,Er e]) w5:=by
  intro w' e hk he
  exact res_k (c:=zB.cells) (cs:=zB.cells) (k:=fun r0 w4=>K (.tuple #[r0,Er e]) w4) ld120 (hk.bk z2 id) rfl rfl (Bg.one _) fun w4 k4=>he w4 ((k02.trans hk).own k4 (by omega))
 unfold newB at h
 simp only [SS]
 by_cases e1:at_<0
 ·rw [if_pos e1] at h ⊢; exact fail w2 1 (Kp.refl _ _) h
 rw [if_neg e1] at h ⊢
 have la:∀ w',Bk w' w.heap.size [I q,I p] 35→∀ k,La 2 ⟨w.heap.size,0,none⟩ w' k=k #[I q,I p]:=fun w' hb k=>hb.la0 (n:=2) rfl k
 simp only [la w2 b2]
 refine k201 fun w3 k3=>?_
 have b3:Bk w3 w.heap.size [I q,I p] 35:=k3.bk b2 id
 cases e2:valR q p with
 | false=>rw [e2,if_pos rfl] at h; rw [if_neg (by simp)]; simp only [SS]; exact fail w3 2 k3 h
 | true =>
 rw [e2,if_neg (by simp)] at h
 rw [if_pos rfl]
 simp only [SS]
 by_cases e3:at_ > 1073741824
 ·rw [if_pos e3] at h ⊢; exact fail w3 60 k3 h
 rw [if_neg e3] at h ⊢
 simp only [SS,la w3 b3,b3.rd (o:=0) (v:=I q) rfl,b3.rd (o:=1) (v:=I p) rfl,bld120]
 have z3:Bk w3 w1.heap.size zB.cells 120:=k3.bk z2 id
 exact res_k (c:=zB.cells) (cs:=(Bg.mk q p 0 0 false q at_ (IntKind.i64.wrap (at_+p))).cells) (k:=fun r0 w4=>K (.tuple #[r0,.nilIface]) w4) ld120 z3 rfl rfl (Bg.one _) fun w4 k4=>h w4 ((k02.trans k3).own k4 (by omega))
theorem k263 {b:Bg} {g:Nat} {cap:Array Value} {R:Except Int Bg} (S:Nat→Prop) (Q:World→Prop) (hS:∀ x,S x→x<w.heap.size) (hQ:∀ a b y,Q a→Kp (·=y) a b→w.heap.size≤y→Q b) (hQi:validBg b=false→∀ w',Kp No w w'→Q w') (hg:goB g=true)
  (hf:validBg b=true→∀ x w1,Kp No w w1→w.heap.size≤x→Bk w1 x b.cells 120→∀ (K':Ko),
   (match R with
    | .error e=>∀ w2,Kp (fun y=>y=x∨S y) w1 w2→Q w2→K' (Er e) w2
    | .ok b'=>∀ w2,Kp (fun y=>y=x∨S y) w1 w2→Q w2→Bk w2 x b'.cells 120→K' .nilIface w2)→Ct Tryz.prog g (#[Pt x 0]++cap) w1 K')
  (h:match (if validBg b=true then R else .error 270) with
   | .error e=>∀ w',Kp S w w'→Q w'→K (.tuple #[.agg zB.cells.toArray,Er e]) w'
   | .ok b'=>∀ w',Kp S w w'→Q w'→K (.tuple #[.agg b'.cells.toArray,.nilIface]) w'):Ct Tryz.prog 263 #[.agg b.cells.toArray,.func (.func g) #[] cap] w K:=by
 refine c263 ?_
 unfold F263
 refine new_k b.cells fun w1 k1 b1 s1=>?_
 refine new_k zB.cells fun w2 k2 z2 s2=>?_
 have b2:Bk w2 w.heap.size b.cells 120:=k2.bk b1 id
 have k02:=k1.trans k2
 simp only [b2.la0 (n:=8) b.len]
 refine k335 fun w3 k3=>?_
 have b3:Bk w3 w.heap.size b.cells 120:=k3.bk b2 id
 have z3:Bk w3 w1.heap.size zB.cells 120:=k3.bk z2 id
 have k03:=k02.trans k3
 cases e1:validBg b with
 | false =>
  rw [e1,if_neg (by simp)] at h
  rw [if_neg (by simp)]
  simp only [SS]
  exact res_k (c:=zB.cells) (cs:=zB.cells) (k:=fun r0 w4=>K (.tuple #[r0,Er 270]) w4) ld120 z3 rfl rfl (Bg.one _) fun w4 k4=>h w4 ((k03.own k4 (by omega)).mono fun _ _ x=>x.elim) (hQi e1 w4 (k03.own k4 (by omega)))
 | true =>
 rw [e1,if_pos rfl] at h
 rw [if_pos rfl]
 simp only [SS]
 refine ⟨hg,?_⟩
 show Ct Tryz.prog g (#[]++#[Pt w.heap.size 0]++cap) w3 _
 rw [Array.empty_append]
 refine hf e1 w.heap.size w3 k03 (Nat.le_refl _) b3 _ ?_
 have hne:∀ {w4:World},Kp (fun y=>y=w.heap.size∨S y) w3 w4→Bk w4 w1.heap.size zB.cells 120:=fun k4=>k4.bk z3 fun x=>by
  rcases x with x | x
  ·omega
  ·have:=hS _ x; omega
 have hk:∀ {w4:World},Kp (fun y=>y=w.heap.size∨S y) w3 w4→Kp S w w4:=fun k4=>(k03.mono fun _ _ x=>x.elim).step k4 fun i hi x=>by
  rcases x with x | x
  ·omega
  ·exact x
 cases R with
 | error e =>
  intro w4 k4 q4
  simp only [SS]
  exact res_k (c:=zB.cells) (cs:=zB.cells) (k:=fun r0 w4=>K (.tuple #[r0,Er e]) w4) ld120 (hne k4) rfl rfl (Bg.one _) fun w5 k5=>h w5 ((hk k4).own k5 (by omega)) (hQ _ _ _ q4 k5 (by omega))
 | ok b' =>
  intro w4 k4 q4 b4
  simp only [SS,b4.la0 (n:=8) b'.len]
  exact res_k (c:=zB.cells) (cs:=b'.cells) (k:=fun r0 w4=>K (.tuple #[r0,.nilIface]) w4) ld120 (hne k4) rfl rfl (Bg.one _) fun w5 k5=>h w5 ((hk k4).own k5 (by omega)) (hQ _ _ _ q4 k5 (by omega))
def takeB (b:Bg):Except Int Bg:=if validBg b=true then (if b.left=0 then .error 50 else .ok { b with left:=IntKind.i64.wrap (b.left - 1) }) else .error 270
def deleteB (b:Bg):Except Int Bg:=if validBg b=true then (if b.dy=true then .error 92 else .ok { b with dy:=true }) else .error 270
theorem k270 {b:Bg} (h:outB w K (takeB b)):Ct Tryz.prog 270 #[.agg b.cells.toArray] w K:=by
 refine c270 ?_
 unfold F270
 refine new_k b.cells fun w1 k1 b1 s1=>?_
 refine new_k zB.cells fun w2 k2 z2 s2=>?_
 have b2:Bk w2 w.heap.size b.cells 120:=k2.bk b1 id
 have k02:=k1.trans k2
 simp only [b2.la0 (n:=8) b.len]
 refine k263 (R:=if b.left=0 then .error 50 else .ok { b with left:=IntKind.i64.wrap (b.left - 1) }) No (fun _=>True) (fun _ x=>x.elim) (fun _ _ _ _ _ _=>trivial) (fun _ _ _=>trivial) (by kernel_rfl) (fun _ x w3 k3 hx b3 K' hK'=>?_) ?_
 ·refine c340 ?_
  unfold F340
  simp only [SS,b3.rd (o:=5) (v:=I b.left) rfl]
  by_cases e:b.left=0
  ·rw [if_pos e] at hK' ⊢; exact hK' w3 (Kp.refl _ _) trivial
  ·rw [if_neg e] at hK' ⊢
   exact sc_k b3 (by simp [Bg.cells]) rfl fun w4 k4 b4 s4=>hK' w4 (k4.mono fun _ _ e=>.inl e) trivial b4
 ·unfold takeB at h
  cases eR:(if validBg b=true then (if b.left=0 then Except.error 50 else Except.ok { b with left:=IntKind.i64.wrap (b.left - 1) }:Except Int Bg) else .error 270) with
  | error e =>
   rw [eR] at h
   intro w3 k3 _
   simp only [SS]
   exact res_k (c:=zB.cells) (cs:=zB.cells) (k:=fun r0 w4=>K (.tuple #[r0,Er e]) w4) ld120 (k3.bk z2 id) rfl rfl (Bg.one _) fun w4 k4=>h w4 ((k02.trans k3).own k4 (by omega))
  | ok b' =>
   rw [eR] at h
   intro w3 k3 _
   simp only [SS]
   exact res_k (c:=zB.cells) (cs:=b'.cells) (k:=fun r0 w4=>K (.tuple #[r0,.nilIface]) w4) ld120 (k3.bk z2 id) rfl rfl (Bg.one _) fun w4 k4=>h w4 ((k02.trans k3).own k4 (by omega))
theorem k172 {b:Bg} (h:outB w K (deleteB b)):Ct Tryz.prog 172 #[.agg b.cells.toArray] w K:=by
 refine c172 ?_
 unfold F172
 refine new_k b.cells fun w1 k1 b1 s1=>?_
 refine new_k zB.cells fun w2 k2 z2 s2=>?_
 have b2:Bk w2 w.heap.size b.cells 120:=k2.bk b1 id
 have k02:=k1.trans k2
 simp only [b2.la0 (n:=8) b.len]
 refine k263 (R:=if b.dy=true then .error 92 else .ok { b with dy:=true }) No (fun _=>True) (fun _ x=>x.elim) (fun _ _ _ _ _ _=>trivial) (fun _ _ _=>trivial) (by kernel_rfl) (fun _ x w3 k3 hx b3 K' hK'=>?_) ?_
 ·refine c264 ?_
  unfold F264
  simp only [SS,b3.rd (o:=4) (v:=.bool b.dy) rfl]
  cases e:b.dy with
  | true=>rw [e,if_pos rfl] at hK'; simp only [SS]; exact hK' w3 (Kp.refl _ _) trivial
  | false =>
   rw [e,if_neg (by simp)] at hK'
   simp only [SS]
   exact sc_k b3 (by simp [Bg.cells]) rfl fun w4 k4 b4 s4=>hK' w4 (k4.mono fun _ _ e=>.inl e) trivial b4
 ·unfold deleteB at h
  cases eR:(if validBg b=true then (if b.dy=true then Except.error 92 else Except.ok { b with dy:=true }:Except Int Bg) else .error 270) with
  | error e =>
   rw [eR] at h
   intro w3 k3 _
   simp only [SS]
   exact res_k (c:=zB.cells) (cs:=zB.cells) (k:=fun r0 w4=>K (.tuple #[r0,Er e]) w4) ld120 (k3.bk z2 id) rfl rfl (Bg.one _) fun w4 k4=>h w4 ((k02.trans k3).own k4 (by omega))
  | ok b' =>
   rw [eR] at h
   intro w3 k3 _
   simp only [SS]
   exact res_k (c:=zB.cells) (cs:=b'.cells) (k:=fun r0 w4=>K (.tuple #[r0,.nilIface]) w4) ld120 (k3.bk z2 id) rfl rfl (Bg.one _) fun w4 k4=>h w4 ((k02.trans k3).own k4 (by omega))
def resizeR (b:Bg) (q p:Int):Except Int Bg:=if valR q p=false then .error 2 else if b.dy=true then .error 92 else .ok (if q=b.nq∧p=b.np then { b with xq:=0,xp:=0 } else { b with xq:=q,xp:=p })
def resizeB (b:Bg) (q p:Int):Except Int Bg:=if validBg b=true then resizeR b q p else .error 270
theorem k262 {b:Bg} {q p:Int} (h:outB w K (resizeB b q p)):Ct Tryz.prog 262 #[.agg b.cells.toArray,.agg #[I q,I p]] w K:=by
 refine c262 ?_
 unfold F262
 refine new_k b.cells fun w1 k1 b1 s1=>?_
 refine new_k [I q,I p] fun w2 k2 r2 s2=>?_
 refine new_k zB.cells fun w3 k3 z3 s3=>?_
 have b3:Bk w3 w.heap.size b.cells 120:=k3.bk (k2.bk b1 id) id
 have r3:Bk w3 w1.heap.size [I q,I p] 35:=k3.bk r2 id
 have k03:=(k1.trans k2).trans k3
 simp only [b3.la0 (n:=8) b.len]
 refine k263 (R:=resizeR b q p) No (fun _=>True) (fun _ x=>x.elim) (fun _ _ _ _ _ _=>trivial) (fun _ _ _=>trivial) (by kernel_rfl) (fun _ x w4 k4 hx b4 K' hK'=>?_) ?_
 ·refine c334 ?_
  unfold F334
  have la:∀ w',Bk w' w1.heap.size [I q,I p] 35→∀ k,La 2 ⟨w1.heap.size,0,none⟩ w' k=k #[I q,I p]:=fun w' hb k=>hb.la0 (n:=2) rfl k
  have r4:Bk w4 w1.heap.size [I q,I p] 35:=k4.bk r3 id
  simp only [SS,la w4 r4]
  refine k201 fun w5 k5=>?_
  have b5:Bk w5 x b.cells 120:=k5.bk b4 id
  have r5:Bk w5 w1.heap.size [I q,I p] 35:=k5.bk r4 id
  unfold resizeR at hK'
  cases e1:valR q p with
  | false=>rw [e1,if_pos rfl] at hK'; rw [if_neg (by simp)]; simp only [SS]; exact hK' w5 (k5.no _) trivial
  | true =>
  rw [e1,if_neg (by simp)] at hK'
  rw [if_pos rfl]
  simp only [SS,b5.rd (o:=4) (v:=.bool b.dy) rfl]
  cases e2:b.dy with
  | true=>rw [if_pos e2] at hK'; simp only [SS]; exact hK' w5 (k5.no _) trivial
  | false =>
  rw [if_neg (by simp [e2])] at hK'
  simp only [SS,la w5 r5]
  have hxr:x≠w1.heap.size:=by omega
  refine sa_k (cs:=[I q,I p]) b5 rfl (by simp [Bg.cells]) (by simp [oneCell]) fun w6 k6 b6 s6=>?_
  have b6:Bk w6 x { b with xq:=q,xp:=p }.cells 120:=b6
  have r6:Bk w6 w1.heap.size [I q,I p] 35:=k6.bk r5 (fun e=>hxr e.symm)
  have la0:∀ k,La 2 ⟨x,0,none⟩ w6 k=k #[I b.nq,I b.np]:=fun k=>by rw [b6.la (by simp [Bg.cells])]; rfl
  simp only [SS,la w6 r6,la0,eq35]
  have k46:Kp (fun y=>y=x∨No y) w4 w6:=(k5.no _).trans (k6.mono fun _ _ e=>.inl e)
  by_cases e3:q=b.nq∧p=b.np
  ·rw [if_pos e3] at hK' ⊢
   refine sa_k (cs:=[I 0,I 0]) b6 rfl (by simp [Bg.cells]) (by simp [oneCell]) fun w7 k7 b7 s7=>?_
   exact hK' _ ((k46.trans (k7.mono fun _ _ e=>.inl e)).drR _) trivial b7
  ·rw [if_neg e3] at hK' ⊢
   exact hK' _ (k46.drR _) trivial b6
 ·unfold resizeB at h
  cases eR:(if validBg b=true then resizeR b q p else .error 270) with
  | error e =>
   rw [eR] at h
   intro w4 k4 _
   simp only [SS]
   exact res_k (c:=zB.cells) (cs:=zB.cells) (k:=fun r0 w4=>K (.tuple #[r0,Er e]) w4) ld120 (k4.bk z3 id) rfl rfl (Bg.one _) fun w5 k5=>h w5 ((k03.trans k4).own k5 (by omega))
  | ok b' =>
   rw [eR] at h
   intro w4 k4 _
   simp only [SS]
   exact res_k (c:=zB.cells) (cs:=b'.cells) (k:=fun r0 w4=>K (.tuple #[r0,.nilIface]) w4) ld120 (k4.bk z3 id) rfl rfl (Bg.one _) fun w5 k5=>h w5 ((k03.trans k4).own k5 (by omega))
def reservedB (b:Bg):Int:=if validBg b=true then (let s:=if valR b.nq b.np=true then shareR b.nq b.np else 0; let n:=if valR b.xq b.xp=true then shareR b.xq b.xp else 0; if s<n then n else s) else 0
theorem k301 {b:Bg} (h:∀ w' v,Kp No w w'→K (.tuple #[I (reservedB b),v]) w'):Ct Tryz.prog 301 #[.agg b.cells.toArray] w K:=by
 refine c301 ?_
 unfold F301
 refine new_k b.cells fun w1 k1 b1 s1=>?_
 simp only [b1.la0 (n:=8) b.len]
 refine k335 fun w2 k2=>?_
 have b2:Bk w2 w.heap.size b.cells 120:=k2.bk b1 id
 unfold reservedB at h
 cases e1:validBg b with
 | false=>rw [if_neg (by simp)]; simp only [SS]; have:=h w2 (Er 270) (k1.trans k2); rw [e1,if_neg (by simp)] at this; exact this
 | true =>
 rw [e1,if_pos rfl] at h
 rw [if_pos rfl]
 have la0:∀ w',Bk w' w.heap.size b.cells 120→∀ k,La 2 ⟨w.heap.size,0,none⟩ w' k=k #[I b.nq,I b.np]:=fun w' hb k=>by rw [hb.la (by simp [Bg.cells])]; rfl
 have la2:∀ w',Bk w' w.heap.size b.cells 120→∀ k,La 2 ⟨w.heap.size,2,none⟩ w' k=k #[I b.xq,I b.xp]:=fun w' hb k=>by rw [hb.la (by simp [Bg.cells])]; rfl
 simp only [SS,la0 w2 b2]
 refine k204 fun w3 k3=>?_
 have b3:Bk w3 w.heap.size b.cells 120:=k3.bk b2 id
 have fin:∀ s v3,(s=if valR b.nq b.np=true then shareR b.nq b.np else 0)→(on2 (.tuple #[I s,v3]) fun yv17_0 yv17_1=>onI yv17_0 fun xyv17_0=>La 2 ⟨w.heap.size,2,none⟩ w3 fun x22=>Ct Tryz.prog 204 #[.agg x22] w3 fun v23 w4=>on2 v23 fun yv23_0 yv23_1=>onI yv23_0 fun xyv23_0=>Rd Tryz.prog (Builtin.max_ #[3,3] 3 #[.int .i64 xyv17_0,.int .i64 xyv23_0]) w4 fun v28=>onI v28 fun x28=>K (.tuple #[.int .i64 x28,.nilIface]) w4):=by
  intro s v3 hs
  simp only [SS,la2 w3 b3]
  refine k204 fun w4 k4=>?_
  rw [← hs] at h
  have hh:=h w4 .nilIface (((k1.trans k2).trans k3).trans k4)
  cases e3:valR b.xq b.xp with
  | true=>rw [e3,if_pos rfl] at hh; rw [if_pos rfl]; simp only [SS,max_c]; exact hh
  | false=>simp only [e3,Bool.false_eq_true,if_false] at hh; rw [if_neg (by simp)]; simp only [SS,max_c]; exact hh
 cases e2:valR b.nq b.np with
 | true=>rw [if_pos rfl]; have:=fin (shareR b.nq b.np) .nilIface (by rw [e2,if_pos rfl]); simp only [SS] at this ⊢; exact this
 | false=>rw [if_neg (by simp)]; have:=fin 0 (Er 2) (by rw [e2,if_neg (by simp)]); simp only [SS] at this ⊢; exact this
end
end Go.Proofs.YtbgbidpecmepmaaGreatDoor
