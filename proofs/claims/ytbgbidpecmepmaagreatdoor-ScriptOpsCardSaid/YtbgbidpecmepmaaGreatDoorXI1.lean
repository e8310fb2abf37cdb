/-
  DERIVED: THE SHELF's CONTRACTS AT THIS DUMP, IN PLAIN WORDS (tools/lay-plain.mjs out of 'IterShelf.lean', which tools/lay-shelf.mjs wrote): THE SAME DECLARATIONS UNDER THE SAME NAMES: 'import', 'namespace', 'open', 'def', 'theorem' AND NOTHING ELSE: no command of the shelf's: FOR A HAND-IN. Each laying: the table of numbers ('.._ren') and one theorem, a field a fact of the dump's own or the kernel's comparison; each contract: ONE APPLICATION.
-/
import Derived.Shelf.SlGeneric
import Derived.Shelf.SlIter.Nil
import Derived.Shelf.SortM.Plain
import Derived.Shelf.SortM.SortNone
import Derived.Ground.GgzProg
import Derived.Ground.SlgmProg
import Derived.Test.YtbgbidpecmepmaaGreatDoorProg
namespace Go.Proofs
open Go.Shelf
def Tryz.keys46_ren:Go.Shelf.Ren:=⟨fun | 7=>46 | 10=>105 | n=>n,fun | 23=>130 | 26=>9 | 3=>33 | 28=>149 | 0=>0 | 27=>148 | 33=>196 | 4=>4 | n=>n,fun | n=>n⟩
theorem Tryz.keys46:Go.Proofs.SlLaysZ.n7 Tryz.prog Tryz.keys46_ren:={
 mixed:=by kernel_rfl
 f7:=⟨Tryz.f46.name,by decide,Tryz.func46.trans (congrArg some (by kernel_rfl))⟩
 f10:=⟨Tryz.f105.name,by decide,Tryz.func105.trans (congrArg some (by kernel_rfl))⟩
 t0:=Tryz.underlying0
 a0:=Tryz.isAgg0
 z0:=Tryz.sizeOf0
 v0:=Tryz.zeroValue0
 t4:=Tryz.underlying4
 a4:=Tryz.isAgg4
 z4:=Tryz.sizeOf4
 v4:=Tryz.zeroValue4
 t23:=Tryz.underlying130
 a23:=Tryz.isAgg130
 z23:=Tryz.sizeOf130
 v23:=Tryz.zeroValue130
 t26:=Tryz.underlying9
 a26:=Tryz.isAgg9
 z26:=Tryz.sizeOf9
 v26:=Tryz.zeroValue9
 t27:=Tryz.underlying148
 a27:=Tryz.isAgg148
 z27:=Tryz.sizeOf148
 v27:=Tryz.zeroValue148
 t28:=Tryz.underlying149
 a28:=Tryz.isAgg149
 z28:=Tryz.sizeOf149
 v28:=Tryz.zeroValue149
 t33:=Tryz.underlying196
 a33:=Tryz.isAgg196
 z33:=Tryz.sizeOf196
 v33:=Tryz.zeroValue196 }
def Tryz.sorted45_ren:Go.Shelf.Ren:=⟨fun | 6=>45 | 8=>103 | 9=>104 | 11=>182 | 13=>184 | 12=>183 | 23=>290 | 24=>291 | 14=>281 | 15=>282 | 16=>283 | 17=>284 | 18=>285 | 19=>286 | 20=>287 | 21=>288 | 22=>289 | 25=>349 | 26=>350 | 27=>351 | 28=>352 | 29=>353 | 30=>354 | 31=>387 | n=>n,fun | 26=>9 | 28=>149 | 24=>102 | 0=>0 | 3=>3 | 37=>344 | 48=>461 | 50=>413 | 4=>4 | 40=>454 | 39=>453 | 45=>458 | 5=>5 | 9=>9 | 51=>516 | 55=>514 | 57=>549 | 58=>550 | 33=>196 | n=>n,fun | n=>n⟩
theorem Tryz.sorted45:Go.Proofs.SlLaysZ.n6 Tryz.prog Tryz.sorted45_ren:={
 mixed:=by kernel_rfl
 f6:=⟨Tryz.f45.name,by decide,Tryz.func45.trans (congrArg some (by kernel_rfl))⟩
 f8:=⟨Tryz.f103.name,by decide,Tryz.func103.trans (congrArg some (by kernel_rfl))⟩
 f11:=⟨Tryz.f182.name,by decide,Tryz.func182.trans (congrArg some (by kernel_rfl))⟩
 t0:=Tryz.underlying0
 a0:=Tryz.isAgg0
 z0:=Tryz.sizeOf0
 v0:=Tryz.zeroValue0
 t24:=Tryz.underlying102
 a24:=Tryz.isAgg102
 z24:=Tryz.sizeOf102
 v24:=Tryz.zeroValue102
 t26:=Tryz.underlying9
 a26:=Tryz.isAgg9
 z26:=Tryz.sizeOf9
 v26:=Tryz.zeroValue9
 t28:=Tryz.underlying149
 a28:=Tryz.isAgg149
 z28:=Tryz.sizeOf149
 v28:=Tryz.zeroValue149
 i26:=by kernel_rfl }
def Tryz.sort104_ren:Go.Shelf.Ren:=⟨fun | 6=>104 | 8=>184 | 9=>183 | 19=>290 | 20=>291 | 21=>281 | 22=>282 | 23=>283 | 24=>284 | 25=>285 | 26=>286 | 27=>287 | 28=>288 | 29=>289 | 36=>349 | 31=>350 | 32=>351 | 37=>352 | 38=>353 | 39=>354 | 41=>387 | n=>n,fun | 27=>102 | 29=>9 | 3=>3 | 32=>344 | 26=>102 | 0=>0 | 44=>461 | 46=>413 | 4=>4 | 36=>454 | 35=>453 | 41=>458 | 5=>5 | 9=>9 | 53=>516 | 57=>514 | 63=>549 | 64=>550 | n=>n,fun | n=>n⟩
theorem Tryz.sort104:Go.Proofs.SlLaysM.n6 Tryz.prog Tryz.sort104_ren:={
 mixed:=by kernel_rfl
 f6:=⟨Tryz.f104.name,by decide,Tryz.func104.trans (congrArg some (by kernel_rfl))⟩
 f8:=Tryz.func184.trans (congrArg some (by kernel_rfl))
 f9:=⟨Tryz.f183.name,by decide,Tryz.func183.trans (congrArg some (by kernel_rfl))⟩
 f19:=Tryz.func290.trans (congrArg some (by kernel_rfl))
 f20:=Tryz.func291.trans (congrArg some (by kernel_rfl))
 f21:=⟨Tryz.f281.name,by decide,Tryz.func281.trans (congrArg some (by kernel_rfl))⟩
 f22:=⟨Tryz.f282.name,by decide,Tryz.func282.trans (congrArg some (by kernel_rfl))⟩
 f23:=⟨Tryz.f283.name,by decide,Tryz.func283.trans (congrArg some (by kernel_rfl))⟩
 f24:=⟨Tryz.f284.name,by decide,Tryz.func284.trans (congrArg some (by kernel_rfl))⟩
 f25:=⟨Tryz.f285.name,by decide,Tryz.func285.trans (congrArg some (by kernel_rfl))⟩
 f26:=⟨Tryz.f286.name,by decide,Tryz.func286.trans (congrArg some (by kernel_rfl))⟩
 f27:=⟨Tryz.f287.name,by decide,Tryz.func287.trans (congrArg some (by kernel_rfl))⟩
 f28:=⟨Tryz.f288.name,by decide,Tryz.func288.trans (congrArg some (by kernel_rfl))⟩
 f29:=⟨Tryz.f289.name,by decide,Tryz.func289.trans (congrArg some (by kernel_rfl))⟩
 f31:=Tryz.func350.trans (congrArg some (by kernel_rfl))
 f32:=Tryz.func351.trans (congrArg some (by kernel_rfl))
 f36:=⟨Tryz.f349.name,by decide,Tryz.func349.trans (congrArg some (by kernel_rfl))⟩
 f37:=⟨Tryz.f352.name,by decide,Tryz.func352.trans (congrArg some (by kernel_rfl))⟩
 f38:=⟨Tryz.f353.name,by decide,Tryz.func353.trans (congrArg some (by kernel_rfl))⟩
 f39:=⟨Tryz.f354.name,by decide,Tryz.func354.trans (congrArg some (by kernel_rfl))⟩
 f41:=⟨Tryz.f387.name,by decide,Tryz.func387.trans (congrArg some (by kernel_rfl))⟩
 t0:=Tryz.underlying0
 a0:=Tryz.isAgg0
 z0:=Tryz.sizeOf0
 v0:=Tryz.zeroValue0
 t3:=Tryz.underlying3
 a3:=Tryz.isAgg3
 z3:=Tryz.sizeOf3
 v3:=Tryz.zeroValue3
 t4:=Tryz.underlying4
 a4:=Tryz.isAgg4
 z4:=Tryz.sizeOf4
 v4:=Tryz.zeroValue4
 t5:=Tryz.underlying5
 a5:=Tryz.isAgg5
 z5:=Tryz.sizeOf5
 v5:=Tryz.zeroValue5
 t9:=Tryz.underlying9
 a9:=Tryz.isAgg9
 z9:=Tryz.sizeOf9
 v9:=Tryz.zeroValue9
 t26:=Tryz.underlying102
 a26:=Tryz.isAgg102
 z26:=Tryz.sizeOf102
 v26:=Tryz.zeroValue102
 t27:=Tryz.underlying102
 a27:=Tryz.isAgg102
 z27:=Tryz.sizeOf102
 v27:=Tryz.zeroValue102
 t29:=Tryz.underlying9
 a29:=Tryz.isAgg9
 z29:=Tryz.sizeOf9
 v29:=Tryz.zeroValue9
 t32:=Tryz.underlying344
 a32:=Tryz.isAgg344
 z32:=Tryz.sizeOf344
 v32:=Tryz.zeroValue344
 t35:=Tryz.underlying453
 a35:=Tryz.isAgg453
 z35:=Tryz.sizeOf453
 v35:=Tryz.zeroValue453
 t36:=Tryz.underlying454
 a36:=Tryz.isAgg454
 z36:=Tryz.sizeOf454
 v36:=Tryz.zeroValue454
 t41:=Tryz.underlying458
 a41:=Tryz.isAgg458
 z41:=Tryz.sizeOf458
 v41:=Tryz.zeroValue458
 t44:=Tryz.underlying461
 a44:=Tryz.isAgg461
 z44:=Tryz.sizeOf461
 v44:=Tryz.zeroValue461
 t46:=Tryz.underlying413
 a46:=Tryz.isAgg413
 z46:=Tryz.sizeOf413
 v46:=Tryz.zeroValue413
 t53:=Tryz.underlying516
 a53:=Tryz.isAgg516
 z53:=Tryz.sizeOf516
 v53:=Tryz.zeroValue516
 t57:=Tryz.underlying514
 a57:=Tryz.isAgg514
 z57:=Tryz.sizeOf514
 v57:=Tryz.zeroValue514
 t63:=Tryz.underlying549
 a63:=Tryz.isAgg549
 z63:=Tryz.sizeOf549
 v63:=Tryz.zeroValue549
 t64:=Tryz.underlying550
 a64:=Tryz.isAgg550
 z64:=Tryz.sizeOf550
 v64:=Tryz.zeroValue550 }
open Go.RowKit Go.Maps Go.Sort in
theorem Tryz.sorts45 (m:Nat):AnyZ.SortsIn Tryz.prog Tryz.sorted45_ren Fence.wide m :=
 ⟨fun blk off cap ss W hH hblk hsz=>callsIn_wide.2 (AnyM.slices_Sort_string Tryz.sort104 blk off cap ss W hH hblk hsz),
  fun p cap W=>callsIn_wide.2 (AnyM.slices_Sort_string_none Tryz.sort104 p cap W)⟩
open Go.RowKit Go.Maps Go.Sort in
theorem Tryz.maps_Keys_46 (mb:Option Nat) (W:World):CallsIn Fence.wide 5 Tryz.prog 46 #[.map mb] W fun e w'=>e=.returned (.func (.func 105) #[] #[.pointer (some ⟨W.heap.size,0,none⟩)])∧w'=W.alloc (.cells #[.map mb] 130) :=
 AnyZ.keys_in Tryz.keys46 Fence.wide 5 trivial rfl mb W
open Go.RowKit Go.Maps Go.Sort in
theorem Tryz.slices_Sorted_keys_45_46 {H:Type} (b nn:Nat) (D0:DataW H) (R:Value→Option (DataW H × List MemPlace)) (w:World) (hown:w.ownsMap Tryz.prog 9 R b nn D0) (hmax:Maps.size D0≤maxLen) (hbytes:Maps.size D0*16≤140737488355328) :
  CallsIn Fence.wide 5 Tryz.prog 45 #[.func (.func 105) #[] #[.pointer (some ⟨w.heap.size,0,none⟩)]] (w.alloc (.cells #[.map (some b)] 130)) fun e w'=>∃ (v:Value) (ss:List (List UInt8)),e=.returned v∧ss.Perm (strKeys D0) ∧
   w'.ownsRow (w.alloc (.cells #[.map (some b)] 130)).heap.size 9 1 v ss.length ((ss.mergeSort (fun x y=>decide (x≤y))).map encStr)∧(v=.slice none 0 0↔ss=[])∧Below (w.alloc (.cells #[.map (some b)] 130)).heap.size (w.alloc (.cells #[.map (some b)] 130)) w':=by
 have hbl:=hown.lt
 have hseq:SeqGives Fence.wide 2 Tryz.prog 105 #[.pointer (some ⟨w.heap.size,0,none⟩)] encStr (fun ss=>ss.Perm (strKeys D0)) (Maps.size D0) (w.alloc (.cells #[.map (some b)] 130)) :=
  AnyZ.keys_gives (ρ:=Tryz.keys46_ren) { Tryz.keys46 with } Fence.wide _ trivial rfl (by omega) w.heap.size b nn D0 _ (by simp) (by simp) (by
   obtain ⟨es,clock,hb,Ft,hs,hD⟩:=hown
   exact ⟨es,clock,(Below.heap_alloc _ _ b hbl).trans hb,Ft,hs,hD⟩)
 exact AnyZ.sorted_in Tryz.sorted45 Fence.wide 5 trivial trivial trivial trivial rfl (by omega) (Tryz.sorts45 _) (enters_of Tryz.func104 (by kernel_rfl) rfl) 105 #[.pointer (some ⟨w.heap.size,0,none⟩)] trivial (enters_of Tryz.func105 (by kernel_rfl) rfl) _ _ hmax hbytes _ hseq
open Go.RowKit Go.Maps Go.Sort in
theorem Tryz.slices_Sorted_keys_nil_45_46 (w:World) :
  CallsIn Fence.wide 5 Tryz.prog 45 #[.func (.func 105) #[] #[.pointer (some ⟨w.heap.size,0,none⟩)]] (w.alloc (.cells #[.map none] 130)) fun e w'=>∃ (v:Value) (ss:List (List UInt8)),e=.returned v∧ss=[] ∧
   w'.ownsRow (w.alloc (.cells #[.map none] 130)).heap.size 9 1 v ss.length ((ss.mergeSort (fun x y=>decide (x≤y))).map encStr)∧(v=.slice none 0 0↔ss=[])∧Below (w.alloc (.cells #[.map none] 130)).heap.size (w.alloc (.cells #[.map none] 130)) w':=by
 have hseq:SeqGives Fence.wide 2 Tryz.prog 105 #[.pointer (some ⟨w.heap.size,0,none⟩)] encStr (fun ss:List (List UInt8)=>ss=[]) 0 (w.alloc (.cells #[.map none] 130)) :=
  AnyZ.keys_gives_nil (ρ:=Tryz.keys46_ren) { Tryz.keys46 with } Fence.wide _ trivial rfl w.heap.size _ (by simp) (by simp)
 exact AnyZ.sorted_in Tryz.sorted45 Fence.wide 5 trivial trivial trivial trivial rfl (by omega) (Tryz.sorts45 _) (enters_of Tryz.func104 (by kernel_rfl) rfl) 105 #[.pointer (some ⟨w.heap.size,0,none⟩)] trivial (enters_of Tryz.func105 (by kernel_rfl) rfl) _ 0 (Nat.zero_le _) (by omega) _ hseq
end Go.Proofs
