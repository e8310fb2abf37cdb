/-
  DERIVED: THE SHELF's CONTRACTS AT THIS DUMP, IN PLAIN WORDS (tools/lay-plain.mjs out of 'TrimShelf.lean', which tools/lay-shelf.mjs wrote): THE SAME DECLARATIONS UNDER THE SAME NAMES: 'import', 'namespace', 'open', 'def', 'theorem' AND NOTHING ELSE: no command of the shelf's: FOR A HAND-IN. Each laying: the table of numbers ('.._ren') and one theorem, a field a fact of the dump's own or the kernel's comparison; each contract: ONE APPLICATION.
-/
import Derived.Shelf.Strings.Builder1
import Derived.Shelf.Small.Bits
import Derived.Shelf.Strings.BuilderF
import Derived.Shelf.Utf8.RuneCount
import Derived.Shelf.Strconv.Atoi
import Derived.Shelf.Strconv.Itoa0
import Derived.Shelf.Strconv.Itoa1
import Derived.Shelf.LaysM
import Derived.Shelf.Strconv.Itoa2
import Derived.Shelf.Strconv.Itoa3
import Derived.Shelf.Strconv.AtoiErrFast
import Derived.Shelf.Strconv.ParseIntEmpty
import Derived.Shelf.Strconv.Clone
import Derived.Shelf.Strconv.Lower
import Derived.Shelf.Strconv.ParseUint10Empty
import Derived.Shelf.Strconv.ParseUintEmpty
import Derived.Shelf.Strings.Search1
import Derived.Shelf.Strings.Search2
import Derived.Shelf.Strings.Search3
import Derived.Shelf.Strings.Cut
import Derived.Shelf.Strings.Count
import Derived.Shelf.Strings.Shaped
import Derived.Shelf.Sort.Plain
import Derived.Shelf.Strings.Prefix
import Derived.Shelf.Strings.Split
import Derived.Shelf.Strings.SplitShaped
import Derived.Shelf.Unicode.Decode
import Derived.Shelf.Strings.RuneCount
import Derived.Shelf.Strings.Explode
import Derived.Shelf.Unicode.DecodeSlow
import Derived.Shelf.Unicode.DecodeAny
import Derived.Shelf.Strings.FieldsFuncAny
import Derived.Ground.Names2Prog
import Derived.Shelf.Slices.SearchI
import Derived.Shelf.Slices.In.SortNone
import Derived.Test.YtbgbidpecmepmaaGreatDoorProg
namespace Go.Proofs
open Go.Shelf
def Tryz.lays170_ren:Go.Shelf.Ren:=⟨fun | 170=>252 | n=>n,fun | 70=>400 | 3=>3 | 0=>0 | 72=>403 | 37=>401 | 5=>5 | n=>n,fun | n=>n⟩
theorem Tryz.lays170:Go.Proofs.Lays.n170 Tryz.prog Tryz.lays170_ren:={
 mixed:=by kernel_rfl
 f170:=Tryz.func252.trans (congrArg some (by kernel_rfl))
 t0:=Tryz.underlying0
 a0:=Tryz.isAgg0
 z0:=Tryz.sizeOf0
 v0:=Tryz.zeroValue0
 t3:=Tryz.underlying3
 a3:=Tryz.isAgg3
 z3:=Tryz.sizeOf3
 v3:=Tryz.zeroValue3
 t37:=Tryz.underlying401
 a37:=Tryz.isAgg401
 z37:=Tryz.sizeOf401
 v37:=Tryz.zeroValue401
 t70:=Tryz.underlying400
 a70:=Tryz.isAgg400
 z70:=Tryz.sizeOf400
 v70:=Tryz.zeroValue400
 t72:=Tryz.underlying403
 a72:=Tryz.isAgg403
 z72:=Tryz.sizeOf403
 v72:=Tryz.zeroValue403 }
open Go.RowKit in
theorem Tryz.Builder_Len (B b:Nat) (bs:List Value) (w:World) (h:Lib.IsBuilder 403 5 B b bs w) :
  Calls Tryz.prog 252 #[.pointer (some ⟨b,0,none⟩)] w fun e w'=>e=.returned (.int .i64 bs.length)∧w'=w:=Any.Builder_Len Tryz.lays170 B b bs w h
def Tryz.lays169_ren:Go.Shelf.Ren:=⟨fun | 169=>249 | n=>n,fun | 70=>400 | 9=>9 | 0=>0 | 72=>403 | 37=>401 | 127=>497 | 3=>3 | 5=>5 | n=>n,fun | n=>n⟩
theorem Tryz.lays169:Go.Proofs.Lays.n169 Tryz.prog Tryz.lays169_ren:={
 mixed:=by kernel_rfl
 f169:=Tryz.func249.trans (congrArg some (by kernel_rfl))
 t0:=Tryz.underlying0
 a0:=Tryz.isAgg0
 z0:=Tryz.sizeOf0
 v0:=Tryz.zeroValue0
 t3:=Tryz.underlying3
 a3:=Tryz.isAgg3
 z3:=Tryz.sizeOf3
 v3:=Tryz.zeroValue3
 t9:=Tryz.underlying9
 a9:=Tryz.isAgg9
 z9:=Tryz.sizeOf9
 v9:=Tryz.zeroValue9
 t37:=Tryz.underlying401
 a37:=Tryz.isAgg401
 z37:=Tryz.sizeOf401
 v37:=Tryz.zeroValue401
 t70:=Tryz.underlying400
 a70:=Tryz.isAgg400
 z70:=Tryz.sizeOf400
 v70:=Tryz.zeroValue400
 t72:=Tryz.underlying403
 a72:=Tryz.isAgg403
 z72:=Tryz.sizeOf403
 v72:=Tryz.zeroValue403
 t127:=Tryz.underlying497
 a127:=Tryz.isAgg497
 z127:=Tryz.sizeOf497
 v127:=Tryz.zeroValue497 }
theorem Tryz.Builder_Extra_169:Builder.Extra Tryz.prog Tryz.lays169_ren:={
 sizeBuilder:=by kernel_rfl
 liesBuilder:=by kernel_rfl
 t5:=Tryz.underlying5
 a5:=Tryz.isAgg5
 z5:=Tryz.sizeOf5
 v5:=Tryz.zeroValue5
 infoByte:=by kernel_rfl
 cellsByte:=by kernel_rfl
 sizeByte:=by kernel_rfl
 neB5:=by decide }
open Go.RowKit in
theorem Tryz.Builder_String_any (B b:Nat) (l:List UInt8) (w:World) (h:Lib.IsBuilder 403 5 B b (Lib.byteCells l) w) (hBw:B≤w.heap.size) :
  Calls Tryz.prog 249 #[.pointer (some ⟨b,0,none⟩)] w fun e w'=>e=.returned (.string ⟨l.toArray⟩)∧Below B w w':=Any.Builder_String_any Tryz.lays169 Tryz.Builder_Extra_169 B b l w h hBw
def Tryz.lays172_ren:Go.Shelf.Ren:=⟨fun | 172=>394 | 244=>400 | 245=>401 | 247=>405 | 279=>406 | 280=>407 | 281=>408 | 282=>409 | 287=>413 | 316=>414 | 171=>34 | 205=>415 | 321=>417 | 322=>418 | 243=>82 | 246=>164 | 283=>254 | 284=>255 | 285=>256 | 286=>257 | 129=>291 | 317=>330 | 318=>331 | 319=>332 | 320=>333 | 337=>374 | 338=>375 | n=>n,fun | 9=>9 | 3=>3 | 75=>30 | 76=>365 | 4=>4 | 5=>5 | 167=>562 | 37=>401 | 0=>0 | 85=>563 | 2=>2 | 168=>565 | 53=>413 | 175=>570 | 46=>344 | 210=>574 | 127=>497 | 145=>579 | 143=>577 | 21=>21 | 171=>412 | 173=>416 | 212=>501 | 51=>461 | 20=>20 | 213=>502 | 232=>556 | 233=>557 | 80=>408 | n=>n,fun | 15=>5 | 16=>6 | 17=>1 | 18=>3 | 19=>4 | n=>n⟩
theorem Tryz.lays172:Go.Proofs.Lays.n172 Tryz.prog Tryz.lays172_ren:={
 mixed:=by kernel_rfl
 f129:=Tryz.func291.trans (congrArg some (by kernel_rfl))
 f171:=Tryz.func34.trans (congrArg some (by kernel_rfl))
 f172:=Tryz.func394.trans (congrArg some (by kernel_rfl))
 f205:=Tryz.func415.trans (congrArg some (by kernel_rfl))
 f243:=Tryz.func82.trans (congrArg some (by kernel_rfl))
 f244:=Tryz.func400.trans (congrArg some (by kernel_rfl))
 f245:=Tryz.func401.trans (congrArg some (by kernel_rfl))
 f246:=Tryz.func164.trans (congrArg some (by kernel_rfl))
 f247:=Tryz.func405.trans (congrArg some (by kernel_rfl))
 f279:=Tryz.func406.trans (congrArg some (by kernel_rfl))
 f280:=Tryz.func407.trans (congrArg some (by kernel_rfl))
 f281:=Tryz.func408.trans (congrArg some (by kernel_rfl))
 f282:=Tryz.func409.trans (congrArg some (by kernel_rfl))
 f283:=Tryz.func254.trans (congrArg some (by kernel_rfl))
 f284:=Tryz.func255.trans (congrArg some (by kernel_rfl))
 f285:=Tryz.func256.trans (congrArg some (by kernel_rfl))
 f286:=Tryz.func257.trans (congrArg some (by kernel_rfl))
 f287:=Tryz.func413.trans (congrArg some (by kernel_rfl))
 f316:=Tryz.func414.trans (congrArg some (by kernel_rfl))
 f317:=Tryz.func330.trans (congrArg some (by kernel_rfl))
 f318:=Tryz.func331.trans (congrArg some (by kernel_rfl))
 f319:=Tryz.func332.trans (congrArg some (by kernel_rfl))
 f320:=Tryz.func333.trans (congrArg some (by kernel_rfl))
 f321:=Tryz.func417.trans (congrArg some (by kernel_rfl))
 f322:=Tryz.func418.trans (congrArg some (by kernel_rfl))
 f337:=Tryz.func374.trans (congrArg some (by kernel_rfl))
 f338:=Tryz.func375.trans (congrArg some (by kernel_rfl))
 t0:=Tryz.underlying0
 a0:=Tryz.isAgg0
 z0:=Tryz.sizeOf0
 v0:=Tryz.zeroValue0
 t2:=Tryz.underlying2
 a2:=Tryz.isAgg2
 z2:=Tryz.sizeOf2
 v2:=Tryz.zeroValue2
 t3:=Tryz.underlying3
 a3:=Tryz.isAgg3
 z3:=Tryz.sizeOf3
 v3:=Tryz.zeroValue3
 t4:=Tryz.underlying4
 a4:=Tryz.isAgg4
 z4:=Tryz.sizeOf4
 v4:=Tryz.zeroValue4
 t5:=Tryz.underlying5
 a5:=Tryz.isAgg5
 z5:=Tryz.sizeOf5
 v5:=Tryz.zeroValue5
 t9:=Tryz.underlying9
 a9:=Tryz.isAgg9
 z9:=Tryz.sizeOf9
 v9:=Tryz.zeroValue9
 t20:=Tryz.underlying20
 a20:=Tryz.isAgg20
 z20:=Tryz.sizeOf20
 v20:=Tryz.zeroValue20
 t21:=Tryz.underlying21
 a21:=Tryz.isAgg21
 z21:=Tryz.sizeOf21
 v21:=Tryz.zeroValue21
 t37:=Tryz.underlying401
 a37:=Tryz.isAgg401
 z37:=Tryz.sizeOf401
 v37:=Tryz.zeroValue401
 t46:=Tryz.underlying344
 a46:=Tryz.isAgg344
 z46:=Tryz.sizeOf344
 v46:=Tryz.zeroValue344
 t51:=Tryz.underlying461
 a51:=Tryz.isAgg461
 z51:=Tryz.sizeOf461
 v51:=Tryz.zeroValue461
 t53:=Tryz.underlying413
 a53:=Tryz.isAgg413
 z53:=Tryz.sizeOf413
 v53:=Tryz.zeroValue413
 t75:=Tryz.underlying30
 a75:=Tryz.isAgg30
 z75:=Tryz.sizeOf30
 v75:=Tryz.zeroValue30
 t76:=Tryz.underlying365
 a76:=Tryz.isAgg365
 z76:=Tryz.sizeOf365
 v76:=Tryz.zeroValue365
 t85:=Tryz.underlying563
 a85:=Tryz.isAgg563
 z85:=Tryz.sizeOf563
 v85:=Tryz.zeroValue563
 t127:=Tryz.underlying497
 a127:=Tryz.isAgg497
 z127:=Tryz.sizeOf497
 v127:=Tryz.zeroValue497
 t143:=Tryz.underlying577
 a143:=Tryz.isAgg577
 z143:=Tryz.sizeOf577
 v143:=Tryz.zeroValue577
 t145:=Tryz.underlying579
 a145:=Tryz.isAgg579
 z145:=Tryz.sizeOf579
 v145:=Tryz.zeroValue579
 t167:=Tryz.underlying562
 a167:=Tryz.isAgg562
 z167:=Tryz.sizeOf562
 v167:=Tryz.zeroValue562
 t168:=Tryz.underlying565
 a168:=Tryz.isAgg565
 z168:=Tryz.sizeOf565
 v168:=Tryz.zeroValue565
 t171:=Tryz.underlying412
 a171:=Tryz.isAgg412
 z171:=Tryz.sizeOf412
 v171:=Tryz.zeroValue412
 t173:=Tryz.underlying416
 a173:=Tryz.isAgg416
 z173:=Tryz.sizeOf416
 v173:=Tryz.zeroValue416
 t175:=Tryz.underlying570
 a175:=Tryz.isAgg570
 z175:=Tryz.sizeOf570
 v175:=Tryz.zeroValue570
 t210:=Tryz.underlying574
 a210:=Tryz.isAgg574
 z210:=Tryz.sizeOf574
 v210:=Tryz.zeroValue574
 t212:=Tryz.underlying501
 a212:=Tryz.isAgg501
 z212:=Tryz.sizeOf501
 v212:=Tryz.zeroValue501
 t213:=Tryz.underlying502
 a213:=Tryz.isAgg502
 z213:=Tryz.sizeOf502
 t232:=Tryz.underlying556
 a232:=Tryz.isAgg556
 z232:=Tryz.sizeOf556
 v232:=Tryz.zeroValue556
 t233:=Tryz.underlying557
 a233:=Tryz.isAgg557
 z233:=Tryz.sizeOf557
 v233:=Tryz.zeroValue557
 g15:=by kernel_rfl
 g16:=by kernel_rfl
 g17:=by kernel_rfl
 g18:=by kernel_rfl
 g19:=by kernel_rfl }
open Go.RowKit in
theorem Tryz.strconv_Atoi (s:ByteArray) (n:Int) (hl:s.size≤18) (h:Lib.atoi s.data.toList=some n) (w:World) :
  Calls Tryz.prog 394 #[.string s] w fun e w'=>e=.returned (.tuple #[.int .i64 n,.nilIface])∧∃ t,w'=Lib.bytesWorld w 5 t:=Any.strconv_Atoi Tryz.lays172 s n hl h w
def Tryz.lays171_ren:Go.Shelf.Ren:=⟨fun | 171=>34 | 243=>82 | 246=>164 | 283=>254 | 284=>255 | 285=>256 | 286=>257 | 129=>291 | 317=>330 | 318=>331 | 319=>332 | 320=>333 | 337=>374 | 338=>375 | n=>n,fun | 3=>3 | 9=>9 | 2=>2 | 4=>4 | 171=>412 | 0=>0 | 53=>413 | 37=>401 | 5=>5 | 173=>416 | 212=>501 | 51=>461 | 20=>20 | 213=>502 | 46=>344 | 232=>556 | 233=>557 | n=>n,fun | 17=>1 | 18=>3 | 19=>4 | n=>n⟩
theorem Tryz.lays171:Go.Proofs.Lays.n171 Tryz.prog Tryz.lays171_ren:={
 mixed:=by kernel_rfl
 f129:=Tryz.func291.trans (congrArg some (by kernel_rfl))
 f171:=Tryz.func34.trans (congrArg some (by kernel_rfl))
 f243:=Tryz.func82.trans (congrArg some (by kernel_rfl))
 f246:=Tryz.func164.trans (congrArg some (by kernel_rfl))
 f283:=Tryz.func254.trans (congrArg some (by kernel_rfl))
 f284:=Tryz.func255.trans (congrArg some (by kernel_rfl))
 f285:=Tryz.func256.trans (congrArg some (by kernel_rfl))
 f286:=Tryz.func257.trans (congrArg some (by kernel_rfl))
 f317:=Tryz.func330.trans (congrArg some (by kernel_rfl))
 f318:=Tryz.func331.trans (congrArg some (by kernel_rfl))
 f319:=Tryz.func332.trans (congrArg some (by kernel_rfl))
 f320:=Tryz.func333.trans (congrArg some (by kernel_rfl))
 f337:=Tryz.func374.trans (congrArg some (by kernel_rfl))
 f338:=Tryz.func375.trans (congrArg some (by kernel_rfl))
 t0:=Tryz.underlying0
 a0:=Tryz.isAgg0
 z0:=Tryz.sizeOf0
 v0:=Tryz.zeroValue0
 t2:=Tryz.underlying2
 a2:=Tryz.isAgg2
 z2:=Tryz.sizeOf2
 v2:=Tryz.zeroValue2
 t3:=Tryz.underlying3
 a3:=Tryz.isAgg3
 z3:=Tryz.sizeOf3
 v3:=Tryz.zeroValue3
 t4:=Tryz.underlying4
 a4:=Tryz.isAgg4
 z4:=Tryz.sizeOf4
 v4:=Tryz.zeroValue4
 t5:=Tryz.underlying5
 a5:=Tryz.isAgg5
 z5:=Tryz.sizeOf5
 v5:=Tryz.zeroValue5
 t9:=Tryz.underlying9
 a9:=Tryz.isAgg9
 z9:=Tryz.sizeOf9
 v9:=Tryz.zeroValue9
 t20:=Tryz.underlying20
 a20:=Tryz.isAgg20
 z20:=Tryz.sizeOf20
 v20:=Tryz.zeroValue20
 t37:=Tryz.underlying401
 a37:=Tryz.isAgg401
 z37:=Tryz.sizeOf401
 v37:=Tryz.zeroValue401
 t46:=Tryz.underlying344
 a46:=Tryz.isAgg344
 z46:=Tryz.sizeOf344
 v46:=Tryz.zeroValue344
 t51:=Tryz.underlying461
 a51:=Tryz.isAgg461
 z51:=Tryz.sizeOf461
 v51:=Tryz.zeroValue461
 t53:=Tryz.underlying413
 a53:=Tryz.isAgg413
 z53:=Tryz.sizeOf413
 v53:=Tryz.zeroValue413
 t171:=Tryz.underlying412
 a171:=Tryz.isAgg412
 z171:=Tryz.sizeOf412
 v171:=Tryz.zeroValue412
 t173:=Tryz.underlying416
 a173:=Tryz.isAgg416
 z173:=Tryz.sizeOf416
 v173:=Tryz.zeroValue416
 t212:=Tryz.underlying501
 a212:=Tryz.isAgg501
 z212:=Tryz.sizeOf501
 v212:=Tryz.zeroValue501
 t213:=Tryz.underlying502
 a213:=Tryz.isAgg502
 z213:=Tryz.sizeOf502
 t232:=Tryz.underlying556
 a232:=Tryz.isAgg556
 z232:=Tryz.sizeOf556
 v232:=Tryz.zeroValue556
 t233:=Tryz.underlying557
 a233:=Tryz.isAgg557
 z233:=Tryz.sizeOf557
 v233:=Tryz.zeroValue557
 g17:=by kernel_rfl
 g18:=by kernel_rfl
 g19:=by kernel_rfl }
open Go.RowKit Go.Sort Go.Lib in
theorem Tryz.strconv_Itoa_small (i:Nat) (hi:i<100) (w:World) :
  Calls Tryz.prog 34 #[.int .i64 i] w fun e w'=>e=.returned (.string ⟨(Lib.decDigits i).toArray⟩)∧w'=w:=Any.strconv_Itoa_small Tryz.lays171 i hi w
def Tryz.lays145_ren:Go.Shelf.Ren:=⟨fun | 145=>155 | 220=>230 | 219=>315 | 217=>364 | 225=>365 | 224=>366 | 267=>367 | 266=>390 | 314=>391 | n=>n,fun | 9=>9 | 4=>4 | 59=>290 | 3=>3 | 5=>5 | 46=>344 | 146=>553 | 51=>461 | n=>n,fun | 1=>2 | n=>n⟩
theorem Tryz.lays145:Go.Proofs.Lays.n145 Tryz.prog Tryz.lays145_ren:={
 mixed:=by kernel_rfl
 f145:=Tryz.func155.trans (congrArg some (by kernel_rfl))
 f217:=Tryz.func364.trans (congrArg some (by kernel_rfl))
 f219:=Tryz.func315.trans (congrArg some (by kernel_rfl))
 f220:=Tryz.func230.trans (congrArg some (by kernel_rfl))
 f224:=Tryz.func366.trans (congrArg some (by kernel_rfl))
 f225:=Tryz.func365.trans (congrArg some (by kernel_rfl))
 f266:=Tryz.func390.trans (congrArg some (by kernel_rfl))
 f267:=Tryz.func367.trans (congrArg some (by kernel_rfl))
 f314:=Tryz.func391.trans (congrArg some (by kernel_rfl))
 t3:=Tryz.underlying3
 a3:=Tryz.isAgg3
 z3:=Tryz.sizeOf3
 v3:=Tryz.zeroValue3
 t4:=Tryz.underlying4
 a4:=Tryz.isAgg4
 z4:=Tryz.sizeOf4
 v4:=Tryz.zeroValue4
 t5:=Tryz.underlying5
 a5:=Tryz.isAgg5
 z5:=Tryz.sizeOf5
 v5:=Tryz.zeroValue5
 t9:=Tryz.underlying9
 a9:=Tryz.isAgg9
 z9:=Tryz.sizeOf9
 v9:=Tryz.zeroValue9
 t46:=Tryz.underlying344
 a46:=Tryz.isAgg344
 z46:=Tryz.sizeOf344
 v46:=Tryz.zeroValue344
 t51:=Tryz.underlying461
 a51:=Tryz.isAgg461
 z51:=Tryz.sizeOf461
 v51:=Tryz.zeroValue461
 t59:=Tryz.underlying290
 a59:=Tryz.isAgg290
 z59:=Tryz.sizeOf290
 v59:=Tryz.zeroValue290
 t146:=Tryz.underlying553
 a146:=Tryz.isAgg553
 z146:=Tryz.sizeOf553
 v146:=Tryz.zeroValue553
 g1:=by kernel_rfl }
open Go.RowKit Go.Lib in
theorem Tryz.strings_Cut (s sep:ByteArray) (m:Int) (w:World) (hs:s.size<4294967281) (hm:w.cell? ⟨2,0,none⟩=some (.int .i64 m)) :
  Calls Tryz.prog 155 #[.string s,.string sep] w fun e w'=>e=.returned (.tuple #[.string ⟨(Lib.cut s.data.toList sep.data.toList).1.toArray⟩,.string ⟨(Lib.cut s.data.toList sep.data.toList).2.1.toArray⟩,.bool (Lib.cut s.data.toList sep.data.toList).2.2])∧∃ n,w'=w.drewN n:=Any.strings_Cut Tryz.lays145 s sep m w hs hm
def Tryz.lays102_ren:Go.Shelf.Ren:=⟨fun | 102=>157 | 209=>234 | 207=>316 | n=>n,fun | 9=>9 | 4=>4 | 3=>3 | n=>n,fun | n=>n⟩
theorem Tryz.lays102:Go.Proofs.Lays.n102 Tryz.prog Tryz.lays102_ren:={
 mixed:=by kernel_rfl
 f102:=Tryz.func157.trans (congrArg some (by kernel_rfl))
 f207:=Tryz.func316.trans (congrArg some (by kernel_rfl))
 f209:=Tryz.func234.trans (congrArg some (by kernel_rfl))
 t3:=Tryz.underlying3
 a3:=Tryz.isAgg3
 z3:=Tryz.sizeOf3
 v3:=Tryz.zeroValue3
 t4:=Tryz.underlying4
 a4:=Tryz.isAgg4
 z4:=Tryz.sizeOf4
 v4:=Tryz.zeroValue4
 t9:=Tryz.underlying9
 a9:=Tryz.isAgg9
 z9:=Tryz.sizeOf9
 v9:=Tryz.zeroValue9 }
open Go.RowKit Go.Lib in
theorem Tryz.strings_TrimSuffix (s p:ByteArray) (w:World) (hs:s.size≤9223372036854775807) :
  Calls Tryz.prog 157 #[.string s,.string p] w fun e w'=>e=.returned (.string ⟨(Lib.trimSuffix s.data.toList p.data.toList).toArray⟩)∧w'=w:=Any.strings_TrimSuffix Tryz.lays102 s p w hs
def Tryz.lays146_ren:Go.Shelf.Ren:=⟨fun | 146=>392 | 221=>399 | 268=>402 | 138=>403 | 143=>404 | 195=>410 | 197=>411 | 218=>412 | 219=>315 | 260=>416 | 217=>364 | 225=>365 | 224=>366 | 267=>367 | 266=>390 | 314=>391 | n=>n,fun | 9=>9 | 31=>102 | 3=>3 | 4=>4 | 0=>0 | 105=>568 | 21=>21 | 5=>5 | 46=>344 | 119=>580 | 139=>583 | 138=>582 | 146=>553 | 51=>461 | n=>n,fun | 1=>2 | 3=>7 | 4=>8 | n=>n⟩
theorem Tryz.lays146:Go.Proofs.Lays.n146 Tryz.prog Tryz.lays146_ren:={
 mixed:=by kernel_rfl
 f138:=Tryz.func403.trans (congrArg some (by kernel_rfl))
 f143:=Tryz.func404.trans (congrArg some (by kernel_rfl))
 f146:=Tryz.func392.trans (congrArg some (by kernel_rfl))
 f195:=Tryz.func410.trans (congrArg some (by kernel_rfl))
 f197:=Tryz.func411.trans (congrArg some (by kernel_rfl))
 f217:=Tryz.func364.trans (congrArg some (by kernel_rfl))
 f218:=Tryz.func412.trans (congrArg some (by kernel_rfl))
 f219:=Tryz.func315.trans (congrArg some (by kernel_rfl))
 f221:=Tryz.func399.trans (congrArg some (by kernel_rfl))
 f224:=Tryz.func366.trans (congrArg some (by kernel_rfl))
 f225:=Tryz.func365.trans (congrArg some (by kernel_rfl))
 f260:=Tryz.func416.trans (congrArg some (by kernel_rfl))
 f266:=Tryz.func390.trans (congrArg some (by kernel_rfl))
 f267:=Tryz.func367.trans (congrArg some (by kernel_rfl))
 f268:=Tryz.func402.trans (congrArg some (by kernel_rfl))
 f314:=Tryz.func391.trans (congrArg some (by kernel_rfl))
 t0:=Tryz.underlying0
 a0:=Tryz.isAgg0
 z0:=Tryz.sizeOf0
 v0:=Tryz.zeroValue0
 t3:=Tryz.underlying3
 a3:=Tryz.isAgg3
 z3:=Tryz.sizeOf3
 v3:=Tryz.zeroValue3
 t4:=Tryz.underlying4
 a4:=Tryz.isAgg4
 z4:=Tryz.sizeOf4
 v4:=Tryz.zeroValue4
 t5:=Tryz.underlying5
 a5:=Tryz.isAgg5
 z5:=Tryz.sizeOf5
 v5:=Tryz.zeroValue5
 t9:=Tryz.underlying9
 a9:=Tryz.isAgg9
 z9:=Tryz.sizeOf9
 v9:=Tryz.zeroValue9
 t21:=Tryz.underlying21
 a21:=Tryz.isAgg21
 z21:=Tryz.sizeOf21
 v21:=Tryz.zeroValue21
 t31:=Tryz.underlying102
 a31:=Tryz.isAgg102
 z31:=Tryz.sizeOf102
 v31:=Tryz.zeroValue102
 t46:=Tryz.underlying344
 a46:=Tryz.isAgg344
 z46:=Tryz.sizeOf344
 v46:=Tryz.zeroValue344
 t51:=Tryz.underlying461
 a51:=Tryz.isAgg461
 z51:=Tryz.sizeOf461
 v51:=Tryz.zeroValue461
 t105:=Tryz.underlying568
 a105:=Tryz.isAgg568
 z105:=Tryz.sizeOf568
 v105:=Tryz.zeroValue568
 t119:=Tryz.underlying580
 a119:=Tryz.isAgg580
 z119:=Tryz.sizeOf580
 t138:=Tryz.underlying582
 a138:=Tryz.isAgg582
 z138:=Tryz.sizeOf582
 v138:=Tryz.zeroValue582
 t139:=Tryz.underlying583
 a139:=Tryz.isAgg583
 z139:=Tryz.sizeOf583
 v139:=Tryz.zeroValue583
 t146:=Tryz.underlying553
 a146:=Tryz.isAgg553
 z146:=Tryz.sizeOf553
 v146:=Tryz.zeroValue553
 g1:=by kernel_rfl
 g3:=by kernel_rfl
 g4:=by kernel_rfl }
open Go.RowKit Go.Lib in
theorem Tryz.strings_Split (s sep:ByteArray) (m:Int) (w:World) (hs:s.size<4294967281) (hm:w.cell? ⟨2,0,none⟩=some (.int .i64 m)) (h1:1≤sep.size) :
  Calls Tryz.prog 392 #[.string s,.string sep] w fun e w' =>
   e=.returned (.slice (some ⟨w.heap.size,0,none⟩) (Lib.countB s sep+1) (Lib.countB s sep+1))∧w'=w.alloc (.cells ((Lib.splitB sep 0 (Lib.countB s sep) s).map Value.string).toArray 9):=Any.strings_Split Tryz.lays146 (by kernel_rfl) s sep m w hs hm h1
def Tryz.lays229_ren:Go.Shelf.Ren:=⟨fun | 229=>232 | n=>n,fun | 9=>9 | 40=>396 | 31=>102 | 152=>489 | 3=>3 | 0=>0 | 4=>4 | 21=>21 | 154=>491 | n=>n,fun | n=>n⟩
theorem Tryz.lays229:Go.Proofs.Lays.n229 Tryz.prog Tryz.lays229_ren:={
 mixed:=by kernel_rfl
 f229:=Tryz.func232.trans (congrArg some (by kernel_rfl))
 t0:=Tryz.underlying0
 a0:=Tryz.isAgg0
 z0:=Tryz.sizeOf0
 v0:=Tryz.zeroValue0
 t3:=Tryz.underlying3
 a3:=Tryz.isAgg3
 z3:=Tryz.sizeOf3
 v3:=Tryz.zeroValue3
 t4:=Tryz.underlying4
 a4:=Tryz.isAgg4
 z4:=Tryz.sizeOf4
 v4:=Tryz.zeroValue4
 t9:=Tryz.underlying9
 a9:=Tryz.isAgg9
 z9:=Tryz.sizeOf9
 v9:=Tryz.zeroValue9
 t21:=Tryz.underlying21
 a21:=Tryz.isAgg21
 z21:=Tryz.sizeOf21
 v21:=Tryz.zeroValue21
 t31:=Tryz.underlying102
 a31:=Tryz.isAgg102
 z31:=Tryz.sizeOf102
 v31:=Tryz.zeroValue102
 t40:=Tryz.underlying396
 a40:=Tryz.isAgg396
 z40:=Tryz.sizeOf396
 v40:=Tryz.zeroValue396
 t152:=Tryz.underlying489
 a152:=Tryz.isAgg489
 z152:=Tryz.sizeOf489
 v152:=Tryz.zeroValue489
 t154:=Tryz.underlying491
 a154:=Tryz.isAgg491
 z154:=Tryz.sizeOf491
 v154:=Tryz.zeroValue491 }
open Go.RowKit Go.Lib in
theorem Tryz.strings_FieldsFunc_runes (g:Nat) (lb:Array Value) (eg:∀ args w,(callFunc g args).run Tryz.prog w=.ok (.enter g args) w) (p:Nat→Bool) (s:ByteArray) (w:World) (hs:s.size≤4294967296) (hp:PredAtRunes Tryz.prog g lb p w) :
  Calls Tryz.prog 232 #[.string s,.func (.func g) #[] lb] w fun e w'=>∃ A,e=.returned (.slice (some ⟨A,0,none⟩) (Lib.goFieldsP p s).length (Lib.goFieldsP p s).length)∧w.heap.size≤A ∧
   w'.ownsRow w.heap.size 9 1 (.slice (some ⟨A,0,none⟩) (Lib.goFieldsP p s).length (Lib.goFieldsP p s).length) (Lib.goFieldsP p s).length ((Lib.goFieldsP p s).map Value.string)∧Below w.heap.size w w':=Any.strings_FieldsFunc_runes Tryz.lays229 g lb eg p s w hs hp (by kernel_rfl) (by kernel_rfl)
end Go.Proofs
