/-
  The facts of this program that the calculus asks: which functions have a body; the shapes of its types; Rewriting rules for the words of the formulas; worlds that differ by drawn numbers alone; what stays as it was; Rows of equal parts; tables of slots in memory; An element laid behind a slice of one's own; some reads; Slices of one's own: read, written, copied; a remainder; a least one; Steps of a frame, the world behind each one a name of its own; Structs of numbers: equal or not; structs laid of parts.
-/
import Derived.Test.YtbgbidpecmepmaaGreatDoorM3
import Derived.Test.YtbgbidpecmepmaaGreatDoorProg
import Derived.Laws.OwnMore
import Derived.Laws.MakeOwn
import Derived.Below
import Derived.Great.BuildSlice
import Derived.Laws.StructEq
set_option maxRecDepth 100000
namespace Go.Proofs.YtbgbidpecmepmaaGreatDoor
section
namespace Sy
def tdB (t:Nat):TD:=cond (Nat.blt t 239) (cond (Nat.blt t 93) (cond (Nat.blt t 45) (cond (Nat.blt t 19) (cond (Nat.blt t 10) (cond (Nat.blt t 6) (cond (Nat.blt t 4) (cond (Nat.blt t 3) (cond (Nat.beq t 2) .ti .tx) (cond (Nat.beq t 3) .ti .tx)) (cond (Nat.blt t 5) (cond (Nat.beq t 4) .tb .tx) (cond (Nat.beq t 5) .tc .tx))) (cond (Nat.blt t 8) (cond (Nat.blt t 7) (cond (Nat.beq t 6) .tc .tx) (cond (Nat.beq t 7) .tg .tx)) (cond (Nat.blt t 9) (cond (Nat.beq t 8) .tg .tx) (cond (Nat.beq t 9) .ts .tx)))) (cond (Nat.blt t 14) (cond (Nat.blt t 12) (cond (Nat.blt t 11) (cond (Nat.beq t 10) .ts .tx) (cond (Nat.beq t 11) .ts .tx)) (cond (Nat.blt t 13) (cond (Nat.beq t 12) .tu .tx) (cond (Nat.beq t 13) .tg .tx))) (cond (Nat.blt t 16) (cond (Nat.blt t 15) (cond (Nat.beq t 14) .tg .tx) (cond (Nat.beq t 15) .tp .tx)) (cond (Nat.blt t 17) (cond (Nat.beq t 16) .tp .tx) (cond (Nat.blt t 18) (cond (Nat.beq t 17) .tp .tx) (cond (Nat.beq t 18) .tg .tx)))))) (cond (Nat.blt t 36) (cond (Nat.blt t 28) (cond (Nat.blt t 22) (cond (Nat.blt t 21) (cond (Nat.beq t 19) .tg .tx) (cond (Nat.beq t 21) .tr .tx)) (cond (Nat.blt t 26) (cond (Nat.beq t 22) .tl .tx) (cond (Nat.beq t 26) .tp .tx))) (cond (Nat.blt t 33) (cond (Nat.blt t 31) (cond (Nat.beq t 28) .tp .tx) (cond (Nat.beq t 31) (.t2 .tp .tx) .tx)) (cond (Nat.blt t 34) (cond (Nat.beq t 33) .ti .tx) (cond (Nat.blt t 35) (cond (Nat.beq t 34) .tg .tx) (cond (Nat.beq t 35) .tg .tx))))) (cond (Nat.blt t 40) (cond (Nat.blt t 38) (cond (Nat.blt t 37) (cond (Nat.beq t 36) .tg .tx) (cond (Nat.beq t 37) .tg .tx)) (cond (Nat.blt t 39) (cond (Nat.beq t 38) .tg .tx) (cond (Nat.beq t 39) .tg .tx))) (cond (Nat.blt t 42) (cond (Nat.blt t 41) (cond (Nat.beq t 40) .tg .tx) (cond (Nat.beq t 41) .tg .tx)) (cond (Nat.blt t 43) (cond (Nat.beq t 42) .tl .tx) (cond (Nat.blt t 44) (cond (Nat.beq t 43) .tg .tx) (cond (Nat.beq t 44) .tg .tx))))))) (cond (Nat.blt t 70) (cond (Nat.blt t 59) (cond (Nat.blt t 49) (cond (Nat.blt t 47) (cond (Nat.blt t 46) (cond (Nat.beq t 45) .tl .tx) (cond (Nat.beq t 46) .tg .tx)) (cond (Nat.blt t 48) (cond (Nat.beq t 47) .tg .tx) (cond (Nat.beq t 48) .tg .tx))) (cond (Nat.blt t 52) (cond (Nat.blt t 50) (cond (Nat.beq t 49) .tg .tx) (cond (Nat.beq t 50) (.t2 .tg .tg) .tx)) (cond (Nat.blt t 53) (cond (Nat.beq t 52) .tg .tx) (cond (Nat.blt t 54) (cond (Nat.beq t 53) .tg .tx) (cond (Nat.beq t 54) .tg .tx))))) (cond (Nat.blt t 65) (cond (Nat.blt t 63) (cond (Nat.blt t 62) (cond (Nat.beq t 59) .tl .tx) (cond (Nat.beq t 62) .tl .tx)) (cond (Nat.blt t 64) (cond (Nat.beq t 63) .tl .tx) (cond (Nat.beq t 64) .tg .tx))) (cond (Nat.blt t 67) (cond (Nat.blt t 66) (cond (Nat.beq t 65) .tg .tx) (cond (Nat.beq t 66) .tl .tx)) (cond (Nat.blt t 68) (cond (Nat.beq t 67) .tg .tx) (cond (Nat.blt t 69) (cond (Nat.beq t 68) .tg .tx) (cond (Nat.beq t 69) .tl .tx)))))) (cond (Nat.blt t 79) (cond (Nat.blt t 74) (cond (Nat.blt t 72) (cond (Nat.blt t 71) (cond (Nat.beq t 70) .tg .tx) (cond (Nat.beq t 71) .tg .tx)) (cond (Nat.blt t 73) (cond (Nat.beq t 72) .tl .tx) (cond (Nat.beq t 73) .tg .tx))) (cond (Nat.blt t 76) (cond (Nat.blt t 75) (cond (Nat.beq t 74) .tg .tx) (cond (Nat.beq t 75) .tl .tx)) (cond (Nat.blt t 77) (cond (Nat.beq t 76) .tl .tx) (cond (Nat.blt t 78) (cond (Nat.beq t 77) .tl .tx) (cond (Nat.beq t 78) .tl .tx))))) (cond (Nat.blt t 83) (cond (Nat.blt t 81) (cond (Nat.blt t 80) (cond (Nat.beq t 79) .tg .tx) (cond (Nat.beq t 80) .tg .tx)) (cond (Nat.blt t 82) (cond (Nat.beq t 81) .tg .tx) (cond (Nat.beq t 82) .tg .tx))) (cond (Nat.blt t 89) (cond (Nat.blt t 85) (cond (Nat.beq t 83) (.t3 .tg .tl .ti) .tx) (cond (Nat.beq t 85) (.t2 .tp .tb) .tx)) (cond (Nat.blt t 90) (cond (Nat.beq t 89) .tl .tx) (cond (Nat.blt t 91) (cond (Nat.beq t 90) .tg .tx) (cond (Nat.beq t 91) .tg .tx)))))))) (cond (Nat.blt t 168) (cond (Nat.blt t 122) (cond (Nat.blt t 108) (cond (Nat.blt t 102) (cond (Nat.blt t 99) (cond (Nat.blt t 94) (cond (Nat.beq t 93) .tl .tx) (cond (Nat.beq t 94) (.t4 .tg .tg .tg .tl) .tx)) (cond (Nat.blt t 100) (cond (Nat.beq t 99) .tl .tx) (cond (Nat.beq t 100) (.t2 .tl .tx) .tx))) (cond (Nat.blt t 105) (cond (Nat.blt t 103) (cond (Nat.beq t 102) .tl .tx) (cond (Nat.beq t 103) (.t2 .tl .tx) .tx)) (cond (Nat.blt t 106) (cond (Nat.beq t 105) .tp .tx) (cond (Nat.blt t 107) (cond (Nat.beq t 106) (.t2 .tp .tb) .tx) (cond (Nat.beq t 107) .tg .tx))))) (cond (Nat.blt t 115) (cond (Nat.blt t 112) (cond (Nat.blt t 111) (cond (Nat.beq t 108) .tg .tx) (cond (Nat.beq t 111) .tp .tx)) (cond (Nat.blt t 114) (cond (Nat.beq t 112) (.t2 .tp .tx) .tx) (cond (Nat.beq t 114) .tp .tx))) (cond (Nat.blt t 119) (cond (Nat.blt t 117) (cond (Nat.beq t 115) (.t2 .ti .tx) .tx) (cond (Nat.beq t 117) .tp .tx)) (cond (Nat.blt t 120) (cond (Nat.beq t 119) .tg .tx) (cond (Nat.blt t 121) (cond (Nat.beq t 120) .tg .tx) (cond (Nat.beq t 121) .tg .tx)))))) (cond (Nat.blt t 133) (cond (Nat.blt t 128) (cond (Nat.blt t 125) (cond (Nat.blt t 123) (cond (Nat.beq t 122) .tg .tx) (cond (Nat.beq t 123) .tp .tx)) (cond (Nat.blt t 127) (cond (Nat.beq t 125) .tp .tx) (cond (Nat.beq t 127) .tg .tx))) (cond (Nat.blt t 130) (cond (Nat.blt t 129) (cond (Nat.beq t 128) .tg .tx) (cond (Nat.beq t 129) .ti .tx)) (cond (Nat.blt t 131) (cond (Nat.beq t 130) .tm .tx) (cond (Nat.blt t 132) (cond (Nat.beq t 131) .tg .tx) (cond (Nat.beq t 132) .tg .tx))))) (cond (Nat.blt t 153) (cond (Nat.blt t 143) (cond (Nat.blt t 134) (cond (Nat.beq t 133) .tg .tx) (cond (Nat.beq t 134) .tg .tx)) (cond (Nat.blt t 145) (cond (Nat.beq t 143) .tm .tx) (cond (Nat.beq t 145) .tp .tx))) (cond (Nat.blt t 155) (cond (Nat.blt t 154) (cond (Nat.beq t 153) .tg .tx) (cond (Nat.beq t 154) .tg .tx)) (cond (Nat.blt t 157) (cond (Nat.beq t 155) .tg .tx) (cond (Nat.blt t 163) (cond (Nat.beq t 157) (.t3 .tg .ti .ti) .tx) (cond (Nat.beq t 163) (.t2 .tl .ti) .tx))))))) (cond (Nat.blt t 202) (cond (Nat.blt t 190) (cond (Nat.blt t 180) (cond (Nat.blt t 174) (cond (Nat.blt t 173) (cond (Nat.beq t 168) (.t3 .tg .tg .tl) .tx) (cond (Nat.beq t 173) .tg .tx)) (cond (Nat.blt t 178) (cond (Nat.beq t 174) .tg .tx) (cond (Nat.beq t 178) (.t2 .tg .tx) .tx))) (cond (Nat.blt t 184) (cond (Nat.blt t 182) (cond (Nat.beq t 180) (.t2 .tg .ti) .tx) (cond (Nat.beq t 182) (.t2 .tg .tx) .tx)) (cond (Nat.blt t 186) (cond (Nat.beq t 184) (.t2 .tg .ti) .tx) (cond (Nat.blt t 187) (cond (Nat.beq t 186) .tl .tx) (cond (Nat.beq t 187) (.t3 .tl .ti .tx) .tx))))) (cond (Nat.blt t 197) (cond (Nat.blt t 192) (cond (Nat.blt t 191) (cond (Nat.beq t 190) .tg .tx) (cond (Nat.beq t 191) .tg .tx)) (cond (Nat.blt t 195) (cond (Nat.beq t 192) (.t2 .tg .tx) .tx) (cond (Nat.beq t 195) (.t2 .ti .tb) .tx))) (cond (Nat.blt t 199) (cond (Nat.blt t 198) (cond (Nat.beq t 197) .tl .tx) (cond (Nat.beq t 198) .tg .tx)) (cond (Nat.blt t 200) (cond (Nat.beq t 199) .tg .tx) (cond (Nat.blt t 201) (cond (Nat.beq t 200) .tg .tx) (cond (Nat.beq t 201) .tg .tx)))))) (cond (Nat.blt t 213) (cond (Nat.blt t 208) (cond (Nat.blt t 205) (cond (Nat.blt t 204) (cond (Nat.beq t 202) .tp .tx) (cond (Nat.beq t 204) .tp .tx)) (cond (Nat.blt t 207) (cond (Nat.beq t 205) (.t2 .tp .tx) .tx) (cond (Nat.beq t 207) .tg .tx))) (cond (Nat.blt t 210) (cond (Nat.blt t 209) (cond (Nat.beq t 208) .tg .tx) (cond (Nat.beq t 209) .tg .tx)) (cond (Nat.blt t 211) (cond (Nat.beq t 210) .tg .tx) (cond (Nat.blt t 212) (cond (Nat.beq t 211) .tm .tx) (cond (Nat.beq t 212) .tg .tx))))) (cond (Nat.blt t 226) (cond (Nat.blt t 215) (cond (Nat.blt t 214) (cond (Nat.beq t 213) .tg .tx) (cond (Nat.beq t 214) .tg .tx)) (cond (Nat.blt t 220) (cond (Nat.beq t 215) .tg .tx) (cond (Nat.beq t 220) .tp .tx))) (cond (Nat.blt t 236) (cond (Nat.blt t 228) (cond (Nat.beq t 226) (.t2 .tl .tx) .tx) (cond (Nat.beq t 228) (.t2 .ti .tb) .tx)) (cond (Nat.blt t 237) (cond (Nat.beq t 236) .tg .tx) (cond (Nat.blt t 238) (cond (Nat.beq t 237) .tg .tx) (cond (Nat.beq t 238) .tg .tx))))))))) (cond (Nat.blt t 448) (cond (Nat.blt t 333) (cond (Nat.blt t 296) (cond (Nat.blt t 262) (cond (Nat.blt t 248) (cond (Nat.blt t 242) (cond (Nat.blt t 241) (cond (Nat.beq t 239) .tg .tx) (cond (Nat.beq t 241) .tg .tx)) (cond (Nat.blt t 243) (cond (Nat.beq t 242) .tg .tx) (cond (Nat.beq t 243) .tg .tx))) (cond (Nat.blt t 254) (cond (Nat.blt t 251) (cond (Nat.beq t 248) (.t3 .tg .ti .ti) .tx) (cond (Nat.beq t 251) (.t2 .tg .ti) .tx)) (cond (Nat.blt t 256) (cond (Nat.beq t 254) (.t2 .tl .ti) .tx) (cond (Nat.blt t 258) (cond (Nat.beq t 256) (.t3 .tg .ti .ti) .tx) (cond (Nat.beq t 258) (.t3 .tg .ti .ti) .tx))))) (cond (Nat.blt t 280) (cond (Nat.blt t 272) (cond (Nat.blt t 267) (cond (Nat.beq t 262) (.t2 .tp .tx) .tx) (cond (Nat.beq t 267) (.t2 .tg .ti) .tx)) (cond (Nat.blt t 277) (cond (Nat.beq t 272) (.t3 .tg .tl .ti) .tx) (cond (Nat.beq t 277) (.t3 .tg .tg .tx) .tx))) (cond (Nat.blt t 284) (cond (Nat.blt t 282) (cond (Nat.beq t 280) (.t2 .ti .ti) .tx) (cond (Nat.beq t 282) (.t3 .tg .tg .ti) .tx)) (cond (Nat.blt t 290) (cond (Nat.beq t 284) (.t2 .tl .ti) .tx) (cond (Nat.blt t 292) (cond (Nat.beq t 290) (.t3 .ts .ts .tb) .tx) (cond (Nat.beq t 292) (.t2 .tl .tb) .tx)))))) (cond (Nat.blt t 311) (cond (Nat.blt t 301) (cond (Nat.blt t 298) (cond (Nat.blt t 297) (cond (Nat.beq t 296) .tg .tx) (cond (Nat.beq t 297) .tg .tx)) (cond (Nat.blt t 299) (cond (Nat.beq t 298) (.t2 .tg .tb) .tx) (cond (Nat.beq t 299) .tm .tx))) (cond (Nat.blt t 303) (cond (Nat.blt t 302) (cond (Nat.beq t 301) .tp .tx) (cond (Nat.beq t 302) .tg .tx)) (cond (Nat.blt t 309) (cond (Nat.beq t 303) .tg .tx) (cond (Nat.blt t 310) (cond (Nat.beq t 309) .tl .tx) (cond (Nat.beq t 310) .tg .tx))))) (cond (Nat.blt t 318) (cond (Nat.blt t 313) (cond (Nat.blt t 312) (cond (Nat.beq t 311) .tg .tx) (cond (Nat.beq t 312) .tg .tx)) (cond (Nat.blt t 317) (cond (Nat.beq t 313) .tg .tx) (cond (Nat.beq t 317) .tu .tx))) (cond (Nat.blt t 324) (cond (Nat.blt t 319) (cond (Nat.beq t 318) .tg .tx) (cond (Nat.beq t 319) .tg .tx)) (cond (Nat.blt t 328) (cond (Nat.beq t 324) .tc .tx) (cond (Nat.blt t 330) (cond (Nat.beq t 328) (.t2 .tg .tx) .tx) (cond (Nat.beq t 330) (.t2 .tg .tx) .tx))))))) (cond (Nat.blt t 397) (cond (Nat.blt t 369) (cond (Nat.blt t 345) (cond (Nat.blt t 335) (cond (Nat.blt t 334) (cond (Nat.beq t 333) .tp .tx) (cond (Nat.beq t 334) .tg .tx)) (cond (Nat.blt t 344) (cond (Nat.beq t 335) .tg .tx) (cond (Nat.beq t 344) .tu .tx))) (cond (Nat.blt t 349) (cond (Nat.blt t 347) (cond (Nat.beq t 345) (.t2 .tg .ti) .tx) (cond (Nat.beq t 347) (.t3 .tg .ti .ti) .tx)) (cond (Nat.blt t 350) (cond (Nat.beq t 349) .tg .tx) (cond (Nat.blt t 365) (cond (Nat.beq t 350) .tg .tx) (cond (Nat.beq t 365) (.t2 .ti .tx) .tx))))) (cond (Nat.blt t 379) (cond (Nat.blt t 371) (cond (Nat.blt t 370) (cond (Nat.beq t 369) .tp .tx) (cond (Nat.beq t 370) .tg .tx)) (cond (Nat.blt t 377) (cond (Nat.beq t 371) .tg .tx) (cond (Nat.beq t 377) (.t2 .tg .ti) .tx))) (cond (Nat.blt t 384) (cond (Nat.blt t 382) (cond (Nat.beq t 379) (.t3 .tg .tg .ti) .tx) (cond (Nat.beq t 382) (.t2 .tg .ti) .tx)) (cond (Nat.blt t 386) (cond (Nat.beq t 384) (.t2 .tg .tl) .tx) (cond (Nat.blt t 389) (cond (Nat.beq t 386) (.t2 .tg .tl) .tx) (cond (Nat.beq t 389) (.t2 .tg .tx) .tx)))))) (cond (Nat.blt t 419) (cond (Nat.blt t 403) (cond (Nat.blt t 401) (cond (Nat.blt t 400) (cond (Nat.beq t 397) .tl .tx) (cond (Nat.beq t 400) .tp .tx)) (cond (Nat.blt t 402) (cond (Nat.beq t 401) .tl .tx) (cond (Nat.beq t 402) .tg .tx))) (cond (Nat.blt t 413) (cond (Nat.blt t 412) (cond (Nat.beq t 403) .tg .tx) (cond (Nat.beq t 412) .tg .tx)) (cond (Nat.blt t 416) (cond (Nat.beq t 413) .tu .tx) (cond (Nat.blt t 418) (cond (Nat.beq t 416) (.t2 .tl .ts) .tx) (cond (Nat.beq t 418) .tg .tx))))) (cond (Nat.blt t 433) (cond (Nat.blt t 425) (cond (Nat.blt t 420) (cond (Nat.beq t 419) .tg .tx) (cond (Nat.beq t 420) .tp .tx)) (cond (Nat.blt t 429) (cond (Nat.beq t 425) (.t2 .tx .tb) .tx) (cond (Nat.beq t 429) .tl .tx))) (cond (Nat.blt t 438) (cond (Nat.blt t 437) (cond (Nat.beq t 433) .tp .tx) (cond (Nat.beq t 437) .tl .tx)) (cond (Nat.blt t 439) (cond (Nat.beq t 438) .tg .tx) (cond (Nat.blt t 443) (cond (Nat.beq t 439) .tg .tx) (cond (Nat.beq t 443) (.t3 .ti .ti .ti) .tx)))))))) (cond (Nat.blt t 556) (cond (Nat.blt t 501) (cond (Nat.blt t 478) (cond (Nat.blt t 458) (cond (Nat.blt t 453) (cond (Nat.blt t 450) (cond (Nat.beq t 448) (.t2 .tp .tx) .tx) (cond (Nat.beq t 450) (.t3 .tg .tb .tx) .tx)) (cond (Nat.blt t 454) (cond (Nat.beq t 453) .ti .tx) (cond (Nat.beq t 454) (.t2 .ti .ti) .tx))) (cond (Nat.blt t 473) (cond (Nat.blt t 470) (cond (Nat.beq t 458) (.t2 .ti .tb) .tx) (cond (Nat.beq t 470) .tp .tx)) (cond (Nat.blt t 474) (cond (Nat.beq t 473) .tg .tx) (cond (Nat.blt t 475) (cond (Nat.beq t 474) .tg .tx) (cond (Nat.beq t 475) (.t3 .tg .ti .tl) .tx))))) (cond (Nat.blt t 489) (cond (Nat.blt t 485) (cond (Nat.blt t 482) (cond (Nat.beq t 478) (.t4 .tg .ti .ti .ti) .tx) (cond (Nat.beq t 482) (.t3 .tg .tl .ti) .tx)) (cond (Nat.blt t 486) (cond (Nat.beq t 485) (.t2 .tg .tb) .tx) (cond (Nat.beq t 486) (.t2 .tp .tx) .tx))) (cond (Nat.blt t 491) (cond (Nat.blt t 490) (cond (Nat.beq t 489) .tl .tx) (cond (Nat.beq t 490) .tg .tx)) (cond (Nat.blt t 495) (cond (Nat.beq t 491) .tg .tx) (cond (Nat.blt t 497) (cond (Nat.beq t 495) (.t3 .ti .ti .ti) .tx) (cond (Nat.beq t 497) .tp .tx)))))) (cond (Nat.blt t 533) (cond (Nat.blt t 512) (cond (Nat.blt t 504) (cond (Nat.blt t 502) (cond (Nat.beq t 501) .tg .tx) (cond (Nat.beq t 502) .tg .tx)) (cond (Nat.blt t 509) (cond (Nat.beq t 504) .tp .tx) (cond (Nat.beq t 509) (.t4 .ti .ti .ti .tb) .tx))) (cond (Nat.blt t 516) (cond (Nat.blt t 514) (cond (Nat.beq t 512) (.t4 .tg .ti .ti .tx) .tx) (cond (Nat.beq t 514) .tp .tx)) (cond (Nat.blt t 524) (cond (Nat.beq t 516) .tu .tx) (cond (Nat.blt t 527) (cond (Nat.beq t 524) (.t5 .tg .ti .ti .ti .tb) .tx) (cond (Nat.beq t 527) (.t4 .tg .ti .ti .ti) .tx))))) (cond (Nat.blt t 544) (cond (Nat.blt t 538) (cond (Nat.blt t 536) (cond (Nat.beq t 533) (.t2 .tg .tx) .tx) (cond (Nat.beq t 536) (.t2 .tp .tx) .tx)) (cond (Nat.blt t 539) (cond (Nat.beq t 538) .tg .tx) (cond (Nat.beq t 539) .tg .tx))) (cond (Nat.blt t 549) (cond (Nat.blt t 547) (cond (Nat.beq t 544) (.t2 .tg .tb) .tx) (cond (Nat.beq t 547) (.t2 .tg .tx) .tx)) (cond (Nat.blt t 550) (cond (Nat.beq t 549) .tp .tx) (cond (Nat.blt t 553) (cond (Nat.beq t 550) (.t2 .ti .ti) .tx) (cond (Nat.beq t 553) (.t2 .tx .tx) .tx))))))) (cond (Nat.blt t 586) (cond (Nat.blt t 577) (cond (Nat.blt t 565) (cond (Nat.blt t 562) (cond (Nat.blt t 557) (cond (Nat.beq t 556) .tg .tx) (cond (Nat.beq t 557) .tg .tx)) (cond (Nat.blt t 563) (cond (Nat.beq t 562) .ti .tx) (cond (Nat.beq t 563) (.t2 .ti .tx) .tx))) (cond (Nat.blt t 570) (cond (Nat.blt t 568) (cond (Nat.beq t 565) .tp .tx) (cond (Nat.beq t 568) (.t2 .tr .ti) .tx)) (cond (Nat.blt t 573) (cond (Nat.beq t 570) (.t2 .tu .tx) .tx) (cond (Nat.blt t 574) (cond (Nat.beq t 573) .tg .tx) (cond (Nat.beq t 574) .tg .tx))))) (cond (Nat.blt t 581) (cond (Nat.blt t 579) (cond (Nat.blt t 578) (cond (Nat.beq t 577) .tp .tx) (cond (Nat.beq t 578) .tg .tx)) (cond (Nat.blt t 580) (cond (Nat.beq t 579) .tg .tx) (cond (Nat.beq t 580) .tg .tx))) (cond (Nat.blt t 583) (cond (Nat.blt t 582) (cond (Nat.beq t 581) .tg .tx) (cond (Nat.beq t 582) .tg .tx)) (cond (Nat.blt t 584) (cond (Nat.beq t 583) .tg .tx) (cond (Nat.blt t 585) (cond (Nat.beq t 584) .tg .tx) (cond (Nat.beq t 585) .tg .tx)))))) (cond (Nat.blt t 600) (cond (Nat.blt t 592) (cond (Nat.blt t 588) (cond (Nat.blt t 587) (cond (Nat.beq t 586) .tg .tx) (cond (Nat.beq t 587) .tg .tx)) (cond (Nat.blt t 590) (cond (Nat.beq t 588) .tg .tx) (cond (Nat.beq t 590) .tc .tx))) (cond (Nat.blt t 594) (cond (Nat.blt t 593) (cond (Nat.beq t 592) .tr .tx) (cond (Nat.beq t 593) .tr .tx)) (cond (Nat.blt t 595) (cond (Nat.beq t 594) .tg .tx) (cond (Nat.blt t 599) (cond (Nat.beq t 595) .tg .tx) (cond (Nat.beq t 599) .tg .tx))))) (cond (Nat.blt t 606) (cond (Nat.blt t 604) (cond (Nat.blt t 601) (cond (Nat.beq t 600) .tg .tx) (cond (Nat.beq t 601) .tp .tx)) (cond (Nat.blt t 605) (cond (Nat.beq t 604) .tg .tx) (cond (Nat.beq t 605) .tg .tx))) (cond (Nat.blt t 608) (cond (Nat.blt t 607) (cond (Nat.beq t 606) .tl .tx) (cond (Nat.beq t 607) .tr .tx)) (cond (Nat.blt t 609) (cond (Nat.beq t 608) .tg .tx) (cond (Nat.blt t 610) (cond (Nat.beq t 609) .tg .tx) (cond (Nat.beq t 610) .tp .tx)))))))))
def goB (g:Nat):Bool:=cond (Nat.blt g 479) (!(Nat.beq g 0 || Nat.beq g 1 || Nat.beq g 102 || Nat.beq g 166 || Nat.beq g 167 || Nat.beq g 168 || Nat.beq g 259 || Nat.beq g 260 || Nat.beq g 261 || Nat.beq g 365 || Nat.beq g 373 || Nat.beq g 390 || Nat.beq g 412 || Nat.beq g 419 || Nat.beq g 420 || Nat.beq g 421 || Nat.beq g 422 || Nat.beq g 423 || Nat.beq g 424 || Nat.beq g 425 || Nat.beq g 426 || Nat.beq g 427 || Nat.beq g 428 || Nat.beq g 429 || Nat.beq g 430 || Nat.beq g 431 || Nat.beq g 432 || Nat.beq g 433 || Nat.beq g 434 || Nat.beq g 435 || Nat.beq g 436 || Nat.beq g 438 || Nat.beq g 439 || Nat.beq g 440 || Nat.beq g 441 || Nat.beq g 442 || Nat.beq g 443 || Nat.beq g 444 || Nat.beq g 445 || Nat.beq g 446 || Nat.beq g 447 || Nat.beq g 448 || Nat.beq g 450 || Nat.beq g 451 || Nat.beq g 452 || Nat.beq g 453 || Nat.beq g 454 || Nat.beq g 455 || Nat.beq g 456 || Nat.beq g 457 || Nat.beq g 458 || Nat.beq g 459 || Nat.beq g 460 || Nat.beq g 461 || Nat.beq g 462 || Nat.beq g 463 || Nat.beq g 464 || Nat.beq g 466 || Nat.beq g 467 || Nat.beq g 468 || Nat.beq g 469 || Nat.beq g 470 || Nat.beq g 471 || Nat.beq g 472 || Nat.beq g 473 || Nat.beq g 474 || Nat.beq g 475 || Nat.beq g 476 || Nat.beq g 477)) false
def goChk (P:Program) (g:Nat):Bool:=match P.funcs[g]? with
 | some fn=>cond (fn.name == "runtime.NumGoroutine") false (!fn.body.isNone)
 | none=>false
def goAll (P:Program):Nat→Bool
 | 0=>true
 | n+1=>cond (cond (goB n) (goChk P n) true) (goAll P n) false
theorem goAll_spec {P:Program}:∀ n,goAll P n=true→∀ g,g<n→goB g=true→goChk P g=true
 | 0,_,g,hg,_=>absurd hg (Nat.not_lt_zero g)
 | n+1,h,g,hg,hb=>by
  unfold goAll at h
  cases hc:cond (goB n) (goChk P n) true with
  | false=>rw [hc] at h; cases h
  | true =>
   rw [hc] at h
   rcases Nat.lt_or_ge g n with hlt | hge
   ·exact goAll_spec n h g hlt hb
   ·have:g=n:=by omega
    subst this
    rw [hb] at hc
    exact hc
theorem goAllB:goAll Tryz.prog 479=true:=by kernel_rfl
theorem goB_go:GoFn Tryz.prog goB:=by
 intro g hg args w
 have hlt:g<479:=by
  unfold goB at hg
  cases h:Nat.blt g 479 with
  | false=>rw [h] at hg; cases hg
  | true=>exact Nat.le_of_ble_eq_true h
 have hc:=goAll_spec _ goAllB g hlt hg
 unfold goChk at hc
 unfold callFunc
 rw [Sem.run_bind]
 simp only [program,Sem.run,Result.andThen_ok]
 split at hc
 ·rename_i fn hfn
  rw [hfn]
  cases h1:(fn.name == "runtime.NumGoroutine") with
  | true=>rw [h1] at hc; cases hc
  | false =>
   rw [h1] at hc
   simp only [cond,Bool.not_eq_true',Option.isNone_eq_false_iff] at hc
   have h2:fn.body.isNone=false:=by simpa using hc
   simp [h1,h2]
 ·cases hc
theorem mixedB:Tryz.prog.follows .mixedOrders=true:=by kernel_rfl
abbrev Bin (op:BinOp) (t:TypeId) (x y:Operand) (a b:Value):Sem Value:=do eqGuard op t x y a b; binOp op t a b
section
variable {z:Fr} {n:Nat} {ρ:Env} {w:World} {Q:Exit→Env→World→Prop}
theorem sg {cuts:List Cut} {body:Code} {p:List Bool} (H:AllC z Tryz.prog n body Q cuts) {F:Prop} (h:F) (hF:F=evS Tryz.prog goB tdB false n cuts Q 1000 body p ρ w:=by kernel_rfl) (hnd:z.r=none∨ndC body=true:=by exact .inl rfl):TW z Tryz.prog n (segTodo body p) Q ρ w :=
 seg (td:=tdB) goB_go mixedB (f:=1000) H hF h hnd
theorem sgY {cuts:List Cut} {body:Code} {p:List Bool} (H:AllC z Tryz.prog n body Q cuts) {F:Prop} (h:F) (hF:F=evS Tryz.prog goB tdB true n cuts Q 1000 body p ρ w:=by kernel_rfl) (hnd:z.r=none∨ndC body=true:=by exact .inl rfl):TW z Tryz.prog n (segTodo body p) Q ρ w :=
 segY (td:=tdB) goB_go mixedB (f:=1000) H hF h hnd
theorem lpT {body:Code} {p:List Bool} (I:Nat→Env→World→Prop) (step:∀ m ρ w,(∀ ρ' w',(∃ m',m'<m∧I m' ρ' w')→TW z Tryz.prog n (segTodo body p) Q ρ' w')→I m ρ w→TW z Tryz.prog n (segTodo body p) Q ρ w):∀ m ρ w,I m ρ w→TW z Tryz.prog n (segTodo body p) Q ρ w :=
 loop_TW goB_go mixedB I step
theorem ctS {f:FuncId} {fn:Func} {body:Code} {args:List Value} {rs:List ResultVar} {R:Ko} (hf:Tryz.prog.funcs[f]?=some fn) (h:TW z0 Tryz.prog n (segTodo body []) (QR Tryz.prog rs R) (argE args) w) (hb:fn.body=some body:=by kernel_rfl) (hn:fn.ntmps=n:=by kernel_rfl)
  (hrs:fn.results=rs.toArray:=by kernel_rfl) (hlen:rs.length≤5:=by decide) (hle:args.length≤n:=by simp) (hseg:segTodo body []=[.c [] body]:=by kernel_rfl):Ct Tryz.prog f args.toArray w R :=
 ct_of_TW hf hb hn hrs hlen hle hseg h
end
end Sy
end
section
namespace Sy
def dr (w:World) (d:Nat):World:={ w with drawn:=d }
theorem drew_eq (w:World):w.drew=dr w (w.drawn+1):=rfl
theorem dr_dr (w:World) (a b:Nat):dr (dr w a) b=dr w b:=rfl
theorem dr_heap (w:World) (a:Nat):(dr w a).heap=w.heap:=rfl
theorem dr_self (w:World):dr w w.drawn=w:=rfl
theorem cell_dr (w:World) (d:Nat) (a:Addr):(dr w d).cell? a=w.cell? a:=rfl
theorem frozen_dr (w:World) (d:Nat) (a:Addr):(dr w d).frozen? a=w.frozen? a:=rfl
theorem setCell_dr (w:World) (d:Nat) (a:Addr) (v:Value):(dr w d).setCell a v=dr (w.setCell a v) d:=rfl
theorem onI_eq (x:Int) (f:Int→Prop):onI (.int .i64 x) f=f x:=rfl
theorem onC_eq (x:Int) (f:Int→Prop):onC (.int .u8 x) f=f x:=rfl
theorem onU_eq (x:Int) (f:Int→Prop):onU (.int .u64 x) f=f x:=rfl
theorem onR_eq (x:Int) (f:Int→Prop):onR (.int .i32 x) f=f x:=rfl
theorem onB_eq (x:Bool) (f:Bool→Prop):onB (.bool x) f=f x:=rfl
theorem onS_eq (x:ByteArray) (f:ByteArray→Prop):onS (.string x) f=f x:=rfl
theorem onP_eq (x:Option Addr) (f:Option Addr→Prop):onP (.pointer x) f=f x:=rfl
theorem onA_eq (x:Addr) (f:Addr→Prop):onA (.pointer (some x)) f=f x:=rfl
theorem onL_eq (a:Option Addr) (l c:Nat) (f:Option Addr→Nat→Nat→Prop):onL (.slice a l c) f=f a l c:=rfl
theorem onG_eq (x:Array Value) (f:Array Value→Prop):onG (.agg x) f=f x:=rfl
theorem onM_eq (x:Option Nat) (f:Option Nat→Prop):onM (.map x) f=f x:=rfl
theorem on2_eq (a b:Value) (f:Value→Value→Prop):on2 (.tuple #[a,b]) f=f a b:=rfl
theorem on3_eq (a b c:Value) (f:Value→Value→Value→Prop):on3 (.tuple #[a,b,c]) f=f a b c:=rfl
theorem on4_eq (a b c d:Value) (f:Value→Value→Value→Value→Prop):on4 (.tuple #[a,b,c,d]) f=f a b c d:=rfl
theorem on5_eq (a b c d e:Value) (f:Value→Value→Value→Value→Value→Prop):on5 (.tuple #[a,b,c,d,e]) f=f a b c d e:=rfl
theorem onSome_eq (a:Addr) (f:Addr→Prop):onSome (some a) f=f a:=rfl
theorem Ifm_t (x y:Prop):Ifm true x y=x:=rfl
theorem Ifm_f (x y:Prop):Ifm false x y=y:=rfl
theorem Ifm_not (b:Bool) (x y:Prop):Ifm (!b) x y=Ifm b y x:=by cases b <;> rfl
theorem Ifm_dec (p:Prop) [Decidable p] (x y:Prop):Ifm (decide p) x y=if p then x else y:=by by_cases h:p <;> simp [h,Ifm]
theorem Ifm_eq (a b:Int) (x y:Prop):Ifm (a == b) x y=if a=b then x else y:=by rw [show (a == b)=decide (a=b) from rfl]; exact Ifm_dec _ _ _
theorem Ifm_ne (a b:Int) (x y:Prop):Ifm (a != b) x y=if a=b then y else x:=by rw [show (a != b) = !(a == b) from rfl,Ifm_not,Ifm_eq]
theorem Nl_nil (k:Bool→Prop):Nl .nilIface k=k true:=rfl
theorem Nl_if (t:TypeId) (v:Value) (k:Bool→Prop):Nl (.iface t v) k=k false:=rfl
theorem Lc_dr (a:Addr) (w:World) (d:Nat) (k:Value→Prop):Lc a (dr w d) k=Lc a w k:=rfl
theorem cellsAt_dr (w:World) (d:Nat) (a:Addr):∀ n i,cellsAt (dr w d) a i n=cellsAt w a i n
 | 0,_=>rfl
 | n+1,i=>by simp only [cellsAt,cell_dr,cellsAt_dr w d a n (i+1)]
theorem cellsA_dr (w:World) (d:Nat) (a:Addr) (n:Nat):cellsA (dr w d) a n=cellsA w a n:=by simp only [cellsA,cellsAt_dr]
theorem La_dr (n:Nat) (a:Addr) (w:World) (d:Nat) (k:Array Value→Prop):La n a (dr w d) k=La n a w k:=by simp only [La,cellsA_dr]
theorem Hc_dr (a:Addr) (v:Value) (w:World) (d:Nat):Hc a v (dr w d)=Hc a v w:=rfl
theorem Ha_dr (n:Nat) (a:Addr) (cs:Array Value) (w:World) (d:Nat):Ha n a cs (dr w d)=Ha n a cs w:=by simp only [Ha,cellsA_dr]
theorem Sc_dr (a:Addr) (v:Value) (w:World) (d:Nat) (k:World→Prop):Sc a v (dr w d) k=Sc a v w fun w=>k (dr w d):=rfl
theorem stAll_dr (a:Addr) (d:Nat):∀ (l:List Value) (i:Nat) (w:World),stAll a i l (dr w d)=(stAll a i l w).map (dr · d)
 | [],i,w=>rfl
 | v :: l,i,w=>by
  simp only [stAll,cell_dr,frozen_dr,setCell_dr,stAll_dr a d l]
  cases (oneCell v && (w.cell? (a.add i)).isSome && !w.frozen? (a.add i)) <;> rfl
theorem Sa_dr (n:Nat) (a:Addr) (cs:Array Value) (w:World) (d:Nat) (k:World→Prop):Sa n a cs (dr w d) k=Sa n a cs w fun w=>k (dr w d):=by
 simp only [Sa,stAll_dr]
 cases stAll a 0 cs.toList w <;> rfl
theorem agg_cells (cs:Array Value):(Value.agg cs).cells=cs:=rfl
theorem add_eq (b o n:Nat):(Addr.mk b o none).add n=⟨b,o+n,none⟩:=by by_cases h:n=0 <;> simp [Addr.add,h]
theorem New_eq (o:Obj) (w:World) (k:Addr→World→Prop):New o w k=k ⟨w.heap.size,0,none⟩ (w.alloc o):=rfl
theorem Fe_of {cs:Array Value} {n:Nat} {v:Value} (h:cs[n]?=some v) (k:Value→Prop):Fe cs n k=k v:=by simp [Fe,h]
theorem Lc_c {a:Addr} {w:World} {v:Value} (h:w.cell? a=some v) (k:Value→Prop):Lc a w k=k v:=by simp [Lc,h]
theorem Hc_c {a:Addr} {w:World} {v:Value} (h:w.cell? a=some v):Hc a v w=True:=by simp [Hc,h]
theorem Sc_c {a:Addr} {w:World} {u:Value} (h:w.cell? a=some u) (hf:w.frozen? a=false) (v:Value) (hv:oneCell v=true) (k:World→Prop):Sc a v w k=k (w.setCell a v):=by simp [Sc,h,hf,hv]
abbrev Bk (w:World) (b:Nat) (c:List Value) (T:TypeId):Prop:=w.heap[b]?=some (.cells c.toArray T (0,0))
theorem Bk.cell {w:World} {b:Nat} {c:List Value} {T:TypeId} (h:Bk w b c T) (o:Nat):w.cell? ⟨b,o,none⟩=c[o]?:=by simp [World.cell?,h]
theorem Bk.frozen {w:World} {b:Nat} {c:List Value} {T:TypeId} (h:Bk w b c T) (o:Nat):w.frozen? ⟨b,o,none⟩=false:=by simp [World.frozen?,h]
theorem Bk.lt {w:World} {b:Nat} {c:List Value} {T:TypeId} (h:Bk w b c T):b<w.heap.size:=(Array.getElem?_eq_some_iff.1 h).1
theorem Bk.set {w:World} {b:Nat} {c:List Value} {T:TypeId} (h:Bk w b c T) (o:Nat) (v:Value):Bk (w.setCell ⟨b,o,none⟩ v) b (c.set o v) T:=by
 simp [Bk,World.setCell,Array.getElem?_modify,h]
theorem heap_set {w:World} {b o k:Nat} {v:Value} (h:k≠b):(w.setCell ⟨b,o,none⟩ v).heap[k]?=w.heap[k]?:=by
 simp only [World.setCell,Array.getElem?_modify]; rw [if_neg (by omega)]
theorem Bk.rd {w:World} {b:Nat} {c:List Value} {T:TypeId} (h:Bk w b c T) {o:Nat} {v:Value} (hv:c[o]?=some v) (k:Value→Prop):Lc ⟨b,o,none⟩ w k=k v:=Lc_c (by rw [h.cell,hv]) k
theorem Bk.hc {w:World} {b:Nat} {c:List Value} {T:TypeId} (h:Bk w b c T) {o:Nat} {v:Value} (hv:c[o]?=some v):Hc ⟨b,o,none⟩ v w=True:=Hc_c (by rw [h.cell,hv])
theorem Bk.st {w:World} {b:Nat} {c:List Value} {T:TypeId} (h:Bk w b c T) {o:Nat} (ho:o<c.length) (v:Value) (hv:oneCell v=true) (k:World→Prop):Sc ⟨b,o,none⟩ v w k=k (w.setCell ⟨b,o,none⟩ v) :=
 Sc_c (u:=c[o]) (by rw [h.cell]; simp [ho]) (h.frozen o) v hv k
theorem Bk.cellsAt {w:World} {b:Nat} {c:List Value} {T:TypeId} (h:Bk w b c T) (o:Nat):∀ n i,o+i+n≤c.length→Sy.cellsAt w ⟨b,o,none⟩ i n=some ((c.drop (o+i)).take n)
 | 0,i,_=>by simp [Sy.cellsAt]
 | n+1,i,hl=>by
  have e:c.drop (o+i)=c[o+i]'(by omega) :: c.drop (o+(i+1)):=by rw [List.drop_eq_getElem_cons (by omega)]; rfl
  simp only [Sy.cellsAt,add_eq,h.cell,Bk.cellsAt h o n (i+1) (by omega),e,List.take_succ_cons]
  rw [List.getElem?_eq_getElem (by omega)]
theorem Bk.cellsA {w:World} {b:Nat} {c:List Value} {T:TypeId} (h:Bk w b c T) (o n:Nat) (hl:o+n≤c.length):Sy.cellsA w ⟨b,o,none⟩ n=some ((c.drop o).take n).toArray:=by
 simp [Sy.cellsA,h.cellsAt o n 0 (by omega)]
theorem Bk.la {w:World} {b:Nat} {c:List Value} {T:TypeId} (h:Bk w b c T) {o n:Nat} (hl:o+n≤c.length) (k:Array Value→Prop):La n ⟨b,o,none⟩ w k=k ((c.drop o).take n).toArray:=by
 simp [La,h.cellsA o n hl]
theorem Bk.ha {w:World} {b:Nat} {c:List Value} {T:TypeId} (h:Bk w b c T) {o n:Nat} (hl:o+n≤c.length) {cs:Array Value} (e:cs=((c.drop o).take n).toArray):Ha n ⟨b,o,none⟩ cs w=True:=by
 simp [Ha,h.cellsA o n hl,e]
theorem Bk.la0 {w:World} {b:Nat} {c:List Value} {T:TypeId} (h:Bk w b c T) {n:Nat} (hl:c.length=n) (k:Array Value→Prop):La n ⟨b,0,none⟩ w k=k c.toArray:=by
 rw [h.la (by omega)]; subst hl; simp
theorem Bk.ha0 {w:World} {b:Nat} {c:List Value} {T:TypeId} (h:Bk w b c T) {n:Nat} (hl:c.length=n):Ha n ⟨b,0,none⟩ c.toArray w=True:=by
 rw [h.ha (by omega)]; subst hl; simp
def over (c:List Value) (o:Nat):List Value→List Value
 | []=>c
 | v :: l=>over (c.set o v) (o+1) l
theorem over_length (c:List Value) (o:Nat) (l:List Value):(over c o l).length=c.length:=by
 induction l generalizing c o with
 | nil=>rfl
 | cons v l ih=>rw [over,ih]; simp
def setCs (w:World) (b o:Nat):List Value→World
 | []=>w
 | v :: l=>setCs (w.setCell ⟨b,o,none⟩ v) b (o+1) l
theorem Bk.setCs {w:World} {b:Nat} {c:List Value} {T:TypeId} (h:Bk w b c T) (o:Nat) (l:List Value):Bk (Sy.setCs w b o l) b (over c o l) T:=by
 induction l generalizing w c o with
 | nil=>exact h
 | cons v l ih=>exact ih (h.set o v) (o+1)
theorem heap_setCs {w:World} {b k:Nat} (o:Nat) (l:List Value) (h:k≠b):(setCs w b o l).heap[k]?=w.heap[k]?:=by
 induction l generalizing w o with
 | nil=>rfl
 | cons v l ih=>rw [setCs,ih,heap_set h]
theorem Bk.stAll {w:World} {b:Nat} {c:List Value} {T:TypeId} (h:Bk w b c T) (o:Nat) (l:List Value):∀ i,o+i+l.length≤c.length→(∀ v∈l,oneCell v=true)→Sy.stAll ⟨b,o,none⟩ i l w=some (Sy.setCs w b (o+i) l):=by
 induction l generalizing w c with
 | nil=>intro i _ _; rfl
 | cons v l ih =>
  intro i hl hv
  have h1:=h.cell (o+i)
  rw [List.getElem?_eq_getElem (by simp at hl; omega)] at h1
  have h2:=h.frozen (o+i)
  have hv1:=hv v (by simp)
  simp only [Sy.stAll,add_eq,h1,h2,hv1,Option.isSome_some,Bool.not_false,Bool.and_self,cond,Sy.setCs]
  exact ih (h.set (o+i) v) (i+1) (by simp at hl ⊢; omega) fun u hu=>hv u (List.mem_cons_of_mem _ hu)
theorem Bk.sa {w:World} {b:Nat} {c:List Value} {T:TypeId} (h:Bk w b c T) {o n:Nat} (cs:Array Value) (hn:cs.size=n) (hl:o+n≤c.length) (hv:∀ v∈cs.toList,oneCell v=true) (k:World→Prop):Sa n ⟨b,o,none⟩ cs w k=k (Sy.setCs w b o cs.toList):=by
 have:=h.stAll o cs.toList 0 (by simp [hn]; omega) hv
 simp [Sa,hn,this]
structure Kp (S:Nat→Prop) (w w':World):Prop where
 os:w'.os=w.os
 tape:w'.tape=w.tape
 output:w'.output=w.output
 size:w.heap.size≤w'.heap.size
 block:∀ k,k<w.heap.size→¬ S k→w'.heap[k]?=w.heap[k]?
theorem Kp.refl (S:Nat→Prop) (w:World):Kp S w w:=⟨rfl,rfl,rfl,Nat.le_refl _,fun _ _ _=>rfl⟩
theorem Kp.dr (S:Nat→Prop) (w:World) (d:Nat):Kp S w (dr w d):=⟨rfl,rfl,rfl,Nat.le_refl _,fun _ _ _=>rfl⟩
theorem Kp.trans {S:Nat→Prop} {a b c:World} (h:Kp S a b) (k:Kp S b c):Kp S a c :=
 ⟨k.os.trans h.os,k.tape.trans h.tape,k.output.trans h.output,Nat.le_trans h.size k.size,fun i hi hs=>(k.block i (Nat.lt_of_lt_of_le hi h.size) hs).trans (h.block i hi hs)⟩
theorem Kp.mono {S S':Nat→Prop} {a b:World} (h:Kp S a b) (hs:∀ k,k<a.heap.size→S k→S' k):Kp S' a b:=⟨h.os,h.tape,h.output,h.size,fun k hk hn=>h.block k hk fun x=>hn (hs k hk x)⟩
theorem Kp.step {S T:Nat→Prop} {a b c:World} (h:Kp S a b) (k:Kp T b c) (ht:∀ i,i<a.heap.size→T i→S i):Kp S a c :=
 ⟨k.os.trans h.os,k.tape.trans h.tape,k.output.trans h.output,Nat.le_trans h.size k.size,fun i hi hs=>(k.block i (Nat.lt_of_lt_of_le hi h.size) fun x=>hs (ht i hi x)).trans (h.block i hi hs)⟩
theorem Kp.drR {S:Nat→Prop} {a b:World} (h:Kp S a b) (d:Nat):Kp S a (Sy.dr b d):=⟨h.os,h.tape,h.output,h.size,h.block⟩
theorem Kp.drL {S:Nat→Prop} {a b:World} (d:Nat) (h:Kp S (Sy.dr a d) b):Kp S a b:=⟨h.os,h.tape,h.output,h.size,h.block⟩
theorem Kp.alloc (S:Nat→Prop) (w:World) (o:Obj):Kp S w (w.alloc o):=⟨rfl,rfl,rfl,by rw [World.size_alloc]; omega,fun k hk _=>Go.heap_alloc_old w o (h:=hk)⟩
theorem Kp.set (S:Nat→Prop) (w:World) {b o:Nat} (v:Value) (hb:b<w.heap.size→S b):Kp S w (w.setCell ⟨b,o,none⟩ v) :=
 ⟨rfl,rfl,rfl,by simp,fun k hk hn=>heap_set fun e=>hn (e ▸ hb (e ▸ hk))⟩
theorem Kp.setCs (S:Nat→Prop) {b:Nat} (l:List Value):∀ (w:World) (o:Nat),(b<w.heap.size→S b)→Kp S w (Sy.setCs w b o l):=by
 induction l with
 | nil=>exact fun w o _=>Kp.refl S w
 | cons v l ih=>exact fun w o hb=>(Kp.set S w v hb).trans (ih _ (o+1) (by simpa using hb))
theorem Kp.grown {S:Nat→Prop} {w w':World} {row:Option Nat} (h:w.grownBy w' row) (hr:∀ k,row=some k→S k):Kp S w w' :=
 ⟨h.os,h.tape,h.output,h.size,fun k hk hs=>h.block k hk fun e=>hs (hr k e.symm)⟩
theorem Kp.bk {S:Nat→Prop} {w w':World} (h:Kp S w w') {b:Nat} {o:Obj} (hb:w.heap[b]?=some o) (hs:¬ S b):w'.heap[b]?=some o:=by
 rw [h.block b (Array.getElem?_eq_some_iff.1 hb).1 hs,hb]
theorem Kp.below {S:Nat→Prop} {w w':World} (h:Kp S w w') (B:Nat) (hB:B≤w.heap.size) (hs:∀ k,k<B→¬ S k):Go.RowKit.Below B w w' :=
 ⟨h.os,h.tape,h.output,h.size,fun k hk=>h.block k (Nat.lt_of_lt_of_le hk hB) (hs k hk)⟩
abbrev No:Nat→Prop:=fun _=>False
theorem bk_alloc (w:World) (c:List Value) (T:TypeId):Bk (w.alloc (.cells c.toArray T (0,0))) w.heap.size c T:=heap_alloc_new w _
theorem ne_of_bk {w:World} {a b:Nat} {x y:Obj} (h:w.heap[a]?=some x) (k:w.heap[b]?=some y) (hxy:x≠y):a≠b:=fun e=>by subst e; rw [h] at k; injection k with k; exact hxy k
theorem SS:type_of% (And.intro @onI_eq (And.intro @onC_eq (And.intro @onU_eq (And.intro @onR_eq (And.intro @onB_eq (And.intro @onS_eq (And.intro @onP_eq (And.intro @onA_eq (And.intro @onL_eq (And.intro @onG_eq (And.intro @onM_eq (And.intro @on2_eq (And.intro @on3_eq (And.intro @on4_eq (And.intro @on5_eq (And.intro @onSome_eq (And.intro @Ifm_t (And.intro @Ifm_f (And.intro @Ifm_not (And.intro @Ifm_dec (And.intro @Ifm_eq (And.intro @Ifm_ne (And.intro @Nl_nil (And.intro @Nl_if (And.intro @Lc_dr (And.intro @La_dr (And.intro @Hc_dr (And.intro @Ha_dr (And.intro @Sc_dr (And.intro @Sa_dr (And.intro @agg_cells (And.intro @drew_eq (And.intro @dr_dr (And.intro @dr_heap (And.intro @cell_dr (And.intro @frozen_dr (And.intro @add_eq (And.intro @Option.isNone_none.{0} (And.intro @Option.isNone_some.{0} (And.intro @Bool.not_true (And.intro @Bool.not_false (And.intro @Nat.zero_add (And.intro @Nat.add_zero (And.intro @Int.toNat_natCast (And.intro @if_true.{1} (And.intro @if_false.{1} (And.intro @and_true (@true_and)))))))))))))))))))))))))))))))))))))))))))))))):=And.intro @onI_eq (And.intro @onC_eq (And.intro @onU_eq (And.intro @onR_eq (And.intro @onB_eq (And.intro @onS_eq (And.intro @onP_eq (And.intro @onA_eq (And.intro @onL_eq (And.intro @onG_eq (And.intro @onM_eq (And.intro @on2_eq (And.intro @on3_eq (And.intro @on4_eq (And.intro @on5_eq (And.intro @onSome_eq (And.intro @Ifm_t (And.intro @Ifm_f (And.intro @Ifm_not (And.intro @Ifm_dec (And.intro @Ifm_eq (And.intro @Ifm_ne (And.intro @Nl_nil (And.intro @Nl_if (And.intro @Lc_dr (And.intro @La_dr (And.intro @Hc_dr (And.intro @Ha_dr (And.intro @Sc_dr (And.intro @Sa_dr (And.intro @agg_cells (And.intro @drew_eq (And.intro @dr_dr (And.intro @dr_heap (And.intro @cell_dr (And.intro @frozen_dr (And.intro @add_eq (And.intro @Option.isNone_none.{0} (And.intro @Option.isNone_some.{0} (And.intro @Bool.not_true (And.intro @Bool.not_false (And.intro @Nat.zero_add (And.intro @Nat.add_zero (And.intro @Int.toNat_natCast (And.intro @if_true.{1} (And.intro @if_false.{1} (And.intro @and_true (@true_and)))))))))))))))))))))))))))))))))))))))))))))))
end Sy
end
section
namespace Sy
def Flat (f:Nat→List Value) (n:Nat):List Value:=(List.range n).flatMap f
def upd1 {α:Type} (f:Nat→α) (i:Nat) (x:α):Nat→α:=fun k=>if k=i then x else f k
theorem upd1_same {α:Type} (f:Nat→α) (i:Nat) (x:α):upd1 f i x i=x:=by simp [upd1]
theorem upd1_ne {α:Type} (f:Nat→α) {i k:Nat} (x:α) (h:k≠i):upd1 f i x k=f k:=by simp [upd1,h]
theorem upd1_self {α:Type} (f:Nat→α) (i:Nat):upd1 f i (f i)=f:=by funext k; by_cases h:k=i <;> simp [upd1,h]
theorem upd1_upd1 {α:Type} (f:Nat→α) (i:Nat) (x y:α):upd1 (upd1 f i x) i y=upd1 f i y:=by funext k; by_cases h:k=i <;> simp [upd1,h]
section
variable {f:Nat→List Value} {n sz:Nat}
theorem Flat_succ:Flat f (n+1)=Flat f n++f n:=by simp [Flat,List.range_succ]
theorem Flat_length (hl:∀ i,(f i).length=sz):(Flat f n).length=n*sz:=by
 induction n with
 | zero=>simp [Flat]
 | succ n ih=>rw [Flat_succ,List.length_append,ih,hl,Nat.succ_mul]
theorem lt_mul_of {i j n sz:Nat} (hi:i<n) (hj:j<sz):i*sz+j<n*sz:=by
 have:(i+1)*sz≤n*sz:=Nat.mul_le_mul_right _ hi; rw [Nat.succ_mul] at this; omega
theorem Flat_get (hl:∀ i,(f i).length=sz) {i j:Nat} (hi:i<n) (hj:j<sz):(Flat f n)[i*sz+j]?=(f i)[j]?:=by
 induction n with
 | zero=>omega
 | succ n ih =>
  rw [Flat_succ]
  rcases Nat.lt_or_ge i n with h | h
  ·rw [List.getElem?_append_left (by rw [Flat_length hl]; exact lt_mul_of h hj)]
   exact ih h
  ·have:i=n:=by omega
   subst this
   rw [List.getElem?_append_right (by rw [Flat_length hl]; omega),Flat_length hl]
   congr 1; omega
theorem split_ix {k sz:Nat} (h:0<sz):k=(k / sz)*sz+k % sz:=by rw [Nat.mul_comm]; exact (Nat.div_add_mod k sz).symm
theorem ix_inj {i j q r sz:Nat} (hj:j<sz) (hr:r<sz) (h:i*sz+j=q*sz+r):i=q∧j=r:=by
 have h1:(i*sz+j) / sz=i:=by rw [Nat.mul_comm,Nat.mul_add_div (by omega),Nat.div_eq_of_lt hj]; omega
 have h2:(q*sz+r) / sz=q:=by rw [Nat.mul_comm,Nat.mul_add_div (by omega),Nat.div_eq_of_lt hr]; omega
 have:i=q:=by rw [← h1,← h2,h]
 subst this
 exact ⟨rfl,by omega⟩
theorem Flat_ext {g:Nat→List Value} {l:List Value} (hl:∀ i,(g i).length=sz) (hs:0<sz) (hlen:l.length=n*sz) (h:∀ i j,i<n→j<sz→l[i*sz+j]?=(g i)[j]?):l=Flat g n:=by
 apply List.ext_getElem?
 intro k
 rcases Nat.lt_or_ge k (n*sz) with hk | hk
 ·rw [split_ix (k:=k) hs]
  have h1:k / sz<n:=Nat.div_lt_of_lt_mul (by rw [Nat.mul_comm]; exact hk)
  have h2:=Nat.mod_lt k hs
  rw [h _ _ h1 h2,Flat_get hl h1 h2]
 ·rw [List.getElem?_eq_none (by omega),List.getElem?_eq_none (by rw [Flat_length hl]; omega)]
theorem Flat_set (hl:∀ i,(f i).length=sz) {i j:Nat} (hi:i<n) (hj:j<sz) (v:Value):(Flat f n).set (i*sz+j) v=Flat (upd1 f i ((f i).set j v)) n:=by
 have hl':∀ k,(upd1 f i ((f i).set j v) k).length=sz:=by
  intro k
  by_cases h:k=i
  ·subst h; rw [upd1_same,List.length_set]; exact hl k
  ·rw [upd1_ne _ _ h]; exact hl k
 refine Flat_ext hl' (by omega) (by rw [List.length_set,Flat_length hl]) ?_
 intro q r hq hr
 rw [List.getElem?_set]
 by_cases h:q=i
 ·subst h
  rw [upd1_same,List.getElem?_set]
  by_cases h2:j=r
  ·subst h2
   rw [if_pos rfl,if_pos rfl,if_pos (by rw [Flat_length hl]; exact lt_mul_of hi hj),if_pos (by rw [hl]; exact hj)]
  ·rw [if_neg (by omega),if_neg h2,Flat_get hl hq hr]
 ·rw [if_neg (fun e=>h (ix_inj hj hr e).1.symm),upd1_ne _ _ h,Flat_get hl hq hr]
theorem over_get (c l:List Value) (o k:Nat):(over c o l)[k]?=if o≤k∧k<o+l.length∧k<c.length then l[k - o]? else c[k]?:=by
 induction l generalizing c o with
 | nil=>rw [over,if_neg (by simp; omega)]
 | cons v l ih =>
  rw [over,ih,List.length_set,List.length_cons,List.getElem?_set]
  by_cases h:o=k
  ·subst h
   rw [if_neg (by omega),if_pos rfl]
   by_cases h2:o<c.length
   ·rw [if_pos h2,if_pos ⟨Nat.le_refl _,by omega,h2⟩,Nat.sub_self]; rfl
   ·rw [if_neg h2,if_neg (by omega),List.getElem?_eq_none (by omega)]
  ·by_cases h2:o+1≤k∧k<o+1+l.length∧k<c.length
   ·rw [if_pos h2,if_pos (by omega),show k - o=(k - (o+1))+1 by omega,List.getElem?_cons_succ]
   ·rw [if_neg h2,if_neg h,if_neg (by omega)]
theorem Flat_over (hl:∀ i,(f i).length=sz) {i j:Nat} (hi:i<n) (l:List Value) (hj:j+l.length≤sz):over (Flat f n) (i*sz+j) l=Flat (upd1 f i (over (f i) j l)) n:=by
 induction l generalizing f j with
 | nil=>simp [over,upd1_self]
 | cons v l ih =>
  simp only [List.length_cons] at hj
  rw [over,Flat_set hl hi (by omega),show i*sz+j+1=i*sz+(j+1) by omega,ih _ (by omega),upd1_upd1,upd1_same]
  ·rfl
  ·intro k
   by_cases h:k=i
   ·subst h; rw [upd1_same,List.length_set]; exact hl k
   ·rw [upd1_ne _ _ h]; exact hl k
theorem Flat_part (hl:∀ i,(f i).length=sz) {i j m:Nat} (hi:i<n) (hj:j+m≤sz):((Flat f n).drop (i*sz+j)).take m=((f i).drop j).take m:=by
 apply List.ext_getElem?
 intro t
 rw [List.getElem?_take,List.getElem?_take]
 by_cases h:t<m
 ·rw [if_pos h,if_pos h,List.getElem?_drop,List.getElem?_drop,Nat.add_assoc,Flat_get hl hi (by omega)]
 ·rw [if_neg h,if_neg h]
theorem Flat_congr {g:Nat→List Value} (h:∀ i,i<n→f i=g i):Flat f n=Flat g n:=by
 unfold Flat
 have:∀ l:List Nat,(∀ i∈l,i<n)→l.flatMap f=l.flatMap g:=by
  intro l hl
  induction l with
  | nil=>rfl
  | cons a l ih=>rw [List.flatMap_cons,List.flatMap_cons,h a (hl a (by simp)),ih fun i hi=>hl i (by simp [hi])]
 exact this _ fun i hi=>by simpa using hi
end
abbrev I (n:Int):Value:=.int .i64 n
abbrev Pt (b o:Nat):Value:=.pointer (some ⟨b,o,none⟩)
abbrev Er (n:Int):Value:=.iface 129 (.int .i64 n)
structure Tab (w:World) (T e sz n:Nat) (kind:Int) (b L:Nat) (f:Nat→List Value):Prop where
 hd:Bk w b [I kind,.slice (some ⟨L,0,none⟩) n n] T
 row:Bk w L (Flat f n) e
 len:∀ i,(f i).length=sz
section
variable {w w':World} {T e sz n b L:Nat} {kind:Int} {f:Nat→List Value}
theorem Tab.kp {S:Nat→Prop} (h:Tab w T e sz n kind b L f) (k:Kp S w w') (hb:¬ S b) (hL:¬ S L):Tab w' T e sz n kind b L f:=⟨k.bk h.hd hb,k.bk h.row hL,h.len⟩
theorem Tab.dr (h:Tab w T e sz n kind b L f) (d:Nat):Tab (Sy.dr w d) T e sz n kind b L f:=⟨h.hd,h.row,h.len⟩
theorem Tab.rd (h:Tab w T e sz n kind b L f) {i j:Nat} (hi:i<n) (hj:j<sz) {v:Value} (hv:(f i)[j]?=some v) (k:Value→Prop):Lc ⟨L,i*sz+j,none⟩ w k=k v :=
 h.row.rd (by rw [Flat_get h.len hi hj,hv]) k
theorem Tab.hc (h:Tab w T e sz n kind b L f) {i j:Nat} (hi:i<n) (hj:j<sz) {v:Value} (hv:(f i)[j]?=some v):Hc ⟨L,i*sz+j,none⟩ v w=True :=
 h.row.hc (by rw [Flat_get h.len hi hj,hv])
theorem Tab.st (h:Tab w T e sz n kind b L f) {i j:Nat} (hi:i<n) (hj:j<sz) (v:Value) (hv:oneCell v=true) (k:World→Prop):Sc ⟨L,i*sz+j,none⟩ v w k=k (w.setCell ⟨L,i*sz+j,none⟩ v) :=
 h.row.st (by rw [Flat_length h.len]; exact lt_mul_of hi hj) v hv k
theorem Tab.ne (h:Tab w T e sz n kind b L f) (hTe:T≠e):b≠L:=ne_of_bk h.hd h.row fun x=>by injection x with _ x; exact hTe x
theorem len_upd {i:Nat} {x:List Value} (hl:∀ i,(f i).length=sz) (hx:x.length=sz):∀ k,(upd1 f i x k).length=sz:=by
 intro k
 by_cases h:k=i
 ·subst h; rw [upd1_same]; exact hx
 ·rw [upd1_ne _ _ h]; exact hl k
theorem Tab.set (h:Tab w T e sz n kind b L f) (hTe:T≠e) {i j:Nat} (hi:i<n) (hj:j<sz) (v:Value):Tab (w.setCell ⟨L,i*sz+j,none⟩ v) T e sz n kind b L (upd1 f i ((f i).set j v)) :=
 ⟨by rw [Bk,heap_set (h.ne hTe)]; exact h.hd,by rw [← Flat_set h.len hi hj]; exact h.row.set _ _,len_upd h.len (by rw [List.length_set]; exact h.len i)⟩
theorem Tab.la (h:Tab w T e sz n kind b L f) {i j m:Nat} (hi:i<n) (hj:j+m≤sz) (k:Array Value→Prop):La m ⟨L,i*sz+j,none⟩ w k=k (((f i).drop j).take m).toArray:=by
 rw [h.row.la (by rw [Flat_length h.len]; have:(i+1)*sz≤n*sz:=Nat.mul_le_mul_right _ hi; rw [Nat.succ_mul] at this; omega),Flat_part h.len hi hj]
theorem Tab.sa (h:Tab w T e sz n kind b L f) {i j m:Nat} (hi:i<n) (hj:j+m≤sz) (cs:Array Value) (hn:cs.size=m) (hv:∀ v∈cs.toList,oneCell v=true) (k:World→Prop):Sa m ⟨L,i*sz+j,none⟩ cs w k=k (Sy.setCs w L (i*sz+j) cs.toList) :=
 h.row.sa cs hn (by rw [Flat_length h.len]; have:(i+1)*sz≤n*sz:=Nat.mul_le_mul_right _ hi; rw [Nat.succ_mul] at this; omega) hv k
theorem Tab.setCs (h:Tab w T e sz n kind b L f) (hTe:T≠e) {i j:Nat} (hi:i<n) (l:List Value) (hj:j+l.length≤sz):Tab (Sy.setCs w L (i*sz+j) l) T e sz n kind b L (upd1 f i (over (f i) j l)) :=
 ⟨by rw [Bk,heap_setCs _ _ (h.ne hTe)]; exact h.hd,by rw [← Flat_over h.len hi l hj]; exact h.row.setCs _ _,len_upd h.len (by rw [over_length]; exact h.len i)⟩
theorem Tab.congr (h:Tab w T e sz n kind b L f) {g:Nat→List Value} (hg:∀ i,i<n→f i=g i) (hl:∀ i,(g i).length=sz):Tab w T e sz n kind b L g:=⟨h.hd,Flat_congr hg ▸ h.row,hl⟩
end
abbrev Slots (α:Type):=Nat→Int × Option α
def slotC {α:Type} (c:α→List Value) (z:List Value) (s:Int × Option α):List Value:=I s.1 :: .bool s.2.isSome :: (match s.2 with | some a=>c a | none=>z)
end Sy
end
section
namespace Sy
theorem Rd_ok {P:Program} {s:Sem Value} {w:World} {v:Value} (h:s.run P w=.ok v w) (k:Value→Prop):Rd P s w k=k v:=by
 apply propext
 constructor
 ·rintro ⟨v',h',hk⟩
  rw [h] at h'
  injection h' with h' _
  exact h' ▸ hk
 ·exact fun hk=>⟨v,h,hk⟩
theorem Rv_ok {P:Program} {s:Sem Value} {w w':World} {v:Value} (h:s.run P w=.ok v w') (k:Ko):Rv P s w k=k v w':=by
 apply propext
 constructor
 ·rintro ⟨v',w'',h',hk⟩
  rw [h] at h'
  injection h' with h1 h2
  exact h1 ▸ h2 ▸ hk
 ·exact fun hk=>⟨v,w',h,hk⟩
theorem Ru_ok {P:Program} {s:Sem Unit} {w w':World} (h:s.run P w=.ok () w') (k:World→Prop):Ru P s w k=k w':=by
 apply propext
 constructor
 ·rintro ⟨w'',h',hk⟩
  rw [h] at h'
  injection h' with h1 h2
  exact h2 ▸ hk
 ·exact fun hk=>⟨w',h,hk⟩
theorem res_ag {P:Program} {t:TypeId} {n:Nat} (hk:loadKind P t=some (some n)) {w:World} {b:Nat} {c:List Value} {T:TypeId} (h:Bk w b c T) (hl:c.length=n) (k:Value→Prop):Rd P (Instr.loadAt t (.pointer (some ⟨b,0,none⟩))) w k=k (.agg c.toArray):=by
 refine Rd_ok ?_ k
 obtain ⟨h1,h2⟩:=(isAgg_run (P:=P) (t:=t) w).1 n hk
 have hc:=h.cellsAt 0 n 0 (by omega)
 have:=loadCellsFrom_run (P:=P) n 0 _ #[] hc
 subst hl
 simp [Instr.loadAt,Instr.sureAddr,loadVar,Sem.run_bind,h1,h2,loadCells,this]
theorem res_one {P:Program} {t:TypeId} (hk:loadKind P t=some none) {w:World} {a:Addr} {v:Value} (h:w.cell? a=some v) (k:Value→Prop):Rd P (Instr.loadAt t (.pointer (some a))) w k=k v:=by
 refine Rd_ok ?_ k
 have:=((isAgg_run (P:=P) (t:=t) w).2 hk).1
 simp [Instr.loadAt,Instr.sureAddr,loadVar,Sem.run_bind,this,h]
structure Elem (P:Program) (t e sz:Nat) (i:TypeInfo) (z:Value):Prop where
 ht:P.underlying t=some (.slice e)
 hi:P.info? e=some i
 hz:i.zero=some z
 hs:i.size=sz
 hzs:z.cells.size=sz
 h0:0<sz
 hb:i.bytes≤65536
 h1:sz≤65536
theorem bs1_run {P:Program} {t e sz:Nat} {i:TypeInfo} {z:Value} (E:Elem P t e sz i z) (w:World) {x:Value} (hx:x.cells.size=sz):(Instr.buildSlice t 1 #[(0,x)]).run P w=.ok (.slice (some ⟨w.heap.size,0,none⟩) 1 1) (w.alloc (.cells x.cells e)):=by
 refine run_buildSlice w t e 1 _ x.cells i z E.ht E.hi E.hz (by rw [E.hs,Nat.one_mul]; have:=E.h1; omega) (by rw [E.hs]; have:=E.h0; omega) ?_
 have:=Great.fill_whole (s:=i.size) (by rw [E.hs]; exact E.h0) [x] ((Array.range (1*i.size)).map (z.cells[· % z.cells.size]!)) (by intro v hv; simp at hv; subst hv; rw [E.hs]; exact hx) (by simp)
 simpa using this
theorem app1 {P:Program} {t e sz ty:Nat} {i:TypeInfo} {z:Value} (E:Elem P t e sz i z) {w:World} {base:Nat} {a:Option Addr} {l c n:Nat} {xs:List Value} (hown:w.ownsRow base e sz (.slice a l c) n xs)
  (hbase:base≤w.heap.size) (hn:n<1000000) {x:Value} (hx:x.cells.size=sz) (h1:∀ u∈x.cells.toList,u.oneCell'=true) {k:Option Addr→Nat→Nat→World→Prop}
  (h:∀ g c' w',base≤g→w'.ownsRow base e sz (.slice (some ⟨g,0,none⟩) (n+1) c') (n+1) (xs++x.cells.toList)→Kp (fun k=>(Value.slice a l c).ownBlock=some k) w w'→k (some ⟨g,0,none⟩) (n+1) c' w') :
  Rv P (Instr.buildSlice t 1 #[(0,x)]) w fun v w1=>onL v fun a2 l2 c2=>Rv P (Builtin.append_ #[t,t] ty #[.slice a l c,.slice a2 l2 c2]) w1 fun v2 w2=>onL v2 fun a3 l3 c3=>k a3 l3 c3 w2:=by
 rw [Rv_ok (bs1_run E w hx)]
 simp only [onL_eq]
 have hown1:=hown.alloc (.cells x.cells e)
 have hb:=E.hb
 obtain ⟨v',w',hr,ho,hg,hnil⟩:=run_append_own (P:=P) (w.alloc (.cells x.cells e)) base t ty e i z sz i.bytes E.ht E.hi E.hz E.hs rfl E.hzs E.h0 (.slice a l c) n xs hown1 ⟨w.heap.size,0,none⟩ 1 1 x.cells.toList (by simp [hx])
  (fun j u hj=>by rw [add_eq,World.cell?_alloc_new]; simpa using hj) h1 (by simp [maxLen]; omega) (by
   have:(n+1)*i.bytes≤1000000*65536:=Nat.mul_le_mul (by omega) hb
   omega) (by simp; omega)
 rw [Rv_ok hr]
 rcases ho.2 with ⟨rfl,h0⟩ | ⟨g,cap,cur,rfl,hbg,rest⟩
 ·omega
 ·simp only [onL_eq]
  refine h g cap w' hbg ho ?_
  exact (Kp.alloc _ w _).step (Kp.grown hg (S:=fun k=>(Value.slice a l c).ownBlock=some k) fun k hk=>hk) fun _ _ x=>x
theorem bs1 {P:Program} {t e sz:Nat} {i:TypeInfo} {z:Value} (E:Elem P t e sz i z) {w:World} {x:Value} (hx:x.cells.size=sz) (k:Ko):Rv P (Instr.buildSlice t 1 #[(0,x)]) w k=k (.slice (some ⟨w.heap.size,0,none⟩) 1 1) (w.alloc (.cells x.cells e)) :=
 Rv_ok (bs1_run E w hx) k
def elemB (P:Program) (t e sz:Nat):Bool:=match P.underlying t,P.info? e with
 | some (.slice e'),some i=>(match i.zero with
  | some z=>Nat.beq e' e && Nat.beq i.size sz && Nat.beq z.cells.size sz && Nat.blt 0 sz && Nat.ble i.bytes 65536 && Nat.ble sz 65536
  | none=>false)
 | _,_=>false
theorem elemB_of {P:Program} {t e sz:Nat} (h:elemB P t e sz=true):∃ i z,Elem P t e sz i z:=by
 unfold elemB at h
 split at h
 ·rename_i e' i ht hi
  split at h
  ·rename_i z hz
   simp only [Bool.and_eq_true] at h
   obtain ⟨⟨⟨⟨⟨h1,h2⟩,h3⟩,h4⟩,h5⟩,h6⟩:=h
   exact ⟨i,z,by rw [ht,Nat.eq_of_beq_eq_true h1],hi,hz,Nat.eq_of_beq_eq_true h2,Nat.eq_of_beq_eq_true h3,Nat.le_of_ble_eq_true h4,Nat.le_of_ble_eq_true h5,Nat.le_of_ble_eq_true h6⟩
  ·cases h
 ·cases h
theorem own_kp {S:Nat→Prop} {w w':World} {base e sz n:Nat} {v:Value} {xs:List Value} (h:w.ownsRow base e sz v n xs) (k:Kp S w w') (hs:∀ b,v.ownBlock=some b→¬ S b):w'.ownsRow base e sz v n xs:=by
 refine ⟨h.1,?_⟩
 rcases h.2 with hn | ⟨g,cap,cur,rfl,hb,hg,rest⟩
 ·exact .inl hn
 ·exact .inr ⟨g,cap,cur,rfl,hb,k.bk hg (hs g rfl),rest⟩
theorem own_base {w:World} {base base' e sz n:Nat} {v:Value} {xs:List Value} (h:w.ownsRow base e sz v n xs) (hb:base'≤base):w.ownsRow base' e sz v n xs:=by
 refine ⟨h.1,?_⟩
 rcases h.2 with hn | ⟨g,cap,cur,rfl,hg,rest⟩
 ·exact .inl hn
 ·exact .inr ⟨g,cap,cur,rfl,Nat.le_trans hb hg,rest⟩
theorem own_dr {w:World} {base e sz n d:Nat} {v:Value} {xs:List Value} (h:w.ownsRow base e sz v n xs):(dr w d).ownsRow base e sz v n xs:=h
theorem own_lt {w:World} {base e sz n:Nat} {v:Value} {xs:List Value} (h:w.ownsRow base e sz v n xs) {b:Nat} (hb:v.ownBlock=some b):base≤b∧b<w.heap.size:=h.lt b hb
end Sy
end
section
namespace Sy
theorem own_bk {w:World} {B e sz n l c:Nat} {a:Option Addr} {xs:List Value} (h:w.ownsRow B e sz (.slice a l c) n xs) :
  (a=none∧l=0∧c=0∧n=0∧xs=[])∨∃ g cur,a=some ⟨g,0,none⟩∧l=n∧B≤g∧Bk w g cur e∧n≤c∧cur.length=c*sz∧cur.take (n*sz)=xs:=by
 rcases h.2 with ⟨h',rfl⟩ | ⟨g,cap,cur,h',hb,hg,hnc,hcm,hcs,ht⟩
 ·simp only [Value.slice.injEq] at h'
  obtain ⟨rfl,rfl,rfl⟩:=h'
  exact .inl ⟨rfl,rfl,rfl,rfl,List.eq_nil_of_length_eq_zero (by rw [h.1]; simp)⟩
 ·simp only [Value.slice.injEq] at h'
  obtain ⟨rfl,rfl,rfl⟩:=h'
  exact .inr ⟨g,cur.toList,rfl,rfl,hb,by simpa [Bk] using hg,hnc,by simpa using hcs,ht⟩
section
variable {w:World} {B e sz n c g:Nat} {xs:List Value}
theorem own_cells (h:w.ownsRow B e sz (.slice (some ⟨g,0,none⟩) n c) n xs) {o m:Nat} (ho:o+m≤n*sz):cellsA w ⟨g,o,none⟩ m=some ((xs.drop o).take m).toArray:=by
 rcases own_bk h with ⟨h',_⟩ | ⟨g',cur,hg,_,_,hb,hnc,hl,ht⟩
 ·cases h'
 ·simp only [Option.some.injEq,Addr.mk.injEq,and_true] at hg
  subst hg
  have hlen:o+m≤cur.length:=by rw [hl]; exact Nat.le_trans ho (Nat.mul_le_mul_right _ hnc)
  rw [hb.cellsA o m hlen,← ht]
  congr 2
  rw [List.drop_take,List.take_take]
  congr 1
  omega
theorem own_la (h:w.ownsRow B e sz (.slice (some ⟨g,0,none⟩) n c) n xs) {o m:Nat} (ho:o+m≤n*sz) (k:Array Value→Prop):La m ⟨g,o,none⟩ w k=k ((xs.drop o).take m).toArray:=by
 simp [La,own_cells h ho]
theorem own_lc (h:w.ownsRow B e sz (.slice (some ⟨g,0,none⟩) n c) n xs) {o:Nat} {v:Value} (ho:o<n*sz) (hv:xs[o]?=some v) (k:Value→Prop):Lc ⟨g,o,none⟩ w k=k v :=
 Lc_c (by rw [h.cellAt o ho,hv]) k
theorem take_over (L:List Value) (m:Nat) (l:List Value):∀ o,o+l.length≤m→(over L o l).take m=over (L.take m) o l:=by
 induction l generalizing L with
 | nil=>intro o _; rfl
 | cons v l ih =>
  intro o ho
  simp only [List.length_cons] at ho
  rw [over,ih _ _ (by omega),over,List.take_set]
theorem own_sa (h:w.ownsRow B e sz (.slice (some ⟨g,0,none⟩) n c) n xs) {o m:Nat} (cs:Array Value) (hn:cs.size=m) (ho:o+m≤n*sz) (hv:∀ v∈cs.toList,oneCell v=true) (k:World→Prop) :
  Sa m ⟨g,o,none⟩ cs w k=k (setCs w g o cs.toList):=by
 rcases own_bk h with ⟨h',_⟩ | ⟨g',cur,hg,_,_,hb,hnc,hl,ht⟩
 ·cases h'
 ·simp only [Option.some.injEq,Addr.mk.injEq,and_true] at hg
  subst hg
  exact hb.sa cs hn (by rw [hl]; exact Nat.le_trans ho (Nat.mul_le_mul_right _ hnc)) hv k
theorem own_setCs (h:w.ownsRow B e sz (.slice (some ⟨g,0,none⟩) n c) n xs) {o:Nat} (l:List Value) (ho:o+l.length≤n*sz):(setCs w g o l).ownsRow B e sz (.slice (some ⟨g,0,none⟩) n c) n (over xs o l):=by
 rcases h.2 with ⟨h',_⟩ | ⟨g',cap,cur,h',hb,hg,hnc,hcm,hcs,ht⟩
 ·cases h'
 ·simp only [Value.slice.injEq,Option.some.injEq,Addr.mk.injEq,and_true,true_and] at h'
  obtain ⟨rfl,rfl⟩:=h'
  refine ⟨by rw [over_length]; exact h.1,.inr ⟨g,c,(over cur.toList o l).toArray,rfl,hb,?_,hnc,hcm,?_,?_⟩⟩
  ·exact Bk.setCs (c:=cur.toList) (by simpa [Bk] using hg) o l
  ·simpa [over_length] using hcs
  ·rw [← ht]; exact take_over _ _ _ _ ho
theorem own_lt' (h:w.ownsRow B e sz (.slice (some ⟨g,0,none⟩) n c) n xs):B≤g∧g<w.heap.size:=own_lt h rfl
theorem own_elem (h:w.ownsRow B e sz (.slice (some ⟨g,0,none⟩) n c) n xs):∃ cur,Bk w g cur e:=by
 rcases own_bk h with ⟨h',_⟩ | ⟨g',cur,hg,_,_,hb,_⟩
 ·cases h'
 ·simp only [Option.some.injEq,Addr.mk.injEq,and_true] at hg
  subst hg
  exact ⟨cur,hb⟩
end
theorem one_iff (v:Value):oneCell v=v.oneCell':=by cases v <;> rfl
theorem copy_own {P:Program} {t e sz ty:Nat} {i:TypeInfo} {z:Value} (E:Elem P t e sz i z) {w:World} {B B' n c m l' c' g:Nat} {a:Option Addr} {xs ys:List Value} (h:w.ownsRow B e sz (.slice (some ⟨g,0,none⟩) n c) n xs)
  (hs:w.ownsRow B' e sz (.slice a l' c') m ys) (hm:m≤n) (h1:∀ v∈ys,oneCell v=true) (k:Ko) :
  Rv P (Builtin.copy_ #[t,t] ty #[.slice (some ⟨g,0,none⟩) n c,.slice a l' c']) w k=k (I m) (setCs w g 0 ys):=by
 refine Rv_ok ?_ k
 have hsz:=run_sizeOf' (P:=P) E.hi
 rcases own_bk hs with ⟨rfl,rfl,rfl,rfl,rfl⟩ | ⟨s,cur,rfl,rfl,_,hb,hnc,hl,ht⟩
 ·simp [Builtin.copy_,run_underlying' E.ht,Sem.run_bind,hsz,Builtin.lenOf,Builtin.firstCells,storeCells,goInt,setCs]
 ·have hys:ys.length=l'*sz:=hs.1
  have hc:=hb.cellsAt 0 (l'*sz) 0 (by rw [hl]; simpa using Nat.mul_le_mul_right _ hnc)
  have hld:=loadCellsFrom_run (P:=P) (l'*sz) 0 _ #[] hc
  simp only [Nat.zero_add,List.drop_zero,ht,Array.empty_append] at hld
  have hst:stAll ⟨g,0,none⟩ 0 ys w=some (setCs w g (0+0) ys):=by
   rcases own_bk h with ⟨h',_⟩ | ⟨g',cur',hg',_,_,hb',hnc',hl',_⟩
   ·cases h'
   ·simp only [Option.some.injEq,Addr.mk.injEq,and_true] at hg'
    subst hg'
    refine hb'.stAll 0 ys 0 ?_ h1
    rw [hl',hys]
    have:=Nat.mul_le_mul_right sz hm
    have:=Nat.mul_le_mul_right sz hnc'
    omega
  have hst':=storeCells_run (P:=P) _ _ _ _ hst
  have hmin:Nat.min l' n=l':=Nat.min_eq_left hm
  simp [Builtin.copy_,run_underlying' E.ht,Sem.run_bind,hsz,Builtin.lenOf,Builtin.firstCells,goInt,hmin,E.hs,loadCells,hld,hst']
theorem rem_c {P:Program} {t:Nat} {x y:Operand} {a b:Int} (hb:b≠0) (w:World) (k:Value→Prop):Rd P (Bin .rem t x y (I a) (I b)) w k=k (I (a.tmod b)):=by
 refine Rd_ok ?_ k
 simp [Bin,eqGuard,binOp,Op.intDiv,hb]
theorem quo_c {P:Program} {t:Nat} {x y:Operand} {a b:Int} (hb:b≠0) (w:World) (k:Value→Prop):Rd P (Bin .quo t x y (I a) (I b)) w k=k (I (IntKind.i64.wrap (a.tdiv b))):=by
 refine Rd_ok ?_ k
 simp [Bin,eqGuard,binOp,Op.intDiv,hb]
theorem min_c {P:Program} {ts:Array TypeId} {t:Nat} {a b:Int} (w:World) (k:Value→Prop):Rd P (Builtin.min_ ts t #[I a,I b]) w k=k (I (if b<a then b else a)):=by
 refine Rd_ok ?_ k
 simp [Builtin.min_,Builtin.min2]
theorem max_c {P:Program} {ts:Array TypeId} {t:Nat} {a b:Int} (w:World) (k:Value→Prop):Rd P (Builtin.max_ ts t #[I a,I b]) w k=k (I (if a<b then b else a)):=by
 refine Rd_ok ?_ k
 simp [Builtin.max_,Builtin.max2]
theorem mk_own {P:Program} {t e sz:Nat} {i:TypeInfo} {z:Value} (E:Elem P t e sz i z) {w:World} {B n:Nat} (hB:B≤w.heap.size) (hn:n<1000000) {k:Ko}
  (h:∀ w',w'.ownsRow B e sz (.slice (some ⟨w.heap.size,0,none⟩) n n) n (madeCells z.cells (n*sz)).toList→Kp No w w'→k (.slice (some ⟨w.heap.size,0,none⟩) n n) w'):Rv P (Instr.makeSlice t (I n) (I n)) w k:=by
 have hb:=E.hb
 obtain ⟨w',hr,ho,hg⟩:=run_make_full (P:=P) w B t e i z sz E.ht E.hi E.hz E.hs .i64 .i64 n (by
  have:i.bytes*n≤65536*1000000:=Nat.mul_le_mul hb (by omega)
  omega) (by simp [maxLen]; omega) hB
 exact ⟨_,w',hr,h w' ho (Kp.grown hg fun _ h=>by cases h)⟩
end Sy
end
section
namespace Sy
section
variable {w:World} {b n:Nat} {c:List Value} {T:TypeId}
theorem new_k {k:Addr→World→Prop} (c:List Value) (h:∀ w',Kp No w w'→Bk w' w.heap.size c T→w'.heap.size=w.heap.size+1→k ⟨w.heap.size,0,none⟩ w'):New (.cells c.toArray T) w k :=
 h _ (Kp.alloc _ _ _) (bk_alloc _ _ _) (by simp)
theorem new_dr {k:Addr→World→Prop} {d:Nat} (c:List Value) (h:∀ w',Kp No w w'→Bk w' w.heap.size c T→w'.heap.size=w.heap.size+1→k ⟨w.heap.size,0,none⟩ w'):New (.cells c.toArray T) (dr w d) k :=
 h _ ((Kp.alloc No (dr w d) _).drL) (bk_alloc _ _ _) (by simp [dr_heap])
theorem sc_k {o:Nat} {v:Value} {k:World→Prop} (hb:Bk w b c T) (ho:o<c.length) (hv:oneCell v=true) (h:∀ w',Kp (·=b) w w'→Bk w' b (c.set o v) T→w'.heap.size=w.heap.size→k w'):Sc ⟨b,o,none⟩ v w k:=by
 rw [hb.st ho v hv]
 exact h _ (Kp.set _ _ _ fun _=>rfl) (hb.set o v) (by simp)
theorem size_setCs (w:World) (b o:Nat) (l:List Value):(setCs w b o l).heap.size=w.heap.size:=by
 induction l generalizing w o with
 | nil=>rfl
 | cons v l ih=>rw [setCs,ih]; simp
theorem sa_k {o:Nat} {cs:List Value} {k:World→Prop} (hb:Bk w b c T) (hn:cs.length=n) (hl:o+n≤c.length) (hv:∀ v∈cs,oneCell v=true) (h:∀ w',Kp (·=b) w w'→Bk w' b (over c o cs) T→w'.heap.size=w.heap.size→k w'):Sa n ⟨b,o,none⟩ cs.toArray w k:=by
 rw [hb.sa cs.toArray (by simpa using hn) hl (by simpa using hv)]
 exact h _ (Kp.setCs _ _ _ _ fun _=>rfl) (by simpa using hb.setCs o cs) (size_setCs _ _ _ _)
theorem over_all:∀ (c l:List Value),c.length=l.length→over c 0 l=l:=by
 intro c l h
 apply List.ext_getElem?
 intro k
 rw [over_get]
 by_cases hk:k<l.length
 ·rw [if_pos ⟨Nat.zero_le _,by omega,by omega⟩]; rfl
 ·rw [if_neg (by omega),List.getElem?_eq_none (by omega),List.getElem?_eq_none (by omega)]
theorem res_k {P:Program} {t:TypeId} (hk:loadKind P t=some (some n)) {cs:List Value} {k:Ko} (hb:Bk w b c T) (hc:c.length=n) (hn:cs.length=n) (hv:∀ v∈cs,oneCell v=true)
  (h:∀ w',Kp (·=b) w w'→k (.agg cs.toArray) w'):Sa n ⟨b,0,none⟩ cs.toArray w fun w5=>Rd P (Instr.loadAt t (.pointer (some ⟨b,0,none⟩))) w5 fun r0=>k r0 w5:=by
 refine sa_k hb hn (by omega) hv fun w' hk' hb' _=>?_
 rw [over_all _ _ (by omega)] at hb'
 rw [res_ag hk hb' hn]
 exact h w' hk'
theorem res_dr {P:Program} {t:TypeId} {d:Nat} (hk:loadKind P t=some (some n)) {cs:List Value} {k:Ko} (hb:Bk w b c T) (hc:c.length=n) (hn:cs.length=n) (hv:∀ v∈cs,oneCell v=true)
  (h:∀ w',Kp (·=b) w w'→k (.agg cs.toArray) w'):Sa n ⟨b,0,none⟩ cs.toArray w fun w5=>Rd P (Instr.loadAt t (.pointer (some ⟨b,0,none⟩))) (dr w5 d) fun r0=>k r0 (dr w5 d):=by
 refine sa_k hb hn (by omega) hv fun w' hk' hb' _=>?_
 rw [over_all _ _ (by omega)] at hb'
 have hb2:Bk (dr w' d) b cs T:=hb'
 rw [res_ag hk hb2 hn]
 exact h _ (hk'.drR d)
end
theorem Kp.own {S:Nat→Prop} {a b c:World} (h:Kp S a b) {x:Nat} (k:Kp (·=x) b c) (hx:a.heap.size≤x):Kp S a c:=h.step k fun i hi e=>by omega
theorem wr_id {x:Int} (h1 : -1000000000000≤x) (h2:x≤1000000000000):IntKind.i64.wrap x=x:=by rw [IntKind.wrap_i64]; omega
def gr (F:Nat→Prop) (w w':World) (b:Nat):Prop:=F b∨(w.heap.size≤b∧b<w'.heap.size)
theorem Kp.gr {F:Nat→Prop} {a b c d:World} (h:Kp F a b) (k:Kp (Sy.gr F a d) b c):Kp F a c:=h.step k fun i hi x=>by
 rcases x with x | x
 ·exact x
 ·omega
theorem Kp.no {a b:World} (h:Kp No a b) (F:Nat→Prop):Kp F a b:=h.mono fun _ _ x=>x.elim
end Sy
end
section
namespace Sy
def intF (P:Program):List Field→Nat→Bool
 | [],_=>true
 | f :: r,i=>f.name != "_" && Nat.beq f.offset i && (match P.underlying f.type,loadKind P f.type with | some (.int _),some none=>true | _,_=>false) && intF P r (i+1)
def intStruct (P:Program) (t n:Nat):Bool:=match P.underlying t with
 | some (.struct fs)=>intF P fs.toList 0 && !P.stoodInHeld t && !P.eqGuardType P.depth t && Nat.beq fs.toList.length n
 | _=>false
theorem eqF {P:Program} {w:World} {d:Nat} {xs ys:Array Value}:∀ (fs:List Field) (i:Nat) (la lb:List Int),intF P fs i=true→fs.length=la.length→fs.length=lb.length→xs.toList.drop i=la.map I→ys.toList.drop i=lb.map I →
  (Op.eqFields (d+1) xs ys fs).run P w=.ok (la == lb) w
 | [],i,la,lb,_,h1,h2,_,_=>by
  have:la=[]:=List.eq_nil_of_length_eq_zero h1.symm
  have:lb=[]:=List.eq_nil_of_length_eq_zero h2.symm
  subst la; subst lb; rfl
 | f :: fs,i,[],lb,_,h1,_,_,_=>by simp at h1
 | f :: fs,i,x :: la,[],_,_,h2,_,_=>by simp at h2
 | f :: fs,i,x :: la,y :: lb,hB,h1,h2,hx,hy=>by
  simp only [intF,Bool.and_eq_true] at hB
  obtain ⟨⟨⟨hn,ho⟩,ht⟩,hr⟩:=hB
  have ho:=Nat.eq_of_beq_eq_true ho
  have gx:xs[i]?=some (I x):=by
   have:=congrArg (·[0]?) hx
   simpa using this
  have gy:ys[i]?=some (I y):=by
   have:=congrArg (·[0]?) hy
   simpa using this
  have dx:xs.toList.drop (i+1)=la.map I:=by
   have:=congrArg (List.drop 1) hx
   simpa [List.drop_drop] using this
  have dy:ys.toList.drop (i+1)=lb.map I:=by
   have:=congrArg (List.drop 1) hy
   simpa [List.drop_drop] using this
  split at ht
  ·rename_i q hu hk
   have hag:=((isAgg_run (P:=P) (t:=f.type) w).2 hk).1
   have hpx:(part f.type xs f.offset).run P w=.ok (I x) w:=by simp [part,Sem.run_bind,hag,ho,gx]
   have hpy:(part f.type ys f.offset).run P w=.ok (I y) w:=by simp [part,Sem.run_bind,hag,ho,gy]
   have hq:=run_equalIn_int (P:=P) w d f.type .i64 q x y hu
   have ih:=eqF (w:=w) (d:=d) (xs:=xs) (ys:=ys) fs (i+1) la lb hr (by simpa using h1) (by simpa using h2) dx dy
   have hn':f.name ≠ "_":=by simpa using hn
   simp only [Op.eqFields,if_pos hn',Sem.run_bind,hpx,hpy,Result.andThen_ok,hq]
   cases e:(x == y) with
   | true=>simpa [e,List.cons_beq_cons] using ih
   | false=>simp [e,List.cons_beq_cons]
  ·cases ht
theorem eq_ints {P:Program} {t n:Nat} (h:intStruct P t n=true) {x y:Operand} (la lb:List Int) (h1:la.length=n) (h2:lb.length=n) (w:World) (k:Value→Prop) :
  Rd P (Bin .eql t x y (.agg (la.map I).toArray) (.agg (lb.map I).toArray)) w k=k (.bool (la == lb))∧Rd P (Bin .neq t x y (.agg (la.map I).toArray) (.agg (lb.map I).toArray)) w k=k (.bool !(la == lb)):=by
 unfold intStruct at h
 split at h
 ·rename_i fs hu
  simp only [Bool.and_eq_true,Bool.not_eq_true'] at h
  obtain ⟨⟨⟨hF,hs⟩,hg⟩,hn⟩:=h
  have hn:=Nat.eq_of_beq_eq_true hn
  have hfo:P.fieldsOf t=fs:=by simp [Program.fieldsOf,hu]
  have he:(Op.equalIn 10000 t (.agg (la.map I).toArray) (.agg (lb.map I).toArray)).run P w=.ok (la == lb) w:=by
   rw [run_equalIn_struct w 9999 t _ _ (by rw [hfo]; exact hu) hs,hfo]
   exact eqF (d:=9998) fs.toList 0 la lb hF (by omega) (by omega) (by simp) (by simp)
  constructor
  ·refine Rd_ok ?_ k
   simp only [Bin,Sem.run_bind,run_eqGuard_agg w _ t x y _ _ hg,Result.andThen_ok,run_eql_struct,he]
  ·refine Rd_ok ?_ k
   simp only [Bin,Sem.run_bind,run_eqGuard_agg w _ t x y _ _ hg,Result.andThen_ok,run_neq_struct,he]
 ·cases h
theorem build_c {P:Program} {t:TypeId} {fs:Array Field} (ht:P.underlying t=some (.struct fs)) {vals:List (Nat × Value)} {v:Value} (h:buildPure P t fs vals=some v) (w:World) (k:Value→Prop):Rd P (Instr.build t vals.toArray) w k=k v :=
 Rd_ok (buildPure_run ht h w) k
def fieldsB (P:Program) (t:TypeId):Array Field:=match P.underlying t with | some (.struct fs)=>fs | _=>#[]
def isStruct (P:Program) (t:TypeId):Bool:=match P.underlying t with | some (.struct _)=>true | _=>false
theorem build_f {P:Program} {t:TypeId} (ht:isStruct P t=true) {vals:List (Nat × Value)} {v:Value} (h:buildPure P t (fieldsB P t) vals=some v) (w:World) (k:Value→Prop):Rd P (Instr.build t vals.toArray) w k=k v:=by
 unfold isStruct at ht
 split at ht
 ·rename_i fs hu
  unfold fieldsB at h
  rw [hu] at h
  exact build_c hu h w k
 ·cases ht
end Sy
end
end Go.Proofs.YtbgbidpecmepmaaGreatDoor
