/- Contracts of the functions that laws.FnLinked reaches are proved here (part 1). Condition: none. -/
import Derived.Test.YtnfngemnghiehaaGreatDoorAwp3
import Derived.Test.YtnfngemnghiehaaGreatDoorRows
import Derived.Test.YtnfngemnghiehaaGreatDoorCards
import Derived.Test.YtnfngemnghiehaaGreatDoorTie
import Derived.Shelf.Lays
import Derived.Sort.Walk0
import Derived.Shelf.Strings.Search3
import Derived.Shelf.Strings.Count
import Derived.Shelf.Strings.OnBuilder
import Derived.Shelf.Sort.Plain
import Derived.Shelf.Slices.In.SortNone
import Derived.Shelf.Spec.SlicesInsert
import Derived.Shelf.Spec.SlicesInsertGrow
import Derived.Deep.MidRow
import Derived.ArgAppend
import Derived.OpenShut
import Derived.SevenTiedAt
import Derived.KernelRfl
set_option linter.unusedVariables false
set_option linter.unusedSimpArgs false
set_option maxRecDepth 100000
set_option maxHeartbeats 20000000
open Nat (reduceEqDiff reduceAdd reduceMul reduceSub)
open Int (reduceNeg reduceToNat reducePow)
namespace Go.Proofs.YtnfngemnghiehaaGreatDoor.Awp
section
namespace W
abbrev a (d x:Nat):GI:=⟨none,some d,.mov d (.t x)⟩
abbrev b (d x s:Nat):GI:=⟨none,some d,.ld d (.t x) s true⟩
abbrev b' (d x s:Nat):GI:=⟨none,some d,.ld d (.t x) s false⟩
abbrev c (d f:Nat) (l:List O):GI:=⟨none,some d,.call (some d) f l⟩
abbrev e (d x:Nat):GI:=⟨none,some d,.asg d (.t x)⟩
abbrev e' (d:Nat) (x:O):GI:=⟨none,some d,.asg d x⟩
abbrev f (d x i:Nat):GI:=⟨none,some d,.fld d (.t x) i⟩
abbrev g (d:Nat) (o:BinOp) (x y:O):GI:=⟨none,some d,.bin d o x y⟩
abbrev x (d x i:Nat):GI:=⟨none,some d,.xtr d (.t x) i⟩
abbrev l (d x:Nat):GI:=⟨none,some d,.len d (.t x)⟩
abbrev s (x y n:Nat):GI:=⟨none,none,.st (.t x) (.t y) n⟩
abbrev i (d x y s:Nat):GI:=⟨none,some d,.idx d (.t x) (.t y) s⟩
abbrev p (d x:Nat) (y z:O):GI:=⟨none,some d,.pck d (.t x) y z⟩
abbrev o (d s:Nat) (y:List O):GI:=⟨none,some d,.bsl d s y⟩
abbrev z (d:Nat) (y:List TV):GI:=⟨none,some d,.alc d y⟩
abbrev ha (t:Nat) (q:Bool) (d x:Nat):GI:=⟨some (t,q),some d,.mov d (.t x)⟩
abbrev hb (t:Nat) (q:Bool) (d x s:Nat):GI:=⟨some (t,q),some d,.ld d (.t x) s true⟩
abbrev hc (t:Nat) (q:Bool) (d f:Nat) (l:List O):GI:=⟨some (t,q),some d,.call (some d) f l⟩
end W
open I W
def kK:Cmd:=Q (R [e' 2 k0]) (Q (Q (R [a 16 0,c 17 12 [v 16]]) (F (v 17) (Q (R [e' 2 k1]) .ret) .skip)) (Q (R [a 19 0,c 20 38 [v 19],a 18 20,x 21 18 0,x 22 18 1,x 23 18 2,z 3 [.sl 6 [],.int .i64 0],s 3 21 2,e 4 22,e 5 23]) (Q (R [b 25 3 2,a 26 4,a 27 5,c 28 19 [v 25,v 26,v 27],a 24 28,x 29 24 0,x 30 24 1,z 6 [.sl 6 [],.int .i64 0],s 6 29 2,e 7 30]) (Q (R [b 32 3 2,a 33 4,a 34 5,c 35 39 [v 32,v 33,v 34],a 31 35,x 36 31 0,x 37 31 1,z 8 [.sl 6 [],.int .i64 0],s 8 36 2,e 9 37]) (Q (Q (R [a 38 7,a 39 9,g 40 .neq (v 38) (v 39),a 41 40,ha 41 false 42 7,h 41 false 43 (bin 43 .neq (v 42) (k 0)),p 44 41 k1 (v 43)]) (F (v 44) (Q (R [a 45 7,a 46 9,g 47 .eql (v 45) (v 46),a 48 47,hb 48 true 49 6 2,hb 48 true 50 3 2,hc 48 true 51 20 [v 49,v 50],p 52 48 (v 51) k0,e 2 52]) .ret) .skip)) (Q (R [b 54 6 2,a 55 5,o 56 1 [.c (.int .u8 108),.c (.int .u8 105),.c (.int .u8 110),.c (.int .u8 107)],n 57 (mrk 57 (v 56)),c 58 40 [v 54,v 55,k 0,v 57],a 53 58,x 59 53 0,x 60 53 1,z 10 [.sl 6 [],.int .i64 0],s 10 59 2,e 11 60]) (Q (R [b 62 10 2,a 63 4,c 64 25 [v 62,v 63,k 0,k 4],a 61 64,x 65 61 0,x 66 61 1,e 12 65,e 13 66]) (Q (R [b 68 6 2,a 69 5,c 70 16 [v 68,v 69],a 67 70,x 71 67 0,x 72 67 1,z 14 [.sl 6 [],.int .i64 0],s 14 71 2,e 15 72]) (Q (D [0,1,3,7,15,31,63,127,255,511,1023,2047,4095,8191,16383,32767,65535,65535,262143,524287,1048575,2097151,4194303,8388607,16777215,33554431,67108863,33554431,268435455,536870911,1073741823,2147483647] [a 73 11,g 74 .eql (v 73) (k 0),a 75 74,ha 75 true 76 13,h 75 true 77 (bin 77 .eql (v 76) (k 0)),p 78 75 (v 77) k0,a 79 78,ha 79 true 80 12,h 79 true 81 (b2s 81 (v 80)),h 79 true 82 (bin 82 .eql (v 81) (.c (.str [108,105,110,107]))),p 83 79 (v 82) k0,a 84 83,ha 84 true 85 15,h 84 true 86 (bin 86 .eql (v 85) (k 0)),p 87 84 (v 86) k0,a 88 87,hb 88 true 89 14 2,hb 88 true 90 3 2,hc 88 true 91 20 [v 89,v 90],p 92 88 (v 91) k0,a 93 92,hb 93 true 94 6 2,hc 93 true 95 28 [v 94],p 96 93 (v 95) k0,a 97 96,hb 97 true 98 6 2,hc 97 true 99 35 [v 98],hb 97 true 100 3 2,hc 97 true 101 35 [v 100],h 97 true 102 (bin 102 .eql (v 99) (v 101)),p 103 97 (v 102) k0,e 2 103]) .ret)))))))))
def akp:Cmd:=Q (R [e' 2 k0]) (Q (R [a 3 0,l 4 3,g 5 .gtr (v 4) (k 1048576),e 2 5]) .ret)
def jL:Cmd:=Q (R [n 2 (box 2 (v 0)),z 4 [.sl 6 [],.int .i64 0],e' 5 (k 0)]) (Q (R [b 10 2 2,c 11 61 [v 10],s 2 11 2]) (Q (Q (R [b 12 2 2,a 13 1,o 14 1 [v 13],c 15 62 [v 12,v 14],n 16 (un 16 .not (v 15)),a 17 16,ha 17 false 18 1,h 17 false 19 (bin 19 .eql (v 18) (.c (.str [47]))),p 20 17 k1 (v 19)]) (F (v 20) (Q (R [b 21 2 2,s 4 21 2,e' 5 (k 1)]) .ret) .skip)) (Q (R [b 23 2 2,a 24 1,c 25 63 [v 23,v 24],a 22 25,x 26 22 0,x 27 22 1,z 6 [.int .i64 0,.int .i64 0,.int .i64 0,.sl 1 [],.sl 2 [],.sl 2 []],s 6 26 6,e 7 27]) (Q (Q (R [a 28 7,g 29 .neq (v 28) (k 0)]) (F (v 29) (Q (R [b 30 2 2,a 31 7,s 4 30 2,e 5 31]) .ret) .skip)) (Q (R [b 33 2 2,a 34 1,c 35 64 [v 33,v 34],a 32 35,x 36 32 0,x 37 32 1,z 8 [.int .i64 0,.int .i64 0,.int .i64 0,.sl 1 [],.sl 2 [],.sl 2 [],.str []],s 8 36 7,e 9 37]) (Q (R [b 38 8 7,b 39 2 2,c 40 65 [v 38,v 39],s 2 40 2]) (Q (R [f 41 6 2,b' 42 41 1,g 43 .sub (v 42) (k 1),f 44 6 2,s 44 43 1]) (Q (Q (R [f 45 6 2,b' 46 45 1,g 47 .eql (v 46) (k 0)]) (F (v 47) (Q (R [b 48 2 2,f 49 6 0,b' 50 49 1,c 51 66 [v 48,v 50],s 4 51 2,e' 5 (k 0)]) .ret) .skip)) (Q (R [b 52 2 2,b 53 6 6,c 54 67 [v 52,v 53],s 4 54 2,e' 5 (k 0)]) .ret)))))))))
def dP:Cmd:=Q (R [n 3 (box 3 (v 0)),z 6 [.sl 6 [],.int .i64 0],e' 7 (k 0)]) (Q (R [b 11 3 2,c 12 61 [v 11],s 3 12 2]) (Q (Q (R [b 13 3 2,a 14 1,a 15 2,o 16 1 [v 14,v 15],c 17 62 [v 13,v 16],n 18 (un 18 .not (v 17)),a 19 18,ha 19 false 20 2,h 19 false 21 (bin 21 .eql (v 20) (.c (.str [47]))),p 22 19 k1 (v 21)]) (F (v 22) (Q (R [b 23 3 2,s 6 23 2,e' 7 (k 1)]) .ret) .skip)) (Q (R [b 25 3 2,a 26 1,c 27 63 [v 25,v 26],a 24 27,x 28 24 0,x 29 24 1,z 8 [.int .i64 0,.int .i64 0,.int .i64 0,.sl 1 [],.sl 2 [],.sl 2 []],s 8 28 6,e 9 29]) (Q (Q (R [a 30 9,g 31 .neq (v 30) (k 0)]) (F (v 31) (Q (R [b 32 3 2,a 33 9,s 6 32 2,e 7 33]) .ret) .skip)) (Q (R [b 35 3 2,a 36 2,c 37 64 [v 35,v 36],a 34 37,x 38 34 0,x 39 34 1,z 10 [.int .i64 0,.int .i64 0,.int .i64 0,.sl 1 [],.sl 2 [],.sl 2 [],.str []],s 10 38 7,e 9 39]) (Q (.blk 0 (Q (R [a 41 9,g 42 .neq (v 41) (k 0),e 40 42]) (F (v 40) (Q (R [b 43 3 2,a 44 9,s 6 43 2,e 7 44]) .ret) (Q (R [f 46 10 0,b 47 46 6,f 48 10 6,b' 49 48 1,c 50 69 [v 47,v 49],g 51 .neq (v 50) (k 0),e 45 51]) (F (v 45) (Q (R [b 52 3 2,s 6 52 2,e' 7 (k 4)]) .ret) (Q (R [f 54 10 0,f 55 54 4,b' 56 55 1,l 57 56,g 58 .eql (v 57) (k 10),e 53 58]) (F (v 53) (Q (R [b 59 3 2,s 6 59 2,e' 7 (k 5)]) .ret) .skip))))))) (Q (R [f 60 8 2,b' 61 60 1,g 62 .add (v 61) (k 1),f 63 8 2,s 63 62 1]) (Q (D [0,0,0,4,15,0,63,127,255] [b 64 10 7,b 65 3 2,f 66 8 0,b' 67 66 1,c 68 71 [v 64,v 65,v 67],b 69 8 6,c 70 67 [v 68,v 69],s 6 70 2,e' 7 (k 0)]) .ret))))))))
def wT:Cmd:=Q (R [n 2 (box 2 (v 0)),n 3 (box 3 (v 1)),e' 4 k0]) (Q (R [f 5 2 1,b' 6 5 1,f 7 3 1,b' 8 7 1,g 9 .eql (v 6) (v 8),a 10 9,h 10 true 11 (fld 11 (v 2) 0),h 10 true 12 (ld 12 (v 11) 1 false),h 10 true 13 (fld 13 (v 3) 0),h 10 true 14 (ld 14 (v 13) 1 false),hc 10 true 15 72 [v 12,v 14,.c (.fn 73 [])],p 16 10 (v 15) k0,e 4 16]) .ret)
def jM:Cmd:=Q (R [n 2 (box 2 (v 0)),z 4 [.sl 6 [],.int .i64 0],e' 5 (k 0)]) (Q (R [a 13 1,c 14 75 [v 13],a 12 14,x 15 12 0,x 16 12 1,x 17 12 2,e 6 15,e 7 16,e 8 17]) (Q (Q (R [b 18 2 2,c 19 46 [v 18],n 20 (un 20 .not (v 19)),a 21 20,ha 21 false 22 8,h 21 false 23 (un 23 .not (v 22)),p 24 21 k1 (v 23)]) (F (v 24) (Q (R [b 25 2 2,c 26 76 [v 25],s 4 26 2,e' 5 (k 1)]) .ret) .skip)) (Q (R [b 28 2 2,a 29 1,c 30 77 [v 28,v 29],a 27 30,x 31 27 0,x 32 27 1,z 9 [.int .i64 0,.int .i64 0,.int .i64 0,.sl 1 [],.sl 2 [],.sl 2 []],s 9 31 6,e 10 32]) (Q (Q (R [a 33 10,g 34 .neq (v 33) (k 0)]) (F (v 34) (Q (R [b 35 2 2,c 36 76 [v 35],a 37 10,s 4 36 2,e 5 37]) .ret) .skip)) (Q (R [b 38 2 2,a 39 1,c 40 78 [v 38,v 39],z 11 [.sl 6 [],.int .i64 0],s 11 40 2]) (Q (Q (R [f 41 9 2,b' 42 41 1,g 43 .eql (v 42) (k 1)]) (F (v 43) (Q (R [b 44 11 2,f 45 9 0,b' 46 45 1,c 47 79 [v 44,v 46],s 4 47 2,e' 5 (k 0)]) .ret) .skip)) (Q (R [f 48 9 2,b' 49 48 1,g 50 .sub (v 49) (k 1),f 51 9 2,s 51 50 1]) (Q (R [b 52 11 2,b 53 9 6,c 54 80 [v 52,v 53],s 4 54 2,e' 5 (k 0)]) .ret))))))))
def abi:Cmd:=Q (R [n 2 (box 2 (v 0)),e' 4 (k 0),e' 5 (k 0)]) (Q (R [a 14 1,c 15 81 [v 14],a 13 15,x 16 13 0,x 17 13 1,e 6 16,e 7 17]) (Q (Q (R [a 18 7,n 19 (un 19 .not (v 18))]) (F (v 19) (Q (R [e' 4 (k 0),e' 5 (k 1)]) .ret) .skip)) (Q (R [e' 8 (k 1)]) (Q (Q (R [a 20 6,l 21 20,n 22 (mov 22 (k 0))]) (.blk 0 (.loop (Q (R [g 23 .lss (v 22) (v 21)]) (Q (F (v 23) .skip (.exit 0)) (Q (.blk 1 (Q (R [i 24 20 22 1,b' 25 24 1,e 10 25]) (Q (R [b 27 2 2,a 28 8,c 29 70 [v 27,v 28],a 26 29,x 30 26 0,x 31 26 1,z 11 [.int .i64 0,.int .i64 0,.int .i64 0,.sl 1 [],.sl 2 [],.sl 2 []],s 11 30 6,e 12 31]) (Q (.blk 2 (Q (R [a 33 12,n 34 (un 34 .not (v 33)),e 32 34]) (F (v 32) (Q (R [e' 4 (k 0),e' 5 (k 2)]) .ret) (Q (R [f 36 11 1,b' 37 36 1,g 38 .neq (v 37) (k 2),e 35 38]) (F (v 35) (Q (R [e' 4 (k 0),e' 5 (k 3)]) .ret) .skip))))) (Q (R [b 39 11 6,a 40 10,c 41 69 [v 39,v 40],e 8 41]) (Q (R [a 42 8,g 43 .eql (v 42) (k 0)]) (F (v 43) (Q (R [e' 4 (k 0),e' 5 (k 2)]) .ret) .skip))))))) (R [g 44 .add (v 22) (k 1),a 22 44]))))))) (Q (R [a 45 8,e 4 45,e' 5 (k 0)]) .ret)))))
def f6:Cmd:=Q (R [n 4 (box 4 (v 0)),e' 8 (.c (.own 1 [])),e' 9 (k 0)]) (Q (Q (R [a 13 2,g 14 .lss (v 13) (k 0),a 15 14,ha 15 false 16 3,h 15 false 17 (bin 17 .lss (v 16) (k 0)),p 18 15 k1 (v 17)]) (F (v 18) (Q (R [e' 8 (.c (.own 1 [])),e' 9 (k 1)]) .ret) .skip)) (Q (R [b 20 4 2,a 21 1,c 22 68 [v 20,v 21],a 19 22,x 23 19 0,x 24 19 1,z 10 [.int .i64 0,.int .i64 0,.int .i64 0,.sl 1 [],.sl 2 [],.sl 2 []],s 10 23 6,e 11 24]) (Q (Q (R [a 25 11,g 26 .neq (v 25) (k 0)]) (F (v 26) (Q (R [a 27 11,e' 8 (.c (.own 1 [])),e 9 27]) .ret) .skip)) (Q (Q (R [f 28 10 1,b' 29 28 1,g 30 .neq (v 29) (k 1)]) (F (v 30) (Q (R [e' 8 (.c (.own 1 [])),e' 9 (k 3)]) .ret) .skip)) (Q (R [f 31 10 3,b' 32 31 1,a 33 2,f 34 10 3,b' 35 34 1,l 36 35,n 37 (mn 37 (v 33) (v 36)),n 38 (slc 38 (v 32) (some (v 37)) none 1),e 12 38]) (Q (R [a 39 12,a 40 3,a 41 12,l 42 41,n 43 (mn 43 (v 40) (v 42)),n 44 (slc 44 (v 39) none (some (v 43)) 1),c 45 84 [v 44],e 8 45,e' 9 (k 0)]) .ret))))))
def zQ:Cmd:=Q (R [n 1 (box 1 (v 0)),e' 2 k0]) (Q (Q (D [0,1,3,7,15,31,63,15,143,399,1023,2047] [b 7 1 2,c 8 85 [v 7],n 9 (un 9 .not (v 8)),a 10 9,hb 10 false 11 1 2,hc 10 false 12 49 [v 11],h 10 false 13 (len 13 (v 12)),h 10 false 14 (fld 14 (v 1) 0),h 10 false 15 (ld 15 (v 14) 1 false),h 10 false 16 (len 16 (v 15)),h 10 false 17 (bin 17 .neq (v 13) (v 16)),p 18 10 k1 (v 17)]) (F (v 18) (Q (R [e' 2 k0]) .ret) .skip)) (Q (Q (R [f 19 1 0,b' 20 19 1,l 21 20,n 22 (mov 22 (k 0))]) (.blk 0 (.loop (Q (R [g 23 .lss (v 22) (v 21)]) (Q (F (v 23) .skip (.exit 0)) (Q (.blk 1 (Q (R [i 24 20 22 6,b 25 24 6,z 4 [.int .i64 0,.int .i64 0,.int .i64 0,.sl 1 [],.sl 2 [],.sl 2 []],s 4 25 6]) (Q (Q (D [0,1,0,0,8,28,63] [f 26 4 2,b' 27 26 1,b 28 1 2,f 29 4 0,b' 30 29 1,c 31 86 [v 28,v 30],g 32 .neq (v 27) (v 31)]) (F (v 32) (Q (R [e' 2 k0]) .ret) .skip)) (Q (R [f 33 4 4,b' 34 33 1,l 35 34,n 36 (mov 36 (k 0))]) (.blk 2 (.loop (Q (R [g 37 .lss (v 36) (v 35)]) (Q (F (v 37) .skip (.exit 2)) (Q (.blk 3 (Q (R [i 38 34 36 2,b 39 38 2,z 6 [.str [],.int .i64 0],s 6 39 2]) (Q (R [b 40 1 2,f 41 6 1,b' 42 41 1,c 43 87 [v 40,v 42],g 44 .lss (v 43) (k 0)]) (F (v 44) (Q (R [e' 2 k0]) .ret) .skip)))) (R [g 45 .add (v 36) (k 1),a 36 45])))))))))) (R [g 46 .add (v 22) (k 1),a 22 46]))))))) (Q (R [e' 2 k1]) .ret)))
def eG:Cmd:=Q (R [n 2 (box 2 (v 0)),z 4 [.sl 6 [],.int .i64 0],e' 5 (k 0)]) (Q (R [a 12 1,c 13 75 [v 12],a 11 13,x 14 11 0,x 15 11 1,x 16 11 2,e 6 14,e 7 15,e 8 16]) (Q (Q (R [b 17 2 2,c 18 46 [v 17],n 19 (un 19 .not (v 18)),a 20 19,ha 20 false 21 8,h 20 false 22 (un 22 .not (v 21)),p 23 20 k1 (v 22)]) (F (v 23) (Q (R [b 24 2 2,c 25 76 [v 24],s 4 25 2,e' 5 (k 1)]) .ret) .skip)) (Q (R [b 27 2 2,a 28 1,c 29 88 [v 27,v 28],a 26 29,x 30 26 0,x 31 26 1,z 9 [.int .i64 0,.int .i64 0,.int .i64 0,.sl 1 [],.sl 2 [],.sl 2 []],s 9 30 6,e 10 31]) (Q (.blk 0 (Q (R [a 33 10,g 34 .neq (v 33) (k 0),e 32 34]) (F (v 32) (Q (R [b 35 2 2,c 36 76 [v 35],a 37 10,s 4 36 2,e 5 37]) .ret) (Q (R [f 39 9 1,b' 40 39 1,g 41 .neq (v 40) (k 2),e 38 41]) (F (v 38) (Q (R [b 42 2 2,c 43 76 [v 42],s 4 43 2,e' 5 (k 3)]) .ret) (Q (R [f 45 9 4,b' 46 45 1,l 47 46,g 48 .gtr (v 47) (k 0),e 44 48]) (F (v 44) (Q (R [b 49 2 2,c 50 76 [v 49],s 4 50 2,e' 5 (k 6)]) .ret) .skip))))))) (Q (D [0,0,3,0,8,31,63,127] [b 51 2 2,a 52 1,c 53 78 [v 51,v 52],f 54 9 0,b' 55 54 1,c 56 79 [v 53,v 55],s 4 56 2,e' 5 (k 0)]) .ret)))))
def uL:Cmd:=Q (R [n 2 (box 2 (v 0)),z 4 [.sl 6 [],.int .i64 0],e' 5 (k 0)]) (Q (R [b 6 2 2,a 7 1,c 8 89 [v 6,v 7,k 1],x 9 8 0,x 10 8 1,s 4 9 2,e 5 10]) .ret)
def wU:Cmd:=Q (R [n 1 (box 1 (v 0)),e' 2 (k 0)]) (Q (R [e' 3 (k 0)]) (Q (Q (R [f 8 1 0,b' 9 8 1,l 10 9,n 11 (mov 11 (k 0))]) (.blk 0 (.loop (Q (R [g 12 .lss (v 11) (v 10)]) (Q (F (v 12) .skip (.exit 0)) (Q (.blk 1 (Q (R [i 13 9 11 6,b 14 13 6,z 5 [.int .i64 0,.int .i64 0,.int .i64 0,.sl 1 [],.sl 2 [],.sl 2 []],s 5 14 6]) (Q (R [a 15 3,f 16 5 3,b' 17 16 1,l 18 17,g 19 .add (k 32) (v 18),g 20 .add (v 15) (v 19),e 3 20]) (Q (R [f 21 5 5,b' 22 21 1,l 23 22,n 24 (mov 24 (k 0))]) (.blk 2 (.loop (Q (R [g 25 .lss (v 24) (v 23)]) (Q (F (v 25) .skip (.exit 2)) (Q (.blk 3 (Q (R [i 26 22 24 2,b 27 26 2,z 7 [.str [],.str []],s 7 27 2]) (R [a 28 3,f 29 7 0,b' 30 29 1,n 31 (lens 31 (v 30)),f 32 7 1,b' 33 32 1,n 34 (lens 34 (v 33)),g 35 .add (v 31) (v 34),g 36 .add (v 28) (v 35),e 3 36]))) (R [g 37 .add (v 24) (k 1),a 24 37])))))))))) (R [g 38 .add (v 11) (k 1),a 11 38]))))))) (Q (R [a 39 3,e 2 39]) .ret)))
def wV:Cmd:=Q (R [n 2 (box 2 (v 0)),z 4 [.sl 6 [],.int .i64 0],e' 5 (k 0)]) (Q (R [b 6 2 2,a 7 1,c 8 89 [v 6,v 7,k 2],x 9 8 0,x 10 8 1,s 4 9 2,e 5 10]) .ret)
def nZ:Cmd:=Q (R [z 2 [.sl 6 [],.int .i64 0],e' 3 (.c (.str [])),e' 4 (.c (.str []))]) (Q (R [a 7 0,c 8 56 [v 7],e 5 8]) (Q (R [a 9 5,c 10 74 [v 9],z 6 [.sl 6 [],.int .i64 0],s 6 10 2]) (Q (D [0,0,0,6,0,30,63,127,255] [b 11 6 2,a 12 5,b 13 6 2,c 14 58 [v 12,v 13],a 15 5,c 16 90 [v 15],s 2 11 2,e 3 14,e 4 16]) .ret)))
def eV:Cmd:=Q (R [n 3 (box 3 (v 0)),z 6 [.sl 6 [],.int .i64 0],e' 7 (k 0)]) (Q (R [a 19 1,c 20 91 [v 19],a 18 20,x 21 18 0,x 22 18 1,e 8 21,e 9 22]) (Q (R [a 24 2,c 25 75 [v 24],a 23 25,x 26 23 0,x 27 23 1,x 28 23 2,e 10 26,e 11 27,e 12 28]) (Q (Q (R [b 29 3 2,c 30 46 [v 29],n 31 (un 31 .not (v 30)),a 32 31,ha 32 false 33 9,h 32 false 34 (un 34 .not (v 33)),p 35 32 k1 (v 34),a 36 35,ha 36 false 37 12,h 36 false 38 (un 38 .not (v 37)),p 39 36 k1 (v 38)]) (F (v 39) (Q (R [b 40 3 2,c 41 76 [v 40],s 6 41 2,e' 7 (k 1)]) .ret) .skip)) (Q (R [b 43 3 2,a 44 1,c 45 77 [v 43,v 44],a 42 45,x 46 42 0,x 47 42 1,z 13 [.int .i64 0,.int .i64 0,.int .i64 0,.sl 1 [],.sl 2 [],.sl 2 []],s 13 46 6,e 14 47]) (Q (Q (R [a 48 14,g 49 .neq (v 48) (k 0)]) (F (v 49) (Q (R [b 50 3 2,c 51 76 [v 50],a 52 14,s 6 51 2,e 7 52]) .ret) .skip)) (Q (R [b 54 3 2,a 55 2,c 56 92 [v 54,v 55,k 0],a 53 56,x 57 53 0,x 58 53 1,x 59 53 2,z 15 [.int .i64 0,.int .i64 0,.int .i64 0,.sl 1 [],.sl 2 [],.sl 2 []],s 15 57 6,e 16 58,e 17 59]) (Q (Q (R [a 60 17,g 61 .neq (v 60) (k 0)]) (F (v 61) (Q (R [b 62 3 2,c 63 76 [v 62],a 64 17,s 6 63 2,e 7 64]) .ret) .skip)) (Q (R [f 65 13 2,b' 66 65 1,g 67 .add (v 66) (k 1),f 68 13 2,s 68 67 1]) (Q (R [f 69 15 4,b' 70 69 1,a 71 16,f 72 13 0,b' 73 72 1,n 74 (bld 74 [.str [],.int .i64 0] [(0,1,v 71),(1,1,v 73)]),c 75 93 [v 70,v 74],f 76 15 4,s 76 75 1]) (Q (D [0,0,3,0,15,31,63] [b 77 3 2,b 78 13 6,c 79 80 [v 77,v 78],b 80 15 6,c 81 80 [v 79,v 80],s 6 81 2,e' 7 (k 0)]) .ret))))))))))
def g7:Cmd:=Q (R [n 4 (box 4 (v 0)),z 8 [.sl 6 [],.int .i64 0],e' 9 (k 0)]) (Q (R [b 12 4 2,c 13 61 [v 12],s 4 13 2]) (Q (Q (R [b 14 4 2,a 15 1,o 16 1 [v 15],c 17 62 [v 14,v 16],n 18 (un 18 .not (v 17)),a 19 18,ha 19 false 20 2,hc 19 false 21 94 [v 20,k 0,k 100],h 19 false 22 (un 22 .not (v 21)),p 23 19 k1 (v 22)]) (F (v 23) (Q (R [b 24 4 2,s 8 24 2,e' 9 (k 1)]) .ret) .skip)) (Q (R [b 26 4 2,a 27 1,c 28 63 [v 26,v 27],a 25 28,x 29 25 0,x 30 25 1,z 10 [.int .i64 0,.int .i64 0,.int .i64 0,.sl 1 [],.sl 2 [],.sl 2 []],s 10 29 6,e 11 30]) (Q (Q (R [a 31 11,g 32 .neq (v 31) (k 0)]) (F (v 32) (Q (R [b 33 4 2,a 34 11,s 8 33 2,e 9 34]) .ret) .skip)) (Q (Q (R [a 35 2,a 36 3,l 37 36,g 38 .add (v 35) (v 37),g 39 .gtr (v 38) (k 100)]) (F (v 39) (Q (R [b 40 4 2,s 8 40 2,e' 9 (k 5)]) .ret) .skip)) (Q (R [f 41 10 3,b' 42 41 1,f 43 10 3,b' 44 43 1,l 45 44,a 46 2,a 47 3,l 48 47,g 49 .add (v 46) (v 48),n 50 (mx 50 (v 45) (v 49)),c 51 95 [v 42,v 50],f 52 10 3,s 52 51 1]) (Q (R [f 53 10 3,b' 54 53 1,a 55 2,n 56 (slc 56 (v 54) (some (v 55)) none 1),a 57 3,n 58 (cpy 58 (v 56) (v 57) 1)]) (Q (R [b 59 4 2,b 60 10 6,c 61 67 [v 59,v 60],s 8 61 2,e' 9 (k 0)]) .ret))))))))
def f7:Cmd:=Q (R [n 3 (box 3 (v 0)),z 6 [.sl 6 [],.int .i64 0],e' 7 (k 0)]) (Q (R [a 28 1,c 29 75 [v 28],a 27 29,x 30 27 0,x 31 27 1,x 32 27 2,e 8 30,e 9 31,e 10 32]) (Q (R [a 34 2,c 35 75 [v 34],a 33 35,x 36 33 0,x 37 33 1,x 38 33 2,e 11 36,e 12 37,e 13 38]) (Q (Q (R [b 39 3 2,c 40 46 [v 39],n 41 (un 41 .not (v 40)),a 42 41,ha 42 false 43 10,h 42 false 44 (un 44 .not (v 43)),p 45 42 k1 (v 44),a 46 45,ha 46 false 47 13,h 46 false 48 (un 48 .not (v 47)),p 49 46 k1 (v 48)]) (F (v 49) (Q (R [b 50 3 2,c 51 76 [v 50],s 6 51 2,e' 7 (k 1)]) .ret) .skip)) (Q (R [b 53 3 2,a 54 1,c 55 97 [v 53,v 54],a 52 55,x 56 52 0,x 57 52 1,e 14 56,e 15 57]) (Q (Q (R [a 58 15,g 59 .neq (v 58) (k 0)]) (F (v 59) (Q (R [b 60 3 2,c 61 76 [v 60],a 62 15,s 6 61 2,e 7 62]) .ret) .skip)) (Q (Q (R [a 63 1,a 64 2,c 65 98 [v 63,v 64]]) (F (v 65) (Q (R [b 66 3 2,c 67 76 [v 66],s 6 67 2,e' 7 (k 6)]) .ret) .skip)) (Q (R [b 69 3 2,a 70 8,c 71 97 [v 69,v 70],a 68 71,x 72 68 0,x 73 68 1,e 16 72,e 17 73]) (Q (R [b 75 3 2,a 76 2,a 77 16,c 78 92 [v 75,v 76,v 77],a 74 78,x 79 74 0,x 80 74 1,x 81 74 2,z 18 [.int .i64 0,.int .i64 0,.int .i64 0,.sl 1 [],.sl 2 [],.sl 2 []],s 18 79 6,e 19 80,e 20 81]) (Q (Q (R [a 82 20,g 83 .neq (v 82) (k 0)]) (F (v 83) (Q (R [b 84 3 2,c 85 76 [v 84],a 86 20,s 6 85 2,e 7 86]) .ret) .skip)) (Q (R [b 87 3 2,a 88 1,c 89 78 [v 87,v 88],z 21 [.sl 6 [],.int .i64 0],s 21 89 2]) (Q (R [a 91 2,c 92 75 [v 91],a 90 92,x 93 90 0,x 94 90 1,x 95 90 2,e 22 93,e 23 94,e 24 95]) (Q (R [b 97 21 2,a 98 22,c 99 88 [v 97,v 98],a 96 99,x 100 96 0,x 101 96 1,z 25 [.int .i64 0,.int .i64 0,.int .i64 0,.sl 1 [],.sl 2 [],.sl 2 []],s 25 100 6,e 26 101]) (Q (R [f 102 25 4,b' 103 102 1,a 104 19,a 105 14,n 106 (bld 106 [.str [],.int .i64 0] [(0,1,v 104),(1,1,v 105)]),c 107 93 [v 103,v 106],f 108 25 4,s 108 107 1]) (Q (R [b 109 21 2,b 110 25 6,c 111 80 [v 109,v 110],s 6 111 2,e' 7 (k 0)]) .ret))))))))))))))
def zR:Cmd:=Q (R [n 1 (box 1 (v 0)),e' 2 k0]) (Q (Q (D [0,1,3,7,15,31,63,15,143,399,1023,2047] [b 6 1 2,c 7 107 [v 6],n 8 (un 8 .not (v 7)),a 9 8,hb 9 false 10 1 2,hc 9 false 11 50 [v 10],h 9 false 12 (len 12 (v 11)),h 9 false 13 (fld 13 (v 1) 0),h 9 false 14 (ld 14 (v 13) 1 false),h 9 false 15 (len 15 (v 14)),h 9 false 16 (bin 16 .neq (v 12) (v 15)),p 17 9 k1 (v 16)]) (F (v 17) (Q (R [e' 2 k0]) .ret) .skip)) (Q (Q (R [e' 3 (k 0)]) (.blk 0 (.loop (Q (Q (R [a 18 3,f 19 1 0,b' 20 19 1,l 21 20,g 22 .lss (v 18) (v 21)]) (F (v 22) .skip (.exit 0))) (Q (.blk 1 (Q (R [f 25 1 0,b' 26 25 1,a 27 3,i 28 26 27 6,b 29 28 6,z 4 [.int .i64 0,.int .i64 0,.int .i64 0,.sl 1 [],.sl 2 [],.sl 2 []],s 4 29 6]) (Q (Q (D [0,0,2,7,0,16,63] [b 30 1 2,f 31 4 0,b' 32 31 1,c 33 108 [v 30,v 32],f 34 4 2,b' 35 34 1,g 36 .neq (v 33) (v 35)]) (F (v 36) (Q (R [e' 2 k0]) .ret) .skip)) (Q (R [e' 5 (k 0)]) (.blk 2 (.loop (Q (Q (R [a 37 5,f 38 4 4,b' 39 38 1,l 40 39,g 41 .lss (v 37) (v 40)]) (F (v 41) .skip (.exit 2))) (Q (.blk 3 (Q (D [0,0,2,0,14,30,62,127,255] [b 44 1 2,f 45 4 4,b' 46 45 1,a 47 5,i 48 46 47 2,f 49 48 1,b' 50 49 1,c 51 109 [v 44,v 50],g 52 .lss (v 51) (k 0)]) (F (v 52) (Q (R [e' 2 k0]) .ret) .skip))) (R [a 42 5,g 43 .add (v 42) (k 1),e 5 43]))))))))) (R [a 23 3,g 24 .add (v 23) (k 1),e 3 24])))))) (Q (R [e' 2 k1]) .ret)))
def wW:Cmd:=Q (R [n 1 (box 1 (v 0)),e' 2 (.c (.own 1 []))]) (Q (R [o 10 1 [],e 3 10]) (Q (R [o 11 1 [k 1],e 4 11]) (Q (.blk 0 (.loop (Q (Q (R [a 12 4,l 13 12,g 14 .gtr (v 13) (k 0)]) (F (v 14) .skip (.exit 0))) (.blk 1 (Q (R [a 15 4,n 16 (idx 16 (v 15) (k 0) 1),b' 17 16 1,e 5 17]) (Q (R [a 18 4,n 19 (slc 19 (v 18) (some (k 1)) none 1),e 4 19]) (Q (R [b 21 1 2,a 22 5,c 23 70 [v 21,v 22],a 20 23,x 24 20 0,x 25 20 1,z 6 [.int .i64 0,.int .i64 0,.int .i64 0,.sl 1 [],.sl 2 [],.sl 2 []],s 6 24 6,e 7 25]) (Q (Q (R [a 26 7,n 27 (un 27 .not (v 26)),a 28 27,ha 28 false 29 3,ha 28 false 30 5,hc 28 false 31 110 [v 29,v 30],p 32 28 k1 (v 31)]) (F (v 32) (.exit 1) .skip)) (Q (R [a 33 3,a 34 5,o 35 1 [v 34],n 36 (app 36 (v 33) (v 35) 1 8),e 3 36]) (Q (R [f 37 6 1,b' 38 37 1,g 39 .eql (v 38) (k 2)]) (F (v 39) (Q (R [f 40 6 4,b' 41 40 1,l 42 41,n 43 (mov 43 (k 0))]) (.blk 2 (.loop (Q (R [g 44 .lss (v 43) (v 42)]) (Q (F (v 44) .skip (.exit 2)) (Q (.blk 3 (Q (R [i 45 41 43 2,b 46 45 2,z 9 [.str [],.int .i64 0],s 9 46 2]) (R [a 47 4,f 48 9 1,b' 49 48 1,o 50 1 [v 49],n 51 (app 51 (v 47) (v 50) 1 8),e 4 51]))) (R [g 52 .add (v 43) (k 1),a 43 52]))))))) .skip))))))))))) (Q (R [a 53 3,c 54 111 [v 53]]) (Q (R [a 55 3,e 2 55]) .ret)))))
def qX:Cmd:=Q (R [n 1 (box 1 (v 0)),e' 2 (.c (.own 1 []))]) (Q (R [o 5 1 [],e 3 5]) (Q (Q (R [b 6 1 2,c 7 109 [v 6,k 1],g 8 .lss (v 7) (k 0)]) (F (v 8) (Q (R [a 9 3,e 2 9]) .ret) .skip)) (Q (R [a 10 3,o 11 1 [k 1],n 12 (app 12 (v 10) (v 11) 1 8),e 3 12]) (Q (Q (R [e' 4 (k 0)]) (.blk 0 (.loop (Q (Q (R [a 13 4,f 14 1 0,b' 15 14 1,l 16 15,g 17 .lss (v 13) (v 16)]) (F (v 17) .skip (.exit 0))) (Q (.blk 1 (R [b 20 1 2,a 21 3,c 22 112 [v 20,v 21],e 3 22])) (R [a 18 4,g 19 .add (v 18) (k 1),e 4 19])))))) (Q (R [a 23 3,e 2 23]) .ret)))))
def acz:Cmd:=Q (R [e' 2 (.c (.undef))]) (Q (R [a 5 0,l 6 5,g 7 .add (k 351351) (v 6),e 3 7]) (Q (Q (R [e' 4 (k 0)]) (.blk 0 (.loop (Q (Q (R [a 8 4,a 9 0,l 10 9,g 11 .lss (v 8) (v 10),a 12 11,ha 12 true 13 4,h 12 true 14 (bin 14 .lss (v 13) (k 4000)),p 15 12 (v 14) k0]) (F (v 15) .skip (.exit 0))) (Q (.blk 1 (R [a 18 3,g 19 .mul (v 18) (k 137),a 20 0,a 21 4,i 22 20 21 1,b' 23 22 1,n 24 (conv 24 .i64 (v 23)),g 25 .add (v 19) (v 24),g 26 .add (v 25) (k 11),g 27 .and (v 26) (k 1073741823),e 3 27])) (R [a 16 4,g 17 .add (v 16) (k 1),e 4 17])))))) (Q (R [a 28 0,a 29 3,n 30 (bld 30 [.sl 1 [],.int .i64 0,.int .i64 0] [(0,1,v 28),(2,1,v 29)]),n 31 (box 31 (v 30)),e 2 31]) .ret)))
def zS:Cmd:=Q (R [z 4 [.sl 6 [],.int .i64 0]]) (Q (R [c 7 118 [],z 5 [.sl 6 [],.int .i64 0],s 5 7 2]) (Q (Q (R [a 8 0,a 9 1,g 10 .add (v 9) (k 4),c 11 101 [v 8,v 10],e 6 11]) (.blk 0 (.loop (Q (Q (R [a 12 6,g 13 .gtr (v 12) (k 0)]) (F (v 13) .skip (.exit 0))) (Q (.blk 1 (R [a 16 0,b 17 5 2,c 18 119 [v 16,v 17],s 5 18 2])) (R [a 14 6,g 15 .sub (v 14) (k 1),e 6 15])))))) (Q (R [b 19 5 2,s 4 19 2]) .ret)))
def pS:Cmd:=Q (R [n 3 (box 3 (v 1)),e' 4 (.c (.str []))]) (Q (R [b 6 3 2,c 7 120 [v 6],e 5 7]) (Q (Q (R [a 8 5,l 9 8,g 10 .gtr (v 9) (k 0),a 11 10,ha 11 true 12 0,hc 11 true 13 96 [v 12,k 4],h 11 true 14 (un 14 .not (v 13)),p 15 11 (v 14) k0]) (F (v 15) (Q (R [a 16 5,a 17 0,a 18 5,l 19 18,c 20 101 [v 17,v 19],i 21 16 20 1,b' 22 21 1,e 4 22]) .ret) .skip)) (Q (R [a 23 0,c 24 90 [v 23],e 4 24]) .ret)))
def zT:Cmd:=Q (R [e' 2 (.c (.str []))]) (Q (R [e' 3 (.c (.str []))]) (Q (Q (R [a 5 0,c 6 101 [v 5,k 3],g 7 .add (k 1) (v 6),e 4 7]) (.blk 0 (.loop (Q (Q (R [a 8 4,g 9 .gtr (v 8) (k 0)]) (F (v 9) .skip (.exit 0))) (Q (.blk 1 (R [a 12 3,g 13 .add (v 12) (.c (.str [47])),a 14 0,c 15 121 [v 14],g 16 .add (v 13) (v 15),e 3 16])) (R [a 10 4,g 11 .sub (v 10) (k 1),e 4 11])))))) (Q (R [a 17 3,e 2 17]) .ret)))
def wX:Cmd:=Q (R [n 1 (box 1 (v 0)),z 2 [.sl 6 [],.int .i64 0]]) (Q (R [f 6 1 1,b' 7 6 1,n 8 (bld 8 [.sl 6 [],.int .i64 0] [(1,1,v 7)]),z 3 [.sl 6 [],.int .i64 0],s 3 8 2]) (Q (Q (R [f 9 1 0,b' 10 9 1,l 11 10,n 12 (mov 12 (k 0))]) (.blk 0 (.loop (Q (R [g 13 .lss (v 12) (v 11)]) (Q (F (v 13) .skip (.exit 0)) (Q (.blk 1 (Q (R [i 14 10 12 6,b 15 14 6,z 5 [.int .i64 0,.int .i64 0,.int .i64 0,.sl 1 [],.sl 2 [],.sl 2 []],s 5 15 6]) (D [0,1,0,4,12,31,63,127] [f 16 3 0,b' 17 16 1,b 18 5 6,c 19 122 [v 18],o 20 6 [v 19],n 21 (app 21 (v 17) (v 20) 6 96),f 22 3 0,s 22 21 1]))) (R [g 23 .add (v 12) (k 1),a 12 23]))))))) (Q (R [b 24 3 2,s 2 24 2]) .ret)))
def acA:Cmd:=Q (R [n 2 (box 2 (v 0)),e' 4 k0]) (Q (Q (R [a 9 1,l 10 9,n 11 (mov 11 (k 0))]) (.blk 0 (.loop (Q (R [g 12 .lss (v 11) (v 10)]) (Q (F (v 12) .skip (.exit 0)) (Q (.blk 1 (Q (R [i 13 9 11 1,b' 14 13 1,e 6 14]) (Q (R [a 16 6,c 17 81 [v 16],a 15 17,x 18 15 0,x 19 15 1,e 7 18,e 8 19]) (Q (R [a 20 8,n 21 (un 21 .not (v 20))]) (F (v 21) (Q (R [e' 4 k0]) .ret) .skip))))) (R [g 22 .add (v 11) (k 1),a 11 22]))))))) (Q (R [b 23 2 2,c 24 28 [v 23],e 4 24]) .ret))
def pT:Cmd:=Q (R [n 2 (box 2 (v 0)),z 4 [.int .i64 0,.int .i64 0,.int .i64 0,.sl 1 [],.sl 2 [],.sl 2 []],e' 5 (k 0)]) (Q (R [b 9 2 2,a 10 1,c 11 68 [v 9,v 10],a 8 11,x 12 8 0,x 13 8 1,z 6 [.int .i64 0,.int .i64 0,.int .i64 0,.sl 1 [],.sl 2 [],.sl 2 []],s 6 12 6,e 7 13]) (Q (Q (R [a 14 7,g 15 .eql (v 14) (k 0),a 16 15,h 16 true 17 (fld 17 (v 6) 1),h 16 true 18 (ld 18 (v 17) 1 false),h 16 true 19 (bin 19 .neq (v 18) (k 1)),p 20 16 (v 19) k0]) (F (v 20) (R [e' 7 (k 3)]) .skip)) (Q (R [b 21 6 6,a 22 7,s 4 21 6,e 5 22]) .ret)))
def pU:Cmd:=Q (R [n 2 (box 2 (v 0)),z 4 [.int .i64 0,.int .i64 0,.int .i64 0,.sl 1 [],.sl 2 [],.sl 2 [],.str []],e' 5 (k 0)]) (Q (R [a 12 1,c 13 123 [v 12],a 11 13,x 14 11 0,x 15 11 1,x 16 11 2,e 6 14,e 7 15,e 8 16]) (Q (R [b 18 2 2,a 19 6,c 20 68 [v 18,v 19],a 17 20,x 21 17 0,x 22 17 1,z 9 [.int .i64 0,.int .i64 0,.int .i64 0,.sl 1 [],.sl 2 [],.sl 2 []],s 9 21 6,e 10 22]) (Q (Q (R [a 23 10,g 24 .neq (v 23) (k 0)]) (F (v 24) (Q (R [n 25 (bld 25 [.int .i64 0,.int .i64 0,.int .i64 0,.sl 1 [],.sl 2 [],.sl 2 [],.str []] []),a 26 10,s 4 25 7,e 5 26]) .ret) .skip)) (Q (Q (R [f 27 9 1,b' 28 27 1,g 29 .neq (v 28) (k 2)]) (F (v 29) (Q (R [n 30 (bld 30 [.int .i64 0,.int .i64 0,.int .i64 0,.sl 1 [],.sl 2 [],.sl 2 [],.str []] []),s 4 30 7,e' 5 (k 3)]) .ret) .skip)) (Q (R [b 31 9 6,a 32 7,n 33 (bld 33 [.int .i64 0,.int .i64 0,.int .i64 0,.sl 1 [],.sl 2 [],.sl 2 [],.str []] [(0,6,v 31),(6,1,v 32)]),s 4 33 7,e' 5 (k 0)]) .ret)))))
def qJ:Cmd:=Q (R [n 2 (box 2 (v 0)),n 3 (box 3 (v 1)),z 4 [.sl 6 [],.int .i64 0]]) (Q (R [f 5 2 0,f 6 5 4,b' 7 6 1,c 8 125 [v 7],n 9 (mkf 9 126 [v 2]),c 10 124 [v 8,v 9],f 11 2 0,f 12 11 4,s 12 10 1]) (Q (R [b 13 3 2,f 14 2 0,b 15 14 6,c 16 67 [v 13,v 15],s 4 16 2]) .ret))
def rX:Cmd:=Q (R [n 2 (box 2 (v 0)),n 3 (box 3 (v 1)),z 4 [.sl 6 [],.int .i64 0]]) (Q (R [b 5 2 2,c 6 61 [v 5],s 2 6 2]) (Q (R [f 7 2 0,b' 8 7 1,n 9 (mkf 9 128 [v 3]),c 10 127 [v 8,v 9],f 11 2 0,s 11 10 1]) (Q (R [b 12 2 2,s 4 12 2]) .ret)))
def uM:Cmd:=Q (R [n 2 (box 2 (v 0)),n 3 (box 3 (v 1)),z 4 [.sl 6 [],.int .i64 0]]) (Q (R [b 7 2 2,c 8 61 [v 7],s 2 8 2]) (Q (R [b 9 3 6,c 10 122 [v 9],s 3 10 6]) (Q (Q (R [b 11 2 2,f 12 3 0,b' 13 12 1,c 14 87 [v 11,v 13],e 5 14]) (Q (R [a 15 5,g 16 .geq (v 15) (k 0)]) (F (v 16) (Q (R [f 17 2 0,b' 18 17 1,a 19 5,b 20 3 6,i 21 18 19 6,s 21 20 6]) (Q (R [b 22 2 2,s 4 22 2]) .ret)) .skip))) (Q (R [f 23 2 0,b' 24 23 1,n 25 (mkf 25 130 [v 3]),c 26 129 [v 24,v 25],e 6 26]) (Q (Q (R [a 27 6,g 28 .lss (v 27) (k 0)]) (F (v 28) (R [f 29 2 0,b' 30 29 1,l 31 30,e 6 31]) .skip)) (Q (R [f 32 2 0,b' 33 32 1,a 34 6,b 35 3 6,o 36 6 [v 35],c 37 131 [v 33,v 34,v 36],f 38 2 0,s 38 37 1]) (Q (R [b 39 2 2,s 4 39 2]) .ret)))))))
def vP:Cmd:=Q (R [n 2 (box 2 (v 0)),z 4 [.int .i64 0,.int .i64 0,.int .i64 0,.sl 1 [],.sl 2 [],.sl 2 []],e' 5 (k 0)]) (Q (R [b 11 2 2,a 12 1,c 13 23 [v 11,v 12],a 10 13,x 14 10 0,x 15 10 1,e 6 14,e 7 15]) (Q (Q (R [a 16 7,g 17 .neq (v 16) (k 0)]) (F (v 17) (Q (R [n 18 (bld 18 [.int .i64 0,.int .i64 0,.int .i64 0,.sl 1 [],.sl 2 [],.sl 2 []] []),a 19 7,s 4 18 6,e 5 19]) .ret) .skip)) (Q (R [b 21 2 2,a 22 6,c 23 70 [v 21,v 22],a 20 23,x 24 20 0,x 25 20 1,z 8 [.int .i64 0,.int .i64 0,.int .i64 0,.sl 1 [],.sl 2 [],.sl 2 []],s 8 24 6,e 9 25]) (Q (Q (R [a 26 9,n 27 (un 27 .not (v 26))]) (F (v 27) (Q (R [n 28 (bld 28 [.int .i64 0,.int .i64 0,.int .i64 0,.sl 1 [],.sl 2 [],.sl 2 []] []),s 4 28 6,e' 5 (k 2)]) .ret) .skip)) (Q (R [b 29 8 6,s 4 29 6,e' 5 (k 0)]) .ret)))))
def acB:Cmd:=Q (R [n 2 (box 2 (v 0)),e' 4 (k 0)]) (Q (Q (R [f 7 2 4,b' 8 7 1,l 9 8,n 10 (mov 10 (k 0))]) (.blk 0 (.loop (Q (R [g 11 .lss (v 10) (v 9)]) (Q (F (v 11) .skip (.exit 0)) (Q (.blk 1 (Q (R [i 12 8 10 2,b 13 12 2,z 6 [.str [],.int .i64 0],s 6 13 2]) (Q (R [f 14 6 0,b' 15 14 1,a 16 1,g 17 .eql (v 15) (v 16)]) (F (v 17) (Q (R [f 18 6 1,b' 19 18 1,e 4 19]) .ret) .skip)))) (R [g 20 .add (v 10) (k 1),a 10 20]))))))) (Q (R [e' 4 (k 0)]) .ret))
def qY:Cmd:=Q (R [n 2 (box 2 (v 0)),z 4 [.int .i64 0,.int .i64 0,.int .i64 0,.sl 1 [],.sl 2 [],.sl 2 []],e' 5 k0]) (Q (R [b 7 2 2,a 8 1,c 9 87 [v 7,v 8],e 6 9]) (Q (Q (R [a 10 6,g 11 .lss (v 10) (k 0)]) (F (v 11) (Q (R [n 12 (bld 12 [.int .i64 0,.int .i64 0,.int .i64 0,.sl 1 [],.sl 2 [],.sl 2 []] []),s 4 12 6,e' 5 k0]) .ret) .skip)) (Q (R [f 13 2 0,b' 14 13 1,a 15 6,i 16 14 15 6,b 17 16 6,c 18 122 [v 17],s 4 18 6,e' 5 k1]) .ret)))
def l5:Cmd:=Q (R [n 3 (box 3 (v 0)),n 4 (box 4 (v 1)),z 6 [.sl 6 [],.int .i64 0]]) (Q (R [f 8 3 0,f 9 8 4,b' 10 9 1,n 11 (mkf 11 133 [v 3]),c 12 132 [v 10,v 11],e 7 12]) (Q (Q (R [a 13 7,g 14 .lss (v 13) (k 0)]) (F (v 14) (R [f 15 3 0,f 16 15 4,b' 17 16 1,l 18 17,e 7 18]) .skip)) (Q (D [0,1,3,7,0,0,32,0,224,480,1023,2047,4095,8191] [f 19 3 0,f 20 19 4,b' 21 20 1,c 22 125 [v 21],a 23 7,f 24 3 6,b' 25 24 1,a 26 2,n 27 (bld 27 [.str [],.int .i64 0] [(0,1,v 25),(1,1,v 26)]),o 28 2 [v 27],c 29 134 [v 22,v 23,v 28],f 30 3 0,f 31 30 4,s 31 29 1]) (Q (R [b 32 4 2,f 33 3 0,b 34 33 6,c 35 67 [v 32,v 34],s 6 35 2]) .ret))))
def jX:Cmd:=Q (R [e' 6 k0]) (Q (Q (R [a 10 0,l 11 10,a 12 1,l 13 12,g 14 .neq (v 11) (v 13)]) (F (v 14) (Q (R [e' 6 k0]) .ret) .skip)) (Q (Q (R [a 15 0,l 16 15,n 17 (mov 17 (k 0))]) (.blk 0 (.loop (Q (R [g 18 .lss (v 17) (v 16)]) (Q (F (v 18) .skip (.exit 0)) (Q (.blk 1 (Q (R [a 19 17,i 20 15 17 6,b 21 20 6,z 8 [.int .i64 0,.int .i64 0,.int .i64 0,.sl 1 [],.sl 2 [],.sl 2 []],e 7 19,s 8 21 6]) (Q (R [a 22 1,a 23 7,i 24 22 23 6,b 25 24 6,z 9 [.int .i64 0,.int .i64 0,.int .i64 0,.sl 1 [],.sl 2 [],.sl 2 []],s 9 25 6]) (Q (R [a 26 2,b 27 8 6,b 28 9 6,n 29 (callv (some 29) (v 26) [v 27,v 28]),n 30 (un 30 .not (v 29))]) (F (v 30) (Q (R [e' 6 k0]) .ret) .skip))))) (R [g 31 .add (v 17) (k 1),a 17 31]))))))) (Q (R [e' 6 k1]) .ret)))
def rY:Cmd:=Q (R [n 2 (box 2 (v 0)),n 3 (box 3 (v 1)),e' 4 k0]) (Q (R [f 5 2 0,b' 6 5 1,f 7 3 0,b' 8 7 1,g 9 .eql (v 6) (v 8),a 10 9,h 10 true 11 (fld 11 (v 2) 1),h 10 true 12 (ld 12 (v 11) 1 false),h 10 true 13 (fld 13 (v 3) 1),h 10 true 14 (ld 14 (v 13) 1 false),h 10 true 15 (bin 15 .eql (v 12) (v 14)),p 16 10 (v 15) k0,a 17 16,h 17 true 18 (fld 18 (v 2) 2),h 17 true 19 (ld 19 (v 18) 1 false),h 17 true 20 (fld 20 (v 3) 2),h 17 true 21 (ld 21 (v 20) 1 false),h 17 true 22 (bin 22 .eql (v 19) (v 21)),p 23 17 (v 22) k0,a 24 23,h 24 true 25 (fld 25 (v 2) 3),h 24 true 26 (ld 26 (v 25) 1 false),h 24 true 27 (fld 27 (v 3) 3),h 24 true 28 (ld 28 (v 27) 1 false),hc 24 true 29 135 [v 26,v 28],p 30 24 (v 29) k0,a 31 30,h 31 true 32 (fld 32 (v 2) 4),h 31 true 33 (ld 33 (v 32) 1 false),h 31 true 34 (fld 34 (v 3) 4),h 31 true 35 (ld 35 (v 34) 1 false),hc 31 true 36 136 [v 33,v 35],p 37 31 (v 36) k0,a 38 37,h 38 true 39 (fld 39 (v 2) 5),h 38 true 40 (ld 40 (v 39) 1 false),h 38 true 41 (fld 41 (v 3) 5),h 38 true 42 (ld 42 (v 41) 1 false),hc 38 true 43 137 [v 40,v 42],p 44 38 (v 43) k0,e 4 44]) .ret)
def rZ:Cmd:=Q (R [z 2 [.sl 6 [],.int .i64 0]]) (Q (Q (R [a 3 0,c 4 101 [v 3,k 16]]) (.blk 0 (Q (R [g 6 .eql (v 4) (k 0),e 5 6]) (F (v 5) (Q (R [a 7 0,c 8 100 [v 7],s 2 8 2]) .ret) (Q (R [g 10 .eql (v 4) (k 1),e 9 10]) (F (v 9) (Q (R [a 11 0,c 12 138 [v 11],s 2 12 2]) .ret) .skip)))))) (Q (R [a 13 0,c 14 57 [v 13,k 10],s 2 14 2]) .ret))
def kL:Cmd:=Q (R [e' 2 (.c (.str [])),e' 3 (.c (.str [])),e' 4 k0]) (Q (R [a 9 0,c 10 91 [v 9],a 8 10,x 11 8 0,x 12 8 1,e 5 11,e 6 12]) (Q (Q (R [a 13 6,n 14 (un 14 .not (v 13)),a 15 14,ha 15 false 16 5,h 15 false 17 (len 17 (v 16)),h 15 false 18 (bin 18 .eql (v 17) (k 0)),p 19 15 k1 (v 18)]) (F (v 19) (Q (R [e' 2 (.c (.str [])),e' 3 (.c (.str [])),e' 4 k0]) .ret) .skip)) (Q (R [a 20 5,l 21 20,g 22 .sub (v 21) (k 1),e 7 22]) (Q (D [0,0,3,7,0,0,48,112,15,511,1023] [a 23 5,a 24 7,n 25 (slc 25 (v 23) none (some (v 24)) 1),c 26 139 [v 25],a 27 5,a 28 7,i 29 27 28 1,b' 30 29 1,e 2 26,e 3 30,e' 4 k1]) .ret))))
def zU:Cmd:=Q (R [n 1 (box 1 (v 0)),z 2 [.sl 6 [],.int .i64 0]]) (Q (R [f 5 1 1,b' 6 5 1,n 7 (bld 7 [.sl 6 [],.int .i64 0] [(1,1,v 6)]),z 3 [.sl 6 [],.int .i64 0],s 3 7 2]) (Q (Q (R [e' 4 (k 0)]) (.blk 0 (.loop (Q (Q (R [a 8 4,f 9 1 0,b' 10 9 1,l 11 10,g 12 .lss (v 8) (v 11)]) (F (v 12) .skip (.exit 0))) (Q (.blk 1 (D [0,1,0,4,0,28,60,124,252,511,1023,2047] [f 15 3 0,b' 16 15 1,f 17 1 0,b' 18 17 1,a 19 4,i 20 18 19 6,b 21 20 6,c 22 140 [v 21],o 23 6 [v 22],n 24 (app 24 (v 16) (v 23) 6 96),f 25 3 0,s 25 24 1])) (R [a 13 4,g 14 .add (v 13) (k 1),e 4 14])))))) (Q (R [b 26 3 2,s 2 26 2]) .ret)))
def pV:Cmd:=Q (R [n 2 (box 2 (v 0)),z 4 [.int .i64 0,.int .i64 0,.int .i64 0,.sl 1 [],.sl 2 [],.sl 2 []],e' 5 (k 0)]) (Q (R [b 9 2 2,a 10 1,c 11 88 [v 9,v 10],a 8 11,x 12 8 0,x 13 8 1,z 6 [.int .i64 0,.int .i64 0,.int .i64 0,.sl 1 [],.sl 2 [],.sl 2 []],s 6 12 6,e 7 13]) (Q (Q (R [a 14 7,g 15 .eql (v 14) (k 0),a 16 15,h 16 true 17 (fld 17 (v 6) 1),h 16 true 18 (ld 18 (v 17) 1 false),h 16 true 19 (bin 19 .neq (v 18) (k 1)),p 20 16 (v 19) k0]) (F (v 20) (Q (R [n 21 (bld 21 [.int .i64 0,.int .i64 0,.int .i64 0,.sl 1 [],.sl 2 [],.sl 2 []] []),s 4 21 6,e' 5 (k 3)]) .ret) .skip)) (Q (R [b 22 6 6,a 23 7,s 4 22 6,e 5 23]) .ret)))
def zV:Cmd:=Q (R [n 2 (box 2 (v 0)),z 4 [.sl 6 [],.int .i64 0]]) (Q (R [a 11 1,c 12 75 [v 11],a 10 12,x 13 10 0,x 14 10 1,x 15 10 2,e 5 13,e 6 14,e 7 15]) (Q (R [b 17 2 2,a 18 5,c 19 88 [v 17,v 18],a 16 19,x 20 16 0,x 21 16 1,z 8 [.int .i64 0,.int .i64 0,.int .i64 0,.sl 1 [],.sl 2 [],.sl 2 []],s 8 20 6,e 9 21]) (Q (R [f 22 8 4,b' 23 22 1,a 24 6,c 25 141 [v 23,v 24],f 26 8 4,s 26 25 1]) (Q (R [b 27 2 2,b 28 8 6,c 29 80 [v 27,v 28],s 4 29 2]) .ret))))
def r8:Cmd:=Q (R [n 2 (box 2 (v 0)),z 4 [.sl 6 [],.int .i64 0]]) (Q (R [f 7 2 1,b' 8 7 1,n 9 (bld 9 [.sl 6 [],.int .i64 0] [(1,1,v 8)]),z 5 [.sl 6 [],.int .i64 0],s 5 9 2]) (Q (Q (R [e' 6 (k 0)]) (.blk 0 (.loop (Q (Q (R [a 10 6,f 11 2 0,b' 12 11 1,l 13 12,g 14 .lss (v 10) (v 13)]) (F (v 14) .skip (.exit 0))) (Q (.blk 1 (Q (R [f 17 2 0,b' 18 17 1,a 19 6,i 20 18 19 6,f 21 20 0,b' 22 21 1,a 23 1,g 24 .neq (v 22) (v 23)]) (F (v 24) (D [0,1,0,4,0,28,60,124,252,511,1023,2047] [f 25 5 0,b' 26 25 1,f 27 2 0,b' 28 27 1,a 29 6,i 30 28 29 6,b 31 30 6,c 32 140 [v 31],o 33 6 [v 32],n 34 (app 34 (v 26) (v 33) 6 96),f 35 5 0,s 35 34 1]) .skip))) (R [a 15 6,g 16 .add (v 15) (k 1),e 6 16])))))) (Q (R [b 36 5 2,s 4 36 2]) .ret)))
def oS:Cmd:=Q (R [n 2 (box 2 (v 0)),n 3 (box 3 (v 1)),z 4 [.sl 6 [],.int .i64 0]]) (Q (R [b 8 2 2,c 9 76 [v 8],z 5 [.sl 6 [],.int .i64 0],s 5 9 2]) (Q (R [b 10 2 2,f 11 3 0,b' 12 11 1,c 13 109 [v 10,v 12],e 6 13]) (Q (Q (R [a 14 6,g 15 .geq (v 14) (k 0)]) (F (v 15) (Q (D [0,1,0,0,8,31,63] [f 16 5 0,b' 17 16 1,a 18 6,b 19 3 6,c 20 140 [v 19],i 21 17 18 6,s 21 20 6]) (Q (R [b 22 5 2,s 4 22 2]) .ret)) .skip)) (Q (R [e' 6 (k 0)]) (Q (.blk 0 (.loop (Q (Q (D [0,0,2,6,15,31,63,127,63,511,1023,2047,63,4159,16383,32767] [a 23 6,f 24 2 0,b' 25 24 1,l 26 25,g 27 .lss (v 23) (v 26),a 28 27,h 28 true 29 (fld 29 (v 2) 0),h 28 true 30 (ld 30 (v 29) 1 false),ha 28 true 31 6,h 28 true 32 (idx 32 (v 30) (v 31) 6),h 28 true 33 (fld 33 (v 32) 0),h 28 true 34 (ld 34 (v 33) 1 false),h 28 true 35 (fld 35 (v 3) 0),h 28 true 36 (ld 36 (v 35) 1 false),h 28 true 37 (bin 37 .lss (v 34) (v 36)),p 38 28 (v 37) k0]) (F (v 38) .skip (.exit 0))) (.blk 1 (R [a 39 6,g 40 .add (v 39) (k 1),e 6 40]))))) (Q (D [0,0,2,0,14,31,0,127,255,511,1023] [o 41 6 [],f 42 5 0,b' 43 42 1,a 44 6,n 45 (slc 45 (v 43) none (some (v 44)) 6),n 46 (app 46 (v 41) (v 45) 6 96),b 47 3 6,c 48 140 [v 47],o 49 6 [v 48],n 50 (app 50 (v 46) (v 49) 6 96),e 7 50]) (Q (R [a 51 7,f 52 5 0,b' 53 52 1,a 54 6,n 55 (slc 55 (v 53) (some (v 54)) none 6),n 56 (app 56 (v 51) (v 55) 6 96),f 57 5 0,s 57 56 1]) (Q (R [b 58 5 2,s 4 58 2]) .ret))))))))
def fG:Cmd:=Q (R [e' 2 (.c (.own 1 [])),e' 3 k0]) (Q (Q (R [a 5 0,g 6 .eql (v 5) (.c (.str [47]))]) (F (v 6) (Q (R [e' 2 (.c (.own 1 [])),e' 3 k1]) .ret) .skip)) (Q (R [a 7 0,c 8 142 [v 7,.c (.str [47])],e 4 8]) (Q (Q (R [a 9 4,n 10 (idx 10 (v 9) (k 0) 1),b' 11 10 1,g 12 .neq (v 11) (.c (.str [])),a 13 12,ha 13 false 14 4,h 13 false 15 (len 15 (v 14)),h 13 false 16 (bin 16 .lss (v 15) (k 2)),p 17 13 k1 (v 16),a 18 17,ha 18 false 19 4,h 18 false 20 (slc 20 (v 19) (some (k 1)) none 1),hc 18 false 21 143 [v 20],h 18 false 22 (un 22 .not (v 21)),p 23 18 k1 (v 22)]) (F (v 23) (Q (R [e' 2 (.c (.own 1 [])),e' 3 k0]) .ret) .skip)) (Q (R [a 24 4,n 25 (slc 25 (v 24) (some (k 1)) none 1),e 2 25,e' 3 k1]) .ret))))
def l6:Cmd:=Q (R [e' 2 (.c (.own 1 []))]) (Q (Q (R [a 3 0,n 4 (isn 4 false (v 3) (.c (.own 1 [])))]) (F (v 4) (Q (R [e' 2 (.c (.own 1 []))]) .ret) .skip)) (Q (R [o 5 1 [],a 6 0,n 7 (app 7 (v 5) (v 6) 1 1),e 2 7]) .ret))
def acC:Cmd:=Q (R [n 1 (box 1 (v 0)),e' 2 k0]) (Q (Q (R [f 7 1 0,b' 8 7 1,l 9 8,g 10 .gtr (v 9) (k 30),a 11 10,h 11 false 12 (fld 12 (v 1) 1),h 11 false 13 (ld 13 (v 12) 1 false),hc 11 false 14 94 [v 13,k 2,k 1000],h 11 false 15 (un 15 .not (v 14)),p 16 11 k1 (v 15)]) (F (v 16) (Q (R [e' 2 k0]) .ret) .skip)) (Q (Q (R [f 17 1 0,b' 18 17 1,l 19 18,n 20 (mov 20 (k 0))]) (.blk 0 (.loop (Q (R [g 21 .lss (v 20) (v 19)]) (Q (F (v 21) .skip (.exit 0)) (Q (.blk 1 (Q (R [a 22 20,i 23 18 20 6,b 24 23 6,z 4 [.int .i64 0,.int .i64 0,.int .i64 0,.sl 1 [],.sl 2 [],.sl 2 []],e 3 22,s 4 24 6]) (Q (D [0,1,3,7,15,31,15,79,255,511,1023,2047,4095,8191,16383,32767,16383,81919,262143,524287,1048575,16383,2113535,8388607,16777215,33554431] [b 25 4 6,c 26 146 [v 25],n 27 (un 27 .not (v 26)),a 28 27,h 28 false 29 (fld 29 (v 4) 0),h 28 false 30 (ld 30 (v 29) 1 false),h 28 false 31 (fld 31 (v 1) 1),h 28 false 32 (ld 32 (v 31) 1 false),h 28 false 33 (bin 33 .geq (v 30) (v 32)),p 34 28 k1 (v 33),a 35 34,ha 35 false 36 3,h 35 false 37 (bin 37 .gtr (v 36) (k 0)),ha 35 false 38 37,h 38 true 39 (fld 39 (v 1) 0),h 38 true 40 (ld 40 (v 39) 1 false),ha 38 true 41 3,h 38 true 42 (bin 42 .sub (v 41) (k 1)),h 38 true 43 (idx 43 (v 40) (v 42) 6),h 38 true 44 (fld 44 (v 43) 0),h 38 true 45 (ld 45 (v 44) 1 false),h 38 true 46 (fld 46 (v 4) 0),h 38 true 47 (ld 47 (v 46) 1 false),h 38 true 48 (bin 48 .geq (v 45) (v 47)),h 35 false 49 (pck 49 (v 38) (v 48) k0),p 50 35 k1 (v 49)]) (F (v 50) (Q (R [e' 2 k0]) .ret) .skip)))) (R [g 51 .add (v 20) (k 1),a 20 51]))))))) (Q (R [b 53 1 2,c 54 70 [v 53,k 1],a 52 54,x 55 52 0,x 56 52 1,z 5 [.int .i64 0,.int .i64 0,.int .i64 0,.sl 1 [],.sl 2 [],.sl 2 []],s 5 55 6,e 6 56]) (Q (R [a 57 6,a 58 57,h 58 true 59 (fld 59 (v 5) 1),h 58 true 60 (ld 60 (v 59) 1 false),h 58 true 61 (bin 61 .eql (v 60) (k 2)),p 62 58 (v 61) k0,e 2 62]) .ret))))
def wY:Cmd:=Q (R [n 2 (box 2 (v 0)),e' 4 (k 0)]) (Q (R [e' 5 (k 0)]) (Q (Q (R [f 10 2 0,b' 11 10 1,l 12 11,n 13 (mov 13 (k 0))]) (.blk 0 (.loop (Q (R [g 14 .lss (v 13) (v 12)]) (Q (F (v 14) .skip (.exit 0)) (Q (.blk 1 (Q (R [i 15 11 13 6,b 16 15 6,z 7 [.int .i64 0,.int .i64 0,.int .i64 0,.sl 1 [],.sl 2 [],.sl 2 []],s 7 16 6]) (Q (Q (R [f 17 7 1,b' 18 17 1,g 19 .neq (v 18) (k 2)]) (F (v 19) (.exit 1) .skip)) (Q (R [f 20 7 4,b' 21 20 1,l 22 21,n 23 (mov 23 (k 0))]) (.blk 2 (.loop (Q (R [g 24 .lss (v 23) (v 22)]) (Q (F (v 24) .skip (.exit 2)) (Q (.blk 3 (Q (R [i 25 21 23 2,b 26 25 2,z 9 [.str [],.int .i64 0],s 9 26 2]) (Q (R [f 27 9 1,b' 28 27 1,a 29 1,g 30 .eql (v 28) (v 29)]) (F (v 30) (R [a 31 5,g 32 .add (v 31) (k 1),e 5 32]) .skip)))) (R [g 33 .add (v 23) (k 1),a 23 33])))))))))) (R [g 34 .add (v 13) (k 1),a 13 34]))))))) (Q (R [a 35 5,e 4 35]) .ret)))
def wZ:Cmd:=Q (R [n 2 (box 2 (v 0)),n 3 (box 3 (v 1)),e' 4 (k 0)]) (Q (R [f 5 2 0,b' 6 5 1,n 7 (mkf 7 147 [v 3]),c 8 129 [v 6,v 7],e 4 8]) .ret)
def vQ:Cmd:=Q (R [n 2 (box 2 (v 0)),z 4 [.int .i64 0,.int .i64 0,.int .i64 0,.sl 1 [],.sl 2 [],.sl 2 []],e' 5 (k 0)]) (Q (R [b 11 2 2,a 12 1,c 13 97 [v 11,v 12],a 10 13,x 14 10 0,x 15 10 1,e 6 14,e 7 15]) (Q (Q (R [a 16 7,g 17 .neq (v 16) (k 0)]) (F (v 17) (Q (R [n 18 (bld 18 [.int .i64 0,.int .i64 0,.int .i64 0,.sl 1 [],.sl 2 [],.sl 2 []] []),a 19 7,s 4 18 6,e 5 19]) .ret) .skip)) (Q (R [b 21 2 2,a 22 6,c 23 148 [v 21,v 22],a 20 23,x 24 20 0,x 25 20 1,z 8 [.int .i64 0,.int .i64 0,.int .i64 0,.sl 1 [],.sl 2 [],.sl 2 []],s 8 24 6,e 9 25]) (Q (Q (R [a 26 9,n 27 (un 27 .not (v 26))]) (F (v 27) (Q (R [n 28 (bld 28 [.int .i64 0,.int .i64 0,.int .i64 0,.sl 1 [],.sl 2 [],.sl 2 []] []),s 4 28 6,e' 5 (k 2)]) .ret) .skip)) (Q (R [b 29 8 6,s 4 29 6,e' 5 (k 0)]) .ret)))))
def g8:Cmd:=Q (R [n 3 (box 3 (v 0)),z 6 [.sl 6 [],.int .i64 0],e' 7 (k 0)]) (Q (Q (R [b 12 3 2,c 13 46 [v 12],n 14 (un 14 .not (v 13))]) (F (v 14) (Q (R [b 15 3 2,c 16 76 [v 15],s 6 16 2,e' 7 (k 1)]) .ret) .skip)) (Q (R [b 18 3 2,a 19 1,c 20 92 [v 18,v 19,k 0],a 17 20,x 21 17 0,x 22 17 1,x 23 17 2,z 8 [.int .i64 0,.int .i64 0,.int .i64 0,.sl 1 [],.sl 2 [],.sl 2 []],s 8 21 6,e 9 22,e 10 23]) (Q (Q (R [a 24 10,g 25 .eql (v 24) (k 0),a 26 25,h 26 true 27 (fld 27 (v 3) 0),h 26 true 28 (ld 28 (v 27) 1 false),h 26 true 29 (len 29 (v 28)),h 26 true 30 (bin 30 .geq (v 29) (k 30)),ha 26 true 31 30,h 31 false 32 (fld 32 (v 3) 1),h 31 false 33 (ld 33 (v 32) 1 false),h 31 false 34 (bin 34 .geq (v 33) (k 1000)),h 26 true 35 (pck 35 (v 31) k1 (v 34)),p 36 26 (v 35) k0]) (F (v 36) (R [e' 10 (k 5)]) .skip)) (Q (Q (R [a 37 10,g 38 .neq (v 37) (k 0)]) (F (v 38) (Q (R [b 39 3 2,c 40 76 [v 39],a 41 10,s 6 40 2,e 7 41]) .ret) .skip)) (Q (R [b 42 3 2,c 43 76 [v 42],z 11 [.sl 6 [],.int .i64 0],s 11 43 2]) (Q (R [f 44 8 4,b' 45 44 1,a 46 9,f 47 3 1,b' 48 47 1,n 49 (bld 49 [.str [],.int .i64 0] [(0,1,v 46),(1,1,v 48)]),c 50 93 [v 45,v 49],f 51 8 4,s 51 50 1]) (Q (D [0,0,3,0,8,0,56,127,255] [b 52 11 2,b 53 8 6,c 54 80 [v 52,v 53],f 55 3 1,b' 56 55 1,a 57 2,n 58 (bld 58 [.int .i64 0,.int .i64 0,.int .i64 0,.sl 1 [],.sl 2 [],.sl 2 []] [(0,1,v 56),(1,1,v 57),(2,1,k 1)]),c 59 80 [v 54,v 58],s 11 59 2]) (Q (R [f 60 3 1,b' 61 60 1,g 62 .add (v 61) (k 1),f 63 11 1,s 63 62 1]) (Q (R [b 64 11 2,s 6 64 2,e' 7 (k 0)]) .ret)))))))))
def w9:Cmd:=Q (R [e' 2 (.c (.str []))]) (Q (Q (R [a 3 0,c 4 96 [v 3,k 6]]) (F (v 4) (Q (R [a 5 0,o 6 1 [.c (.str []),.c (.str [47]),.c (.str [97]),.c (.str [47,47]),.c (.str [47,97,47]),.c (.str [47,65]),.c (.str [47,46,46]),.c (.str [47,46]),.c (.str [47,102,105,102,116,101,101,110,98,121,116,101,115,120,120,120]),.c (.str [47,97,47,47,98])],c 7 149 [v 5,v 6],e 2 7]) .ret) .skip)) (Q (R [a 8 0,c 9 59 [v 8],e 2 9]) .ret))
def nG:Cmd:=Q (R [e' 2 (.c (.own 1 [])),e' 3 k0]) (Q (R [o 8 1 [],e 4 8]) (Q (Q (R [a 9 0,g 10 .eql (v 9) (.c (.str [47]))]) (F (v 10) (Q (R [a 11 4,e 2 11,e' 3 k1]) .ret) .skip)) (Q (R [e' 5 (k 0)]) (Q (Q (R [e' 6 (k 0)]) (.blk 0 (.loop (Q (Q (R [a 12 6,a 13 0,n 14 (lens 14 (v 13)),g 15 .leq (v 12) (v 14)]) (F (v 15) .skip (.exit 0))) (Q (.blk 1 (Q (Q (R [a 18 6,a 19 0,n 20 (lens 20 (v 19)),g 21 .lss (v 18) (v 20),a 22 21,ha 22 true 23 0,ha 22 true 24 6,h 22 true 25 (sidx 25 (v 23) (v 24)),h 22 true 26 (bin 26 .neq (v 25) (.c (.int .u8 47))),p 27 22 (v 26) k0]) (F (v 27) (.exit 1) .skip)) (Q (Q (R [a 28 6,g 29 .gtr (v 28) (k 0)]) (F (v 29) (Q (R [a 30 0,a 31 5,a 32 6,n 33 (sls 33 (v 30) (some (v 31)) (some (v 32))),e 7 33]) (Q (Q (R [a 34 7,c 35 150 [v 34],n 36 (un 36 .not (v 35)),a 37 36,ha 37 false 38 4,h 37 false 39 (len 39 (v 38)),h 37 false 40 (bin 40 .eql (v 39) (k 30)),p 41 37 k1 (v 40)]) (F (v 41) (Q (R [o 42 1 [],e 2 42,e' 3 k0]) .ret) .skip)) (R [a 43 4,a 44 7,o 45 1 [v 44],n 46 (app 46 (v 43) (v 45) 1 16),e 4 46]))) .skip)) (R [a 47 6,g 48 .add (v 47) (k 1),e 5 48])))) (R [a 16 6,g 17 .add (v 16) (k 1),e 6 17])))))) (Q (Q (R [a 49 0,n 50 (lens 50 (v 49)),g 51 .eql (v 50) (k 0),a 52 51,ha 52 false 53 0,h 52 false 54 (sidx 54 (v 53) (k 0)),h 52 false 55 (bin 55 .neq (v 54) (.c (.int .u8 47))),p 56 52 k1 (v 55)]) (F (v 56) (Q (R [o 57 1 [],e 2 57,e' 3 k0]) .ret) .skip)) (Q (R [a 58 4,e 2 58,e' 3 k1]) .ret))))))
def f9:Cmd:=Q (R [n 3 (box 3 (v 0)),z 6 [.int .i64 0,.int .i64 0,.int .i64 0,.sl 1 [],.sl 2 [],.sl 2 []],e' 7 (.c (.str [])),e' 8 (k 0)]) (Q (R [a 15 1,c 16 75 [v 15],a 14 16,x 17 14 0,x 18 14 1,x 19 14 2,e 9 17,e 10 18,e 11 19]) (Q (Q (R [a 20 11,n 21 (un 21 .not (v 20))]) (F (v 21) (Q (R [n 22 (bld 22 [.int .i64 0,.int .i64 0,.int .i64 0,.sl 1 [],.sl 2 [],.sl 2 []] []),s 6 22 6,e' 7 (.c (.str [])),e' 8 (k 1)]) .ret) .skip)) (Q (R [b 24 3 2,a 25 9,c 26 88 [v 24,v 25],a 23 26,x 27 23 0,x 28 23 1,z 12 [.int .i64 0,.int .i64 0,.int .i64 0,.sl 1 [],.sl 2 [],.sl 2 []],s 12 27 6,e 13 28]) (Q (.blk 0 (Q (R [a 30 13,g 31 .neq (v 30) (k 0),e 29 31]) (F (v 29) (Q (R [n 32 (bld 32 [.int .i64 0,.int .i64 0,.int .i64 0,.sl 1 [],.sl 2 [],.sl 2 []] []),a 33 13,s 6 32 6,e' 7 (.c (.str [])),e 8 33]) .ret) (Q (R [f 35 12 1,b' 36 35 1,g 37 .neq (v 36) (k 2),e 34 37]) (F (v 34) (Q (R [n 38 (bld 38 [.int .i64 0,.int .i64 0,.int .i64 0,.sl 1 [],.sl 2 [],.sl 2 []] []),s 6 38 6,e' 7 (.c (.str [])),e' 8 (k 3)]) .ret) (Q (R [b 40 12 6,a 41 10,c 42 151 [v 40,v 41],g 43 .neq (v 42) (k 0),e 39 43]) (F (v 39) (Q (R [n 44 (bld 44 [.int .i64 0,.int .i64 0,.int .i64 0,.sl 1 [],.sl 2 [],.sl 2 []] []),s 6 44 6,e' 7 (.c (.str [])),e' 8 (k 4)]) .ret) (Q (R [f 46 12 4,b' 47 46 1,l 48 47,g 49 .geq (v 48) (k 10),a 50 49,h 50 true 51 (fld 51 (v 12) 0),h 50 true 52 (ld 52 (v 51) 1 false),ha 50 true 53 2,h 50 true 54 (bin 54 .neq (v 52) (v 53)),p 55 50 (v 54) k0,e 45 55]) (F (v 45) (Q (R [n 56 (bld 56 [.int .i64 0,.int .i64 0,.int .i64 0,.sl 1 [],.sl 2 [],.sl 2 []] []),s 6 56 6,e' 7 (.c (.str [])),e' 8 (k 5)]) .ret) .skip))))))))) (Q (R [b 57 12 6,a 58 10,s 6 57 6,e 7 58,e' 8 (k 0)]) .ret)))))
def acD:Cmd:=Q (R [n 3 (box 3 (v 1)),e' 4 (.c (.own 2 []))]) (Q (D [0,0,3,0,8,31,63] [o 7 2 [],a 8 0,n 9 (app 9 (v 7) (v 8) 2 24),b 10 3 2,o 11 2 [v 10],n 12 (app 12 (v 9) (v 11) 2 24),e 5 12]) (Q (R [a 13 5,l 14 13,g 15 .sub (v 14) (k 1),e 6 15]) (Q (.blk 0 (.loop (Q (Q (D [0,1,3,7,7,23,63,127,255,7,519,2047,4095] [a 16 6,g 17 .gtr (v 16) (k 0),a 18 17,ha 18 true 19 5,ha 18 true 20 6,h 18 true 21 (bin 21 .sub (v 20) (k 1)),h 18 true 22 (idx 22 (v 19) (v 21) 2),h 18 true 23 (fld 23 (v 22) 0),h 18 true 24 (ld 24 (v 23) 1 false),h 18 true 25 (fld 25 (v 3) 0),h 18 true 26 (ld 26 (v 25) 1 false),h 18 true 27 (bin 27 .gtr (v 24) (v 26)),p 28 18 (v 27) k0]) (F (v 28) .skip (.exit 0))) (.blk 1 (Q (R [a 29 5,a 30 6,a 31 5,a 32 6,g 33 .sub (v 32) (k 1),i 34 31 33 2,b 35 34 2,i 36 29 30 2,s 36 35 2]) (R [a 37 6,g 38 .sub (v 37) (k 1),e 6 38])))))) (Q (R [a 39 5,a 40 6,b 41 3 2,i 42 39 40 2,s 42 41 2]) (Q (R [a 43 5,e 4 43]) .ret)))))
def agC:Cmd:=Q (R [e' 6 k0]) (Q (R [a 7 0,a 8 1,g 9 .geq (v 7) (v 8),a 10 9,ha 10 true 11 0,ha 10 true 12 2,h 10 true 13 (bin 13 .leq (v 11) (v 12)),p 14 10 (v 13) k0,e 6 14]) .ret)
def acE:Cmd:=Q (R [e' 4 (.c (.own 1 []))]) (Q (R [a 6 1,n 7 (mks 7 (v 6) (v 6) 1 1 [.int .u8 0]),e 5 7]) (Q (R [a 8 5,a 9 0,n 10 (cpy 10 (v 8) (v 9) 1)]) (Q (R [a 11 5,e 4 11]) .ret)))
def zW:Cmd:=Q (R [e' 4 k0]) (Q (R [a 5 0,a 6 1,c 7 101 [v 5,v 6],g 8 .eql (v 7) (k 0),e 4 8]) .ret)
def abj:Cmd:=Q (R [n 2 (box 2 (v 0)),e' 4 (k 0),e' 5 (k 0)]) (Q (R [a 9 1,c 10 91 [v 9],a 8 10,x 11 8 0,x 12 8 1,e 6 11,e 7 12]) (Q (Q (R [a 13 7,n 14 (un 14 .not (v 13))]) (F (v 14) (Q (R [e' 4 (k 0),e' 5 (k 1)]) .ret) .skip)) (Q (R [b 15 2 2,a 16 6,c 17 152 [v 15,v 16],x 18 17 0,x 19 17 1,e 4 18,e 5 19]) .ret)))
def oT:Cmd:=Q (R [e' 4 k0]) (Q (R [a 11 0,c 12 91 [v 11],a 10 12,x 13 10 0,x 14 10 1,e 5 13,e 6 14]) (Q (R [a 16 1,c 17 91 [v 16],a 15 17,x 18 15 0,x 19 15 1,e 7 18,e 8 19]) (Q (Q (R [a 20 6,n 21 (un 21 .not (v 20)),a 22 21,ha 22 false 23 8,h 22 false 24 (un 24 .not (v 23)),p 25 22 k1 (v 24),a 26 25,ha 26 false 27 5,h 26 false 28 (len 28 (v 27)),ha 26 false 29 7,h 26 false 30 (len 30 (v 29)),h 26 false 31 (bin 31 .gtr (v 28) (v 30)),p 32 26 k1 (v 31)]) (F (v 32) (Q (R [e' 4 k0]) .ret) .skip)) (Q (Q (R [e' 9 (k 0)]) (.blk 0 (.loop (Q (Q (R [a 33 9,a 34 5,l 35 34,g 36 .lss (v 33) (v 35)]) (F (v 36) .skip (.exit 0))) (Q (.blk 1 (Q (D [0,0,3,7,0,0,48,112,255] [a 39 5,a 40 9,i 41 39 40 1,b' 42 41 1,a 43 7,a 44 9,i 45 43 44 1,b' 46 45 1,g 47 .neq (v 42) (v 46)]) (F (v 47) (Q (R [e' 4 k0]) .ret) .skip))) (R [a 37 9,g 38 .add (v 37) (k 1),e 9 38])))))) (Q (R [e' 4 k1]) .ret)))))
def mJ:Cmd:=Q (R [z 2 [.sl 6 [],.int .i64 0]]) (Q (R [a 4 0,c 5 57 [v 4,k 8],z 3 [.sl 6 [],.int .i64 0],s 3 5 2]) (Q (Q (R [a 6 0,c 7 101 [v 6,k 12]]) (.blk 0 (Q (R [g 9 .eql (v 7) (k 0),e 8 9]) (F (v 8) (R [a 10 0,o 11 1 [k 1,k 2,k 1000,k 1001],c 12 153 [v 10,v 11],f 13 3 1,s 13 12 1]) (Q (R [g 15 .eql (v 7) (k 1),e 14 15]) (F (v 14) (D [0,1,0,4,12,31,63,127] [f 16 3 0,b' 17 16 1,a 18 0,c 19 154 [v 18],o 20 6 [v 19],n 21 (app 21 (v 17) (v 20) 6 96),f 22 3 0,s 22 21 1]) (Q (R [g 24 .eql (v 7) (k 2),e 23 24]) (F (v 23) (D [0,1,0,0,8,24,60,0,252,511,1023] [f 25 3 0,b' 26 25 1,a 27 0,f 28 3 0,b' 29 28 1,l 30 29,c 31 101 [v 27,v 30],a 32 0,c 33 154 [v 32],i 34 26 31 6,s 34 33 6]) (Q (R [g 36 .eql (v 7) (k 3),e 35 36]) (F (v 35) (D [0,1,0,0,8,24,56,124,255,511,1023] [f 37 3 0,b' 38 37 1,a 39 0,f 40 3 0,b' 41 40 1,l 42 41,g 43 .add (v 42) (k 1),c 44 101 [v 39,v 43],n 45 (slc 45 (v 38) none (some (v 44)) 6),f 46 3 0,s 46 45 1]) .skip)))))))))) (Q (R [b 47 3 2,s 2 47 2]) .ret)))
def nH:Cmd:=Q (R [e' 4 (k 0)]) (Q (Q (R [a 8 1,g 9 .leq (v 8) (k 0)]) (F (v 9) (Q (R [e' 4 (k 0)]) .ret) .skip)) (Q (Q (R [a 10 1,g 11 .leq (v 10) (k 256)]) (F (v 11) (Q (R [a 12 0,c 13 155 [v 12],a 14 1,g 15 .rem (v 13) (v 14),e 4 15]) .ret) .skip)) (Q (R [a 16 0,c 17 155 [v 16],e 5 17]) (Q (R [a 18 0,c 19 155 [v 18],e 6 19]) (Q (R [a 20 0,c 21 155 [v 20],e 7 21]) (Q (R [a 22 5,g 23 .mul (v 22) (k 65536),a 24 6,g 25 .mul (v 24) (k 256),g 26 .add (v 23) (v 25),a 27 7,g 28 .add (v 26) (v 27),a 29 1,g 30 .rem (v 28) (v 29),e 4 30]) .ret))))))
def zY:Cmd:=Q (R [e' 2 k0]) (Q (Q (R [a 5 0,n 6 (lens 6 (v 5)),n 7 (mov 7 (k 0))]) (.blk 0 (.loop (Q (R [g 8 .lss (v 7) (v 6)]) (Q (F (v 8) .skip (.exit 0)) (Q (.blk 1 (Q (R [a 9 7,e 3 9]) (Q (R [a 10 0,a 11 3,n 12 (sidx 12 (v 10) (v 11)),e 4 12]) (Q (R [a 13 4,g 14 .lss (v 13) (.c (.int .u8 97)),a 15 14,ha 15 false 16 4,h 15 false 17 (bin 17 .gtr (v 16) (.c (.int .u8 122))),p 18 15 k1 (v 17),a 19 18,ha 19 true 20 4,h 19 true 21 (bin 21 .lss (v 20) (.c (.int .u8 48))),ha 19 true 22 21,ha 22 false 23 4,h 22 false 24 (bin 24 .gtr (v 23) (.c (.int .u8 57))),h 19 true 25 (pck 25 (v 22) k1 (v 24)),p 26 19 (v 25) k0,a 27 26,ha 27 true 28 4,h 27 true 29 (bin 29 .neq (v 28) (.c (.int .u8 95))),p 30 27 (v 29) k0,a 31 30,ha 31 true 32 4,h 31 true 33 (bin 33 .neq (v 32) (.c (.int .u8 45))),p 34 31 (v 33) k0,a 35 34,ha 35 true 36 4,h 35 true 37 (bin 37 .neq (v 36) (.c (.int .u8 46))),p 38 35 (v 37) k0]) (F (v 38) (Q (R [e' 2 k0]) .ret) .skip))))) (R [g 39 .add (v 7) (k 1),a 7 39]))))))) (Q (R [a 40 0,n 41 (lens 41 (v 40)),g 42 .geq (v 41) (k 1),a 43 42,ha 43 true 44 0,h 43 true 45 (lens 45 (v 44)),h 43 true 46 (bin 46 .leq (v 45) (k 14)),p 47 43 (v 46) k0,a 48 47,ha 48 true 49 0,h 48 true 50 (bin 50 .neq (v 49) (.c (.str [46]))),p 51 48 (v 50) k0,a 52 51,ha 52 true 53 0,h 52 true 54 (bin 54 .neq (v 53) (.c (.str [46,46]))),p 55 52 (v 54) k0,e 2 55]) .ret))
def acF:Cmd:=Q (R [n 1 (box 1 (v 0)),e' 2 k0]) (Q (Q (R [f 5 1 0,b' 6 5 1,l 7 6,c 8 158 [v 7,k 1,k 30],n 9 (un 9 .not (v 8)),a 10 9,h 10 false 11 (fld 11 (v 1) 1),h 10 false 12 (ld 12 (v 11) 1 false),hc 10 false 13 158 [v 12,k 2,k 1000],h 10 false 14 (un 14 .not (v 13)),p 15 10 k1 (v 14)]) (F (v 15) (Q (R [e' 2 k0]) .ret) .skip)) (Q (Q (R [e' 3 (k 0)]) (.blk 0 (.loop (Q (Q (R [a 16 3,f 17 1 0,b' 18 17 1,l 19 18,g 20 .lss (v 16) (v 19)]) (F (v 20) .skip (.exit 0))) (Q (.blk 1 (Q (R [f 23 1 0,b' 24 23 1,a 25 3,i 26 24 25 6,b 27 26 6,z 4 [.int .i64 0,.int .i64 0,.int .i64 0,.sl 1 [],.sl 2 [],.sl 2 []],s 4 27 6]) (Q (D [0,1,3,7,15,31,15,79,255,511,1023,2047,4095,8191,16383,32767,16383,81919,262143,524287,1048575,16383,2113535,8388607,16777215,33554431] [b 28 4 6,c 29 159 [v 28],n 30 (un 30 .not (v 29)),a 31 30,h 31 false 32 (fld 32 (v 4) 0),h 31 false 33 (ld 33 (v 32) 1 false),h 31 false 34 (fld 34 (v 1) 1),h 31 false 35 (ld 35 (v 34) 1 false),h 31 false 36 (bin 36 .geq (v 33) (v 35)),p 37 31 k1 (v 36),a 38 37,ha 38 false 39 3,h 38 false 40 (bin 40 .gtr (v 39) (k 0)),ha 38 false 41 40,h 41 true 42 (fld 42 (v 1) 0),h 41 true 43 (ld 43 (v 42) 1 false),ha 41 true 44 3,h 41 true 45 (bin 45 .sub (v 44) (k 1)),h 41 true 46 (idx 46 (v 43) (v 45) 6),h 41 true 47 (fld 47 (v 46) 0),h 41 true 48 (ld 48 (v 47) 1 false),h 41 true 49 (fld 49 (v 4) 0),h 41 true 50 (ld 50 (v 49) 1 false),h 41 true 51 (bin 51 .geq (v 48) (v 50)),h 38 false 52 (pck 52 (v 41) (v 51) k0),p 53 38 k1 (v 52)]) (F (v 53) (Q (R [e' 2 k0]) .ret) .skip)))) (R [a 21 3,g 22 .add (v 21) (k 1),e 3 22])))))) (Q (R [f 54 1 0,b' 55 54 1,n 56 (idx 56 (v 55) (k 0) 6),f 57 56 0,b' 58 57 1,g 59 .eql (v 58) (k 1),a 60 59,h 60 true 61 (fld 61 (v 1) 0),h 60 true 62 (ld 62 (v 61) 1 false),h 60 true 63 (idx 63 (v 62) (k 0) 6),h 60 true 64 (fld 64 (v 63) 1),h 60 true 65 (ld 65 (v 64) 1 false),h 60 true 66 (bin 66 .eql (v 65) (k 2)),p 67 60 (v 66) k0,e 2 67]) .ret)))
def xA:Cmd:=Q (R [n 2 (box 2 (v 0)),e' 4 (k 0)]) (Q (R [e' 5 (k 0)]) (Q (Q (R [e' 6 (k 0)]) (.blk 0 (.loop (Q (Q (R [a 8 6,f 9 2 0,b' 10 9 1,l 11 10,g 12 .lss (v 8) (v 11)]) (F (v 12) .skip (.exit 0))) (Q (.blk 1 (Q (R [e' 7 (k 0)]) (.blk 2 (.loop (Q (Q (R [a 15 7,f 16 2 0,b' 17 16 1,a 18 6,i 19 17 18 6,f 20 19 4,b' 21 20 1,l 22 21,g 23 .lss (v 15) (v 22),a 24 23,h 24 true 25 (fld 25 (v 2) 0),h 24 true 26 (ld 26 (v 25) 1 false),ha 24 true 27 6,h 24 true 28 (idx 28 (v 26) (v 27) 6),h 24 true 29 (fld 29 (v 28) 1),h 24 true 30 (ld 30 (v 29) 1 false),h 24 true 31 (bin 31 .eql (v 30) (k 2)),p 32 24 (v 31) k0]) (F (v 32) .skip (.exit 2))) (Q (.blk 3 (Q (R [f 35 2 0,b' 36 35 1,a 37 6,i 38 36 37 6,f 39 38 4,b' 40 39 1,a 41 7,i 42 40 41 2,f 43 42 1,b' 44 43 1,a 45 1,g 46 .eql (v 44) (v 45)]) (F (v 46) (R [a 47 5,g 48 .add (v 47) (k 1),e 5 48]) .skip))) (R [a 33 7,g 34 .add (v 33) (k 1),e 7 34]))))))) (R [a 13 6,g 14 .add (v 13) (k 1),e 6 14])))))) (Q (R [a 49 5,e 4 49]) .ret)))
def agD:Cmd:=Q (R [n 2 (box 2 (v 0)),e' 4 (k 0)]) (Q (Q (R [e' 5 (k 0)]) (.blk 0 (.loop (Q (Q (R [a 6 5,f 7 2 0,b' 8 7 1,l 9 8,g 10 .lss (v 6) (v 9)]) (F (v 10) .skip (.exit 0))) (Q (.blk 1 (Q (R [f 13 2 0,b' 14 13 1,a 15 5,i 16 14 15 6,f 17 16 0,b' 18 17 1,a 19 1,g 20 .eql (v 18) (v 19)]) (F (v 20) (Q (R [a 21 5,e 4 21]) .ret) .skip))) (R [a 11 5,g 12 .add (v 11) (k 1),e 5 12])))))) (Q (R [e' 4 (k (-1))]) .ret))
def i8:Cmd:=Q (R [e' 4 k0]) (Q (R [a 5 0,a 6 1,c 7 160 [v 5,v 6],g 8 .geq (v 7) (k 0),e 4 8]) .ret)
def zZ:Cmd:=Q (R [n 2 (box 2 (v 0)),e' 4 (.c (.own 1 []))]) (Q (R [a 10 1,e 5 10]) (Q (Q (R [e' 6 (k 0)]) (.blk 0 (.loop (Q (Q (R [a 11 6,a 12 1,l 13 12,g 14 .lss (v 11) (v 13)]) (F (v 14) .skip (.exit 0))) (Q (.blk 1 (Q (D [0,0,0,6,14,31,63,127,255,0,767,2047] [b 18 2 2,a 19 1,a 20 6,i 21 19 20 1,b' 22 21 1,c 23 148 [v 18,v 22],a 17 23,x 24 17 0,x 25 17 1,z 7 [.int .i64 0,.int .i64 0,.int .i64 0,.sl 1 [],.sl 2 [],.sl 2 []],s 7 24 6,e 8 25]) (Q (R [e' 9 (k 0)]) (.blk 2 (.loop (Q (Q (R [a 26 9,f 27 7 4,b' 28 27 1,l 29 28,g 30 .lss (v 26) (v 29),a 31 30,ha 31 true 32 8,p 33 31 (v 32) k0,a 34 33,h 34 true 35 (fld 35 (v 7) 1),h 34 true 36 (ld 36 (v 35) 1 false),h 34 true 37 (bin 37 .eql (v 36) (k 2)),p 38 34 (v 37) k0]) (F (v 38) .skip (.exit 2))) (Q (.blk 3 (Q (D [0,0,2,0,14,30,62,127,255] [b 41 2 2,f 42 7 4,b' 43 42 1,a 44 9,i 45 43 44 2,f 46 45 1,b' 47 46 1,c 48 109 [v 41,v 47],g 49 .geq (v 48) (k 0)]) (F (v 49) (R [a 50 5,f 51 7 4,b' 52 51 1,a 53 9,i 54 52 53 2,f 55 54 1,b' 56 55 1,c 57 162 [v 50,v 56],e 5 57]) .skip))) (R [a 39 9,g 40 .add (v 39) (k 1),e 9 40])))))))) (R [a 15 6,g 16 .add (v 15) (k 1),e 6 16])))))) (Q (R [a 58 5,e 4 58]) .ret)))
def aaa:Cmd:=Q (R [z 0 [.sl 6 [],.int .i64 0]]) (Q (R [n 1 (bld 1 [.int .i64 0,.int .i64 0,.int .i64 0,.sl 1 [],.sl 2 [],.sl 2 []] [(0,1,k 1),(1,1,k 2)]),o 2 6 [v 1],n 3 (bld 3 [.sl 6 [],.int .i64 0] [(0,1,v 2),(1,1,k 2)]),s 0 3 2]) .ret)
def bN:Cmd:=Q (R [n 3 (box 3 (v 1)),z 4 [.sl 6 [],.int .i64 0]]) (Q (R [a 7 0,b 8 3 2,c 9 58 [v 7,v 8],e 5 9]) (Q (R [a 10 0,c 11 59 [v 10],e 6 11]) (Q (Q (R [a 12 0,c 13 101 [v 12,k 12]]) (.blk 0 (Q (Q (R [g 34 .eql (v 13) (k 0),e 33 34]) (F (v 33) .skip (R [g 35 .eql (v 13) (k 1),e 33 35]))) (F (v 33) (R [b 37 3 2,a 38 6,c 39 37 [v 37,v 38],a 36 39,x 40 36 0,x 41 36 1,s 3 40 2]) (Q (Q (R [g 43 .eql (v 13) (k 2),e 42 43]) (F (v 42) .skip (R [g 44 .eql (v 13) (k 3),e 42 44]))) (F (v 42) (R [b 46 3 2,a 47 6,c 48 33 [v 46,v 47],a 45 48,x 49 45 0,x 50 45 1,s 3 49 2]) (Q (Q (R [g 52 .eql (v 13) (k 4),e 51 52]) (F (v 51) .skip (Q (R [g 53 .eql (v 13) (k 5),e 51 53]) (F (v 51) .skip (R [g 54 .eql (v 13) (k 6),e 51 54]))))) (F (v 51) (D [0,0,0,0,12,0,60,127,255,511,1023,1023] [b 56 3 2,a 57 5,a 58 0,o 59 1 [k 0,k 1,k 20],c 60 153 [v 58,v 59],a 61 0,c 62 173 [v 61],c 63 172 [v 56,v 57,v 60,v 62],a 55 63,x 64 55 0,x 65 55 1,s 3 64 2]) (Q (R [g 67 .eql (v 13) (k 7),e 66 67]) (F (v 66) (D [0,0,0,0,12,31,63,127,255,255] [b 69 3 2,a 70 5,a 71 0,o 72 1 [k 0,k 3,k 50],c 73 153 [v 71,v 72],c 74 174 [v 69,v 70,v 73],a 68 74,x 75 68 0,x 76 68 1,s 3 75 2]) (Q (R [g 78 .eql (v 13) (k 8),e 77 78]) (F (v 77) (R [b 80 3 2,a 81 5,c 82 22 [v 80,v 81],a 79 82,x 83 79 0,x 84 79 1,s 3 83 2]) (Q (R [g 86 .eql (v 13) (k 9),e 85 86]) (F (v 85) (R [b 88 3 2,a 89 5,a 90 6,c 91 39 [v 88,v 89,v 90],a 87 91,x 92 87 0,x 93 87 1,s 3 92 2]) (Q (R [g 95 .eql (v 13) (k 10),e 94 95]) (F (v 94) (R [b 97 3 2,a 98 5,a 99 6,c 100 42 [v 97,v 98,v 99],a 96 100,x 101 96 0,x 102 96 1,s 3 101 2]) (Q (R [a 14 0,c 15 96 [v 14,k 2]]) (F (v 15) (R [b 17 3 2,a 18 5,c 19 30 [v 17,v 18],a 16 19,x 20 16 0,x 21 16 1,s 3 20 2]) (D [0,0,0,4,0,0,60,127,255,511,1023,1023] [b 23 3 2,a 24 5,a 25 0,c 26 121 [v 25],a 27 0,o 28 1 [.c (.str [120]),.c (.str []),.c (.str [118,97,108,117,101])],c 29 149 [v 27,v 28],c 30 175 [v 23,v 24,v 26,v 29],a 22 30,x 31 22 0,x 32 22 1,s 3 31 2]))))))))))))))))))) (Q (R [b 103 3 2,s 4 103 2]) .ret))))
def qZ:Cmd:=Q (R [n 1 (box 1 (v 0)),e' 2 (.c (.own 1 []))]) (Q (R [o 4 1 [],z 3 [.sl 1 []],s 3 4 1]) (Q (Q (R [b 5 1 2,c 6 46 [v 5]]) (F (v 6) (R [b 7 1 2,c 8 176 [v 7,k 1,.c (.str []),v 3]]) .skip)) (Q (R [b' 9 3 1,c 10 177 [v 9],e 2 10]) .ret)))
def aab:Cmd:=Q (R [e' 2 (.c (.str []))]) (Q (R [a 3 0,o 4 1 [.c (.str [97]),.c (.str [98]),.c (.str [99]),.c (.str [100,46,116,120,116])],c 5 149 [v 3,v 4],e 2 5]) .ret)
def r9:Cmd:=Q (R [n 1 (box 1 (v 0)),z 2 [.int .i64 0,.int .i64 0,.int .i64 0,.sl 1 [],.sl 2 [],.sl 2 []]]) (Q (R [f 3 1 3,b' 4 3 1,c 5 84 [v 4],f 6 1 3,s 6 5 1]) (Q (R [f 7 1 4,b' 8 7 1,c 9 125 [v 8],f 10 1 4,s 10 9 1]) (Q (R [f 11 1 5,b' 12 11 1,c 13 178 [v 12],f 14 1 5,s 14 13 1]) (Q (R [b 15 1 6,s 2 15 6]) .ret))))
def kN:Cmd:=Q (R [e' 2 (.c (.str [])),e' 3 (.c (.str [])),e' 4 k0]) (Q (R [a 9 0,c 10 81 [v 9],a 8 10,x 11 8 0,x 12 8 1,e 5 11,e 6 12]) (Q (Q (R [a 13 6,n 14 (un 14 .not (v 13)),a 15 14,ha 15 false 16 5,h 15 false 17 (len 17 (v 16)),h 15 false 18 (bin 18 .eql (v 17) (k 0)),p 19 15 k1 (v 18)]) (F (v 19) (Q (R [e' 2 (.c (.str [])),e' 3 (.c (.str [])),e' 4 k0]) .ret) .skip)) (Q (R [a 20 5,l 21 20,g 22 .sub (v 21) (k 1),e 7 22]) (Q (D [0,0,3,7,0,0,48,112,15,511,1023] [a 23 5,a 24 7,n 25 (slc 25 (v 23) none (some (v 24)) 1),c 26 179 [v 25],a 27 5,a 28 7,i 29 27 28 1,b' 30 29 1,e 2 26,e 3 30,e' 4 k1]) .ret))))
def gK:Cmd:=Q (R [e' 4 (.c (.own 2 []))]) (Q (R [a 8 0,a 9 1,c 10 132 [v 8,v 9],e 5 10]) (Q (Q (R [a 11 5,g 12 .eql (v 11) (k (-1))]) (F (v 12) (Q (R [a 13 0,e 4 13]) .ret) .skip)) (Q (Q (R [a 14 5,g 15 .add (v 14) (k 1),e 6 15]) (.blk 0 (.loop (Q (Q (R [a 16 6,a 17 0,l 18 17,g 19 .lss (v 16) (v 18)]) (F (v 19) .skip (.exit 0))) (Q (.blk 1 (Q (R [a 22 0,a 23 6,i 24 22 23 2,b 25 24 2,z 7 [.str [],.int .i64 0],s 7 25 2]) (Q (R [a 26 1,b 27 7 2,n 28 (callv (some 28) (v 26) [v 27]),n 29 (un 29 .not (v 28))]) (F (v 29) (Q (R [a 30 0,a 31 5,b 32 7 2,i 33 30 31 2,s 33 32 2]) (R [a 34 5,g 35 .add (v 34) (k 1),e 5 35])) .skip)))) (R [a 20 6,g 21 .add (v 20) (k 1),e 6 21])))))) (Q (R [a 36 0,a 37 5,n 38 (slc 38 (v 36) (some (v 37)) none 2),m (.clr (v 38) 2 [.str [],.int .i64 0])]) (Q (R [a 39 0,a 40 5,n 41 (slc 41 (v 39) none (some (v 40)) 2),e 4 41]) .ret)))))
def nI:Cmd:=Q (R [e' 2 (.c (.own 2 []))]) (Q (Q (R [a 3 0,n 4 (isn 4 false (v 3) (.c (.own 2 [])))]) (F (v 4) (Q (R [e' 2 (.c (.own 2 []))]) .ret) .skip)) (Q (R [o 5 2 [],a 6 0,n 7 (app 7 (v 5) (v 6) 2 24),e 2 7]) .ret))
def n4:Cmd:=Q (R [n 2 (box 2 (v 0)),e' 3 k0]) (Q (R [f 4 2 0,b' 5 4 1,f 6 1 6,b' 7 6 1,g 8 .eql (v 5) (v 7),e 3 8]) .ret)
def fM:Cmd:=Q (R [e' 4 (.c (.own 6 []))]) (Q (R [a 8 0,a 9 1,c 10 129 [v 8,v 9],e 5 10]) (Q (Q (R [a 11 5,g 12 .eql (v 11) (k (-1))]) (F (v 12) (Q (R [a 13 0,e 4 13]) .ret) .skip)) (Q (Q (R [a 14 5,g 15 .add (v 14) (k 1),e 6 15]) (.blk 0 (.loop (Q (Q (R [a 16 6,a 17 0,l 18 17,g 19 .lss (v 16) (v 18)]) (F (v 19) .skip (.exit 0))) (Q (.blk 1 (Q (R [a 22 0,a 23 6,i 24 22 23 6,b 25 24 6,z 7 [.int .i64 0,.int .i64 0,.int .i64 0,.sl 1 [],.sl 2 [],.sl 2 []],s 7 25 6]) (Q (R [a 26 1,b 27 7 6,n 28 (callv (some 28) (v 26) [v 27]),n 29 (un 29 .not (v 28))]) (F (v 29) (Q (R [a 30 0,a 31 5,b 32 7 6,i 33 30 31 6,s 33 32 6]) (R [a 34 5,g 35 .add (v 34) (k 1),e 5 35])) .skip)))) (R [a 20 6,g 21 .add (v 20) (k 1),e 6 21])))))) (Q (R [a 36 0,a 37 5,n 38 (slc 38 (v 36) (some (v 37)) none 6),m (.clr (v 38) 6 [.int .i64 0,.int .i64 0,.int .i64 0,.sl 1 [],.sl 2 [],.sl 2 []])]) (Q (R [a 39 0,a 40 5,n 41 (slc 41 (v 39) none (some (v 40)) 6),e 4 41]) .ret)))))
def oU:Cmd:=Q (R [n 2 (box 2 (v 0)),e' 3 k0]) (Q (R [f 4 2 0,b' 5 4 1,b' 6 1 1,g 7 .eql (v 5) (v 6),e 3 7]) .ret)
def jY:Cmd:=Q (R [e' 4 (k 0)]) (Q (Q (R [a 6 0,l 7 6,n 8 (mov 8 (k 0))]) (.blk 0 (.loop (Q (R [g 9 .lss (v 8) (v 7)]) (Q (F (v 9) .skip (.exit 0)) (Q (.blk 1 (Q (R [a 10 8,e 5 10]) (Q (R [a 11 1,a 12 0,a 13 5,i 14 12 13 6,b 15 14 6,n 16 (callv (some 16) (v 11) [v 15])]) (F (v 16) (Q (R [a 17 5,e 4 17]) .ret) .skip)))) (R [g 18 .add (v 8) (k 1),a 8 18]))))))) (Q (R [e' 4 (k (-1))]) .ret))
def mK:Cmd:=Q (R [e' 4 (k 0)]) (Q (Q (R [a 6 0,l 7 6,n 8 (mov 8 (k 0))]) (.blk 0 (.loop (Q (R [g 9 .lss (v 8) (v 7)]) (Q (F (v 9) .skip (.exit 0)) (Q (.blk 1 (Q (R [a 10 8,e 5 10]) (Q (R [a 11 1,a 12 0,a 13 5,i 14 12 13 2,b 15 14 2,n 16 (callv (some 16) (v 11) [v 15])]) (F (v 16) (Q (R [a 17 5,e 4 17]) .ret) .skip)))) (R [g 18 .add (v 8) (k 1),a 8 18]))))))) (Q (R [e' 4 (k (-1))]) .ret))
def n5:Cmd:=Q (R [n 2 (box 2 (v 0)),e' 3 k0]) (Q (R [f 4 2 0,b' 5 4 1,f 6 1 6,b' 7 6 1,g 8 .gtr (v 5) (v 7),e 3 8]) .ret)
def qK:Cmd:=Q (R [e' 4 k0]) (Q (Q (R [a 6 0,l 7 6,a 8 1,l 9 8,g 10 .neq (v 7) (v 9)]) (F (v 10) (Q (R [e' 4 k0]) .ret) .skip)) (Q (Q (R [a 11 0,l 12 11,n 13 (mov 13 (k 0))]) (.blk 0 (.loop (Q (R [g 14 .lss (v 13) (v 12)]) (Q (F (v 14) .skip (.exit 0)) (Q (.blk 1 (Q (R [a 15 13,e 5 15]) (Q (D [0,0,3,7,0,0,48,112,255] [a 16 0,a 17 5,i 18 16 17 1,b' 19 18 1,a 20 1,a 21 5,i 22 20 21 1,b' 23 22 1,g 24 .neq (v 19) (v 23)]) (F (v 24) (Q (R [e' 4 k0]) .ret) .skip)))) (R [g 25 .add (v 13) (k 1),a 13 25]))))))) (Q (R [e' 4 k1]) .ret)))
def sA:Cmd:=Q (R [e' 4 k0]) (Q (Q (R [a 6 0,l 7 6,a 8 1,l 9 8,g 10 .neq (v 7) (v 9)]) (F (v 10) (Q (R [e' 4 k0]) .ret) .skip)) (Q (Q (R [a 11 0,l 12 11,n 13 (mov 13 (k 0))]) (.blk 0 (.loop (Q (R [g 14 .lss (v 13) (v 12)]) (Q (F (v 14) .skip (.exit 0)) (Q (.blk 1 (Q (R [a 15 13,e 5 15]) (Q (D [0,0,3,7,0,0,48,112,255] [a 16 0,a 17 5,i 18 16 17 2,b 19 18 2,a 20 1,a 21 5,i 22 20 21 2,b 23 22 2,n 24 (eqs 24 true [1,0] (v 19) (v 23))]) (F (v 24) (Q (R [e' 4 k0]) .ret) .skip)))) (R [g 25 .add (v 13) (k 1),a 13 25]))))))) (Q (R [e' 4 k1]) .ret)))
def qL:Cmd:=Q (R [e' 4 k0]) (Q (Q (R [a 6 0,l 7 6,a 8 1,l 9 8,g 10 .neq (v 7) (v 9)]) (F (v 10) (Q (R [e' 4 k0]) .ret) .skip)) (Q (Q (R [a 11 0,l 12 11,n 13 (mov 13 (k 0))]) (.blk 0 (.loop (Q (R [g 14 .lss (v 13) (v 12)]) (Q (F (v 14) .skip (.exit 0)) (Q (.blk 1 (Q (R [a 15 13,e 5 15]) (Q (D [0,0,3,7,0,0,48,112,255] [a 16 0,a 17 5,i 18 16 17 2,b 19 18 2,a 20 1,a 21 5,i 22 20 21 2,b 23 22 2,n 24 (eqs 24 true [1,1] (v 19) (v 23))]) (F (v 24) (Q (R [e' 4 k0]) .ret) .skip)))) (R [g 25 .add (v 13) (k 1),a 13 25]))))))) (Q (R [e' 4 k1]) .ret)))
def aac:Cmd:=Q (R [z 2 [.sl 6 [],.int .i64 0]]) (Q (R [c 7 118 [],z 3 [.sl 6 [],.int .i64 0],s 3 7 2]) (Q (Q (R [e' 4 (k 0)]) (.blk 0 (.loop (Q (Q (R [a 8 4,g 9 .lss (v 8) (k 4)]) (F (v 9) .skip (.exit 0))) (Q (.blk 1 (Q (R [a 12 4,g 13 .add (k 97) (v 12),n 14 (conv 14 .u8 (v 13)),o 15 1 [v 14],n 16 (b2s 16 (v 15)),g 17 .add (.c (.str [47])) (v 16),e 5 17]) (Q (R [b 19 3 2,a 20 5,c 21 37 [v 19,v 20],a 18 21,x 22 18 0,x 23 18 1,s 3 22 2]) (Q (R [e' 6 (k 0)]) (.blk 2 (.loop (Q (Q (R [a 24 6,g 25 .lss (v 24) (k 7)]) (F (v 25) .skip (.exit 2))) (Q (.blk 3 (R [b 29 3 2,a 30 5,g 31 .add (v 30) (.c (.str [47])),a 32 6,g 33 .add (k 97) (v 32),n 34 (conv 34 .u8 (v 33)),o 35 1 [v 34],n 36 (b2s 36 (v 35)),g 37 .add (v 31) (v 36),c 38 33 [v 29,v 37],a 28 38,x 39 28 0,x 40 28 1,s 3 39 2])) (R [a 26 6,g 27 .add (v 26) (k 1),e 6 27]))))))))) (R [a 10 4,g 11 .add (v 10) (k 1),e 4 11])))))) (Q (Q (R [a 41 0,c 42 96 [v 41,k 2]]) (F (v 42) (R [b 44 3 2,c 45 22 [v 44,.c (.str [47,97,47,97])],a 43 45,x 46 43 0,x 47 43 1,s 3 46 2]) .skip)) (Q (Q (R [a 48 0,c 49 96 [v 48,k 4]]) (F (v 49) (R [f 50 3 1,m (st (v 50) (k 1000) 1)]) .skip)) (Q (R [b 51 3 2,s 2 51 2]) .ret)))))
def oV:Cmd:=Q (R [e' 2 (.c (.str []))]) (Q (Q (R [a 5 0,l 6 5,g 7 .eql (v 6) (k 0)]) (F (v 7) (Q (R [e' 2 (.c (.str [47]))]) .ret) .skip)) (Q (R [e' 3 (.c (.str []))]) (Q (Q (R [e' 4 (k 0)]) (.blk 0 (.loop (Q (Q (R [a 8 4,a 9 0,l 10 9,g 11 .lss (v 8) (v 10)]) (F (v 11) .skip (.exit 0))) (Q (.blk 1 (Q (Q (R [a 14 0,a 15 4,i 16 14 15 1,b' 17 16 1,c 18 150 [v 17],n 19 (un 19 .not (v 18)),a 20 19,ha 20 false 21 0,h 20 false 22 (len 22 (v 21)),h 20 false 23 (bin 23 .gtr (v 22) (k 30)),p 24 20 k1 (v 23)]) (F (v 24) (Q (R [e' 2 (.c (.str []))]) .ret) .skip)) (R [a 25 3,g 26 .add (v 25) (.c (.str [47])),a 27 0,a 28 4,i 29 27 28 1,b' 30 29 1,g 31 .add (v 26) (v 30),e 3 31]))) (R [a 12 4,g 13 .add (v 12) (k 1),e 4 13])))))) (Q (R [a 32 3,e 2 32]) .ret))))
def aad:Cmd:=Q (R [n 1 (box 1 (v 0)),z 2 [.int .i64 0,.int .i64 0,.int .i64 0,.sl 1 [],.sl 2 [],.sl 2 []]]) (Q (R [b 4 1 6,z 3 [.int .i64 0,.int .i64 0,.int .i64 0,.sl 1 [],.sl 2 [],.sl 2 []],s 3 4 6]) (Q (R [o 5 1 [],f 6 1 3,b' 7 6 1,n 8 (app 8 (v 5) (v 7) 1 1),f 9 3 3,s 9 8 1]) (Q (R [o 10 2 [],f 11 1 4,b' 12 11 1,n 13 (app 13 (v 10) (v 12) 2 24),f 14 3 4,s 14 13 1]) (Q (R [o 15 2 [],f 16 1 5,b' 17 16 1,n 18 (app 18 (v 15) (v 17) 2 32),f 19 3 5,s 19 18 1]) (Q (R [b 20 3 6,s 2 20 6]) .ret)))))
def acG:Cmd:=Q (R [e' 4 (.c (.own 2 []))]) (Q (R [o 7 2 [],e 5 7]) (Q (Q (R [e' 6 (k 0)]) (.blk 0 (.loop (Q (Q (R [a 8 6,a 9 0,l 10 9,g 11 .lss (v 8) (v 10)]) (F (v 11) .skip (.exit 0))) (Q (.blk 1 (Q (R [a 14 0,a 15 6,i 16 14 15 2,f 17 16 0,b' 18 17 1,a 19 1,g 20 .neq (v 18) (v 19)]) (F (v 20) (R [a 21 5,a 22 0,a 23 6,i 24 22 23 2,b 25 24 2,o 26 2 [v 25],n 27 (app 27 (v 21) (v 26) 2 24),e 5 27]) .skip))) (R [a 12 6,g 13 .add (v 12) (k 1),e 6 13])))))) (Q (R [a 28 5,e 4 28]) .ret)))
def acH:Cmd:=Q (R [e' 4 (.c (.own 1 []))]) (Q (R [a 5 0,a 6 1,c 7 184 [v 5,v 6,k 0,k (-1)],e 4 7]) .ret)
def xB:Cmd:=Q (R [e' 2 k0]) (Q (R [a 3 0,l 4 3,g 5 .leq (v 4) (k 30),a 6 5,ha 6 true 7 0,hc 6 true 8 185 [v 7,.c (.fn 186 [])],h 6 true 9 (un 9 .not (v 8)),p 10 6 (v 9) k0,e 2 10]) .ret)
def xC:Cmd:=Q (R [n 1 (box 1 (v 0)),e' 2 k0]) (Q (Q (R [f 5 1 0,b' 6 5 1,c 7 94 [v 6,k 1,k 1000],n 8 (un 8 .not (v 7)),a 9 8,h 9 false 10 (fld 10 (v 1) 3),h 9 false 11 (ld 11 (v 10) 1 false),h 9 false 12 (len 12 (v 11)),h 9 false 13 (bin 13 .gtr (v 12) (k 100)),p 14 9 k1 (v 13),a 15 14,h 15 false 16 (fld 16 (v 1) 4),h 15 false 17 (ld 17 (v 16) 1 false),h 15 false 18 (len 18 (v 17)),h 15 false 19 (bin 19 .gtr (v 18) (k 10)),p 20 15 k1 (v 19),a 21 20,h 21 false 22 (fld 22 (v 1) 5),h 21 false 23 (ld 23 (v 22) 1 false),hc 21 false 24 198 [v 23],h 21 false 25 (un 25 .not (v 24)),p 26 21 k1 (v 25)]) (F (v 26) (Q (R [e' 2 k0]) .ret) .skip)) (Q (Q (R [f 27 1 4,b' 28 27 1,l 29 28,n 30 (mov 30 (k 0))]) (.blk 0 (.loop (Q (R [g 31 .lss (v 30) (v 29)]) (Q (F (v 31) .skip (.exit 0)) (Q (.blk 1 (Q (R [a 32 30,i 33 28 30 2,b 34 33 2,z 4 [.str [],.int .i64 0],e 3 32,s 4 34 2]) (Q (D [0,1,3,7,15,31,63,127,255,511,1023,2047,4095,8191,16383,32767,16383,81919,262143,524287,1048575,16383,2113535,8388607,16777215,33554431] [f 35 4 0,b' 36 35 1,c 37 102 [v 36],n 38 (un 38 .not (v 37)),a 39 38,h 39 false 40 (fld 40 (v 4) 1),h 39 false 41 (ld 41 (v 40) 1 false),hc 39 false 42 94 [v 41,k 2,k 1000],h 39 false 43 (un 43 .not (v 42)),p 44 39 k1 (v 43),a 45 44,ha 45 false 46 3,h 45 false 47 (bin 47 .gtr (v 46) (k 0)),ha 45 false 48 47,h 48 true 49 (fld 49 (v 1) 4),h 48 true 50 (ld 50 (v 49) 1 false),ha 48 true 51 3,h 48 true 52 (bin 52 .sub (v 51) (k 1)),h 48 true 53 (idx 53 (v 50) (v 52) 2),h 48 true 54 (fld 54 (v 53) 0),h 48 true 55 (ld 55 (v 54) 1 false),h 48 true 56 (fld 56 (v 4) 0),h 48 true 57 (ld 57 (v 56) 1 false),h 48 true 58 (bin 58 .geq (v 55) (v 57)),h 45 false 59 (pck 59 (v 48) (v 58) k0),p 60 45 k1 (v 59)]) (F (v 60) (Q (R [e' 2 k0]) .ret) .skip)))) (R [g 61 .add (v 30) (k 1),a 30 61]))))))) (Q (Q (R [f 62 1 2,b' 63 62 1,c 64 94 [v 63,k 0,k 1000],n 65 (un 65 .not (v 64)),a 66 65,h 66 false 67 (fld 67 (v 1) 2),h 66 false 68 (ld 68 (v 67) 1 false),h 66 false 69 (bin 69 .eql (v 68) (k 0)),h 66 false 70 (fld 70 (v 1) 0),h 66 false 71 (ld 71 (v 70) 1 false),h 66 false 72 (bin 72 .eql (v 71) (k 1)),h 66 false 73 (beq 73 true (v 69) (v 72)),p 74 66 k1 (v 73)]) (F (v 74) (Q (R [e' 2 k0]) .ret) .skip)) (Q (Q (R [f 75 1 1,b' 76 75 1]) (.blk 2 (Q (R [g 78 .eql (v 76) (k 1),e 77 78]) (F (v 77) (Q (R [f 79 1 4,b' 80 79 1,l 81 80,g 82 .eql (v 81) (k 0),e 2 82]) .ret) (Q (R [g 84 .eql (v 76) (k 2),e 83 84]) (F (v 83) (Q (R [f 85 1 3,b' 86 85 1,l 87 86,g 88 .eql (v 87) (k 0),a 89 88,h 89 true 90 (fld 90 (v 1) 2),h 89 true 91 (ld 91 (v 90) 1 false),h 89 true 92 (bin 92 .leq (v 91) (k 1)),p 93 89 (v 92) k0,e 2 93]) .ret) .skip)))))) (Q (R [e' 2 k0]) .ret)))))
def sB:Cmd:=Q (R [n 2 (box 2 (v 0)),e' 3 k0]) (Q (R [f 4 2 0,b' 5 4 1,b' 6 1 1,g 7 .eql (v 5) (v 6),e 3 7]) .ret)
def q0:Cmd:=Q (R [n 2 (box 2 (v 0)),z 4 [.int .i64 0,.int .i64 0,.int .i64 0,.sl 1 [],.sl 2 [],.sl 2 []],e' 5 k0]) (Q (R [b 7 2 2,a 8 1,c 9 109 [v 7,v 8],e 6 9]) (Q (Q (R [a 10 6,g 11 .lss (v 10) (k 0)]) (F (v 11) (Q (R [n 12 (bld 12 [.int .i64 0,.int .i64 0,.int .i64 0,.sl 1 [],.sl 2 [],.sl 2 []] []),s 4 12 6,e' 5 k0]) .ret) .skip)) (Q (R [f 13 2 0,b' 14 13 1,a 15 6,i 16 14 15 6,b 17 16 6,c 18 140 [v 17],s 4 18 6,e' 5 k1]) .ret)))
def acI:Cmd:=Q (R [e' 4 (.c (.str []))]) (Q (R [a 5 1,a 6 0,a 7 1,l 8 7,c 9 101 [v 6,v 8],i 10 5 9 1,b' 11 10 1,e 4 11]) .ret)
def aae:Cmd:=Q (R [e' 2 k0]) (Q (Q (R [e' 3 (k 0)]) (.blk 0 (.loop (Q (Q (R [a 5 3,a 6 0,n 7 (lens 7 (v 6)),g 8 .lss (v 5) (v 7)]) (F (v 8) .skip (.exit 0))) (Q (.blk 1 (Q (R [a 11 0,a 12 3,n 13 (sidx 13 (v 11) (v 12)),n 14 (conv 14 .i64 (v 13)),e 4 14]) (Q (R [a 15 4,c 16 158 [v 15,k 97,k 122],n 17 (un 17 .not (v 16)),a 18 17,ha 18 true 19 4,hc 18 true 20 158 [v 19,k 48,k 57],h 18 true 21 (un 21 .not (v 20)),p 22 18 (v 21) k0,a 23 22,ha 23 true 24 4,h 23 true 25 (bin 25 .neq (v 24) (k 95)),p 26 23 (v 25) k0,a 27 26,ha 27 true 28 4,h 27 true 29 (bin 29 .neq (v 28) (k 45)),p 30 27 (v 29) k0,a 31 30,ha 31 true 32 4,h 31 true 33 (bin 33 .neq (v 32) (k 46)),p 34 31 (v 33) k0]) (F (v 34) (Q (R [e' 2 k0]) .ret) .skip)))) (R [a 9 3,g 10 .add (v 9) (k 1),e 3 10])))))) (Q (R [a 35 0,n 36 (lens 36 (v 35)),c 37 158 [v 36,k 1,k 14],a 38 37,ha 38 true 39 0,h 38 true 40 (bin 40 .neq (v 39) (.c (.str [46]))),p 41 38 (v 40) k0,a 42 41,ha 42 true 43 0,h 42 true 44 (bin 44 .neq (v 43) (.c (.str [46,46]))),p 45 42 (v 44) k0,e 2 45]) .ret))
def acJ:Cmd:=Q (R [n 2 (box 2 (v 0)),e' 4 (k 0)]) (Q (Q (R [e' 5 (k 0)]) (.blk 0 (.loop (Q (Q (R [a 6 5,f 7 2 4,b' 8 7 1,l 9 8,g 10 .lss (v 6) (v 9)]) (F (v 10) .skip (.exit 0))) (Q (.blk 1 (Q (R [f 13 2 4,b' 14 13 1,a 15 5,i 16 14 15 2,f 17 16 0,b' 18 17 1,a 19 1,g 20 .eql (v 18) (v 19)]) (F (v 20) (Q (R [f 21 2 4,b' 22 21 1,a 23 5,i 24 22 23 2,f 25 24 1,b' 26 25 1,e 4 26]) .ret) .skip))) (R [a 11 5,g 12 .add (v 11) (k 1),e 5 12])))))) (Q (R [e' 4 (k 0)]) .ret))
def aaf:Cmd:=Q (R [n 2 (box 2 (v 0)),e' 4 (k 0),e' 5 (k 0)]) (Q (R [e' 6 (k 1)]) (Q (Q (R [e' 7 (k 0)]) (.blk 0 (.loop (Q (Q (R [a 9 7,a 10 1,l 11 10,g 12 .lss (v 9) (v 11)]) (F (v 12) .skip (.exit 0))) (Q (.blk 1 (Q (R [b 15 2 2,a 16 6,c 17 109 [v 15,v 16],e 8 17]) (Q (Q (R [a 18 8,g 19 .lss (v 18) (k 0)]) (F (v 19) (Q (R [e' 4 (k 0),e' 5 (k 2)]) .ret) .skip)) (Q (Q (R [f 20 2 0,b' 21 20 1,a 22 8,i 23 21 22 6,f 24 23 1,b' 25 24 1,g 26 .neq (v 25) (k 2)]) (F (v 26) (Q (R [e' 4 (k 0),e' 5 (k 3)]) .ret) .skip)) (Q (D [0,1,0,7,15,0,0,96,224,511,1023] [f 27 2 0,b' 28 27 1,a 29 8,i 30 28 29 6,b 31 30 6,a 32 1,a 33 7,i 34 32 33 1,b' 35 34 1,c 36 151 [v 31,v 35],e 6 36]) (Q (R [a 37 6,g 38 .eql (v 37) (k 0)]) (F (v 38) (Q (R [e' 4 (k 0),e' 5 (k 2)]) .ret) .skip))))))) (R [a 13 7,g 14 .add (v 13) (k 1),e 7 14])))))) (Q (R [a 39 6,e 4 39,e' 5 (k 0)]) .ret)))
def acK:Cmd:=Q (R [e' 4 (k 0)]) (Q (R [a 5 1,a 6 0,a 7 1,l 8 7,c 9 101 [v 6,v 8],i 10 5 9 1,b' 11 10 1,e 4 11]) .ret)
def iQ:Cmd:=Q (R [z 2 [.int .i64 0,.int .i64 0,.int .i64 0,.sl 1 [],.sl 2 [],.sl 2 []]]) (Q (R [a 4 0,c 5 199 [v 4],z 3 [.int .i64 0,.int .i64 0,.int .i64 0,.sl 1 [],.sl 2 [],.sl 2 []],s 3 5 6]) (Q (Q (R [a 6 0,c 7 101 [v 6,k 14]]) (.blk 0 (Q (R [g 9 .eql (v 7) (k 0),e 8 9]) (F (v 8) (R [a 10 0,o 11 1 [k 0,k 1,k 1000,k 1001],c 12 153 [v 10,v 11],f 13 3 0,s 13 12 1]) (Q (R [g 15 .eql (v 7) (k 1),e 14 15]) (F (v 14) (R [a 16 0,c 17 101 [v 16,k 4],f 18 3 1,s 18 17 1]) (Q (R [g 20 .eql (v 7) (k 2),e 19 20]) (F (v 19) (R [a 21 0,o 22 1 [k (-1),k 0,k 2,k 1001],c 23 153 [v 21,v 22],f 24 3 2,s 24 23 1]) (Q (R [g 26 .eql (v 7) (k 3),e 25 26]) (F (v 25) (R [f 27 3 3,b' 28 27 1,o 29 1 [.c (.int .u8 1)],n 30 (app 30 (v 28) (v 29) 1 1),f 31 3 3,s 31 30 1]) (Q (R [g 33 .eql (v 7) (k 4),e 32 33]) (F (v 32) (D [0,1,0,0,12,0,0,124,252,508,1023,2047,4095] [f 34 3 4,b' 35 34 1,a 36 0,o 37 1 [.c (.str [97]),.c (.str [122]),.c (.str []),.c (.str [90])],c 38 149 [v 36,v 37],a 39 0,o 40 1 [k 1,k 2,k 1000,k 1001],c 41 153 [v 39,v 40],n 42 (bld 42 [.str [],.int .i64 0] [(0,1,v 38),(1,1,v 41)]),o 43 2 [v 42],n 44 (app 44 (v 35) (v 43) 2 24),f 45 3 4,s 45 44 1]) (Q (R [g 47 .eql (v 7) (k 5),e 46 47]) (F (v 46) (D [0,1,0,0,12,0,60,124,252,508,1020,2044,4095,8191,16383] [f 48 3 5,b' 49 48 1,a 50 0,o 51 1 [.c (.str [97]),.c (.str [122]),.c (.str [])],c 52 149 [v 50,v 51],a 53 0,c 54 101 [v 53,k 3],g 55 .add (k 15) (v 54),n 56 (mks 56 (v 55) (v 55) 1 1 [.int .u8 0]),n 57 (b2s 57 (v 56)),n 58 (bld 58 [.str [],.str []] [(0,1,v 52),(1,1,v 57)]),o 59 2 [v 58],n 60 (app 60 (v 49) (v 59) 2 32),f 61 3 5,s 61 60 1]) .skip)))))))))))))) (Q (R [b 62 3 6,s 2 62 6]) .ret)))
def tR:Cmd:=Q (R [e' 2 (k 0)]) (Q (R [a 4 0,a 5 0,n 6 (nck 6 (v 5)),f 7 6 2,b' 8 7 1,g 9 .mul (v 8) (k 6364136223846793005),g 10 .add (v 9) (k 1442695040888963407),n 11 (nck 11 (v 4)),f 12 11 2,s 12 10 1]) (Q (D [0,1,3,7,15,0,32,96,224,480,1023,2047,4095] [a 13 0,n 14 (nck 14 (v 13)),f 15 14 2,b' 16 15 1,g 17 .shr (v 16) (.c (.int .u64 33)),a 18 0,n 19 (nck 19 (v 18)),f 20 19 2,b' 21 20 1,g 22 .shr (v 21) (.c (.int .u64 47)),g 23 .xor (v 17) (v 22),g 24 .and (v 23) (k 255),e 3 24]) (Q (Q (D [0,1,3,7,0,16,48,112,240,511] [a 25 0,n 26 (nck 26 (v 25)),f 27 26 1,b' 28 27 1,a 29 0,n 30 (nck 30 (v 29)),f 31 30 0,b' 32 31 1,l 33 32,g 34 .lss (v 28) (v 33)]) (F (v 34) (Q (D [0,0,2,6,14,0,32,96,224,510,1022,2046,4095,8191,16383] [a 35 3,a 36 0,n 37 (nck 37 (v 36)),f 38 37 0,b' 39 38 1,a 40 0,n 41 (nck 41 (v 40)),f 42 41 1,b' 43 42 1,i 44 39 43 1,b' 45 44 1,n 46 (conv 46 .i64 (v 45)),g 47 .add (v 35) (v 46),g 48 .and (v 47) (k 255),e 3 48]) (R [a 49 0,a 50 0,n 51 (nck 51 (v 50)),f 52 51 1,b' 53 52 1,g 54 .add (v 53) (k 1),n 55 (nck 55 (v 49)),f 56 55 1,s 56 54 1])) .skip)) (Q (R [a 57 3,e 2 57]) .ret))))
def abk:Cmd:=Q (R [e' 6 k0]) (Q (R [a 7 0,a 8 1,g 9 .geq (v 7) (v 8),a 10 9,ha 10 true 11 0,ha 10 true 12 2,h 10 true 13 (bin 13 .leq (v 11) (v 12)),p 14 10 (v 13) k0,e 6 14]) .ret)
def xD:Cmd:=Q (R [n 1 (box 1 (v 0)),e' 2 k0]) (Q (Q (R [f 3 1 0,b' 4 3 1,c 5 158 [v 4,k 1,k 1000],n 6 (un 6 .not (v 5)),a 7 6,h 7 false 8 (fld 8 (v 1) 2),h 7 false 9 (ld 9 (v 8) 1 false),hc 7 false 10 158 [v 9,k 0,k 1000],h 7 false 11 (un 11 .not (v 10)),p 12 7 k1 (v 11),a 13 12,h 13 false 14 (fld 14 (v 1) 2),h 13 false 15 (ld 15 (v 14) 1 false),h 13 false 16 (bin 16 .eql (v 15) (k 0)),h 13 false 17 (fld 17 (v 1) 0),h 13 false 18 (ld 18 (v 17) 1 false),h 13 false 19 (bin 19 .eql (v 18) (k 1)),h 13 false 20 (beq 20 true (v 16) (v 19)),p 21 13 k1 (v 20),a 22 21,h 22 false 23 (fld 23 (v 1) 3),h 22 false 24 (ld 24 (v 23) 1 false),h 22 false 25 (len 25 (v 24)),h 22 false 26 (bin 26 .gtr (v 25) (k 100)),p 27 22 k1 (v 26),a 28 27,h 28 false 29 (fld 29 (v 1) 4),h 28 false 30 (ld 30 (v 29) 1 false),hc 28 false 31 201 [v 30],h 28 false 32 (un 32 .not (v 31)),p 33 28 k1 (v 32),a 34 33,h 34 false 35 (fld 35 (v 1) 5),h 34 false 36 (ld 36 (v 35) 1 false),hc 34 false 37 202 [v 36],h 34 false 38 (un 38 .not (v 37)),p 39 34 k1 (v 38)]) (F (v 39) (Q (R [e' 2 k0]) .ret) .skip)) (Q (Q (R [f 40 1 1,b' 41 40 1]) (.blk 0 (Q (R [g 43 .eql (v 41) (k 1),e 42 43]) (F (v 42) (Q (R [f 44 1 4,b' 45 44 1,l 46 45,g 47 .eql (v 46) (k 0),e 2 47]) .ret) (Q (R [g 49 .eql (v 41) (k 2),e 48 49]) (F (v 48) (Q (R [f 50 1 3,b' 51 50 1,l 52 51,g 53 .eql (v 52) (k 0),a 54 53,h 54 true 55 (fld 55 (v 1) 2),h 54 true 56 (ld 56 (v 55) 1 false),h 54 true 57 (bin 57 .leq (v 56) (k 1)),p 58 54 (v 57) k0,e 2 58]) .ret) .skip)))))) (Q (R [e' 2 k0]) .ret)))
def sC:Cmd:=Q (R [e' 4 (k 0)]) (Q (Q (R [a 6 0,l 7 6,n 8 (mov 8 (k 0))]) (.blk 0 (.loop (Q (R [g 9 .lss (v 8) (v 7)]) (Q (F (v 9) .skip (.exit 0)) (Q (.blk 1 (Q (R [a 10 8,e 5 10]) (Q (R [a 11 1,a 12 0,a 13 5,i 14 12 13 1,b' 15 14 1,g 16 .eql (v 11) (v 15)]) (F (v 16) (Q (R [a 17 5,e 4 17]) .ret) .skip)))) (R [g 18 .add (v 8) (k 1),a 8 18]))))))) (Q (R [e' 4 (k (-1))]) .ret))
def xE:Cmd:=Q (R [e' 4 (.c (.own 1 []))]) (Q (Q (R [a 7 0,a 8 1,c 9 212 [v 7,v 8]]) (F (v 9) (Q (R [a 10 0,e 4 10]) .ret) .skip)) (Q (R [o 11 1 [],a 12 0,n 13 (app 13 (v 11) (v 12) 1 8),a 14 1,o 15 1 [v 14],n 16 (app 16 (v 13) (v 15) 1 8),e 5 16]) (Q (R [a 17 5,l 18 17,g 19 .sub (v 18) (k 1),e 6 19]) (Q (.blk 0 (.loop (Q (Q (R [a 20 6,g 21 .gtr (v 20) (k 0),a 22 21,ha 22 true 23 5,ha 22 true 24 6,h 22 true 25 (bin 25 .sub (v 24) (k 1)),h 22 true 26 (idx 26 (v 23) (v 25) 1),h 22 true 27 (ld 27 (v 26) 1 false),ha 22 true 28 1,h 22 true 29 (bin 29 .gtr (v 27) (v 28)),p 30 22 (v 29) k0]) (F (v 30) .skip (.exit 0))) (.blk 1 (Q (R [a 31 5,a 32 6,a 33 5,a 34 6,g 35 .sub (v 34) (k 1),i 36 33 35 1,b' 37 36 1,i 38 31 32 1,s 38 37 1]) (R [a 39 6,g 40 .sub (v 39) (k 1),e 6 40])))))) (Q (R [a 41 5,a 42 6,a 43 1,i 44 41 42 1,s 44 43 1]) (Q (R [a 45 5,e 4 45]) .ret))))))
def fY:Cmd:=Q (R [n 4 (box 4 (v 0)),z 8 [.sl 6 [],.int .i64 0],e' 9 (k 0)]) (Q (R [a 16 1,c 17 91 [v 16],a 15 17,x 18 15 0,x 19 15 1,e 10 18,e 11 19]) (Q (Q (R [b 20 4 2,c 21 46 [v 20],n 22 (un 22 .not (v 21)),a 23 22,ha 23 false 24 11,h 23 false 25 (un 25 .not (v 24)),p 26 23 k1 (v 25),a 27 26,ha 27 false 28 2,hc 27 false 29 158 [v 28,k 0,k 100],h 27 false 30 (un 30 .not (v 29)),p 31 27 k1 (v 30)]) (F (v 31) (Q (R [b 32 4 2,c 33 76 [v 32],s 8 33 2,e' 9 (k 1)]) .ret) .skip)) (Q (R [b 35 4 2,a 36 1,c 37 77 [v 35,v 36],a 34 37,x 38 34 0,x 39 34 1,z 12 [.int .i64 0,.int .i64 0,.int .i64 0,.sl 1 [],.sl 2 [],.sl 2 []],s 12 38 6,e 13 39]) (Q (Q (R [a 40 13,g 41 .eql (v 40) (k 0),a 42 41,ha 42 true 43 3,h 42 true 44 (len 44 (v 43)),ha 42 true 45 2,h 42 true 46 (bin 46 .sub (k 100) (v 45)),h 42 true 47 (bin 47 .gtr (v 44) (v 46)),p 48 42 (v 47) k0]) (F (v 48) (R [e' 13 (k 5)]) .skip)) (Q (Q (R [a 49 13,g 50 .neq (v 49) (k 0)]) (F (v 50) (Q (R [b 51 4 2,c 52 76 [v 51],a 53 13,s 8 52 2,e 9 53]) .ret) .skip)) (Q (.blk 0 (.loop (Q (Q (R [f 54 12 3,b' 55 54 1,l 56 55,a 57 2,a 58 3,l 59 58,g 60 .add (v 57) (v 59),g 61 .lss (v 56) (v 60)]) (F (v 61) .skip (.exit 0))) (.blk 1 (R [f 62 12 3,b' 63 62 1,o 64 1 [.c (.int .u8 0)],n 65 (app 65 (v 63) (v 64) 1 1),f 66 12 3,s 66 65 1]))))) (Q (Q (R [e' 14 (k 0)]) (.blk 2 (.loop (Q (Q (R [a 67 14,a 68 3,l 69 68,g 70 .lss (v 67) (v 69)]) (F (v 70) .skip (.exit 2))) (Q (.blk 3 (D [0,1,0,0,12,0,0,96,224,511,1023] [f 73 12 3,b' 74 73 1,a 75 2,a 76 14,g 77 .add (v 75) (v 76),a 78 3,a 79 14,i 80 78 79 1,b' 81 80 1,i 82 74 77 1,s 82 81 1])) (R [a 71 14,g 72 .add (v 71) (k 1),e 14 72])))))) (Q (R [b 83 4 2,b 84 12 6,c 85 80 [v 83,v 84],s 8 85 2,e' 9 (k 0)]) .ret))))))))
def aag:Cmd:=Q (R [e' 2 (.c (.own 1 []))]) (Q (R [a 3 0,a 4 0,o 5 1 [k 0,k 1,k 2,k 5,k 9],c 6 153 [v 4,v 5],c 7 223 [v 3,v 6],e 2 7]) .ret)
def gA:Cmd:=Q (R [n 3 (box 3 (v 0)),z 6 [.sl 6 [],.int .i64 0],e' 7 (k 0)]) (Q (R [a 13 1,c 14 91 [v 13],a 12 14,x 15 12 0,x 16 12 1,e 8 15,e 9 16]) (Q (Q (R [b 17 3 2,c 18 46 [v 17],n 19 (un 19 .not (v 18)),a 20 19,ha 20 false 21 9,h 20 false 22 (un 22 .not (v 21)),p 23 20 k1 (v 22),a 24 23,ha 24 false 25 2,hc 24 false 26 158 [v 25,k 0,k 100],h 24 false 27 (un 27 .not (v 26)),p 28 24 k1 (v 27)]) (F (v 28) (Q (R [b 29 3 2,c 30 76 [v 29],s 6 30 2,e' 7 (k 1)]) .ret) .skip)) (Q (R [b 32 3 2,a 33 1,c 34 77 [v 32,v 33],a 31 34,x 35 31 0,x 36 31 1,z 10 [.int .i64 0,.int .i64 0,.int .i64 0,.sl 1 [],.sl 2 [],.sl 2 []],s 10 35 6,e 11 36]) (Q (Q (R [a 37 11,g 38 .neq (v 37) (k 0)]) (F (v 38) (Q (R [b 39 3 2,c 40 76 [v 39],a 41 11,s 6 40 2,e 7 41]) .ret) .skip)) (Q (.blk 0 (.loop (Q (Q (R [f 42 10 3,b' 43 42 1,l 44 43,a 45 2,g 46 .lss (v 44) (v 45)]) (F (v 46) .skip (.exit 0))) (.blk 1 (R [f 47 10 3,b' 48 47 1,o 49 1 [.c (.int .u8 0)],n 50 (app 50 (v 48) (v 49) 1 1),f 51 10 3,s 51 50 1]))))) (Q (R [f 52 10 3,b' 53 52 1,a 54 2,n 55 (slc 55 (v 53) none (some (v 54)) 1),f 56 10 3,s 56 55 1]) (Q (R [b 57 3 2,b 58 10 6,c 59 80 [v 57,v 58],s 6 59 2,e' 7 (k 0)]) .ret)))))))
def fZ:Cmd:=Q (R [n 4 (box 4 (v 0)),z 8 [.sl 6 [],.int .i64 0],e' 9 (k 0)]) (Q (R [a 17 1,c 18 91 [v 17],a 16 18,x 19 16 0,x 20 16 1,e 10 19,e 11 20]) (Q (Q (R [b 21 4 2,c 22 46 [v 21],n 23 (un 23 .not (v 22)),a 24 23,ha 24 false 25 11,h 24 false 26 (un 26 .not (v 25)),p 27 24 k1 (v 26),a 28 27,ha 28 false 29 2,hc 28 false 30 150 [v 29],h 28 false 31 (un 31 .not (v 30)),p 32 28 k1 (v 31),a 33 32,ha 33 false 34 3,h 33 false 35 (lens 35 (v 34)),h 33 false 36 (bin 36 .gtr (v 35) (k 16)),p 37 33 k1 (v 36)]) (F (v 37) (Q (R [b 38 4 2,c 39 76 [v 38],s 8 39 2,e' 9 (k 1)]) .ret) .skip)) (Q (R [b 41 4 2,a 42 1,c 43 88 [v 41,v 42],a 40 43,x 44 40 0,x 45 40 1,z 12 [.int .i64 0,.int .i64 0,.int .i64 0,.sl 1 [],.sl 2 [],.sl 2 []],s 12 44 6,e 13 45]) (Q (Q (R [a 46 13,g 47 .neq (v 46) (k 0)]) (F (v 47) (Q (R [b 48 4 2,c 49 76 [v 48],a 50 13,s 8 49 2,e 9 50]) .ret) .skip)) (Q (R [o 51 2 [],e 14 51]) (Q (Q (R [e' 15 (k 0)]) (.blk 0 (.loop (Q (Q (R [a 52 15,f 53 12 5,b' 54 53 1,l 55 54,g 56 .lss (v 52) (v 55)]) (F (v 56) .skip (.exit 0))) (Q (.blk 1 (Q (R [f 59 12 5,b' 60 59 1,a 61 15,i 62 60 61 2,f 63 62 0,b' 64 63 1,a 65 2,g 66 .neq (v 64) (v 65)]) (F (v 66) (R [a 67 14,f 68 12 5,b' 69 68 1,a 70 15,i 71 69 70 2,b 72 71 2,o 73 2 [v 72],n 74 (app 74 (v 67) (v 73) 2 32),e 14 74]) .skip))) (R [a 57 15,g 58 .add (v 57) (k 1),e 15 58])))))) (Q (Q (R [a 75 3,g 76 .eql (v 75) (.c (.str []))]) (F (v 76) (Q (R [a 77 14,f 78 12 5,s 78 77 1]) (Q (R [b 79 4 2,b 80 12 6,c 81 80 [v 79,v 80],s 8 81 2,e' 9 (k 0)]) .ret)) .skip)) (Q (Q (R [a 82 14,l 83 82,g 84 .geq (v 83) (k 4)]) (F (v 84) (Q (R [b 85 4 2,c 86 76 [v 85],s 8 86 2,e' 9 (k 5)]) .ret) .skip)) (Q (R [a 87 14,a 88 2,a 89 3,n 90 (bld 90 [.str [],.str []] [(0,1,v 88),(1,1,v 89)]),c 91 224 [v 87,v 90],f 92 12 5,s 92 91 1]) (Q (R [b 93 4 2,b 94 12 6,c 95 80 [v 93,v 94],s 8 95 2,e' 9 (k 0)]) .ret))))))))))
def xF:Cmd:=Q (R [n 4 (box 4 (v 0))]) (Q (R [b 13 4 2,a 14 1,c 15 148 [v 13,v 14],a 12 15,x 16 12 0,x 17 12 1,z 8 [.int .i64 0,.int .i64 0,.int .i64 0,.sl 1 [],.sl 2 [],.sl 2 []],s 8 16 6,e 9 17]) (Q (R [e' 10 (k 0)]) (.blk 0 (.loop (Q (Q (R [a 18 10,f 19 8 4,b' 20 19 1,l 21 20,g 22 .lss (v 18) (v 21)]) (F (v 22) .skip (.exit 0))) (Q (.blk 1 (Q (R [a 25 2,g 26 .add (v 25) (.c (.str [47])),f 27 8 4,b' 28 27 1,a 29 10,i 30 28 29 2,f 31 30 0,b' 32 31 1,g 33 .add (v 26) (v 32),e 11 33]) (Q (R [a 34 3,a 35 3,n 36 (nck 36 (v 35)),b' 37 36 1,a 38 11,o 39 1 [v 38],n 40 (app 40 (v 37) (v 39) 1 16),n 41 (nck 41 (v 34)),s 41 40 1]) (D [0,0,2,0,14,30,62,0,0,511] [b 42 4 2,f 43 8 4,b' 44 43 1,a 45 10,i 46 44 45 2,f 47 46 1,b' 48 47 1,a 49 11,a 50 3,c 51 176 [v 42,v 48,v 49,v 50]])))) (R [a 23 10,g 24 .add (v 23) (k 1),e 10 24])))))))
def aah:Cmd:=Q (R [e' 2 (.c (.own 1 []))]) (Q (R [o 7 1 [],a 8 0,n 9 (app 9 (v 7) (v 8) 1 16),e 3 9]) (Q (Q (R [e' 4 (k 1)]) (.blk 0 (.loop (Q (Q (R [a 10 4,a 11 3,l 12 11,g 13 .lss (v 10) (v 12)]) (F (v 13) .skip (.exit 0))) (Q (.blk 1 (Q (R [a 16 3,a 17 4,i 18 16 17 1,b' 19 18 1,e 5 19]) (Q (R [a 20 4,e 6 20]) (Q (.blk 2 (.loop (Q (Q (R [a 21 6,g 22 .gtr (v 21) (k 0),a 23 22,ha 23 true 24 3,ha 23 true 25 6,h 23 true 26 (bin 26 .sub (v 25) (k 1)),h 23 true 27 (idx 27 (v 24) (v 26) 1),h 23 true 28 (ld 28 (v 27) 1 false),ha 23 true 29 5,h 23 true 30 (bin 30 .gtr (v 28) (v 29)),p 31 23 (v 30) k0]) (F (v 31) .skip (.exit 2))) (.blk 3 (Q (R [a 32 3,a 33 6,a 34 3,a 35 6,g 36 .sub (v 35) (k 1),i 37 34 36 1,b' 38 37 1,i 39 32 33 1,s 39 38 1]) (R [a 40 6,g 41 .sub (v 40) (k 1),e 6 41])))))) (R [a 42 3,a 43 6,a 44 5,i 45 42 43 1,s 45 44 1]))))) (R [a 14 4,g 15 .add (v 14) (k 1),e 4 15])))))) (Q (R [a 46 3,e 2 46]) .ret)))
def l7:Cmd:=Q (R [e' 2 (.c (.own 2 []))]) (Q (Q (R [a 3 0,n 4 (isn 4 false (v 3) (.c (.own 2 [])))]) (F (v 4) (Q (R [e' 2 (.c (.own 2 []))]) .ret) .skip)) (Q (R [o 5 2 [],a 6 0,n 7 (app 7 (v 5) (v 6) 2 32),e 2 7]) .ret))
def oW:Cmd:=Q (R [e' 2 (.c (.str []))]) (Q (Q (R [a 3 0,c 4 143 [v 3],n 5 (un 5 .not (v 4))]) (F (v 5) (Q (R [e' 2 (.c (.str []))]) .ret) .skip)) (Q (R [a 6 0,c 7 225 [v 6,.c (.str [47])],g 8 .add (.c (.str [47])) (v 7),e 2 8]) .ret))
def uN:Cmd:=Q (R [e' 8 (.c (.own 1 []))]) (Q (Q (R [a 12 3,g 13 .eql (v 12) (k 0)]) (F (v 13) (Q (R [e' 8 (.c (.own 1 []))]) .ret) .skip)) (Q (Q (R [a 14 1,g 15 .eql (v 14) (.c (.str []))]) (F (v 15) (Q (R [a 16 0,a 17 3,c 18 228 [v 16,v 17],e 8 18]) .ret) .skip)) (Q (Q (R [a 19 3,g 20 .lss (v 19) (k 0)]) (F (v 20) (R [a 21 0,a 22 1,c 23 229 [v 21,v 22],g 24 .add (v 23) (k 1),e 3 24]) .skip)) (Q (R [a 25 3,a 26 0,n 27 (lens 27 (v 26)),g 28 .add (v 27) (k 1),n 29 (mn 29 (v 25) (v 28)),e 3 29]) (Q (R [a 30 3,n 31 (mks 31 (v 30) (v 30) 1 16 [.str []]),e 9 31]) (Q (R [a 32 3,g 33 .sub (v 32) (k 1),e 3 33]) (Q (R [e' 10 (k 0)]) (Q (.blk 0 (.loop (Q (Q (R [a 34 10,a 35 3,g 36 .lss (v 34) (v 35)]) (F (v 36) .skip (.exit 0))) (.blk 1 (Q (R [a 37 0,a 38 1,c 39 230 [v 37,v 38],e 11 39]) (Q (Q (R [a 40 11,g 41 .lss (v 40) (k 0)]) (F (v 41) (.exit 0) .skip)) (Q (R [a 42 9,a 43 10,a 44 0,a 45 11,a 46 2,g 47 .add (v 45) (v 46),n 48 (sls 48 (v 44) none (some (v 47))),i 49 42 43 1,s 49 48 1]) (Q (R [a 50 0,a 51 11,a 52 1,n 53 (lens 53 (v 52)),g 54 .add (v 51) (v 53),n 55 (sls 55 (v 50) (some (v 54)) none),e 0 55]) (R [a 56 10,g 57 .add (v 56) (k 1),e 10 57]))))))))) (Q (R [a 58 9,a 59 10,a 60 0,i 61 58 59 1,s 61 60 1]) (Q (R [a 62 9,a 63 10,g 64 .add (v 63) (k 1),n 65 (slc 65 (v 62) none (some (v 64)) 1),e 8 65]) .ret))))))))))
def eH:Cmd:=Q (R [e' 4 k0]) (Q (R [a 5 0,a 6 1,c 7 231 [v 5,v 6],g 8 .geq (v 7) (k 0),e 4 8]) .ret)
def sD:Cmd:=Q (R [e' 2 k0]) (Q (R [a 3 0,c 4 102 [v 3],n 5 (un 5 .not (v 4)),e 2 5]) .ret)
def xG:Cmd:=Q (R [e' 2 k0]) (Q (Q (R [a 5 0,l 6 5,n 7 (mov 7 (k 0))]) (.blk 0 (.loop (Q (R [g 8 .lss (v 7) (v 6)]) (Q (F (v 8) .skip (.exit 0)) (Q (.blk 1 (Q (R [a 9 7,i 10 5 7 2,b 11 10 2,z 4 [.str [],.str []],e 3 9,s 4 11 2]) (Q (D [0,1,3,7,15,31,63,127,255,511,1023,2047,4095,8191,16383,32767,32767,98303,262143,524287,1048575,32767,2129919,8388607,16777215,33554431] [f 12 4 0,b' 13 12 1,c 14 102 [v 13],n 15 (un 15 .not (v 14)),a 16 15,h 16 false 17 (fld 17 (v 4) 1),h 16 false 18 (ld 18 (v 17) 1 false),h 16 false 19 (lens 19 (v 18)),hc 16 false 20 94 [v 19,k 1,k 16],h 16 false 21 (un 21 .not (v 20)),p 22 16 k1 (v 21),a 23 22,ha 23 false 24 3,h 23 false 25 (bin 25 .gtr (v 24) (k 0)),ha 23 false 26 25,ha 26 true 27 0,ha 26 true 28 3,h 26 true 29 (bin 29 .sub (v 28) (k 1)),h 26 true 30 (idx 30 (v 27) (v 29) 2),h 26 true 31 (fld 31 (v 30) 0),h 26 true 32 (ld 32 (v 31) 1 false),h 26 true 33 (fld 33 (v 4) 0),h 26 true 34 (ld 34 (v 33) 1 false),h 26 true 35 (bin 35 .geq (v 32) (v 34)),h 23 false 36 (pck 36 (v 26) (v 35) k0),p 37 23 k1 (v 36)]) (F (v 37) (Q (R [e' 2 k0]) .ret) .skip)))) (R [g 38 .add (v 7) (k 1),a 7 38]))))))) (Q (R [a 39 0,l 40 39,g 41 .leq (v 40) (k 4),e 2 41]) .ret))
def tS:Cmd:=Q (R [z 2 [.int .i64 0,.int .i64 0,.int .i64 0,.sl 1 [],.sl 2 [],.sl 2 []]]) (Q (R [a 7 0,c 8 101 [v 7,k 6],g 9 .add (k 2) (v 8),a 10 0,c 11 101 [v 10,k 2],g 12 .add (k 1) (v 11),n 13 (bld 13 [.int .i64 0,.int .i64 0,.int .i64 0,.sl 1 [],.sl 2 [],.sl 2 []] [(0,1,v 9),(1,1,v 12),(2,1,k 1)]),z 3 [.int .i64 0,.int .i64 0,.int .i64 0,.sl 1 [],.sl 2 [],.sl 2 []],s 3 13 6]) (Q (R [o 14 1 [.c (.str [97]),.c (.str [98]),.c (.str [99]),.c (.str [100,46,116,120,116])],e 4 14]) (Q (Q (R [f 15 3 1,b' 16 15 1,g 17 .eql (v 16) (k 1)]) (F (v 17) (Q (R [a 18 0,a 19 0,o 20 1 [k 0,k 1,k 5,k 20,k 100],c 21 153 [v 19,v 20],c 22 223 [v 18,v 21],f 23 3 3,s 23 22 1]) (R [a 24 0,c 25 101 [v 24,k 2],g 26 .add (k 1) (v 25),f 27 3 2,s 27 26 1])) (Q (R [e' 5 (k 0)]) (.blk 0 (.loop (Q (Q (R [a 28 5,g 29 .lss (v 28) (k 4)]) (F (v 29) .skip (.exit 0))) (Q (.blk 1 (Q (R [a 32 0,c 33 96 [v 32,k 2]]) (F (v 33) (D [0,1,0,0,12,28,0,64,192,508,1020,2047,4095,8191] [f 34 3 4,b' 35 34 1,a 36 4,a 37 5,i 38 36 37 1,b' 39 38 1,a 40 0,c 41 101 [v 40,k 8],g 42 .add (k 2) (v 41),n 43 (bld 43 [.str [],.int .i64 0] [(0,1,v 39),(1,1,v 42)]),o 44 2 [v 43],n 45 (app 45 (v 35) (v 44) 2 24),f 46 3 4,s 46 45 1]) .skip))) (R [a 30 5,g 31 .add (v 30) (k 1),e 5 31])))))))) (Q (Q (R [e' 6 (k 0)]) (.blk 2 (.loop (Q (Q (R [a 47 6,g 48 .lss (v 47) (k 2)]) (F (v 48) .skip (.exit 2))) (Q (.blk 3 (Q (R [a 51 0,c 52 96 [v 51,k 3]]) (F (v 52) (D [0,1,0,0,12,28,0,0,192,508,1020,2047,4095,8191] [f 53 3 5,b' 54 53 1,a 55 4,a 56 6,i 57 55 56 1,b' 58 57 1,a 59 0,o 60 1 [.c (.str [120]),.c (.str [118,97,108,117,101]),.c (.str [115,105,120,116,101,101,110,98,121,116,101,115,120,120,120,120])],c 61 149 [v 59,v 60],n 62 (bld 62 [.str [],.str []] [(0,1,v 58),(1,1,v 61)]),o 63 2 [v 62],n 64 (app 64 (v 54) (v 63) 2 32),f 65 3 5,s 65 64 1]) .skip))) (R [a 49 6,g 50 .add (v 49) (k 1),e 6 50])))))) (Q (R [b 66 3 6,s 2 66 6]) .ret)))))
def aai:Cmd:=Q (R [e' 2 k0]) (Q (Q (R [e' 3 (k 0)]) (.blk 0 (.loop (Q (Q (R [a 4 3,a 5 0,l 6 5,g 7 .lss (v 4) (v 6)]) (F (v 7) .skip (.exit 0))) (Q (.blk 1 (Q (D [0,0,3,7,15,31,63,127,255,255,1023,2047,4095,8191,16383,32767,65535,131071,262143,524287,1048575,1048575,3145727,8388607,16777215,33554431,1048575,1048575,202375167,470810623,1007681535,2147483647,4294967295,8589934591] [a 10 0,a 11 3,i 12 10 11 2,f 13 12 0,b' 14 13 1,c 15 150 [v 14],n 16 (un 16 .not (v 15)),a 17 16,ha 17 false 18 0,ha 17 false 19 3,h 17 false 20 (idx 20 (v 18) (v 19) 2),h 17 false 21 (fld 21 (v 20) 1),h 17 false 22 (ld 22 (v 21) 1 false),hc 17 false 23 158 [v 22,k 2,k 1000],h 17 false 24 (un 24 .not (v 23)),p 25 17 k1 (v 24),a 26 25,ha 26 false 27 3,h 26 false 28 (bin 28 .gtr (v 27) (k 0)),ha 26 false 29 28,ha 29 true 30 0,ha 29 true 31 3,h 29 true 32 (bin 32 .sub (v 31) (k 1)),h 29 true 33 (idx 33 (v 30) (v 32) 2),h 29 true 34 (fld 34 (v 33) 0),h 29 true 35 (ld 35 (v 34) 1 false),ha 29 true 36 0,ha 29 true 37 3,h 29 true 38 (idx 38 (v 36) (v 37) 2),h 29 true 39 (fld 39 (v 38) 0),h 29 true 40 (ld 40 (v 39) 1 false),h 29 true 41 (bin 41 .geq (v 35) (v 40)),h 26 false 42 (pck 42 (v 29) (v 41) k0),p 43 26 k1 (v 42)]) (F (v 43) (Q (R [e' 2 k0]) .ret) .skip))) (R [a 8 3,g 9 .add (v 8) (k 1),e 3 9])))))) (Q (R [a 44 0,l 45 44,g 46 .leq (v 45) (k 10),e 2 46]) .ret))
def xH:Cmd:=Q (R [e' 2 k0]) (Q (Q (R [e' 3 (k 0)]) (.blk 0 (.loop (Q (Q (R [a 4 3,a 5 0,l 6 5,g 7 .lss (v 4) (v 6)]) (F (v 7) .skip (.exit 0))) (Q (.blk 1 (Q (D [0,0,3,7,15,31,63,127,255,255,1023,2047,4095,8191,16383,32767,65535,131071,262143,524287,1048575,2097151,2097151,6291455,16777215,33554431,67108863,2097151,2097151,404750335,941621247,2015363071,4294967295,8589934591,17179869183] [a 10 0,a 11 3,i 12 10 11 2,f 13 12 0,b' 14 13 1,c 15 150 [v 14],n 16 (un 16 .not (v 15)),a 17 16,ha 17 false 18 0,ha 17 false 19 3,h 17 false 20 (idx 20 (v 18) (v 19) 2),h 17 false 21 (fld 21 (v 20) 1),h 17 false 22 (ld 22 (v 21) 1 false),h 17 false 23 (lens 23 (v 22)),hc 17 false 24 158 [v 23,k 1,k 16],h 17 false 25 (un 25 .not (v 24)),p 26 17 k1 (v 25),a 27 26,ha 27 false 28 3,h 27 false 29 (bin 29 .gtr (v 28) (k 0)),ha 27 false 30 29,ha 30 true 31 0,ha 30 true 32 3,h 30 true 33 (bin 33 .sub (v 32) (k 1)),h 30 true 34 (idx 34 (v 31) (v 33) 2),h 30 true 35 (fld 35 (v 34) 0),h 30 true 36 (ld 36 (v 35) 1 false),ha 30 true 37 0,ha 30 true 38 3,h 30 true 39 (idx 39 (v 37) (v 38) 2),h 30 true 40 (fld 40 (v 39) 0),h 30 true 41 (ld 41 (v 40) 1 false),h 30 true 42 (bin 42 .geq (v 36) (v 41)),h 27 false 43 (pck 43 (v 30) (v 42) k0),p 44 27 k1 (v 43)]) (F (v 44) (Q (R [e' 2 k0]) .ret) .skip))) (R [a 8 3,g 9 .add (v 8) (k 1),e 3 9])))))) (Q (R [a 45 0,l 46 45,g 47 .leq (v 46) (k 4),e 2 47]) .ret))
def acL:Cmd:=Q (R [e' 4 k0]) (Q (Q (R [e' 5 (k 0)]) (.blk 0 (.loop (Q (Q (R [a 6 5,a 7 0,l 8 7,g 9 .lss (v 6) (v 8)]) (F (v 9) .skip (.exit 0))) (Q (.blk 1 (Q (R [a 12 0,a 13 5,i 14 12 13 1,b' 15 14 1,a 16 1,g 17 .eql (v 15) (v 16)]) (F (v 17) (Q (R [e' 4 k1]) .ret) .skip))) (R [a 10 5,g 11 .add (v 10) (k 1),e 5 11])))))) (Q (R [e' 4 k0]) .ret))
def xI:Cmd:=Q (R [e' 4 (.c (.own 1 []))]) (Q (R [o 7 1 [],e 5 7]) (Q (Q (R [e' 6 (k 0)]) (.blk 0 (.loop (Q (Q (R [a 8 6,a 9 1,g 10 .lss (v 8) (v 9)]) (F (v 10) .skip (.exit 0))) (Q (.blk 1 (R [a 13 5,a 14 0,c 15 155 [v 14],n 16 (conv 16 .u8 (v 15)),o 17 1 [v 16],n 18 (app 18 (v 13) (v 17) 1 1),e 5 18])) (R [a 11 6,g 12 .add (v 11) (k 1),e 6 12])))))) (Q (R [a 19 5,e 4 19]) .ret)))
def aaj:Cmd:=Q (R [n 3 (box 3 (v 1)),e' 4 (.c (.own 2 []))]) (Q (D [0,0,3,0,8,31,63] [o 7 2 [],a 8 0,n 9 (app 9 (v 7) (v 8) 2 32),b 10 3 2,o 11 2 [v 10],n 12 (app 12 (v 9) (v 11) 2 32),e 5 12]) (Q (R [a 13 5,l 14 13,g 15 .sub (v 14) (k 1),e 6 15]) (Q (.blk 0 (.loop (Q (Q (D [0,1,3,7,7,23,63,127,255,7,519,2047,4095] [a 16 6,g 17 .gtr (v 16) (k 0),a 18 17,ha 18 true 19 5,ha 18 true 20 6,h 18 true 21 (bin 21 .sub (v 20) (k 1)),h 18 true 22 (idx 22 (v 19) (v 21) 2),h 18 true 23 (fld 23 (v 22) 0),h 18 true 24 (ld 24 (v 23) 1 false),h 18 true 25 (fld 25 (v 3) 0),h 18 true 26 (ld 26 (v 25) 1 false),h 18 true 27 (bin 27 .gtr (v 24) (v 26)),p 28 18 (v 27) k0]) (F (v 28) .skip (.exit 0))) (.blk 1 (Q (R [a 29 5,a 30 6,a 31 5,a 32 6,g 33 .sub (v 32) (k 1),i 34 31 33 2,b 35 34 2,i 36 29 30 2,s 36 35 2]) (R [a 37 6,g 38 .sub (v 37) (k 1),e 6 38])))))) (Q (R [a 39 5,a 40 6,b 41 3 2,i 42 39 40 2,s 42 41 2]) (Q (R [a 43 5,e 4 43]) .ret)))))
def jE:Cmd:=Q (R [e' 4 (k 0)]) (Q (Q (R [a 6 0,l 7 6,n 8 (mov 8 (k 0))]) (.blk 0 (.loop (Q (R [g 9 .lss (v 8) (v 7)]) (Q (F (v 9) .skip (.exit 0)) (Q (.blk 1 (Q (R [a 10 8,e 5 10]) (Q (R [a 11 1,a 12 0,a 13 5,i 14 12 13 1,b' 15 14 1,n 16 (callv (some 16) (v 11) [v 15])]) (F (v 16) (Q (R [a 17 5,e 4 17]) .ret) .skip)))) (R [g 18 .add (v 8) (k 1),a 8 18]))))))) (Q (R [e' 4 (k (-1))]) .ret))
end
theorem hmx:Tryz.prog.follows .mixedOrders=true:=by kernel_rfl
theorem oX:aE Tryz.prog 8=some (104,[.t 2],kK):=by kernel_rfl
theorem ao1:aE Tryz.prog 12=some (6,[.t 2],akp):=by kernel_rfl
theorem mL:aE Tryz.prog 16=some (55,[.c 4 2 true,.t 5],jL):=by kernel_rfl
theorem fA:aE Tryz.prog 19=some (71,[.c 6 2 true,.t 7],dP):=by kernel_rfl
theorem aeW:aE Tryz.prog 20=some (17,[.t 4],wT):=by kernel_rfl
theorem mM:aE Tryz.prog 22=some (55,[.c 4 2 true,.t 5],jM):=by kernel_rfl
theorem agE:aE Tryz.prog 23=some (46,[.t 4,.t 5],abi):=by kernel_rfl
theorem iR:aE Tryz.prog 25=some (46,[.t 8,.t 9],f6):=by kernel_rfl
theorem ah2:aE Tryz.prog 28=some (47,[.t 2],zQ):=by kernel_rfl
theorem fH:aE Tryz.prog 30=some (57,[.c 4 2 true,.t 5],eG):=by kernel_rfl
theorem acM:aE Tryz.prog 33=some (11,[.c 4 2 true,.t 5],uL):=by kernel_rfl
theorem aeX:aE Tryz.prog 35=some (40,[.t 2],wU):=by kernel_rfl
theorem aeY:aE Tryz.prog 37=some (11,[.c 4 2 true,.t 5],wV):=by kernel_rfl
theorem u6:aE Tryz.prog 38=some (17,[.c 2 2 true,.t 3,.t 4],nZ):=by kernel_rfl
theorem gB:aE Tryz.prog 39=some (82,[.c 6 2 true,.t 7],eV):=by kernel_rfl
theorem jZ:aE Tryz.prog 40=some (62,[.c 8 2 true,.t 9],g7):=by kernel_rfl
theorem g9:aE Tryz.prog 42=some (112,[.c 6 2 true,.t 7],f7):=by kernel_rfl
theorem ah3:aE Tryz.prog 46=some (53,[.t 2],zR):=by kernel_rfl
theorem aeZ:aE Tryz.prog 49=some (56,[.t 2],wW):=by kernel_rfl
theorem xJ:aE Tryz.prog 50=some (24,[.t 2],qX):=by kernel_rfl
theorem akq:aE Tryz.prog 56=some (32,[.t 2],acz):=by kernel_rfl
theorem ah4:aE Tryz.prog 57=some (20,[.c 4 2 true],zS):=by kernel_rfl
theorem tT:aE Tryz.prog 58=some (25,[.t 4],pS):=by kernel_rfl
theorem ah5:aE Tryz.prog 59=some (18,[.t 2],zT):=by kernel_rfl
theorem ae0:aE Tryz.prog 61=some (25,[.c 2 2 true],wX):=by kernel_rfl
theorem akr:aE Tryz.prog 62=some (25,[.t 4],acA):=by kernel_rfl
theorem tU:aE Tryz.prog 63=some (23,[.c 4 6 true,.t 5],pT):=by kernel_rfl
theorem tV:aE Tryz.prog 64=some (34,[.c 4 7 true,.t 5],pU):=by kernel_rfl
theorem yR:aE Tryz.prog 65=some (17,[.c 4 2 true],qJ):=by kernel_rfl
theorem abl:aE Tryz.prog 66=some (13,[.c 4 2 true],rX):=by kernel_rfl
theorem acN:aE Tryz.prog 67=some (40,[.c 4 2 true],uM):=by kernel_rfl
theorem abm:aE Tryz.prog 68=some (30,[.c 4 6 true,.t 5],vP):=by kernel_rfl
theorem aks:aE Tryz.prog 69=some (21,[.t 4],acB):=by kernel_rfl
theorem xK:aE Tryz.prog 70=some (19,[.c 4 6 true,.t 5],qY):=by kernel_rfl
theorem qM:aE Tryz.prog 71=some (36,[.c 6 2 true],l5):=by kernel_rfl
theorem q7:aE Tryz.prog 72=some (32,[.t 6],jX):=by kernel_rfl
theorem abn:aE Tryz.prog 73=some (45,[.t 4],rY):=by kernel_rfl
theorem xL:aE Tryz.prog 74=some (15,[.c 2 2 true],rZ):=by kernel_rfl
theorem oY:aE Tryz.prog 75=some (31,[.t 2,.t 3,.t 4],kL):=by kernel_rfl
theorem ah6:aE Tryz.prog 76=some (27,[.c 2 2 true],zU):=by kernel_rfl
theorem tW:aE Tryz.prog 77=some (24,[.c 4 6 true,.t 5],pV):=by kernel_rfl
theorem ah7:aE Tryz.prog 78=some (30,[.c 4 2 true],zV):=by kernel_rfl
theorem abo:aE Tryz.prog 79=some (37,[.c 4 2 true],r8):=by kernel_rfl
theorem uO:aE Tryz.prog 80=some (59,[.c 4 2 true],oS):=by kernel_rfl
theorem gL:aE Tryz.prog 81=some (26,[.t 2,.t 3],fG):=by kernel_rfl
theorem qN:aE Tryz.prog 84=some (8,[.t 2],l6):=by kernel_rfl
theorem akt:aE Tryz.prog 85=some (63,[.t 2],acC):=by kernel_rfl
theorem ae1:aE Tryz.prog 86=some (36,[.t 4],wY):=by kernel_rfl
theorem ae2:aE Tryz.prog 87=some (9,[.t 4],wZ):=by kernel_rfl
theorem abp:aE Tryz.prog 88=some (30,[.c 4 6 true,.t 5],vQ):=by kernel_rfl
theorem jN:aE Tryz.prog 89=some (65,[.c 6 2 true,.t 7],g8):=by kernel_rfl
theorem acO:aE Tryz.prog 90=some (10,[.t 2],w9):=by kernel_rfl
theorem sE:aE Tryz.prog 91=some (59,[.t 2,.t 3],nG):=by kernel_rfl
theorem hU:aE Tryz.prog 92=some (59,[.c 6 6 true,.t 7,.t 8],f9):=by kernel_rfl
theorem aku:aE Tryz.prog 93=some (44,[.t 4],acD):=by kernel_rfl
theorem amM:aE Tryz.prog 94=some (15,[.t 6],agC):=by kernel_rfl
theorem akv:aE Tryz.prog 95=some (12,[.t 4],acE):=by kernel_rfl
theorem ah8:aE Tryz.prog 96=some (9,[.t 4],zW):=by kernel_rfl
theorem agF:aE Tryz.prog 97=some (20,[.t 4,.t 5],abj):=by kernel_rfl
theorem sF:aE Tryz.prog 98=some (48,[.t 4],oT):=by kernel_rfl
theorem oZ:aE Tryz.prog 100=some (48,[.c 2 2 true],mJ):=by kernel_rfl
theorem q8:aE Tryz.prog 101=some (31,[.t 4],nH):=by kernel_rfl
theorem ah9:aE Tryz.prog 102=some (56,[.t 2],zY):=by kernel_rfl
theorem akw:aE Tryz.prog 107=some (68,[.t 2],acF):=by kernel_rfl
theorem ae3:aE Tryz.prog 108=some (50,[.t 4],xA):=by kernel_rfl
theorem amN:aE Tryz.prog 109=some (22,[.t 4],agD):=by kernel_rfl
theorem n6:aE Tryz.prog 110=some (9,[.t 4],i8):=by kernel_rfl
theorem aia:aE Tryz.prog 112=some (59,[.t 4],zZ):=by kernel_rfl
theorem aib:aE Tryz.prog 118=some (4,[.c 0 2 true],aaa):=by kernel_rfl
theorem bR:aE Tryz.prog 119=some (104,[.c 4 2 true],bN):=by kernel_rfl
theorem xM:aE Tryz.prog 120=some (11,[.t 2],qZ):=by kernel_rfl
theorem aic:aE Tryz.prog 121=some (6,[.t 2],aab):=by kernel_rfl
theorem abq:aE Tryz.prog 122=some (16,[.c 2 6 true],r9):=by kernel_rfl
theorem o0:aE Tryz.prog 123=some (31,[.t 2,.t 3,.t 4],kN):=by kernel_rfl
theorem kO:aE Tryz.prog 124=some (42,[.t 4],gK):=by kernel_rfl
theorem sG:aE Tryz.prog 125=some (8,[.t 2],nI):=by kernel_rfl
theorem u7:aE Tryz.prog 126=some (9,[.t 3],n4):=by kernel_rfl
theorem jF:aE Tryz.prog 127=some (42,[.t 4],fM):=by kernel_rfl
theorem xN:aE Tryz.prog 128=some (8,[.t 3],oU):=by kernel_rfl
theorem q9:aE Tryz.prog 129=some (19,[.t 4],jY):=by kernel_rfl
theorem tX:aE Tryz.prog 132=some (19,[.t 4],mK):=by kernel_rfl
theorem u9:aE Tryz.prog 133=some (9,[.t 3],n5):=by kernel_rfl
theorem yS:aE Tryz.prog 135=some (26,[.t 4],qK):=by kernel_rfl
theorem abr:aE Tryz.prog 136=some (26,[.t 4],sA):=by kernel_rfl
theorem yT:aE Tryz.prog 137=some (26,[.t 4],qL):=by kernel_rfl
theorem aid:aE Tryz.prog 138=some (52,[.c 2 2 true],aac):=by kernel_rfl
theorem uP:aE Tryz.prog 139=some (33,[.t 2],oV):=by kernel_rfl
theorem aie:aE Tryz.prog 140=some (21,[.c 2 6 true],aad):=by kernel_rfl
theorem akx:aE Tryz.prog 141=some (29,[.t 4],acG):=by kernel_rfl
theorem aky:aE Tryz.prog 142=some (8,[.t 4],acH):=by kernel_rfl
theorem ae4:aE Tryz.prog 143=some (11,[.t 2],xB):=by kernel_rfl
theorem ae5:aE Tryz.prog 146=some (94,[.t 2],xC):=by kernel_rfl
theorem abs:aE Tryz.prog 147=some (8,[.t 3],sB):=by kernel_rfl
theorem xO:aE Tryz.prog 148=some (19,[.c 4 6 true,.t 5],q0):=by kernel_rfl
theorem akz:aE Tryz.prog 149=some (12,[.t 4],acI):=by kernel_rfl
theorem aif:aE Tryz.prog 150=some (46,[.t 2],aae):=by kernel_rfl
theorem akA:aE Tryz.prog 151=some (27,[.t 4],acJ):=by kernel_rfl
theorem aig:aE Tryz.prog 152=some (40,[.t 4,.t 5],aaf):=by kernel_rfl
theorem akB:aE Tryz.prog 153=some (12,[.t 4],acK):=by kernel_rfl
theorem j4:aE Tryz.prog 154=some (63,[.c 2 6 true],iQ):=by kernel_rfl
theorem aak:aE Tryz.prog 155=some (58,[.t 2],tR):=by kernel_rfl
theorem agG:aE Tryz.prog 158=some (15,[.t 6],abk):=by kernel_rfl
theorem ae6:aE Tryz.prog 159=some (59,[.t 2],xD):=by kernel_rfl
theorem abt:aE Tryz.prog 160=some (19,[.t 4],sC):=by kernel_rfl
theorem acP:aE Tryz.prog 162=some (46,[.t 4],xE):=by kernel_rfl
theorem iA:aE Tryz.prog 172=some (86,[.c 8 2 true,.t 9],fY):=by kernel_rfl
theorem aih:aE Tryz.prog 173=some (8,[.t 2],aag):=by kernel_rfl
theorem iS:aE Tryz.prog 174=some (60,[.c 6 2 true,.t 7],gA):=by kernel_rfl
theorem iB:aE Tryz.prog 175=some (96,[.c 8 2 true,.t 9],fZ):=by kernel_rfl
theorem ae7:aE Tryz.prog 176=some (52,[],xF):=by kernel_rfl
theorem aii:aE Tryz.prog 177=some (47,[.t 2],aah):=by kernel_rfl
theorem qO:aE Tryz.prog 178=some (8,[.t 2],l7):=by kernel_rfl
theorem uQ:aE Tryz.prog 179=some (9,[.t 2],oW):=by kernel_rfl
theorem acQ:aE Tryz.prog 184=some (66,[.t 8],uN):=by kernel_rfl
theorem gM:aE Tryz.prog 185=some (9,[.t 4],eH):=by kernel_rfl
theorem abu:aE Tryz.prog 186=some (6,[.t 2],sD):=by kernel_rfl
theorem ae8:aE Tryz.prog 198=some (42,[.t 2],xG):=by kernel_rfl
theorem aal:aE Tryz.prog 199=some (67,[.c 2 6 true],tS):=by kernel_rfl
theorem aij:aE Tryz.prog 201=some (47,[.t 2],aai):=by kernel_rfl
theorem ae9:aE Tryz.prog 202=some (48,[.t 2],xH):=by kernel_rfl
theorem akC:aE Tryz.prog 212=some (18,[.t 4],acL):=by kernel_rfl
theorem afa:aE Tryz.prog 223=some (20,[.t 4],xI):=by kernel_rfl
theorem aik:aE Tryz.prog 224=some (44,[.t 4],aaj):=by kernel_rfl
theorem qE:aE Tryz.prog 231=some (19,[.t 4],jE):=by kernel_rfl
section
open Go.Proofs Go.Shelf
def vA:Go.Shelf.Ren:=⟨fun | 143=>230 | 219=>257 | 217=>263 | 225=>264 | 224=>265 | 267=>266 | 266=>269 | 314=>270 | n=>n,
 fun | 9=>9 | 3=>3 | 4=>4 | 5=>5 | 46=>141 | 146=>245 | 51=>178 | n=>n,
 fun | 1=>0 | n=>n⟩
theorem acR:Lays.n143 Tryz.prog vA where
 mixed:=by kernel_rfl
 f143:=Tryz.func230.trans (congrArg some (by kernel_rfl))
 f217:=Tryz.func263.trans (congrArg some (by kernel_rfl))
 f219:=Tryz.func257.trans (congrArg some (by kernel_rfl))
 f224:=Tryz.func265.trans (congrArg some (by kernel_rfl))
 f225:=Tryz.func264.trans (congrArg some (by kernel_rfl))
 f266:=Tryz.func269.trans (congrArg some (by kernel_rfl))
 f267:=Tryz.func266.trans (congrArg some (by kernel_rfl))
 f314:=Tryz.func270.trans (congrArg some (by kernel_rfl))
 t3:=Tryz.underlying3
 a3:=Tryz.isAgg3
 z3:=Tryz.sizeOf3
 v3:=Tryz.zeroValue3
 t4:=Tryz.underlying4
 a4:=Tryz.isAgg4
 z4:=Tryz.sizeOf4
 v4:=Tryz.zeroValue4
 t5:=Tryz.underlying5
 a5:=Tryz.isAgg5
 z5:=Tryz.sizeOf5
 v5:=Tryz.zeroValue5
 t9:=Tryz.underlying9
 a9:=Tryz.isAgg9
 z9:=Tryz.sizeOf9
 v9:=Tryz.zeroValue9
 t46:=Tryz.underlying141
 a46:=Tryz.isAgg141
 z46:=Tryz.sizeOf141
 v46:=Tryz.zeroValue141
 t51:=Tryz.underlying178
 a51:=Tryz.isAgg178
 z51:=Tryz.sizeOf178
 v51:=Tryz.zeroValue178
 t146:=Tryz.underlying245
 a146:=Tryz.isAgg245
 z146:=Tryz.sizeOf245
 v146:=Tryz.zeroValue245
 g1:=by kernel_rfl
def vB:Go.Shelf.Ren:=⟨fun | 138=>229 | 195=>254 | 218=>256 | 143=>230 | 219=>257 | 217=>263 | 225=>264 | 224=>265 | 267=>266 | 266=>269 | 314=>270 | n=>n,
 fun | 9=>9 | 3=>3 | 4=>4 | 5=>5 | 0=>0 | 46=>141 | 146=>245 | 51=>178 | n=>n,
 fun | 1=>0 | n=>n⟩
theorem acS:Lays.n138 Tryz.prog vB where
 mixed:=by kernel_rfl
 f138:=Tryz.func229.trans (congrArg some (by kernel_rfl))
 f143:=Tryz.func230.trans (congrArg some (by kernel_rfl))
 f195:=Tryz.func254.trans (congrArg some (by kernel_rfl))
 f217:=Tryz.func263.trans (congrArg some (by kernel_rfl))
 f218:=Tryz.func256.trans (congrArg some (by kernel_rfl))
 f219:=Tryz.func257.trans (congrArg some (by kernel_rfl))
 f224:=Tryz.func265.trans (congrArg some (by kernel_rfl))
 f225:=Tryz.func264.trans (congrArg some (by kernel_rfl))
 f266:=Tryz.func269.trans (congrArg some (by kernel_rfl))
 f267:=Tryz.func266.trans (congrArg some (by kernel_rfl))
 f314:=Tryz.func270.trans (congrArg some (by kernel_rfl))
 t0:=Tryz.underlying0
 a0:=Tryz.isAgg0
 z0:=Tryz.sizeOf0
 v0:=Tryz.zeroValue0
 t3:=Tryz.underlying3
 a3:=Tryz.isAgg3
 z3:=Tryz.sizeOf3
 v3:=Tryz.zeroValue3
 t4:=Tryz.underlying4
 a4:=Tryz.isAgg4
 z4:=Tryz.sizeOf4
 v4:=Tryz.zeroValue4
 t5:=Tryz.underlying5
 a5:=Tryz.isAgg5
 z5:=Tryz.sizeOf5
 v5:=Tryz.zeroValue5
 t9:=Tryz.underlying9
 a9:=Tryz.isAgg9
 z9:=Tryz.sizeOf9
 v9:=Tryz.zeroValue9
 t46:=Tryz.underlying141
 a46:=Tryz.isAgg141
 z46:=Tryz.sizeOf141
 v46:=Tryz.zeroValue141
 t51:=Tryz.underlying178
 a51:=Tryz.isAgg178
 z51:=Tryz.sizeOf178
 v51:=Tryz.zeroValue178
 t146:=Tryz.underlying245
 a146:=Tryz.isAgg245
 z146:=Tryz.sizeOf245
 v146:=Tryz.zeroValue245
 g1:=by kernel_rfl
def n7:Go.Shelf.Ren:=⟨fun | 156=>225 | 165=>249 | 166=>250 | 169=>251 | 240=>260 | 241=>261 | 276=>267 | 277=>268 | n=>n,
 fun | 31=>37 | 9=>9 | 3=>3 | 4=>4 | 0=>0 | 20=>20 | 72=>220 | 76=>224 | 70=>218 | 37=>22 | 75=>223 | 127=>236 | 164=>238 | 5=>5 | 80=>226 | n=>n,
 fun | n=>n⟩
theorem uR:Lays.n156 Tryz.prog n7 where
 mixed:=by kernel_rfl
 f156:=Tryz.func225.trans (congrArg some (by kernel_rfl))
 f165:=Tryz.func249.trans (congrArg some (by kernel_rfl))
 f166:=Tryz.func250.trans (congrArg some (by kernel_rfl))
 f169:=Tryz.func251.trans (congrArg some (by kernel_rfl))
 f240:=Tryz.func260.trans (congrArg some (by kernel_rfl))
 f241:=Tryz.func261.trans (congrArg some (by kernel_rfl))
 f276:=Tryz.func267.trans (congrArg some (by kernel_rfl))
 f277:=Tryz.func268.trans (congrArg some (by kernel_rfl))
 t0:=Tryz.underlying0
 a0:=Tryz.isAgg0
 z0:=Tryz.sizeOf0
 v0:=Tryz.zeroValue0
 t3:=Tryz.underlying3
 a3:=Tryz.isAgg3
 z3:=Tryz.sizeOf3
 v3:=Tryz.zeroValue3
 t4:=Tryz.underlying4
 a4:=Tryz.isAgg4
 z4:=Tryz.sizeOf4
 v4:=Tryz.zeroValue4
 t9:=Tryz.underlying9
 a9:=Tryz.isAgg9
 z9:=Tryz.sizeOf9
 v9:=Tryz.zeroValue9
 t20:=Tryz.underlying20
 a20:=Tryz.isAgg20
 z20:=Tryz.sizeOf20
 v20:=Tryz.zeroValue20
 t31:=Tryz.underlying37
 a31:=Tryz.isAgg37
 z31:=Tryz.sizeOf37
 v31:=Tryz.zeroValue37
 t37:=Tryz.underlying22
 a37:=Tryz.isAgg22
 z37:=Tryz.sizeOf22
 v37:=Tryz.zeroValue22
 t70:=Tryz.underlying218
 a70:=Tryz.isAgg218
 z70:=Tryz.sizeOf218
 v70:=Tryz.zeroValue218
 t72:=Tryz.underlying220
 a72:=Tryz.isAgg220
 z72:=Tryz.sizeOf220
 v72:=Tryz.zeroValue220
 t75:=Tryz.underlying223
 a75:=Tryz.isAgg223
 z75:=Tryz.sizeOf223
 v75:=Tryz.zeroValue223
 t76:=Tryz.underlying224
 a76:=Tryz.isAgg224
 z76:=Tryz.sizeOf224
 v76:=Tryz.zeroValue224
 t127:=Tryz.underlying236
 a127:=Tryz.isAgg236
 z127:=Tryz.sizeOf236
 v127:=Tryz.zeroValue236
 t164:=Tryz.underlying238
 a164:=Tryz.isAgg238
 z164:=Tryz.sizeOf238
 v164:=Tryz.zeroValue238
end
section
@[congr] theorem bind_congr_l {α β:Type} {a b:Option α} {f:α→Option β} (h:a=b):a.bind f=b.bind f:=by rw [h]
@[congr] theorem map_congr_l {α β:Type} {a b:Option α} {f:α→β} (h:a=b):a.map f=b.map f:=by rw [h]
def ao2 (E:Env):List Plc→Bool
 | []=>true
 | (_,_,r,p)::l=>isU (cN (E.f r) p) && ao2 E l
theorem ao3 (E:Env):∀ l:List Plc,ao2 E l=l.all (fun q=>isU (cN (E.f q.2.2.1) q.2.2.2)):=by
 intro l
 induction l with
 | nil=>rfl
 | cons q l ih=>obtain ⟨k,j,r,p⟩:=q; simp [ao2,ih]
theorem aq2:∀ (E:Env) (q:Plc) (pls:List Plc) (outs:List AV),oC E none (q::pls) outs=if ao2 E (q::pls)=true then oK E outs (q::pls) else none:=by
 intro E q pls outs
 rw [ao3]; rfl
theorem SAU:(∀ E:Env,ao2 E []=true)∧(∀ (E:Env) (k:Nat) (j:Option Nat) (r:Nat) (p:bG) (l:List Plc),ao2 E ((k,j,r,p)::l)=(isU (cN (E.f r) p) && ao2 E l)):=⟨fun _=>rfl,fun _ _ _ _ _ _=>rfl⟩
theorem SBK:∀ (E:Env) (outs:List AV),oC E none [] outs=oK E outs []:=by
 intro E outs
 simp [oC]
theorem SB0:type_of% (And.intro SBK aq2):=And.intro SBK aq2
abbrev aA:=List UInt8
theorem abv {α:Type} {f:α→Nat} {l:List α} {x:α} (h:x ∈ l):f x≤(l.map f).sum:=by
 induction l with
 | nil=>simp at h
 | cons y l ih=>
  rcases lH.1 h with rfl | h
  ·simp
  ·have:=ih h; simp; omega
theorem bF {α:Type} {l:List α} {i:Nat} (h:(i:Int)<(l.length:Nat)):l[i]?=some (l[i]'(by omega)):=by simp
theorem vR {α:Type} (f:α→Nat) (l:List α) (i:Nat) (h:i<l.length):((l.take (i+1)).map f).sum=((l.take i).map f).sum+f l[i]:=by
 rw [lT h,lM2,List.sum_append]
 simp only [lO,lP1,lG2,List.sum_nil,lI3]
theorem nJ {α:Type} (f:α→Nat) (l:List α) (i:Nat):((l.take i).map f).sum≤(l.map f).sum:=by
 conv=>rhs; rw [← lJ i l,lM2,List.sum_append]
 omega
theorem iT {α:Type} {a b:List α} {i:Nat} (h:a.take i=b.take i) (h1:i<a.length) (h2:i<b.length) (e:a[i]=b[i]):a.take (i+1)=b.take (i+1):=by
 rw [lT h1,lT h2,h,e]
theorem vS {α:Type} {a b:List α} {i:Nat} (h:a.take i=b.take i) (h1:a.length≤i) (h2:b.length≤i):a=b:=by
 rwa [lR1 h1,lR1 h2] at h
def anU {α β:Type} (f:α→Int→β) (g:α→β) (c:α→Nat):List α→Int→Nat→List β
 | [],_,_=>[]
 | x::l,_,0=>g x::l.map g
 | x::l,k,i+1=>f x k::anU f g c l (k+c x) i
def yU {α β:Type} (f:α→Int→β) (c:α→Nat):List α→Int→List β
 | [],_=>[]
 | x::l,k=>f x k::yU f c l (k+c x)
section
variable {α β γ:Type} (f:α→Int→β) (g:α→β) (c:α→Nat)
theorem agH:∀ (l:List α) (k:Int) (i:Nat),(anU f g c l k i).length=l.length:=by
 intro l
 induction l with
 | nil=>intro k i; rfl
 | cons x l ih=>intro k i; cases i <;> simp [anU,ih]
theorem amO:∀ (l:List α) (k:Int) (i:Nat),(anU f g c l k i)[i]?=(l[i]?).map g:=by
 intro l
 induction l with
 | nil=>intro k i; simp [anU]
 | cons x l ih=>intro k i; cases i <;> simp [anU,ih]
theorem acT:∀ (l:List α) (k:Int),(yU f c l k).length=l.length:=by
 intro l
 induction l with
 | nil=>intro k; rfl
 | cons x l ih=>intro k; simp [yU,ih]
theorem acU:∀ (l:List α) (k:Int) (i:Nat),(yU f c l k)[i]?=(l[i]?).map fun x=>f x (k+((l.take i).map c).sum):=by
 intro l
 induction l with
 | nil=>intro k i; simp [yU]
 | cons x l ih=>
  intro k i
  cases i with
  | zero=>simp [yU]
  | succ i=>
   simp only [yU,List.getElem?_cons_succ,ih,List.take_succ_cons,lO,lG2]
   congr 1; funext y; congr 1; omega
end
def aqs {α:Type} (f:α→List TV) (z:List TV) (l:List α) (i:Nat):List (List TV):=anU (fun x _=>f x) (fun _=>z) (fun _=>0) l 0 i
theorem akD {α:Type} (f:α→List TV) (z:List TV) (l:List α) (i:Nat):(aqs f z l i).length=l.length:=agH ..
def aqM {α:Type} (r:α→List TV) (f:α→Int→α) (c:α→Nat) (l:List α) (k:Int) (i:Nat):List (List TV):=anU (fun x k=>r (f x k)) r c l k i
section
variable {α:Type} (r:α→List TV) (f:α→Int→α) (c:α→Nat)
theorem amP (l:List α) (k:Int) (i:Nat):(aqM r f c l k i).length=l.length:=agH ..
theorem amQ (l:List α) (k:Int) (i:Nat):(aqM r f c l k i)[i]?=(l[i]?).map r:=amO ..
end
def akE (x:UInt8):List TV:=[.int .u8 x.toNat]
def acV (b:aA) (k:Int):aA:=yU (fun _ k=>UInt8.ofInt k) (fun _=>1) b k
theorem ao4 {α:Type} (l:List α):(l.map fun _=>1).sum=l.length:=by induction l with | nil=>rfl | cons x l ih=>simp [ih]; omega
theorem ail (b:aA) (k:Int):(acV b k).length=b.length:=acT ..
theorem aim (b:aA) (k:Int) (i:Nat):(acV b k)[i]?=(b[i]?).map fun _=>UInt8.ofInt (k+i):=by
 rw [acV,acU]
 by_cases h:i<b.length
 ·simp only [ao4,lN,lL1 (Nat.le_of_lt h)]
 ·rw [lE2 (by omega)]; rfl
theorem SF:(∀ (α:Type) (f:α→List TV) (z:List TV) (l:List α) (i:Nat),(aqs f z l i).length=l.length) ∧
  (∀ (α:Type) (r:α→List TV) (f:α→Int→α) (c:α→Nat) (l:List α) (k:Int) (i:Nat),(aqM r f c l k i).length=l.length) ∧
  (∀ (α:Type) (r:α→List TV) (f:α→Int→α) (c:α→Nat) (l:List α) (k:Int) (i:Nat),(aqM r f c l k i)[i]?=(l[i]?).map r) ∧
  (∀ (α β:Type) (f:α→Int→β) (c:α→Nat) (l:List α) (k:Int),(yU f c l k).length=l.length) ∧
  (∀ (α β:Type) (f:α→Int→β) (c:α→Nat) (l:List α) (k:Int) (i:Nat),(yU f c l k)[i]?=(l[i]?).map fun x=>f x (k+((l.take i).map c).sum)) ∧
  (∀ (b:aA) (k:Int),(acV b k).length=b.length)∧(∀ (b:aA) (k:Int) (i:Nat),(acV b k)[i]?=(b[i]?).map fun _=>UInt8.ofInt (k+i)) ∧
  (∀ (α:Type) (l:List α) (i:Nat) (f g:α→α),(l.modify i f).modify i g=l.modify i (fun x=>g (f x)))∧(∀ (α:Type) (l:List α) (i:Nat) (f:α→α),(l.modify i f)[i]?=(l[i]?).map f) ∧
  (∀ (α:Type) (l:List α) (i:Nat) (f:α→α),(l.modify i f).length=l.length):=
 ⟨fun _=>akD,fun _=>amP,fun _=>amQ,fun _ _=>acT,fun _ _=>acU,ail,aim,
  fun _ l i f g=>List.modify_modify_eq f g i l,fun _ l i f=>by simp,fun _ l i f=>by simp⟩
theorem xP (b:aA):gU (aI b)=true:=by
 simp [gU,aI]
 intros; rfl
theorem acW (b:aA):kH (aI b)=true:=by
 simp [kH,aI]
 intros; rfl
theorem nK (b:aA):cX (aI b)=some b:=by
 induction b with
 | nil=>rfl
 | cons x b ih=>
  simp only [aI,lO]
  simp only [aI] at ih
  have h1:wA [.int .u8 x.toNat]=some x:=by
   have:=x.toNat_lt
   simp [wA]
   try omega
  simp [cX,ih,h1]
theorem SK:kH []=true∧(∀ (e:List TV) (l:List (List TV)),kH (e::l)=(e.all dO && kH l))∧(∀ (t:TV) (e:List TV),(t::e).all dO=(dO t && e.all dO))∧([]:List TV).all dO=true ∧
  (∀ b,dO (.bool b)=true)∧(∀ k n,dO (.int k n)=true)∧(∀ s,dO (.str s)=true)∧(∀ s es,dO (.sl s es)=true) ∧
  gU []=true∧(∀ (e:List TV) (l:List (List TV)),gU (e::l)=(e.all n9 && gU l))∧(∀ (t:TV) (e:List TV),(t::e).all n9=(n9 t && e.all n9))∧([]:List TV).all n9=true ∧
  (∀ b,n9 (.bool b)=true)∧(∀ k n,n9 (.int k n)=true)∧(∀ s,n9 (.str s)=true) ∧
  (∀ b:aA,gU (aI b)=true)∧(∀ b:aA,kH (aI b)=true)∧(∀ b:aA,cX (aI b)=some b):=
 ⟨rfl,fun _ _=>rfl,fun _ _=>rfl,rfl,fun _=>rfl,fun _ _=>rfl,fun _=>rfl,fun _ _=>rfl,rfl,fun _ _=>rfl,fun _ _=>rfl,rfl,fun _=>rfl,fun _ _=>rfl,fun _=>rfl,xP,acW,nK⟩
theorem SB:min 1 IntKind.i64.bits=1∧min 7 IntKind.i64.bits=7∧min 8 IntKind.i64.bits=8∧min 14 IntKind.i64.bits=14∧min 16 IntKind.i64.bits=16∧min 24 IntKind.i64.bits=24∧min 33 IntKind.i64.bits=33∧min 47 IntKind.i64.bits=47∧min 1 IntKind.u32.bits=1∧min 8 IntKind.u32.bits=8∧min 16 IntKind.u32.bits=16∧min 24 IntKind.u32.bits=24:=by decide
def szM {α:Type} (c:α→Nat) (l:List α):Nat:=l.length+(l.map c).sum
structure Ent where
 name:aA
 ino:Int
 deriving DecidableEq,Inhabited
def Ent.row (a:Ent):List TV:=[.str a.name,.int .i64 a.ino]
def Ent.x (a:Ent):AV:=.agg [.str a.name,.int .i64 a.ino]
def Ent.o (a:Ent):AV:=.agg [.str a.name,.int .i64 a.ino]
def Ent.sz (a:Ent):Nat:=a.name.length
def Ent.zero:List TV:=[.str [],.int .i64 0]
theorem Ent.eq' {a b:Ent} (h0:a.name=b.name) (h1:a.ino=b.ino):a=b:=by cases a; cases b; simp_all
structure Attr where
 name:aA
 val:aA
 deriving DecidableEq,Inhabited
def Attr.row (a:Attr):List TV:=[.str a.name,.str a.val]
def Attr.x (a:Attr):AV:=.agg [.str a.name,.str a.val]
def Attr.o (a:Attr):AV:=.agg [.str a.name,.str a.val]
def Attr.sz (a:Attr):Nat:=a.name.length+a.val.length
def Attr.zero:List TV:=[.str [],.str []]
theorem Attr.eq' {a b:Attr} (h0:a.name=b.name) (h1:a.val=b.val):a=b:=by cases a; cases b; simp_all
structure Inode where
 ino:Int
 kind:Int
 links:Int
 data:aA
 ents:List Ent
 attrs:List Attr
 deriving DecidableEq,Inhabited
def Inode.row (a:Inode):List TV:=[.int .i64 a.ino,.int .i64 a.kind,.int .i64 a.links,.sl 1 (aI a.data),.sl 2 (a.ents.map Ent.row),.sl 2 (a.attrs.map Attr.row)]
def Inode.x (a:Inode):AV:=.agg [.int .i64 a.ino,.int .i64 a.kind,.int .i64 a.links,.ext 1 (aI a.data),.ext 2 (a.ents.map Ent.row),.ext 2 (a.attrs.map Attr.row)]
def Inode.o (a:Inode):AV:=.agg [.int .i64 a.ino,.int .i64 a.kind,.int .i64 a.links,.own 1 (aI a.data),.own 2 (a.ents.map Ent.row),.own 2 (a.attrs.map Attr.row)]
def Inode.sz (a:Inode):Nat:=a.data.length+szM Ent.sz a.ents+szM Attr.sz a.attrs
def Inode.zero:List TV:=[.int .i64 0,.int .i64 0,.int .i64 0,.sl 1 [],.sl 2 [],.sl 2 []]
theorem Inode.eq' {a b:Inode} (h0:a.ino=b.ino) (h1:a.kind=b.kind) (h2:a.links=b.links) (h3:a.data=b.data) (h4:a.ents=b.ents) (h5:a.attrs=b.attrs):a=b:=by cases a; cases b; simp_all
structure Tab where
 inodes:List Inode
 next:Int
 deriving DecidableEq,Inhabited
def Tab.row (a:Tab):List TV:=[.sl 6 (a.inodes.map Inode.row),.int .i64 a.next]
def Tab.x (a:Tab):AV:=.agg [.ext 6 (a.inodes.map Inode.row),.int .i64 a.next]
def Tab.o (a:Tab):AV:=.agg [.own 6 (a.inodes.map Inode.row),.int .i64 a.next]
def Tab.sz (a:Tab):Nat:=szM Inode.sz a.inodes
def Tab.zero:List TV:=[.sl 6 [],.int .i64 0]
theorem Tab.eq' {a b:Tab} (h0:a.inodes=b.inodes) (h1:a.next=b.next):a=b:=by cases a; cases b; simp_all
structure Vol where
 id:Int
 name:aA
 ro:Bool
 limit:Int
 t:Tab
 deriving DecidableEq,Inhabited
def Vol.row (a:Vol):List TV:=[.int .i64 a.id,.str a.name,.bool a.ro,.int .i64 a.limit,.sl 6 (a.t.inodes.map Inode.row),.int .i64 a.t.next]
def Vol.x (a:Vol):AV:=.agg [.int .i64 a.id,.str a.name,.bool a.ro,.int .i64 a.limit,.ext 6 (a.t.inodes.map Inode.row),.int .i64 a.t.next]
def Vol.o (a:Vol):AV:=.agg [.int .i64 a.id,.str a.name,.bool a.ro,.int .i64 a.limit,.own 6 (a.t.inodes.map Inode.row),.int .i64 a.t.next]
def Vol.sz (a:Vol):Nat:=a.name.length+a.t.sz
def Vol.zero:List TV:=[.int .i64 0,.str [],.bool false,.int .i64 0,.sl 6 [],.int .i64 0]
theorem Vol.eq' {a b:Vol} (h0:a.id=b.id) (h1:a.name=b.name) (h2:a.ro=b.ro) (h3:a.limit=b.limit) (h4:a.t=b.t):a=b:=by cases a; cases b; simp_all
structure Fs where
 vols:List Vol
 next:Int
 deriving DecidableEq,Inhabited
def Fs.row (a:Fs):List TV:=[.sl 6 (a.vols.map Vol.row),.int .i64 a.next]
def Fs.x (a:Fs):AV:=.agg [.ext 6 (a.vols.map Vol.row),.int .i64 a.next]
def Fs.o (a:Fs):AV:=.agg [.own 6 (a.vols.map Vol.row),.int .i64 a.next]
def Fs.sz (a:Fs):Nat:=szM Vol.sz a.vols
def Fs.zero:List TV:=[.sl 6 [],.int .i64 0]
theorem Fs.eq' {a b:Fs} (h0:a.vols=b.vols) (h1:a.next=b.next):a=b:=by cases a; cases b; simp_all
structure Op where
 kind:Int
 vol:Int
 path:aA
 to':aA
 off:Int
 data:aA
 deriving DecidableEq,Inhabited
def Op.row (a:Op):List TV:=[.int .i64 a.kind,.int .i64 a.vol,.str a.path,.str a.to',.int .i64 a.off,.sl 1 (aI a.data)]
def Op.x (a:Op):AV:=.agg [.int .i64 a.kind,.int .i64 a.vol,.str a.path,.str a.to',.int .i64 a.off,.ext 1 (aI a.data)]
def Op.o (a:Op):AV:=.agg [.int .i64 a.kind,.int .i64 a.vol,.str a.path,.str a.to',.int .i64 a.off,.own 1 (aI a.data)]
def Op.sz (a:Op):Nat:=a.path.length+a.to'.length+a.data.length
def Op.zero:List TV:=[.int .i64 0,.int .i64 0,.str [],.str [],.int .i64 0,.sl 1 []]
theorem Op.eq' {a b:Op} (h0:a.kind=b.kind) (h1:a.vol=b.vol) (h2:a.path=b.path) (h3:a.to'=b.to') (h4:a.off=b.off) (h5:a.data=b.data):a=b:=by cases a; cases b; simp_all
theorem ST :
  (∀ a:Ent,a.row=[.str a.name,.int .i64 a.ino]) ∧
  (∀ a:Ent,a.x=.agg [.str a.name,.int .i64 a.ino]) ∧
  (∀ a:Ent,a.o=.agg [.str a.name,.int .i64 a.ino]) ∧
  (∀ a:Attr,a.row=[.str a.name,.str a.val]) ∧
  (∀ a:Attr,a.x=.agg [.str a.name,.str a.val]) ∧
  (∀ a:Attr,a.o=.agg [.str a.name,.str a.val]) ∧
  (∀ a:Inode,a.row=[.int .i64 a.ino,.int .i64 a.kind,.int .i64 a.links,.sl 1 (aI a.data),.sl 2 (a.ents.map Ent.row),.sl 2 (a.attrs.map Attr.row)]) ∧
  (∀ a:Inode,a.x=.agg [.int .i64 a.ino,.int .i64 a.kind,.int .i64 a.links,.ext 1 (aI a.data),.ext 2 (a.ents.map Ent.row),.ext 2 (a.attrs.map Attr.row)]) ∧
  (∀ a:Inode,a.o=.agg [.int .i64 a.ino,.int .i64 a.kind,.int .i64 a.links,.own 1 (aI a.data),.own 2 (a.ents.map Ent.row),.own 2 (a.attrs.map Attr.row)]) ∧
  (∀ a:Tab,a.row=[.sl 6 (a.inodes.map Inode.row),.int .i64 a.next]) ∧
  (∀ a:Tab,a.x=.agg [.ext 6 (a.inodes.map Inode.row),.int .i64 a.next]) ∧
  (∀ a:Tab,a.o=.agg [.own 6 (a.inodes.map Inode.row),.int .i64 a.next]) ∧
  (∀ a:Vol,a.row=[.int .i64 a.id,.str a.name,.bool a.ro,.int .i64 a.limit,.sl 6 (a.t.inodes.map Inode.row),.int .i64 a.t.next]) ∧
  (∀ a:Vol,a.x=.agg [.int .i64 a.id,.str a.name,.bool a.ro,.int .i64 a.limit,.ext 6 (a.t.inodes.map Inode.row),.int .i64 a.t.next]) ∧
  (∀ a:Vol,a.o=.agg [.int .i64 a.id,.str a.name,.bool a.ro,.int .i64 a.limit,.own 6 (a.t.inodes.map Inode.row),.int .i64 a.t.next]) ∧
  (∀ a:Fs,a.row=[.sl 6 (a.vols.map Vol.row),.int .i64 a.next]) ∧
  (∀ a:Fs,a.x=.agg [.ext 6 (a.vols.map Vol.row),.int .i64 a.next]) ∧
  (∀ a:Fs,a.o=.agg [.own 6 (a.vols.map Vol.row),.int .i64 a.next]) ∧
  (∀ a:Op,a.row=[.int .i64 a.kind,.int .i64 a.vol,.str a.path,.str a.to',.int .i64 a.off,.sl 1 (aI a.data)]) ∧
  (∀ a:Op,a.x=.agg [.int .i64 a.kind,.int .i64 a.vol,.str a.path,.str a.to',.int .i64 a.off,.ext 1 (aI a.data)]) ∧
  (∀ a:Op,a.o=.agg [.int .i64 a.kind,.int .i64 a.vol,.str a.path,.str a.to',.int .i64 a.off,.own 1 (aI a.data)]) ∧
  (∀ (α β:Type) (f:α→β) (l:List α),(l.map f).length=l.length)∧(∀ (α β:Type) (f:α→β) (l:List α) (i:Nat),(l.map f)[i]?=(l[i]?).map f):=by
 refine ⟨?_,?_,?_,?_,?_,?_,?_,?_,?_,?_,?_,?_,?_,?_,?_,?_,?_,?_,?_,?_,?_,?_,?_⟩ <;> intros <;> first | rfl | simp
theorem SX:type_of% (And.intro SAU <| And.intro SU <| And.intro SGs <| And.intro SD <| And.intro S1 <| And.intro S2 <| And.intro S3 <| And.intro SE <| And.intro SC <| And.intro SO <| And.intro ST <| And.intro SF <| And.intro SK <| And.intro @jW <| And.intro @wQ <| And.intro @Bool.beq_eq_decide_eq.{0} <| And.intro @Int.natCast_zero <| And.intro @Int.add_zero <| And.intro @ge_iff_le.{0} <| And.intro @gt_iff_lt.{0} <| And.intro @Option.isNone_none.{0} <| And.intro @Option.isNone_some.{0} <| And.intro @List.nil_append.{0} <| And.intro @List.append_nil.{0} <| And.intro @Bool.and_true <| And.intro @Bool.and_self <| SB):=And.intro SAU <| And.intro SU <| And.intro SGs <| And.intro SD <| And.intro S1 <| And.intro S2 <| And.intro S3 <| And.intro SE <| And.intro SC <| And.intro SO <| And.intro ST <| And.intro SF <| And.intro SK <| And.intro @jW <| And.intro @wQ <| And.intro @Bool.beq_eq_decide_eq.{0} <| And.intro @Int.natCast_zero <| And.intro @Int.add_zero <| And.intro @ge_iff_le.{0} <| And.intro @gt_iff_lt.{0} <| And.intro @Option.isNone_none.{0} <| And.intro @Option.isNone_some.{0} <| And.intro @List.nil_append.{0} <| And.intro @List.append_nil.{0} <| And.intro @Bool.and_true <| And.intro @Bool.and_self <| SB
end
section
theorem sH {l m:List Int} (h:l.Nodup) (hs:∀ x ∈ l,x ∈ m):l.length≤m.length:=by
 induction l generalizing m with
 | nil=>simp
 | cons x l ih=>
  obtain ⟨hx,hl⟩:=lC5.1 h
  have hm:=hs x (by simp)
  have:=ih (m:=m.erase x) hl fun y hy=>(List.mem_erase_of_ne (by rintro rfl; exact hx hy)).2 (hs y (by simp [hy]))
  rw [List.length_erase_of_mem hm] at this
  have:0<m.length:=List.length_pos_of_mem hm
  simp only [lW]; omega
abbrev Up (l:List Int):Prop:=l.Pairwise (·<·)
theorem sI {l:List Int} (h:Up l):l.Nodup:=h.imp fun h=>by omega
theorem anV {l m:List Int} (hl:Up l) (hm:Up m) (h:∀ x,x ∈ l↔x ∈ m):l=m:=by
 induction l generalizing m with
 | nil=>
  cases m with
  | nil=>rfl
  | cons y m=>exact absurd ((h y).2 (by simp)) (by simp)
 | cons x l ih=>
  cases m with
  | nil=>exact absurd ((h x).1 (by simp)) (by simp)
  | cons y m=>
   obtain ⟨a1,a2⟩:=lC1.1 hl
   obtain ⟨b1,b2⟩:=lC1.1 hm
   have e:x=y:=by
    have h1:=(h x).1 (by simp)
    have h2:=(h y).2 (by simp)
    simp only [lH] at h1 h2
    rcases h1 with h1 | h1
    ·exact h1
    rcases h2 with h2 | h2
    ·exact h2.symm
    have:=a1 y h2; have:=b1 x h1; omega
   subst e
   congr 1
   refine ih a2 b2 fun z=>⟨fun hz=>?_,fun hz=>?_⟩
   ·have:=(h z).1 (by simp [hz])
    simp only [lH] at this
    rcases this with rfl | this
    ·exact absurd (a1 _ hz) (by omega)
    ·exact this
   ·have:=(h z).2 (by simp [hz])
    simp only [lH] at this
    rcases this with rfl | this
    ·exact absurd (b1 _ hz) (by omega)
    ·exact this
def akF (l:List Int) (n:Int):List Int:=if n ∈ l then l else l.takeWhile (·<n)++n::l.dropWhile (·<n)
theorem amR (l:List Int) (n x:Int):x ∈ akF l n↔x=n∨x ∈ l:=by
 unfold akF
 split
 ·rename_i h
  constructor
  ·exact .inr
  ·rintro (rfl | h')
   ·exact h
   ·exact h'
 ·have e:x ∈ l↔x ∈ l.takeWhile (·<n)∨x ∈ l.dropWhile (·<n):=by
   rw [← lL,List.takeWhile_append_dropWhile]
  rw [e]
  simp only [lL,lH]
  constructor
  ·rintro (h | h | h)
   ·exact .inr (.inl h)
   ·exact .inl h
   ·exact .inr (.inr h)
  ·rintro (h | h | h)
   ·exact .inr (.inl h)
   ·exact .inl h
   ·exact .inr (.inr h)
theorem ao5 {l:List Int} (h:Up l) (n:Int):Up (akF l n):=by
 unfold akF
 split
 ·exact h
 ·rename_i hn
  induction l with
  | nil=>simp [Up]
  | cons x l ih=>
   obtain ⟨a1,a2⟩:=lC1.1 h
   have hnx:n≠x:=fun e=>hn (by simp [e])
   have ih:=ih a2 fun h=>hn (by simp [h])
   by_cases hx:x<n
   ·rw [List.takeWhile_cons_of_pos (by simpa using hx),List.dropWhile_cons_of_pos (by simpa using hx)]
    refine lC1.2 ⟨fun y hy=>?_,ih⟩
    have hy:y ∈ l.takeWhile (·<n)++n::l.dropWhile (·<n):=hy
    rw [lL,lH] at hy
    rcases hy with hy | rfl | hy
    ·exact a1 y (List.takeWhile_sublist _ |>.subset hy)
    ·exact hx
    ·exact a1 y (List.dropWhile_sublist _ |>.subset hy)
   ·rw [List.takeWhile_cons_of_neg (by simpa using hx),List.dropWhile_cons_of_neg (by simpa using hx)]
    refine lC1.2 ⟨fun y hy=>?_,h⟩
    simp only [lH] at hy
    rcases hy with rfl | hy
    ·omega
    ·have:=a1 y hy; omega
section
variable (nb:Int→Option (List Int))
inductive Reach:Int→Prop where
 | root (h:(nb 1).isSome=true):Reach 1
 | step (i j:Int) (l:List Int) (hi:Reach i) (hl:nb i=some l) (hj:j ∈ l) (hs:(nb j).isSome=true):Reach j
def agI (out:List Int) (j:Int):List Int:=if (nb j).isSome then akF out j else out
def agJ (out:List Int) (i:Int):List Int:=((nb i).getD []).foldl (agI nb) out
def akG (l:List Int):List Int:=l.foldl (agJ nb) l
def cY:Nat→List Int
 | 0=>[1]
 | k+1=>akG nb (cY k)
def sJ (n:Nat):List Int:=if (nb 1).isSome then cY nb n else []
theorem acX (js:List Int):∀ (out:List Int) (x:Int),x ∈ js.foldl (agI nb) out↔x ∈ out∨(x ∈ js∧(nb x).isSome=true):=by
 induction js with
 | nil=>intro out x; simp
 | cons j js ih=>
  intro out x
  rw [lY2,ih]
  unfold agI
  split
  ·rename_i hj
   rw [amR,lH]
   constructor
   ·rintro ((rfl | h) | h)
    ·exact .inr ⟨.inl rfl,hj⟩
    ·exact .inl h
    ·exact .inr ⟨.inr h.1,h.2⟩
   ·rintro (h | ⟨rfl | h,hs⟩)
    ·exact .inl (.inr h)
    ·exact .inl (.inl rfl)
    ·exact .inr ⟨h,hs⟩
  ·rename_i hj
   rw [lH]
   constructor
   ·rintro (h | h)
    ·exact .inl h
    ·exact .inr ⟨.inr h.1,h.2⟩
   ·rintro (h | ⟨rfl | h,hs⟩)
    ·exact .inl h
    ·exact absurd hs hj
    ·exact .inr ⟨h,hs⟩
theorem agK (js:List Int):∀ (out:List Int),Up out→Up (js.foldl (agI nb) out):=by
 induction js with
 | nil=>intro out h; exact h
 | cons j js ih=>
  intro out h
  rw [lY2]
  refine ih _ ?_
  unfold agI
  split
  ·exact ao5 h j
  ·exact h
theorem acY (l:List Int):∀ (out:List Int) (x:Int),x ∈ l.foldl (agJ nb) out↔x ∈ out∨(∃ i ∈ l,x ∈ (nb i).getD [])∧(nb x).isSome=true:=by
 induction l with
 | nil=>intro out x; simp
 | cons i l ih=>
  intro out x
  rw [lY2,ih]
  unfold agJ
  rw [acX]
  simp only [lH,exists_eq_or_imp]
  constructor
  ·rintro ((h | h) | h)
   ·exact .inl h
   ·exact .inr ⟨.inl h.1,h.2⟩
   ·exact .inr ⟨.inr h.1,h.2⟩
  ·rintro (h | ⟨h | h,hs⟩)
   ·exact .inl (.inl h)
   ·exact .inl (.inr ⟨h,hs⟩)
   ·exact .inr ⟨h,hs⟩
theorem agL (l:List Int):∀ (out:List Int),Up out→Up (l.foldl (agJ nb) out):=by
 induction l with
 | nil=>intro out h; exact h
 | cons i l ih=>intro out h; rw [lY2]; exact ih _ (agK nb _ _ h)
theorem o3 (l:List Int) (x:Int):x ∈ akG nb l↔x ∈ l∨(∃ i ∈ l,x ∈ (nb i).getD [])∧(nb x).isSome=true:=acY nb l l x
theorem amS {l:List Int} (h:Up l):Up (akG nb l):=agL nb l l h
theorem jO (k:Nat):Up (cY nb k):=by
 induction k with
 | zero=>simp [cY,Up]
 | succ k ih=>exact amS nb ih
theorem xQ (n:Nat):Up (sJ nb n):=by
 unfold sJ
 split
 ·exact jO nb n
 ·simp [Up]
theorem o4 (h1:(nb 1).isSome=true) (k:Nat):∀ x ∈ cY nb k,Reach nb x:=by
 induction k with
 | zero=>intro x hx; simp only [cY,lB1] at hx; subst hx; exact .root h1
 | succ k ih=>
  intro x hx
  rcases (o3 nb _ _).1 hx with h | ⟨⟨i,hi,hx⟩,hs⟩
  ·exact ih x h
  ·cases hn:nb i with
   | none=>rw [hn] at hx; exact absurd hx (by simp)
   | some l=>rw [hn] at hx; exact .step i x l (ih i hi) hn hx hs
theorem mN {x:Int} (h:Reach nb x):(nb x).isSome=true:=by
 cases h with
 | root h=>exact h
 | step _ _ _ _ _ _ h=>exact h
def ao6 (l:List Int):Prop:=∀ i ∈ l,∀ x ∈ (nb i).getD [],(nb x).isSome=true→x ∈ l
theorem afb (k:Nat):ao6 nb (cY nb k)∨k+1≤(cY nb k).length:=by
 induction k with
 | zero=>exact .inr (by simp [cY])
 | succ k ih=>
  by_cases hs:ao6 nb (cY nb k)
  ·left
   have e:cY nb (k+1)=cY nb k:=by
    refine anV (jO nb _) (jO nb _) fun x=>?_
    show x ∈ akG nb _↔_
    rw [o3]
    exact ⟨fun h=>h.elim id fun ⟨⟨i,hi,hx⟩,hx'⟩=>hs i hi x hx hx',.inl⟩
   rw [e]; exact hs
  ·right
   have ih:=ih.resolve_left hs
   obtain ⟨x,hx1,hx2⟩:∃ x,x ∈ cY nb (k+1)∧x ∉ cY nb k:=by
    apply Classical.byContradiction
    intro hc
    apply hs
    intro i hi x hx hx'
    apply Classical.byContradiction
    intro hn
    exact hc ⟨x,(o3 nb _ _).2 (.inr ⟨⟨i,hi,hx⟩,hx'⟩),hn⟩
   have:=sH (l:=x::cY nb k) (m:=cY nb (k+1)) (lC5.2 ⟨hx2,sI (jO nb k)⟩) (by
    intro y hy
    rcases lH.1 hy with rfl | hy
    ·exact hx1
    ·exact (o3 nb _ _).2 (.inl hy))
   simp only [lW] at this
   omega
theorem aam {n:Nat} (hn:∀ l:List Int,l.Nodup→(∀ x ∈ l,(nb x).isSome=true)→l.length≤n) (x:Int):x ∈ sJ nb n↔Reach nb x:=by
 by_cases h1:(nb 1).isSome=true
 ·rw [sJ,lF h1]
  refine ⟨o4 nb h1 n x,fun h=>?_⟩
  have hl:=hn _ (sI (jO nb n)) fun y hy=>mN nb (o4 nb h1 n y hy)
  have hs:ao6 nb (cY nb n):=(afb nb n).resolve_right (by omega)
  have hroot:∀ k,1 ∈ cY nb k:=by
   intro k
   induction k with
   | zero=>simp [cY]
   | succ k ih=>exact (o3 nb _ _).2 (.inl ih)
  induction h with
  | root _=>exact hroot n
  | step i j l hi hl hj hs' ih=>exact hs i ih j (by rw [hl]; exact hj) hs'
 ·rw [sJ,lI h1]
  refine ⟨fun h=>absurd h (by simp),fun h=>?_⟩
  exfalso
  apply h1
  clear hn
  induction h with
  | root h=>exact h
  | step _ _ _ _ _ _ _ ih=>exact ih
structure Que (out next:List Int):Prop where
 nodup:out.Nodup
 reach:∀ x ∈ out,Reach nb x
 from':∀ x ∈ next,(nb x).isSome=true→Reach nb x
 shut:∀ i ∈ out,∀ x ∈ (nb i).getD [],(nb x).isSome=true→x ∈ out∨x ∈ next
 root:(nb 1).isSome=true→1 ∈ out∨1 ∈ next
theorem amT:Que nb [] [1]:=⟨by simp,by simp,fun x hx h=>by simp only [lB1] at hx; subst hx; exact .root h,by simp,fun _=>.inr (by simp)⟩
theorem agM {out next:List Int} {i:Int} (q:Que nb out (i::next)) (h:nb i=none∨i ∈ out):Que nb out next:=by
 refine ⟨q.nodup,q.reach,fun x hx=>q.from' x (by simp [hx]),fun k hk x hx hs=>?_,fun h1=>?_⟩
 ·rcases q.shut k hk x hx hs with h' | h'
  ·exact .inl h'
  ·rcases lH.1 h' with rfl | h'
   ·rcases h with h | h
    ·rw [h] at hs; exact absurd hs (by simp)
    ·exact .inl h
   ·exact .inr h'
 ·rcases q.root h1 with h' | h'
  ·exact .inl h'
  ·rcases lH.1 h' with rfl | h'
   ·rcases h with h | h
    ·rw [h] at h1; exact absurd h1 (by simp)
    ·exact .inl h
   ·exact .inr h'
theorem agN {out next l:List Int} {i:Int} (q:Que nb out (i::next)) (h:nb i=some l) (hn:i ∉ out):Que nb (out++[i]) (next++l):=by
 have hr:Reach nb i:=q.from' i (by simp) (by rw [h]; rfl)
 refine ⟨?_,fun x hx=>?_,fun x hx hs=>?_,fun k hk x hx hs=>?_,fun h1=>?_⟩
 ·rw [List.nodup_append]
  refine ⟨q.nodup,by simp,fun a ha b hb=>?_⟩
  rw [lB1.1 hb]
  rintro rfl
  exact hn ha
 ·rcases lL.1 hx with hx | hx
  ·exact q.reach x hx
  ·rw [lB1.1 hx]; exact hr
 ·rcases lL.1 hx with hx | hx
  ·exact q.from' x (by simp [hx]) hs
  ·exact .step i x l hr h hx hs
 ·rcases lL.1 hk with hk | hk
  ·rcases q.shut k hk x hx hs with h' | h'
   ·exact .inl (by simp [h'])
   ·rcases lH.1 h' with rfl | h'
    ·exact .inl (by simp)
    ·exact .inr (by simp [h'])
  ·rw [lB1.1 hk,h] at hx
   exact .inr (by simpa using .inr hx)
 ·rcases q.root h1 with h' | h'
  ·exact .inl (by simp [h'])
  ·rcases lH.1 h' with rfl | h'
   ·exact .inl (by simp)
   ·exact .inr (by simp [h'])
theorem ao7 {out:List Int} (q:Que nb out []) (x:Int):x ∈ out↔Reach nb x:=by
 refine ⟨q.reach x,fun h=>?_⟩
 induction h with
 | root h=>exact (q.root h).resolve_right (by simp)
 | step i j l hi hl hj hs ih=>exact (q.shut i ih j (by rw [hl]; exact hj) hs).resolve_right (by simp)
theorem ain {n:Nat} (hn:∀ l:List Int,l.Nodup→(∀ x ∈ l,(nb x).isSome=true)→l.length≤n) {out:List Int} (q:Que nb out []) :
  out.mergeSort (fun x y=>decide (x≤y))=sJ nb n:=by
 refine anV ?_ (xQ nb n) fun x=>?_
 ·have h1:=List.pairwise_mergeSort (le:=fun x y:Int=>decide (x≤y)) (by intro a b c; simp; omega) (by intro a b; simp; omega) out
  have h2:(out.mergeSort (fun x y=>decide (x≤y))).Nodup:=(List.mergeSort_perm out _).nodup_iff.2 q.nodup
  have:Up (out.mergeSort (fun x y=>decide (x≤y))):=(h1.and h2).imp fun ⟨a,b⟩=>by simp at a; omega
  exact this
 ·rw [(List.mergeSort_perm out _).mem_iff,ao7 nb q,aam nb hn]
theorem ao8 {n:Nat} (hn:∀ l:List Int,l.Nodup→(∀ x ∈ l,(nb x).isSome=true)→l.length≤n) {out next:List Int} (q:Que nb out next):out.length≤n:=
 hn out q.nodup fun x hx=>mN nb (q.reach x hx)
end
end
def okc (c:UInt8):Bool:=(decide (97≤c) && decide (c≤122)) || (decide (48≤c) && decide (c≤57)) || decide (c=95) || decide (c=45) || decide (c=46)
def bB (s:aA):Bool:=s.all okc && decide (1≤s.length) && decide (s.length≤14) && decide (s≠[46]) && decide (s≠[46,46])
def bJ:aA→List aA
 | []=>[[]]
 | c::s=>if c=47 then []::bJ s else match bJ s with
  | []=>[[c]]
  | h::t=>(c::h)::t
def b9 (l:List aA):Bool:=decide (l.length≤30) && l.all bB
def yV:List aA→Option (List aA)
 | []::n::l=>some (n::l)
 | _=>none
def aB (s:aA):List aA × Bool:=if s=[47] then ([],true) else match yV (bJ s) with
 | some l=>if b9 l=true then (l,true) else ([],false)
 | none=>([],false)
def eN (l:List aA):aA:=l.flatMap fun n=>47::n
def cF (l:List aA):aA:=if b9 l=true then (if l=[] then [47] else eN l) else []
def aK (s:aA):aA × aA × Bool:=if (aB s).2=true∧(aB s).1≠[] then (cF (aB s).1.dropLast,(aB s).1.getLastD [],true) else ([],[],false)
def abw (a b:aA):Bool:=(aB a).2 && ((aB b).2 && (aB a).1.isPrefixOf (aB b).1)
theorem sK (s:aA):bJ s≠[]:=by
 cases s with
 | nil=>simp [bJ]
 | cons c s=>
  rw [bJ]
  split
  ·simp
  ·split <;> simp
theorem nO (c:UInt8) (s:aA) (h:c≠47):∃ a t,bJ s=a::t∧bJ (c::s)=(c::a)::t:=by
 cases e:bJ s with
 | nil=>exact absurd e (sK s)
 | cons a t=>exact ⟨a,t,rfl,by rw [bJ,lI h,e]⟩
theorem xR (n s:aA) (h:∀ c ∈ n,c≠47):bJ (n++47::s)=n::bJ s:=by
 induction n with
 | nil=>rw [lM1,bJ,lF rfl]
 | cons c n ih=>
  have ih:=ih fun x hx=>h x (by simp [hx])
  rw [lA2,bJ,lI (h c (by simp)),ih]
theorem xS (n:aA) (h:∀ c ∈ n,c≠47):bJ n=[n]:=by
 induction n with
 | nil=>rfl
 | cons c n ih=>
  have ih:=ih fun x hx=>h x (by simp [hx])
  rw [bJ,lI (h c (by simp)),ih]
theorem afc (l:List aA) (h:∀ n ∈ l,∀ c ∈ n,c≠47) (s:aA) (hs:∀ c ∈ s,c≠47):bJ (s++eN l)=s::l:=by
 induction l generalizing s with
 | nil=>rw [eN]; simpa using xS s hs
 | cons n l ih=>
  have ih:=ih (fun m hm=>h m (by simp [hm])) n (h n (by simp))
  have e:s++eN (n::l)=s++47::(n++eN l):=by simp [eN]
  rw [e,xR s _ hs,ih]
theorem afd (s:aA):∀ a t,bJ s=a::t→s=a++eN t∧(∀ n ∈ a::t,∀ c ∈ n,c≠47):=by
 induction s with
 | nil=>
  intro a t h
  rw [bJ] at h
  injection h with h1 h2
  subst h1; subst h2
  simp [eN]
 | cons c s ih=>
  intro a t h
  by_cases hc:c=47
  ·rw [bJ,lF hc] at h
   injection h with h1 h2
   subst h1
   cases e:bJ s with
   | nil=>exact absurd e (sK s)
   | cons b u=>
    rw [e] at h2
    subst h2
    obtain ⟨i1,i2⟩:=ih b u e
    refine ⟨?_,fun n hn=>?_⟩
    ·rw [i1,hc]; simp [eN]
    ·rcases lH.1 hn with rfl | hn
     ·simp
     ·exact i2 n hn
  ·obtain ⟨b,u,e1,e2⟩:=nO c s hc
   rw [e2] at h
   injection h with h1 h2
   subst h1; subst h2
   obtain ⟨i1,i2⟩:=ih b u e1
   refine ⟨by rw [i1]; rfl,fun n hn x hx=>?_⟩
   rcases lH.1 hn with rfl | hn
   ·rcases lH.1 hx with rfl | hx
    ·exact hc
    ·exact i2 b (by simp) x hx
   ·exact i2 n (by simp [hn]) x hx
theorem aio {n:aA} (h:bB n=true):∀ c ∈ n,c≠47:=by
 intro c hc
 simp only [bB,lQ] at h
 have:=lY.1 h.1.1.1.1 c hc
 rintro rfl
 exact absurd this (by decide)
theorem nP {n:aA} (h:bB n=true):1≤n.length∧n.length≤14:=by
 simp only [bB,lQ,decide_eq_true_eq] at h
 exact ⟨h.1.1.1.2,h.1.1.2⟩
theorem mO {l:List aA} (h:b9 l=true):l.length≤30∧∀ n ∈ l,bB n=true:=by
 simp only [b9,lQ,decide_eq_true_eq,lY] at h
 exact h
theorem pY {l:List aA} (h1:l.length≤30) (h2:∀ n ∈ l,bB n=true):b9 l=true:=by
 simp only [b9,lQ,decide_eq_true_eq,lY]
 exact ⟨h1,h2⟩
theorem afe {l:List aA} (h:b9 l=true) (hne:l≠[]):aB (eN l)=(l,true):=by
 obtain ⟨h1,h2⟩:=mO h
 have e:=afc l (fun n hn=>aio (h2 n hn)) [] (by simp)
 rw [lM1] at e
 cases l with
 | nil=>exact absurd rfl hne
 | cons n l=>
  have hn:=nP (h2 n (by simp))
  have hs:eN (n::l)≠[47]:=by
   intro hc
   have h3:(eN (n::l)).length=1:=by rw [hc]; rfl
   have h4:eN (n::l)=47::(n++eN l):=by simp [eN]
   rw [h4] at h3
   simp only [lW,lU] at h3
   omega
  rw [aB,lI hs,e]
  simp only [yV,h,lF]
theorem aff {l:List aA} (h:b9 l=true):aB (cF l)=(l,true):=by
 rw [cF,lF h]
 split
 ·rename_i e; subst e; rw [aB,lF rfl]
 ·rename_i e; exact afe h e
theorem pZ {s:aA} (h:(aB s).2=true):b9 (aB s).1=true∧cF (aB s).1=s:=by
 unfold aB at h ⊢
 split
 ·rename_i e; subst e; exact ⟨by decide,by decide⟩
 ·rename_i hs
  rw [lI hs] at h
  cases e:yV (bJ s) with
  | none=>rw [e] at h; exact absurd h (by simp)
  | some l=>
   rw [e] at h
   simp only at h ⊢
   by_cases hn:b9 l=true
   ·rw [lF hn]
    refine ⟨hn,?_⟩
    show cF l=s
    cases e2:bJ s with
    | nil=>rw [e2] at e; exact absurd e (by simp [yV])
    | cons a t=>
     obtain ⟨i1,_⟩:=afd s a t e2
     rw [e2] at e
     cases a with
     | cons c a=>exact absurd e (by simp [yV])
     | nil=>
      cases t with
      | nil=>exact absurd e (by simp [yV])
      | cons m t=>
       simp only [yV,Option.some.injEq] at e
       subst e
       rw [cF,lF hn,lI (by simp),i1,lM1]
   ·rw [lI hn] at h; exact absurd h (by simp)
theorem agO {s:aA} (h:(aB s).2=false):aB s=([],false):=by
 unfold aB at h ⊢
 split
 ·rename_i e; rw [lF e] at h; exact absurd h (by simp)
 ·rename_i hs
  rw [lI hs] at h
  cases e:yV (bJ s) with
  | none=>rfl
  | some l=>
   rw [e] at h
   simp only at h ⊢
   by_cases hn:b9 l=true
   ·rw [lF hn] at h; exact absurd h (by simp)
   ·rw [lI hn]
theorem acZ {l:List aA} (h:b9 l=true) (n:Nat):b9 (l.take n)=true:=by
 obtain ⟨h1,h2⟩:=mO h
 exact pY (by rw [lN]; omega) fun m hm=>h2 m (List.take_subset _ _ hm)
theorem n8 {l:List aA} (h:b9 l=true):b9 l.dropLast=true:=by
 rw [List.dropLast_eq_take]; exact acZ h _
theorem aan {s:aA} (h:(aB s).2=true):(aB s).1=[]↔s=[47]:=by
 constructor
 ·intro e
  have:=(pZ h).2
  rw [e] at this
  rw [← this]; decide
 ·intro e; rw [e]; decide
theorem ac0 (s:aA):(aK s).2.2=true↔(aB s).2=true∧(aB s).1≠[]:=by
 unfold aK
 split
 ·rename_i h; exact ⟨fun _=>h,fun _=>rfl⟩
 ·rename_i h; exact ⟨fun h'=>absurd h' (by simp),fun h'=>absurd h' h⟩
theorem akH {s:aA} (h:(aB s).2=true) (hne:(aB s).1≠[]) :
  aK s=(cF (aB s).1.dropLast,(aB s).1.getLastD [],true)∧aB (cF (aB s).1.dropLast)=((aB s).1.dropLast,true):=by
 refine ⟨by rw [aK,lF ⟨h,hne⟩],aff (n8 (pZ h).1)⟩
def bD (x:Inode) (n:aA):Int:=((x.ents.find? fun e=>decide (e.name=n)).map Ent.ino).getD 0
def aD (t:Tab) (i:Int):Option Inode:=t.inodes.find? fun x=>decide (x.ino=i)
def fQ (x:Inode):List Int:=if x.kind=2 then x.ents.map Ent.ino else []
def nbT (t:Tab) (i:Int):Option (List Int):=(aD t i).map fQ
def fB (t:Tab):List Int:=sJ (nbT t) t.inodes.length
def bA (t:Tab) (i:Int):Nat:=(t.inodes.map fun x=>(fQ x).count i).sum
def iC (t:Tab):Nat:=(t.inodes.map fun x=>32+x.data.length+(x.attrs.map fun a=>a.name.length+a.val.length).sum).sum
def kG (t:Tab):List aA→Int→Int × Int
 | [],i=>(i,0)
 | n::l,i=>match aD t i with
  | none=>(0,2)
  | some x=>if x.kind=2 then (if bD x n=0 then (0,2) else kG t l (bD x n)) else (0,3)
def p4 (t:Tab) (s:aA):Int × Int:=if (aB s).2=true then kG t (aB s).1 1 else (0,1)
structure EntsOk (l:List Ent):Prop where
 len:l.length≤10
 ok:∀ e ∈ l,bB e.name=true∧2≤e.ino∧e.ino≤1000
 up:l.Pairwise fun a b=>a.name<b.name
structure AttrsOk (l:List Attr):Prop where
 len:l.length≤4
 ok:∀ a ∈ l,bB a.name=true∧1≤a.val.length∧a.val.length≤16
 up:l.Pairwise fun a b=>a.name<b.name
structure InodeOk (x:Inode):Prop where
 ino:1≤x.ino∧x.ino≤1000
 links:0≤x.links∧x.links≤1000
 root:x.links=0↔x.ino=1
 data:x.data.length≤100
 ents:EntsOk x.ents
 attrs:AttrsOk x.attrs
 kind:(x.kind=1∧x.ents=[])∨(x.kind=2∧x.data=[]∧x.links≤1)
structure TabOk (t:Tab):Prop where
 len:t.inodes.length≤30
 next:2≤t.next∧t.next≤1000
 ok:∀ x ∈ t.inodes,InodeOk x∧x.ino<t.next
 up:t.inodes.Pairwise fun a b=>a.ino<b.ino
 root:∃ x,aD t 1=some x∧x.kind=2
structure TreeOk (t:Tab):Prop where
 tab:TabOk t
 reach:(fB t).length=t.inodes.length
 links:∀ x ∈ t.inodes,((bA t x.ino:Nat):Int)=x.links
 there:∀ x ∈ t.inodes,∀ e ∈ x.ents,(aD t e.ino).isSome=true
theorem aO {t:Tab} {i:Int} {x:Inode} (h:aD t i=some x):x ∈ t.inodes∧x.ino=i:=by
 refine ⟨List.mem_of_find?_eq_some h,?_⟩
 have:=List.find?_some h
 simpa using this
theorem ac1 {t:Tab} (h:t.inodes.Pairwise fun a b=>a.ino<b.ino) {x:Inode} (hx:x ∈ t.inodes):aD t x.ino=some x:=by
 unfold aD
 generalize t.inodes=l at *
 induction l with
 | nil=>exact absurd hx (by simp)
 | cons y l ih=>
  obtain ⟨a1,a2⟩:=lC1.1 h
  rcases lH.1 hx with rfl | hx
  ·rw [lU1 (by simp)]
  ·rw [lE1 (by have:=a1 x hx; simp; omega)]
   exact ih a2 hx
theorem aip {t:Tab} (h:t.inodes.Pairwise fun a b=>a.ino<b.ino):(t.inodes.map Inode.ino).Nodup:=by
 rw [List.Nodup,List.pairwise_map]
 exact h.imp fun h=>by omega
theorem p5 (t:Tab):∀ l:List Int,l.Nodup→(∀ x ∈ l,(nbT t x).isSome=true)→l.length≤t.inodes.length:=by
 intro l hl hs
 have:=sH (m:=t.inodes.map Inode.ino) hl fun x hx=>by
  have:=hs x hx
  cases e:aD t x with
  | none=>rw [nbT,e] at this; exact absurd this (by simp)
  | some y=>obtain ⟨h1,h2⟩:=aO e; exact lF2.2 ⟨y,h1,h2⟩
 simpa using this
theorem nQ (t:Tab) (i:Int):i ∈ fB t↔Reach (nbT t) i:=aam _ (p5 t) i
theorem aiq {l m:List Int} (hl:l.Nodup) (hs:∀ x ∈ l,x ∈ m) (he:m.length≤l.length):∀ x ∈ m,x ∈ l:=by
 intro x hx
 apply Classical.byContradiction
 intro hn
 have:=sH (l:=x::l) (m:=m) (lC5.2 ⟨hn,hl⟩) fun y hy=>by
  rcases lH.1 hy with rfl | hy
  ·exact hx
  ·exact hs y hy
 simp only [lW] at this
 omega
theorem afg {t:Tab} (h:TreeOk t):∀ x ∈ t.inodes,Reach (nbT t) x.ino:=by
 intro x hx
 rw [← nQ]
 refine aiq (m:=t.inodes.map Inode.ino) (sI (xQ _ _)) (fun i hi=>?_) (by have:=h.reach; unfold fB at this; rw [this,List.length_map]; exact Nat.le_refl _) _ (List.mem_map.2 ⟨x,hx,rfl⟩)
 have:=mN _ ((nQ t i).1 hi)
 cases e:aD t i with
 | none=>rw [nbT,e] at this; exact absurd this (by simp)
 | some y=>obtain ⟨h1,h2⟩:=aO e; exact lF2.2 ⟨y,h1,h2⟩
theorem ac2 {t:Tab} (hu:t.inodes.Pairwise fun a b=>a.ino<b.ino) (h:∀ x ∈ t.inodes,Reach (nbT t) x.ino):(fB t).length=t.inodes.length:=by
 apply Nat.le_antisymm
 ·refine p5 t _ (sI (xQ _ _)) fun x hx=>mN _ ((nQ t x).1 hx)
 ·have:=sH (l:=t.inodes.map Inode.ino) (m:=fB t) (aip hu) fun i hi=>by
   obtain ⟨x,hx,rfl⟩:=lF2.1 hi
   exact (nQ t _).2 (h x hx)
  simpa using this
abbrev IM:=Int→Option Inode
def aT (M:IM):List aA→Int→Option Int
 | [],i=>some i
 | n::l,i=>match M i with
  | none=>none
  | some x=>if x.kind=2∧bD x n≠0 then aT M l (bD x n) else none
theorem ao9 (t:Tab) (l:List aA):∀ i j,kG t l i=(j,0)↔aT (aD t) l i=some j:=by
 induction l with
 | nil=>intro i j; simp [kG,aT]
 | cons n l ih=>
  intro i j
  rw [kG,aT]
  cases aD t i with
  | none=>simp
  | some x=>
   simp only
   by_cases hk:x.kind=2
   ·by_cases he:bD x n=0
    ·rw [lF hk,lF he,lI (by simp [he])]; simp
    ·rw [lF hk,lI he,lF ⟨hk,he⟩]; exact ih _ _
   ·rw [lI hk,lI (by simp [hk])]; simp
theorem cU (M:IM) (a b:List aA):∀ i,aT M (a++b) i=(aT M a i).bind fun j=>aT M b j:=by
 induction a with
 | nil=>intro i; simp [aT]
 | cons n a ih=>
  intro i
  rw [lA2,aT,aT]
  cases M i with
  | none=>rfl
  | some x=>
   simp only
   split
   ·exact ih _
   ·rfl
theorem iU (M:IM) (n:aA) (i j:Int):aT M [n] i=some j↔∃ x,M i=some x∧x.kind=2∧bD x n=j∧j≠0:=by
 rw [aT]
 cases M i with
 | none=>simp
 | some x=>
  simp only [aT]
  constructor
  ·intro h
   split at h
   ·rename_i hc
    injection h with h
    subst h
    exact ⟨x,rfl,hc.1,rfl,hc.2⟩
   ·exact absurd h (by simp)
  ·rintro ⟨y,hy,h1,h2,h3⟩
   injection hy with hy
   subst hy
   subst h2
   rw [lF ⟨h1,h3⟩]
theorem tY {x:Inode} {n:aA} (h:bD x n≠0):∃ e ∈ x.ents,e.name=n∧e.ino=bD x n:=by
 unfold bD at h ⊢
 cases e:x.ents.find? fun e=>decide (e.name=n) with
 | none=>rw [e] at h; exact absurd rfl h
 | some y=>exact ⟨y,List.mem_of_find?_eq_some e,by simpa using List.find?_some e,by simp⟩
theorem fI {x:Inode} (hu:x.ents.Pairwise fun a b=>a.name<b.name) {e:Ent} (he:e ∈ x.ents):bD x e.name=e.ino:=by
 unfold bD
 generalize x.ents=l at *
 induction l with
 | nil=>exact absurd he (by simp)
 | cons y l ih=>
  obtain ⟨a1,a2⟩:=lC1.1 hu
  rcases lH.1 he with rfl | he
  ·rw [lU1 (by simp)]; rfl
  ·rw [lE1 ?_]
   ·exact ih a2 he
   ·have:=a1 e he
    simp only [decide_eq_true_eq]
    intro hc
    rw [hc] at this
    exact absurd this (lH4 _)
theorem abx {x:Inode} {n:aA} (h:∀ e ∈ x.ents,e.ino≠0):bD x n=0↔∀ e ∈ x.ents,e.name≠n:=by
 constructor
 ·intro h0 e he hn
  unfold bD at h0
  cases hf:x.ents.find? fun e=>decide (e.name=n) with
  | none=>exact absurd hn (by simpa using List.find?_eq_none.1 hf e he)
  | some y=>rw [hf] at h0; exact h y (List.mem_of_find?_eq_some hf) (by simpa using h0)
 ·intro hn
  apply Classical.byContradiction
  intro hc
  obtain ⟨e,he,h1,_⟩:=tY hc
  exact hn e he h1
section
theorem mP {α:Type} (f:α→Nat) (l:List α) {p:α} (hp:p ∈ l):f p≤(l.map f).sum:=by
 induction l with
 | nil=>exact absurd hp (by simp)
 | cons x l ih=>
  rw [lO,lG2]
  rcases lH.1 hp with rfl | hp
  ·omega
  ·have:=ih hp; omega
theorem aao {α:Type} (f:α→Nat) (l:List α) {p q:α} (hp:p ∈ l) (hq:q ∈ l) (hne:p≠q):f p+f q≤(l.map f).sum:=by
 induction l with
 | nil=>exact absurd hp (by simp)
 | cons x l ih=>
  rw [lO,lG2]
  rcases lH.1 hp with rfl | hp'
  ·rcases lH.1 hq with rfl | hq'
   ·exact absurd rfl hne
   ·have:=mP f l hq'; omega
  ·rcases lH.1 hq with rfl | hq'
   ·have:=mP f l hp'; omega
   ·have:=ih hp' hq'; omega
theorem akI (l:List Ent) (i:Int):(l.map Ent.ino).count i=(l.map fun e=>if e.ino=i then 1 else 0).sum:=by
 induction l with
 | nil=>rfl
 | cons e l ih=>
  rw [lO,lO,lG2,List.count_cons,ih]
  by_cases h:e.ino=i <;> simp [h] <;> omega
theorem apa {α:Type} (f:α→Nat) (l:List α) (h:0<(l.map f).sum):∃ x ∈ l,0<f x:=by
 induction l with
 | nil=>exact absurd h (by simp)
 | cons x l ih=>
  rw [lO,lG2] at h
  by_cases hx:0<f x
  ·exact ⟨x,by simp,hx⟩
  ·obtain ⟨y,hy,h'⟩:=ih (by omega)
   exact ⟨y,by simp [hy],h'⟩
variable {t:Tab}
theorem bQ (h:TreeOk t) {x:Inode} (hx:x ∈ t.inodes):EntsOk x.ents:=(h.tab.ok x hx).1.ents
theorem o5 (h:TreeOk t) {x:Inode} (hx:x ∈ t.inodes):∀ e ∈ x.ents,e.ino≠0:=fun e he=>by have:=((bQ h hx).ok e he).2.1; omega
theorem gN (h:TreeOk t) {x:Inode} (hx:x ∈ t.inodes):aD t x.ino=some x:=ac1 h.tab.up hx
theorem o6 (h:TreeOk t) {x:Inode} (hx:x ∈ t.inodes) (hk:x.kind=2):x.links≤1:=by
 rcases (h.tab.ok x hx).1.kind with ⟨h1,_⟩ | ⟨_,_,h1⟩
 ·omega
 ·exact h1
theorem mQ (h:TreeOk t) {x:Inode} (hx:x ∈ t.inodes) (hk:x.kind≠2):x.ents=[]∧x.kind=1:=by
 rcases (h.tab.ok x hx).1.kind with ⟨h1,h2⟩ | ⟨h1,_⟩
 ·exact ⟨h2,h1⟩
 ·exact absurd h1 hk
theorem afh (h:TreeOk t) {x p q:Inode} (hx:x ∈ t.inodes) (hl:x.links≤1) (hp:p ∈ t.inodes) (hq:q ∈ t.inodes) (kp:p.kind=2) (kq:q.kind=2)
  {e f:Ent} (he:e ∈ p.ents) (hf:f ∈ q.ents) (e1:e.ino=x.ino) (f1:f.ino=x.ino):p=q∧e=f:=by
 have hs:bA t x.ino≤1:=by have:=h.links x hx; omega
 have cp:∀ y:Inode,y.kind=2→(fQ y).count x.ino=(y.ents.map fun e=>if e.ino=x.ino then 1 else 0).sum:=fun y hy=>by rw [fQ,lF hy,akI]
 have one:∀ (y:Inode) (g:Ent),y.kind=2→g ∈ y.ents→g.ino=x.ino→1≤(fQ y).count x.ino:=fun y g hy hg hi=>by
  rw [cp y hy]
  have:=mP (fun e:Ent=>if e.ino=x.ino then 1 else 0) y.ents hg
  simpa [hi] using this
 have epq:p=q:=by
  apply Classical.byContradiction
  intro hne
  have:=aao (fun y:Inode=>(fQ y).count x.ino) t.inodes hp hq hne
  have a:=one p e kp he e1
  have b:=one q f kq hf f1
  unfold bA at hs
  omega
 subst epq
 refine ⟨rfl,?_⟩
 apply Classical.byContradiction
 intro hne
 have a:=aao (fun e:Ent=>if e.ino=x.ino then 1 else 0) p.ents he hf hne
 have b:=mP (fun y:Inode=>(fQ y).count x.ino) t.inodes hp
 have c:=cp p kp
 simp only [e1,f1,lR] at a
 unfold bA at hs
 omega
theorem dM (h:TreeOk t):∃ x,aD t 1=some x∧x.kind=2∧x ∈ t.inodes:=by
 obtain ⟨x,h1,h2⟩:=h.tab.root
 exact ⟨x,h1,h2,(aO h1).1⟩
theorem mR (_:TreeOk t) {a:List aA} {n:aA} {i j:Int} (hw:aT (aD t) (a++[n]) i=some j) :
  ∃ p y e,aT (aD t) a i=some p∧aD t p=some y∧y ∈ t.inodes∧y.ino=p∧y.kind=2∧e ∈ y.ents∧e.name=n∧e.ino=j:=by
 rw [cU] at hw
 cases ha:aT (aD t) a i with
 | none=>rw [ha] at hw; exact absurd hw (by simp)
 | some p=>
  rw [ha] at hw
  obtain ⟨y,h1,h2,h3,h4⟩:=(iU _ n p j).1 hw
  obtain ⟨hy1,hy2⟩:=aO h1
  obtain ⟨e,he,e1,e2⟩:=tY (x:=y) (n:=n) (by rw [h3]; exact h4)
  exact ⟨p,y,e,rfl,h1,hy1,hy2,h2,he,e1,by rw [e2,h3]⟩
theorem aap (h:TreeOk t) {l:List aA} {i:Int} (hw:aT (aD t) l 1=some i):∃ x,aD t i=some x∧x ∈ t.inodes∧x.ino=i:=by
 rcases lE3 l with rfl | ⟨a,n,rfl⟩
 ·simp only [aT,Option.some.injEq] at hw
  subst hw
  obtain ⟨x,h1,_,h3⟩:=dM h
  exact ⟨x,h1,h3,(aO h1).2⟩
 ·rw [lF3] at hw
  obtain ⟨p,y,e,_,_,hy,_,_,he,_,e2⟩:=mR h hw
  have:=h.there y hy e he
  rw [e2] at this
  obtain ⟨x,hx⟩:=lD1.1 this
  exact ⟨x,hx,(aO hx).1,(aO hx).2⟩
theorem rA (h:TreeOk t):∀ (l l':List aA) (i:Int) (x:Inode),aD t i=some x→x.links≤1→aT (aD t) l 1=some i→aT (aD t) l' 1=some i→l=l':=by
 have noroot:∀ (a:List aA) (n:aA),aT (aD t) (a++[n]) 1≠some 1:=by
  intro a n hw
  obtain ⟨p,y,e,_,_,hy,_,_,he,_,e2⟩:=mR h hw
  have:=((bQ h hy).ok e he).2.1
  omega
 suffices ∀ (k:Nat) (l l':List aA) (i:Int) (x:Inode),l.length=k→aD t i=some x→x.links≤1→aT (aD t) l 1=some i→aT (aD t) l' 1=some i→l=l' from
  fun l l' i x=>this l.length l l' i x rfl
 intro k
 induction k with
 | zero=>
  intro l l' i x hk hx hl h1 h2
  have:l=[]:=lT1.1 hk
  subst this
  simp only [aT,Option.some.injEq] at h1
  subst h1
  rcases lE3 l' with rfl | ⟨b,m,rfl⟩
  ·rfl
  ·rw [lF3] at h2; exact absurd h2 (noroot b m)
 | succ k ih=>
  intro l l' i x hk hx hl h1 h2
  rcases lE3 l with rfl | ⟨a,n,rfl⟩
  ·exact absurd hk (by simp)
  rw [lF3] at h1 hk ⊢
  rcases lE3 l' with rfl | ⟨b,m,rfl⟩
  ·simp only [aT,Option.some.injEq] at h2
   subst h2
   exact absurd h1 (noroot a n)
  rw [lF3] at h2 ⊢
  obtain ⟨p,y,e,w1,y1,y2,y3,y4,e1,e2,e3⟩:=mR h h1
  obtain ⟨q,z,f,w2,z1,z2,z3,z4,f1,f2,f3⟩:=mR h h2
  obtain ⟨hx1,hx2⟩:=aO hx
  obtain ⟨r1,r2⟩:=afh h hx1 hl y2 z2 y4 z4 e1 f1 (by rw [e3,hx2]) (by rw [f3,hx2])
  subst r1; subst r2
  rw [← e2,← f2]
  have:=ih a b p y (by simpa using hk) y1 (o6 h y2 y4) w1 (by rw [← y3,z3]; exact w2)
  rw [this]
theorem iD (h:TreeOk t) {x:Inode} (hx:x ∈ t.inodes):∃ l,aT (aD t) l 1=some x.ino:=by
 have key:∀ i,Reach (nbT t) i→∃ l,aT (aD t) l 1=some i:=by
  intro i hr
  induction hr with
  | root _=>exact ⟨[],rfl⟩
  | step i j js hi hl hj hs ih=>
   obtain ⟨l,hl'⟩:=ih
   unfold nbT at hl
   cases e:aD t i with
   | none=>rw [e] at hl; exact absurd hl (by simp)
   | some y=>
    rw [e] at hl
    simp only [lC,Option.some.injEq] at hl
    obtain ⟨hy1,hy2⟩:=aO e
    by_cases hk:y.kind=2
    ·rw [fQ,lF hk] at hl
     subst hl
     obtain ⟨g,hg,rfl⟩:=lF2.1 hj
     refine ⟨l++[g.name],?_⟩
     rw [cU,hl']
     exact (iU _ _ _ _).2 ⟨y,e,hk,fI (bQ h hy1).up hg,o5 h hy1 g hg⟩
    ·rw [fQ,lI hk] at hl
     subst hl
     exact absurd hj (by simp)
 exact key _ (afg h x hx)
theorem aby (h:∀ l i,aT (aD t) l 1=some i→(aD t i).isSome=true):∀ l i,aT (aD t) l 1=some i→Reach (nbT t) i:=by
 suffices ∀ (k:Nat) (l:List aA) (i:Int),l.length=k→aT (aD t) l 1=some i→Reach (nbT t) i from fun l i=>this l.length l i rfl
 have nbs:∀ i,(aD t i).isSome=true→(nbT t i).isSome=true:=fun i hi=>by unfold nbT; simpa using hi
 intro k
 induction k with
 | zero=>
  intro l i hk hw
  have:l=[]:=lT1.1 hk
  subst this
  have:=h [] i hw
  simp only [aT,Option.some.injEq] at hw
  subst hw
  exact .root (nbs _ this)
 | succ k ih=>
  intro l i hk hw
  rcases lE3 l with rfl | ⟨a,n,rfl⟩
  ·exact absurd hk (by simp)
  rw [lF3] at hw hk
  have hs:=h _ i hw
  rw [cU] at hw
  cases ha:aT (aD t) a 1 with
  | none=>rw [ha] at hw; exact absurd hw (by simp)
  | some p=>
   rw [ha] at hw
   obtain ⟨y,h1,h2,h3,h4⟩:=(iU _ n p i).1 hw
   obtain ⟨e,he,e1,e2⟩:=tY (x:=y) (n:=n) (by rw [h3]; exact h4)
   refine .step p i (y.ents.map Ent.ino) (ih a p (by simpa using hk) ha) (by rw [nbT,h1]; simp [fQ,h2]) ?_ (nbs i hs)
   exact lF2.2 ⟨e,he,by rw [e2,h3]⟩
theorem tZ (h:TreeOk t) {l:List aA} {i:Int} (hw:aT (aD t) l 1=some i):l.length<t.inodes.length∧∀ n ∈ l,bB n=true:=by
 have pre:∀ k,∃ j,k≤l.length→aT (aD t) (l.take k) 1=some j:=by
  intro k
  by_cases hk:k≤l.length
  ·have:=hw
   rw [← lJ k l,cU] at this
   cases e:aT (aD t) (l.take k) 1 with
   | none=>rw [e] at this; exact absurd this (by simp)
   | some j=>exact ⟨j,fun _=>rfl⟩
  ·exact ⟨0,fun h=>absurd h hk⟩
 obtain ⟨f,hf⟩:=Classical.axiomOfChoice pre
 have stepd:∀ k,k<l.length→∃ y e,aD t (f k)=some y∧y ∈ t.inodes∧y.kind=2∧e ∈ y.ents∧l[k]?=some e.name:=by
  intro k hk
  have h1:=hf (k+1) (by omega)
  rw [lT hk] at h1
  obtain ⟨p,y,e,w1,y1,y2,_,y4,e1,e2,_⟩:=mR h h1
  have h0:=hf k (by omega)
  rw [h0] at w1
  injection w1 with w1
  subst w1
  exact ⟨y,e,y1,y2,y4,e1,by rw [lK hk,e2]⟩
 refine ⟨?_,fun n hn=>?_⟩
 ·have hlen:((List.range (l.length+1)).map f).length≤t.inodes.length:=by
   refine p5 t _ ?_ ?_
   ·rw [List.Nodup,List.pairwise_map]
    refine List.Pairwise.imp_of_mem ?_ (List.pairwise_lt_range (n:=l.length+1))
    intro a b ha hb hab hc
    have hb':=List.mem_range.1 hb
    obtain ⟨y,_,y1,y2,y4,_⟩:=stepd a (by omega)
    have:=rA h (l.take a) (l.take b) (f a) y y1 (o6 h y2 y4) (hf a (by omega)) (by rw [hc]; exact hf b (by omega))
    have:=congrArg List.length this
    simp only [lN] at this
    omega
   ·intro x hx
    obtain ⟨k,hk,rfl⟩:=lF2.1 hx
    have hk:=List.mem_range.1 hk
    obtain ⟨y,y1,_⟩:=aap h (hf k (by omega))
    rw [nbT,y1]; rfl
  simp only [lO1,List.length_range] at hlen
  omega
 ·obtain ⟨k,hk,rfl⟩:=List.mem_iff_getElem.1 hn
  obtain ⟨y,e,_,y2,_,e1,e2⟩:=stepd k hk
  rw [lK hk] at e2
  injection e2 with e2
  rw [e2]
  exact ((bQ h y2).ok e e1).1
end
section
def cZ (s:Int→aA→Option Int):List aA→Int→Option Int
 | [],i=>some i
 | n::l,i=>(s i n).bind (cZ s l)
def cA (M:IM) (i:Int) (n:aA):Option Int:=match M i with
 | none=>none
 | some x=>if x.kind=2∧bD x n≠0 then some (bD x n) else none
theorem c5 (M:IM) (l:List aA):∀ i,aT M l i=cZ (cA M) l i:=by
 induction l with
 | nil=>intro i; rfl
 | cons n l ih=>
  intro i
  rw [aT,cZ,cA]
  cases M i with
  | none=>rfl
  | some x=>
   simp only
   split
   ·exact ih _
   ·rfl
section
variable {s s':Int→aA→Option Int}
theorem dQ (a b:List aA):∀ i,cZ s (a++b) i=(cZ s a i).bind fun j=>cZ s b j:=by
 induction a with
 | nil=>intro i; simp [cZ]
 | cons n a ih=>
  intro i
  rw [lA2,cZ,cZ]
  cases s i n with
  | none=>rfl
  | some j=>exact ih j
theorem ac3 {D:Int} {n:aA} (hs:∀ i m,i≠D∨m≠n→s' i m=s i m):∀ (l:List aA) (i:Int),(∀ a b,l=a++n::b→cZ s a i≠some D)→cZ s' l i=cZ s l i:=by
 intro l
 induction l with
 | nil=>intro i _; rfl
 | cons m l ih=>
  intro i h
  rw [cZ,cZ]
  have e:s' i m=s i m:=by
   apply hs
   by_cases hm:m=n
   ·left
    rintro rfl
    exact h [] l (by rw [hm]; rfl) rfl
   ·exact .inr hm
  rw [e]
  cases hc:s i m with
  | none=>rfl
  | some j=>
   show cZ s' l j=cZ s l j
   refine ih j fun a b hl hw=>h (m::a) b (by rw [hl]; rfl) ?_
   rw [cZ,hc]; exact hw
theorem f0 {D:Int} {n:aA} {d:List aA} (hs:∀ i m,i≠D∨m≠n→s' i m=s i m) (hu:∀ a,cZ s a 1=some D→a=d) {l:List aA} (hp:¬ (d++[n]) <+: l) :
  cZ s' l 1=cZ s l 1:=by
 refine ac3 hs l 1 fun a b hl hw=>hp ?_
 rw [← hu a hw]
 exact ⟨b,by rw [hl]; simp⟩
theorem akJ {D:Int} {n:aA} {d:List aA} (hs:∀ i m,i≠D∨m≠n→s' i m=s i m) (hu:∀ a,cZ s a 1=some D→a=d) (hd:cZ s d 1=some D):cZ s' d 1=some D:=by
 rw [f0 hs hu ?_,hd]
 rintro ⟨b,hb⟩
 have:=congrArg List.length hb
 simp at this
theorem sL {D:Int} {n:aA} {d:List aA} (hs:∀ i m,i≠D∨m≠n→s' i m=s i m) (hu:∀ a,cZ s a 1=some D→a=d) (hd:cZ s d 1=some D) (b:List aA) :
  cZ s' (d++n::b) 1=(s' D n).bind (cZ s' b):=by
 rw [dQ,akJ hs hu hd]; rfl
theorem xT {D:Int} {n:aA} (hs:∀ i m,i≠D∨m≠n→s' i m=s i m) {j:Int} (hj:∀ a,cZ s a j≠some D) (b:List aA):cZ s' b j=cZ s b j:=
 ac3 hs b j fun a _ _=>hj a
end
def bW:List Inode→Inode→List Inode
 | [],x=>[x]
 | y::l,x=>if y.ino=x.ino then x::l else if x.ino<y.ino then x::y::l else y::bW l x
def aH (t:Tab) (x:Inode):Tab:={ inodes:=bW t.inodes x,next:=t.next }
def iF (t:Tab) (i:Int):Tab:={ inodes:=t.inodes.filter fun x=>decide (x.ino≠i),next:=t.next }
abbrev UpI (l:List Inode):Prop:=l.Pairwise fun a b=>a.ino<b.ino
theorem aaq {l:List Inode} {x y:Inode} (h:y ∈ bW l x):y=x∨y ∈ l:=by
 induction l with
 | nil=>simpa [bW] using h
 | cons z l ih=>
  rw [bW] at h
  split at h
  ·rcases lH.1 h with h | h
   ·exact .inl h
   ·exact .inr (by simp [h])
  ·split at h
   ·rcases lH.1 h with h | h
    ·exact .inl h
    ·exact .inr h
   ·rcases lH.1 h with h | h
    ·exact .inr (by simp [h])
    ·rcases ih h with h | h
     ·exact .inl h
     ·exact .inr (by simp [h])
theorem akK {l:List Inode} (h:UpI l) (x:Inode):UpI (bW l x):=by
 induction l with
 | nil=>simp [bW,UpI]
 | cons y l ih=>
  obtain ⟨a1,a2⟩:=lC1.1 h
  rw [bW]
  split
  ·rename_i e
   exact lC1.2 ⟨fun z hz=>by have:=a1 z hz; omega,a2⟩
  ·split
   ·rename_i e1 e2
    refine lC1.2 ⟨fun z hz=>?_,h⟩
    rcases lH.1 hz with rfl | hz
    ·exact e2
    ·have:=a1 z hz; omega
   ·rename_i e1 e2
    refine lC1.2 ⟨fun z hz=>?_,ih a2⟩
    rcases aaq hz with rfl | hz
    ·omega
    ·exact a1 z hz
theorem afi {l:List Inode} (h:UpI l) (x:Inode) (j:Int) :
  (bW l x).find? (fun y=>decide (y.ino=j))=if x.ino=j then some x else l.find? fun y=>decide (y.ino=j):=by
 induction l with
 | nil=>
  rw [bW]
  by_cases e:x.ino=j <;> simp [e]
 | cons y l ih=>
  obtain ⟨a1,a2⟩:=lC1.1 h
  have nl:∀ k,k≤y.ino→l.find? (fun z=>decide (z.ino=k))=none:=fun k hk=>by
   rw [List.find?_eq_none]
   intro z hz
   have:=a1 z hz
   simp; omega
  rw [bW]
  split
  ·rename_i e
   by_cases hj:x.ino=j
   ·rw [lU1 (by simpa using hj),lF hj]
   ·rw [lE1 (by simpa using hj),lI hj,lE1 (by simp; omega)]
  ·split
   ·rename_i e1 e2
    by_cases hj:x.ino=j
    ·rw [lU1 (by simpa using hj),lF hj]
    ·rw [lE1 (by simpa using hj),lI hj]
   ·rename_i e1 e2
    by_cases hy:y.ino=j
    ·rw [lU1 (by simpa using hy),lI (by omega),lU1 (by simpa using hy)]
    ·rw [lE1 (by simpa using hy),ih a2,lE1 (by simpa using hy)]
theorem bY {t:Tab} (h:UpI t.inodes) (x:Inode) (j:Int):aD (aH t x) j=if x.ino=j then some x else aD t j:=afi h x j
theorem fR {t:Tab} (h:UpI t.inodes) (x:Inode):UpI (aH t x).inodes:=akK h x
theorem apb {t:Tab} (h:UpI t.inodes) (i:Int):UpI (iF t i).inodes:=h.filter _
theorem air {t:Tab} (i j:Int):aD (iF t i) j=if i=j then none else aD t j:=by
 unfold aD iF
 simp only
 generalize t.inodes=l
 induction l with
 | nil=>simp
 | cons y l ih=>
  rw [lR3]
  by_cases hy:y.ino=i
  ·rw [lI (by simp [hy]),ih]
   by_cases hj:i=j
   ·rw [lF hj,lF hj]
   ·rw [lI hj,lI hj,lE1 (by simp; omega)]
  ·rw [lF (by simp [hy])]
   by_cases hj:y.ino=j
   ·rw [lU1 (by simpa using hj),lI (by omega),lU1 (by simpa using hj)]
   ·rw [lE1 (by simpa using hj),ih,lE1 (by simpa using hj)]
theorem afj (f:Inode→Nat) {l:List Inode} (h:UpI l) (x:Inode) :
  ((bW l x).map f).sum+((l.find? fun y=>decide (y.ino=x.ino)).map f).getD 0=(l.map f).sum+f x:=by
 induction l with
 | nil=>simp [bW]
 | cons y l ih=>
  obtain ⟨a1,a2⟩:=lC1.1 h
  have nl:∀ k,k≤y.ino→l.find? (fun z=>decide (z.ino=k))=none:=fun k hk=>by
   rw [List.find?_eq_none]
   intro z hz
   have:=a1 z hz
   simp; omega
  rw [bW]
  split
  ·rename_i e
   rw [lU1 (by simpa using e)]
   simp only [lO,lG2,lC,lA1]
   omega
  ·split
   ·rename_i e1 e2
    rw [lE1 (by simpa using e1),nl x.ino (by omega)]
    simp only [lO,lG2,lS,Option.getD_none]
    omega
   ·rename_i e1 e2
    rw [lE1 (by simpa using e1)]
    have:=ih a2
    simp only [lO,lG2]
    omega
theorem amU (f:Inode→Nat) {l:List Inode} (h:UpI l) (i:Int) :
  ((l.filter fun x=>decide (x.ino≠i)).map f).sum+((l.find? fun y=>decide (y.ino=i)).map f).getD 0=(l.map f).sum:=by
 induction l with
 | nil=>simp
 | cons y l ih=>
  obtain ⟨a1,a2⟩:=lC1.1 h
  by_cases e:y.ino=i
  ·rw [lR3,lI (by simp [e]),lU1 (by simpa using e)]
   have:l.filter (fun x=>decide (x.ino≠i))=l:=by
    rw [List.filter_eq_self]
    intro z hz
    have:=a1 z hz
    simp; omega
   rw [this]
   simp only [lO,lG2,lC,lA1]
   omega
  ·rw [lR3,lF (by simp [e]),lE1 (by simpa using e)]
   have:=ih a2
   simp only [lO,lG2]
   omega
theorem nR {l:List Inode} (h:UpI l) (x:Inode):(bW l x).length+(if (l.find? fun y=>decide (y.ino=x.ino)).isSome then 1 else 0)=l.length+1:=by
 have:=afj (fun _=>1) h x
 have e:∀ l:List Inode,(l.map fun _=>1).sum=l.length:=fun l=>by induction l with
  | nil=>rfl
  | cons y l ih=>rw [lO,lG2,ih,lW]; omega
 rw [e,e] at this
 cases hf:l.find? fun y=>decide (y.ino=x.ino) with
 | none=>rw [hf] at this; simpa using this
 | some y=>rw [hf] at this; simpa using this
theorem gO {t:Tab} (h:UpI t.inodes) (x:Inode) (i:Int):bA (aH t x) i+((aD t x.ino).map fun y=>(fQ y).count i).getD 0=bA t i+(fQ x).count i:=afj _ h x
theorem ais {t:Tab} (h:UpI t.inodes) (k i:Int):bA (iF t k) i+((aD t k).map fun y=>(fQ y).count i).getD 0=bA t i:=amU _ h k
theorem ac4 {t:Tab} (h:UpI t.inodes) (x:Inode):iC (aH t x)+((aD t x.ino).map fun x=>32+x.data.length+(x.attrs.map fun a=>a.name.length+a.val.length).sum).getD 0=iC t+(32+x.data.length+(x.attrs.map fun a=>a.name.length+a.val.length).sum):=afj _ h x
theorem sM {t:Tab} (h:UpI t.inodes) (x:Inode):x ∈ t.inodes↔aD t x.ino=some x:=⟨ac1 h,fun e=>(aO e).1⟩
theorem akL {t u:Tab} (ht:UpI t.inodes) (hu:UpI u.inodes) (hn:t.next=u.next) (h:∀ i,aD t i=aD u i):t=u:=by
 have key:∀ (l m:List Inode),UpI l→UpI m→(∀ x,x ∈ l↔x ∈ m)→l=m:=by
  intro l
  induction l with
  | nil=>
   intro m _ _ h
   cases m with
   | nil=>rfl
   | cons y m=>exact absurd ((h y).2 (by simp)) (by simp)
  | cons x l ih=>
   intro m hl hm h
   cases m with
   | nil=>exact absurd ((h x).1 (by simp)) (by simp)
   | cons y m=>
    obtain ⟨a1,a2⟩:=lC1.1 hl
    obtain ⟨b1,b2⟩:=lC1.1 hm
    have e:x=y:=by
     have h1:=(h x).1 (by simp)
     have h2:=(h y).2 (by simp)
     rcases lH.1 h1 with h1 | h1
     ·exact h1
     rcases lH.1 h2 with h2 | h2
     ·exact h2.symm
     have:=a1 y h2; have:=b1 x h1; omega
    subst e
    congr 1
    refine ih m a2 b2 fun z=>⟨fun hz=>?_,fun hz=>?_⟩
    ·rcases lH.1 ((h z).1 (by simp [hz])) with rfl | h'
     ·exact absurd (a1 _ hz) (by omega)
     ·exact h'
    ·rcases lH.1 ((h z).2 (by simp [hz])) with rfl | h'
     ·exact absurd (b1 _ hz) (by omega)
     ·exact h'
 have e:t.inodes=u.inodes:=key _ _ ht hu fun x=>by rw [sM ht,sM hu,h]
 cases t; cases u; simp_all
end
section
section
variable {α:Type} (key:α→aA)
def tD:List α→α→List α
 | [],e=>[e]
 | f::l,e=>if key e<key f then e::f::l else f::tD l e
def abT (l:List α) (n:aA):List α:=l.filter fun e=>decide (key e≠n)
abbrev UpK (l:List α):Prop:=l.Pairwise fun a b=>key a<key b
variable {key}
theorem mem_putK {l:List α} {e x:α}:x ∈ tD key l e↔x=e∨x ∈ l:=by
 induction l with
 | nil=>simp [tD]
 | cons f l ih=>
  rw [tD]
  split
  ·simp
  ·rw [lH,ih,lH]
   constructor
   ·rintro (h | h | h)
    ·exact .inr (.inl h)
    ·exact .inl h
    ·exact .inr (.inr h)
   ·rintro (h | h | h)
    ·exact .inr (.inl h)
    ·exact .inl h
    ·exact .inr (.inr h)
theorem p6 (l:List α) (e:α):(tD key l e).length=l.length+1:=by
 induction l with
 | nil=>rfl
 | cons f l ih=>
  rw [tD]
  split
  ·rfl
  ·rw [lW,ih,lW]
theorem abz {l:List α} (h:UpK key l) {e:α} (hn:∀ x ∈ l,key x≠key e):UpK key (tD key l e):=by
 induction l with
 | nil=>simp [tD,UpK]
 | cons f l ih=>
  obtain ⟨a1,a2⟩:=lC1.1 h
  rw [tD]
  split
  ·rename_i hlt
   refine lC1.2 ⟨fun x hx=>?_,h⟩
   rcases lH.1 hx with rfl | hx
   ·exact hlt
   ·exact List.lt_trans hlt (a1 x hx)
  ·rename_i hlt
   have hfe:key f<key e:=by
    rcases List.le_iff_lt_or_eq.1 (List.not_lt.1 hlt) with h' | h'
    ·exact h'
    ·exact absurd h' (hn f (by simp))
   refine lC1.2 ⟨fun x hx=>?_,ih a2 fun x hx=>hn x (by simp [hx])⟩
   rcases mem_putK.1 hx with rfl | hx
   ·exact hfe
   ·exact a1 x hx
theorem t6 {l:List α} (h:UpK key l) (n:aA):UpK key (abT key l n):=h.filter _
theorem mem_cutK {l:List α} {n:aA} {x:α}:x ∈ abT key l n↔x ∈ l∧key x≠n:=by simp [abT]
theorem aqt {l:List α} (h:UpK key l) {x y:α} (hx:x ∈ l) (hy:y ∈ l) (he:key x=key y):x=y:=by
 induction l with
 | nil=>exact absurd hx (by simp)
 | cons f l ih=>
  obtain ⟨a1,a2⟩:=lC1.1 h
  rcases lH.1 hx with hx' | hx'
  ·rcases lH.1 hy with hy' | hy'
   ·rw [hx',hy']
   ·have:=a1 y hy'; rw [← hx',he] at this; exact absurd this (lH4 _)
  ·rcases lH.1 hy with hy' | hy'
   ·have:=a1 x hx'; rw [← hy',he] at this; exact absurd this (lH4 _)
   ·exact ih a2 hx' hy'
theorem apc {l m:List α} (hl:UpK key l) (hm:UpK key m) (h:∀ x,x ∈ l↔x ∈ m):l=m:=by
 induction l generalizing m with
 | nil=>
  cases m with
  | nil=>rfl
  | cons y m=>exact absurd ((h y).2 (by simp)) (by simp)
 | cons x l ih=>
  cases m with
  | nil=>exact absurd ((h x).1 (by simp)) (by simp)
  | cons y m=>
   obtain ⟨a1,a2⟩:=lC1.1 hl
   obtain ⟨b1,b2⟩:=lC1.1 hm
   have e:x=y:=by
    have h1:=(h x).1 (by simp)
    have h2:=(h y).2 (by simp)
    rcases lH.1 h1 with h1 | h1
    ·exact h1
    rcases lH.1 h2 with h2 | h2
    ·exact h2.symm
    exact absurd (List.lt_trans (a1 y h2) (b1 x h1)) (lH4 _)
   subst e
   congr 1
   refine ih a2 b2 fun z=>⟨fun hz=>?_,fun hz=>?_⟩
   ·rcases lH.1 ((h z).1 (by simp [hz])) with rfl | h'
    ·exact absurd (a1 _ hz) (lH4 _)
    ·exact h'
   ·rcases lH.1 ((h z).2 (by simp [hz])) with rfl | h'
    ·exact absurd (b1 _ hz) (lH4 _)
    ·exact h'
theorem apd {l:List α} {e:α} (hn:∀ x ∈ l,key x≠key e):abT key (tD key l e) (key e)=l:=by
 induction l with
 | nil=>simp [tD,abT]
 | cons f l ih=>
  have ih:=ih fun x hx=>hn x (by simp [hx])
  have hf:=hn f (by simp)
  have all:abT key (f::l) (key e)=f::l:=by
   rw [abT,List.filter_eq_self]
   intro x hx
   simpa using hn x hx
  rw [tD]
  split
  ·rw [abT,lR3,lI (by simp)]; exact all
  ·rw [abT,lR3,lF (by simpa using hf)]
   exact congrArg (f::·) ih
theorem akM {l:List α} (h:UpK key l) {e:α} (he:e ∈ l):tD key (abT key l (key e)) e=l:=by
 refine apc (key:=key) (abz (t6 h _) fun x hx=>(mem_cutK.1 hx).2) h fun x=>?_
 rw [mem_putK,mem_cutK]
 constructor
 ·rintro (rfl | h')
  ·exact he
  ·exact h'.1
 ·intro hx
  by_cases hk:key x=key e
  ·exact .inl (aqt h hx he hk)
  ·exact .inr ⟨hx,hk⟩
theorem amV {l:List α} (h:UpK key l) {e:α} (he:e ∈ l):(abT key l (key e)).length+1=l.length:=by
 have:=congrArg List.length (akM h he)
 rw [p6] at this
 exact this
end
def c9 (l:List Ent) (e:Ent):List Ent:=tD Ent.name l e
def cV (l:List Ent) (n:aA):List Ent:=abT Ent.name l n
theorem kP (l:List Ent) (e:Ent) (i:Int):((c9 l e).map Ent.ino).count i=(l.map Ent.ino).count i+if e.ino=i then 1 else 0:=by
 induction l with
 | nil=>by_cases h:e.ino=i <;> simp [c9,tD,h]
 | cons f l ih=>
  unfold c9 at ih ⊢
  rw [tD]
  split
  ·rw [lO,List.count_cons]
   by_cases h:e.ino=i <;> simp [h]
  ·rw [lO,List.count_cons,ih,lO,List.count_cons]
   omega
theorem uS {l:List Ent} (h:UpK Ent.name l) {e:Ent} (he:e ∈ l) (i:Int):((cV l e.name).map Ent.ino).count i+(if e.ino=i then 1 else 0)=(l.map Ent.ino).count i:=by
 have:=kP (cV l e.name) e i
 rw [← this]
 exact congrArg (fun l=>(List.map Ent.ino l).count i) (akM h he)
theorem mS {x:Inode} (h:UpK Ent.name x.ents) {n:aA} {j:Int} (hn:∀ e ∈ x.ents,e.name≠n) (m:aA) :
  bD { x with ents:=c9 x.ents ⟨n,j⟩ } m=if m=n then j else bD x m:=by
 have hu:UpK Ent.name (c9 x.ents ⟨n,j⟩):=abz h hn
 by_cases hm:m=n
 ·rw [lF hm]
  subst hm
  exact fI (x:={ x with ents:=c9 x.ents ⟨m,j⟩ }) hu (e:=⟨m,j⟩) (mem_putK.2 (.inl rfl))
 ·rw [lI hm]
  unfold bD
  congr 2
  show (c9 x.ents ⟨n,j⟩).find? _=x.ents.find? _
  generalize x.ents=l at *
  clear hu
  induction l with
  | nil=>simp [c9,tD,Ne.symm hm]
  | cons f l ih=>
   have ih:=ih (lC1.1 h).2 fun e he=>hn e (by simp [he])
   unfold c9 at ih ⊢
   rw [tD]
   split
   ·rw [lE1 (by simpa using Ne.symm hm)]
   ·by_cases hf:f.name=m
    ·rw [lU1 (by simpa using hf),lU1 (by simpa using hf)]
    ·rw [lE1 (by simpa using hf),lE1 (by simpa using hf)]; exact ih
theorem o7 (x:Inode) (n m:aA):bD { x with ents:=cV x.ents n } m=if m=n then 0 else bD x m:=by
 unfold bD
 show (Option.map Ent.ino ((cV x.ents n).find? _)).getD 0=_
 generalize x.ents=l
 induction l with
 | nil=>simp [cV,abT]
 | cons f l ih=>
  unfold cV abT at ih ⊢
  rw [lR3]
  by_cases hf:f.name=n
  ·rw [lI (by simp [hf]),ih]
   by_cases hm:m=n
   ·rw [lF hm,lF hm]
   ·rw [lI hm,lI hm,lE1 (by simp [hf]; exact Ne.symm hm)]
  ·rw [lF (by simpa using hf)]
   by_cases hm:f.name=m
   ·rw [lU1 (by simpa using hm),lI (by rw [← hm]; exact hf),lU1 (by simpa using hm)]
   ·rw [lE1 (by simpa using hm),ih,lE1 (by simpa using hm)]
end
theorem xU {t:Tab} (h1:TabOk t) (h2:∀ x ∈ t.inodes,((bA t x.ino:Nat):Int)=x.links) (h3:∀ x ∈ t.inodes,∀ e ∈ x.ents,(aD t e.ino).isSome=true)
  (h4:∀ x ∈ t.inodes,∃ l,aT (aD t) l 1=some x.ino):TreeOk t:=by
 have hs:∀ l i,aT (aD t) l 1=some i→(aD t i).isSome=true:=by
  intro l i hw
  rcases lE3 l with rfl | ⟨a,n,rfl⟩
  ·simp only [aT,Option.some.injEq] at hw
   subst hw
   obtain ⟨x,hx,_⟩:=h1.root
   rw [hx]; rfl
  ·rw [lF3,cU] at hw
   cases ha:aT (aD t) a 1 with
   | none=>rw [ha] at hw; exact absurd hw (by simp)
   | some p=>
    rw [ha] at hw
    obtain ⟨y,y1,y2,y3,y4⟩:=(iU _ n p i).1 hw
    obtain ⟨e,he,e1,e2⟩:=tY (x:=y) (n:=n) (by rw [y3]; exact y4)
    have:=h3 y (aO y1).1 e he
    rwa [e2,y3] at this
 refine ⟨h1,ac2 h1.up fun x hx=>?_,h2,h3⟩
 obtain ⟨l,hl⟩:=h4 x hx
 exact aby hs l _ hl
theorem a8 {M:IM} {i:Int} {x:Inode} (h:M i=some x) (n:aA):cA M i n=if x.kind=2∧bD x n≠0 then some (bD x n) else none:=by rw [cA,h]
theorem nS {M M':IM} {i:Int} (h:M' i=M i) (n:aA):cA M' i n=cA M i n:=by rw [cA,cA,h]
theorem agP {t:Tab} {i:Int} (h:0<bA t i):∃ y ∈ t.inodes,y.kind=2∧∃ f ∈ y.ents,f.ino=i:=by
 obtain ⟨y,hy,hc⟩:=apa _ _ h
 by_cases hk:y.kind=2
 ·rw [fQ,lF hk] at hc
  obtain ⟨f,hf,e⟩:=lF2.1 (List.count_pos_iff.1 hc)
  exact ⟨y,hy,hk,f,hf,e⟩
 ·rw [fQ,lI hk] at hc
  exact absurd hc (by simp)
theorem akN {t:Tab} {i:Int} (h:bA t i=0) {y:Inode} (hy:y ∈ t.inodes) (hk:y.kind=2) {f:Ent} (hf:f ∈ y.ents):f.ino≠i:=by
 intro e
 have:=mP (fun x:Inode=>(fQ x).count i) t.inodes hy
 unfold bA at h
 have hc:0<(fQ y).count i:=by rw [fQ,lF hk]; exact List.count_pos_iff.2 (lF2.2 ⟨f,hf,e⟩)
 omega
def cL (D:Inode) (n:aA):Inode:={ D with ents:=cV D.ents n }
def cS (D:Inode) (n:aA) (j:Int):Inode:={ D with ents:=c9 D.ents ⟨n,j⟩ }
theorem xV {D:Inode} (h:InodeOk D) (n:aA):InodeOk (cL D n):=by
 obtain ⟨a1,a2,a3,a4,a5,a6,a7⟩:=h
 refine ⟨a1,a2,a3,a4,⟨?_,fun e he=>a5.ok e (mem_cutK.1 he).1,t6 a5.up n⟩,a6,?_⟩
 ·have:(cV D.ents n).length≤D.ents.length:=lS2 _ _
  have:=a5.len
  show (cV D.ents n).length≤10
  omega
 ·rcases a7 with ⟨b1,b2⟩ | b
  ·exact .inl ⟨b1,by show cV D.ents n=[]; rw [b2]; rfl⟩
  ·exact .inr b
theorem xW {D:Inode} (h:InodeOk D) (hk:D.kind=2) {n:aA} {j:Int} (hn:bB n=true) (hj:2≤j∧j≤1000) (hl:D.ents.length<10) (hf:∀ e ∈ D.ents,e.name≠n):InodeOk (cS D n j):=by
 obtain ⟨a1,a2,a3,a4,a5,a6,a7⟩:=h
 refine ⟨a1,a2,a3,a4,⟨?_,fun e he=>?_,abz a5.up hf⟩,a6,?_⟩
 ·show (c9 D.ents ⟨n,j⟩).length≤10
  unfold c9
  rw [p6]; omega
 ·rcases mem_putK.1 he with rfl | he
  ·exact ⟨hn,hj⟩
  ·exact a5.ok e he
 ·rcases a7 with ⟨b1,_⟩ | b
  ·omega
  ·exact .inr b
structure Spot (t:Tab) (D:Inode) (d:List aA):Prop where
 mem:D ∈ t.inodes
 kind:D.kind=2
 at':aT (aD t) d 1=some D.ino
theorem iG {t:Tab} (h:TreeOk t) {D:Inode} {d:List aA} (s:Spot t D d):∀ a,cZ (cA (aD t)) a 1=some D.ino→a=d:=fun a ha=>
 rA h a d D.ino D (gN h s.mem) (o6 h s.mem s.kind) (by rw [c5]; exact ha) s.at'
def oF (X:Inode):Inode:={ X with links:=X.links-1 }
def bM (t:Tab) (D:Inode) (n:aA) (X:Inode):Tab:=if X.links=1 then iF (aH t (cL D n)) X.ino else aH (aH t (cL D n)) (oF X)
theorem afk {t:Tab} (h:TreeOk t) {D X:Inode} {d:List aA} (s:Spot t D d) {e:Ent} (he:e ∈ D.ents) (hX:aD t e.ino=some X) (hE:X.ents=[]) (hk1:X.kind=1∨X.links=1) :
  TreeOk (bM t D e.name X)∧(∀ l,aT (aD (bM t D e.name X)) l 1=if l=d++[e.name] then none else aT (aD t) l 1) ∧
  (∀ i,aD (bM t D e.name X) i=if i=X.ino then (if X.links=1 then none else some (oF X)) else if i=D.ino then some (cL D e.name) else aD t i):=by
 obtain ⟨X1,X2⟩:=aO hX
 have hD:=gN h s.mem
 have hne:X.ino≠D.ino:=by
  intro hc
  rw [← X2,hc,hD] at hX
  injection hX with hX
  rw [hX,hE] at he
  exact absurd he (by simp)
 have up1:=fR h.tab.up (cL D e.name)
 have up':UpI (bM t D e.name X).inodes:=by
  unfold bM
  split
  ·exact apb up1 _
  ·exact fR up1 _
 have map1:∀ i,aD (aH t (cL D e.name)) i=if D.ino=i then some (cL D e.name) else aD t i:=fun i=>bY h.tab.up _ i
 have map':∀ i,aD (bM t D e.name X) i=if i=X.ino then (if X.links=1 then none else some (oF X)) else if i=D.ino then some (cL D e.name) else aD t i:=by
  intro i
  unfold bM
  split
  ·rw [air,map1]
   by_cases h1:i=X.ino
   ·rw [lF h1.symm,lF h1]
   ·rw [lI (Ne.symm h1),lI h1]
    by_cases h2:i=D.ino
    ·rw [lF h2.symm,lF h2]
    ·rw [lI (Ne.symm h2),lI h2]
  ·rw [bY up1,map1]
   show (if X.ino=i then _ else _)=_
   by_cases h1:i=X.ino
   ·rw [lF h1.symm,lF h1]
   ·rw [lI (Ne.symm h1),lI h1]
    by_cases h2:i=D.ino
    ·rw [lF h2.symm,lF h2]
    ·rw [lI (Ne.symm h2),lI h2]
 have zX:∀ m,bD X m=0:=fun m=>by unfold bD; rw [hE]; rfl
 have zL:∀ m,bD (oF X) m=0:=zX
 have st:∀ i m,i≠D.ino∨m≠e.name→cA (aD (bM t D e.name X)) i m=cA (aD t) i m:=by
  intro i m him
  by_cases h1:i=X.ino
  ·rw [a8 (M:=aD t) (x:=X) (by rw [h1,X2]; exact hX) m,lI (by simp [zX])]
   by_cases hl:X.links=1
   ·rw [cA,map',lF h1,lF hl]
   ·rw [a8 (x:=oF X) (by rw [map',lF h1,lI hl]) m,lI (by simp [zL])]
  ·by_cases h2:i=D.ino
   ·have hm:=him.resolve_left (by simp [h2])
    rw [a8 (x:=cL D e.name) (by rw [map',lI h1,lF h2]) m,a8 (M:=aD t) (x:=D) (by rw [h2]; exact hD) m]
    have:bD (cL D e.name) m=bD D m:=by unfold cL; rw [o7,if_neg hm]
    rw [this]; rfl
   ·exact nS (by rw [map',lI h1,lI h2]) m
 have stn:cA (aD (bM t D e.name X)) D.ino e.name=none:=by
  rw [a8 (x:=cL D e.name) (by rw [map',lI (Ne.symm hne),lF rfl]) e.name]
  have:bD (cL D e.name) e.name=0:=by unfold cL; rw [o7,if_pos rfl]
  rw [this,lI (by simp)]
 have hu:=iG h s
 have hd:cZ (cA (aD t)) d 1=some D.ino:=by rw [← c5]; exact s.at'
 have wk:∀ l,aT (aD (bM t D e.name X)) l 1=if l=d++[e.name] then none else aT (aD t) l 1:=by
  intro l
  rw [c5,c5]
  by_cases hp:(d++[e.name]) <+: l
  ·obtain ⟨b,rfl⟩:=hp
   have e1:d++[e.name]++b=d++e.name::b:=by simp
   rw [e1,sL st hu hd,stn]
   cases b with
   | nil=>rw [lF (by simp)]; rfl
   | cons m b=>
    rw [lI (by simp)]
    show none=_
    rw [dQ,hd]
    show none=(cA (aD t) D.ino e.name).bind _
    rw [a8 hD,lF ⟨s.kind,by rw [fI (bQ h s.mem).up he]; exact o5 h s.mem e he⟩,fI (bQ h s.mem).up he]
    show none=(cA (aD t) e.ino m).bind _
    rw [a8 hX,lI (by simp [zX])]; rfl
  ·rw [f0 st hu hp,lI (by rintro rfl; exact hp (List.prefix_refl _))]
 refine ⟨?_,wk,map'⟩
 have lk1:∀ i,bA (aH t (cL D e.name)) i+(if e.ino=i then 1 else 0)=bA t i:=by
  intro i
  have a1:=gO h.tab.up (cL D e.name) i
  have a2:=uS (bQ h s.mem).up he i
  have a3:aD t (cL D e.name).ino=some D:=hD
  rw [a3] at a1
  have b1:fQ (cL D e.name)=(cV D.ents e.name).map Ent.ino:=by rw [fQ,lF (show (cL D e.name).kind=2 from s.kind)]; rfl
  have b2:fQ D=D.ents.map Ent.ino:=by rw [fQ,lF s.kind]
  simp only [lC,lA1,b1,b2] at a1
  omega
 have hXD:aD (aH t (cL D e.name)) X.ino=some X:=by rw [map1,lI (Ne.symm hne),X2]; exact hX
 have nX:fQ X=[]:=by unfold fQ; rw [hE]; split <;> rfl
 have nL:fQ (oF X)=[]:=nX
 have lk:∀ i,bA (bM t D e.name X) i+(if e.ino=i then 1 else 0)=bA t i:=by
  intro i
  rw [← lk1 i]
  unfold bM
  split
  ·have:=ais up1 X.ino i
   rw [hXD] at this
   simp only [lC,lA1,nX,List.count_nil] at this
   omega
  ·have:=gO up1 (oF X) i
   have e2:aD (aH t (cL D e.name)) (oF X).ino=some X:=hXD
   rw [e2,nL] at this
   simp only [lC,lA1,nX,List.count_nil] at this
   omega
 have lX:=h.links X X1
 have mem':∀ x,x ∈ (bM t D e.name X).inodes→(x=oF X∧X.links≠1)∨(x=cL D e.name)∨(x ∈ t.inodes∧x.ino≠X.ino∧x.ino≠D.ino):=by
  intro x hx
  have hx':=(sM up' x).1 hx
  rw [map'] at hx'
  split at hx'
  ·split at hx'
   ·exact absurd hx' (by simp)
   ·rename_i hl
    injection hx' with hx'
    exact .inl ⟨hx'.symm,hl⟩
  ·split at hx'
   ·injection hx' with hx'
    exact .inr (.inl hx'.symm)
   ·rename_i n1 n2
    exact .inr (.inr ⟨(aO hx').1,n1,n2⟩)
 have okX:=(h.tab.ok X X1)
 have okD:=(h.tab.ok D s.mem)
 have len':(bM t D e.name X).inodes.length≤30:=by
  have a1:=nR h.tab.up (cL D e.name)
  have a2:(t.inodes.find? fun y=>decide (y.ino=(cL D e.name).ino))=some D:=hD
  rw [a2] at a1
  simp only [lU2,lR] at a1
  have a0:=h.tab.len
  unfold bM
  split
  ·have:(iF (aH t (cL D e.name)) X.ino).inodes.length≤(aH t (cL D e.name)).inodes.length:=lS2 _ _
   have e4:(aH t (cL D e.name)).inodes.length=(bW t.inodes (cL D e.name)).length:=rfl
   omega
  ·have a3:=nR up1 (oF X)
   have a4:((aH t (cL D e.name)).inodes.find? fun y=>decide (y.ino=(oF X).ino))=some X:=hXD
   rw [a4] at a3
   simp only [lU2,lR] at a3
   have e4:(aH t (cL D e.name)).inodes.length=(bW t.inodes (cL D e.name)).length:=rfl
   show (bW (aH t (cL D e.name)).inodes (oF X)).length≤30
   omega
 have next':(bM t D e.name X).next=t.next:=by unfold bM; split <;> rfl
 have root1:X.ino≠1:=by
  have:=((bQ h s.mem).ok e he).2.1
  omega
 refine xU ⟨len',by rw [next']; exact h.tab.next,fun x hx=>?_,up',?_⟩ (fun x hx=>?_) (fun x hx f hf=>?_) fun x hx=>?_
 ·rw [next']
  rcases mem' x hx with ⟨rfl,hl⟩ | rfl | ⟨hx,_⟩
  ·refine ⟨?_,okX.2⟩
   obtain ⟨b1,b2,b3,b4,b5,b6,b7⟩:=okX.1
   have:X.links≠0:=fun h0=>root1 (b3.1 h0)
   refine ⟨b1,by show 0≤X.links-1∧X.links-1≤1000; omega,?_,b4,b5,b6,.inl ⟨hk1.resolve_right hl,hE⟩⟩
   show X.links-1=0↔X.ino=1
   constructor
   ·intro h0; omega
   ·intro h0; exact absurd h0 root1
  ·exact ⟨xV okD.1 _,okD.2⟩
  ·exact h.tab.ok x hx
 ·obtain ⟨r,r1,r2,_⟩:=dM h
  by_cases hr:(1:Int)=D.ino
  ·exact ⟨cL D e.name,by rw [map',lI (Ne.symm root1),lF hr],s.kind⟩
  ·exact ⟨r,by rw [map',lI (Ne.symm root1),lI hr]; exact r1,r2⟩
 ·have a1:=lk x.ino
  rcases mem' x hx with ⟨rfl,hl⟩ | rfl | ⟨hx,n1,_⟩
  ·have e5:(oF X).ino=X.ino:=rfl
   rw [e5] at a1 ⊢
   rw [lF X2.symm] at a1
   show _=X.links-1
   omega
  ·have e5:(cL D e.name).ino=D.ino:=rfl
   rw [e5] at a1 ⊢
   rw [lI (by rw [← X2]; exact hne)] at a1
   have:=h.links D s.mem
   show _=D.links
   omega
  ·rw [lI (by rw [← X2]; exact Ne.symm n1)] at a1
   have:=h.links x hx
   omega
 ·have old:∃ y ∈ t.inodes,f ∈ y.ents:=by
   rcases mem' x hx with ⟨rfl,_⟩ | rfl | ⟨hx,_⟩
   ·exact ⟨X,X1,hf⟩
   ·exact ⟨D,s.mem,(mem_cutK.1 hf).1⟩
   ·exact ⟨x,hx,hf⟩
  obtain ⟨y,hy,hfy⟩:=old
  rw [map']
  by_cases h1:f.ino=X.ino
  ·rw [lF h1]
   split
   ·rename_i hl
    exfalso
    have a1:=lk X.ino
    rw [lF X2.symm] at a1
    have hk:x.kind=2:=by
     rcases mem' x hx with ⟨rfl,_⟩ | rfl | ⟨hx,_⟩
     ·exact absurd hf (by show ¬ f ∈ X.ents; rw [hE]; simp)
     ·exact s.kind
     ·apply Classical.byContradiction
      intro hk
      rw [(mQ h hx hk).1] at hf
      exact absurd hf (by simp)
    exact akN (t:=bM t D e.name X) (i:=X.ino) (by omega) hx hk hf h1
   ·rfl
  ·rw [lI h1]
   split
   ·rfl
   ·exact h.there y hy f hfy
 ·have other:∀ y,y ∈ t.inodes→y.ino≠X.ino→∃ l,aT (aD (bM t D e.name X)) l 1=some y.ino:=by
   intro y hy hn
   obtain ⟨l,hl⟩:=iD h hy
   refine ⟨l,?_⟩
   rw [wk,lI,hl]
   rintro rfl
   rw [cU,s.at'] at hl
   obtain ⟨z,z1,z2,z3,z4⟩:=(iU _ _ _ _).1 hl
   rw [hD] at z1
   injection z1 with z1
   subst z1
   rw [fI (bQ h s.mem).up he] at z3
   exact hn (by rw [← z3,X2])
  rcases mem' x hx with ⟨rfl,hl⟩ | rfl | ⟨hx,n1,_⟩
  ·have a1:=lk X.ino
   rw [lF X2.symm] at a1
   have hpos:X.links≠0:=fun h0=>root1 (okX.1.root.1 h0)
   obtain ⟨y,hy,ky,f,hf,e5⟩:=agP (t:=bM t D e.name X) (i:=X.ino) (by omega)
   have hyX:y.ino≠X.ino:=by
    intro hc
    have hy':=(sM up' y).1 hy
    rw [map',lF hc,lI hl] at hy'
    injection hy' with hy'
    rw [← hy'] at hf
    exact absurd hf (by show ¬ f ∈ X.ents; rw [hE]; simp)
   have hyo:∃ y' ∈ t.inodes,y'.ino=y.ino:=by
    rcases mem' y hy with ⟨h6,_⟩ | rfl | ⟨h6,_⟩
    ·exact absurd (by rw [h6]; rfl) hyX
    ·exact ⟨D,s.mem,rfl⟩
    ·exact ⟨y,h6,rfl⟩
   obtain ⟨y',hy',ey⟩:=hyo
   obtain ⟨l,hl'⟩:=other y' hy' (by rw [ey]; exact hyX)
   refine ⟨l++[f.name],?_⟩
   rw [cU,hl',ey]
   have upy:UpK Ent.name y.ents:=by
    rcases mem' y hy with ⟨h6,_⟩ | rfl | ⟨h6,_⟩
    ·exact absurd (by rw [h6]; rfl) hyX
    ·exact t6 (bQ h s.mem).up _
    ·exact (bQ h h6).up
   refine (iU _ _ _ _).2 ⟨y,(sM up' y).1 hy,ky,by rw [fI upy hf]; exact e5,?_⟩
   show X.ino≠0
   have:=okX.1.ino
   omega
  ·exact other D s.mem (Ne.symm hne)
  ·exact other x hx n1
def yW (i k:Int):Inode:={ ino:=i,kind:=k,links:=1,data:=[],ents:=[],attrs:=[] }
def o8 (t:Tab) (D:Inode) (n:aA) (k:Int):Tab:={ inodes:=(aH (aH t (cS D n t.next)) (yW t.next k)).inodes,next:=t.next+1 }
theorem ac5 {t:Tab} (h:TreeOk t) {D:Inode} {d:List aA} (s:Spot t D d) {n:aA} {k:Int} (hn:bB n=true) (hf:bD D n=0) (hl:D.ents.length<10) (hi:t.inodes.length<30)
  (hx:t.next<1000) (hk:k=1∨k=2) :
  TreeOk (o8 t D n k)∧(∀ l,aT (aD (o8 t D n k)) l 1=if l=d++[n] then some t.next else aT (aD t) l 1) ∧
  (∀ i,aD (o8 t D n k) i=if i=t.next then some (yW t.next k) else if i=D.ino then some (cS D n t.next) else aD t i):=by
 have hD:=gN h s.mem
 have hfn:∀ e ∈ D.ents,e.name≠n:=(abx (o5 h s.mem)).1 hf
 have hnext:aD t t.next=none:=by
  cases e:aD t t.next with
  | none=>rfl
  | some y=>
   obtain ⟨y1,y2⟩:=aO e
   have:=(h.tab.ok y y1).2
   omega
 have hne:D.ino≠t.next:=by have:=(h.tab.ok D s.mem).2; omega
 have up1:=fR h.tab.up (cS D n t.next)
 have up':UpI (o8 t D n k).inodes:=fR up1 (yW t.next k)
 have map1:∀ i,aD (aH t (cS D n t.next)) i=if D.ino=i then some (cS D n t.next) else aD t i:=fun i=>bY h.tab.up _ i
 have map':∀ i,aD (o8 t D n k) i=if i=t.next then some (yW t.next k) else if i=D.ino then some (cS D n t.next) else aD t i:=by
  intro i
  have e0:aD (o8 t D n k) i=aD (aH (aH t (cS D n t.next)) (yW t.next k)) i:=rfl
  rw [e0,bY up1,map1]
  show (if t.next=i then _ else _)=_
  by_cases h1:i=t.next
  ·rw [lF h1.symm,lF h1]
  ·rw [lI (Ne.symm h1),lI h1]
   by_cases h2:i=D.ino
   ·rw [lF h2.symm,lF h2]
   ·rw [lI (Ne.symm h2),lI h2]
 have zN:∀ m,bD (yW t.next k) m=0:=fun m=>rfl
 have st:∀ i m,i≠D.ino∨m≠n→cA (aD (o8 t D n k)) i m=cA (aD t) i m:=by
  intro i m him
  by_cases h1:i=t.next
  ·rw [a8 (x:=yW t.next k) (by rw [map',lF h1]) m,lI (by simp [zN]),cA,h1,hnext]
  ·by_cases h2:i=D.ino
   ·have hm:=him.resolve_left (by simp [h2])
    rw [a8 (x:=cS D n t.next) (by rw [map',lI h1,lF h2]) m,a8 (M:=aD t) (x:=D) (by rw [h2]; exact hD) m]
    have:bD (cS D n t.next) m=bD D m:=by unfold cS; rw [mS (bQ h s.mem).up hfn,if_neg hm]
    rw [this]; rfl
   ·exact nS (by rw [map',lI h1,lI h2]) m
 have hn2:=h.tab.next
 have stn:cA (aD (o8 t D n k)) D.ino n=some t.next:=by
  rw [a8 (x:=cS D n t.next) (by rw [map',lI hne,lF rfl]) n]
  have:bD (cS D n t.next) n=t.next:=by unfold cS; rw [mS (bQ h s.mem).up hfn,if_pos rfl]
  rw [this,lF ⟨s.kind,by omega⟩]
 have hu:=iG h s
 have hd:cZ (cA (aD t)) d 1=some D.ino:=by rw [← c5]; exact s.at'
 have off:cA (aD t) D.ino n=none:=by rw [a8 hD,hf,lI (by simp)]
 have wk:∀ l,aT (aD (o8 t D n k)) l 1=if l=d++[n] then some t.next else aT (aD t) l 1:=by
  intro l
  rw [c5,c5]
  by_cases hp:(d++[n]) <+: l
  ·obtain ⟨b,rfl⟩:=hp
   have e1:d++[n]++b=d++n::b:=by simp
   rw [e1,sL st hu hd,stn]
   cases b with
   | nil=>rw [lF (by simp)]; rfl
   | cons m b=>
    rw [lI (by simp)]
    show (cA (aD (o8 t D n k)) t.next m).bind _=_
    rw [a8 (x:=yW t.next k) (by rw [map',lF rfl]) m,lI (by simp [zN]),dQ,hd]
    show none=(cA (aD t) D.ino n).bind _
    rw [off]; rfl
  ·rw [f0 st hu hp,lI (by rintro rfl; exact hp (List.prefix_refl _))]
 have wn:aT (aD t) (d++[n]) 1=none:=by
  rw [c5,dQ,hd]
  show (cA (aD t) D.ino n).bind _=none
  rw [off]; rfl
 refine ⟨?_,wk,map'⟩
 have nN:fQ (yW t.next k)=[]:=by unfold fQ; split <;> rfl
 have lk:∀ i,bA (o8 t D n k) i=bA t i+if t.next=i then 1 else 0:=by
  intro i
  have a1:=gO h.tab.up (cS D n t.next) i
  have a2:=kP D.ents ⟨n,t.next⟩ i
  have a3:aD t (cS D n t.next).ino=some D:=hD
  have a4:=gO up1 (yW t.next k) i
  have a5:aD (aH t (cS D n t.next)) (yW t.next k).ino=none:=by rw [map1]; exact (lI hne).trans hnext
  rw [a3] at a1
  rw [a5] at a4
  have b1:fQ (cS D n t.next)=(c9 D.ents ⟨n,t.next⟩).map Ent.ino:=by rw [fQ,lF (show (cS D n t.next).kind=2 from s.kind)]; rfl
  have b2:fQ D=D.ents.map Ent.ino:=by rw [fQ,lF s.kind]
  simp only [lC,lA1,lS,Option.getD_none,b1,b2,nN,List.count_nil] at a1 a4
  have e0:bA (o8 t D n k) i=bA (aH (aH t (cS D n t.next)) (yW t.next k)) i:=rfl
  have a2':(List.map Ent.ino (c9 D.ents ⟨n,t.next⟩)).count i=(D.ents.map Ent.ino).count i+if t.next=i then 1 else 0:=a2
  omega
 have l0:bA t t.next=0:=by
  apply Nat.eq_zero_of_not_pos
  intro hp
  obtain ⟨y,hy,_,f,hf',e⟩:=agP hp
  have:=h.there y hy f hf'
  rw [e,hnext] at this
  exact absurd this (by simp)
 have mem':∀ x,x ∈ (o8 t D n k).inodes→x=yW t.next k∨x=cS D n t.next∨(x ∈ t.inodes∧x.ino≠t.next∧x.ino≠D.ino):=by
  intro x hx
  have hx':=(sM up' x).1 hx
  rw [map'] at hx'
  split at hx'
  ·injection hx' with hx'; exact .inl hx'.symm
  ·split at hx'
   ·injection hx' with hx'; exact .inr (.inl hx'.symm)
   ·rename_i n1 n2
    exact .inr (.inr ⟨(aO hx').1,n1,n2⟩)
 have okD:=h.tab.ok D s.mem
 have len':(o8 t D n k).inodes.length≤30:=by
  have a1:=nR h.tab.up (cS D n t.next)
  have a2:(t.inodes.find? fun y=>decide (y.ino=(cS D n t.next).ino))=some D:=hD
  rw [a2] at a1
  simp only [lU2,lR] at a1
  have a3:=nR up1 (yW t.next k)
  have e4:(aH t (cS D n t.next)).inodes.length=(bW t.inodes (cS D n t.next)).length:=rfl
  show (bW (aH t (cS D n t.next)).inodes (yW t.next k)).length≤30
  omega
 refine xU ⟨len',by show 2≤t.next+1∧t.next+1≤1000; omega,fun x hx'=>?_,up',?_⟩ (fun x hx'=>?_) (fun x hx' f hf'=>?_) fun x hx'=>?_
 ·show InodeOk x∧x.ino<t.next+1
  rcases mem' x hx' with rfl | rfl | ⟨hx',_⟩
  ·refine ⟨⟨by show 1≤t.next∧t.next≤1000; omega,by show (0:Int)≤1∧(1:Int)≤1000; omega,?_,by show 0≤100; omega,⟨by show 0≤10; omega,fun e he=>absurd he (by simp [yW]),List.Pairwise.nil⟩,⟨by show 0≤4; omega,fun e he=>absurd he (by simp [yW]),List.Pairwise.nil⟩,?_⟩,by show t.next<t.next+1; omega⟩
   ·show (1:Int)=0↔t.next=1
    constructor
    ·intro h0; omega
    ·intro h0; omega
   ·rcases hk with rfl | rfl
    ·exact .inl ⟨rfl,rfl⟩
    ·exact .inr ⟨rfl,rfl,by show (1:Int)≤1; omega⟩
  ·refine ⟨xW okD.1 s.kind hn ⟨hn2.1,hn2.2⟩ hl hfn,?_⟩
   have:=okD.2
   show D.ino<t.next+1
   omega
  ·have:=h.tab.ok x hx'
   exact ⟨this.1,by omega⟩
 ·obtain ⟨r,r1,r2,_⟩:=dM h
  have n1:(1:Int)≠t.next:=by omega
  by_cases hr:(1:Int)=D.ino
  ·exact ⟨cS D n t.next,by rw [map',lI n1,lF hr],s.kind⟩
  ·exact ⟨r,by rw [map',lI n1,lI hr]; exact r1,r2⟩
 ·rw [lk]
  rcases mem' x hx' with rfl | rfl | ⟨hx',n1,_⟩
  ·show ((bA t t.next+(if t.next=t.next then 1 else 0):Nat):Int)=1
   rw [l0,lF rfl]; rfl
  ·have e5:(cS D n t.next).ino=D.ino:=rfl
   rw [e5,lI (Ne.symm hne)]
   exact h.links D s.mem
  ·rw [lI (Ne.symm n1)]
   exact h.links x hx'
 ·rw [map']
  have old:f.ino=t.next∨∃ y ∈ t.inodes,f ∈ y.ents:=by
   rcases mem' x hx' with rfl | rfl | ⟨hx',_⟩
   ·exact absurd hf' (by simp [yW])
   ·rcases mem_putK.1 hf' with rfl | hf'
    ·exact .inl rfl
    ·exact .inr ⟨D,s.mem,hf'⟩
   ·exact .inr ⟨x,hx',hf'⟩
  rcases old with e | ⟨y,hy,hfy⟩
  ·rw [lF e]; rfl
  ·have:=h.there y hy f hfy
   split
   ·rfl
   ·split
    ·rfl
    ·exact this
 ·have other:∀ y,y ∈ t.inodes→∃ l,aT (aD (o8 t D n k)) l 1=some y.ino:=by
   intro y hy
   obtain ⟨l,hl'⟩:=iD h hy
   refine ⟨l,?_⟩
   rw [wk,lI,hl']
   rintro rfl
   rw [wn] at hl'
   exact absurd hl' (by simp)
  rcases mem' x hx' with rfl | rfl | ⟨hx',_⟩
  ·exact ⟨d++[n],by rw [wk,lF rfl]; rfl⟩
  ·exact other D s.mem
  ·exact other x hx'
theorem t7 {α:Type} (f:α→Nat) (l:List α) (c:Nat) (h:∀ x ∈ l,f x≤c):(l.map f).sum≤l.length*c:=by
 induction l with
 | nil=>simp
 | cons x l ih=>
  have a:=h x (by simp)
  have b:=ih fun y hy=>h y (by simp [hy])
  rw [lO,lG2,lW,lW3]
  omega
theorem amW {t:Tab} (h:TabOk t) (i:Int):bA t i≤300:=by
 have a:=t7 (fun x:Inode=>(fQ x).count i) t.inodes 10 fun x hx=>by
  have h1:=(h.ok x hx).1.ents.len
  have h2:(fQ x).count i≤(fQ x).length:=List.count_le_length
  have h3:(fQ x).length≤x.ents.length:=by unfold fQ; split <;> simp
  omega
 have b:=h.len
 have c:bA t i=(t.inodes.map fun x:Inode=>(fQ x).count i).sum:=rfl
 have:t.inodes.length*10≤30*10:=lI1 10 b
 omega
def eI (X:Inode):Inode:={ X with links:=X.links+1 }
def i9 (t:Tab) (D:Inode) (n:aA) (X:Inode):Tab:=aH (aH t (cS D n X.ino)) (eI X)
theorem ac6 {t:Tab} (h:TreeOk t) {D X:Inode} {d:List aA} (s:Spot t D d) {n:aA} (hn:bB n=true) (hf:bD D n=0) (hl:D.ents.length<10) (X1:X ∈ t.inodes) (kX:X.kind=1) :
  TreeOk (i9 t D n X)∧(∀ l,aT (aD (i9 t D n X)) l 1=if l=d++[n] then some X.ino else aT (aD t) l 1) ∧
  (∀ i,aD (i9 t D n X) i=if i=X.ino then some (eI X) else if i=D.ino then some (cS D n X.ino) else aD t i):=by
 have hD:=gN h s.mem
 have hX:=gN h X1
 have kX2:¬ X.kind=2:=by omega
 have hE:=(mQ h X1 kX2).1
 have hfn:∀ e ∈ D.ents,e.name≠n:=(abx (o5 h s.mem)).1 hf
 have okX:=h.tab.ok X X1
 have okD:=h.tab.ok D s.mem
 have root1:X.ino≠1:=by
  obtain ⟨r,r1,r2,_⟩:=dM h
  intro hc
  rw [hc,r1] at hX
  injection hX with hX
  rw [hX] at r2
  omega
 have hne:D.ino≠X.ino:=by
  intro hc
  rw [← hc,hD] at hX
  injection hX with hX
  have:=s.kind
  rw [hX] at this
  omega
 have up1:=fR h.tab.up (cS D n X.ino)
 have up':UpI (i9 t D n X).inodes:=fR up1 (eI X)
 have map1:∀ i,aD (aH t (cS D n X.ino)) i=if D.ino=i then some (cS D n X.ino) else aD t i:=fun i=>bY h.tab.up _ i
 have map':∀ i,aD (i9 t D n X) i=if i=X.ino then some (eI X) else if i=D.ino then some (cS D n X.ino) else aD t i:=by
  intro i
  unfold i9
  rw [bY up1,map1]
  show (if X.ino=i then _ else _)=_
  by_cases h1:i=X.ino
  ·rw [lF h1.symm,lF h1]
  ·rw [lI (Ne.symm h1),lI h1]
   by_cases h2:i=D.ino
   ·rw [lF h2.symm,lF h2]
   ·rw [lI (Ne.symm h2),lI h2]
 have st:∀ i m,i≠D.ino∨m≠n→cA (aD (i9 t D n X)) i m=cA (aD t) i m:=by
  intro i m him
  by_cases h1:i=X.ino
  ·rw [a8 (x:=eI X) (by rw [map',lF h1]) m,a8 (M:=aD t) (x:=X) (by rw [h1]; exact hX) m]; rfl
  ·by_cases h2:i=D.ino
   ·have hm:=him.resolve_left (by simp [h2])
    rw [a8 (x:=cS D n X.ino) (by rw [map',lI h1,lF h2]) m,a8 (M:=aD t) (x:=D) (by rw [h2]; exact hD) m]
    have:bD (cS D n X.ino) m=bD D m:=by unfold cS; rw [mS (bQ h s.mem).up hfn,if_neg hm]
    rw [this]; rfl
   ·exact nS (by rw [map',lI h1,lI h2]) m
 have hx1:=okX.1.ino
 have stn:cA (aD (i9 t D n X)) D.ino n=some X.ino:=by
  rw [a8 (x:=cS D n X.ino) (by rw [map',lI hne,lF rfl]) n]
  have:bD (cS D n X.ino) n=X.ino:=by unfold cS; rw [mS (bQ h s.mem).up hfn,if_pos rfl]
  rw [this,lF ⟨s.kind,by omega⟩]
 have hu:=iG h s
 have hd:cZ (cA (aD t)) d 1=some D.ino:=by rw [← c5]; exact s.at'
 have off:cA (aD t) D.ino n=none:=by rw [a8 hD,hf,lI (by simp)]
 have wk:∀ l,aT (aD (i9 t D n X)) l 1=if l=d++[n] then some X.ino else aT (aD t) l 1:=by
  intro l
  rw [c5,c5]
  by_cases hp:(d++[n]) <+: l
  ·obtain ⟨b,rfl⟩:=hp
   have e1:d++[n]++b=d++n::b:=by simp
   rw [e1,sL st hu hd,stn]
   cases b with
   | nil=>rw [lF (by simp)]; rfl
   | cons m b=>
    rw [lI (by simp)]
    show (cA (aD (i9 t D n X)) X.ino m).bind _=_
    rw [a8 (x:=eI X) (by rw [map',lF rfl]) m,lI (by show ¬ (X.kind=2∧_); simp [kX2]),dQ,hd]
    show none=(cA (aD t) D.ino n).bind _
    rw [off]; rfl
  ·rw [f0 st hu hp,lI (by rintro rfl; exact hp (List.prefix_refl _))]
 have wn:aT (aD t) (d++[n]) 1=none:=by
  rw [c5,dQ,hd]
  show (cA (aD t) D.ino n).bind _=none
  rw [off]; rfl
 refine ⟨?_,wk,map'⟩
 have nX:fQ X=[]:=by rw [fQ,lI kX2]
 have nM:fQ (eI X)=[]:=nX
 have lk:∀ i,bA (i9 t D n X) i=bA t i+if X.ino=i then 1 else 0:=by
  intro i
  have a1:=gO h.tab.up (cS D n X.ino) i
  have a2:(List.map Ent.ino (c9 D.ents ⟨n,X.ino⟩)).count i=(D.ents.map Ent.ino).count i+if X.ino=i then 1 else 0:=kP D.ents ⟨n,X.ino⟩ i
  have a3:aD t (cS D n X.ino).ino=some D:=hD
  have a4:=gO up1 (eI X) i
  have a5:aD (aH t (cS D n X.ino)) (eI X).ino=some X:=by rw [map1]; exact (lI hne).trans hX
  rw [a3] at a1
  rw [a5] at a4
  have b1:fQ (cS D n X.ino)=(c9 D.ents ⟨n,X.ino⟩).map Ent.ino:=by rw [fQ,lF (show (cS D n X.ino).kind=2 from s.kind)]; rfl
  have b2:fQ D=D.ents.map Ent.ino:=by rw [fQ,lF s.kind]
  simp only [lC,lA1,b1,b2,nX,nM,List.count_nil] at a1 a4
  have e0:bA (i9 t D n X) i=bA (aH (aH t (cS D n X.ino)) (eI X)) i:=rfl
  omega
 have lX:=h.links X X1
 have mem':∀ x,x ∈ (i9 t D n X).inodes→x=eI X∨x=cS D n X.ino∨(x ∈ t.inodes∧x.ino≠X.ino∧x.ino≠D.ino):=by
  intro x hx
  have hx':=(sM up' x).1 hx
  rw [map'] at hx'
  split at hx'
  ·injection hx' with hx'; exact .inl hx'.symm
  ·split at hx'
   ·injection hx' with hx'; exact .inr (.inl hx'.symm)
   ·rename_i n1 n2
    exact .inr (.inr ⟨(aO hx').1,n1,n2⟩)
 have len':(i9 t D n X).inodes.length≤30:=by
  have a0:=h.tab.len
  have a1:=nR h.tab.up (cS D n X.ino)
  have a2:(t.inodes.find? fun y=>decide (y.ino=(cS D n X.ino).ino))=some D:=hD
  rw [a2] at a1
  simp only [lU2,lR] at a1
  have a3:=nR up1 (eI X)
  have a4:((aH t (cS D n X.ino)).inodes.find? fun y=>decide (y.ino=(eI X).ino))=some X:=by
   show aD (aH t (cS D n X.ino)) X.ino=some X
   rw [map1,lI hne]; exact hX
  rw [a4] at a3
  simp only [lU2,lR] at a3
  have e4:(aH t (cS D n X.ino)).inodes.length=(bW t.inodes (cS D n X.ino)).length:=rfl
  show (bW (aH t (cS D n X.ino)).inodes (eI X)).length≤30
  omega
 refine xU ⟨len',h.tab.next,fun x hx'=>?_,up',?_⟩ (fun x hx'=>?_) (fun x hx' f hf'=>?_) fun x hx'=>?_
 ·show InodeOk x∧x.ino<t.next
  rcases mem' x hx' with rfl | rfl | ⟨hx',_⟩
  ·refine ⟨?_,okX.2⟩
   obtain ⟨b1,b2,b3,b4,b5,b6,b7⟩:=okX.1
   have hb:=amW h.tab X.ino
   refine ⟨b1,by show 0≤X.links+1∧X.links+1≤1000; omega,?_,b4,b5,b6,.inl ⟨kX,hE⟩⟩
   show X.links+1=0↔X.ino=1
   constructor
   ·intro h0; omega
   ·intro h0; exact absurd h0 root1
  ·have he:X.links≠0:=fun h0=>root1 (okX.1.root.1 h0)
   exact ⟨xW okD.1 s.kind hn ⟨by omega,hx1.2⟩ hl hfn,okD.2⟩
  ·exact h.tab.ok x hx'
 ·obtain ⟨r,r1,r2,_⟩:=dM h
  by_cases hr:(1:Int)=D.ino
  ·exact ⟨cS D n X.ino,by rw [map',lI (Ne.symm root1),lF hr],s.kind⟩
  ·exact ⟨r,by rw [map',lI (Ne.symm root1),lI hr]; exact r1,r2⟩
 ·rw [lk]
  rcases mem' x hx' with rfl | rfl | ⟨hx',n1,_⟩
  ·show ((bA t X.ino+(if X.ino=X.ino then 1 else 0):Nat):Int)=X.links+1
   rw [lF rfl]; omega
  ·have e5:(cS D n X.ino).ino=D.ino:=rfl
   rw [e5,lI (Ne.symm hne)]
   exact h.links D s.mem
  ·rw [lI (Ne.symm n1)]
   exact h.links x hx'
 ·rw [map']
  have old:f.ino=X.ino∨∃ y ∈ t.inodes,f ∈ y.ents:=by
   rcases mem' x hx' with rfl | rfl | ⟨hx',_⟩
   ·exact .inr ⟨X,X1,hf'⟩
   ·rcases mem_putK.1 hf' with rfl | hf'
    ·exact .inl rfl
    ·exact .inr ⟨D,s.mem,hf'⟩
   ·exact .inr ⟨x,hx',hf'⟩
  rcases old with e | ⟨y,hy,hfy⟩
  ·rw [lF e]; rfl
  ·have:=h.there y hy f hfy
   split
   ·rfl
   ·split
    ·rfl
    ·exact this
 ·have other:∀ y,y ∈ t.inodes→∃ l,aT (aD (i9 t D n X)) l 1=some y.ino:=by
   intro y hy
   obtain ⟨l,hl'⟩:=iD h hy
   refine ⟨l,?_⟩
   rw [wk,lI,hl']
   rintro rfl
   rw [wn] at hl'
   exact absurd hl' (by simp)
  rcases mem' x hx' with rfl | rfl | ⟨hx',_⟩
  ·exact other X X1
  ·exact other D s.mem
  ·exact other x hx'
def gE (D1 D2:Inode) (n1:aA):Inode:=if D1.ino=D2.ino then cL D1 n1 else D2
def mT (t:Tab) (D1 D2:Inode) (n1 n2:aA) (j:Int):Tab:=aH (aH t (cL D1 n1)) (cS (gE D1 D2 n1) n2 j)
theorem akO {t:Tab} (h:TreeOk t) {D1 D2:Inode} {d1 d2:List aA} (s1:Spot t D1 d1) (s2:Spot t D2 d2) {e:Ent} (he:e ∈ D1.ents) {n2:aA} (hn:bB n2=true) (hf:bD D2 n2=0)
  (hl:D2.ents.length<10∨D1.ino=D2.ino) (hb:¬ (d1++[e.name]) <+: (d2++[n2])) :
  TreeOk (mT t D1 D2 e.name n2 e.ino)∧(∀ b,aT (aD (mT t D1 D2 e.name n2 e.ino)) (d2++n2::b) 1=aT (aD t) (d1++e.name::b) 1) ∧
  (∀ l,¬ (d2++[n2]) <+: l→aT (aD (mT t D1 D2 e.name n2 e.ino)) l 1=if (d1++[e.name]).isPrefixOf l then none else aT (aD t) l 1) ∧
  (∀ b,aT (aD t) (d2++n2::b) 1=none) ∧
  (∀ i,aD (mT t D1 D2 e.name n2 e.ino) i=if i=D2.ino then some (cS (gE D1 D2 e.name) n2 e.ino) else if i=D1.ino then some (cL D1 e.name) else aD t i):=by
 have hD1:=gN h s1.mem
 have hD2:=gN h s2.mem
 have same:D1.ino=D2.ino→D1=D2:=fun hc=>by rw [hc,hD2] at hD1; injection hD1 with hD1; exact hD1.symm
 have okD1:=h.tab.ok D1 s1.mem
 have okD2:=h.tab.ok D2 s2.mem
 have eok:=(bQ h s1.mem).ok e he
 have mk:(gE D1 D2 e.name).kind=2:=by unfold gE; split; exact s1.kind; exact s2.kind
 have mi:(gE D1 D2 e.name).ino=D2.ino:=by unfold gE; split; (rename_i hc; exact hc); rfl
 have ml:(gE D1 D2 e.name).links=D2.links:=by
  unfold gE; split
  ·rename_i hc; show D1.links=D2.links; rw [same hc]
  ·rfl
 have mok:InodeOk (gE D1 D2 e.name):=by unfold gE; split; exact xV okD1.1 _; exact okD2.1
 have msub:∀ f ∈ (gE D1 D2 e.name).ents,f ∈ D2.ents:=by
  intro f hf'
  unfold gE at hf'
  split at hf'
  ·rename_i hc; rw [← same hc]; exact (mem_cutK.1 hf').1
  ·exact hf'
 have mlen:(gE D1 D2 e.name).ents.length<10:=by
  unfold gE
  split
  ·have a:=amV (bQ h s1.mem).up he
   have b:=(bQ h s1.mem).len
   show (cV D1.ents e.name).length<10
   unfold cV; omega
  ·rename_i hc; exact hl.resolve_right hc
 have hf2:∀ f ∈ D2.ents,f.name≠n2:=(abx (o5 h s2.mem)).1 hf
 have mfn:∀ f ∈ (gE D1 D2 e.name).ents,f.name≠n2:=fun f hf'=>hf2 f (msub f hf')
 have up1:=fR h.tab.up (cL D1 e.name)
 have up':UpI (mT t D1 D2 e.name n2 e.ino).inodes:=fR up1 _
 have map1:∀ i,aD (aH t (cL D1 e.name)) i=if D1.ino=i then some (cL D1 e.name) else aD t i:=fun i=>bY h.tab.up _ i
 have at2:aD (aH t (cL D1 e.name)) D2.ino=some (gE D1 D2 e.name):=by
  rw [map1]
  unfold gE
  split
  ·rfl
  ·exact hD2
 have pi:(cS (gE D1 D2 e.name) n2 e.ino).ino=D2.ino:=mi
 have map':∀ i,aD (mT t D1 D2 e.name n2 e.ino) i=if i=D2.ino then some (cS (gE D1 D2 e.name) n2 e.ino) else if i=D1.ino then some (cL D1 e.name) else aD t i:=by
  intro i
  unfold mT
  rw [bY up1,map1,pi]
  by_cases h1:i=D2.ino
  ·rw [lF h1.symm,lF h1]
  ·rw [lI (Ne.symm h1),lI h1]
   by_cases h2:i=D1.ino
   ·rw [lF h2.symm,lF h2]
   ·rw [lI (Ne.symm h2),lI h2]
 have st1:∀ i m,i≠D1.ino∨m≠e.name→cA (aD (aH t (cL D1 e.name))) i m=cA (aD t) i m:=by
  intro i m him
  by_cases h2:i=D1.ino
  ·have hm:=him.resolve_left (by simp [h2])
   rw [a8 (x:=cL D1 e.name) (by rw [map1,lF h2.symm]) m,a8 (M:=aD t) (x:=D1) (by rw [h2]; exact hD1) m]
   have:bD (cL D1 e.name) m=bD D1 m:=by unfold cL; rw [o7,if_neg hm]
   rw [this]; rfl
  ·exact nS (by rw [map1,lI (Ne.symm h2)]) m
 have sn1:cA (aD (aH t (cL D1 e.name))) D1.ino e.name=none:=by
  rw [a8 (x:=cL D1 e.name) (by rw [map1,lF rfl]) e.name]
  have:bD (cL D1 e.name) e.name=0:=by unfold cL; rw [o7,if_pos rfl]
  rw [this,lI (by simp)]
 have st2:∀ i m,i≠D2.ino∨m≠n2→cA (aD (mT t D1 D2 e.name n2 e.ino)) i m=cA (aD (aH t (cL D1 e.name))) i m:=by
  intro i m him
  by_cases h2:i=D2.ino
  ·have hm:=him.resolve_left (by simp [h2])
   rw [a8 (x:=cS (gE D1 D2 e.name) n2 e.ino) (by rw [map',lF h2]) m,a8 (M:=aD (aH t (cL D1 e.name))) (x:=gE D1 D2 e.name) (by rw [h2]; exact at2) m]
   have:bD (cS (gE D1 D2 e.name) n2 e.ino) m=bD (gE D1 D2 e.name) m:=by unfold cS; rw [mS mok.ents.up mfn,if_neg hm]
   rw [this]; rfl
  ·exact nS (by rw [map',lI h2,map1]; by_cases h3:i=D1.ino; (rw [lF h3,lF h3.symm]); (rw [lI h3,lI (Ne.symm h3)])) m
 have sn2:cA (aD (mT t D1 D2 e.name n2 e.ino)) D2.ino n2=some e.ino:=by
  rw [a8 (x:=cS (gE D1 D2 e.name) n2 e.ino) (by rw [map',lF rfl]) n2]
  have:bD (cS (gE D1 D2 e.name) n2 e.ino) n2=e.ino:=by unfold cS; rw [mS mok.ents.up mfn,if_pos rfl]
  rw [this,lF ⟨mk,by omega⟩]
 have hu1:=iG h s1
 have hu2:=iG h s2
 have hd1:cZ (cA (aD t)) d1 1=some D1.ino:=by rw [← c5]; exact s1.at'
 have hd2:cZ (cA (aD t)) d2 1=some D2.ino:=by rw [← c5]; exact s2.at'
 have on1:cA (aD t) D1.ino e.name=some e.ino:=by
  rw [a8 hD1,fI (bQ h s1.mem).up he,lF ⟨s1.kind,o5 h s1.mem e he⟩]
 have off2:cA (aD t) D2.ino n2=none:=by rw [a8 hD2,hf,lI (by simp)]
 have thru:∀ b,cZ (cA (aD t)) (d1++e.name::b) 1=cZ (cA (aD t)) b e.ino:=by
  intro b
  rw [dQ,hd1]
  show (cA (aD t) D1.ino e.name).bind _=_
  rw [on1]; rfl
 have w1:∀ l,cZ (cA (aD (aH t (cL D1 e.name)))) l 1=if (d1++[e.name]).isPrefixOf l then none else cZ (cA (aD t)) l 1:=by
  intro l
  by_cases hp:(d1++[e.name]) <+: l
  ·rw [lF (lB3.2 hp)]
   obtain ⟨b,rfl⟩:=hp
   have e1:d1++[e.name]++b=d1++e.name::b:=by simp
   rw [e1,sL st1 hu1 hd1,sn1]; rfl
  ·rw [lI (by rw [lB3]; exact hp),f0 st1 hu1 hp]
 have npd2:¬ (d1++[e.name]) <+: d2:=fun hp=>hb (hp.trans (List.prefix_append _ _))
 have hd2':cZ (cA (aD (aH t (cL D1 e.name)))) d2 1=some D2.ino:=by rw [w1,lI (by rw [lB3]; exact npd2),hd2]
 have hu2':∀ a,cZ (cA (aD (aH t (cL D1 e.name)))) a 1=some D2.ino→a=d2:=by
  intro a ha
  rw [w1] at ha
  split at ha
  ·exact absurd ha (by simp)
  ·exact hu2 a ha
 have far1:∀ a,cZ (cA (aD t)) a e.ino≠some D1.ino:=by
  intro a ha
  rw [← thru a] at ha
  have:=congrArg List.length (hu1 _ ha)
  simp at this
 have b1:∀ b,cZ (cA (aD (aH t (cL D1 e.name)))) b e.ino=cZ (cA (aD t)) b e.ino:=xT st1 far1
 have far2:∀ a,cZ (cA (aD (aH t (cL D1 e.name)))) a e.ino≠some D2.ino:=by
  intro a ha
  rw [b1,← thru a] at ha
  exact npd2 ⟨a,by rw [← hu2 _ ha]; simp⟩
 have wq:∀ b,aT (aD (mT t D1 D2 e.name n2 e.ino)) (d2++n2::b) 1=aT (aD t) (d1++e.name::b) 1:=by
  intro b
  rw [c5,c5,sL st2 hu2' hd2',sn2,thru]
  show cZ _ b e.ino=_
  rw [xT st2 far2,b1]
 have wo:∀ l,¬ (d2++[n2]) <+: l→aT (aD (mT t D1 D2 e.name n2 e.ino)) l 1=if (d1++[e.name]).isPrefixOf l then none else aT (aD t) l 1:=by
  intro l hp
  rw [c5,c5,f0 st2 hu2' hp,w1]
 have wn:∀ b,aT (aD t) (d2++n2::b) 1=none:=by
  intro b
  rw [c5,dQ,hd2]
  show (cA (aD t) D2.ino n2).bind _=none
  rw [off2]; rfl
 refine ⟨?_,wq,wo,wn,map'⟩
 have lk:∀ i,bA (mT t D1 D2 e.name n2 e.ino) i=bA t i:=by
  intro i
  have a1:=gO h.tab.up (cL D1 e.name) i
  have a2:(List.map Ent.ino (cV D1.ents e.name)).count i+(if e.ino=i then 1 else 0)=(D1.ents.map Ent.ino).count i:=uS (bQ h s1.mem).up he i
  have a3:aD t (cL D1 e.name).ino=some D1:=hD1
  have a4:=gO up1 (cS (gE D1 D2 e.name) n2 e.ino) i
  rw [pi,at2] at a4
  rw [a3] at a1
  have a5:(List.map Ent.ino (c9 (gE D1 D2 e.name).ents ⟨n2,e.ino⟩)).count i=((gE D1 D2 e.name).ents.map Ent.ino).count i+if e.ino=i then 1 else 0:=kP _ ⟨n2,e.ino⟩ i
  have c1:fQ (cL D1 e.name)=(cV D1.ents e.name).map Ent.ino:=by rw [fQ,lF (show (cL D1 e.name).kind=2 from s1.kind)]; rfl
  have c2:fQ D1=D1.ents.map Ent.ino:=by rw [fQ,lF s1.kind]
  have c3:fQ (cS (gE D1 D2 e.name) n2 e.ino)=(c9 (gE D1 D2 e.name).ents ⟨n2,e.ino⟩).map Ent.ino:=by rw [fQ,lF (show (cS (gE D1 D2 e.name) n2 e.ino).kind=2 from mk)]; rfl
  have c4:fQ (gE D1 D2 e.name)=(gE D1 D2 e.name).ents.map Ent.ino:=by rw [fQ,lF mk]
  simp only [lC,lA1,c1,c2,c3,c4] at a1 a4
  have e0:bA (mT t D1 D2 e.name n2 e.ino) i=bA (aH (aH t (cL D1 e.name)) (cS (gE D1 D2 e.name) n2 e.ino)) i:=rfl
  omega
 have mem':∀ x,x ∈ (mT t D1 D2 e.name n2 e.ino).inodes→x=cS (gE D1 D2 e.name) n2 e.ino∨x=cL D1 e.name∨x ∈ t.inodes:=by
  intro x hx
  have hx':=(sM up' x).1 hx
  rw [map'] at hx'
  split at hx'
  ·injection hx' with hx'; exact .inl hx'.symm
  ·split at hx'
   ·injection hx' with hx'; exact .inr (.inl hx'.symm)
   ·exact .inr (.inr (aO hx').1)
 have len':(mT t D1 D2 e.name n2 e.ino).inodes.length≤30:=by
  have a0:=h.tab.len
  have a1:=nR h.tab.up (cL D1 e.name)
  have a2:(t.inodes.find? fun y=>decide (y.ino=(cL D1 e.name).ino))=some D1:=hD1
  rw [a2] at a1
  simp only [lU2,lR] at a1
  have a3:=nR up1 (cS (gE D1 D2 e.name) n2 e.ino)
  have a4:((aH t (cL D1 e.name)).inodes.find? fun y=>decide (y.ino=(cS (gE D1 D2 e.name) n2 e.ino).ino))=some (gE D1 D2 e.name):=by
   show aD (aH t (cL D1 e.name)) (cS (gE D1 D2 e.name) n2 e.ino).ino=_
   rw [pi]; exact at2
  rw [a4] at a3
  simp only [lU2,lR] at a3
  have e4:(aH t (cL D1 e.name)).inodes.length=(bW t.inodes (cL D1 e.name)).length:=rfl
  show (bW (aH t (cL D1 e.name)).inodes (cS (gE D1 D2 e.name) n2 e.ino)).length≤30
  omega
 have isS:∀ i,(aD t i).isSome=true→(aD (mT t D1 D2 e.name n2 e.ino) i).isSome=true:=by
  intro i hi
  rw [map']
  split
  ·rfl
  ·split
   ·rfl
   ·exact hi
 refine xU ⟨len',h.tab.next,fun x hx'=>?_,up',?_⟩ (fun x hx'=>?_) (fun x hx' f hf'=>?_) fun x hx'=>?_
 ·show InodeOk x∧x.ino<t.next
  rcases mem' x hx' with rfl | rfl | hx'
  ·exact ⟨xW mok mk hn eok.2 mlen mfn,by rw [pi]; exact okD2.2⟩
  ·exact ⟨xV okD1.1 _,okD1.2⟩
  ·exact h.tab.ok x hx'
 ·obtain ⟨r,r1,r2,_⟩:=dM h
  by_cases hr:(1:Int)=D2.ino
  ·exact ⟨cS (gE D1 D2 e.name) n2 e.ino,by rw [map',lF hr],mk⟩
  ·by_cases hr1:(1:Int)=D1.ino
   ·exact ⟨cL D1 e.name,by rw [map',lI hr,lF hr1],s1.kind⟩
   ·exact ⟨r,by rw [map',lI hr,lI hr1]; exact r1,r2⟩
 ·rw [lk]
  rcases mem' x hx' with rfl | rfl | hx'
  ·rw [pi]
   show _=(gE D1 D2 e.name).links
   rw [ml]; exact h.links D2 s2.mem
  ·exact h.links D1 s1.mem
  ·exact h.links x hx'
 ·rcases mem' x hx' with rfl | rfl | hx'
  ·rcases mem_putK.1 hf' with rfl | hf'
   ·exact isS _ (h.there D1 s1.mem e he)
   ·exact isS _ (h.there D2 s2.mem f (msub f hf'))
  ·exact isS _ (h.there D1 s1.mem f (mem_cutK.1 hf').1)
  ·exact isS _ (h.there x hx' f hf')
 ·have other:∀ y,y ∈ t.inodes→∃ l,aT (aD (mT t D1 D2 e.name n2 e.ino)) l 1=some y.ino:=by
   intro y hy
   obtain ⟨l,hl'⟩:=iD h hy
   by_cases hp:(d1++[e.name]) <+: l
   ·obtain ⟨b,rfl⟩:=hp
    have e1:d1++[e.name]++b=d1++e.name::b:=by simp
    exact ⟨d2++n2::b,by rw [wq,← e1]; exact hl'⟩
   ·refine ⟨l,?_⟩
    rw [wo,lI (by rw [lB3]; exact hp),hl']
    rintro ⟨b,rfl⟩
    have e1:d2++[n2]++b=d2++n2::b:=by simp
    rw [e1,wn] at hl'
    exact absurd hl' (by simp)
  rcases mem' x hx' with rfl | rfl | hx'
  ·rw [pi]; exact other D2 s2.mem
  ·exact other D1 s1.mem
  ·exact other x hx'
theorem sN {t:Tab} (h:TreeOk t) {X Y:Inode} (hX:X ∈ t.inodes) (e1:Y.ino=X.ino) (e2:Y.kind=X.kind) (e3:Y.links=X.links) (e4:Y.ents=X.ents) (ok:InodeOk Y) :
  TreeOk (aH t Y)∧(∀ l i,aT (aD (aH t Y)) l i=aT (aD t) l i)∧(∀ i,aD (aH t Y) i=if i=X.ino then some Y else aD t i):=by
 have aX:=gN h hX
 have up':=fR h.tab.up Y
 have map':∀ i,aD (aH t Y) i=if i=X.ino then some Y else aD t i:=by
  intro i
  rw [bY h.tab.up,e1]
  by_cases h1:i=X.ino
  ·rw [lF h1.symm,lF h1]
  ·rw [lI (Ne.symm h1),lI h1]
 have eE:∀ m,bD Y m=bD X m:=fun m=>by unfold bD; rw [e4]
 have st:cA (aD (aH t Y))=cA (aD t):=by
  funext i m
  by_cases h1:i=X.ino
  ·rw [a8 (x:=Y) (by rw [map',lF h1]) m,a8 (M:=aD t) (x:=X) (by rw [h1]; exact aX) m,eE,e2]
  ·exact nS (by rw [map',lI h1]) m
 have wk:∀ l i,aT (aD (aH t Y)) l i=aT (aD t) l i:=fun l i=>by rw [c5,c5,st]
 refine ⟨?_,wk,map'⟩
 have nb:fQ Y=fQ X:=by unfold fQ; rw [e2,e4]
 have lk:∀ i,bA (aH t Y) i=bA t i:=by
  intro i
  have a1:=gO h.tab.up Y i
  rw [e1,aX,nb] at a1
  simp only [lC,lA1] at a1
  omega
 have mem':∀ x,x ∈ (aH t Y).inodes→x=Y∨x ∈ t.inodes:=by
  intro x hx
  have hx':=(sM up' x).1 hx
  rw [map'] at hx'
  split at hx'
  ·injection hx' with hx'; exact .inl hx'.symm
  ·exact .inr (aO hx').1
 have isS:∀ i,(aD t i).isSome=true→(aD (aH t Y) i).isSome=true:=by
  intro i hi
  rw [map']
  split
  ·rfl
  ·exact hi
 have len':(aH t Y).inodes.length≤30:=by
  have a0:=h.tab.len
  have a1:=nR h.tab.up Y
  have a2:(t.inodes.find? fun y=>decide (y.ino=Y.ino))=some X:=by rw [e1]; exact aX
  rw [a2] at a1
  simp only [lU2,lR] at a1
  show (bW t.inodes Y).length≤30
  omega
 refine xU ⟨len',h.tab.next,fun x hx=>?_,up',?_⟩ (fun x hx=>?_) (fun x hx f hf=>?_) fun x hx=>?_
 ·show InodeOk x∧x.ino<t.next
  rcases mem' x hx with rfl | hx
  ·exact ⟨ok,by rw [e1]; exact (h.tab.ok X hX).2⟩
  ·exact h.tab.ok x hx
 ·obtain ⟨r,r1,r2,_⟩:=dM h
  by_cases hr:(1:Int)=X.ino
  ·refine ⟨Y,by rw [map',lF hr],?_⟩
   rw [hr,aX] at r1
   injection r1 with r1
   rw [e2,r1]; exact r2
  ·exact ⟨r,by rw [map',lI hr]; exact r1,r2⟩
 ·rw [lk]
  rcases mem' x hx with rfl | hx
  ·rw [e1,e3]; exact h.links X hX
  ·exact h.links x hx
 ·rcases mem' x hx with rfl | hx
  ·rw [e4] at hf; exact isS _ (h.there X hX f hf)
  ·exact isS _ (h.there x hx f hf)
 ·have other:∀ y,y ∈ t.inodes→∃ l,aT (aD (aH t Y)) l 1=some y.ino:=by
   intro y hy
   obtain ⟨l,hl⟩:=iD h hy
   exact ⟨l,by rw [wk]; exact hl⟩
  rcases mem' x hx with rfl | hx
  ·rw [e1]; exact other X hX
  ·exact other x hx
def j5 (t:Tab):Nat→Inode→List (List aA)
 | 0,_=>[]
 | k+1,x=>x.ents.flatMap fun e=>[e.name]::(((aD t e.ino).map (j5 t k)).getD []).map (e.name::·)
theorem p7 {t:Tab} (h:TreeOk t) (k:Nat):∀ (x:Inode),x ∈ t.inodes→∀ l,l ∈ j5 t k x↔l≠[]∧l.length≤k∧(aT (aD t) l x.ino).isSome=true:=by
 induction k with
 | zero=>
  intro x hx l
  constructor
  ·intro hl; exact absurd hl (by simp [j5])
  ·rintro ⟨h1,h2,_⟩; exact absurd (lT1.1 (Nat.le_zero.1 h2)) h1
 | succ k ih=>
  intro x hx l
  have ax:=gN h hx
  rw [j5,lJ3]
  constructor
  ·rintro ⟨e,he,hl⟩
   have kx:x.kind=2:=by
    apply Classical.byContradiction
    intro hk
    rw [(mQ h hx hk).1] at he
    exact absurd he (by simp)
   obtain ⟨y,hy⟩:=lD1.1 (h.there x hx e he)
   obtain ⟨y1,y2⟩:=aO hy
   have hw:∀ b,aT (aD t) (e.name::b) x.ino=aT (aD t) b e.ino:=fun b=>by
    rw [aT,ax]
    show (if x.kind=2∧bD x e.name≠0 then _ else none)=_
    rw [fI (bQ h hx).up he,lF ⟨kx,o5 h hx e he⟩]
   rw [hy] at hl
   simp only [lC,lA1] at hl
   rcases lH.1 hl with rfl | hl
   ·exact ⟨by simp,by simp,by rw [hw]; rfl⟩
   ·obtain ⟨b,hb,rfl⟩:=lF2.1 hl
    obtain ⟨_,b2,b3⟩:=(ih y y1 b).1 hb
    exact ⟨by simp,by simp only [lW]; omega,by rw [hw,← y2]; exact b3⟩
  ·rintro ⟨h1,h2,h3⟩
   cases l with
   | nil=>exact absurd rfl h1
   | cons n b=>
    rw [aT,ax] at h3
    simp only at h3
    by_cases hc:x.kind=2∧bD x n≠0
    ·rw [lF hc] at h3
     obtain ⟨e,he,e1,e2⟩:=tY hc.2
     refine ⟨e,he,?_⟩
     obtain ⟨y,hy⟩:=lD1.1 (h.there x hx e he)
     obtain ⟨y1,y2⟩:=aO hy
     rw [hy]
     simp only [lC,lA1]
     cases b with
     | nil=>rw [← e1]; exact List.mem_cons_self
     | cons m b=>
      refine List.mem_cons_of_mem _ (lF2.2 ⟨m::b,(ih y y1 _).2 ⟨by simp,by simpa using h2,?_⟩,by rw [e1]⟩)
      rw [y2,e2]; exact h3
    ·rw [lI hc] at h3; exact absurd h3 (by simp)
theorem ac7 {t:Tab} (h:TreeOk t) (k:Nat):∀ (x:Inode),x ∈ t.inodes→(j5 t k x).Nodup:=by
 induction k with
 | zero=>intro x _; simp [j5]
 | succ k ih=>
  intro x hx
  rw [j5,List.Nodup,List.pairwise_flatMap]
  refine ⟨fun e he=>?_,?_⟩
  ·obtain ⟨y,hy⟩:=lD1.1 (h.there x hx e he)
   obtain ⟨y1,y2⟩:=aO hy
   rw [hy]
   simp only [lC,lA1]
   refine lC1.2 ⟨fun b hb=>?_,?_⟩
   ·obtain ⟨c,hc,rfl⟩:=lF2.1 hb
    have:=((p7 h k y y1 c).1 hc).1
    intro e'
    injection e' with _ e'
    exact this e'.symm
   ·rw [List.pairwise_map]
    exact (ih y y1).imp fun hne e'=>hne (by injection e')
  ·refine (bQ h hx).up.imp fun {a b} hab u hu v hv=>?_
   have hd:∀ (e:Ent) (u:List aA),u ∈ ([e.name]::(((aD t e.ino).map (j5 t k)).getD []).map (e.name::·))→u.head?=some e.name:=by
    intro e u hu
    rcases lH.1 hu with rfl | hu
    ·rfl
    ·obtain ⟨c,_,rfl⟩:=lF2.1 hu; rfl
   rintro rfl
   have h1:=hd a u hu
   rw [hd b u hv] at h1
   injection h1 with h1
   rw [h1] at hab
   exact absurd hab (lH4 _)
def aar (t:Tab):List aA:=(((aD t 1).map (j5 t 30)).getD []).map eN
theorem ait {t:Tab} (h:TreeOk t) (s:aA):s ∈ aar t↔∃ l,l≠[]∧s=eN l∧(aT (aD t) l 1).isSome=true:=by
 obtain ⟨r,r1,_,r3⟩:=dM h
 have r4:=(aO r1).2
 rw [aar,r1]
 simp only [lC,lA1,lF2]
 constructor
 ·rintro ⟨l,hl,rfl⟩
  obtain ⟨a,_,c⟩:=(p7 h 30 r r3 l).1 hl
  exact ⟨l,a,rfl,by rw [← r4]; exact c⟩
 ·rintro ⟨l,a,rfl,c⟩
  refine ⟨l,(p7 h 30 r r3 l).2 ⟨a,?_,by rw [r4]; exact c⟩,rfl⟩
  obtain ⟨i,hi⟩:=lD1.1 c
  have:=(tZ h hi).1
  have:=h.tab.len
  omega

def inR (x a b:Int):Bool:=decide (a≤x∧x≤b)
section
theorem jI (a b:aA):strLt a b=decide (a<b):=bytesLess_eq a b
section
variable {α:Type} (p:Nat→α→Bool) (lt:α→α→Bool)
def akP (l:List α) (x:α):Nat→Bool
 | 0=>true
 | k+1=>match l[k]? with
  | none=>true
  | some y=>lt y x
def dR (l:List α) (i:Nat):Bool:=match l[i]? with
 | none=>true
 | some x=>p i x && akP lt l x i
def abA (l:List α):Bool:=(List.range l.length).all (dR p lt l)
variable {p lt}
theorem p8 {l:List α} {i:Nat} (h:i<l.length) (e:dR p lt l i=false):abA p lt l=false:=by
 rw [abA,lL4]
 exact ⟨i,by simpa using h,by simp [e]⟩
theorem j6 {l:List α} (h:∀ i,i<l.length→dR p lt l i=true):abA p lt l=true:=by
 rw [abA,lY]
 intro k hk
 exact h k (by simpa using hk)
theorem f4 {l:List α} (h:0<l.length):dR p lt l 0=p 0 l[0]:=by
 rw [dR,lK h]; simp [akP]
theorem bZ {l:List α} {i:Nat} (h:i+1<l.length):dR p lt l (i+1)=(p (i+1) l[i+1] && lt l[i] l[i+1]):=by
 rw [dR,lK h]
 simp only [akP]
 rw [lK (show i<l.length by omega)]
theorem sO (htr:∀ a b c,lt a b=true→lt b c=true→lt a c=true) (l:List α):abA p lt l=true↔(∀ i,(h:i<l.length)→p i l[i]=true)∧l.Pairwise (fun a b=>lt a b=true):=by
 constructor
 ·intro h
  have h':∀ i,i<l.length→dR p lt l i=true:=by
   intro i hi
   rw [abA,lY] at h
   exact h i (by simpa using hi)
  refine ⟨fun i hi=>?_,?_⟩
  ·have:=h' i hi
   rw [dR,lK hi] at this
   simp only [lQ] at this
   exact this.1
  ·rw [lN3]
   intro i j hi hj hij
   induction j with
   | zero=>omega
   | succ j ih=>
    have hs:=h' (j+1) hj
    rw [bZ hj,lQ] at hs
    by_cases e:i=j
    ·subst e; exact hs.2
    ·exact htr _ _ _ (ih (by omega) (by omega)) hs.2
 ·rintro ⟨h1,h2⟩
  refine j6 fun i hi=>?_
  cases i with
  | zero=>rw [f4 hi]; exact h1 0 hi
  | succ i=>
   rw [bZ hi,lQ]
   exact ⟨h1 _ hi,lN3.1 h2 i (i+1) (by omega) hi (by omega)⟩
end
theorem aqu:∀ a b c:aA,decide (a<b)=true→decide (b<c)=true→decide (a<c)=true:=by
 intro a b c h1 h2
 simp only [decide_eq_true_eq] at *
 exact List.lt_trans h1 h2
theorem afl {α:Type} {l:List α} {p:α→Prop}:(∀ i,(h:i<l.length)→p l[i])↔∀ x ∈ l,p x:=by
 constructor
 ·intro h x hx
  obtain ⟨i,hi,rfl⟩:=lV1 hx
  exact h i hi
 ·intro h i hi; exact h _ (lP hi)
def sP (a:Attr):Bool:=bB a.name && inR a.val.length 1 16
def o9 (a b:Attr):Bool:=decide (a.name<b.name)
def t8 (l:List Attr):Bool:=abA (fun _=>sP) o9 l
def mU (l:List Attr):Bool:=t8 l && decide (l.length≤4)
def agQ (e:Ent):Bool:=bB e.name && inR e.ino 2 1000
def xX (a b:Ent):Bool:=decide (a.name<b.name)
def aas (l:List Ent):Bool:=abA (fun _=>agQ) xX l
def xY (l:List Ent):Bool:=aas l && decide (l.length≤10)
def uA (x:Inode):Bool:=if x.kind=1 then decide (x.ents.length=0) else if x.kind=2 then decide (x.data.length=0) && decide (x.links≤1) else false
def dS (x:Inode):Bool:=inR x.ino 1 1000 && (inR x.links 0 1000 && (decide (x.links=0) == decide (x.ino=1)) && (decide (x.data.length≤100) && (xY x.ents && (mU x.attrs && uA x))))
def j7 (t:Tab) (x:Inode):Bool:=dS x && decide (x.ino<t.next)
def iH (a b:Inode):Bool:=decide (a.ino<b.ino)
def nT (t:Tab):Bool:=abA (fun _=>j7 t) iH t.inodes
def sQ (t:Tab):Bool:=match aD t 1 with
 | none=>false
 | some x=>decide (x.kind=2)
def aat (t:Tab):Bool:=decide (t.inodes.length≤30) && (inR t.next 2 1000 && (nT t && sQ t))
def aau (t:Tab) (x:Inode):Bool:=x.ents.all fun e=>(aD t e.ino).isSome
def mV (t:Tab) (x:Inode):Bool:=decide (x.links=(bA t x.ino:Nat)) && aau t x
def aZ (t:Tab):Bool:=aat t && (decide ((fB t).length=t.inodes.length) && t.inodes.all (mV t))
theorem j8 (x a b:Int):inR x a b=true↔a≤x∧x≤b:=by simp [inR]
theorem aiu (l:List Attr):mU l=true↔AttrsOk l:=by
 rw [mU,lQ,t8,sO (lt:=o9) (fun a b c h1 h2=>aqu a.name b.name c.name h1 h2)]
 simp only [sP,o9,lQ,decide_eq_true_eq,j8]
 rw [afl (p:=fun a:Attr=>bB a.name=true∧(1:Int)≤(a.val.length:Int)∧(a.val.length:Int)≤16)]
 constructor
 ·rintro ⟨⟨h1,h2⟩,h3⟩
  exact ⟨h3,fun a ha=>⟨(h1 a ha).1,by have:=(h1 a ha).2.1; omega,by have:=(h1 a ha).2.2; omega⟩,h2⟩
 ·rintro ⟨h3,h1,h2⟩
  exact ⟨⟨fun a ha=>⟨(h1 a ha).1,by have:=(h1 a ha).2.1; omega,by have:=(h1 a ha).2.2; omega⟩,h2⟩,h3⟩
theorem akQ (l:List Ent):xY l=true↔EntsOk l:=by
 rw [xY,lQ,aas,sO (lt:=xX) (fun a b c h1 h2=>aqu a.name b.name c.name h1 h2)]
 simp only [agQ,xX,lQ,decide_eq_true_eq,j8]
 rw [afl (p:=fun a:Ent=>bB a.name=true∧(2:Int)≤a.ino∧a.ino≤1000)]
 constructor
 ·rintro ⟨⟨h1,h2⟩,h3⟩; exact ⟨h3,h1,h2⟩
 ·rintro ⟨h3,h1,h2⟩; exact ⟨⟨h1,h2⟩,h3⟩
theorem akR (x:Inode):uA x=true↔(x.kind=1∧x.ents=[])∨(x.kind=2∧x.data=[]∧x.links≤1):=by
 unfold uA
 by_cases h1:x.kind=1
 ·rw [lF h1]
  simp only [decide_eq_true_eq,lT1]
  constructor
  ·exact fun h=>.inl ⟨h1,h⟩
  ·rintro (⟨_,h⟩ | ⟨h,_⟩)
   ·exact h
   ·omega
 ·rw [lI h1]
  by_cases h2:x.kind=2
  ·rw [lF h2]
   simp only [lQ,decide_eq_true_eq,lT1]
   constructor
   ·exact fun h=>.inr ⟨h2,h⟩
   ·rintro (⟨h,_⟩ | ⟨_,h⟩)
    ·exact absurd h h1
    ·exact h
  ·rw [lI h2]
   constructor
   ·intro h; cases h
   ·rintro (⟨h,_⟩ | ⟨h,_⟩)
    ·exact absurd h h1
    ·exact absurd h h2
theorem aav (x:Inode):dS x=true↔InodeOk x:=by
 unfold dS
 simp only [lQ,j8,decide_eq_true_eq,akQ,aiu,akR,beq_iff_eq,decide_eq_decide]
 constructor
 ·rintro ⟨h1,⟨h2,h3⟩,h4,h5,h6,h7⟩; exact ⟨h1,h2,h3,h4,h5,h6,h7⟩
 ·rintro ⟨h1,h2,h3,h4,h5,h6,h7⟩; exact ⟨h1,⟨h2,h3⟩,h4,h5,h6,h7⟩
theorem akS (t:Tab):sQ t=true↔∃ x,aD t 1=some x∧x.kind=2:=by
 unfold sQ
 cases aD t 1 with
 | none=>simp
 | some x=>simp
theorem amX (t:Tab):aat t=true↔TabOk t:=by
 unfold aat
 rw [nT]
 simp only [lQ,decide_eq_true_eq,j8,akS]
 rw [sO (fun a b c h1 h2=>by simp only [iH,decide_eq_true_eq] at *; omega)]
 simp only [j7,iH,lQ,decide_eq_true_eq,aav]
 rw [afl (p:=fun x:Inode=>InodeOk x∧x.ino<t.next)]
 constructor
 ·rintro ⟨h1,h2,⟨h3,h4⟩,h5⟩; exact ⟨h1,h2,h3,h4,h5⟩
 ·rintro ⟨h1,h2,h3,h4,h5⟩; exact ⟨h1,h2,⟨h3,h4⟩,h5⟩
theorem aS (t:Tab):aZ t=true↔TreeOk t:=by
 unfold aZ
 simp only [lQ,decide_eq_true_eq,amX,lY,mV,aau]
 constructor
 ·rintro ⟨h1,h2,h3⟩; exact ⟨h1,h2,fun x hx=>(h3 x hx).1.symm,fun x hx=>(h3 x hx).2⟩
 ·rintro ⟨h1,h2,h3,h4⟩; exact ⟨h1,h2,fun x hx=>⟨(h3 x hx).symm,h4 x hx⟩⟩
def yX (o:Option Nat):Int:=match o with
 | none=>-1
 | some i=>i
end
def zN:Inode:={ ino:=0,kind:=0,links:=0,data:=[],ents:=[],attrs:=[] }
abbrev Rs (α:Type):=Except Int α
def exC {α:Type}:Rs α→Int
 | .ok _=>0
 | .error c=>c
def exI:Rs Inode→Inode
 | .ok x=>x
 | .error _=>zN
def cG (t:Tab) (s:aA):Rs Inode:=if (p4 t s).2=0 then (match aD t (p4 t s).1 with
 | some x=>.ok x
 | none=>.error 2) else .error (p4 t s).2
def gD (t:Tab) (s:aA):Rs Inode:=match cG t s with
 | .ok x=>if x.kind=1 then .ok x else .error 3
 | .error c=>.error c
def dH (t:Tab) (s:aA):Rs Inode:=match cG t (aK s).1 with
 | .ok D=>if D.kind=2 then .ok D else .error 3
 | .error c=>.error c
def tE (t:Tab) (s:aA) (from':Int):Rs Inode:=match dH t s with
 | .ok D=>if bD D (aK s).2.1=0 then (if D.ents.length<10∨D.ino=from' then .ok D else .error 5) else .error 4
 | .error c=>.error c
def dI (s:aA):Bool:=(aB s).2
def iV (s:aA):Bool:=(aK s).2.2
def aM (s:aA):aA:=(aK s).2.1
def fL (t:Tab) (s:aA) (k:Int):Tab × Int:=if aZ t=true∧iV s=true then (match tE t s 0 with
 | .ok D=>if t.inodes.length<30∧t.next<1000 then (o8 t D (aM s) k,0) else (t,5)
 | .error c=>(t,c)) else (t,1)
def bT (t:Tab) (s:aA):Tab × Int:=if aZ t=true∧iV s=true then (match gD t s with
 | .ok X=>(bM t (exI (dH t s)) (aM s) X,0)
 | .error c=>(t,c)) else (t,1)
def j9 (t:Tab) (s:aA):Tab × Int:=if aZ t=true∧iV s=true then (match cG t s with
 | .ok X=>if X.kind=2 then (if X.ents=[] then (iF (aH t (cL (exI (dH t s)) (aM s))) X.ino,0) else (t,6)) else (t,3)
 | .error c=>(t,c)) else (t,1)
def bK (t:Tab) (p q:aA):Tab × Int:=if aZ t=true∧dI p=true∧iV q=true then (match gD t p with
 | .ok X=>(match tE t q 0 with
  | .ok D=>(i9 t D (aM q) X,0)
  | .error c=>(t,c))
 | .error c=>(t,c)) else (t,1)
def pA (t:Tab) (p q:aA):Tab × Int:=if aZ t=true∧iV p=true∧iV q=true then (match cG t p with
 | .ok X=>if abw p q=true then (t,6) else (match tE t q (exI (dH t p)).ino with
  | .ok D=>(mT t (exI (dH t p)) D (aM p) (aM q) X.ino,0)
  | .error c=>(t,c))
 | .error c=>(t,c)) else (t,1)
def qF (b:aA) (n:Nat):aA:=b++List.replicate (n-b.length) 0
def vC (b:aA) (o:Nat) (d:aA):aA:=(qF b (o+d.length)).take o++d++b.drop (o+d.length)
def oG (X:Inode) (b:aA):Inode:={ X with data:=b }
def vD (X:Inode) (l:List Attr):Inode:={ X with attrs:=l }
def cB (t:Tab) (p:aA) (o:Int) (d:aA):Tab × Int:=if aZ t=true∧dI p=true∧inR o 0 100=true then (match gD t p with
 | .ok X=>if o+(d.length:Nat)≤100 then (aH t (oG X (vC X.data o.toNat d)),0) else (t,5)
 | .error c=>(t,c)) else (t,1)
def xZ (t:Tab) (p:aA) (n:Int):Tab × Int:=if aZ t=true∧dI p=true∧inR n 0 100=true then (match gD t p with
 | .ok X=>(aH t (oG X ((qF X.data n.toNat).take n.toNat)),0)
 | .error c=>(t,c)) else (t,1)
def sR (l:List Attr) (n:aA):List Attr:=abT Attr.name l n
def agR (l:List Attr) (a:Attr):List Attr:=tD Attr.name l a
def pB (t:Tab) (p n v:aA):Tab × Int:=if aZ t=true∧dI p=true∧bB n=true∧v.length≤16 then (match cG t p with
 | .ok X=>if v=[] then (aH t (vD X (sR X.attrs n)),0) else if (sR X.attrs n).length<4 then (aH t (vD X (agR (sR X.attrs n) ⟨n,v⟩)),0) else (t,5)
 | .error c=>(t,c)) else (t,1)
theorem aiv (l:List Inode) (x:Inode):(bW l x).length≤l.length+1:=by
 induction l with
 | nil=>simp [bW]
 | cons y l ih=>
  rw [bW]
  split
  ·simp
  ·split <;> simp
   omega
theorem aiw (f:Inode→Nat) (l:List Inode) (x:Inode):((bW l x).map f).sum≤(l.map f).sum+f x:=by
 induction l with
 | nil=>simp [bW]
 | cons y l ih=>
  rw [bW]
  split
  ·simp only [lO,lG2]; omega
  ·split <;> simp only [lO,lG2] <;> omega
theorem aqv (t:Tab):t.sz=t.inodes.length+(t.inodes.map Inode.sz).sum:=rfl
theorem kC (t:Tab) (x:Inode):(aH t x).sz≤t.sz+x.sz+1:=by
 rw [aqv,aqv]
 have:=aiv t.inodes x
 have:=aiw Inode.sz t.inodes x
 show (bW t.inodes x).length+((bW t.inodes x).map Inode.sz).sum≤_
 omega
theorem aaw {α:Type} (f:α→Nat) (p:α→Bool) (l:List α):((l.filter p).map f).sum≤(l.map f).sum:=by
 induction l with
 | nil=>simp
 | cons y l ih=>rw [lR3]; split <;> simp <;> omega
theorem akT {α:Type} (f:α→Nat) (l:List α) (c n:Nat) (hn:l.length≤n) (h:∀ x ∈ l,f x≤c):szM f l≤n+n*c:=by
 have:=t7 f l c h
 have h2:l.length*c≤n*c:=lI1 c hn
 simp only [szM]; omega
theorem afm {x:Inode} (h:InodeOk x):x.sz≤400:=by
 have e:x.sz=x.data.length+szM Ent.sz x.ents+szM Attr.sz x.attrs:=rfl
 have h1:=akT Ent.sz x.ents 14 10 h.ents.len fun e he=>(nP (h.ents.ok e he).1).2
 have h2:=akT Attr.sz x.attrs 30 4 h.attrs.len fun a ha=>by
  have:=(nP (h.attrs.ok a ha).1).2
  have:=(h.attrs.ok a ha).2.2
  show a.name.length+a.val.length≤30
  omega
 have:=h.data
 omega
theorem akU {t:Tab} (h:TabOk t):t.sz≤12030:=akT Inode.sz t.inodes 400 30 h.len fun x hx=>afm (h.ok x hx).1
theorem fJ {t:Tab} (h:aZ t=true):t.sz≤12030:=akU ((aS t).1 h).tab
theorem rB {t:Tab} {s:aA} {x:Inode} (h:cG t s=.ok x):p4 t s=(x.ino,0)∧aD t x.ino=some x:=by
 unfold cG at h
 split at h
 ·rename_i e
  cases hx:aD t (p4 t s).1 with
  | none=>rw [hx] at h; cases h
  | some y=>
   rw [hx] at h
   cases h
   have:=(aO hx).2
   rw [this]
   exact ⟨by rw [← e],hx⟩
 ·cases h
theorem cK {t:Tab} {s:aA} {x:Inode} (h:gD t s=.ok x):cG t s=.ok x∧x.kind=1:=by
 unfold gD at h
 split at h
 ·split at h
  ·cases h; rename_i e k; exact ⟨e,k⟩
  ·cases h
 ·cases h
theorem eO {t:Tab} {s:aA} {x:Inode} (h:dH t s=.ok x):cG t (aK s).1=.ok x∧x.kind=2:=by
 unfold dH at h
 split at h
 ·split at h
  ·cases h; rename_i e k; exact ⟨e,k⟩
  ·cases h
 ·cases h
theorem gP {t:Tab} {s:aA} {f:Int} {x:Inode} (h:tE t s f=.ok x):dH t s=.ok x∧bD x (aM s)=0∧(x.ents.length<10∨x.ino=f):=by
 unfold tE at h
 split at h
 ·split at h
  ·split at h
   ·cases h; rename_i e k l; exact ⟨e,k,l⟩
   ·cases h
  ·cases h
 ·cases h
theorem pC {s:aA} (h:iV s=true):(aB s).2=true∧(aB s).1≠[]:=(ac0 s).1 h
theorem fU {s:aA} (h:iV s=true):(aB s).1=(aB (aK s).1).1++[aM s]∧(aB (aK s).1).2=true∧bB (aM s)=true:=by
 obtain ⟨h1,h2⟩:=pC h
 obtain ⟨e1,e2⟩:=akH h1 h2
 have e3:(aK s).1=cF (aB s).1.dropLast:=by rw [e1]
 have e4:aM s=(aB s).1.getLastD []:=by rw [aM,e1]
 rw [e3,e2,e4]
 have e5:(aB s).1.getLastD []=(aB s).1.getLast h2:=by rw [List.getLastD_eq_getLast?,List.getLast?_eq_some_getLast h2]; rfl
 refine ⟨by rw [e5,List.dropLast_concat_getLast],rfl,?_⟩
 rw [e5]
 exact (mO (pZ h1).1).2 _ (List.getLast_mem h2)
theorem agS {t:Tab} {s:aA} (h:(aB s).2=true) {i:Int}:p4 t s=(i,0)↔aT (aD t) (aB s).1 1=some i:=by
 rw [p4,lF h]; exact ao9 t _ 1 i
theorem ac8 {t:Tab} {s:aA} (h:(p4 t s).2=0):(aB s).2=true:=by
 unfold p4 at h
 split at h
 ·assumption
 ·cases h
theorem pD {t:Tab} {s:aA} {x:Inode} (h:cG t s=.ok x):(aB s).2=true∧aT (aD t) (aB s).1 1=some x.ino:=by
 have h1:=(rB h).1
 have h2:=ac8 (by rw [h1])
 exact ⟨h2,(agS h2).1 h1⟩
theorem iW {t:Tab} {s:aA} {D:Inode} (h:dH t s=.ok D):Spot t D (aB (aK s).1).1:=by
 obtain ⟨h1,h2⟩:=eO h
 exact ⟨(aO (rB h1).2).1,h2,(pD h1).2⟩
theorem x4 {t:Tab} (ht:TreeOk t) {s:aA} (hs:iV s=true) {X:Inode} (h:cG t s=.ok X):∃ D,dH t s=.ok D∧bD D (aM s)=X.ino∧∃ e ∈ D.ents,e.name=aM s∧e.ino=X.ino:=by
 obtain ⟨h1,h2⟩:=pD h
 obtain ⟨e1,e2,e3⟩:=fU hs
 rw [e1,cU] at h2
 cases hw:aT (aD t) (aB (aK s).1).1 1 with
 | none=>rw [hw] at h2; cases h2
 | some j=>
  rw [hw] at h2
  obtain ⟨D,d1,d2,d3,d4⟩:=(iU _ _ _ _).1 h2
  obtain ⟨_,d5⟩:=aO d1
  have hst:cG t (aK s).1=.ok D:=by
   rw [cG,(agS e2).2 hw,lF rfl,d1]
  refine ⟨D,by rw [dH,hst]; simp only [d2,lF],d3,?_⟩
  obtain ⟨e,he,f1,f2⟩:=tY (x:=D) (n:=aM s) (by rw [d3]; exact d4)
  exact ⟨e,he,f1,by rw [f2,d3]⟩
section
variable {t:Tab}
theorem aQ {s:aA} {X:Inode} (h:cG t s=.ok X):X ∈ t.inodes∧aD t X.ino=some X:=⟨(aO (rB h).2).1,(rB h).2⟩
theorem nU {s:aA} {D:Inode} (h:dH t s=.ok D):D ∈ t.inodes:=(aQ (eO h).1).1
theorem akV (ht:TreeOk t) {X:Inode} (h:X ∈ t.inodes):1≤X.ino∧X.ino≤1000:=(ht.tab.ok X h).1.ino
theorem vT (ht:TreeOk t) {s:aA} {D:Inode} (h:tE t s 0=.ok D):D.ents.length<10:=by
 obtain ⟨h1,h2,h3⟩:=gP h
 rcases h3 with h3 | h3
 ·exact h3
 ·have:=akV ht (nU h1); omega
theorem ape (ht:TreeOk t) {s:aA} {k:Int} {D:Inode} (hs:iV s=true) (h:tE t s 0=.ok D) (h1:t.inodes.length<30) (h2:t.next<1000) (hk:k=1∨k=2):type_of% (ac5 ht (iW (gP h).1) (k:=k) (fU hs).2.2 (gP h).2.1 (vT ht h) h1 h2 hk):=ac5 ht (iW (gP h).1) (k:=k) (fU hs).2.2 (gP h).2.1 (vT ht h) h1 h2 hk
theorem iI (h:aZ t=true) (s:aA) {k:Int} (hk:k=1∨k=2):aZ (fL t s k).1=true:=by
 unfold fL
 split
 ·rename_i hc
  split
  ·split
   ·rename_i h2
    exact (aS _).2 (ape ((aS t).1 h) hc.2 (by assumption) h2.1 h2.2 hk).1
   ·exact h
  ·exact h
 ·exact h
theorem agT (ht:TreeOk t) {s:aA} (hs:iV s=true) {X:Inode} (h:cG t s=.ok X):X.ino≠1:=by
 intro e
 obtain ⟨D,h1,h2,⟨x,hx,h3,h4⟩⟩:=x4 ht hs h
 have:=((bQ ht (nU h1)).ok x hx).2.1
 omega
theorem akW (ht:TreeOk t) {s:aA} (hs:iV s=true) {X:Inode} (h:cG t s=.ok X) (hk:X.kind=2):X.links=1:=by
 have ok:=(ht.tab.ok X (aQ h).1).1
 have h1:=o6 ht (aQ h).1 hk
 have h2:=ok.links
 have h3:X.links≠0:=fun e=>agT ht hs h (ok.root.1 e)
 omega
theorem x5 (ht:TreeOk t) {s:aA} {X:Inode} (hs:iV s=true) (h:cG t s=.ok X) (hE:X.ents=[]):∃ D,dH t s=.ok D∧Spot t D (aB (aK s).1).1∧(X.kind=1∨X.links=1) ∧
  TreeOk (bM t D (aM s) X)∧(∀ l,aT (aD (bM t D (aM s) X)) l 1=if l=(aB s).1 then none else aT (aD t) l 1) ∧
  (∀ i,aD (bM t D (aM s) X) i=if i=X.ino then (if X.links=1 then none else some (oF X)) else if i=D.ino then some (cL D (aM s)) else aD t i):=by
 obtain ⟨D,h1,h2,⟨x,hx,h3,h4⟩⟩:=x4 ht hs h
 have hk:X.kind=1∨X.links=1:=by
  rcases (ht.tab.ok X (aQ h).1).1.kind with ⟨k,_⟩ | ⟨k,_⟩
  ·exact .inl k
  ·exact .inr (akW ht hs h k)
 have:=afk ht (iW h1) hx (X:=X) (by rw [h4]; exact (aQ h).2) hE hk
 rw [h3,← (fU hs).1] at this
 exact ⟨D,h1,iW h1,hk,this⟩
theorem sS (h:aZ t=true) (s:aA):aZ (bT t s).1=true:=by
 have ht:=(aS t).1 h
 unfold bT
 split
 ·rename_i hc
  split
  ·rename_i X hX
   obtain ⟨h1,h2⟩:=cK hX
   obtain ⟨D,d1,d2,d3,d4⟩:=x5 ht hc.2 h1 (mQ ht (aQ h1).1 (by omega)).1
   rw [d1]
   exact (aS _).2 d4.1
  ·exact h
 ·exact h
theorem amY (ht:TreeOk t) {s:aA} {X:Inode} (hs:iV s=true) (h:cG t s=.ok X) (hk:X.kind=2) (D:Inode) (n:aA):iF (aH t (cL D n)) X.ino=bM t D n X:=by
 rw [bM,lF (akW ht hs h hk)]
theorem ac9 (h:aZ t=true) (s:aA):aZ (j9 t s).1=true:=by
 have ht:=(aS t).1 h
 unfold j9
 split
 ·rename_i hc
  split
  ·rename_i X hX
   split
   ·rename_i hk
    split
    ·rename_i hE
     obtain ⟨D,d1,d2,d3,d4⟩:=x5 ht hc.2 hX hE
     rw [d1,amY ht hc.2 hX hk]
     exact (aS _).2 d4.1
    ·exact h
   ·exact h
  ·exact h
 ·exact h
theorem akX (ht:TreeOk t) {p q:aA} {X D:Inode} (hq:iV q=true) (h1:gD t p=.ok X) (h2:tE t q 0=.ok D):type_of% (ac6 ht (iW (gP h2).1) (X:=X) (fU hq).2.2 (gP h2).2.1 (vT ht h2) (aQ (cK h1).1).1 (cK h1).2):=ac6 ht (iW (gP h2).1) (X:=X) (fU hq).2.2 (gP h2).2.1 (vT ht h2) (aQ (cK h1).1).1 (cK h1).2
theorem afn (h:aZ t=true) (p q:aA):aZ (bK t p q).1=true:=by
 have ht:=(aS t).1 h
 unfold bK
 split
 ·rename_i hc
  split
  ·split
   ·exact (aS _).2 (akX ht hc.2.2 (by assumption) (by assumption)).1
   ·exact h
  ·exact h
 ·exact h
theorem akY {p q:aA} (hp:dI p=true) (hq:dI q=true):abw p q=true↔(aB p).1 <+: (aB q).1:=by
 unfold dI at *
 rw [abw,hp,hq]; simp
theorem akZ (ht:TreeOk t) {p q:aA} {X D2:Inode} (hp:iV p=true) (hq:iV q=true) (h1:cG t p=.ok X) (hb:abw p q=false) (h2:tE t q (exI (dH t p)).ino=.ok D2) :
  ∃ D1 e,dH t p=.ok D1∧Spot t D1 (aB (aK p).1).1∧e ∈ D1.ents∧e.name=aM p∧e.ino=X.ino∧Spot t D2 (aB (aK q).1).1∧bB (aM q)=true∧bD D2 (aM q)=0 ∧
   (D2.ents.length<10∨D1.ino=D2.ino)∧¬ ((aB (aK p).1).1++[e.name]) <+: ((aB (aK q).1).1++[aM q]):=by
 obtain ⟨D1,d1,d2,⟨e,he,d3,d4⟩⟩:=x4 ht hp h1
 obtain ⟨n1,n2,n3⟩:=gP h2
 rw [d1] at n3
 refine ⟨D1,e,d1,iW d1,he,d3,d4,iW n1,(fU hq).2.2,n2,?_,?_⟩
 ·rcases n3 with n | n
  ·exact .inl n
  ·exact .inr n.symm
 ·rw [d3,← (fU hp).1,← (fU hq).1,← akY (pC hp).1 (pC hq).1,hb]
  simp
theorem afo (h:aZ t=true) (p q:aA):aZ (pA t p q).1=true:=by
 have ht:=(aS t).1 h
 unfold pA
 split
 ·rename_i hc
  split
  ·rename_i X hX
   split
   ·exact h
   ·rename_i hb
    split
    ·rename_i D2 h2
     obtain ⟨D1,e,d1,s1,he,e1,e2,s2,hn,hf,hl,hb'⟩:=akZ ht hc.2.1 hc.2.2 hX (by simpa using hb) h2
     have:=(akO ht s1 s2 he hn hf hl hb').1
     rw [e1,e2] at this
     rw [d1]
     exact (aS _).2 this
    ·exact h
  ·exact h
 ·exact h
theorem ak0 (ht:TreeOk t) {s:aA} {X:Inode} (h:gD t s=.ok X):X.ents=[]:=(mQ ht (aQ (cK h).1).1 (by have:=(cK h).2; omega)).1
theorem ak1 {X:Inode} (h:InodeOk X) (hk:X.kind=1) {b:aA} (hb:b.length≤100):InodeOk (oG X b):=by
 obtain ⟨a1,a2,a3,a4,a5,a6,a7⟩:=h
 refine ⟨a1,a2,a3,hb,a5,a6,?_⟩
 rcases a7 with a | ⟨a,_⟩
 ·exact .inl a
 ·omega
theorem vU (b:aA) (n:Nat):(qF b n).length=max b.length n:=by simp [qF]; omega
theorem abB (b:aA) (o:Nat) (d:aA):(vC b o d).length=max b.length (o+d.length):=by
 simp only [vC,lU,lN,lY1,vU]; omega
theorem abC (ht:TreeOk t) {p:aA} {X:Inode} (h:gD t p=.ok X) {b:aA} (hb:b.length≤100):type_of% (sN ht (X:=X) (Y:=oG X b) (aQ (cK h).1).1 rfl rfl rfl rfl (ak1 (ht.tab.ok X (aQ (cK h).1).1).1 (cK h).2 hb)):=sN ht (X:=X) (Y:=oG X b) (aQ (cK h).1).1 rfl rfl rfl rfl (ak1 (ht.tab.ok X (aQ (cK h).1).1).1 (cK h).2 hb)
theorem pE (h:aZ t=true) (p:aA) (o:Int) (d:aA):aZ (cB t p o d).1=true:=by
 have ht:=(aS t).1 h
 unfold cB
 split
 ·rename_i hc
  split
  ·rename_i X hX
   split
   ·refine (aS _).2 (abC ht hX ?_).1
    have:=(ht.tab.ok X (aQ (cK hX).1).1).1.data
    have:=(j8 _ _ _).1 hc.2.2
    rw [abB]; omega
   ·exact h
  ·exact h
 ·exact h
theorem aix (h:aZ t=true) (p:aA) (n:Int):aZ (xZ t p n).1=true:=by
 have ht:=(aS t).1 h
 unfold xZ
 split
 ·rename_i hc
  split
  ·rename_i X hX
   refine (aS _).2 (abC ht hX ?_).1
   have:=(j8 _ _ _).1 hc.2.2
   rw [lN]; omega
  ·exact h
 ·exact h
theorem ak2 {X:Inode} (h:InodeOk X) {l:List Attr} (hl:AttrsOk l):InodeOk (vD X l):=by
 obtain ⟨a1,a2,a3,a4,a5,a6,a7⟩:=h
 exact ⟨a1,a2,a3,a4,a5,hl,a7⟩
theorem ak3 {l:List Attr} (h:AttrsOk l) (n:aA):AttrsOk (sR l n):=
 ⟨lB4 (lS2 _ _) h.len,fun a ha=>h.ok a (mem_cutK.1 ha).1,t6 h.up n⟩
theorem apf {l:List Attr} (h:AttrsOk l) {n v:aA} (hn:bB n=true) (hv:1≤v.length∧v.length≤16) (hl:l.length<4) (hf:∀ a ∈ l,a.name≠n):AttrsOk (agR l ⟨n,v⟩):=by
 refine ⟨by unfold agR; rw [p6]; omega,fun a ha=>?_,abz h.up hf⟩
 rcases mem_putK.1 ha with rfl | ha
 ·exact ⟨hn,hv⟩
 ·exact h.ok a ha
theorem agU (ht:TreeOk t) {p:aA} {X:Inode} (h:cG t p=.ok X) {l:List Attr} (hl:AttrsOk l):type_of% (sN ht (X:=X) (Y:=vD X l) (aQ h).1 rfl rfl rfl rfl (ak2 (ht.tab.ok X (aQ h).1).1 hl)):=sN ht (X:=X) (Y:=vD X l) (aQ h).1 rfl rfl rfl rfl (ak2 (ht.tab.ok X (aQ h).1).1 hl)
theorem afp (h:aZ t=true) (p n v:aA):aZ (pB t p n v).1=true:=by
 have ht:=(aS t).1 h
 unfold pB
 split
 ·rename_i hc
  split
  ·rename_i X hX
   have ha:=(ht.tab.ok X (aQ hX).1).1.attrs
   split
   ·exact (aS _).2 (agU ht hX (ak3 ha n)).1
   ·rename_i hv
    split
    ·rename_i hl
     refine (aS _).2 (agU ht hX (apf (ak3 ha n) hc.2.2.1 ⟨?_,hc.2.2.2⟩ hl fun a h=>(mem_cutK.1 h).2)).1
     cases v with
     | nil=>exact absurd rfl hv
     | cons=>simp
    ·exact h
  ·exact h
 ·exact h
end
theorem x6 {s:aA} {m:Nat} (h:m<s.length) (h1:s[m]=47) (h2:∀ k,k<m→(hk:k<s.length)→s[k]≠47):bJ s=s.take m::bJ (s.drop (m+1)):=by
 have e:s=s.take m++47::s.drop (m+1):=by
  rw [← h1,← lQ2 h,lJ]
 have h3:∀ c ∈ s.take m,c≠47:=by
  intro c hc
  obtain ⟨k,hk,rfl⟩:=lV1 hc
  rw [List.getElem_take]
  exact h2 k (by simp at hk; omega) _
 have:=xR (s.take m) (s.drop (m+1)) h3
 rwa [← e] at this
theorem x7 {s:aA} (h:∀ k,(hk:k<s.length)→s[k]≠47):bJ s=[s]:=xS s fun c hc=>by
 obtain ⟨k,hk,rfl⟩:=lV1 hc
 exact h k hk
theorem pG (s:aA):(bJ s).length=s.count 47+1:=by
 induction s with
 | nil=>rfl
 | cons c s ih=>
  by_cases hc:c=47
  ·rw [bJ,lF hc,lW,ih,hc,List.count_cons_self]
  ·obtain ⟨a,t,e1,e2⟩:=nO c s hc
   rw [e2,List.count_cons_of_ne hc,← ih,e1]; rfl
theorem ak4 {s:aA} {m:Nat} (h:m<s.length) (h1:s[m]=47) (h2:∀ k,k<m→(hk:k<s.length)→s[k]≠47):s.count 47=(s.drop (m+1)).count 47+1:=by
 have:=pG s
 rw [x6 h h1 h2,lW,pG] at this
 omega
theorem uB {s:aA} (h:s.head?≠some 47):aB s=([],false):=by
 have hs:s≠[47]:=fun e=>h (by rw [e]; rfl)
 rw [aB,lI hs]
 cases s with
 | nil=>rfl
 | cons c s=>
  have hc:c≠47:=fun e=>h (by rw [e]; rfl)
  obtain ⟨a,t,e1,e2⟩:=nO c s hc
  rw [e2]; rfl
theorem ada {s:aA} {l:List aA} (h:bJ s=[]::l) (hb:b9 l=false) (hs:s≠[47]):aB s=([],false):=by
 rw [aB,lI hs,h]
 cases l with
 | nil=>rfl
 | cons n l=>simp only [yV,hb]; rfl
theorem aax {s:aA} {l:List aA} (h:bJ s=[]::l) (hl:l≠[]) (hb:b9 l=true) (hs:s≠[47]):aB s=(l,true):=by
 rw [aB,lI hs,h]
 cases l with
 | nil=>exact absurd rfl hl
 | cons n l=>simp only [yV,hb]; rfl
theorem adb {l:List aA} {n:aA} (h:n ∈ l) (hn:bB n=false):b9 l=false:=by
 have:l.all bB=false:=by rw [lL4]; exact ⟨n,h,by simp [hn]⟩
 simp [b9,this]
theorem aay {l:List aA} (h:30<l.length):b9 l=false:=by rw [b9,lB (by omega),Bool.false_and]
structure Cut (s:aA) (i j:Nat) (out:List aA):Prop where
 le:j≤i
 end':i≤s.length+1
 no:∀ k,j≤k→k<i→(h:k<s.length)→s[k]≠47
 len:out.length≤30
 ok:∀ n ∈ out,bB n=true
 z:i=0→out=[]
 cut:s.head?=some 47→(i=0∧j=0∧out=[])∨(0<i∧bJ s=[]::(out++if i≤s.length then bJ (s.drop j) else []))
theorem Cut.zero (s:aA):Cut s 0 0 []:=⟨lJ1 _,lD3 _,fun _ _ h=>absurd h (Nat.not_lt_zero _),lD3 _,by simp,fun _=>rfl,fun _=>.inl ⟨rfl,rfl,rfl⟩⟩
theorem Cut.skip {s:aA} {i j:Nat} {out:List aA} (h:Cut s i j out) (hi:i<s.length) (hc:s[i]≠47):Cut s (i+1) j out:=by
 obtain ⟨a1,a2,a3,a4,a5,_,a6⟩:=h
 refine ⟨by omega,by omega,fun k h1 h2 h3=>?_,a4,a5,fun h=>absurd h (Nat.succ_ne_zero _),fun h0=>?_⟩
 ·by_cases e:k=i
  ·subst e; exact hc
  ·exact a3 k h1 (by omega) h3
 ·rcases a6 h0 with ⟨e1,e2,e3⟩ | ⟨e1,e2⟩
  ·subst e1
   exfalso
   rw [List.head?_eq_getElem?,lK hi] at h0
   exact hc (Option.some.inj h0)
  ·refine .inr ⟨by omega,?_⟩
   rw [lF (by omega)] at e2
   rw [lF (by omega)]
   exact e2
theorem Cut.first {s:aA} (h:s.length=0∨∃ h:0<s.length,s[0]=47):Cut s 1 1 []:=by
 refine ⟨lJ1 _,by omega,fun k h1 h2=>by omega,lD3 _,by simp,fun h=>rfl,fun h0=>.inr ⟨by omega,?_⟩⟩
 cases s with
 | nil=>cases h0
 | cons c s=>
  injection h0 with h0
  subst h0
  rw [bJ,lF rfl,lF (by simp)]
  rfl
theorem Cut.name {s:aA} {i j:Nat} {out:List aA} (h:Cut s i j out) (h0:0<i) (hi:i≤s.length) (hc:i=s.length∨∃ h:i<s.length,s[i]=47) (hh:s.head?=some 47) :
  bJ s=[]::(out++(s.drop j).take (i-j)::if i+1≤s.length then bJ (s.drop (i+1)) else []):=by
 obtain ⟨a1,a2,a3,a4,a5,_,a6⟩:=h
 rcases a6 hh with ⟨e1,_⟩ | ⟨_,e2⟩
 ·omega
 ·rw [lF hi] at e2
  rw [e2]
  congr 2
  have no:∀ k,k<i-j→(hk:k<(s.drop j).length)→(s.drop j)[k]≠47:=fun k h1 h2=>by
   rw [List.getElem_drop]
   exact a3 _ (by omega) (by omega) _
  rcases hc with rfl | ⟨hc,hx⟩
  ·rw [lI (by omega),x7 (fun k hk=>no k (by simpa using hk) hk),lR1 (by simp)]
  ·rw [lF (by omega),x6 (m:=i-j) (by simp; omega) (by rw [List.getElem_drop]; simpa [show j+(i-j)=i by omega] using hx) no,lH2,show j+(i-j+1)=i+1 by omega]
theorem Cut.next {s:aA} {i j:Nat} {out:List aA} (h:Cut s i j out) (h0:0<i) (hi:i≤s.length) (hc:i=s.length∨∃ h:i<s.length,s[i]=47) (hn:bB ((s.drop j).take (i-j))=true) (hl:out.length<30) :
  Cut s (i+1) (i+1) (out++[(s.drop j).take (i-j)]):=by
 refine ⟨lJ1 _,by omega,fun k h1 h2=>by omega,by simp; omega,fun n hm=>?_,fun h=>absurd h (Nat.succ_ne_zero _),fun hh=>.inr ⟨by omega,?_⟩⟩
 ·rcases lL.1 hm with hm | hm
  ·exact h.ok n hm
  ·simp at hm; subst hm; exact hn
 ·rw [h.name h0 hi hc hh,lJ2]; rfl
theorem Cut.bad {s:aA} {i j:Nat} {out:List aA} (h:Cut s i j out) (h0:0<i) (hi:i≤s.length) (hc:i=s.length∨∃ h:i<s.length,s[i]=47) (hn:bB ((s.drop j).take (i-j))=false∨out.length=30) (hs:s≠[47]) :
  aB s=([],false):=by
 by_cases hh:s.head?=some 47
 ·refine ada (h.name h0 hi hc hh) ?_ hs
  rcases hn with hn | hn
  ·exact adb (by simp) hn
  ·exact aay (by simp; omega)
 ·exact uB hh
theorem Cut.done {s:aA} {j:Nat} {out:List aA} (h:Cut s (s.length+1) j out) (hh:s.head?=some 47) (hs:s≠[47]):aB s=(out,true):=by
 obtain ⟨a1,a2,a3,a4,a5,_,a6⟩:=h
 rcases a6 hh with ⟨e1,_⟩ | ⟨_,e2⟩
 ·omega
 ·rw [lI (by omega),lR2] at e2
  refine aax e2 (fun e=>?_) (pY a4 a5) hs
  rw [e] at e2
  cases s with
  | nil=>cases hh
  | cons c s=>
   injection hh with hh
   subst hh
   rw [bJ,lF rfl] at e2
   injection e2 with _ e2
   exact sK _ e2
theorem aiy (n:aA) (l:List aA):eN (n::l)=47::(n++eN l):=by simp [eN]
theorem aiz (l:List aA) (n:aA):eN (l++[n])=eN l++47::n:=by simp [eN]
theorem x8 {l:List aA} (h:b9 l=true):(eN l).length≤450:=by
 obtain ⟨h1,h2⟩:=mO h
 have:=t7 (fun n:aA=>n.length+1) l 15 fun n hn=>by have:=(nP (h2 n hn)).2; omega
 have e:(eN l).length=(l.map fun n:aA=>n.length+1).sum:=by rw [eN,List.length_flatMap]; rfl
 rw [e]
 have:l.length*15≤30*15:=lI1 _ h1
 omega







theorem fC (x a b:Int):aY Tryz.prog 158 [.int .i64 x,.int .i64 a,.int .i64 b] (.bool (inR x a b)) [.undef,.undef,.undef]:=by
 refine U agG [] 71 [] fun w hP hQ=>?_
 unfold abk
 refine N ?_
 (first | with_reducible refine tO _ ?_ ?_ | refine tP _ ?_ ?_) <;> intro h1
 ·have hz:=h1
  refine Nz ?_
  simp [inR,h1]
 ·have hz:=h1
  refine Nz ?_
  simp [inR,h1]
theorem kE (x a b:Int):aY Tryz.prog 94 [.int .i64 x,.int .i64 a,.int .i64 b] (.bool (inR x a b)) [.undef,.undef,.undef]:=by
 refine U amM [] 71 [] fun w hP hQ=>?_
 unfold agC
 refine N ?_
 (first | with_reducible refine tO _ ?_ ?_ | refine tP _ ?_ ?_) <;> intro h1
 ·have hz:=h1
  refine Nz ?_
  simp [inR,h1]
 ·have hz:=h1
  refine Nz ?_
  simp [inR,h1]
theorem p9 {α:Type} {l:List α} {p:α→Bool} {i:Nat} (hk:∀ k,k<i→(h:k<l.length)→p l[k]=false) (h:i<l.length) (hi:p l[i]=true):l.findIdx? p=some i:=by
 rw [lZ1]
 exact ⟨h,hi,fun j hj=>by simp [hk j hj (by omega)]⟩
theorem qA {α:Type} {l:List α} {p:α→Bool} (hk:∀ k,(h:k<l.length)→p l[k]=false):l.findIdx? p=none:=by
 rw [lW2]
 intro x hx
 obtain ⟨k,h,rfl⟩:=lV1 hx
 exact hk k h
theorem pH {α:Type} {l:List α} {p:α→Bool} {i:Nat} (hk:∀ k,k<i→(h:k<l.length)→p l[k]=false) (h:i<l.length) (hi:p l[i]=false):∀ k,k<i+1→(h:k<l.length)→p l[k]=false:=by
 intro k hlt hl
 by_cases e:k=i
 ·subst e; exact hi
 ·exact hk k (by omega) hl
theorem agV {x a b:Int} (h:inR x a b=false):¬ (a≤x∧x≤b):=fun h'=>by rw [(j8 x a b).2 h'] at h; cases h
theorem ak5 (c:UInt8):okc c=true↔(97≤c.toNat∧c.toNat≤122)∨(48≤c.toNat∧c.toNat≤57)∨c.toNat=95∨c.toNat=45∨c.toNat=46:=by
 unfold okc
 simp only [lU4,lQ,decide_eq_true_eq,UInt8.le_iff_toNat_le,← UInt8.toNat_inj]
 simp
 omega
theorem abD {c:UInt8} (h:(97≤c.toNat∧c.toNat≤122)∨(48≤c.toNat∧c.toNat≤57)∨c.toNat=95∨c.toNat=45∨c.toNat=46):okc c=true:=(ak5 c).2 h
theorem anW {c:UInt8} (h:¬ ((97≤c.toNat∧c.toNat≤122)∨(48≤c.toNat∧c.toNat≤57)∨c.toNat=95∨c.toNat=45∨c.toNat=46)):okc c=false:=by
 cases e:okc c with
 | false=>rfl
 | true=>exact absurd ((ak5 c).1 e) h
theorem agW {s:aA} {i:Nat} (h:i<s.length) (hc:okc s[i]=false):bB s=false:=by
 unfold bB
 have:s.all okc=false:=by
  rw [lL4]
  exact ⟨s[i],lP h,by simp [hc]⟩
 simp [this]
theorem aqw (n:Nat):n<45∨n=45∨n=46∨n=47∨(48≤n∧n≤57)∨(58≤n∧n≤94)∨n=95∨n=96∨(97≤n∧n≤122)∨122<n:=by omega
theorem agX {s:aA} {i:Nat} (hk:∀ k,k<i→(h:k<s.length)→okc s[k]=true) (h:i<s.length) (hi:okc s[i]=true):∀ k,k<i+1→(h:k<s.length)→okc s[k]=true:=by
 intro k hlt hl
 by_cases e:k=i
 ·subst e; exact hi
 ·exact hk k (by omega) hl
theorem anX {s:aA} (hk:∀ k,(h:k<s.length)→okc s[k]=true):s.all okc=true:=by
 rw [lY]
 intro x hx
 obtain ⟨k,h,rfl⟩:=lV1 hx
 exact hk k h
theorem fD (s:aA) (hl:s.length<2^48):aY Tryz.prog 102 [.str s] (.bool (bB s)) [.undef]:=by
 refine U ah9 [] 221 [] fun w hP hQ=>?_
 unfold zY
 refine N ?_
 refine eU [2,3,4] ?_
 refine N ?_
 refine aR [2,3,4] (fun i:Nat=>[(7,.int .i64 i)]) (fun i=>i≤s.length∧∀ k,k<i→(h:k<s.length)→okc s[k]=true) (fun i=>s.length-i) (0) hP hQ (rfl) (by simp) ?_
 rintro i ⟨hi,hk⟩ w1 hP1 hQ1
 refine N1 ?_
 (first | with_reducible refine cP _ ?_ ?_ | refine cQ _ ?_ ?_) <;> intro h1
 ·have hlt:i<s.length:=by omega
  have hbad:okc s[i]=false→bB s=false:=fun h=>agW hlt h
  have hnext:okc s[i]=true→_:=fun h=>agX hk hlt h
  have hz:=(bF h1)
  refine Nz1 ?_
  generalize s[i]=c at *
  rcases aqw c.toNat with h | h | h | h | h | h | h | h | h | h
  all_goals (simp +decide (maxSteps:=9^9) (disch:=omega) only[↓SB0,SX,seval,hQ,hQ1,aqp,aqq])
  all_goals first
   | (rw [hbad (anW (by omega))]; done)
   | exact ⟨i+1,rfl,⟨by omega,hnext (abD (by omega))⟩,by omega⟩
 ·obtain rfl:i=s.length:=by omega
  have hall:s.all okc=true:=anX fun k h=>hk k h h
  refine N1 ?_
  (first | with_reducible refine tO _ ?_ ?_ | refine tP _ ?_ ?_) <;> intro g1
  rotate_left
  ·have hz:=g1
   refine Nz ?_
   simp [bB,hall]; omega
  have hz:=g1
  refine Nz ?_
  (first | with_reducible refine tO _ ?_ ?_ | refine tP _ ?_ ?_) <;> intro g2
  rotate_left
  ·have hz:=g2
   refine Nz ?_
   simp [bB,hall]; omega
  have hz:=g2
  refine Nz ?_
  (first | with_reducible refine tO _ ?_ ?_ | refine tP _ ?_ ?_) <;> intro g3
  ·have hz:=g3
   refine Nz ?_
   simp [bB,g3]
  have hz:=g3
  refine Nz ?_
  simp [bB,hall,g3]
  try omega
theorem dN (s:aA) (hl:s.length<2^48):aY Tryz.prog 150 [.str s] (.bool (bB s)) [.undef]:=by
 refine U aif [] 29 [] fun w hP hQ=>?_
 unfold aae
 refine N ?_
 refine eU [2,4] ?_
 refine N ?_
 refine aR [2,4] (fun i:Nat=>[(3,.int .i64 i)]) (fun i=>i≤s.length∧∀ k,k<i→(h:k<s.length)→okc s[k]=true) (fun i=>s.length-i) (0) hP hQ (rfl) (by simp) ?_
 rintro i ⟨hi,hk⟩ w1 hP1 hQ1
 refine N1 ?_
 (first | with_reducible refine cP _ ?_ ?_ | refine cQ _ ?_ ?_) <;> intro h1
 ·have hlt:i<s.length:=by omega
  have hbad:okc s[i]=false→bB s=false:=fun h=>agW hlt h
  have hnext:okc s[i]=true→_:=fun h=>agX hk hlt h
  have hz:=(bF h1)
  refine Nz1 ?_
  generalize s[i]=c at *
  have hc:c.toNat<256:=c.toNat_lt
  cases hA:inR (c.toNat) 97 122 with
  | true=>
   have hA':=(j8 _ _ _).1 hA
   refine N1 ?_
   have hz:=hA
   refine Kz1 (fC (c.toNat) 97 122) ?_
   exact ⟨i+1,rfl,⟨by omega,hnext (abD (by omega))⟩,by omega⟩
  | false=>
   have hA':=agV hA
   cases hB:inR (c.toNat) 48 57 with
   | true=>
    have hB':=(j8 _ _ _).1 hB
    refine N1 ?_
    have hz:=hA
    refine Kz1 (fC (c.toNat) 97 122) ?_
    have hz:=hB
    refine Kz1 (fC (c.toNat) 48 57) ?_
    exact ⟨i+1,rfl,⟨by omega,hnext (abD (by omega))⟩,by omega⟩
   | false=>
    have hB':=agV hB
    have hr:c.toNat=95∨c.toNat=45∨c.toNat=46∨(c.toNat≠95∧c.toNat≠45∧c.toNat≠46):=by omega
    rcases hr with h | h | h | h
    all_goals (simp +decide (maxSteps:=9^9) (disch:=omega) only[↓SB0,SX,seval,hQ,hQ1])
    all_goals (first | refine aF hP1 (fC (c.toNat) 97 122) (.inl ⟨rfl,fun _ hx=>nomatch hx⟩) ?_ | skip)
    all_goals (simp +decide (maxSteps:=9^9) (disch:=omega) only[↓SB0,SX,seval,hQ,hQ1,hA])
    all_goals (first | refine aF hP1 (fC (c.toNat) 48 57) (.inl ⟨rfl,fun _ hx=>nomatch hx⟩) ?_ | skip)
    all_goals (simp +decide (maxSteps:=9^9) (disch:=omega) only[↓SB0,SX,seval,hQ,hQ1,hB,aqp,aqq])
    all_goals first
     | (rw [hbad (anW (by omega))]; done)
     | exact ⟨i+1,rfl,⟨by omega,hnext (abD (by omega))⟩,by omega⟩
 ·obtain rfl:i=s.length:=by omega
  have hall:s.all okc=true:=anX fun k h=>hk k h h
  refine N1 ?_
  cases g1:inR (s.length:Nat) 1 14 with
  | false=>
   have g1':=agV g1
   have hz:=g1
   refine Kz (fC (s.length:Nat) 1 14) ?_
   simp [bB,hall]; omega
  | true=>
   have g1':=(j8 _ _ _).1 g1
   have hz:=g1
   refine Kz (fC (s.length:Nat) 1 14) ?_
   (first | with_reducible refine tO _ ?_ ?_ | refine tP _ ?_ ?_) <;> intro g3
   ·have hz:=g3
    refine Nz ?_
    simp [bB,g3]
   have hz:=g3
   refine Nz ?_
   simp [bB,hall,g3]
   try omega
section
open Go.Proofs Go.RowKit
def dF (s:aA):List TV:=[.str s]
theorem apg (l:List aA):gU (l.map dF)=true:=by
 rw [gU,lY]
 intro r hr
 obtain ⟨x,_,rfl⟩:=lF2.1 hr
 rfl
theorem adc {P:Program} {f:Nat} {a b:aA} {r:Int} (hE:oL P f) (run:∀ w,Calls P f #[cW a,cW b] w fun e w'=>e=.returned (.int .i64 r)∧w'=w):aY P f [.str a,.str b] (.int .i64 r) [.undef,.undef]:=by
 refine ⟨hE,rfl,?_⟩
 intro w vs F X h h1 h2 h3
 cases h with
 | str _ _ _ vs _ h=>
  cases h with
  | str _ _ _ vs _ h=>
   cases h with
   | nil _ _ hF hX=>
    refine (run w).mono ?_
    rintro e w' ⟨rfl,rfl⟩
    exact ⟨_,F,X,rfl,.int _ _ _ _ _ _ (.undef _ _ _ _ _ (.undef _ _ _ _ _ (.nil _ _ hF hX))),h1,h2,⟨lJ1 _,.refl _⟩,fun b _ _=>rfl,fun b hb=>.inl hb,fun b hb=>⟨.inl hb,h3 b hb⟩⟩
theorem amZ (s:aA):aY Tryz.prog 230 [.str s,.str [47]] (.int .i64 (Lib.indexByte s 47)) [.undef,.undef]:=
 adc ⟨_,Tryz.func230,by kernel_rfl,by kernel_rfl⟩ fun w=>Any.strings_Index_one acR ⟨s.toArray⟩ 47 w
theorem am0 (s:aA):aY Tryz.prog 229 [.str s,.str [47]] (.int .i64 (s.count 47:Nat)) [.undef,.undef]:=
 adc ⟨_,Tryz.func229,by kernel_rfl,by kernel_rfl⟩ fun w=>Any.strings_Count_one acS ⟨s.toArray⟩ 47 w
theorem aqX (s:aA):(Lib.indexByte s 47=-1∧∀ k,(h:k<s.length)→s[k]≠47)∨∃ m,∃ h:m<s.length,Lib.indexByte s 47=(m:Nat)∧s[m]=47∧∀ k,k<m→(h:k<s.length)→s[k]≠47:=by
 induction s with
 | nil=>exact .inl ⟨rfl,fun k h=>by simp at h⟩
 | cons c s ih=>
  by_cases hc:c=47
  ·exact .inr ⟨0,by simp,by simp [Lib.indexByte,hc],by simpa using hc,fun k hk=>absurd hk (Nat.not_lt_zero _)⟩
  ·have hb:(c == 47)=false:=by simpa using hc
   rcases ih with ⟨h1,h2⟩ | ⟨m,h1,h2,h3,h4⟩
   ·refine .inl ⟨by simp [Lib.indexByte,hb,h1],fun k hk=>?_⟩
    cases k with
    | zero=>simpa using hc
    | succ k=>simpa using h2 k (by simpa using hk)
   ·refine .inr ⟨m+1,by simpa using h1,?_,by simpa using h3,fun k hk hl=>?_⟩
    ·have:((m:Int) == -1)=false:=by simp
     simp [Lib.indexByte,hb,h2,this]
    ·cases k with
     | zero=>simpa using hc
     | succ k=>simpa using h4 k (by omega) (by simpa using hl)
theorem ade:Builder.Extra Tryz.prog n7 where
 sizeBuilder:=by kernel_rfl
 liesBuilder:=by kernel_rfl
 t5:=Tryz.underlying5
 a5:=Tryz.isAgg5
 z5:=Tryz.sizeOf5
 v5:=Tryz.zeroValue5
 infoByte:=by kernel_rfl
 cellsByte:=by kernel_rfl
 sizeByte:=by kernel_rfl
 neB5:=by decide
theorem am1 {w:World} {o:Bool} {F:aL}:∀ (l:List aA) {cs:List Value},Row w o F cs (l.map dF).flatten→cs=l.map cW∧∀ b,F b=0:=by
 intro l
 induction l generalizing F with
 | nil=>
  intro cs h
  cases h with
  | nil _ _ hF=>exact ⟨rfl,hF⟩
 | cons n l ih=>
  intro cs h
  have e:((n::l).map dF).flatten=.str n::(l.map dF).flatten:=by simp [dF]
  rw [e] at h
  cases h with
  | str _ _ _ vs _ h=>
   obtain ⟨e1,e2⟩:=ih h
   exact ⟨by rw [e1]; rfl,e2⟩
theorem aqx (l:List aA) (hl:l.length<2^40) (hn:(Lib.join l [47]).length<2^47):aY Tryz.prog 225 [.ext 1 (l.map dF),.str [47]] (.str (Lib.join l [47])) [.undef,.undef]:=by
 refine ⟨⟨_,Tryz.func225,by kernel_rfl,by kernel_rfl⟩,rfl,?_⟩
 intro w vs F X h h1 h2 h3
 have fin:∀ {e:Ending} {w':World} (h0:∀ b,F b=0),e=.returned (.string ⟨(Lib.join l [47]).toArray⟩)→Below w.heap.size w w'→∃ v F' X',e=.returned v∧RepA w' lk0 F' X' (v::vs) [.str (Lib.join l [47]),.undef,.undef]∧(∀ b,F' b≤1)∧(∀ b,F' b=0∨X' b=0) ∧
   Grows w w'∧(∀ b,b<w.heap.size→F b=0→w'.heap[b]?=w.heap[b]?)∧(∀ b,F' b≠0→F b≠0∨w.heap.size≤b)∧(∀ b,X' b≠0→(X b≠0∨F b≠0∨w.heap.size≤b)∧b<w'.heap.size):=by
  intro e w' h0 he hb
  have hlen:=h.length
  match vs,hlen with
  | [v1,v2],_=>exact ⟨_,fun _=>0,fun _=>0,he,.str _ _ _ _ _ (.undef _ _ _ _ _ (.undef _ _ _ _ _ (.nil _ _ (fun _=>rfl) (fun _=>rfl)))),fun b=>lD3 _,fun b=>.inl rfl,⟨hb.size,⟨hb.os,hb.output⟩⟩,fun b hlt _=>hb.block b hlt,fun b hb=>absurd rfl hb,fun b hb=>absurd rfl hb⟩
 cases h with
 | ext _ _ X1 X2 _ _ v vs _ hr hn' hX=>
  cases hn' with
  | str _ _ _ vs _ h0=>
   cases h0 with
   | nil _ _ hF hX2=>
    by_cases he:l=[]
    ·subst he
     have hv:∃ a c,v=.slice a 0 c:=by
      cases hr with
      | ext0 _ _ a cap _ _ _=>exact ⟨a,cap,rfl⟩
      | ext _ _ _ _ _ a cap _ _ _ _ _ _ _ _ _ _=>exact ⟨some a,cap,rfl⟩
     obtain ⟨a,c,rfl⟩:=hv
     refine (Any.strings_Join_none uR ade a c ⟨#[47]⟩ w).mono ?_
     rintro e w' ⟨he,rfl⟩
     exact fin hF he (Below.refl _ _)
    ·generalize hes:l.map dF=es at hr
     cases hr with
     | ext0 _ _ a cap _ _ _=>simp at hes; exact absurd hes he
     | ext _ F1 F2 _ _ a cap cs _ _ hle hs hcs hc g1 g2 hFF=>
      subst hes
      obtain ⟨e1,_⟩:=am1 l g1
      have hcl:cs.length=l.length:=by rw [e1,lO1]
      have hpos:0<l.length:=lM3.2 he
      have hc0:=hc 0 (by omega)
      rw [show a.add 0=a from rfl,lK (by omega)] at hc0
      have hsp:a.spot=none:=by
       unfold World.cell? at hc0
       split at hc0
       ·split at hc0
        ·cases hc0
        ·rename_i h; simpa using h
       ·cases hc0
      obtain ⟨ab,ao,asp⟩:=a
      simp only at hsp
      subst hsp
      have hbl:ab<w.heap.size:=World.block_lt_of_cell? _ _ hc0
      have hml:(l.map dF).length=l.length:=lO1 _
      rw [hml] at hle
      have hxs:(l.map fun s=>(⟨s.toArray⟩:ByteArray)).map (fun x=>x.data.toList)=l:=by rw [lZ4]; simp [Function.comp_def]
      have:=Any.strings_Join uR ade ab ao cap (l.map fun s=>(⟨s.toArray⟩:ByteArray)) ⟨#[47]⟩ w (fun j x hx=>by
       rw [lS1] at hx
       cases hj:l[j]? with
       | none=>rw [hj] at hx; cases hx
       | some s=>
        rw [hj] at hx
        have hjl:j<l.length:=(lM.1 hj).1
        have:=hc j (by omega)
        rw [e1,lS1,hj] at this
        simp only [lC,Option.some.injEq] at hx
        subst hx
        rw [← Addr.add_lit]; exact this) hbl (by rw [lO1]; omega) (by rw [lO1]; exact hle) (by rw [hxs]; show (Lib.join l [47]).length≤_; omega)
      rw [hxs,lO1,← hml] at this
      refine this.mono ?_
      rintro e w' ⟨he,hb⟩
      exact fin hF he hb
end
def aiZ (done:List aA) (n:Nat):List aA:=done++List.replicate (n-done.length) []
theorem ak6 (n:Nat):(aiZ [] n).map dF=List.replicate n [TV.str []]:=by simp [aiZ,dF]
theorem abE {done:List aA} {n:Nat} (h:done.length≤n):(aiZ done n).length=n:=by simp [aiZ]; omega
theorem agY {done:List aA} {n:Nat} (h:done.length<n) (x:aA):((aiZ done n).map dF).modify done.length (fun r=>TV.str x::r.drop 1)=(aiZ (done++[x]) n).map dF:=by
 obtain ⟨m,hm⟩:∃ m,n-done.length=m+1:=⟨n-done.length-1,by omega⟩
 have e:n-(done++[x]).length=m:=by simp; omega
 rw [aiZ,aiZ,hm,e,lM2,lM2,lM2,List.replicate_succ,lO]
 have:=rL (done.map dF) (dF []::(List.replicate m []).map dF) done.length (fun r=>TV.str x::r.drop 1) (by simp)
 rw [this,lO1,Nat.sub_self,lS4,lJ2]; rfl
theorem ak7 {done:List aA} {n:Nat}:((aiZ done n).map dF).take done.length=done.map dF:=by
 rw [← lG4,aiZ,List.take_left']; rfl
theorem adf (s:aA):s.count 47≤s.length:=List.count_le_length
theorem afq (s:aA) (hl:s.length<2^40):aY Tryz.prog 184 [.str s,.str [47],.int .i64 0,.int .i64 (-1)] (.own 1 ((bJ s).map dF)) [.undef,.undef,.undef,.undef]:=by
 have hc:=adf s
 have hm:¬ ((s.length:Nat):Int)+1<((s.count 47:Nat):Int)+1:=by omega
 refine U acQ [] 3855 [] fun w hP hQ=>?_
 unfold uN
 refine N ?_
 refine K (am0 s) ?_
 have ha:((s.count 47:Nat):Int)+1-1=(s.count 47:Nat):=by omega
 have hb:(((s.count 47:Nat):Int)+1).toNat=s.count 47+1:=by omega
 simp only [lI hm,ha,hb,← ak6]
 refine eU [11] ?_
 refine N ?_
 refine aR [11] (fun x:List aA × aA=>[(0,.str x.2),(9,.own 1 ((aiZ x.1 (s.count 47+1)).map dF)),(10,.int .i64 (x.1.length:Nat))]) (fun x=>x.1++bJ x.2=bJ s∧x.2.length<2^40) (fun x=>x.2.count 47) (([],s)) hP hQ (rfl) (⟨rfl,hl⟩) ?_
 rintro ⟨done,rest⟩ ⟨hd,hr⟩ w1 hP1 hQ1
 refine N1 ?_
 simp only at hd hr
 have hn:done.length+rest.count 47=s.count 47:=by
  have:=congrArg List.length hd
  rw [lU,pG,pG] at this; omega
 have hpl:=abE (done:=done) (n:=s.count 47+1) (by omega)
 rcases aqX rest with ⟨h1,h2⟩ | ⟨m,h1,h2,h3,h4⟩
 ·have fin:done++[rest]=bJ s:=by rw [← hd,x7 h2]
  have hz:rest.count 47=0:=List.count_eq_zero.2 fun hmem=>by
   obtain ⟨k,hk,e⟩:=lV1 hmem
   exact h2 k hk e
  (first | with_reducible refine cP _ ?_ ?_ | refine cQ _ ?_ ?_) <;> intro g
  ·exfalso; omega
  ·have hdl:((done.length:Nat):Int)<((aiZ done (s.count 47+1)).length:Nat):=by omega
   have e1:(((done.length:Nat):Int)+1-0).toNat=done.length+1:=by omega
   have e2:0+(done.length+1)≤s.count 47+1:=by omega
   have e3:=agY (done:=done) (n:=s.count 47+1) (by omega) rest
   have e4:=ak7 (done:=done++[rest]) (n:=s.count 47+1)
   rw [fin,← fin,lU] at e4
   have hp2:=abE (done:=done++[rest]) (n:=s.count 47+1) (by simp; omega)
   have hz:=And.intro hpl (And.intro hp2 (And.intro e1 (And.intro e2 e3)))
   refine Nz1 ?_
   rw [← fin]
   exact congrArg (AV.own 1) e4
 ·have hx:=ak4 h1 h3 h4
  have hy:=x6 h1 h3 h4
  (first | with_reducible refine cP _ ?_ ?_ | refine cQ _ ?_ ?_) <;> intro g
  ·have e5:¬ ((m:Nat):Int)<0:=by omega
   have e6:(((m:Nat):Int)-0).toNat=m:=by omega
   have e7:(((rest.length:Nat):Int)-((m:Int)+1)).toNat=rest.length-(m+1):=by omega
   have e9:(rest.drop (m+1)).take (rest.length-(m+1))=rest.drop (m+1):=lR1 (by simp)
   have e8:(((m:Nat):Int)+1).toNat=m+1:=by omega
   have e3:=agY (done:=done) (n:=s.count 47+1) (by omega) (rest.take m)
   have hp2:=abE (done:=done++[rest.take m]) (n:=s.count 47+1) (by simp; omega)
   refine N1 ?_
   have hz:=And.intro h2 (And.intro e5 (And.intro e6 (And.intro e7 (And.intro e8 (And.intro e9 (And.intro hpl (And.intro hp2 e3)))))))
   refine Kz1 (amZ rest) ?_
   exact ⟨(done++[rest.take m],rest.drop (m+1)),by simp,⟨by rw [← hd,hy,lJ2]; rfl,by simp only [lY1]; omega⟩,by simp only; omega⟩
  ·exfalso; omega
theorem aph (s:aA) (hl:s.length<2^40):aY Tryz.prog 142 [.str s,.str [47]] (.own 1 ((bJ s).map dF)) [.undef,.undef]:=by
 refine U aky [] 19 [] fun w hP hQ=>?_
 unfold acH
 refine N ?_
 exact K (afq s hl) trivial
theorem adg (s:aA) (hl:s.length<2^48):aY Tryz.prog 186 [.str s] (.bool (!bB s)) [.undef]:=by
 refine U abu [] 5 [] fun w hP hQ=>?_
 unfold sD
 refine N ?_
 exact K (fD s hl) trivial
theorem sU {g:Nat} {p:aA→Bool} (l:List aA) (hl:l.length<2^48) (hc:∀ v ∈ l,aY Tryz.prog g [.str v] (.bool (p v)) [.undef]) :
  aY Tryz.prog 231 [.ext 1 (l.map dF),.fn g []] (.int .i64 (yX (l.findIdx? p))) [.undef,.undef]:=by
 refine U qE [] 435 [] fun w hP hQ=>?_
 unfold jE
 refine N ?_
 refine eU [4,5] ?_
 refine N ?_
 refine aR [4,5] (fun i:Nat=>[(8,.int .i64 i)]) (fun i=>i≤l.length∧∀ k,k<i→(h:k<l.length)→p l[k]=false) (fun i=>l.length-i) (0) hP hQ (rfl) (by simp) ?_
 rintro i ⟨hi,hk⟩ w1 hP1 hQ1
 refine N1 ?_
 (first | with_reducible refine cP _ ?_ ?_ | refine cQ _ ?_ ?_) <;> intro h1
 ·simp +decide (maxSteps:=9^9) (disch:=omega) only[↓SB0,SX,seval,hQ,hQ1,bF h1,dF]
  cases h2:p (l[i]'(by omega)) with
  | true=>
   have hz:=h2
   refine Kz1 (hc (l[i]'(by omega)) (lP _)) ?_
   rw [p9 hk (by omega) h2]; rfl
  | false=>
   have hz:=h2
   refine Kz1 (hc (l[i]'(by omega)) (lP _)) ?_
   exact ⟨i+1,rfl,⟨by omega,pH hk (by omega) h2⟩,by omega⟩
 ·obtain rfl:i=l.length:=by omega
  refine N1 ?_
  rw [qA fun k h=>hk k h h]; rfl
theorem pI {g:Nat} {p:aA→Bool} (l:List aA) (hl:l.length<2^48) (hc:∀ v ∈ l,aY Tryz.prog g [.str v] (.bool (p v)) [.undef]) :
  aY Tryz.prog 185 [.ext 1 (l.map dF),.fn g []] (.bool (l.any p)) [.undef,.undef]:=by
 have hI:=sU l hl hc
 cases e:l.findIdx? p with
 | none=>
  have:l.any p=false:=by
   rw [List.any_eq_false]
   intro x hx
   rw [lW2] at e
   simp [e x hx]
  rw [e] at hI
  rw [this]
  refine U gM [] 19 [] fun w hP hQ=>?_
  unfold eH
  refine N ?_
  exact K (hI) trivial
 | some k=>
  have:l.any p=true:=by
   rw [lZ1] at e
   rw [List.any_eq_true]
   exact ⟨_,lP e.1,e.2.1⟩
  rw [e,show yX (some k)=(k:Int) from rfl] at hI
  rw [this]
  have hz:decide ((0:Int)≤(k:Nat))=true:=lG (by omega)
  refine U gM [] 19 [] fun w hP hQ=>?_
  unfold eH
  refine N ?_
  have hz:=hz
  exact Kz (hI) trivial
theorem aaz (l:List aA) (hl:l.length<2^48) (hs:∀ n ∈ l,n.length<2^48):aY Tryz.prog 143 [.ext 1 (l.map dF)] (.bool (b9 l)) [.undef]:=by
 have hC:=pI (g:=186) (p:=fun s=>!bB s) l hl fun v hv=>adg v (hs v hv)
 have e:b9 l=(decide (((l.length:Nat):Int)≤30) && !(l.any fun s=>!bB s)):=by
  rw [b9,List.not_any_eq_all_not,show decide (l.length≤30)=decide (((l.length:Nat):Int)≤30) by rw [decide_eq_decide]; omega]
  simp
 rw [e]
 refine U ae4 [] 5 [] fun w hP hQ=>?_
 unfold xB
 refine N ?_
 (first | with_reducible refine tO _ ?_ ?_ | refine tP _ ?_ ?_) <;> intro h
 ·have hz:=h
  refine Nz ?_
  refine K (hC) ?_
  rw [lG h]; rfl
 ·have hz:=h
  exact Nz trivial
theorem afr (s:aA):∀ n ∈ bJ s,n.length≤s.length:=by
 induction s with
 | nil=>simp [bJ]
 | cons c s ih=>
  intro n hn
  by_cases hc:c=47
  ·rw [bJ,lF hc] at hn
   rcases lH.1 hn with rfl | hn
   ·simp
   ·have:=ih n hn; simp; omega
  ·obtain ⟨a,t,e1,e2⟩:=nO c s hc
   rw [e2] at hn
   rcases lH.1 hn with rfl | hn
   ·have:=ih a (by rw [e1]; simp); simp; omega
   ·have:=ih n (by rw [e1]; simp [hn]); simp; omega
theorem aiA (s:aA):(bJ s).length≤s.length+1:=by rw [pG]; have:=adf s; omega
theorem pJ (s:aA) (hl:s.length<2^40):aY Tryz.prog 81 [.str s] (.tup [.own 1 ((aB s).1.map dF),.bool (aB s).2]) [.undef]:=by
 have hS:=aph s hl
 have hp:=afr s
 have hf:=aiA s
 by_cases h0:s=[47]
 ·subst h0
  refine U gL [] 29 [] fun w hP hQ=>?_
  unfold fG
  refine N ?_
  rfl
 cases e:bJ s with
 | nil=>exact absurd e (sK s)
 | cons a t=>
  rw [e] at hS hp hf
  cases a with
  | cons c a=>
   have er:aB s=([],false):=by rw [aB,lI h0,e]; rfl
   rw [er]
   refine U gL [] 29 [] fun w hP hQ=>?_
   unfold fG
   refine N ?_
   have hz:=h0
   refine Nz ?_
   (first|refine cI hP (hS) rfl rfl ?_|refine cH hP (hS) rfl rfl ?_)
   simp +decide (maxSteps:=9^9) (disch:=omega) only[↓SB0,SX,seval,hQ,lO,dF]
  | nil=>
   cases t with
   | nil=>
    have er:aB s=([],false):=by rw [aB,lI h0,e]; rfl
    rw [er]
    refine U gL [] 29 [] fun w hP hQ=>?_
    unfold fG
    refine N ?_
    have hz:=h0
    refine Nz ?_
    (first|refine cI hP (hS) rfl rfl ?_|refine cH hP (hS) rfl rfl ?_)
    simp +decide (maxSteps:=9^9) (disch:=omega) only[↓SB0,SX,seval,hQ,lO,lP1,dF]
   | cons n t=>
    have hN:=aaz (n::t) (by simp only [lW] at hf ⊢; omega) fun x hx=>by have:=hp x (by simp [hx]); omega
    have hw:decide (((t.length+1+1:Nat):Int)<2)=false:=lB (by omega)
    have hy:1+(t.length+1)≤t.length+1+1:=by omega
    have hz:(((t.length+1+1:Nat):Int)-1).toNat=t.length+1:=by omega
    have ht:([TV.str n]::List.map dF t).take (t.length+1)=[TV.str n]::List.map dF t:=lR1 (by simp)
    simp only [lO,show dF n=[TV.str n] from rfl] at hN
    cases hn:b9 (n::t) with
    | false=>
     have er:aB s=([],false):=ada e hn h0
     rw [hn] at hN
     rw [er]
     refine U gL [] 29 [] fun w hP hQ=>?_
     unfold fG
     refine N ?_
     simp +decide (maxSteps:=9^9) (disch:=omega) only[↓SB0,SX,seval,hQ,h0]
     (first|refine cI hP (hS) rfl rfl ?_|refine cH hP (hS) rfl rfl ?_)
     simp +decide (maxSteps:=9^9) (disch:=omega) only[↓SB0,SX,seval,hQ,lO,dF,hw,hz,ht,hy]
     (first|refine cI hP (hN) rfl rfl ?_|refine cH hP (hN) rfl rfl ?_)
     simp +decide (maxSteps:=9^9) (disch:=omega) only[↓SB0,SX,seval,hQ,hw,hz,ht,hy,lO,dF]
    | true=>
     have er:aB s=(n::t,true):=aax e (by simp) hn h0
     rw [hn] at hN
     rw [er]
     refine U gL [] 29 [] fun w hP hQ=>?_
     unfold fG
     refine N ?_
     simp +decide (maxSteps:=9^9) (disch:=omega) only[↓SB0,SX,seval,hQ,h0]
     (first|refine cI hP (hS) rfl rfl ?_|refine cH hP (hS) rfl rfl ?_)
     simp +decide (maxSteps:=9^9) (disch:=omega) only[↓SB0,SX,seval,hQ,lO,dF,hw,hz,ht,hy]
     (first|refine cI hP (hN) rfl rfl ?_|refine cH hP (hN) rfl rfl ?_)
     simp +decide (maxSteps:=9^9) (disch:=omega) only[↓SB0,SX,seval,hQ,hw,hz,ht,hy,lO,dF]
theorem aaA {n:Nat} (h:n<2^63):IntKind.i64.wrap (n:Int)=n:=by
 have h1:((2:Int)^IntKind.i64.bits)=2^64:=by decide
 have h2:((2:Int)^(IntKind.i64.bits-1))=2^63:=by decide
 unfold IntKind.wrap
 simp only [h1,h2,IntKind.signed]
 simp
 omega
theorem adh (n:aA) (l:List aA):(47:UInt8)::Lib.join (n::l) [47]=eN (n::l):=by
 rw [Lib.join_cons,aiy]
 congr 2
theorem aaB {l:List aA} (h:b9 l=true):(Lib.join l [47]).length≤450:=by
 cases l with
 | nil=>simp [Lib.join_nil]
 | cons n l=>
  have:=x8 h
  rw [← adh] at this
  simp at this; omega
theorem afs (l:List aA) (hl:l.length<2^40) (hs:∀ n ∈ l,n.length<2^48):aY Tryz.prog 179 [.ext 1 (l.map dF)] (.str (cF l)) [.undef]:=by
 have hN:=aaz l (by omega) hs
 cases e:b9 l with
 | false=>
  rw [e] at hN
  rw [cF,lI (by simp [e])]
  refine U uQ [] 5 [] fun w hP hQ=>?_
  unfold oW
  refine N ?_
  exact K (hN) trivial
 | true=>
  rw [e] at hN
  have hJ:=aqx l hl (by have:=aaB e; omega)
  have er:(47:UInt8)::Lib.join l [47]=cF l:=by
   rw [cF,lF e]
   cases l with
   | nil=>rfl
   | cons n l=>rw [adh,lI (by simp)]
  rw [← er]
  refine U uQ [] 5 [] fun w hP hQ=>?_
  unfold oW
  refine N ?_
  refine K (hN) ?_
  have hb:1+(Lib.join l [47]).length≤4611686018427387904:=by have:=aaB e; omega
  have hz:=hb
  exact Kz (hJ) trivial
theorem uC {s:aA}:∀ n ∈ (aB s).1,n.length≤14:=by
 intro n hn
 cases h:(aB s).2 with
 | false=>rw [agO h] at hn; simp at hn
 | true=>exact (nP ((mO (pZ h).1).2 n hn)).2
theorem mX (s:aA):(aB s).1.length≤30:=by
 cases h:(aB s).2 with
 | false=>rw [agO h]; simp
 | true=>exact (mO (pZ h).1).1
theorem x9 {l:List aA} {k:Nat} (h:l.length=k+1):l[k]?=some (l.getLastD []):=by
 have hne:l≠[]:=fun e=>by rw [e] at h; simp at h
 rw [List.getLastD_eq_getLast?,List.getLast?_eq_some_getLast hne,List.getLast_eq_getElem]
 simp [h]
theorem aft (s:aA) (hl:s.length<2^40):aY Tryz.prog 123 [.str s] (.tup [.str (aK s).1,.str (aK s).2.1,.bool (aK s).2.2]) [.undef]:=by
 have hS:=pJ s hl
 have hp:=uC (s:=s)
 have hf:=mX s
 unfold aK
 generalize aB s=x at *
 obtain ⟨l,b⟩:=x
 cases b with
 | false=>
  rw [lI (by simp)]
  refine U o0 [] 253 [] fun w hP hQ=>?_
  unfold kN
  refine N ?_
  exact K (hS) trivial
 | true=>
  cases hk:l.length with
  | zero=>
   obtain rfl:l=[]:=lT1.1 hk
   rw [lI (by simp)]
   refine U o0 [] 253 [] fun w hP hQ=>?_
   unfold kN
   refine N ?_
   exact K (hS) trivial
  | succ k=>
   have hne:l≠[]:=fun e=>by rw [e] at hk; simp at hk
   rw [lF ⟨rfl,hne⟩]
   have hJ:=afs l.dropLast (by simp; simp only at hf; omega) fun n hn=>by have:=hp n (List.dropLast_subset _ hn); omega
   rw [List.dropLast_eq_take,hk] at hJ ⊢
   simp only [Nat.add_sub_cancel,lG4] at hJ ⊢
   have hg:=x9 hk
   have h0:(decide (((k+1:Nat):Int)=0))=false:=lB (by omega)
   have h1:(((k+1:Nat):Int)-1)=(k:Int):=by omega
   have h2:((k:Int)-0).toNat=k:=by omega
   have h3:0+k≤k+1:=by omega
   have h4:=aaA (n:=k) (by simp only [hk] at hf; omega)
   refine U o0 [] 253 [] fun w hP hQ=>?_
   unfold kN
   refine N ?_
   have hz:=And.intro hk (And.intro h0 (And.intro h1 (And.intro h2 (And.intro h3 h4))))
   refine Kz (hS) ?_
   (first|refine cI hP (hJ) rfl rfl ?_|refine cH hP (hJ) rfl rfl ?_)
   simp +decide (maxSteps:=9^9) (disch:=omega) only[↓SB0,SX,seval,hQ,hk,h0,h1,h2,h3,h4,hg,dF]
theorem afu {l m:List aA} (h:l.length≤m.length):l.isPrefixOf m=decide (l=m.take l.length):=by
 rw [lZ3,lB3,decide_eq_true_eq]
 exact List.prefix_iff_eq_take
theorem afv {l m:List aA} (h:m.length<l.length):l.isPrefixOf m=false:=by
 cases e:l.isPrefixOf m with
 | false=>rfl
 | true=>have:=(lB3.1 e).length_le; omega
end Go.Proofs.YtnfngemnghiehaaGreatDoor.Awp
