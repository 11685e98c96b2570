/- Contracts of the functions that laws.FnRemoved reaches are proved here (part 1). Condition: none. -/
import Derived.Test.YtnfngemnghiehaaGreatDoorAwp3
import Derived.Test.YtnfngemnghiehaaGreatDoorRows
import Derived.Test.YtnfngemnghiehaaGreatDoorCards
import Derived.Test.YtnfngemnghiehaaGreatDoorTie
import Derived.Shelf.Lays
import Derived.Sort.Walk0
import Derived.Shelf.Strings.Search3
import Derived.Shelf.Strings.Count
import Derived.Shelf.Strings.OnBuilder
import Derived.Shelf.Sort.Plain
import Derived.Shelf.Slices.In.SortNone
import Derived.Shelf.Spec.SlicesInsert
import Derived.Shelf.Spec.SlicesInsertGrow
import Derived.Deep.MidRow
import Derived.ArgAppend
import Derived.OpenShut
import Derived.SevenTiedAt
import Derived.KernelRfl
set_option linter.unusedVariables false
set_option linter.unusedSimpArgs false
set_option maxRecDepth 100000
set_option maxHeartbeats 20000000
open Nat (reduceEqDiff reduceAdd reduceMul reduceSub)
open Int (reduceNeg reduceToNat reducePow)
namespace Go.Proofs.YtnfngemnghiehaaGreatDoor.Awp
section
namespace W
abbrev a (d x:Nat):GI:=⟨none,some d,.mov d (.t x)⟩
abbrev b (d x s:Nat):GI:=⟨none,some d,.ld d (.t x) s true⟩
abbrev b' (d x s:Nat):GI:=⟨none,some d,.ld d (.t x) s false⟩
abbrev c (d f:Nat) (l:List O):GI:=⟨none,some d,.call (some d) f l⟩
abbrev e (d x:Nat):GI:=⟨none,some d,.asg d (.t x)⟩
abbrev e' (d:Nat) (x:O):GI:=⟨none,some d,.asg d x⟩
abbrev f (d x i:Nat):GI:=⟨none,some d,.fld d (.t x) i⟩
abbrev g (d:Nat) (o:BinOp) (x y:O):GI:=⟨none,some d,.bin d o x y⟩
abbrev x (d x i:Nat):GI:=⟨none,some d,.xtr d (.t x) i⟩
abbrev l (d x:Nat):GI:=⟨none,some d,.len d (.t x)⟩
abbrev s (x y n:Nat):GI:=⟨none,none,.st (.t x) (.t y) n⟩
abbrev i (d x y s:Nat):GI:=⟨none,some d,.idx d (.t x) (.t y) s⟩
abbrev p (d x:Nat) (y z:O):GI:=⟨none,some d,.pck d (.t x) y z⟩
abbrev o (d s:Nat) (y:List O):GI:=⟨none,some d,.bsl d s y⟩
abbrev z (d:Nat) (y:List TV):GI:=⟨none,some d,.alc d y⟩
abbrev ha (t:Nat) (q:Bool) (d x:Nat):GI:=⟨some (t,q),some d,.mov d (.t x)⟩
abbrev hb (t:Nat) (q:Bool) (d x s:Nat):GI:=⟨some (t,q),some d,.ld d (.t x) s true⟩
abbrev hc (t:Nat) (q:Bool) (d f:Nat) (l:List O):GI:=⟨some (t,q),some d,.call (some d) f l⟩
end W
open I W
def iV:Cmd:=Q (R [e' 2 k0]) (Q (Q (R [a 11 0,c 12 12 [v 11]]) (F (v 12) (Q (R [e' 2 k1]) .ret) .skip)) (Q (R [a 14 0,c 15 29 [v 14],a 13 15,x 16 13 0,x 17 13 1,z 3 [.sl 6 [],.int .i64 0],s 3 16 2,e 4 17]) (Q (R [b 19 3 2,a 20 4,c 21 17 [v 19,v 20],a 18 21,x 22 18 0,x 23 18 1,z 5 [.sl 6 [],.int .i64 0],s 5 22 2,e 6 23]) (Q (R [b 25 3 2,a 26 4,c 27 30 [v 25,v 26],a 24 27,x 28 24 0,x 29 24 1,z 7 [.sl 6 [],.int .i64 0],s 7 28 2,e 8 29]) (Q (Q (R [a 30 6,a 31 8,g 32 .neq (v 30) (v 31),a 33 32,ha 33 false 34 6,h 33 false 35 (bin 35 .neq (v 34) (k 0)),p 36 33 k1 (v 35)]) (F (v 36) (Q (R [a 37 6,a 38 8,g 39 .eql (v 37) (v 38),a 40 39,hb 40 true 41 5 2,hb 40 true 42 3 2,hc 40 true 43 20 [v 41,v 42],p 44 40 (v 43) k0,e 2 44]) .ret) .skip)) (Q (R [b 46 3 2,a 47 4,c 48 31 [v 46,v 47],a 45 48,x 49 45 0,x 50 45 1,e 9 49,e 10 50]) (Q (D [0,1,3,7,15,31,63,15,191,447,959,2047,4095,8191,16383,32767,16383,131071,262143,524287,1048575,2097151,4194303,8388607,16777215,33554431,67108863,134217727,33554431,301989887,838860799,1912602623,4294967295,8589934591,17179869183] [a 51 9,l 52 51,g 53 .eql (v 52) (k 0),a 54 53,hb 54 true 55 5 2,hc 54 true 56 24 [v 55],h 54 true 57 (len 57 (v 56)),hb 54 true 58 3 2,hc 54 true 59 24 [v 58],h 54 true 60 (len 60 (v 59)),h 54 true 61 (bin 61 .sub (v 60) (k 1)),h 54 true 62 (bin 62 .eql (v 57) (v 61)),p 63 54 (v 62) k0,a 64 63,hb 64 true 65 5 2,hc 64 true 66 24 [v 65],ha 64 true 67 4,hc 64 true 68 26 [v 66,v 67],h 64 true 69 (un 69 .not (v 68)),p 70 64 (v 69) k0,a 71 70,hb 71 true 72 5 2,hc 71 true 73 28 [v 72],p 74 71 (v 73) k0,a 75 74,h 75 true 76 (fld 76 (v 5) 0),h 75 true 77 (ld 77 (v 76) 1 false),h 75 true 78 (len 78 (v 77)),h 75 true 79 (fld 79 (v 3) 0),h 75 true 80 (ld 80 (v 79) 1 false),h 75 true 81 (len 81 (v 80)),h 75 true 82 (bin 82 .sub (v 81) (k 1)),h 75 true 83 (bin 83 .eql (v 78) (v 82)),p 84 75 (v 83) k0,e 2 84]) .ret)))))))
def ajO:Cmd:=Q (R [e' 2 k0]) (Q (R [a 3 0,l 4 3,g 5 .gtr (v 4) (k 1048576),e 2 5]) .ret)
def dT:Cmd:=Q (R [n 2 (box 2 (v 0)),z 4 [.sl 6 [],.int .i64 0],e' 5 (k 0)]) (Q (R [b 10 2 2,c 11 61 [v 10],s 2 11 2]) (Q (Q (R [b 12 2 2,a 13 1,o 14 1 [v 13],c 15 62 [v 12,v 14],n 16 (un 16 .not (v 15)),a 17 16,ha 17 false 18 1,h 17 false 19 (bin 19 .eql (v 18) (.c (.str [47]))),p 20 17 k1 (v 19)]) (F (v 20) (Q (R [b 21 2 2,s 4 21 2,e' 5 (k 1)]) .ret) .skip)) (Q (R [b 23 2 2,a 24 1,c 25 68 [v 23,v 24],a 22 25,x 26 22 0,x 27 22 1,z 6 [.int .i64 0,.int .i64 0,.int .i64 0,.sl 1 [],.sl 2 [],.sl 2 []],s 6 26 6,e 7 27]) (Q (.blk 0 (Q (R [a 29 7,g 30 .neq (v 29) (k 0),e 28 30]) (F (v 28) (Q (R [b 31 2 2,a 32 7,s 4 31 2,e 5 32]) .ret) (Q (R [f 34 6 1,b' 35 34 1,g 36 .neq (v 35) (k 2),e 33 36]) (F (v 33) (Q (R [b 37 2 2,s 4 37 2,e' 5 (k 3)]) .ret) (Q (R [f 39 6 4,b' 40 39 1,l 41 40,g 42 .gtr (v 41) (k 0),e 38 42]) (F (v 38) (Q (R [b 43 2 2,s 4 43 2,e' 5 (k 6)]) .ret) .skip))))))) (Q (R [b 45 2 2,a 46 1,c 47 64 [v 45,v 46],a 44 47,x 48 44 0,x 49 44 1,z 8 [.int .i64 0,.int .i64 0,.int .i64 0,.sl 1 [],.sl 2 [],.sl 2 [],.str []],s 8 48 7,e 9 49]) (Q (D [0,0,3,0,8,31,63,127] [b 50 8 7,b 51 2 2,c 52 65 [v 50,v 51],f 53 6 0,b' 54 53 1,c 55 66 [v 52,v 54],s 4 55 2,e' 5 (k 0)]) .ret))))))
def v6:Cmd:=Q (R [n 2 (box 2 (v 0)),n 3 (box 3 (v 1)),e' 4 k0]) (Q (R [f 5 2 1,b' 6 5 1,f 7 3 1,b' 8 7 1,g 9 .eql (v 6) (v 8),a 10 9,h 10 true 11 (fld 11 (v 2) 0),h 10 true 12 (ld 12 (v 11) 1 false),h 10 true 13 (fld 13 (v 3) 0),h 10 true 14 (ld 14 (v 13) 1 false),hc 10 true 15 72 [v 12,v 14,.c (.fn 73 [])],p 16 10 (v 15) k0,e 4 16]) .ret)
def pM:Cmd:=Q (R [z 2 [.sl 6 [],.int .i64 0],e' 3 (.c (.str []))]) (Q (R [a 6 0,c 7 56 [v 6],e 4 7]) (Q (R [a 8 4,c 9 74 [v 8],z 5 [.sl 6 [],.int .i64 0],s 5 9 2]) (Q (D [0,0,0,6,15,31] [b 10 5 2,a 11 4,b 12 5 2,c 13 58 [v 11,v 12],s 2 10 2,e 3 13]) .ret)))
def i9:Cmd:=Q (R [n 2 (box 2 (v 0)),z 4 [.sl 6 [],.int .i64 0],e' 5 (k 0)]) (Q (R [a 13 1,c 14 75 [v 13],a 12 14,x 15 12 0,x 16 12 1,x 17 12 2,e 6 15,e 7 16,e 8 17]) (Q (Q (R [b 18 2 2,c 19 46 [v 18],n 20 (un 20 .not (v 19)),a 21 20,ha 21 false 22 8,h 21 false 23 (un 23 .not (v 22)),p 24 21 k1 (v 23)]) (F (v 24) (Q (R [b 25 2 2,c 26 76 [v 25],s 4 26 2,e' 5 (k 1)]) .ret) .skip)) (Q (R [b 28 2 2,a 29 1,c 30 77 [v 28,v 29],a 27 30,x 31 27 0,x 32 27 1,z 9 [.int .i64 0,.int .i64 0,.int .i64 0,.sl 1 [],.sl 2 [],.sl 2 []],s 9 31 6,e 10 32]) (Q (Q (R [a 33 10,g 34 .neq (v 33) (k 0)]) (F (v 34) (Q (R [b 35 2 2,c 36 76 [v 35],a 37 10,s 4 36 2,e 5 37]) .ret) .skip)) (Q (R [b 38 2 2,a 39 1,c 40 78 [v 38,v 39],z 11 [.sl 6 [],.int .i64 0],s 11 40 2]) (Q (Q (R [f 41 9 2,b' 42 41 1,g 43 .eql (v 42) (k 1)]) (F (v 43) (Q (R [b 44 11 2,f 45 9 0,b' 46 45 1,c 47 79 [v 44,v 46],s 4 47 2,e' 5 (k 0)]) .ret) .skip)) (Q (R [f 48 9 2,b' 49 48 1,g 50 .sub (v 49) (k 1),f 51 9 2,s 51 50 1]) (Q (R [b 52 11 2,b 53 9 6,c 54 80 [v 52,v 53],s 4 54 2,e' 5 (k 0)]) .ret))))))))
def aaU:Cmd:=Q (R [n 2 (box 2 (v 0)),e' 4 (k 0),e' 5 (k 0)]) (Q (R [a 14 1,c 15 81 [v 14],a 13 15,x 16 13 0,x 17 13 1,e 6 16,e 7 17]) (Q (Q (R [a 18 7,n 19 (un 19 .not (v 18))]) (F (v 19) (Q (R [e' 4 (k 0),e' 5 (k 1)]) .ret) .skip)) (Q (R [e' 8 (k 1)]) (Q (Q (R [a 20 6,l 21 20,n 22 (mov 22 (k 0))]) (.blk 0 (.loop (Q (R [g 23 .lss (v 22) (v 21)]) (Q (F (v 23) .skip (.exit 0)) (Q (.blk 1 (Q (R [i 24 20 22 1,b' 25 24 1,e 10 25]) (Q (R [b 27 2 2,a 28 8,c 29 70 [v 27,v 28],a 26 29,x 30 26 0,x 31 26 1,z 11 [.int .i64 0,.int .i64 0,.int .i64 0,.sl 1 [],.sl 2 [],.sl 2 []],s 11 30 6,e 12 31]) (Q (.blk 2 (Q (R [a 33 12,n 34 (un 34 .not (v 33)),e 32 34]) (F (v 32) (Q (R [e' 4 (k 0),e' 5 (k 2)]) .ret) (Q (R [f 36 11 1,b' 37 36 1,g 38 .neq (v 37) (k 2),e 35 38]) (F (v 35) (Q (R [e' 4 (k 0),e' 5 (k 3)]) .ret) .skip))))) (Q (R [b 39 11 6,a 40 10,c 41 69 [v 39,v 40],e 8 41]) (Q (R [a 42 8,g 43 .eql (v 42) (k 0)]) (F (v 43) (Q (R [e' 4 (k 0),e' 5 (k 2)]) .ret) .skip))))))) (R [g 44 .add (v 22) (k 1),a 22 44]))))))) (Q (R [a 45 8,e 4 45,e' 5 (k 0)]) .ret)))))
def p7:Cmd:=Q (R [n 1 (box 1 (v 0)),e' 2 (.c (.own 1 []))]) (Q (Q (R [b 6 1 2,c 7 28 [v 6],n 8 (un 8 .not (v 7))]) (F (v 8) (Q (R [e' 2 (.c (.own 1 []))]) .ret) .skip)) (Q (R [b 10 1 2,c 11 70 [v 10,k 1],a 9 11,x 12 9 0,x 13 9 1,z 3 [.int .i64 0,.int .i64 0,.int .i64 0,.sl 1 [],.sl 2 [],.sl 2 []],s 3 12 6,e 4 13]) (Q (R [b 14 1 2,b 15 3 6,c 16 82 [v 14,v 15,.c (.str [])],e 5 16]) (Q (R [a 17 5,c 18 83 [v 17]]) (Q (R [a 19 5,e 2 19]) .ret)))))
def v7:Cmd:=Q (R [e' 4 k0]) (Q (Q (R [e' 5 (k 0)]) (.blk 0 (.loop (Q (Q (R [a 6 5,a 7 0,l 8 7,g 9 .lss (v 6) (v 8)]) (F (v 9) .skip (.exit 0))) (Q (.blk 1 (Q (R [a 12 0,a 13 5,i 14 12 13 1,b' 15 14 1,a 16 1,g 17 .eql (v 15) (v 16)]) (F (v 17) (Q (R [e' 4 k1]) .ret) .skip))) (R [a 10 5,g 11 .add (v 10) (k 1),e 5 11])))))) (Q (R [e' 4 k0]) .ret))
def yY:Cmd:=Q (R [n 1 (box 1 (v 0)),e' 2 k0]) (Q (Q (D [0,1,3,7,15,31,63,15,143,399,1023,2047] [b 7 1 2,c 8 85 [v 7],n 9 (un 9 .not (v 8)),a 10 9,hb 10 false 11 1 2,hc 10 false 12 49 [v 11],h 10 false 13 (len 13 (v 12)),h 10 false 14 (fld 14 (v 1) 0),h 10 false 15 (ld 15 (v 14) 1 false),h 10 false 16 (len 16 (v 15)),h 10 false 17 (bin 17 .neq (v 13) (v 16)),p 18 10 k1 (v 17)]) (F (v 18) (Q (R [e' 2 k0]) .ret) .skip)) (Q (Q (R [f 19 1 0,b' 20 19 1,l 21 20,n 22 (mov 22 (k 0))]) (.blk 0 (.loop (Q (R [g 23 .lss (v 22) (v 21)]) (Q (F (v 23) .skip (.exit 0)) (Q (.blk 1 (Q (R [i 24 20 22 6,b 25 24 6,z 4 [.int .i64 0,.int .i64 0,.int .i64 0,.sl 1 [],.sl 2 [],.sl 2 []],s 4 25 6]) (Q (Q (D [0,1,0,0,8,28,63] [f 26 4 2,b' 27 26 1,b 28 1 2,f 29 4 0,b' 30 29 1,c 31 86 [v 28,v 30],g 32 .neq (v 27) (v 31)]) (F (v 32) (Q (R [e' 2 k0]) .ret) .skip)) (Q (R [f 33 4 4,b' 34 33 1,l 35 34,n 36 (mov 36 (k 0))]) (.blk 2 (.loop (Q (R [g 37 .lss (v 36) (v 35)]) (Q (F (v 37) .skip (.exit 2)) (Q (.blk 3 (Q (R [i 38 34 36 2,b 39 38 2,z 6 [.str [],.int .i64 0],s 6 39 2]) (Q (R [b 40 1 2,f 41 6 1,b' 42 41 1,c 43 87 [v 40,v 42],g 44 .lss (v 43) (k 0)]) (F (v 44) (Q (R [e' 2 k0]) .ret) .skip)))) (R [g 45 .add (v 36) (k 1),a 36 45])))))))))) (R [g 46 .add (v 22) (k 1),a 22 46]))))))) (Q (R [e' 2 k1]) .ret)))
def lA:Cmd:=Q (R [z 2 [.sl 6 [],.int .i64 0],e' 3 (.c (.str []))]) (Q (R [a 4 0,c 5 21 [v 4],x 6 5 0,x 7 5 1,s 2 6 2,e 3 7]) .ret)
def dU:Cmd:=Q (R [n 2 (box 2 (v 0)),z 4 [.sl 6 [],.int .i64 0],e' 5 (k 0)]) (Q (R [a 12 1,c 13 75 [v 12],a 11 13,x 14 11 0,x 15 11 1,x 16 11 2,e 6 14,e 7 15,e 8 16]) (Q (Q (R [b 17 2 2,c 18 46 [v 17],n 19 (un 19 .not (v 18)),a 20 19,ha 20 false 21 8,h 20 false 22 (un 22 .not (v 21)),p 23 20 k1 (v 22)]) (F (v 23) (Q (R [b 24 2 2,c 25 76 [v 24],s 4 25 2,e' 5 (k 1)]) .ret) .skip)) (Q (R [b 27 2 2,a 28 1,c 29 88 [v 27,v 28],a 26 29,x 30 26 0,x 31 26 1,z 9 [.int .i64 0,.int .i64 0,.int .i64 0,.sl 1 [],.sl 2 [],.sl 2 []],s 9 30 6,e 10 31]) (Q (.blk 0 (Q (R [a 33 10,g 34 .neq (v 33) (k 0),e 32 34]) (F (v 32) (Q (R [b 35 2 2,c 36 76 [v 35],a 37 10,s 4 36 2,e 5 37]) .ret) (Q (R [f 39 9 1,b' 40 39 1,g 41 .neq (v 40) (k 2),e 38 41]) (F (v 38) (Q (R [b 42 2 2,c 43 76 [v 42],s 4 43 2,e' 5 (k 3)]) .ret) (Q (R [f 45 9 4,b' 46 45 1,l 47 46,g 48 .gtr (v 47) (k 0),e 44 48]) (F (v 44) (Q (R [b 49 2 2,c 50 76 [v 49],s 4 50 2,e' 5 (k 6)]) .ret) .skip))))))) (Q (D [0,0,3,0,8,31,63,127] [b 51 2 2,a 52 1,c 53 78 [v 51,v 52],f 54 9 0,b' 55 54 1,c 56 79 [v 53,v 55],s 4 56 2,e' 5 (k 0)]) .ret)))))
def uU:Cmd:=Q (R [n 2 (box 2 (v 0)),e' 4 (.c (.own 1 [])),e' 5 (k 0)]) (Q (R [b 12 2 2,a 13 1,c 14 68 [v 12,v 13],a 11 14,x 15 11 0,x 16 11 1,z 6 [.int .i64 0,.int .i64 0,.int .i64 0,.sl 1 [],.sl 2 [],.sl 2 []],s 6 15 6,e 7 16]) (Q (Q (R [a 17 7,g 18 .neq (v 17) (k 0)]) (F (v 18) (Q (R [a 19 7,e' 4 (.c (.own 1 [])),e 5 19]) .ret) .skip)) (Q (Q (R [f 20 6 1,b' 21 20 1,g 22 .neq (v 21) (k 2)]) (F (v 22) (Q (R [e' 4 (.c (.own 1 [])),e' 5 (k 3)]) .ret) .skip)) (Q (R [o 23 1 [],e 8 23]) (Q (Q (R [f 24 6 4,b' 25 24 1,l 26 25,n 27 (mov 27 (k 0))]) (.blk 0 (.loop (Q (R [g 28 .lss (v 27) (v 26)]) (Q (F (v 28) .skip (.exit 0)) (Q (.blk 1 (Q (R [i 29 25 27 2,b 30 29 2,z 10 [.str [],.int .i64 0],s 10 30 2]) (R [a 31 8,f 32 10 0,b' 33 32 1,o 34 1 [v 33],n 35 (app 35 (v 31) (v 34) 1 16),e 8 35]))) (R [g 36 .add (v 27) (k 1),a 27 36]))))))) (Q (R [a 37 8,e 4 37,e' 5 (k 0)]) .ret))))))
def tS:Cmd:=Q (R [n 2 (box 2 (v 0)),z 4 [.sl 6 [],.int .i64 0],e' 5 (k 0)]) (Q (R [b 6 2 2,a 7 1,c 8 89 [v 6,v 7,k 1],x 9 8 0,x 10 8 1,s 4 9 2,e 5 10]) .ret)
def v8:Cmd:=Q (R [n 2 (box 2 (v 0)),z 4 [.sl 6 [],.int .i64 0],e' 5 (k 0)]) (Q (R [b 6 2 2,a 7 1,c 8 89 [v 6,v 7,k 2],x 9 8 0,x 10 8 1,s 4 9 2,e 5 10]) .ret)
def eO:Cmd:=Q (R [n 3 (box 3 (v 0)),z 6 [.sl 6 [],.int .i64 0],e' 7 (k 0)]) (Q (R [a 19 1,c 20 91 [v 19],a 18 20,x 21 18 0,x 22 18 1,e 8 21,e 9 22]) (Q (R [a 24 2,c 25 75 [v 24],a 23 25,x 26 23 0,x 27 23 1,x 28 23 2,e 10 26,e 11 27,e 12 28]) (Q (Q (R [b 29 3 2,c 30 46 [v 29],n 31 (un 31 .not (v 30)),a 32 31,ha 32 false 33 9,h 32 false 34 (un 34 .not (v 33)),p 35 32 k1 (v 34),a 36 35,ha 36 false 37 12,h 36 false 38 (un 38 .not (v 37)),p 39 36 k1 (v 38)]) (F (v 39) (Q (R [b 40 3 2,c 41 76 [v 40],s 6 41 2,e' 7 (k 1)]) .ret) .skip)) (Q (R [b 43 3 2,a 44 1,c 45 77 [v 43,v 44],a 42 45,x 46 42 0,x 47 42 1,z 13 [.int .i64 0,.int .i64 0,.int .i64 0,.sl 1 [],.sl 2 [],.sl 2 []],s 13 46 6,e 14 47]) (Q (Q (R [a 48 14,g 49 .neq (v 48) (k 0)]) (F (v 49) (Q (R [b 50 3 2,c 51 76 [v 50],a 52 14,s 6 51 2,e 7 52]) .ret) .skip)) (Q (R [b 54 3 2,a 55 2,c 56 92 [v 54,v 55,k 0],a 53 56,x 57 53 0,x 58 53 1,x 59 53 2,z 15 [.int .i64 0,.int .i64 0,.int .i64 0,.sl 1 [],.sl 2 [],.sl 2 []],s 15 57 6,e 16 58,e 17 59]) (Q (Q (R [a 60 17,g 61 .neq (v 60) (k 0)]) (F (v 61) (Q (R [b 62 3 2,c 63 76 [v 62],a 64 17,s 6 63 2,e 7 64]) .ret) .skip)) (Q (R [f 65 13 2,b' 66 65 1,g 67 .add (v 66) (k 1),f 68 13 2,s 68 67 1]) (Q (R [f 69 15 4,b' 70 69 1,a 71 16,f 72 13 0,b' 73 72 1,n 74 (bld 74 [.str [],.int .i64 0] [(0,1,v 71),(1,1,v 73)]),c 75 93 [v 70,v 74],f 76 15 4,s 76 75 1]) (Q (D [0,0,3,0,15,31,63] [b 77 3 2,b 78 13 6,c 79 80 [v 77,v 78],b 80 15 6,c 81 80 [v 79,v 80],s 6 81 2,e' 7 (k 0)]) .ret))))))))))
def fR:Cmd:=Q (R [n 3 (box 3 (v 0)),z 6 [.sl 6 [],.int .i64 0],e' 7 (k 0)]) (Q (R [a 28 1,c 29 75 [v 28],a 27 29,x 30 27 0,x 31 27 1,x 32 27 2,e 8 30,e 9 31,e 10 32]) (Q (R [a 34 2,c 35 75 [v 34],a 33 35,x 36 33 0,x 37 33 1,x 38 33 2,e 11 36,e 12 37,e 13 38]) (Q (Q (R [b 39 3 2,c 40 46 [v 39],n 41 (un 41 .not (v 40)),a 42 41,ha 42 false 43 10,h 42 false 44 (un 44 .not (v 43)),p 45 42 k1 (v 44),a 46 45,ha 46 false 47 13,h 46 false 48 (un 48 .not (v 47)),p 49 46 k1 (v 48)]) (F (v 49) (Q (R [b 50 3 2,c 51 76 [v 50],s 6 51 2,e' 7 (k 1)]) .ret) .skip)) (Q (R [b 53 3 2,a 54 1,c 55 97 [v 53,v 54],a 52 55,x 56 52 0,x 57 52 1,e 14 56,e 15 57]) (Q (Q (R [a 58 15,g 59 .neq (v 58) (k 0)]) (F (v 59) (Q (R [b 60 3 2,c 61 76 [v 60],a 62 15,s 6 61 2,e 7 62]) .ret) .skip)) (Q (Q (R [a 63 1,a 64 2,c 65 98 [v 63,v 64]]) (F (v 65) (Q (R [b 66 3 2,c 67 76 [v 66],s 6 67 2,e' 7 (k 6)]) .ret) .skip)) (Q (R [b 69 3 2,a 70 8,c 71 97 [v 69,v 70],a 68 71,x 72 68 0,x 73 68 1,e 16 72,e 17 73]) (Q (R [b 75 3 2,a 76 2,a 77 16,c 78 92 [v 75,v 76,v 77],a 74 78,x 79 74 0,x 80 74 1,x 81 74 2,z 18 [.int .i64 0,.int .i64 0,.int .i64 0,.sl 1 [],.sl 2 [],.sl 2 []],s 18 79 6,e 19 80,e 20 81]) (Q (Q (R [a 82 20,g 83 .neq (v 82) (k 0)]) (F (v 83) (Q (R [b 84 3 2,c 85 76 [v 84],a 86 20,s 6 85 2,e 7 86]) .ret) .skip)) (Q (R [b 87 3 2,a 88 1,c 89 78 [v 87,v 88],z 21 [.sl 6 [],.int .i64 0],s 21 89 2]) (Q (R [a 91 2,c 92 75 [v 91],a 90 92,x 93 90 0,x 94 90 1,x 95 90 2,e 22 93,e 23 94,e 24 95]) (Q (R [b 97 21 2,a 98 22,c 99 88 [v 97,v 98],a 96 99,x 100 96 0,x 101 96 1,z 25 [.int .i64 0,.int .i64 0,.int .i64 0,.sl 1 [],.sl 2 [],.sl 2 []],s 25 100 6,e 26 101]) (Q (R [f 102 25 4,b' 103 102 1,a 104 19,a 105 14,n 106 (bld 106 [.str [],.int .i64 0] [(0,1,v 104),(1,1,v 105)]),c 107 93 [v 103,v 106],f 108 25 4,s 108 107 1]) (Q (R [b 109 21 2,b 110 25 6,c 111 80 [v 109,v 110],s 6 111 2,e' 7 (k 0)]) .ret))))))))))))))
def yZ:Cmd:=Q (R [n 1 (box 1 (v 0)),e' 2 k0]) (Q (Q (D [0,1,3,7,15,31,63,15,143,399,1023,2047] [b 6 1 2,c 7 107 [v 6],n 8 (un 8 .not (v 7)),a 9 8,hb 9 false 10 1 2,hc 9 false 11 50 [v 10],h 9 false 12 (len 12 (v 11)),h 9 false 13 (fld 13 (v 1) 0),h 9 false 14 (ld 14 (v 13) 1 false),h 9 false 15 (len 15 (v 14)),h 9 false 16 (bin 16 .neq (v 12) (v 15)),p 17 9 k1 (v 16)]) (F (v 17) (Q (R [e' 2 k0]) .ret) .skip)) (Q (Q (R [e' 3 (k 0)]) (.blk 0 (.loop (Q (Q (R [a 18 3,f 19 1 0,b' 20 19 1,l 21 20,g 22 .lss (v 18) (v 21)]) (F (v 22) .skip (.exit 0))) (Q (.blk 1 (Q (R [f 25 1 0,b' 26 25 1,a 27 3,i 28 26 27 6,b 29 28 6,z 4 [.int .i64 0,.int .i64 0,.int .i64 0,.sl 1 [],.sl 2 [],.sl 2 []],s 4 29 6]) (Q (Q (D [0,0,2,7,0,16,63] [b 30 1 2,f 31 4 0,b' 32 31 1,c 33 108 [v 30,v 32],f 34 4 2,b' 35 34 1,g 36 .neq (v 33) (v 35)]) (F (v 36) (Q (R [e' 2 k0]) .ret) .skip)) (Q (R [e' 5 (k 0)]) (.blk 2 (.loop (Q (Q (R [a 37 5,f 38 4 4,b' 39 38 1,l 40 39,g 41 .lss (v 37) (v 40)]) (F (v 41) .skip (.exit 2))) (Q (.blk 3 (Q (D [0,0,2,0,14,30,62,127,255] [b 44 1 2,f 45 4 4,b' 46 45 1,a 47 5,i 48 46 47 2,f 49 48 1,b' 50 49 1,c 51 109 [v 44,v 50],g 52 .lss (v 51) (k 0)]) (F (v 52) (Q (R [e' 2 k0]) .ret) .skip))) (R [a 42 5,g 43 .add (v 42) (k 1),e 5 43]))))))))) (R [a 23 3,g 24 .add (v 23) (k 1),e 3 24])))))) (Q (R [e' 2 k1]) .ret)))
def wA:Cmd:=Q (R [n 1 (box 1 (v 0)),e' 2 (.c (.own 1 []))]) (Q (R [o 10 1 [],e 3 10]) (Q (R [o 11 1 [k 1],e 4 11]) (Q (.blk 0 (.loop (Q (Q (R [a 12 4,l 13 12,g 14 .gtr (v 13) (k 0)]) (F (v 14) .skip (.exit 0))) (.blk 1 (Q (R [a 15 4,n 16 (idx 16 (v 15) (k 0) 1),b' 17 16 1,e 5 17]) (Q (R [a 18 4,n 19 (slc 19 (v 18) (some (k 1)) none 1),e 4 19]) (Q (R [b 21 1 2,a 22 5,c 23 70 [v 21,v 22],a 20 23,x 24 20 0,x 25 20 1,z 6 [.int .i64 0,.int .i64 0,.int .i64 0,.sl 1 [],.sl 2 [],.sl 2 []],s 6 24 6,e 7 25]) (Q (Q (R [a 26 7,n 27 (un 27 .not (v 26)),a 28 27,ha 28 false 29 3,ha 28 false 30 5,hc 28 false 31 110 [v 29,v 30],p 32 28 k1 (v 31)]) (F (v 32) (.exit 1) .skip)) (Q (R [a 33 3,a 34 5,o 35 1 [v 34],n 36 (app 36 (v 33) (v 35) 1 8),e 3 36]) (Q (R [f 37 6 1,b' 38 37 1,g 39 .eql (v 38) (k 2)]) (F (v 39) (Q (R [f 40 6 4,b' 41 40 1,l 42 41,n 43 (mov 43 (k 0))]) (.blk 2 (.loop (Q (R [g 44 .lss (v 43) (v 42)]) (Q (F (v 44) .skip (.exit 2)) (Q (.blk 3 (Q (R [i 45 41 43 2,b 46 45 2,z 9 [.str [],.int .i64 0],s 9 46 2]) (R [a 47 4,f 48 9 1,b' 49 48 1,o 50 1 [v 49],n 51 (app 51 (v 47) (v 50) 1 8),e 4 51]))) (R [g 52 .add (v 43) (k 1),a 43 52]))))))) .skip))))))))))) (Q (R [a 53 3,c 54 111 [v 53]]) (Q (R [a 55 3,e 2 55]) .ret)))))
def p8:Cmd:=Q (R [n 1 (box 1 (v 0)),e' 2 (.c (.own 1 []))]) (Q (R [o 5 1 [],e 3 5]) (Q (Q (R [b 6 1 2,c 7 109 [v 6,k 1],g 8 .lss (v 7) (k 0)]) (F (v 8) (Q (R [a 9 3,e 2 9]) .ret) .skip)) (Q (R [a 10 3,o 11 1 [k 1],n 12 (app 12 (v 10) (v 11) 1 8),e 3 12]) (Q (Q (R [e' 4 (k 0)]) (.blk 0 (.loop (Q (Q (R [a 13 4,f 14 1 0,b' 15 14 1,l 16 15,g 17 .lss (v 13) (v 16)]) (F (v 17) .skip (.exit 0))) (Q (.blk 1 (R [b 20 1 2,a 21 3,c 22 112 [v 20,v 21],e 3 22])) (R [a 18 4,g 19 .add (v 18) (k 1),e 4 19])))))) (Q (R [a 23 3,e 2 23]) .ret)))))
def acq:Cmd:=Q (R [e' 2 (.c (.undef))]) (Q (R [a 5 0,l 6 5,g 7 .add (k 351351) (v 6),e 3 7]) (Q (Q (R [e' 4 (k 0)]) (.blk 0 (.loop (Q (Q (R [a 8 4,a 9 0,l 10 9,g 11 .lss (v 8) (v 10),a 12 11,ha 12 true 13 4,h 12 true 14 (bin 14 .lss (v 13) (k 4000)),p 15 12 (v 14) k0]) (F (v 15) .skip (.exit 0))) (Q (.blk 1 (R [a 18 3,g 19 .mul (v 18) (k 137),a 20 0,a 21 4,i 22 20 21 1,b' 23 22 1,n 24 (conv 24 .i64 (v 23)),g 25 .add (v 19) (v 24),g 26 .add (v 25) (k 11),g 27 .and (v 26) (k 1073741823),e 3 27])) (R [a 16 4,g 17 .add (v 16) (k 1),e 4 17])))))) (Q (R [a 28 0,a 29 3,n 30 (bld 30 [.sl 1 [],.int .i64 0,.int .i64 0] [(0,1,v 28),(2,1,v 29)]),n 31 (box 31 (v 30)),e 2 31]) .ret)))
def y0:Cmd:=Q (R [z 4 [.sl 6 [],.int .i64 0]]) (Q (R [c 7 118 [],z 5 [.sl 6 [],.int .i64 0],s 5 7 2]) (Q (Q (R [a 8 0,a 9 1,g 10 .add (v 9) (k 4),c 11 101 [v 8,v 10],e 6 11]) (.blk 0 (.loop (Q (Q (R [a 12 6,g 13 .gtr (v 12) (k 0)]) (F (v 13) .skip (.exit 0))) (Q (.blk 1 (R [a 16 0,b 17 5 2,c 18 119 [v 16,v 17],s 5 18 2])) (R [a 14 6,g 15 .sub (v 14) (k 1),e 6 15])))))) (Q (R [b 19 5 2,s 4 19 2]) .ret)))
def o6:Cmd:=Q (R [n 3 (box 3 (v 1)),e' 4 (.c (.str []))]) (Q (R [b 6 3 2,c 7 120 [v 6],e 5 7]) (Q (Q (R [a 8 5,l 9 8,g 10 .gtr (v 9) (k 0),a 11 10,ha 11 true 12 0,hc 11 true 13 96 [v 12,k 4],h 11 true 14 (un 14 .not (v 13)),p 15 11 (v 14) k0]) (F (v 15) (Q (R [a 16 5,a 17 0,a 18 5,l 19 18,c 20 101 [v 17,v 19],i 21 16 20 1,b' 22 21 1,e 4 22]) .ret) .skip)) (Q (R [a 23 0,c 24 90 [v 23],e 4 24]) .ret)))
def y5:Cmd:=Q (R [e' 2 (.c (.str []))]) (Q (R [e' 3 (.c (.str []))]) (Q (Q (R [a 5 0,c 6 101 [v 5,k 3],g 7 .add (k 1) (v 6),e 4 7]) (.blk 0 (.loop (Q (Q (R [a 8 4,g 9 .gtr (v 8) (k 0)]) (F (v 9) .skip (.exit 0))) (Q (.blk 1 (R [a 12 3,g 13 .add (v 12) (.c (.str [47])),a 14 0,c 15 121 [v 14],g 16 .add (v 13) (v 15),e 3 16])) (R [a 10 4,g 11 .sub (v 10) (k 1),e 4 11])))))) (Q (R [a 17 3,e 2 17]) .ret)))
def wB:Cmd:=Q (R [n 1 (box 1 (v 0)),z 2 [.sl 6 [],.int .i64 0]]) (Q (R [f 6 1 1,b' 7 6 1,n 8 (bld 8 [.sl 6 [],.int .i64 0] [(1,1,v 7)]),z 3 [.sl 6 [],.int .i64 0],s 3 8 2]) (Q (Q (R [f 9 1 0,b' 10 9 1,l 11 10,n 12 (mov 12 (k 0))]) (.blk 0 (.loop (Q (R [g 13 .lss (v 12) (v 11)]) (Q (F (v 13) .skip (.exit 0)) (Q (.blk 1 (Q (R [i 14 10 12 6,b 15 14 6,z 5 [.int .i64 0,.int .i64 0,.int .i64 0,.sl 1 [],.sl 2 [],.sl 2 []],s 5 15 6]) (D [0,1,0,4,12,31,63,127] [f 16 3 0,b' 17 16 1,b 18 5 6,c 19 122 [v 18],o 20 6 [v 19],n 21 (app 21 (v 17) (v 20) 6 96),f 22 3 0,s 22 21 1]))) (R [g 23 .add (v 12) (k 1),a 12 23]))))))) (Q (R [b 24 3 2,s 2 24 2]) .ret)))
def acr:Cmd:=Q (R [n 2 (box 2 (v 0)),e' 4 k0]) (Q (Q (R [a 9 1,l 10 9,n 11 (mov 11 (k 0))]) (.blk 0 (.loop (Q (R [g 12 .lss (v 11) (v 10)]) (Q (F (v 12) .skip (.exit 0)) (Q (.blk 1 (Q (R [i 13 9 11 1,b' 14 13 1,e 6 14]) (Q (R [a 16 6,c 17 81 [v 16],a 15 17,x 18 15 0,x 19 15 1,e 7 18,e 8 19]) (Q (R [a 20 8,n 21 (un 21 .not (v 20))]) (F (v 21) (Q (R [e' 4 k0]) .ret) .skip))))) (R [g 22 .add (v 11) (k 1),a 11 22]))))))) (Q (R [b 23 2 2,c 24 28 [v 23],e 4 24]) .ret))
def o7:Cmd:=Q (R [n 2 (box 2 (v 0)),z 4 [.int .i64 0,.int .i64 0,.int .i64 0,.sl 1 [],.sl 2 [],.sl 2 [],.str []],e' 5 (k 0)]) (Q (R [a 12 1,c 13 123 [v 12],a 11 13,x 14 11 0,x 15 11 1,x 16 11 2,e 6 14,e 7 15,e 8 16]) (Q (R [b 18 2 2,a 19 6,c 20 68 [v 18,v 19],a 17 20,x 21 17 0,x 22 17 1,z 9 [.int .i64 0,.int .i64 0,.int .i64 0,.sl 1 [],.sl 2 [],.sl 2 []],s 9 21 6,e 10 22]) (Q (Q (R [a 23 10,g 24 .neq (v 23) (k 0)]) (F (v 24) (Q (R [n 25 (bld 25 [.int .i64 0,.int .i64 0,.int .i64 0,.sl 1 [],.sl 2 [],.sl 2 [],.str []] []),a 26 10,s 4 25 7,e 5 26]) .ret) .skip)) (Q (Q (R [f 27 9 1,b' 28 27 1,g 29 .neq (v 28) (k 2)]) (F (v 29) (Q (R [n 30 (bld 30 [.int .i64 0,.int .i64 0,.int .i64 0,.sl 1 [],.sl 2 [],.sl 2 [],.str []] []),s 4 30 7,e' 5 (k 3)]) .ret) .skip)) (Q (R [b 31 9 6,a 32 7,n 33 (bld 33 [.int .i64 0,.int .i64 0,.int .i64 0,.sl 1 [],.sl 2 [],.sl 2 [],.str []] [(0,6,v 31),(6,1,v 32)]),s 4 33 7,e' 5 (k 0)]) .ret)))))
def pN:Cmd:=Q (R [n 2 (box 2 (v 0)),n 3 (box 3 (v 1)),z 4 [.sl 6 [],.int .i64 0]]) (Q (R [f 5 2 0,f 6 5 4,b' 7 6 1,c 8 125 [v 7],n 9 (mkf 9 126 [v 2]),c 10 124 [v 8,v 9],f 11 2 0,f 12 11 4,s 12 10 1]) (Q (R [b 13 3 2,f 14 2 0,b 15 14 6,c 16 67 [v 13,v 15],s 4 16 2]) .ret))
def rC:Cmd:=Q (R [n 2 (box 2 (v 0)),n 3 (box 3 (v 1)),z 4 [.sl 6 [],.int .i64 0]]) (Q (R [b 5 2 2,c 6 61 [v 5],s 2 6 2]) (Q (R [f 7 2 0,b' 8 7 1,n 9 (mkf 9 128 [v 3]),c 10 127 [v 8,v 9],f 11 2 0,s 11 10 1]) (Q (R [b 12 2 2,s 4 12 2]) .ret)))
def tT:Cmd:=Q (R [n 2 (box 2 (v 0)),n 3 (box 3 (v 1)),z 4 [.sl 6 [],.int .i64 0]]) (Q (R [b 7 2 2,c 8 61 [v 7],s 2 8 2]) (Q (R [b 9 3 6,c 10 122 [v 9],s 3 10 6]) (Q (Q (R [b 11 2 2,f 12 3 0,b' 13 12 1,c 14 87 [v 11,v 13],e 5 14]) (Q (R [a 15 5,g 16 .geq (v 15) (k 0)]) (F (v 16) (Q (R [f 17 2 0,b' 18 17 1,a 19 5,b 20 3 6,i 21 18 19 6,s 21 20 6]) (Q (R [b 22 2 2,s 4 22 2]) .ret)) .skip))) (Q (R [f 23 2 0,b' 24 23 1,n 25 (mkf 25 130 [v 3]),c 26 129 [v 24,v 25],e 6 26]) (Q (Q (R [a 27 6,g 28 .lss (v 27) (k 0)]) (F (v 28) (R [f 29 2 0,b' 30 29 1,l 31 30,e 6 31]) .skip)) (Q (R [f 32 2 0,b' 33 32 1,a 34 6,b 35 3 6,o 36 6 [v 35],c 37 131 [v 33,v 34,v 36],f 38 2 0,s 38 37 1]) (Q (R [b 39 2 2,s 4 39 2]) .ret)))))))
def uV:Cmd:=Q (R [n 2 (box 2 (v 0)),z 4 [.int .i64 0,.int .i64 0,.int .i64 0,.sl 1 [],.sl 2 [],.sl 2 []],e' 5 (k 0)]) (Q (R [b 11 2 2,a 12 1,c 13 23 [v 11,v 12],a 10 13,x 14 10 0,x 15 10 1,e 6 14,e 7 15]) (Q (Q (R [a 16 7,g 17 .neq (v 16) (k 0)]) (F (v 17) (Q (R [n 18 (bld 18 [.int .i64 0,.int .i64 0,.int .i64 0,.sl 1 [],.sl 2 [],.sl 2 []] []),a 19 7,s 4 18 6,e 5 19]) .ret) .skip)) (Q (R [b 21 2 2,a 22 6,c 23 70 [v 21,v 22],a 20 23,x 24 20 0,x 25 20 1,z 8 [.int .i64 0,.int .i64 0,.int .i64 0,.sl 1 [],.sl 2 [],.sl 2 []],s 8 24 6,e 9 25]) (Q (Q (R [a 26 9,n 27 (un 27 .not (v 26))]) (F (v 27) (Q (R [n 28 (bld 28 [.int .i64 0,.int .i64 0,.int .i64 0,.sl 1 [],.sl 2 [],.sl 2 []] []),s 4 28 6,e' 5 (k 2)]) .ret) .skip)) (Q (R [b 29 8 6,s 4 29 6,e' 5 (k 0)]) .ret)))))
def acs:Cmd:=Q (R [n 2 (box 2 (v 0)),e' 4 (k 0)]) (Q (Q (R [f 7 2 4,b' 8 7 1,l 9 8,n 10 (mov 10 (k 0))]) (.blk 0 (.loop (Q (R [g 11 .lss (v 10) (v 9)]) (Q (F (v 11) .skip (.exit 0)) (Q (.blk 1 (Q (R [i 12 8 10 2,b 13 12 2,z 6 [.str [],.int .i64 0],s 6 13 2]) (Q (R [f 14 6 0,b' 15 14 1,a 16 1,g 17 .eql (v 15) (v 16)]) (F (v 17) (Q (R [f 18 6 1,b' 19 18 1,e 4 19]) .ret) .skip)))) (R [g 20 .add (v 10) (k 1),a 10 20]))))))) (Q (R [e' 4 (k 0)]) .ret))
def p9:Cmd:=Q (R [n 2 (box 2 (v 0)),z 4 [.int .i64 0,.int .i64 0,.int .i64 0,.sl 1 [],.sl 2 [],.sl 2 []],e' 5 k0]) (Q (R [b 7 2 2,a 8 1,c 9 87 [v 7,v 8],e 6 9]) (Q (Q (R [a 10 6,g 11 .lss (v 10) (k 0)]) (F (v 11) (Q (R [n 12 (bld 12 [.int .i64 0,.int .i64 0,.int .i64 0,.sl 1 [],.sl 2 [],.sl 2 []] []),s 4 12 6,e' 5 k0]) .ret) .skip)) (Q (R [f 13 2 0,b' 14 13 1,a 15 6,i 16 14 15 6,b 17 16 6,c 18 122 [v 17],s 4 18 6,e' 5 k1]) .ret)))
def jM:Cmd:=Q (R [e' 6 k0]) (Q (Q (R [a 10 0,l 11 10,a 12 1,l 13 12,g 14 .neq (v 11) (v 13)]) (F (v 14) (Q (R [e' 6 k0]) .ret) .skip)) (Q (Q (R [a 15 0,l 16 15,n 17 (mov 17 (k 0))]) (.blk 0 (.loop (Q (R [g 18 .lss (v 17) (v 16)]) (Q (F (v 18) .skip (.exit 0)) (Q (.blk 1 (Q (R [a 19 17,i 20 15 17 6,b 21 20 6,z 8 [.int .i64 0,.int .i64 0,.int .i64 0,.sl 1 [],.sl 2 [],.sl 2 []],e 7 19,s 8 21 6]) (Q (R [a 22 1,a 23 7,i 24 22 23 6,b 25 24 6,z 9 [.int .i64 0,.int .i64 0,.int .i64 0,.sl 1 [],.sl 2 [],.sl 2 []],s 9 25 6]) (Q (R [a 26 2,b 27 8 6,b 28 9 6,n 29 (callv (some 29) (v 26) [v 27,v 28]),n 30 (un 30 .not (v 29))]) (F (v 30) (Q (R [e' 6 k0]) .ret) .skip))))) (R [g 31 .add (v 17) (k 1),a 17 31]))))))) (Q (R [e' 6 k1]) .ret)))
def rD:Cmd:=Q (R [n 2 (box 2 (v 0)),n 3 (box 3 (v 1)),e' 4 k0]) (Q (R [f 5 2 0,b' 6 5 1,f 7 3 0,b' 8 7 1,g 9 .eql (v 6) (v 8),a 10 9,h 10 true 11 (fld 11 (v 2) 1),h 10 true 12 (ld 12 (v 11) 1 false),h 10 true 13 (fld 13 (v 3) 1),h 10 true 14 (ld 14 (v 13) 1 false),h 10 true 15 (bin 15 .eql (v 12) (v 14)),p 16 10 (v 15) k0,a 17 16,h 17 true 18 (fld 18 (v 2) 2),h 17 true 19 (ld 19 (v 18) 1 false),h 17 true 20 (fld 20 (v 3) 2),h 17 true 21 (ld 21 (v 20) 1 false),h 17 true 22 (bin 22 .eql (v 19) (v 21)),p 23 17 (v 22) k0,a 24 23,h 24 true 25 (fld 25 (v 2) 3),h 24 true 26 (ld 26 (v 25) 1 false),h 24 true 27 (fld 27 (v 3) 3),h 24 true 28 (ld 28 (v 27) 1 false),hc 24 true 29 135 [v 26,v 28],p 30 24 (v 29) k0,a 31 30,h 31 true 32 (fld 32 (v 2) 4),h 31 true 33 (ld 33 (v 32) 1 false),h 31 true 34 (fld 34 (v 3) 4),h 31 true 35 (ld 35 (v 34) 1 false),hc 31 true 36 136 [v 33,v 35],p 37 31 (v 36) k0,a 38 37,h 38 true 39 (fld 39 (v 2) 5),h 38 true 40 (ld 40 (v 39) 1 false),h 38 true 41 (fld 41 (v 3) 5),h 38 true 42 (ld 42 (v 41) 1 false),hc 38 true 43 137 [v 40,v 42],p 44 38 (v 43) k0,e 4 44]) .ret)
def rE:Cmd:=Q (R [z 2 [.sl 6 [],.int .i64 0]]) (Q (Q (R [a 3 0,c 4 101 [v 3,k 16]]) (.blk 0 (Q (R [g 6 .eql (v 4) (k 0),e 5 6]) (F (v 5) (Q (R [a 7 0,c 8 100 [v 7],s 2 8 2]) .ret) (Q (R [g 10 .eql (v 4) (k 1),e 9 10]) (F (v 9) (Q (R [a 11 0,c 12 138 [v 11],s 2 12 2]) .ret) .skip)))))) (Q (R [a 13 0,c 14 57 [v 13,k 10],s 2 14 2]) .ret))
def jW:Cmd:=Q (R [e' 2 (.c (.str [])),e' 3 (.c (.str [])),e' 4 k0]) (Q (R [a 9 0,c 10 91 [v 9],a 8 10,x 11 8 0,x 12 8 1,e 5 11,e 6 12]) (Q (Q (R [a 13 6,n 14 (un 14 .not (v 13)),a 15 14,ha 15 false 16 5,h 15 false 17 (len 17 (v 16)),h 15 false 18 (bin 18 .eql (v 17) (k 0)),p 19 15 k1 (v 18)]) (F (v 19) (Q (R [e' 2 (.c (.str [])),e' 3 (.c (.str [])),e' 4 k0]) .ret) .skip)) (Q (R [a 20 5,l 21 20,g 22 .sub (v 21) (k 1),e 7 22]) (Q (D [0,0,3,7,0,0,48,112,15,511,1023] [a 23 5,a 24 7,n 25 (slc 25 (v 23) none (some (v 24)) 1),c 26 139 [v 25],a 27 5,a 28 7,i 29 27 28 1,b' 30 29 1,e 2 26,e 3 30,e' 4 k1]) .ret))))
def y6:Cmd:=Q (R [n 1 (box 1 (v 0)),z 2 [.sl 6 [],.int .i64 0]]) (Q (R [f 5 1 1,b' 6 5 1,n 7 (bld 7 [.sl 6 [],.int .i64 0] [(1,1,v 6)]),z 3 [.sl 6 [],.int .i64 0],s 3 7 2]) (Q (Q (R [e' 4 (k 0)]) (.blk 0 (.loop (Q (Q (R [a 8 4,f 9 1 0,b' 10 9 1,l 11 10,g 12 .lss (v 8) (v 11)]) (F (v 12) .skip (.exit 0))) (Q (.blk 1 (D [0,1,0,4,0,28,60,124,252,511,1023,2047] [f 15 3 0,b' 16 15 1,f 17 1 0,b' 18 17 1,a 19 4,i 20 18 19 6,b 21 20 6,c 22 140 [v 21],o 23 6 [v 22],n 24 (app 24 (v 16) (v 23) 6 96),f 25 3 0,s 25 24 1])) (R [a 13 4,g 14 .add (v 13) (k 1),e 4 14])))))) (Q (R [b 26 3 2,s 2 26 2]) .ret)))
def o8:Cmd:=Q (R [n 2 (box 2 (v 0)),z 4 [.int .i64 0,.int .i64 0,.int .i64 0,.sl 1 [],.sl 2 [],.sl 2 []],e' 5 (k 0)]) (Q (R [b 9 2 2,a 10 1,c 11 88 [v 9,v 10],a 8 11,x 12 8 0,x 13 8 1,z 6 [.int .i64 0,.int .i64 0,.int .i64 0,.sl 1 [],.sl 2 [],.sl 2 []],s 6 12 6,e 7 13]) (Q (Q (R [a 14 7,g 15 .eql (v 14) (k 0),a 16 15,h 16 true 17 (fld 17 (v 6) 1),h 16 true 18 (ld 18 (v 17) 1 false),h 16 true 19 (bin 19 .neq (v 18) (k 1)),p 20 16 (v 19) k0]) (F (v 20) (Q (R [n 21 (bld 21 [.int .i64 0,.int .i64 0,.int .i64 0,.sl 1 [],.sl 2 [],.sl 2 []] []),s 4 21 6,e' 5 (k 3)]) .ret) .skip)) (Q (R [b 22 6 6,a 23 7,s 4 22 6,e 5 23]) .ret)))
def y7:Cmd:=Q (R [n 2 (box 2 (v 0)),z 4 [.sl 6 [],.int .i64 0]]) (Q (R [a 11 1,c 12 75 [v 11],a 10 12,x 13 10 0,x 14 10 1,x 15 10 2,e 5 13,e 6 14,e 7 15]) (Q (R [b 17 2 2,a 18 5,c 19 88 [v 17,v 18],a 16 19,x 20 16 0,x 21 16 1,z 8 [.int .i64 0,.int .i64 0,.int .i64 0,.sl 1 [],.sl 2 [],.sl 2 []],s 8 20 6,e 9 21]) (Q (R [f 22 8 4,b' 23 22 1,a 24 6,c 25 141 [v 23,v 24],f 26 8 4,s 26 25 1]) (Q (R [b 27 2 2,b 28 8 6,c 29 80 [v 27,v 28],s 4 29 2]) .ret))))
def rF:Cmd:=Q (R [n 2 (box 2 (v 0)),z 4 [.sl 6 [],.int .i64 0]]) (Q (R [f 7 2 1,b' 8 7 1,n 9 (bld 9 [.sl 6 [],.int .i64 0] [(1,1,v 8)]),z 5 [.sl 6 [],.int .i64 0],s 5 9 2]) (Q (Q (R [e' 6 (k 0)]) (.blk 0 (.loop (Q (Q (R [a 10 6,f 11 2 0,b' 12 11 1,l 13 12,g 14 .lss (v 10) (v 13)]) (F (v 14) .skip (.exit 0))) (Q (.blk 1 (Q (R [f 17 2 0,b' 18 17 1,a 19 6,i 20 18 19 6,f 21 20 0,b' 22 21 1,a 23 1,g 24 .neq (v 22) (v 23)]) (F (v 24) (D [0,1,0,4,0,28,60,124,252,511,1023,2047] [f 25 5 0,b' 26 25 1,f 27 2 0,b' 28 27 1,a 29 6,i 30 28 29 6,b 31 30 6,c 32 140 [v 31],o 33 6 [v 32],n 34 (app 34 (v 26) (v 33) 6 96),f 35 5 0,s 35 34 1]) .skip))) (R [a 15 6,g 16 .add (v 15) (k 1),e 6 16])))))) (Q (R [b 36 5 2,s 4 36 2]) .ret)))
def oB:Cmd:=Q (R [n 2 (box 2 (v 0)),n 3 (box 3 (v 1)),z 4 [.sl 6 [],.int .i64 0]]) (Q (R [b 8 2 2,c 9 76 [v 8],z 5 [.sl 6 [],.int .i64 0],s 5 9 2]) (Q (R [b 10 2 2,f 11 3 0,b' 12 11 1,c 13 109 [v 10,v 12],e 6 13]) (Q (Q (R [a 14 6,g 15 .geq (v 14) (k 0)]) (F (v 15) (Q (D [0,1,0,0,8,31,63] [f 16 5 0,b' 17 16 1,a 18 6,b 19 3 6,c 20 140 [v 19],i 21 17 18 6,s 21 20 6]) (Q (R [b 22 5 2,s 4 22 2]) .ret)) .skip)) (Q (R [e' 6 (k 0)]) (Q (.blk 0 (.loop (Q (Q (D [0,0,2,6,15,31,63,127,63,511,1023,2047,63,4159,16383,32767] [a 23 6,f 24 2 0,b' 25 24 1,l 26 25,g 27 .lss (v 23) (v 26),a 28 27,h 28 true 29 (fld 29 (v 2) 0),h 28 true 30 (ld 30 (v 29) 1 false),ha 28 true 31 6,h 28 true 32 (idx 32 (v 30) (v 31) 6),h 28 true 33 (fld 33 (v 32) 0),h 28 true 34 (ld 34 (v 33) 1 false),h 28 true 35 (fld 35 (v 3) 0),h 28 true 36 (ld 36 (v 35) 1 false),h 28 true 37 (bin 37 .lss (v 34) (v 36)),p 38 28 (v 37) k0]) (F (v 38) .skip (.exit 0))) (.blk 1 (R [a 39 6,g 40 .add (v 39) (k 1),e 6 40]))))) (Q (D [0,0,2,0,14,31,0,127,255,511,1023] [o 41 6 [],f 42 5 0,b' 43 42 1,a 44 6,n 45 (slc 45 (v 43) none (some (v 44)) 6),n 46 (app 46 (v 41) (v 45) 6 96),b 47 3 6,c 48 140 [v 47],o 49 6 [v 48],n 50 (app 50 (v 46) (v 49) 6 96),e 7 50]) (Q (R [a 51 7,f 52 5 0,b' 53 52 1,a 54 6,n 55 (slc 55 (v 53) (some (v 54)) none 6),n 56 (app 56 (v 51) (v 55) 6 96),f 57 5 0,s 57 56 1]) (Q (R [b 58 5 2,s 4 58 2]) .ret))))))))
def eT:Cmd:=Q (R [e' 2 (.c (.own 1 [])),e' 3 k0]) (Q (Q (R [a 5 0,g 6 .eql (v 5) (.c (.str [47]))]) (F (v 6) (Q (R [e' 2 (.c (.own 1 [])),e' 3 k1]) .ret) .skip)) (Q (R [a 7 0,c 8 142 [v 7,.c (.str [47])],e 4 8]) (Q (Q (R [a 9 4,n 10 (idx 10 (v 9) (k 0) 1),b' 11 10 1,g 12 .neq (v 11) (.c (.str [])),a 13 12,ha 13 false 14 4,h 13 false 15 (len 15 (v 14)),h 13 false 16 (bin 16 .lss (v 15) (k 2)),p 17 13 k1 (v 16),a 18 17,ha 18 false 19 4,h 18 false 20 (slc 20 (v 19) (some (k 1)) none 1),hc 18 false 21 143 [v 20],h 18 false 22 (un 22 .not (v 21)),p 23 18 k1 (v 22)]) (F (v 23) (Q (R [e' 2 (.c (.own 1 [])),e' 3 k0]) .ret) .skip)) (Q (R [a 24 4,n 25 (slc 25 (v 24) (some (k 1)) none 1),e 2 25,e' 3 k1]) .ret))))
def pO:Cmd:=Q (R [n 3 (box 3 (v 0)),n 4 (box 4 (v 1)),e' 6 (.c (.own 1 []))]) (Q (R [o 13 1 [],e 7 13]) (Q (Q (R [f 14 4 4,b' 15 14 1,l 16 15,n 17 (mov 17 (k 0))]) (.blk 0 (.loop (Q (R [g 18 .lss (v 17) (v 16)]) (Q (F (v 18) .skip (.exit 0)) (Q (.blk 1 (Q (R [i 19 15 17 2,b 20 19 2,z 9 [.str [],.int .i64 0],s 9 20 2]) (Q (R [a 21 2,g 22 .add (v 21) (.c (.str [47])),f 23 9 0,b' 24 23 1,g 25 .add (v 22) (v 24),e 10 25]) (Q (R [a 26 7,a 27 10,o 28 1 [v 27],n 29 (app 29 (v 26) (v 28) 1 16),e 7 29]) (Q (R [b 31 3 2,f 32 9 1,b' 33 32 1,c 34 70 [v 31,v 33],a 30 34,x 35 30 0,x 36 30 1,z 11 [.int .i64 0,.int .i64 0,.int .i64 0,.sl 1 [],.sl 2 [],.sl 2 []],s 11 35 6,e 12 36]) (R [a 37 7,b 38 3 2,b 39 11 6,a 40 10,c 41 82 [v 38,v 39,v 40],n 42 (app 42 (v 37) (v 41) 1 16),e 7 42])))))) (R [g 43 .add (v 17) (k 1),a 17 43]))))))) (Q (R [a 44 7,e 6 44]) .ret)))
def kE:Cmd:=Q (R [e' 2 (.c (.own 1 []))]) (Q (Q (R [a 3 0,n 4 (isn 4 false (v 3) (.c (.own 1 [])))]) (F (v 4) (Q (R [e' 2 (.c (.own 1 []))]) .ret) .skip)) (Q (R [o 5 1 [],a 6 0,n 7 (app 7 (v 5) (v 6) 1 1),e 2 7]) .ret))
def act:Cmd:=Q (R [n 1 (box 1 (v 0)),e' 2 k0]) (Q (Q (R [f 7 1 0,b' 8 7 1,l 9 8,g 10 .gtr (v 9) (k 30),a 11 10,h 11 false 12 (fld 12 (v 1) 1),h 11 false 13 (ld 13 (v 12) 1 false),hc 11 false 14 94 [v 13,k 2,k 1000],h 11 false 15 (un 15 .not (v 14)),p 16 11 k1 (v 15)]) (F (v 16) (Q (R [e' 2 k0]) .ret) .skip)) (Q (Q (R [f 17 1 0,b' 18 17 1,l 19 18,n 20 (mov 20 (k 0))]) (.blk 0 (.loop (Q (R [g 21 .lss (v 20) (v 19)]) (Q (F (v 21) .skip (.exit 0)) (Q (.blk 1 (Q (R [a 22 20,i 23 18 20 6,b 24 23 6,z 4 [.int .i64 0,.int .i64 0,.int .i64 0,.sl 1 [],.sl 2 [],.sl 2 []],e 3 22,s 4 24 6]) (Q (D [0,1,3,7,15,31,15,79,255,511,1023,2047,4095,8191,16383,32767,16383,81919,262143,524287,1048575,16383,2113535,8388607,16777215,33554431] [b 25 4 6,c 26 146 [v 25],n 27 (un 27 .not (v 26)),a 28 27,h 28 false 29 (fld 29 (v 4) 0),h 28 false 30 (ld 30 (v 29) 1 false),h 28 false 31 (fld 31 (v 1) 1),h 28 false 32 (ld 32 (v 31) 1 false),h 28 false 33 (bin 33 .geq (v 30) (v 32)),p 34 28 k1 (v 33),a 35 34,ha 35 false 36 3,h 35 false 37 (bin 37 .gtr (v 36) (k 0)),ha 35 false 38 37,h 38 true 39 (fld 39 (v 1) 0),h 38 true 40 (ld 40 (v 39) 1 false),ha 38 true 41 3,h 38 true 42 (bin 42 .sub (v 41) (k 1)),h 38 true 43 (idx 43 (v 40) (v 42) 6),h 38 true 44 (fld 44 (v 43) 0),h 38 true 45 (ld 45 (v 44) 1 false),h 38 true 46 (fld 46 (v 4) 0),h 38 true 47 (ld 47 (v 46) 1 false),h 38 true 48 (bin 48 .geq (v 45) (v 47)),h 35 false 49 (pck 49 (v 38) (v 48) k0),p 50 35 k1 (v 49)]) (F (v 50) (Q (R [e' 2 k0]) .ret) .skip)))) (R [g 51 .add (v 20) (k 1),a 20 51]))))))) (Q (R [b 53 1 2,c 54 70 [v 53,k 1],a 52 54,x 55 52 0,x 56 52 1,z 5 [.int .i64 0,.int .i64 0,.int .i64 0,.sl 1 [],.sl 2 [],.sl 2 []],s 5 55 6,e 6 56]) (Q (R [a 57 6,a 58 57,h 58 true 59 (fld 59 (v 5) 1),h 58 true 60 (ld 60 (v 59) 1 false),h 58 true 61 (bin 61 .eql (v 60) (k 2)),p 62 58 (v 61) k0,e 2 62]) .ret))))
def wC:Cmd:=Q (R [n 2 (box 2 (v 0)),e' 4 (k 0)]) (Q (R [e' 5 (k 0)]) (Q (Q (R [f 10 2 0,b' 11 10 1,l 12 11,n 13 (mov 13 (k 0))]) (.blk 0 (.loop (Q (R [g 14 .lss (v 13) (v 12)]) (Q (F (v 14) .skip (.exit 0)) (Q (.blk 1 (Q (R [i 15 11 13 6,b 16 15 6,z 7 [.int .i64 0,.int .i64 0,.int .i64 0,.sl 1 [],.sl 2 [],.sl 2 []],s 7 16 6]) (Q (Q (R [f 17 7 1,b' 18 17 1,g 19 .neq (v 18) (k 2)]) (F (v 19) (.exit 1) .skip)) (Q (R [f 20 7 4,b' 21 20 1,l 22 21,n 23 (mov 23 (k 0))]) (.blk 2 (.loop (Q (R [g 24 .lss (v 23) (v 22)]) (Q (F (v 24) .skip (.exit 2)) (Q (.blk 3 (Q (R [i 25 21 23 2,b 26 25 2,z 9 [.str [],.int .i64 0],s 9 26 2]) (Q (R [f 27 9 1,b' 28 27 1,a 29 1,g 30 .eql (v 28) (v 29)]) (F (v 30) (R [a 31 5,g 32 .add (v 31) (k 1),e 5 32]) .skip)))) (R [g 33 .add (v 23) (k 1),a 23 33])))))))))) (R [g 34 .add (v 13) (k 1),a 13 34]))))))) (Q (R [a 35 5,e 4 35]) .ret)))
def wD:Cmd:=Q (R [n 2 (box 2 (v 0)),n 3 (box 3 (v 1)),e' 4 (k 0)]) (Q (R [f 5 2 0,b' 6 5 1,n 7 (mkf 7 147 [v 3]),c 8 129 [v 6,v 7],e 4 8]) .ret)
def uW:Cmd:=Q (R [n 2 (box 2 (v 0)),z 4 [.int .i64 0,.int .i64 0,.int .i64 0,.sl 1 [],.sl 2 [],.sl 2 []],e' 5 (k 0)]) (Q (R [b 11 2 2,a 12 1,c 13 97 [v 11,v 12],a 10 13,x 14 10 0,x 15 10 1,e 6 14,e 7 15]) (Q (Q (R [a 16 7,g 17 .neq (v 16) (k 0)]) (F (v 17) (Q (R [n 18 (bld 18 [.int .i64 0,.int .i64 0,.int .i64 0,.sl 1 [],.sl 2 [],.sl 2 []] []),a 19 7,s 4 18 6,e 5 19]) .ret) .skip)) (Q (R [b 21 2 2,a 22 6,c 23 148 [v 21,v 22],a 20 23,x 24 20 0,x 25 20 1,z 8 [.int .i64 0,.int .i64 0,.int .i64 0,.sl 1 [],.sl 2 [],.sl 2 []],s 8 24 6,e 9 25]) (Q (Q (R [a 26 9,n 27 (un 27 .not (v 26))]) (F (v 27) (Q (R [n 28 (bld 28 [.int .i64 0,.int .i64 0,.int .i64 0,.sl 1 [],.sl 2 [],.sl 2 []] []),s 4 28 6,e' 5 (k 2)]) .ret) .skip)) (Q (R [b 29 8 6,s 4 29 6,e' 5 (k 0)]) .ret)))))
def gM:Cmd:=Q (R [n 3 (box 3 (v 0)),z 6 [.sl 6 [],.int .i64 0],e' 7 (k 0)]) (Q (Q (R [b 12 3 2,c 13 46 [v 12],n 14 (un 14 .not (v 13))]) (F (v 14) (Q (R [b 15 3 2,c 16 76 [v 15],s 6 16 2,e' 7 (k 1)]) .ret) .skip)) (Q (R [b 18 3 2,a 19 1,c 20 92 [v 18,v 19,k 0],a 17 20,x 21 17 0,x 22 17 1,x 23 17 2,z 8 [.int .i64 0,.int .i64 0,.int .i64 0,.sl 1 [],.sl 2 [],.sl 2 []],s 8 21 6,e 9 22,e 10 23]) (Q (Q (R [a 24 10,g 25 .eql (v 24) (k 0),a 26 25,h 26 true 27 (fld 27 (v 3) 0),h 26 true 28 (ld 28 (v 27) 1 false),h 26 true 29 (len 29 (v 28)),h 26 true 30 (bin 30 .geq (v 29) (k 30)),ha 26 true 31 30,h 31 false 32 (fld 32 (v 3) 1),h 31 false 33 (ld 33 (v 32) 1 false),h 31 false 34 (bin 34 .geq (v 33) (k 1000)),h 26 true 35 (pck 35 (v 31) k1 (v 34)),p 36 26 (v 35) k0]) (F (v 36) (R [e' 10 (k 5)]) .skip)) (Q (Q (R [a 37 10,g 38 .neq (v 37) (k 0)]) (F (v 38) (Q (R [b 39 3 2,c 40 76 [v 39],a 41 10,s 6 40 2,e 7 41]) .ret) .skip)) (Q (R [b 42 3 2,c 43 76 [v 42],z 11 [.sl 6 [],.int .i64 0],s 11 43 2]) (Q (R [f 44 8 4,b' 45 44 1,a 46 9,f 47 3 1,b' 48 47 1,n 49 (bld 49 [.str [],.int .i64 0] [(0,1,v 46),(1,1,v 48)]),c 50 93 [v 45,v 49],f 51 8 4,s 51 50 1]) (Q (D [0,0,3,0,8,0,56,127,255] [b 52 11 2,b 53 8 6,c 54 80 [v 52,v 53],f 55 3 1,b' 56 55 1,a 57 2,n 58 (bld 58 [.int .i64 0,.int .i64 0,.int .i64 0,.sl 1 [],.sl 2 [],.sl 2 []] [(0,1,v 56),(1,1,v 57),(2,1,k 1)]),c 59 80 [v 54,v 58],s 11 59 2]) (Q (R [f 60 3 1,b' 61 60 1,g 62 .add (v 61) (k 1),f 63 11 1,s 63 62 1]) (Q (R [b 64 11 2,s 6 64 2,e' 7 (k 0)]) .ret)))))))))
def wE:Cmd:=Q (R [e' 2 (.c (.str []))]) (Q (Q (R [a 3 0,c 4 96 [v 3,k 6]]) (F (v 4) (Q (R [a 5 0,o 6 1 [.c (.str []),.c (.str [47]),.c (.str [97]),.c (.str [47,47]),.c (.str [47,97,47]),.c (.str [47,65]),.c (.str [47,46,46]),.c (.str [47,46]),.c (.str [47,102,105,102,116,101,101,110,98,121,116,101,115,120,120,120]),.c (.str [47,97,47,47,98])],c 7 149 [v 5,v 6],e 2 7]) .ret) .skip)) (Q (R [a 8 0,c 9 59 [v 8],e 2 9]) .ret))
def m3:Cmd:=Q (R [e' 2 (.c (.own 1 [])),e' 3 k0]) (Q (R [o 8 1 [],e 4 8]) (Q (Q (R [a 9 0,g 10 .eql (v 9) (.c (.str [47]))]) (F (v 10) (Q (R [a 11 4,e 2 11,e' 3 k1]) .ret) .skip)) (Q (R [e' 5 (k 0)]) (Q (Q (R [e' 6 (k 0)]) (.blk 0 (.loop (Q (Q (R [a 12 6,a 13 0,n 14 (lens 14 (v 13)),g 15 .leq (v 12) (v 14)]) (F (v 15) .skip (.exit 0))) (Q (.blk 1 (Q (Q (R [a 18 6,a 19 0,n 20 (lens 20 (v 19)),g 21 .lss (v 18) (v 20),a 22 21,ha 22 true 23 0,ha 22 true 24 6,h 22 true 25 (sidx 25 (v 23) (v 24)),h 22 true 26 (bin 26 .neq (v 25) (.c (.int .u8 47))),p 27 22 (v 26) k0]) (F (v 27) (.exit 1) .skip)) (Q (Q (R [a 28 6,g 29 .gtr (v 28) (k 0)]) (F (v 29) (Q (R [a 30 0,a 31 5,a 32 6,n 33 (sls 33 (v 30) (some (v 31)) (some (v 32))),e 7 33]) (Q (Q (R [a 34 7,c 35 150 [v 34],n 36 (un 36 .not (v 35)),a 37 36,ha 37 false 38 4,h 37 false 39 (len 39 (v 38)),h 37 false 40 (bin 40 .eql (v 39) (k 30)),p 41 37 k1 (v 40)]) (F (v 41) (Q (R [o 42 1 [],e 2 42,e' 3 k0]) .ret) .skip)) (R [a 43 4,a 44 7,o 45 1 [v 44],n 46 (app 46 (v 43) (v 45) 1 16),e 4 46]))) .skip)) (R [a 47 6,g 48 .add (v 47) (k 1),e 5 48])))) (R [a 16 6,g 17 .add (v 16) (k 1),e 6 17])))))) (Q (Q (R [a 49 0,n 50 (lens 50 (v 49)),g 51 .eql (v 50) (k 0),a 52 51,ha 52 false 53 0,h 52 false 54 (sidx 54 (v 53) (k 0)),h 52 false 55 (bin 55 .neq (v 54) (.c (.int .u8 47))),p 56 52 k1 (v 55)]) (F (v 56) (Q (R [o 57 1 [],e 2 57,e' 3 k0]) .ret) .skip)) (Q (R [a 58 4,e 2 58,e' 3 k1]) .ret))))))
def fS:Cmd:=Q (R [n 3 (box 3 (v 0)),z 6 [.int .i64 0,.int .i64 0,.int .i64 0,.sl 1 [],.sl 2 [],.sl 2 []],e' 7 (.c (.str [])),e' 8 (k 0)]) (Q (R [a 15 1,c 16 75 [v 15],a 14 16,x 17 14 0,x 18 14 1,x 19 14 2,e 9 17,e 10 18,e 11 19]) (Q (Q (R [a 20 11,n 21 (un 21 .not (v 20))]) (F (v 21) (Q (R [n 22 (bld 22 [.int .i64 0,.int .i64 0,.int .i64 0,.sl 1 [],.sl 2 [],.sl 2 []] []),s 6 22 6,e' 7 (.c (.str [])),e' 8 (k 1)]) .ret) .skip)) (Q (R [b 24 3 2,a 25 9,c 26 88 [v 24,v 25],a 23 26,x 27 23 0,x 28 23 1,z 12 [.int .i64 0,.int .i64 0,.int .i64 0,.sl 1 [],.sl 2 [],.sl 2 []],s 12 27 6,e 13 28]) (Q (.blk 0 (Q (R [a 30 13,g 31 .neq (v 30) (k 0),e 29 31]) (F (v 29) (Q (R [n 32 (bld 32 [.int .i64 0,.int .i64 0,.int .i64 0,.sl 1 [],.sl 2 [],.sl 2 []] []),a 33 13,s 6 32 6,e' 7 (.c (.str [])),e 8 33]) .ret) (Q (R [f 35 12 1,b' 36 35 1,g 37 .neq (v 36) (k 2),e 34 37]) (F (v 34) (Q (R [n 38 (bld 38 [.int .i64 0,.int .i64 0,.int .i64 0,.sl 1 [],.sl 2 [],.sl 2 []] []),s 6 38 6,e' 7 (.c (.str [])),e' 8 (k 3)]) .ret) (Q (R [b 40 12 6,a 41 10,c 42 151 [v 40,v 41],g 43 .neq (v 42) (k 0),e 39 43]) (F (v 39) (Q (R [n 44 (bld 44 [.int .i64 0,.int .i64 0,.int .i64 0,.sl 1 [],.sl 2 [],.sl 2 []] []),s 6 44 6,e' 7 (.c (.str [])),e' 8 (k 4)]) .ret) (Q (R [f 46 12 4,b' 47 46 1,l 48 47,g 49 .geq (v 48) (k 10),a 50 49,h 50 true 51 (fld 51 (v 12) 0),h 50 true 52 (ld 52 (v 51) 1 false),ha 50 true 53 2,h 50 true 54 (bin 54 .neq (v 52) (v 53)),p 55 50 (v 54) k0,e 45 55]) (F (v 45) (Q (R [n 56 (bld 56 [.int .i64 0,.int .i64 0,.int .i64 0,.sl 1 [],.sl 2 [],.sl 2 []] []),s 6 56 6,e' 7 (.c (.str [])),e' 8 (k 5)]) .ret) .skip))))))))) (Q (R [b 57 12 6,a 58 10,s 6 57 6,e 7 58,e' 8 (k 0)]) .ret)))))
def acu:Cmd:=Q (R [n 3 (box 3 (v 1)),e' 4 (.c (.own 2 []))]) (Q (D [0,0,3,0,8,31,63] [o 7 2 [],a 8 0,n 9 (app 9 (v 7) (v 8) 2 24),b 10 3 2,o 11 2 [v 10],n 12 (app 12 (v 9) (v 11) 2 24),e 5 12]) (Q (R [a 13 5,l 14 13,g 15 .sub (v 14) (k 1),e 6 15]) (Q (.blk 0 (.loop (Q (Q (D [0,1,3,7,7,23,63,127,255,7,519,2047,4095] [a 16 6,g 17 .gtr (v 16) (k 0),a 18 17,ha 18 true 19 5,ha 18 true 20 6,h 18 true 21 (bin 21 .sub (v 20) (k 1)),h 18 true 22 (idx 22 (v 19) (v 21) 2),h 18 true 23 (fld 23 (v 22) 0),h 18 true 24 (ld 24 (v 23) 1 false),h 18 true 25 (fld 25 (v 3) 0),h 18 true 26 (ld 26 (v 25) 1 false),h 18 true 27 (bin 27 .gtr (v 24) (v 26)),p 28 18 (v 27) k0]) (F (v 28) .skip (.exit 0))) (.blk 1 (Q (R [a 29 5,a 30 6,a 31 5,a 32 6,g 33 .sub (v 32) (k 1),i 34 31 33 2,b 35 34 2,i 36 29 30 2,s 36 35 2]) (R [a 37 6,g 38 .sub (v 37) (k 1),e 6 38])))))) (Q (R [a 39 5,a 40 6,b 41 3 2,i 42 39 40 2,s 42 41 2]) (Q (R [a 43 5,e 4 43]) .ret)))))
def af2:Cmd:=Q (R [e' 6 k0]) (Q (R [a 7 0,a 8 1,g 9 .geq (v 7) (v 8),a 10 9,ha 10 true 11 0,ha 10 true 12 2,h 10 true 13 (bin 13 .leq (v 11) (v 12)),p 14 10 (v 13) k0,e 6 14]) .ret)
def y8:Cmd:=Q (R [e' 4 k0]) (Q (R [a 5 0,a 6 1,c 7 101 [v 5,v 6],g 8 .eql (v 7) (k 0),e 4 8]) .ret)
def aaV:Cmd:=Q (R [n 2 (box 2 (v 0)),e' 4 (k 0),e' 5 (k 0)]) (Q (R [a 9 1,c 10 91 [v 9],a 8 10,x 11 8 0,x 12 8 1,e 6 11,e 7 12]) (Q (Q (R [a 13 7,n 14 (un 14 .not (v 13))]) (F (v 14) (Q (R [e' 4 (k 0),e' 5 (k 1)]) .ret) .skip)) (Q (R [b 15 2 2,a 16 6,c 17 152 [v 15,v 16],x 18 17 0,x 19 17 1,e 4 18,e 5 19]) .ret)))
def oC:Cmd:=Q (R [e' 4 k0]) (Q (R [a 11 0,c 12 91 [v 11],a 10 12,x 13 10 0,x 14 10 1,e 5 13,e 6 14]) (Q (R [a 16 1,c 17 91 [v 16],a 15 17,x 18 15 0,x 19 15 1,e 7 18,e 8 19]) (Q (Q (R [a 20 6,n 21 (un 21 .not (v 20)),a 22 21,ha 22 false 23 8,h 22 false 24 (un 24 .not (v 23)),p 25 22 k1 (v 24),a 26 25,ha 26 false 27 5,h 26 false 28 (len 28 (v 27)),ha 26 false 29 7,h 26 false 30 (len 30 (v 29)),h 26 false 31 (bin 31 .gtr (v 28) (v 30)),p 32 26 k1 (v 31)]) (F (v 32) (Q (R [e' 4 k0]) .ret) .skip)) (Q (Q (R [e' 9 (k 0)]) (.blk 0 (.loop (Q (Q (R [a 33 9,a 34 5,l 35 34,g 36 .lss (v 33) (v 35)]) (F (v 36) .skip (.exit 0))) (Q (.blk 1 (Q (D [0,0,3,7,0,0,48,112,255] [a 39 5,a 40 9,i 41 39 40 1,b' 42 41 1,a 43 7,a 44 9,i 45 43 44 1,b' 46 45 1,g 47 .neq (v 42) (v 46)]) (F (v 47) (Q (R [e' 4 k0]) .ret) .skip))) (R [a 37 9,g 38 .add (v 37) (k 1),e 9 38])))))) (Q (R [e' 4 k1]) .ret)))))
def l5:Cmd:=Q (R [z 2 [.sl 6 [],.int .i64 0]]) (Q (R [a 4 0,c 5 57 [v 4,k 8],z 3 [.sl 6 [],.int .i64 0],s 3 5 2]) (Q (Q (R [a 6 0,c 7 101 [v 6,k 12]]) (.blk 0 (Q (R [g 9 .eql (v 7) (k 0),e 8 9]) (F (v 8) (R [a 10 0,o 11 1 [k 1,k 2,k 1000,k 1001],c 12 153 [v 10,v 11],f 13 3 1,s 13 12 1]) (Q (R [g 15 .eql (v 7) (k 1),e 14 15]) (F (v 14) (D [0,1,0,4,12,31,63,127] [f 16 3 0,b' 17 16 1,a 18 0,c 19 154 [v 18],o 20 6 [v 19],n 21 (app 21 (v 17) (v 20) 6 96),f 22 3 0,s 22 21 1]) (Q (R [g 24 .eql (v 7) (k 2),e 23 24]) (F (v 23) (D [0,1,0,0,8,24,60,0,252,511,1023] [f 25 3 0,b' 26 25 1,a 27 0,f 28 3 0,b' 29 28 1,l 30 29,c 31 101 [v 27,v 30],a 32 0,c 33 154 [v 32],i 34 26 31 6,s 34 33 6]) (Q (R [g 36 .eql (v 7) (k 3),e 35 36]) (F (v 35) (D [0,1,0,0,8,24,56,124,255,511,1023] [f 37 3 0,b' 38 37 1,a 39 0,f 40 3 0,b' 41 40 1,l 42 41,g 43 .add (v 42) (k 1),c 44 101 [v 39,v 43],n 45 (slc 45 (v 38) none (some (v 44)) 6),f 46 3 0,s 46 45 1]) .skip)))))))))) (Q (R [b 47 3 2,s 2 47 2]) .ret)))
def m4:Cmd:=Q (R [e' 4 (k 0)]) (Q (Q (R [a 8 1,g 9 .leq (v 8) (k 0)]) (F (v 9) (Q (R [e' 4 (k 0)]) .ret) .skip)) (Q (Q (R [a 10 1,g 11 .leq (v 10) (k 256)]) (F (v 11) (Q (R [a 12 0,c 13 155 [v 12],a 14 1,g 15 .rem (v 13) (v 14),e 4 15]) .ret) .skip)) (Q (R [a 16 0,c 17 155 [v 16],e 5 17]) (Q (R [a 18 0,c 19 155 [v 18],e 6 19]) (Q (R [a 20 0,c 21 155 [v 20],e 7 21]) (Q (R [a 22 5,g 23 .mul (v 22) (k 65536),a 24 6,g 25 .mul (v 24) (k 256),g 26 .add (v 23) (v 25),a 27 7,g 28 .add (v 26) (v 27),a 29 1,g 30 .rem (v 28) (v 29),e 4 30]) .ret))))))
def y9:Cmd:=Q (R [e' 2 k0]) (Q (Q (R [a 5 0,n 6 (lens 6 (v 5)),n 7 (mov 7 (k 0))]) (.blk 0 (.loop (Q (R [g 8 .lss (v 7) (v 6)]) (Q (F (v 8) .skip (.exit 0)) (Q (.blk 1 (Q (R [a 9 7,e 3 9]) (Q (R [a 10 0,a 11 3,n 12 (sidx 12 (v 10) (v 11)),e 4 12]) (Q (R [a 13 4,g 14 .lss (v 13) (.c (.int .u8 97)),a 15 14,ha 15 false 16 4,h 15 false 17 (bin 17 .gtr (v 16) (.c (.int .u8 122))),p 18 15 k1 (v 17),a 19 18,ha 19 true 20 4,h 19 true 21 (bin 21 .lss (v 20) (.c (.int .u8 48))),ha 19 true 22 21,ha 22 false 23 4,h 22 false 24 (bin 24 .gtr (v 23) (.c (.int .u8 57))),h 19 true 25 (pck 25 (v 22) k1 (v 24)),p 26 19 (v 25) k0,a 27 26,ha 27 true 28 4,h 27 true 29 (bin 29 .neq (v 28) (.c (.int .u8 95))),p 30 27 (v 29) k0,a 31 30,ha 31 true 32 4,h 31 true 33 (bin 33 .neq (v 32) (.c (.int .u8 45))),p 34 31 (v 33) k0,a 35 34,ha 35 true 36 4,h 35 true 37 (bin 37 .neq (v 36) (.c (.int .u8 46))),p 38 35 (v 37) k0]) (F (v 38) (Q (R [e' 2 k0]) .ret) .skip))))) (R [g 39 .add (v 7) (k 1),a 7 39]))))))) (Q (R [a 40 0,n 41 (lens 41 (v 40)),g 42 .geq (v 41) (k 1),a 43 42,ha 43 true 44 0,h 43 true 45 (lens 45 (v 44)),h 43 true 46 (bin 46 .leq (v 45) (k 14)),p 47 43 (v 46) k0,a 48 47,ha 48 true 49 0,h 48 true 50 (bin 50 .neq (v 49) (.c (.str [46]))),p 51 48 (v 50) k0,a 52 51,ha 52 true 53 0,h 52 true 54 (bin 54 .neq (v 53) (.c (.str [46,46]))),p 55 52 (v 54) k0,e 2 55]) .ret))
def acv:Cmd:=Q (R [n 1 (box 1 (v 0)),e' 2 k0]) (Q (Q (R [f 5 1 0,b' 6 5 1,l 7 6,c 8 158 [v 7,k 1,k 30],n 9 (un 9 .not (v 8)),a 10 9,h 10 false 11 (fld 11 (v 1) 1),h 10 false 12 (ld 12 (v 11) 1 false),hc 10 false 13 158 [v 12,k 2,k 1000],h 10 false 14 (un 14 .not (v 13)),p 15 10 k1 (v 14)]) (F (v 15) (Q (R [e' 2 k0]) .ret) .skip)) (Q (Q (R [e' 3 (k 0)]) (.blk 0 (.loop (Q (Q (R [a 16 3,f 17 1 0,b' 18 17 1,l 19 18,g 20 .lss (v 16) (v 19)]) (F (v 20) .skip (.exit 0))) (Q (.blk 1 (Q (R [f 23 1 0,b' 24 23 1,a 25 3,i 26 24 25 6,b 27 26 6,z 4 [.int .i64 0,.int .i64 0,.int .i64 0,.sl 1 [],.sl 2 [],.sl 2 []],s 4 27 6]) (Q (D [0,1,3,7,15,31,15,79,255,511,1023,2047,4095,8191,16383,32767,16383,81919,262143,524287,1048575,16383,2113535,8388607,16777215,33554431] [b 28 4 6,c 29 159 [v 28],n 30 (un 30 .not (v 29)),a 31 30,h 31 false 32 (fld 32 (v 4) 0),h 31 false 33 (ld 33 (v 32) 1 false),h 31 false 34 (fld 34 (v 1) 1),h 31 false 35 (ld 35 (v 34) 1 false),h 31 false 36 (bin 36 .geq (v 33) (v 35)),p 37 31 k1 (v 36),a 38 37,ha 38 false 39 3,h 38 false 40 (bin 40 .gtr (v 39) (k 0)),ha 38 false 41 40,h 41 true 42 (fld 42 (v 1) 0),h 41 true 43 (ld 43 (v 42) 1 false),ha 41 true 44 3,h 41 true 45 (bin 45 .sub (v 44) (k 1)),h 41 true 46 (idx 46 (v 43) (v 45) 6),h 41 true 47 (fld 47 (v 46) 0),h 41 true 48 (ld 48 (v 47) 1 false),h 41 true 49 (fld 49 (v 4) 0),h 41 true 50 (ld 50 (v 49) 1 false),h 41 true 51 (bin 51 .geq (v 48) (v 50)),h 38 false 52 (pck 52 (v 41) (v 51) k0),p 53 38 k1 (v 52)]) (F (v 53) (Q (R [e' 2 k0]) .ret) .skip)))) (R [a 21 3,g 22 .add (v 21) (k 1),e 3 22])))))) (Q (R [f 54 1 0,b' 55 54 1,n 56 (idx 56 (v 55) (k 0) 6),f 57 56 0,b' 58 57 1,g 59 .eql (v 58) (k 1),a 60 59,h 60 true 61 (fld 61 (v 1) 0),h 60 true 62 (ld 62 (v 61) 1 false),h 60 true 63 (idx 63 (v 62) (k 0) 6),h 60 true 64 (fld 64 (v 63) 1),h 60 true 65 (ld 65 (v 64) 1 false),h 60 true 66 (bin 66 .eql (v 65) (k 2)),p 67 60 (v 66) k0,e 2 67]) .ret)))
def wF:Cmd:=Q (R [n 2 (box 2 (v 0)),e' 4 (k 0)]) (Q (R [e' 5 (k 0)]) (Q (Q (R [e' 6 (k 0)]) (.blk 0 (.loop (Q (Q (R [a 8 6,f 9 2 0,b' 10 9 1,l 11 10,g 12 .lss (v 8) (v 11)]) (F (v 12) .skip (.exit 0))) (Q (.blk 1 (Q (R [e' 7 (k 0)]) (.blk 2 (.loop (Q (Q (R [a 15 7,f 16 2 0,b' 17 16 1,a 18 6,i 19 17 18 6,f 20 19 4,b' 21 20 1,l 22 21,g 23 .lss (v 15) (v 22),a 24 23,h 24 true 25 (fld 25 (v 2) 0),h 24 true 26 (ld 26 (v 25) 1 false),ha 24 true 27 6,h 24 true 28 (idx 28 (v 26) (v 27) 6),h 24 true 29 (fld 29 (v 28) 1),h 24 true 30 (ld 30 (v 29) 1 false),h 24 true 31 (bin 31 .eql (v 30) (k 2)),p 32 24 (v 31) k0]) (F (v 32) .skip (.exit 2))) (Q (.blk 3 (Q (R [f 35 2 0,b' 36 35 1,a 37 6,i 38 36 37 6,f 39 38 4,b' 40 39 1,a 41 7,i 42 40 41 2,f 43 42 1,b' 44 43 1,a 45 1,g 46 .eql (v 44) (v 45)]) (F (v 46) (R [a 47 5,g 48 .add (v 47) (k 1),e 5 48]) .skip))) (R [a 33 7,g 34 .add (v 33) (k 1),e 7 34]))))))) (R [a 13 6,g 14 .add (v 13) (k 1),e 6 14])))))) (Q (R [a 49 5,e 4 49]) .ret)))
def af3:Cmd:=Q (R [n 2 (box 2 (v 0)),e' 4 (k 0)]) (Q (Q (R [e' 5 (k 0)]) (.blk 0 (.loop (Q (Q (R [a 6 5,f 7 2 0,b' 8 7 1,l 9 8,g 10 .lss (v 6) (v 9)]) (F (v 10) .skip (.exit 0))) (Q (.blk 1 (Q (R [f 13 2 0,b' 14 13 1,a 15 5,i 16 14 15 6,f 17 16 0,b' 18 17 1,a 19 1,g 20 .eql (v 18) (v 19)]) (F (v 20) (Q (R [a 21 5,e 4 21]) .ret) .skip))) (R [a 11 5,g 12 .add (v 11) (k 1),e 5 12])))))) (Q (R [e' 4 (k (-1))]) .ret))
def iL:Cmd:=Q (R [e' 4 k0]) (Q (R [a 5 0,a 6 1,c 7 160 [v 5,v 6],g 8 .geq (v 7) (k 0),e 4 8]) .ret)
def zA:Cmd:=Q (R [n 2 (box 2 (v 0)),e' 4 (.c (.own 1 []))]) (Q (R [a 10 1,e 5 10]) (Q (Q (R [e' 6 (k 0)]) (.blk 0 (.loop (Q (Q (R [a 11 6,a 12 1,l 13 12,g 14 .lss (v 11) (v 13)]) (F (v 14) .skip (.exit 0))) (Q (.blk 1 (Q (D [0,0,0,6,14,31,63,127,255,0,767,2047] [b 18 2 2,a 19 1,a 20 6,i 21 19 20 1,b' 22 21 1,c 23 148 [v 18,v 22],a 17 23,x 24 17 0,x 25 17 1,z 7 [.int .i64 0,.int .i64 0,.int .i64 0,.sl 1 [],.sl 2 [],.sl 2 []],s 7 24 6,e 8 25]) (Q (R [e' 9 (k 0)]) (.blk 2 (.loop (Q (Q (R [a 26 9,f 27 7 4,b' 28 27 1,l 29 28,g 30 .lss (v 26) (v 29),a 31 30,ha 31 true 32 8,p 33 31 (v 32) k0,a 34 33,h 34 true 35 (fld 35 (v 7) 1),h 34 true 36 (ld 36 (v 35) 1 false),h 34 true 37 (bin 37 .eql (v 36) (k 2)),p 38 34 (v 37) k0]) (F (v 38) .skip (.exit 2))) (Q (.blk 3 (Q (D [0,0,2,0,14,30,62,127,255] [b 41 2 2,f 42 7 4,b' 43 42 1,a 44 9,i 45 43 44 2,f 46 45 1,b' 47 46 1,c 48 109 [v 41,v 47],g 49 .geq (v 48) (k 0)]) (F (v 49) (R [a 50 5,f 51 7 4,b' 52 51 1,a 53 9,i 54 52 53 2,f 55 54 1,b' 56 55 1,c 57 162 [v 50,v 56],e 5 57]) .skip))) (R [a 39 9,g 40 .add (v 39) (k 1),e 9 40])))))))) (R [a 15 6,g 16 .add (v 15) (k 1),e 6 16])))))) (Q (R [a 58 5,e 4 58]) .ret)))
def zB:Cmd:=Q (R [z 0 [.sl 6 [],.int .i64 0]]) (Q (R [n 1 (bld 1 [.int .i64 0,.int .i64 0,.int .i64 0,.sl 1 [],.sl 2 [],.sl 2 []] [(0,1,k 1),(1,1,k 2)]),o 2 6 [v 1],n 3 (bld 3 [.sl 6 [],.int .i64 0] [(0,1,v 2),(1,1,k 2)]),s 0 3 2]) .ret)
def bM:Cmd:=Q (R [n 3 (box 3 (v 1)),z 4 [.sl 6 [],.int .i64 0]]) (Q (R [a 7 0,b 8 3 2,c 9 58 [v 7,v 8],e 5 9]) (Q (R [a 10 0,c 11 59 [v 10],e 6 11]) (Q (Q (R [a 12 0,c 13 101 [v 12,k 12]]) (.blk 0 (Q (Q (R [g 34 .eql (v 13) (k 0),e 33 34]) (F (v 33) .skip (R [g 35 .eql (v 13) (k 1),e 33 35]))) (F (v 33) (R [b 37 3 2,a 38 6,c 39 37 [v 37,v 38],a 36 39,x 40 36 0,x 41 36 1,s 3 40 2]) (Q (Q (R [g 43 .eql (v 13) (k 2),e 42 43]) (F (v 42) .skip (R [g 44 .eql (v 13) (k 3),e 42 44]))) (F (v 42) (R [b 46 3 2,a 47 6,c 48 33 [v 46,v 47],a 45 48,x 49 45 0,x 50 45 1,s 3 49 2]) (Q (Q (R [g 52 .eql (v 13) (k 4),e 51 52]) (F (v 51) .skip (Q (R [g 53 .eql (v 13) (k 5),e 51 53]) (F (v 51) .skip (R [g 54 .eql (v 13) (k 6),e 51 54]))))) (F (v 51) (D [0,0,0,0,12,0,60,127,255,511,1023,1023] [b 56 3 2,a 57 5,a 58 0,o 59 1 [k 0,k 1,k 20],c 60 153 [v 58,v 59],a 61 0,c 62 173 [v 61],c 63 172 [v 56,v 57,v 60,v 62],a 55 63,x 64 55 0,x 65 55 1,s 3 64 2]) (Q (R [g 67 .eql (v 13) (k 7),e 66 67]) (F (v 66) (D [0,0,0,0,12,31,63,127,255,255] [b 69 3 2,a 70 5,a 71 0,o 72 1 [k 0,k 3,k 50],c 73 153 [v 71,v 72],c 74 174 [v 69,v 70,v 73],a 68 74,x 75 68 0,x 76 68 1,s 3 75 2]) (Q (R [g 78 .eql (v 13) (k 8),e 77 78]) (F (v 77) (R [b 80 3 2,a 81 5,c 82 22 [v 80,v 81],a 79 82,x 83 79 0,x 84 79 1,s 3 83 2]) (Q (R [g 86 .eql (v 13) (k 9),e 85 86]) (F (v 85) (R [b 88 3 2,a 89 5,a 90 6,c 91 39 [v 88,v 89,v 90],a 87 91,x 92 87 0,x 93 87 1,s 3 92 2]) (Q (R [g 95 .eql (v 13) (k 10),e 94 95]) (F (v 94) (R [b 97 3 2,a 98 5,a 99 6,c 100 42 [v 97,v 98,v 99],a 96 100,x 101 96 0,x 102 96 1,s 3 101 2]) (Q (R [a 14 0,c 15 96 [v 14,k 2]]) (F (v 15) (R [b 17 3 2,a 18 5,c 19 30 [v 17,v 18],a 16 19,x 20 16 0,x 21 16 1,s 3 20 2]) (D [0,0,0,4,0,0,60,127,255,511,1023,1023] [b 23 3 2,a 24 5,a 25 0,c 26 121 [v 25],a 27 0,o 28 1 [.c (.str [120]),.c (.str []),.c (.str [118,97,108,117,101])],c 29 149 [v 27,v 28],c 30 175 [v 23,v 24,v 26,v 29],a 22 30,x 31 22 0,x 32 22 1,s 3 31 2]))))))))))))))))))) (Q (R [b 103 3 2,s 4 103 2]) .ret))))
def qA:Cmd:=Q (R [n 1 (box 1 (v 0)),e' 2 (.c (.own 1 []))]) (Q (R [o 4 1 [],z 3 [.sl 1 []],s 3 4 1]) (Q (Q (R [b 5 1 2,c 6 46 [v 5]]) (F (v 6) (R [b 7 1 2,c 8 176 [v 7,k 1,.c (.str []),v 3]]) .skip)) (Q (R [b' 9 3 1,c 10 177 [v 9],e 2 10]) .ret)))
def zC:Cmd:=Q (R [e' 2 (.c (.str []))]) (Q (R [a 3 0,o 4 1 [.c (.str [97]),.c (.str [98]),.c (.str [99]),.c (.str [100,46,116,120,116])],c 5 149 [v 3,v 4],e 2 5]) .ret)
def rG:Cmd:=Q (R [n 1 (box 1 (v 0)),z 2 [.int .i64 0,.int .i64 0,.int .i64 0,.sl 1 [],.sl 2 [],.sl 2 []]]) (Q (R [f 3 1 3,b' 4 3 1,c 5 84 [v 4],f 6 1 3,s 6 5 1]) (Q (R [f 7 1 4,b' 8 7 1,c 9 125 [v 8],f 10 1 4,s 10 9 1]) (Q (R [f 11 1 5,b' 12 11 1,c 13 178 [v 12],f 14 1 5,s 14 13 1]) (Q (R [b 15 1 6,s 2 15 6]) .ret))))
def jX:Cmd:=Q (R [e' 2 (.c (.str [])),e' 3 (.c (.str [])),e' 4 k0]) (Q (R [a 9 0,c 10 81 [v 9],a 8 10,x 11 8 0,x 12 8 1,e 5 11,e 6 12]) (Q (Q (R [a 13 6,n 14 (un 14 .not (v 13)),a 15 14,ha 15 false 16 5,h 15 false 17 (len 17 (v 16)),h 15 false 18 (bin 18 .eql (v 17) (k 0)),p 19 15 k1 (v 18)]) (F (v 19) (Q (R [e' 2 (.c (.str [])),e' 3 (.c (.str [])),e' 4 k0]) .ret) .skip)) (Q (R [a 20 5,l 21 20,g 22 .sub (v 21) (k 1),e 7 22]) (Q (D [0,0,3,7,0,0,48,112,15,511,1023] [a 23 5,a 24 7,n 25 (slc 25 (v 23) none (some (v 24)) 1),c 26 179 [v 25],a 27 5,a 28 7,i 29 27 28 1,b' 30 29 1,e 2 26,e 3 30,e' 4 k1]) .ret))))
def f6:Cmd:=Q (R [e' 4 (.c (.own 2 []))]) (Q (R [a 8 0,a 9 1,c 10 132 [v 8,v 9],e 5 10]) (Q (Q (R [a 11 5,g 12 .eql (v 11) (k (-1))]) (F (v 12) (Q (R [a 13 0,e 4 13]) .ret) .skip)) (Q (Q (R [a 14 5,g 15 .add (v 14) (k 1),e 6 15]) (.blk 0 (.loop (Q (Q (R [a 16 6,a 17 0,l 18 17,g 19 .lss (v 16) (v 18)]) (F (v 19) .skip (.exit 0))) (Q (.blk 1 (Q (R [a 22 0,a 23 6,i 24 22 23 2,b 25 24 2,z 7 [.str [],.int .i64 0],s 7 25 2]) (Q (R [a 26 1,b 27 7 2,n 28 (callv (some 28) (v 26) [v 27]),n 29 (un 29 .not (v 28))]) (F (v 29) (Q (R [a 30 0,a 31 5,b 32 7 2,i 33 30 31 2,s 33 32 2]) (R [a 34 5,g 35 .add (v 34) (k 1),e 5 35])) .skip)))) (R [a 20 6,g 21 .add (v 20) (k 1),e 6 21])))))) (Q (R [a 36 0,a 37 5,n 38 (slc 38 (v 36) (some (v 37)) none 2),m (.clr (v 38) 2 [.str [],.int .i64 0])]) (Q (R [a 39 0,a 40 5,n 41 (slc 41 (v 39) none (some (v 40)) 2),e 4 41]) .ret)))))
def m5:Cmd:=Q (R [e' 2 (.c (.own 2 []))]) (Q (Q (R [a 3 0,n 4 (isn 4 false (v 3) (.c (.own 2 [])))]) (F (v 4) (Q (R [e' 2 (.c (.own 2 []))]) .ret) .skip)) (Q (R [o 5 2 [],a 6 0,n 7 (app 7 (v 5) (v 6) 2 24),e 2 7]) .ret))
def nI:Cmd:=Q (R [n 2 (box 2 (v 0)),e' 3 k0]) (Q (R [f 4 2 0,b' 5 4 1,f 6 1 6,b' 7 6 1,g 8 .eql (v 5) (v 7),e 3 8]) .ret)
def fB:Cmd:=Q (R [e' 4 (.c (.own 6 []))]) (Q (R [a 8 0,a 9 1,c 10 129 [v 8,v 9],e 5 10]) (Q (Q (R [a 11 5,g 12 .eql (v 11) (k (-1))]) (F (v 12) (Q (R [a 13 0,e 4 13]) .ret) .skip)) (Q (Q (R [a 14 5,g 15 .add (v 14) (k 1),e 6 15]) (.blk 0 (.loop (Q (Q (R [a 16 6,a 17 0,l 18 17,g 19 .lss (v 16) (v 18)]) (F (v 19) .skip (.exit 0))) (Q (.blk 1 (Q (R [a 22 0,a 23 6,i 24 22 23 6,b 25 24 6,z 7 [.int .i64 0,.int .i64 0,.int .i64 0,.sl 1 [],.sl 2 [],.sl 2 []],s 7 25 6]) (Q (R [a 26 1,b 27 7 6,n 28 (callv (some 28) (v 26) [v 27]),n 29 (un 29 .not (v 28))]) (F (v 29) (Q (R [a 30 0,a 31 5,b 32 7 6,i 33 30 31 6,s 33 32 6]) (R [a 34 5,g 35 .add (v 34) (k 1),e 5 35])) .skip)))) (R [a 20 6,g 21 .add (v 20) (k 1),e 6 21])))))) (Q (R [a 36 0,a 37 5,n 38 (slc 38 (v 36) (some (v 37)) none 6),m (.clr (v 38) 6 [.int .i64 0,.int .i64 0,.int .i64 0,.sl 1 [],.sl 2 [],.sl 2 []])]) (Q (R [a 39 0,a 40 5,n 41 (slc 41 (v 39) none (some (v 40)) 6),e 4 41]) .ret)))))
def oD:Cmd:=Q (R [n 2 (box 2 (v 0)),e' 3 k0]) (Q (R [f 4 2 0,b' 5 4 1,b' 6 1 1,g 7 .eql (v 5) (v 6),e 3 7]) .ret)
def jN:Cmd:=Q (R [e' 4 (k 0)]) (Q (Q (R [a 6 0,l 7 6,n 8 (mov 8 (k 0))]) (.blk 0 (.loop (Q (R [g 9 .lss (v 8) (v 7)]) (Q (F (v 9) .skip (.exit 0)) (Q (.blk 1 (Q (R [a 10 8,e 5 10]) (Q (R [a 11 1,a 12 0,a 13 5,i 14 12 13 6,b 15 14 6,n 16 (callv (some 16) (v 11) [v 15])]) (F (v 16) (Q (R [a 17 5,e 4 17]) .ret) .skip)))) (R [g 18 .add (v 8) (k 1),a 8 18]))))))) (Q (R [e' 4 (k (-1))]) .ret))
def l6:Cmd:=Q (R [e' 4 (k 0)]) (Q (Q (R [a 6 0,l 7 6,n 8 (mov 8 (k 0))]) (.blk 0 (.loop (Q (R [g 9 .lss (v 8) (v 7)]) (Q (F (v 9) .skip (.exit 0)) (Q (.blk 1 (Q (R [a 10 8,e 5 10]) (Q (R [a 11 1,a 12 0,a 13 5,i 14 12 13 2,b 15 14 2,n 16 (callv (some 16) (v 11) [v 15])]) (F (v 16) (Q (R [a 17 5,e 4 17]) .ret) .skip)))) (R [g 18 .add (v 8) (k 1),a 8 18]))))))) (Q (R [e' 4 (k (-1))]) .ret))
def pP:Cmd:=Q (R [e' 4 k0]) (Q (Q (R [a 6 0,l 7 6,a 8 1,l 9 8,g 10 .neq (v 7) (v 9)]) (F (v 10) (Q (R [e' 4 k0]) .ret) .skip)) (Q (Q (R [a 11 0,l 12 11,n 13 (mov 13 (k 0))]) (.blk 0 (.loop (Q (R [g 14 .lss (v 13) (v 12)]) (Q (F (v 14) .skip (.exit 0)) (Q (.blk 1 (Q (R [a 15 13,e 5 15]) (Q (D [0,0,3,7,0,0,48,112,255] [a 16 0,a 17 5,i 18 16 17 1,b' 19 18 1,a 20 1,a 21 5,i 22 20 21 1,b' 23 22 1,g 24 .neq (v 19) (v 23)]) (F (v 24) (Q (R [e' 4 k0]) .ret) .skip)))) (R [g 25 .add (v 13) (k 1),a 13 25]))))))) (Q (R [e' 4 k1]) .ret)))
def rH:Cmd:=Q (R [e' 4 k0]) (Q (Q (R [a 6 0,l 7 6,a 8 1,l 9 8,g 10 .neq (v 7) (v 9)]) (F (v 10) (Q (R [e' 4 k0]) .ret) .skip)) (Q (Q (R [a 11 0,l 12 11,n 13 (mov 13 (k 0))]) (.blk 0 (.loop (Q (R [g 14 .lss (v 13) (v 12)]) (Q (F (v 14) .skip (.exit 0)) (Q (.blk 1 (Q (R [a 15 13,e 5 15]) (Q (D [0,0,3,7,0,0,48,112,255] [a 16 0,a 17 5,i 18 16 17 2,b 19 18 2,a 20 1,a 21 5,i 22 20 21 2,b 23 22 2,n 24 (eqs 24 true [1,0] (v 19) (v 23))]) (F (v 24) (Q (R [e' 4 k0]) .ret) .skip)))) (R [g 25 .add (v 13) (k 1),a 13 25]))))))) (Q (R [e' 4 k1]) .ret)))
def pQ:Cmd:=Q (R [e' 4 k0]) (Q (Q (R [a 6 0,l 7 6,a 8 1,l 9 8,g 10 .neq (v 7) (v 9)]) (F (v 10) (Q (R [e' 4 k0]) .ret) .skip)) (Q (Q (R [a 11 0,l 12 11,n 13 (mov 13 (k 0))]) (.blk 0 (.loop (Q (R [g 14 .lss (v 13) (v 12)]) (Q (F (v 14) .skip (.exit 0)) (Q (.blk 1 (Q (R [a 15 13,e 5 15]) (Q (D [0,0,3,7,0,0,48,112,255] [a 16 0,a 17 5,i 18 16 17 2,b 19 18 2,a 20 1,a 21 5,i 22 20 21 2,b 23 22 2,n 24 (eqs 24 true [1,1] (v 19) (v 23))]) (F (v 24) (Q (R [e' 4 k0]) .ret) .skip)))) (R [g 25 .add (v 13) (k 1),a 13 25]))))))) (Q (R [e' 4 k1]) .ret)))
def zE:Cmd:=Q (R [z 2 [.sl 6 [],.int .i64 0]]) (Q (R [c 7 118 [],z 3 [.sl 6 [],.int .i64 0],s 3 7 2]) (Q (Q (R [e' 4 (k 0)]) (.blk 0 (.loop (Q (Q (R [a 8 4,g 9 .lss (v 8) (k 4)]) (F (v 9) .skip (.exit 0))) (Q (.blk 1 (Q (R [a 12 4,g 13 .add (k 97) (v 12),n 14 (conv 14 .u8 (v 13)),o 15 1 [v 14],n 16 (b2s 16 (v 15)),g 17 .add (.c (.str [47])) (v 16),e 5 17]) (Q (R [b 19 3 2,a 20 5,c 21 37 [v 19,v 20],a 18 21,x 22 18 0,x 23 18 1,s 3 22 2]) (Q (R [e' 6 (k 0)]) (.blk 2 (.loop (Q (Q (R [a 24 6,g 25 .lss (v 24) (k 7)]) (F (v 25) .skip (.exit 2))) (Q (.blk 3 (R [b 29 3 2,a 30 5,g 31 .add (v 30) (.c (.str [47])),a 32 6,g 33 .add (k 97) (v 32),n 34 (conv 34 .u8 (v 33)),o 35 1 [v 34],n 36 (b2s 36 (v 35)),g 37 .add (v 31) (v 36),c 38 33 [v 29,v 37],a 28 38,x 39 28 0,x 40 28 1,s 3 39 2])) (R [a 26 6,g 27 .add (v 26) (k 1),e 6 27]))))))))) (R [a 10 4,g 11 .add (v 10) (k 1),e 4 11])))))) (Q (Q (R [a 41 0,c 42 96 [v 41,k 2]]) (F (v 42) (R [b 44 3 2,c 45 22 [v 44,.c (.str [47,97,47,97])],a 43 45,x 46 43 0,x 47 43 1,s 3 46 2]) .skip)) (Q (Q (R [a 48 0,c 49 96 [v 48,k 4]]) (F (v 49) (R [f 50 3 1,m (st (v 50) (k 1000) 1)]) .skip)) (Q (R [b 51 3 2,s 2 51 2]) .ret)))))
def oE:Cmd:=Q (R [e' 2 (.c (.str []))]) (Q (Q (R [a 5 0,l 6 5,g 7 .eql (v 6) (k 0)]) (F (v 7) (Q (R [e' 2 (.c (.str [47]))]) .ret) .skip)) (Q (R [e' 3 (.c (.str []))]) (Q (Q (R [e' 4 (k 0)]) (.blk 0 (.loop (Q (Q (R [a 8 4,a 9 0,l 10 9,g 11 .lss (v 8) (v 10)]) (F (v 11) .skip (.exit 0))) (Q (.blk 1 (Q (Q (R [a 14 0,a 15 4,i 16 14 15 1,b' 17 16 1,c 18 150 [v 17],n 19 (un 19 .not (v 18)),a 20 19,ha 20 false 21 0,h 20 false 22 (len 22 (v 21)),h 20 false 23 (bin 23 .gtr (v 22) (k 30)),p 24 20 k1 (v 23)]) (F (v 24) (Q (R [e' 2 (.c (.str []))]) .ret) .skip)) (R [a 25 3,g 26 .add (v 25) (.c (.str [47])),a 27 0,a 28 4,i 29 27 28 1,b' 30 29 1,g 31 .add (v 26) (v 30),e 3 31]))) (R [a 12 4,g 13 .add (v 12) (k 1),e 4 13])))))) (Q (R [a 32 3,e 2 32]) .ret))))
def zF:Cmd:=Q (R [n 1 (box 1 (v 0)),z 2 [.int .i64 0,.int .i64 0,.int .i64 0,.sl 1 [],.sl 2 [],.sl 2 []]]) (Q (R [b 4 1 6,z 3 [.int .i64 0,.int .i64 0,.int .i64 0,.sl 1 [],.sl 2 [],.sl 2 []],s 3 4 6]) (Q (R [o 5 1 [],f 6 1 3,b' 7 6 1,n 8 (app 8 (v 5) (v 7) 1 1),f 9 3 3,s 9 8 1]) (Q (R [o 10 2 [],f 11 1 4,b' 12 11 1,n 13 (app 13 (v 10) (v 12) 2 24),f 14 3 4,s 14 13 1]) (Q (R [o 15 2 [],f 16 1 5,b' 17 16 1,n 18 (app 18 (v 15) (v 17) 2 32),f 19 3 5,s 19 18 1]) (Q (R [b 20 3 6,s 2 20 6]) .ret)))))
def acw:Cmd:=Q (R [e' 4 (.c (.own 2 []))]) (Q (R [o 7 2 [],e 5 7]) (Q (Q (R [e' 6 (k 0)]) (.blk 0 (.loop (Q (Q (R [a 8 6,a 9 0,l 10 9,g 11 .lss (v 8) (v 10)]) (F (v 11) .skip (.exit 0))) (Q (.blk 1 (Q (R [a 14 0,a 15 6,i 16 14 15 2,f 17 16 0,b' 18 17 1,a 19 1,g 20 .neq (v 18) (v 19)]) (F (v 20) (R [a 21 5,a 22 0,a 23 6,i 24 22 23 2,b 25 24 2,o 26 2 [v 25],n 27 (app 27 (v 21) (v 26) 2 24),e 5 27]) .skip))) (R [a 12 6,g 13 .add (v 12) (k 1),e 6 13])))))) (Q (R [a 28 5,e 4 28]) .ret)))
def acx:Cmd:=Q (R [e' 4 (.c (.own 1 []))]) (Q (R [a 5 0,a 6 1,c 7 184 [v 5,v 6,k 0,k (-1)],e 4 7]) .ret)
def wG:Cmd:=Q (R [e' 2 k0]) (Q (R [a 3 0,l 4 3,g 5 .leq (v 4) (k 30),a 6 5,ha 6 true 7 0,hc 6 true 8 185 [v 7,.c (.fn 186 [])],h 6 true 9 (un 9 .not (v 8)),p 10 6 (v 9) k0,e 2 10]) .ret)
def wH:Cmd:=Q (R [n 1 (box 1 (v 0)),e' 2 k0]) (Q (Q (R [f 5 1 0,b' 6 5 1,c 7 94 [v 6,k 1,k 1000],n 8 (un 8 .not (v 7)),a 9 8,h 9 false 10 (fld 10 (v 1) 3),h 9 false 11 (ld 11 (v 10) 1 false),h 9 false 12 (len 12 (v 11)),h 9 false 13 (bin 13 .gtr (v 12) (k 100)),p 14 9 k1 (v 13),a 15 14,h 15 false 16 (fld 16 (v 1) 4),h 15 false 17 (ld 17 (v 16) 1 false),h 15 false 18 (len 18 (v 17)),h 15 false 19 (bin 19 .gtr (v 18) (k 10)),p 20 15 k1 (v 19),a 21 20,h 21 false 22 (fld 22 (v 1) 5),h 21 false 23 (ld 23 (v 22) 1 false),hc 21 false 24 198 [v 23],h 21 false 25 (un 25 .not (v 24)),p 26 21 k1 (v 25)]) (F (v 26) (Q (R [e' 2 k0]) .ret) .skip)) (Q (Q (R [f 27 1 4,b' 28 27 1,l 29 28,n 30 (mov 30 (k 0))]) (.blk 0 (.loop (Q (R [g 31 .lss (v 30) (v 29)]) (Q (F (v 31) .skip (.exit 0)) (Q (.blk 1 (Q (R [a 32 30,i 33 28 30 2,b 34 33 2,z 4 [.str [],.int .i64 0],e 3 32,s 4 34 2]) (Q (D [0,1,3,7,15,31,63,127,255,511,1023,2047,4095,8191,16383,32767,16383,81919,262143,524287,1048575,16383,2113535,8388607,16777215,33554431] [f 35 4 0,b' 36 35 1,c 37 102 [v 36],n 38 (un 38 .not (v 37)),a 39 38,h 39 false 40 (fld 40 (v 4) 1),h 39 false 41 (ld 41 (v 40) 1 false),hc 39 false 42 94 [v 41,k 2,k 1000],h 39 false 43 (un 43 .not (v 42)),p 44 39 k1 (v 43),a 45 44,ha 45 false 46 3,h 45 false 47 (bin 47 .gtr (v 46) (k 0)),ha 45 false 48 47,h 48 true 49 (fld 49 (v 1) 4),h 48 true 50 (ld 50 (v 49) 1 false),ha 48 true 51 3,h 48 true 52 (bin 52 .sub (v 51) (k 1)),h 48 true 53 (idx 53 (v 50) (v 52) 2),h 48 true 54 (fld 54 (v 53) 0),h 48 true 55 (ld 55 (v 54) 1 false),h 48 true 56 (fld 56 (v 4) 0),h 48 true 57 (ld 57 (v 56) 1 false),h 48 true 58 (bin 58 .geq (v 55) (v 57)),h 45 false 59 (pck 59 (v 48) (v 58) k0),p 60 45 k1 (v 59)]) (F (v 60) (Q (R [e' 2 k0]) .ret) .skip)))) (R [g 61 .add (v 30) (k 1),a 30 61]))))))) (Q (Q (R [f 62 1 2,b' 63 62 1,c 64 94 [v 63,k 0,k 1000],n 65 (un 65 .not (v 64)),a 66 65,h 66 false 67 (fld 67 (v 1) 2),h 66 false 68 (ld 68 (v 67) 1 false),h 66 false 69 (bin 69 .eql (v 68) (k 0)),h 66 false 70 (fld 70 (v 1) 0),h 66 false 71 (ld 71 (v 70) 1 false),h 66 false 72 (bin 72 .eql (v 71) (k 1)),h 66 false 73 (beq 73 true (v 69) (v 72)),p 74 66 k1 (v 73)]) (F (v 74) (Q (R [e' 2 k0]) .ret) .skip)) (Q (Q (R [f 75 1 1,b' 76 75 1]) (.blk 2 (Q (R [g 78 .eql (v 76) (k 1),e 77 78]) (F (v 77) (Q (R [f 79 1 4,b' 80 79 1,l 81 80,g 82 .eql (v 81) (k 0),e 2 82]) .ret) (Q (R [g 84 .eql (v 76) (k 2),e 83 84]) (F (v 83) (Q (R [f 85 1 3,b' 86 85 1,l 87 86,g 88 .eql (v 87) (k 0),a 89 88,h 89 true 90 (fld 90 (v 1) 2),h 89 true 91 (ld 91 (v 90) 1 false),h 89 true 92 (bin 92 .leq (v 91) (k 1)),p 93 89 (v 92) k0,e 2 93]) .ret) .skip)))))) (Q (R [e' 2 k0]) .ret)))))
def rI:Cmd:=Q (R [n 2 (box 2 (v 0)),e' 3 k0]) (Q (R [f 4 2 0,b' 5 4 1,b' 6 1 1,g 7 .eql (v 5) (v 6),e 3 7]) .ret)
def qB:Cmd:=Q (R [n 2 (box 2 (v 0)),z 4 [.int .i64 0,.int .i64 0,.int .i64 0,.sl 1 [],.sl 2 [],.sl 2 []],e' 5 k0]) (Q (R [b 7 2 2,a 8 1,c 9 109 [v 7,v 8],e 6 9]) (Q (Q (R [a 10 6,g 11 .lss (v 10) (k 0)]) (F (v 11) (Q (R [n 12 (bld 12 [.int .i64 0,.int .i64 0,.int .i64 0,.sl 1 [],.sl 2 [],.sl 2 []] []),s 4 12 6,e' 5 k0]) .ret) .skip)) (Q (R [f 13 2 0,b' 14 13 1,a 15 6,i 16 14 15 6,b 17 16 6,c 18 140 [v 17],s 4 18 6,e' 5 k1]) .ret)))
def acy:Cmd:=Q (R [e' 4 (.c (.str []))]) (Q (R [a 5 1,a 6 0,a 7 1,l 8 7,c 9 101 [v 6,v 8],i 10 5 9 1,b' 11 10 1,e 4 11]) .ret)
def zG:Cmd:=Q (R [e' 2 k0]) (Q (Q (R [e' 3 (k 0)]) (.blk 0 (.loop (Q (Q (R [a 5 3,a 6 0,n 7 (lens 7 (v 6)),g 8 .lss (v 5) (v 7)]) (F (v 8) .skip (.exit 0))) (Q (.blk 1 (Q (R [a 11 0,a 12 3,n 13 (sidx 13 (v 11) (v 12)),n 14 (conv 14 .i64 (v 13)),e 4 14]) (Q (R [a 15 4,c 16 158 [v 15,k 97,k 122],n 17 (un 17 .not (v 16)),a 18 17,ha 18 true 19 4,hc 18 true 20 158 [v 19,k 48,k 57],h 18 true 21 (un 21 .not (v 20)),p 22 18 (v 21) k0,a 23 22,ha 23 true 24 4,h 23 true 25 (bin 25 .neq (v 24) (k 95)),p 26 23 (v 25) k0,a 27 26,ha 27 true 28 4,h 27 true 29 (bin 29 .neq (v 28) (k 45)),p 30 27 (v 29) k0,a 31 30,ha 31 true 32 4,h 31 true 33 (bin 33 .neq (v 32) (k 46)),p 34 31 (v 33) k0]) (F (v 34) (Q (R [e' 2 k0]) .ret) .skip)))) (R [a 9 3,g 10 .add (v 9) (k 1),e 3 10])))))) (Q (R [a 35 0,n 36 (lens 36 (v 35)),c 37 158 [v 36,k 1,k 14],a 38 37,ha 38 true 39 0,h 38 true 40 (bin 40 .neq (v 39) (.c (.str [46]))),p 41 38 (v 40) k0,a 42 41,ha 42 true 43 0,h 42 true 44 (bin 44 .neq (v 43) (.c (.str [46,46]))),p 45 42 (v 44) k0,e 2 45]) .ret))
def acz:Cmd:=Q (R [n 2 (box 2 (v 0)),e' 4 (k 0)]) (Q (Q (R [e' 5 (k 0)]) (.blk 0 (.loop (Q (Q (R [a 6 5,f 7 2 4,b' 8 7 1,l 9 8,g 10 .lss (v 6) (v 9)]) (F (v 10) .skip (.exit 0))) (Q (.blk 1 (Q (R [f 13 2 4,b' 14 13 1,a 15 5,i 16 14 15 2,f 17 16 0,b' 18 17 1,a 19 1,g 20 .eql (v 18) (v 19)]) (F (v 20) (Q (R [f 21 2 4,b' 22 21 1,a 23 5,i 24 22 23 2,f 25 24 1,b' 26 25 1,e 4 26]) .ret) .skip))) (R [a 11 5,g 12 .add (v 11) (k 1),e 5 12])))))) (Q (R [e' 4 (k 0)]) .ret))
def zH:Cmd:=Q (R [n 2 (box 2 (v 0)),e' 4 (k 0),e' 5 (k 0)]) (Q (R [e' 6 (k 1)]) (Q (Q (R [e' 7 (k 0)]) (.blk 0 (.loop (Q (Q (R [a 9 7,a 10 1,l 11 10,g 12 .lss (v 9) (v 11)]) (F (v 12) .skip (.exit 0))) (Q (.blk 1 (Q (R [b 15 2 2,a 16 6,c 17 109 [v 15,v 16],e 8 17]) (Q (Q (R [a 18 8,g 19 .lss (v 18) (k 0)]) (F (v 19) (Q (R [e' 4 (k 0),e' 5 (k 2)]) .ret) .skip)) (Q (Q (R [f 20 2 0,b' 21 20 1,a 22 8,i 23 21 22 6,f 24 23 1,b' 25 24 1,g 26 .neq (v 25) (k 2)]) (F (v 26) (Q (R [e' 4 (k 0),e' 5 (k 3)]) .ret) .skip)) (Q (D [0,1,0,7,15,0,0,96,224,511,1023] [f 27 2 0,b' 28 27 1,a 29 8,i 30 28 29 6,b 31 30 6,a 32 1,a 33 7,i 34 32 33 1,b' 35 34 1,c 36 151 [v 31,v 35],e 6 36]) (Q (R [a 37 6,g 38 .eql (v 37) (k 0)]) (F (v 38) (Q (R [e' 4 (k 0),e' 5 (k 2)]) .ret) .skip))))))) (R [a 13 7,g 14 .add (v 13) (k 1),e 7 14])))))) (Q (R [a 39 6,e 4 39,e' 5 (k 0)]) .ret)))
def acA:Cmd:=Q (R [e' 4 (k 0)]) (Q (R [a 5 1,a 6 0,a 7 1,l 8 7,c 9 101 [v 6,v 8],i 10 5 9 1,b' 11 10 1,e 4 11]) .ret)
def iD:Cmd:=Q (R [z 2 [.int .i64 0,.int .i64 0,.int .i64 0,.sl 1 [],.sl 2 [],.sl 2 []]]) (Q (R [a 4 0,c 5 199 [v 4],z 3 [.int .i64 0,.int .i64 0,.int .i64 0,.sl 1 [],.sl 2 [],.sl 2 []],s 3 5 6]) (Q (Q (R [a 6 0,c 7 101 [v 6,k 14]]) (.blk 0 (Q (R [g 9 .eql (v 7) (k 0),e 8 9]) (F (v 8) (R [a 10 0,o 11 1 [k 0,k 1,k 1000,k 1001],c 12 153 [v 10,v 11],f 13 3 0,s 13 12 1]) (Q (R [g 15 .eql (v 7) (k 1),e 14 15]) (F (v 14) (R [a 16 0,c 17 101 [v 16,k 4],f 18 3 1,s 18 17 1]) (Q (R [g 20 .eql (v 7) (k 2),e 19 20]) (F (v 19) (R [a 21 0,o 22 1 [k (-1),k 0,k 2,k 1001],c 23 153 [v 21,v 22],f 24 3 2,s 24 23 1]) (Q (R [g 26 .eql (v 7) (k 3),e 25 26]) (F (v 25) (R [f 27 3 3,b' 28 27 1,o 29 1 [.c (.int .u8 1)],n 30 (app 30 (v 28) (v 29) 1 1),f 31 3 3,s 31 30 1]) (Q (R [g 33 .eql (v 7) (k 4),e 32 33]) (F (v 32) (D [0,1,0,0,12,0,0,124,252,508,1023,2047,4095] [f 34 3 4,b' 35 34 1,a 36 0,o 37 1 [.c (.str [97]),.c (.str [122]),.c (.str []),.c (.str [90])],c 38 149 [v 36,v 37],a 39 0,o 40 1 [k 1,k 2,k 1000,k 1001],c 41 153 [v 39,v 40],n 42 (bld 42 [.str [],.int .i64 0] [(0,1,v 38),(1,1,v 41)]),o 43 2 [v 42],n 44 (app 44 (v 35) (v 43) 2 24),f 45 3 4,s 45 44 1]) (Q (R [g 47 .eql (v 7) (k 5),e 46 47]) (F (v 46) (D [0,1,0,0,12,0,60,124,252,508,1020,2044,4095,8191,16383] [f 48 3 5,b' 49 48 1,a 50 0,o 51 1 [.c (.str [97]),.c (.str [122]),.c (.str [])],c 52 149 [v 50,v 51],a 53 0,c 54 101 [v 53,k 3],g 55 .add (k 15) (v 54),n 56 (mks 56 (v 55) (v 55) 1 1 [.int .u8 0]),n 57 (b2s 57 (v 56)),n 58 (bld 58 [.str [],.str []] [(0,1,v 52),(1,1,v 57)]),o 59 2 [v 58],n 60 (app 60 (v 49) (v 59) 2 32),f 61 3 5,s 61 60 1]) .skip)))))))))))))) (Q (R [b 62 3 6,s 2 62 6]) .ret)))
def sY:Cmd:=Q (R [e' 2 (k 0)]) (Q (R [a 4 0,a 5 0,n 6 (nck 6 (v 5)),f 7 6 2,b' 8 7 1,g 9 .mul (v 8) (k 6364136223846793005),g 10 .add (v 9) (k 1442695040888963407),n 11 (nck 11 (v 4)),f 12 11 2,s 12 10 1]) (Q (D [0,1,3,7,15,0,32,96,224,480,1023,2047,4095] [a 13 0,n 14 (nck 14 (v 13)),f 15 14 2,b' 16 15 1,g 17 .shr (v 16) (.c (.int .u64 33)),a 18 0,n 19 (nck 19 (v 18)),f 20 19 2,b' 21 20 1,g 22 .shr (v 21) (.c (.int .u64 47)),g 23 .xor (v 17) (v 22),g 24 .and (v 23) (k 255),e 3 24]) (Q (Q (D [0,1,3,7,0,16,48,112,240,511] [a 25 0,n 26 (nck 26 (v 25)),f 27 26 1,b' 28 27 1,a 29 0,n 30 (nck 30 (v 29)),f 31 30 0,b' 32 31 1,l 33 32,g 34 .lss (v 28) (v 33)]) (F (v 34) (Q (D [0,0,2,6,14,0,32,96,224,510,1022,2046,4095,8191,16383] [a 35 3,a 36 0,n 37 (nck 37 (v 36)),f 38 37 0,b' 39 38 1,a 40 0,n 41 (nck 41 (v 40)),f 42 41 1,b' 43 42 1,i 44 39 43 1,b' 45 44 1,n 46 (conv 46 .i64 (v 45)),g 47 .add (v 35) (v 46),g 48 .and (v 47) (k 255),e 3 48]) (R [a 49 0,a 50 0,n 51 (nck 51 (v 50)),f 52 51 1,b' 53 52 1,g 54 .add (v 53) (k 1),n 55 (nck 55 (v 49)),f 56 55 1,s 56 54 1])) .skip)) (Q (R [a 57 3,e 2 57]) .ret))))
def aaW:Cmd:=Q (R [e' 6 k0]) (Q (R [a 7 0,a 8 1,g 9 .geq (v 7) (v 8),a 10 9,ha 10 true 11 0,ha 10 true 12 2,h 10 true 13 (bin 13 .leq (v 11) (v 12)),p 14 10 (v 13) k0,e 6 14]) .ret)
def wI:Cmd:=Q (R [n 1 (box 1 (v 0)),e' 2 k0]) (Q (Q (R [f 3 1 0,b' 4 3 1,c 5 158 [v 4,k 1,k 1000],n 6 (un 6 .not (v 5)),a 7 6,h 7 false 8 (fld 8 (v 1) 2),h 7 false 9 (ld 9 (v 8) 1 false),hc 7 false 10 158 [v 9,k 0,k 1000],h 7 false 11 (un 11 .not (v 10)),p 12 7 k1 (v 11),a 13 12,h 13 false 14 (fld 14 (v 1) 2),h 13 false 15 (ld 15 (v 14) 1 false),h 13 false 16 (bin 16 .eql (v 15) (k 0)),h 13 false 17 (fld 17 (v 1) 0),h 13 false 18 (ld 18 (v 17) 1 false),h 13 false 19 (bin 19 .eql (v 18) (k 1)),h 13 false 20 (beq 20 true (v 16) (v 19)),p 21 13 k1 (v 20),a 22 21,h 22 false 23 (fld 23 (v 1) 3),h 22 false 24 (ld 24 (v 23) 1 false),h 22 false 25 (len 25 (v 24)),h 22 false 26 (bin 26 .gtr (v 25) (k 100)),p 27 22 k1 (v 26),a 28 27,h 28 false 29 (fld 29 (v 1) 4),h 28 false 30 (ld 30 (v 29) 1 false),hc 28 false 31 201 [v 30],h 28 false 32 (un 32 .not (v 31)),p 33 28 k1 (v 32),a 34 33,h 34 false 35 (fld 35 (v 1) 5),h 34 false 36 (ld 36 (v 35) 1 false),hc 34 false 37 202 [v 36],h 34 false 38 (un 38 .not (v 37)),p 39 34 k1 (v 38)]) (F (v 39) (Q (R [e' 2 k0]) .ret) .skip)) (Q (Q (R [f 40 1 1,b' 41 40 1]) (.blk 0 (Q (R [g 43 .eql (v 41) (k 1),e 42 43]) (F (v 42) (Q (R [f 44 1 4,b' 45 44 1,l 46 45,g 47 .eql (v 46) (k 0),e 2 47]) .ret) (Q (R [g 49 .eql (v 41) (k 2),e 48 49]) (F (v 48) (Q (R [f 50 1 3,b' 51 50 1,l 52 51,g 53 .eql (v 52) (k 0),a 54 53,h 54 true 55 (fld 55 (v 1) 2),h 54 true 56 (ld 56 (v 55) 1 false),h 54 true 57 (bin 57 .leq (v 56) (k 1)),p 58 54 (v 57) k0,e 2 58]) .ret) .skip)))))) (Q (R [e' 2 k0]) .ret)))
def rJ:Cmd:=Q (R [e' 4 (k 0)]) (Q (Q (R [a 6 0,l 7 6,n 8 (mov 8 (k 0))]) (.blk 0 (.loop (Q (R [g 9 .lss (v 8) (v 7)]) (Q (F (v 9) .skip (.exit 0)) (Q (.blk 1 (Q (R [a 10 8,e 5 10]) (Q (R [a 11 1,a 12 0,a 13 5,i 14 12 13 1,b' 15 14 1,g 16 .eql (v 11) (v 15)]) (F (v 16) (Q (R [a 17 5,e 4 17]) .ret) .skip)))) (R [g 18 .add (v 8) (k 1),a 8 18]))))))) (Q (R [e' 4 (k (-1))]) .ret))
def wJ:Cmd:=Q (R [e' 4 (.c (.own 1 []))]) (Q (Q (R [a 7 0,a 8 1,c 9 212 [v 7,v 8]]) (F (v 9) (Q (R [a 10 0,e 4 10]) .ret) .skip)) (Q (R [o 11 1 [],a 12 0,n 13 (app 13 (v 11) (v 12) 1 8),a 14 1,o 15 1 [v 14],n 16 (app 16 (v 13) (v 15) 1 8),e 5 16]) (Q (R [a 17 5,l 18 17,g 19 .sub (v 18) (k 1),e 6 19]) (Q (.blk 0 (.loop (Q (Q (R [a 20 6,g 21 .gtr (v 20) (k 0),a 22 21,ha 22 true 23 5,ha 22 true 24 6,h 22 true 25 (bin 25 .sub (v 24) (k 1)),h 22 true 26 (idx 26 (v 23) (v 25) 1),h 22 true 27 (ld 27 (v 26) 1 false),ha 22 true 28 1,h 22 true 29 (bin 29 .gtr (v 27) (v 28)),p 30 22 (v 29) k0]) (F (v 30) .skip (.exit 0))) (.blk 1 (Q (R [a 31 5,a 32 6,a 33 5,a 34 6,g 35 .sub (v 34) (k 1),i 36 33 35 1,b' 37 36 1,i 38 31 32 1,s 38 37 1]) (R [a 39 6,g 40 .sub (v 39) (k 1),e 6 40])))))) (Q (R [a 41 5,a 42 6,a 43 1,i 44 41 42 1,s 44 43 1]) (Q (R [a 45 5,e 4 45]) .ret))))))
def fL:Cmd:=Q (R [n 4 (box 4 (v 0)),z 8 [.sl 6 [],.int .i64 0],e' 9 (k 0)]) (Q (R [a 16 1,c 17 91 [v 16],a 15 17,x 18 15 0,x 19 15 1,e 10 18,e 11 19]) (Q (Q (R [b 20 4 2,c 21 46 [v 20],n 22 (un 22 .not (v 21)),a 23 22,ha 23 false 24 11,h 23 false 25 (un 25 .not (v 24)),p 26 23 k1 (v 25),a 27 26,ha 27 false 28 2,hc 27 false 29 158 [v 28,k 0,k 100],h 27 false 30 (un 30 .not (v 29)),p 31 27 k1 (v 30)]) (F (v 31) (Q (R [b 32 4 2,c 33 76 [v 32],s 8 33 2,e' 9 (k 1)]) .ret) .skip)) (Q (R [b 35 4 2,a 36 1,c 37 77 [v 35,v 36],a 34 37,x 38 34 0,x 39 34 1,z 12 [.int .i64 0,.int .i64 0,.int .i64 0,.sl 1 [],.sl 2 [],.sl 2 []],s 12 38 6,e 13 39]) (Q (Q (R [a 40 13,g 41 .eql (v 40) (k 0),a 42 41,ha 42 true 43 3,h 42 true 44 (len 44 (v 43)),ha 42 true 45 2,h 42 true 46 (bin 46 .sub (k 100) (v 45)),h 42 true 47 (bin 47 .gtr (v 44) (v 46)),p 48 42 (v 47) k0]) (F (v 48) (R [e' 13 (k 5)]) .skip)) (Q (Q (R [a 49 13,g 50 .neq (v 49) (k 0)]) (F (v 50) (Q (R [b 51 4 2,c 52 76 [v 51],a 53 13,s 8 52 2,e 9 53]) .ret) .skip)) (Q (.blk 0 (.loop (Q (Q (R [f 54 12 3,b' 55 54 1,l 56 55,a 57 2,a 58 3,l 59 58,g 60 .add (v 57) (v 59),g 61 .lss (v 56) (v 60)]) (F (v 61) .skip (.exit 0))) (.blk 1 (R [f 62 12 3,b' 63 62 1,o 64 1 [.c (.int .u8 0)],n 65 (app 65 (v 63) (v 64) 1 1),f 66 12 3,s 66 65 1]))))) (Q (Q (R [e' 14 (k 0)]) (.blk 2 (.loop (Q (Q (R [a 67 14,a 68 3,l 69 68,g 70 .lss (v 67) (v 69)]) (F (v 70) .skip (.exit 2))) (Q (.blk 3 (D [0,1,0,0,12,0,0,96,224,511,1023] [f 73 12 3,b' 74 73 1,a 75 2,a 76 14,g 77 .add (v 75) (v 76),a 78 3,a 79 14,i 80 78 79 1,b' 81 80 1,i 82 74 77 1,s 82 81 1])) (R [a 71 14,g 72 .add (v 71) (k 1),e 14 72])))))) (Q (R [b 83 4 2,b 84 12 6,c 85 80 [v 83,v 84],s 8 85 2,e' 9 (k 0)]) .ret))))))))
def zJ:Cmd:=Q (R [e' 2 (.c (.own 1 []))]) (Q (R [a 3 0,a 4 0,o 5 1 [k 0,k 1,k 2,k 5,k 9],c 6 153 [v 4,v 5],c 7 223 [v 3,v 6],e 2 7]) .ret)
def fT:Cmd:=Q (R [n 3 (box 3 (v 0)),z 6 [.sl 6 [],.int .i64 0],e' 7 (k 0)]) (Q (R [a 13 1,c 14 91 [v 13],a 12 14,x 15 12 0,x 16 12 1,e 8 15,e 9 16]) (Q (Q (R [b 17 3 2,c 18 46 [v 17],n 19 (un 19 .not (v 18)),a 20 19,ha 20 false 21 9,h 20 false 22 (un 22 .not (v 21)),p 23 20 k1 (v 22),a 24 23,ha 24 false 25 2,hc 24 false 26 158 [v 25,k 0,k 100],h 24 false 27 (un 27 .not (v 26)),p 28 24 k1 (v 27)]) (F (v 28) (Q (R [b 29 3 2,c 30 76 [v 29],s 6 30 2,e' 7 (k 1)]) .ret) .skip)) (Q (R [b 32 3 2,a 33 1,c 34 77 [v 32,v 33],a 31 34,x 35 31 0,x 36 31 1,z 10 [.int .i64 0,.int .i64 0,.int .i64 0,.sl 1 [],.sl 2 [],.sl 2 []],s 10 35 6,e 11 36]) (Q (Q (R [a 37 11,g 38 .neq (v 37) (k 0)]) (F (v 38) (Q (R [b 39 3 2,c 40 76 [v 39],a 41 11,s 6 40 2,e 7 41]) .ret) .skip)) (Q (.blk 0 (.loop (Q (Q (R [f 42 10 3,b' 43 42 1,l 44 43,a 45 2,g 46 .lss (v 44) (v 45)]) (F (v 46) .skip (.exit 0))) (.blk 1 (R [f 47 10 3,b' 48 47 1,o 49 1 [.c (.int .u8 0)],n 50 (app 50 (v 48) (v 49) 1 1),f 51 10 3,s 51 50 1]))))) (Q (R [f 52 10 3,b' 53 52 1,a 54 2,n 55 (slc 55 (v 53) none (some (v 54)) 1),f 56 10 3,s 56 55 1]) (Q (R [b 57 3 2,b 58 10 6,c 59 80 [v 57,v 58],s 6 59 2,e' 7 (k 0)]) .ret)))))))
def fM:Cmd:=Q (R [n 4 (box 4 (v 0)),z 8 [.sl 6 [],.int .i64 0],e' 9 (k 0)]) (Q (R [a 17 1,c 18 91 [v 17],a 16 18,x 19 16 0,x 20 16 1,e 10 19,e 11 20]) (Q (Q (R [b 21 4 2,c 22 46 [v 21],n 23 (un 23 .not (v 22)),a 24 23,ha 24 false 25 11,h 24 false 26 (un 26 .not (v 25)),p 27 24 k1 (v 26),a 28 27,ha 28 false 29 2,hc 28 false 30 150 [v 29],h 28 false 31 (un 31 .not (v 30)),p 32 28 k1 (v 31),a 33 32,ha 33 false 34 3,h 33 false 35 (lens 35 (v 34)),h 33 false 36 (bin 36 .gtr (v 35) (k 16)),p 37 33 k1 (v 36)]) (F (v 37) (Q (R [b 38 4 2,c 39 76 [v 38],s 8 39 2,e' 9 (k 1)]) .ret) .skip)) (Q (R [b 41 4 2,a 42 1,c 43 88 [v 41,v 42],a 40 43,x 44 40 0,x 45 40 1,z 12 [.int .i64 0,.int .i64 0,.int .i64 0,.sl 1 [],.sl 2 [],.sl 2 []],s 12 44 6,e 13 45]) (Q (Q (R [a 46 13,g 47 .neq (v 46) (k 0)]) (F (v 47) (Q (R [b 48 4 2,c 49 76 [v 48],a 50 13,s 8 49 2,e 9 50]) .ret) .skip)) (Q (R [o 51 2 [],e 14 51]) (Q (Q (R [e' 15 (k 0)]) (.blk 0 (.loop (Q (Q (R [a 52 15,f 53 12 5,b' 54 53 1,l 55 54,g 56 .lss (v 52) (v 55)]) (F (v 56) .skip (.exit 0))) (Q (.blk 1 (Q (R [f 59 12 5,b' 60 59 1,a 61 15,i 62 60 61 2,f 63 62 0,b' 64 63 1,a 65 2,g 66 .neq (v 64) (v 65)]) (F (v 66) (R [a 67 14,f 68 12 5,b' 69 68 1,a 70 15,i 71 69 70 2,b 72 71 2,o 73 2 [v 72],n 74 (app 74 (v 67) (v 73) 2 32),e 14 74]) .skip))) (R [a 57 15,g 58 .add (v 57) (k 1),e 15 58])))))) (Q (Q (R [a 75 3,g 76 .eql (v 75) (.c (.str []))]) (F (v 76) (Q (R [a 77 14,f 78 12 5,s 78 77 1]) (Q (R [b 79 4 2,b 80 12 6,c 81 80 [v 79,v 80],s 8 81 2,e' 9 (k 0)]) .ret)) .skip)) (Q (Q (R [a 82 14,l 83 82,g 84 .geq (v 83) (k 4)]) (F (v 84) (Q (R [b 85 4 2,c 86 76 [v 85],s 8 86 2,e' 9 (k 5)]) .ret) .skip)) (Q (R [a 87 14,a 88 2,a 89 3,n 90 (bld 90 [.str [],.str []] [(0,1,v 88),(1,1,v 89)]),c 91 224 [v 87,v 90],f 92 12 5,s 92 91 1]) (Q (R [b 93 4 2,b 94 12 6,c 95 80 [v 93,v 94],s 8 95 2,e' 9 (k 0)]) .ret))))))))))
def wK:Cmd:=Q (R [n 4 (box 4 (v 0))]) (Q (R [b 13 4 2,a 14 1,c 15 148 [v 13,v 14],a 12 15,x 16 12 0,x 17 12 1,z 8 [.int .i64 0,.int .i64 0,.int .i64 0,.sl 1 [],.sl 2 [],.sl 2 []],s 8 16 6,e 9 17]) (Q (R [e' 10 (k 0)]) (.blk 0 (.loop (Q (Q (R [a 18 10,f 19 8 4,b' 20 19 1,l 21 20,g 22 .lss (v 18) (v 21)]) (F (v 22) .skip (.exit 0))) (Q (.blk 1 (Q (R [a 25 2,g 26 .add (v 25) (.c (.str [47])),f 27 8 4,b' 28 27 1,a 29 10,i 30 28 29 2,f 31 30 0,b' 32 31 1,g 33 .add (v 26) (v 32),e 11 33]) (Q (R [a 34 3,a 35 3,n 36 (nck 36 (v 35)),b' 37 36 1,a 38 11,o 39 1 [v 38],n 40 (app 40 (v 37) (v 39) 1 16),n 41 (nck 41 (v 34)),s 41 40 1]) (D [0,0,2,0,14,30,62,0,0,511] [b 42 4 2,f 43 8 4,b' 44 43 1,a 45 10,i 46 44 45 2,f 47 46 1,b' 48 47 1,a 49 11,a 50 3,c 51 176 [v 42,v 48,v 49,v 50]])))) (R [a 23 10,g 24 .add (v 23) (k 1),e 10 24])))))))
def zK:Cmd:=Q (R [e' 2 (.c (.own 1 []))]) (Q (R [o 7 1 [],a 8 0,n 9 (app 9 (v 7) (v 8) 1 16),e 3 9]) (Q (Q (R [e' 4 (k 1)]) (.blk 0 (.loop (Q (Q (R [a 10 4,a 11 3,l 12 11,g 13 .lss (v 10) (v 12)]) (F (v 13) .skip (.exit 0))) (Q (.blk 1 (Q (R [a 16 3,a 17 4,i 18 16 17 1,b' 19 18 1,e 5 19]) (Q (R [a 20 4,e 6 20]) (Q (.blk 2 (.loop (Q (Q (R [a 21 6,g 22 .gtr (v 21) (k 0),a 23 22,ha 23 true 24 3,ha 23 true 25 6,h 23 true 26 (bin 26 .sub (v 25) (k 1)),h 23 true 27 (idx 27 (v 24) (v 26) 1),h 23 true 28 (ld 28 (v 27) 1 false),ha 23 true 29 5,h 23 true 30 (bin 30 .gtr (v 28) (v 29)),p 31 23 (v 30) k0]) (F (v 31) .skip (.exit 2))) (.blk 3 (Q (R [a 32 3,a 33 6,a 34 3,a 35 6,g 36 .sub (v 35) (k 1),i 37 34 36 1,b' 38 37 1,i 39 32 33 1,s 39 38 1]) (R [a 40 6,g 41 .sub (v 40) (k 1),e 6 41])))))) (R [a 42 3,a 43 6,a 44 5,i 45 42 43 1,s 45 44 1]))))) (R [a 14 4,g 15 .add (v 14) (k 1),e 4 15])))))) (Q (R [a 46 3,e 2 46]) .ret)))
def kG:Cmd:=Q (R [e' 2 (.c (.own 2 []))]) (Q (Q (R [a 3 0,n 4 (isn 4 false (v 3) (.c (.own 2 [])))]) (F (v 4) (Q (R [e' 2 (.c (.own 2 []))]) .ret) .skip)) (Q (R [o 5 2 [],a 6 0,n 7 (app 7 (v 5) (v 6) 2 32),e 2 7]) .ret))
def oF:Cmd:=Q (R [e' 2 (.c (.str []))]) (Q (Q (R [a 3 0,c 4 143 [v 3],n 5 (un 5 .not (v 4))]) (F (v 5) (Q (R [e' 2 (.c (.str []))]) .ret) .skip)) (Q (R [a 6 0,c 7 225 [v 6,.c (.str [47])],g 8 .add (.c (.str [47])) (v 7),e 2 8]) .ret))
def tU:Cmd:=Q (R [e' 8 (.c (.own 1 []))]) (Q (Q (R [a 12 3,g 13 .eql (v 12) (k 0)]) (F (v 13) (Q (R [e' 8 (.c (.own 1 []))]) .ret) .skip)) (Q (Q (R [a 14 1,g 15 .eql (v 14) (.c (.str []))]) (F (v 15) (Q (R [a 16 0,a 17 3,c 18 228 [v 16,v 17],e 8 18]) .ret) .skip)) (Q (Q (R [a 19 3,g 20 .lss (v 19) (k 0)]) (F (v 20) (R [a 21 0,a 22 1,c 23 229 [v 21,v 22],g 24 .add (v 23) (k 1),e 3 24]) .skip)) (Q (R [a 25 3,a 26 0,n 27 (lens 27 (v 26)),g 28 .add (v 27) (k 1),n 29 (mn 29 (v 25) (v 28)),e 3 29]) (Q (R [a 30 3,n 31 (mks 31 (v 30) (v 30) 1 16 [.str []]),e 9 31]) (Q (R [a 32 3,g 33 .sub (v 32) (k 1),e 3 33]) (Q (R [e' 10 (k 0)]) (Q (.blk 0 (.loop (Q (Q (R [a 34 10,a 35 3,g 36 .lss (v 34) (v 35)]) (F (v 36) .skip (.exit 0))) (.blk 1 (Q (R [a 37 0,a 38 1,c 39 230 [v 37,v 38],e 11 39]) (Q (Q (R [a 40 11,g 41 .lss (v 40) (k 0)]) (F (v 41) (.exit 0) .skip)) (Q (R [a 42 9,a 43 10,a 44 0,a 45 11,a 46 2,g 47 .add (v 45) (v 46),n 48 (sls 48 (v 44) none (some (v 47))),i 49 42 43 1,s 49 48 1]) (Q (R [a 50 0,a 51 11,a 52 1,n 53 (lens 53 (v 52)),g 54 .add (v 51) (v 53),n 55 (sls 55 (v 50) (some (v 54)) none),e 0 55]) (R [a 56 10,g 57 .add (v 56) (k 1),e 10 57]))))))))) (Q (R [a 58 9,a 59 10,a 60 0,i 61 58 59 1,s 61 60 1]) (Q (R [a 62 9,a 63 10,g 64 .add (v 63) (k 1),n 65 (slc 65 (v 62) none (some (v 64)) 1),e 8 65]) .ret))))))))))
def dV:Cmd:=Q (R [e' 4 k0]) (Q (R [a 5 0,a 6 1,c 7 231 [v 5,v 6],g 8 .geq (v 7) (k 0),e 4 8]) .ret)
def rK:Cmd:=Q (R [e' 2 k0]) (Q (R [a 3 0,c 4 102 [v 3],n 5 (un 5 .not (v 4)),e 2 5]) .ret)
def wL:Cmd:=Q (R [e' 2 k0]) (Q (Q (R [a 5 0,l 6 5,n 7 (mov 7 (k 0))]) (.blk 0 (.loop (Q (R [g 8 .lss (v 7) (v 6)]) (Q (F (v 8) .skip (.exit 0)) (Q (.blk 1 (Q (R [a 9 7,i 10 5 7 2,b 11 10 2,z 4 [.str [],.str []],e 3 9,s 4 11 2]) (Q (D [0,1,3,7,15,31,63,127,255,511,1023,2047,4095,8191,16383,32767,32767,98303,262143,524287,1048575,32767,2129919,8388607,16777215,33554431] [f 12 4 0,b' 13 12 1,c 14 102 [v 13],n 15 (un 15 .not (v 14)),a 16 15,h 16 false 17 (fld 17 (v 4) 1),h 16 false 18 (ld 18 (v 17) 1 false),h 16 false 19 (lens 19 (v 18)),hc 16 false 20 94 [v 19,k 1,k 16],h 16 false 21 (un 21 .not (v 20)),p 22 16 k1 (v 21),a 23 22,ha 23 false 24 3,h 23 false 25 (bin 25 .gtr (v 24) (k 0)),ha 23 false 26 25,ha 26 true 27 0,ha 26 true 28 3,h 26 true 29 (bin 29 .sub (v 28) (k 1)),h 26 true 30 (idx 30 (v 27) (v 29) 2),h 26 true 31 (fld 31 (v 30) 0),h 26 true 32 (ld 32 (v 31) 1 false),h 26 true 33 (fld 33 (v 4) 0),h 26 true 34 (ld 34 (v 33) 1 false),h 26 true 35 (bin 35 .geq (v 32) (v 34)),h 23 false 36 (pck 36 (v 26) (v 35) k0),p 37 23 k1 (v 36)]) (F (v 37) (Q (R [e' 2 k0]) .ret) .skip)))) (R [g 38 .add (v 7) (k 1),a 7 38]))))))) (Q (R [a 39 0,l 40 39,g 41 .leq (v 40) (k 4),e 2 41]) .ret))
def sZ:Cmd:=Q (R [z 2 [.int .i64 0,.int .i64 0,.int .i64 0,.sl 1 [],.sl 2 [],.sl 2 []]]) (Q (R [a 7 0,c 8 101 [v 7,k 6],g 9 .add (k 2) (v 8),a 10 0,c 11 101 [v 10,k 2],g 12 .add (k 1) (v 11),n 13 (bld 13 [.int .i64 0,.int .i64 0,.int .i64 0,.sl 1 [],.sl 2 [],.sl 2 []] [(0,1,v 9),(1,1,v 12),(2,1,k 1)]),z 3 [.int .i64 0,.int .i64 0,.int .i64 0,.sl 1 [],.sl 2 [],.sl 2 []],s 3 13 6]) (Q (R [o 14 1 [.c (.str [97]),.c (.str [98]),.c (.str [99]),.c (.str [100,46,116,120,116])],e 4 14]) (Q (Q (R [f 15 3 1,b' 16 15 1,g 17 .eql (v 16) (k 1)]) (F (v 17) (Q (R [a 18 0,a 19 0,o 20 1 [k 0,k 1,k 5,k 20,k 100],c 21 153 [v 19,v 20],c 22 223 [v 18,v 21],f 23 3 3,s 23 22 1]) (R [a 24 0,c 25 101 [v 24,k 2],g 26 .add (k 1) (v 25),f 27 3 2,s 27 26 1])) (Q (R [e' 5 (k 0)]) (.blk 0 (.loop (Q (Q (R [a 28 5,g 29 .lss (v 28) (k 4)]) (F (v 29) .skip (.exit 0))) (Q (.blk 1 (Q (R [a 32 0,c 33 96 [v 32,k 2]]) (F (v 33) (D [0,1,0,0,12,28,0,64,192,508,1020,2047,4095,8191] [f 34 3 4,b' 35 34 1,a 36 4,a 37 5,i 38 36 37 1,b' 39 38 1,a 40 0,c 41 101 [v 40,k 8],g 42 .add (k 2) (v 41),n 43 (bld 43 [.str [],.int .i64 0] [(0,1,v 39),(1,1,v 42)]),o 44 2 [v 43],n 45 (app 45 (v 35) (v 44) 2 24),f 46 3 4,s 46 45 1]) .skip))) (R [a 30 5,g 31 .add (v 30) (k 1),e 5 31])))))))) (Q (Q (R [e' 6 (k 0)]) (.blk 2 (.loop (Q (Q (R [a 47 6,g 48 .lss (v 47) (k 2)]) (F (v 48) .skip (.exit 2))) (Q (.blk 3 (Q (R [a 51 0,c 52 96 [v 51,k 3]]) (F (v 52) (D [0,1,0,0,12,28,0,0,192,508,1020,2047,4095,8191] [f 53 3 5,b' 54 53 1,a 55 4,a 56 6,i 57 55 56 1,b' 58 57 1,a 59 0,o 60 1 [.c (.str [120]),.c (.str [118,97,108,117,101]),.c (.str [115,105,120,116,101,101,110,98,121,116,101,115,120,120,120,120])],c 61 149 [v 59,v 60],n 62 (bld 62 [.str [],.str []] [(0,1,v 58),(1,1,v 61)]),o 63 2 [v 62],n 64 (app 64 (v 54) (v 63) 2 32),f 65 3 5,s 65 64 1]) .skip))) (R [a 49 6,g 50 .add (v 49) (k 1),e 6 50])))))) (Q (R [b 66 3 6,s 2 66 6]) .ret)))))
def zM:Cmd:=Q (R [e' 2 k0]) (Q (Q (R [e' 3 (k 0)]) (.blk 0 (.loop (Q (Q (R [a 4 3,a 5 0,l 6 5,g 7 .lss (v 4) (v 6)]) (F (v 7) .skip (.exit 0))) (Q (.blk 1 (Q (D [0,0,3,7,15,31,63,127,255,255,1023,2047,4095,8191,16383,32767,65535,131071,262143,524287,1048575,1048575,3145727,8388607,16777215,33554431,1048575,1048575,202375167,470810623,1007681535,2147483647,4294967295,8589934591] [a 10 0,a 11 3,i 12 10 11 2,f 13 12 0,b' 14 13 1,c 15 150 [v 14],n 16 (un 16 .not (v 15)),a 17 16,ha 17 false 18 0,ha 17 false 19 3,h 17 false 20 (idx 20 (v 18) (v 19) 2),h 17 false 21 (fld 21 (v 20) 1),h 17 false 22 (ld 22 (v 21) 1 false),hc 17 false 23 158 [v 22,k 2,k 1000],h 17 false 24 (un 24 .not (v 23)),p 25 17 k1 (v 24),a 26 25,ha 26 false 27 3,h 26 false 28 (bin 28 .gtr (v 27) (k 0)),ha 26 false 29 28,ha 29 true 30 0,ha 29 true 31 3,h 29 true 32 (bin 32 .sub (v 31) (k 1)),h 29 true 33 (idx 33 (v 30) (v 32) 2),h 29 true 34 (fld 34 (v 33) 0),h 29 true 35 (ld 35 (v 34) 1 false),ha 29 true 36 0,ha 29 true 37 3,h 29 true 38 (idx 38 (v 36) (v 37) 2),h 29 true 39 (fld 39 (v 38) 0),h 29 true 40 (ld 40 (v 39) 1 false),h 29 true 41 (bin 41 .geq (v 35) (v 40)),h 26 false 42 (pck 42 (v 29) (v 41) k0),p 43 26 k1 (v 42)]) (F (v 43) (Q (R [e' 2 k0]) .ret) .skip))) (R [a 8 3,g 9 .add (v 8) (k 1),e 3 9])))))) (Q (R [a 44 0,l 45 44,g 46 .leq (v 45) (k 10),e 2 46]) .ret))
def wM:Cmd:=Q (R [e' 2 k0]) (Q (Q (R [e' 3 (k 0)]) (.blk 0 (.loop (Q (Q (R [a 4 3,a 5 0,l 6 5,g 7 .lss (v 4) (v 6)]) (F (v 7) .skip (.exit 0))) (Q (.blk 1 (Q (D [0,0,3,7,15,31,63,127,255,255,1023,2047,4095,8191,16383,32767,65535,131071,262143,524287,1048575,2097151,2097151,6291455,16777215,33554431,67108863,2097151,2097151,404750335,941621247,2015363071,4294967295,8589934591,17179869183] [a 10 0,a 11 3,i 12 10 11 2,f 13 12 0,b' 14 13 1,c 15 150 [v 14],n 16 (un 16 .not (v 15)),a 17 16,ha 17 false 18 0,ha 17 false 19 3,h 17 false 20 (idx 20 (v 18) (v 19) 2),h 17 false 21 (fld 21 (v 20) 1),h 17 false 22 (ld 22 (v 21) 1 false),h 17 false 23 (lens 23 (v 22)),hc 17 false 24 158 [v 23,k 1,k 16],h 17 false 25 (un 25 .not (v 24)),p 26 17 k1 (v 25),a 27 26,ha 27 false 28 3,h 27 false 29 (bin 29 .gtr (v 28) (k 0)),ha 27 false 30 29,ha 30 true 31 0,ha 30 true 32 3,h 30 true 33 (bin 33 .sub (v 32) (k 1)),h 30 true 34 (idx 34 (v 31) (v 33) 2),h 30 true 35 (fld 35 (v 34) 0),h 30 true 36 (ld 36 (v 35) 1 false),ha 30 true 37 0,ha 30 true 38 3,h 30 true 39 (idx 39 (v 37) (v 38) 2),h 30 true 40 (fld 40 (v 39) 0),h 30 true 41 (ld 41 (v 40) 1 false),h 30 true 42 (bin 42 .geq (v 36) (v 41)),h 27 false 43 (pck 43 (v 30) (v 42) k0),p 44 27 k1 (v 43)]) (F (v 44) (Q (R [e' 2 k0]) .ret) .skip))) (R [a 8 3,g 9 .add (v 8) (k 1),e 3 9])))))) (Q (R [a 45 0,l 46 45,g 47 .leq (v 46) (k 4),e 2 47]) .ret))
def acB:Cmd:=Q (R [e' 4 k0]) (Q (Q (R [e' 5 (k 0)]) (.blk 0 (.loop (Q (Q (R [a 6 5,a 7 0,l 8 7,g 9 .lss (v 6) (v 8)]) (F (v 9) .skip (.exit 0))) (Q (.blk 1 (Q (R [a 12 0,a 13 5,i 14 12 13 1,b' 15 14 1,a 16 1,g 17 .eql (v 15) (v 16)]) (F (v 17) (Q (R [e' 4 k1]) .ret) .skip))) (R [a 10 5,g 11 .add (v 10) (k 1),e 5 11])))))) (Q (R [e' 4 k0]) .ret))
def wN:Cmd:=Q (R [e' 4 (.c (.own 1 []))]) (Q (R [o 7 1 [],e 5 7]) (Q (Q (R [e' 6 (k 0)]) (.blk 0 (.loop (Q (Q (R [a 8 6,a 9 1,g 10 .lss (v 8) (v 9)]) (F (v 10) .skip (.exit 0))) (Q (.blk 1 (R [a 13 5,a 14 0,c 15 155 [v 14],n 16 (conv 16 .u8 (v 15)),o 17 1 [v 16],n 18 (app 18 (v 13) (v 17) 1 1),e 5 18])) (R [a 11 6,g 12 .add (v 11) (k 1),e 6 12])))))) (Q (R [a 19 5,e 4 19]) .ret)))
def zO:Cmd:=Q (R [n 3 (box 3 (v 1)),e' 4 (.c (.own 2 []))]) (Q (D [0,0,3,0,8,31,63] [o 7 2 [],a 8 0,n 9 (app 9 (v 7) (v 8) 2 32),b 10 3 2,o 11 2 [v 10],n 12 (app 12 (v 9) (v 11) 2 32),e 5 12]) (Q (R [a 13 5,l 14 13,g 15 .sub (v 14) (k 1),e 6 15]) (Q (.blk 0 (.loop (Q (Q (D [0,1,3,7,7,23,63,127,255,7,519,2047,4095] [a 16 6,g 17 .gtr (v 16) (k 0),a 18 17,ha 18 true 19 5,ha 18 true 20 6,h 18 true 21 (bin 21 .sub (v 20) (k 1)),h 18 true 22 (idx 22 (v 19) (v 21) 2),h 18 true 23 (fld 23 (v 22) 0),h 18 true 24 (ld 24 (v 23) 1 false),h 18 true 25 (fld 25 (v 3) 0),h 18 true 26 (ld 26 (v 25) 1 false),h 18 true 27 (bin 27 .gtr (v 24) (v 26)),p 28 18 (v 27) k0]) (F (v 28) .skip (.exit 0))) (.blk 1 (Q (R [a 29 5,a 30 6,a 31 5,a 32 6,g 33 .sub (v 32) (k 1),i 34 31 33 2,b 35 34 2,i 36 29 30 2,s 36 35 2]) (R [a 37 6,g 38 .sub (v 37) (k 1),e 6 38])))))) (Q (R [a 39 5,a 40 6,b 41 3 2,i 42 39 40 2,s 42 41 2]) (Q (R [a 43 5,e 4 43]) .ret)))))
def iR:Cmd:=Q (R [e' 4 (k 0)]) (Q (Q (R [a 6 0,l 7 6,n 8 (mov 8 (k 0))]) (.blk 0 (.loop (Q (R [g 9 .lss (v 8) (v 7)]) (Q (F (v 9) .skip (.exit 0)) (Q (.blk 1 (Q (R [a 10 8,e 5 10]) (Q (R [a 11 1,a 12 0,a 13 5,i 14 12 13 1,b' 15 14 1,n 16 (callv (some 16) (v 11) [v 15])]) (F (v 16) (Q (R [a 17 5,e 4 17]) .ret) .skip)))) (R [g 18 .add (v 8) (k 1),a 8 18]))))))) (Q (R [e' 4 (k (-1))]) .ret))
end
theorem hmx:Tryz.prog.follows .mixedOrders=true:=by kernel_rfl
theorem m6:aE Tryz.prog 5=some (85,[.t 2],iV):=by kernel_rfl
theorem aoe:aE Tryz.prog 12=some (6,[.t 2],ajO):=by kernel_rfl
theorem eU:aE Tryz.prog 17=some (56,[.c 4 2 true,.t 5],dT):=by kernel_rfl
theorem aeA:aE Tryz.prog 20=some (17,[.t 4],v6):=by kernel_rfl
theorem x6:aE Tryz.prog 21=some (14,[.c 2 2 true,.t 3],pM):=by kernel_rfl
theorem l7:aE Tryz.prog 22=some (55,[.c 4 2 true,.t 5],i9):=by kernel_rfl
theorem af4:aE Tryz.prog 23=some (46,[.t 4,.t 5],aaU):=by kernel_rfl
theorem wO:aE Tryz.prog 24=some (20,[.t 2],p7):=by kernel_rfl
theorem aeB:aE Tryz.prog 26=some (18,[.t 4],v7):=by kernel_rfl
theorem ahx:aE Tryz.prog 28=some (47,[.t 2],yY):=by kernel_rfl
theorem s5:aE Tryz.prog 29=some (8,[.c 2 2 true,.t 3],lA):=by kernel_rfl
theorem eV:aE Tryz.prog 30=some (57,[.c 4 2 true,.t 5],dU):=by kernel_rfl
theorem aaX:aE Tryz.prog 31=some (38,[.t 4,.t 5],uU):=by kernel_rfl
theorem acC:aE Tryz.prog 33=some (11,[.c 4 2 true,.t 5],tS):=by kernel_rfl
theorem aeC:aE Tryz.prog 37=some (11,[.c 4 2 true,.t 5],v8):=by kernel_rfl
theorem fU:aE Tryz.prog 39=some (82,[.c 6 2 true,.t 7],eO):=by kernel_rfl
theorem gN:aE Tryz.prog 42=some (112,[.c 6 2 true,.t 7],fR):=by kernel_rfl
theorem ahy:aE Tryz.prog 46=some (53,[.t 2],yZ):=by kernel_rfl
theorem aeD:aE Tryz.prog 49=some (56,[.t 2],wA):=by kernel_rfl
theorem wP:aE Tryz.prog 50=some (24,[.t 2],p8):=by kernel_rfl
theorem ajP:aE Tryz.prog 56=some (32,[.t 2],acq):=by kernel_rfl
theorem ahz:aE Tryz.prog 57=some (20,[.c 4 2 true],y0):=by kernel_rfl
theorem s6:aE Tryz.prog 58=some (25,[.t 4],o6):=by kernel_rfl
theorem ahA:aE Tryz.prog 59=some (18,[.t 2],y5):=by kernel_rfl
theorem aeE:aE Tryz.prog 61=some (25,[.c 2 2 true],wB):=by kernel_rfl
theorem ajQ:aE Tryz.prog 62=some (25,[.t 4],acr):=by kernel_rfl
theorem s7:aE Tryz.prog 64=some (34,[.c 4 7 true,.t 5],o7):=by kernel_rfl
theorem x7:aE Tryz.prog 65=some (17,[.c 4 2 true],pN):=by kernel_rfl
theorem aaY:aE Tryz.prog 66=some (13,[.c 4 2 true],rC):=by kernel_rfl
theorem acD:aE Tryz.prog 67=some (40,[.c 4 2 true],tT):=by kernel_rfl
theorem aaZ:aE Tryz.prog 68=some (30,[.c 4 6 true,.t 5],uV):=by kernel_rfl
theorem ajR:aE Tryz.prog 69=some (21,[.t 4],acs):=by kernel_rfl
theorem wQ:aE Tryz.prog 70=some (19,[.c 4 6 true,.t 5],p9):=by kernel_rfl
theorem qC:aE Tryz.prog 72=some (32,[.t 6],jM):=by kernel_rfl
theorem aa0:aE Tryz.prog 73=some (45,[.t 4],rD):=by kernel_rfl
theorem wR:aE Tryz.prog 74=some (15,[.c 2 2 true],rE):=by kernel_rfl
theorem oG:aE Tryz.prog 75=some (31,[.t 2,.t 3,.t 4],jW):=by kernel_rfl
theorem ahB:aE Tryz.prog 76=some (27,[.c 2 2 true],y6):=by kernel_rfl
theorem s8:aE Tryz.prog 77=some (24,[.c 4 6 true,.t 5],o8):=by kernel_rfl
theorem ahC:aE Tryz.prog 78=some (30,[.c 4 2 true],y7):=by kernel_rfl
theorem aa1:aE Tryz.prog 79=some (37,[.c 4 2 true],rF):=by kernel_rfl
theorem tV:aE Tryz.prog 80=some (59,[.c 4 2 true],oB):=by kernel_rfl
theorem f7:aE Tryz.prog 81=some (26,[.t 2,.t 3],eT):=by kernel_rfl
theorem x8:aE Tryz.prog 82=some (45,[.t 6],pO):=by kernel_rfl
theorem pR:aE Tryz.prog 84=some (8,[.t 2],kE):=by kernel_rfl
theorem ajS:aE Tryz.prog 85=some (63,[.t 2],act):=by kernel_rfl
theorem aeF:aE Tryz.prog 86=some (36,[.t 4],wC):=by kernel_rfl
theorem aeG:aE Tryz.prog 87=some (9,[.t 4],wD):=by kernel_rfl
theorem aa2:aE Tryz.prog 88=some (30,[.c 4 6 true,.t 5],uW):=by kernel_rfl
theorem jA:aE Tryz.prog 89=some (65,[.c 6 2 true,.t 7],gM):=by kernel_rfl
theorem acE:aE Tryz.prog 90=some (10,[.t 2],wE):=by kernel_rfl
theorem rL:aE Tryz.prog 91=some (59,[.t 2,.t 3],m3):=by kernel_rfl
theorem gO:aE Tryz.prog 92=some (59,[.c 6 6 true,.t 7,.t 8],fS):=by kernel_rfl
theorem ajT:aE Tryz.prog 93=some (44,[.t 4],acu):=by kernel_rfl
theorem al8:aE Tryz.prog 94=some (15,[.t 6],af2):=by kernel_rfl
theorem ahD:aE Tryz.prog 96=some (9,[.t 4],y8):=by kernel_rfl
theorem af5:aE Tryz.prog 97=some (20,[.t 4,.t 5],aaV):=by kernel_rfl
theorem rM:aE Tryz.prog 98=some (48,[.t 4],oC):=by kernel_rfl
theorem oH:aE Tryz.prog 100=some (48,[.c 2 2 true],l5):=by kernel_rfl
theorem qD:aE Tryz.prog 101=some (31,[.t 4],m4):=by kernel_rfl
theorem ahE:aE Tryz.prog 102=some (56,[.t 2],y9):=by kernel_rfl
theorem ajU:aE Tryz.prog 107=some (68,[.t 2],acv):=by kernel_rfl
theorem aeH:aE Tryz.prog 108=some (50,[.t 4],wF):=by kernel_rfl
theorem al9:aE Tryz.prog 109=some (22,[.t 4],af3):=by kernel_rfl
theorem nJ:aE Tryz.prog 110=some (9,[.t 4],iL):=by kernel_rfl
theorem ahF:aE Tryz.prog 112=some (59,[.t 4],zA):=by kernel_rfl
theorem ahG:aE Tryz.prog 118=some (4,[.c 0 2 true],zB):=by kernel_rfl
theorem bQ:aE Tryz.prog 119=some (104,[.c 4 2 true],bM):=by kernel_rfl
theorem wS:aE Tryz.prog 120=some (11,[.t 2],qA):=by kernel_rfl
theorem ahH:aE Tryz.prog 121=some (6,[.t 2],zC):=by kernel_rfl
theorem aa3:aE Tryz.prog 122=some (16,[.c 2 6 true],rG):=by kernel_rfl
theorem oI:aE Tryz.prog 123=some (31,[.t 2,.t 3,.t 4],jX):=by kernel_rfl
theorem jY:aE Tryz.prog 124=some (42,[.t 4],f6):=by kernel_rfl
theorem rN:aE Tryz.prog 125=some (8,[.t 2],m5):=by kernel_rfl
theorem uD:aE Tryz.prog 126=some (9,[.t 3],nI):=by kernel_rfl
theorem iS:aE Tryz.prog 127=some (42,[.t 4],fB):=by kernel_rfl
theorem wT:aE Tryz.prog 128=some (8,[.t 3],oD):=by kernel_rfl
theorem qE:aE Tryz.prog 129=some (19,[.t 4],jN):=by kernel_rfl
theorem s9:aE Tryz.prog 132=some (19,[.t 4],l6):=by kernel_rfl
theorem x9:aE Tryz.prog 135=some (26,[.t 4],pP):=by kernel_rfl
theorem aa4:aE Tryz.prog 136=some (26,[.t 4],rH):=by kernel_rfl
theorem yA:aE Tryz.prog 137=some (26,[.t 4],pQ):=by kernel_rfl
theorem ahI:aE Tryz.prog 138=some (52,[.c 2 2 true],zE):=by kernel_rfl
theorem tW:aE Tryz.prog 139=some (33,[.t 2],oE):=by kernel_rfl
theorem ahJ:aE Tryz.prog 140=some (21,[.c 2 6 true],zF):=by kernel_rfl
theorem ajV:aE Tryz.prog 141=some (29,[.t 4],acw):=by kernel_rfl
theorem ajW:aE Tryz.prog 142=some (8,[.t 4],acx):=by kernel_rfl
theorem aeI:aE Tryz.prog 143=some (11,[.t 2],wG):=by kernel_rfl
theorem aeJ:aE Tryz.prog 146=some (94,[.t 2],wH):=by kernel_rfl
theorem aa5:aE Tryz.prog 147=some (8,[.t 3],rI):=by kernel_rfl
theorem wU:aE Tryz.prog 148=some (19,[.c 4 6 true,.t 5],qB):=by kernel_rfl
theorem ajX:aE Tryz.prog 149=some (12,[.t 4],acy):=by kernel_rfl
theorem ahK:aE Tryz.prog 150=some (46,[.t 2],zG):=by kernel_rfl
theorem ajY:aE Tryz.prog 151=some (27,[.t 4],acz):=by kernel_rfl
theorem ahL:aE Tryz.prog 152=some (40,[.t 4,.t 5],zH):=by kernel_rfl
theorem ajZ:aE Tryz.prog 153=some (12,[.t 4],acA):=by kernel_rfl
theorem jO:aE Tryz.prog 154=some (63,[.c 2 6 true],iD):=by kernel_rfl
theorem zP:aE Tryz.prog 155=some (58,[.t 2],sY):=by kernel_rfl
theorem af6:aE Tryz.prog 158=some (15,[.t 6],aaW):=by kernel_rfl
theorem aeK:aE Tryz.prog 159=some (59,[.t 2],wI):=by kernel_rfl
theorem aa6:aE Tryz.prog 160=some (19,[.t 4],rJ):=by kernel_rfl
theorem acF:aE Tryz.prog 162=some (46,[.t 4],wJ):=by kernel_rfl
theorem gP:aE Tryz.prog 172=some (86,[.c 8 2 true,.t 9],fL):=by kernel_rfl
theorem ahM:aE Tryz.prog 173=some (8,[.t 2],zJ):=by kernel_rfl
theorem iE:aE Tryz.prog 174=some (60,[.c 6 2 true,.t 7],fT):=by kernel_rfl
theorem gQ:aE Tryz.prog 175=some (96,[.c 8 2 true,.t 9],fM):=by kernel_rfl
theorem aeL:aE Tryz.prog 176=some (52,[],wK):=by kernel_rfl
theorem ahN:aE Tryz.prog 177=some (47,[.t 2],zK):=by kernel_rfl
theorem pS:aE Tryz.prog 178=some (8,[.t 2],kG):=by kernel_rfl
theorem tX:aE Tryz.prog 179=some (9,[.t 2],oF):=by kernel_rfl
theorem acG:aE Tryz.prog 184=some (66,[.t 8],tU):=by kernel_rfl
theorem f8:aE Tryz.prog 185=some (9,[.t 4],dV):=by kernel_rfl
theorem aa7:aE Tryz.prog 186=some (6,[.t 2],rK):=by kernel_rfl
theorem aeM:aE Tryz.prog 198=some (42,[.t 2],wL):=by kernel_rfl
theorem zQ:aE Tryz.prog 199=some (67,[.c 2 6 true],sZ):=by kernel_rfl
theorem ahO:aE Tryz.prog 201=some (47,[.t 2],zM):=by kernel_rfl
theorem aeN:aE Tryz.prog 202=some (48,[.t 2],wM):=by kernel_rfl
theorem aj0:aE Tryz.prog 212=some (18,[.t 4],acB):=by kernel_rfl
theorem aeO:aE Tryz.prog 223=some (20,[.t 4],wN):=by kernel_rfl
theorem ahP:aE Tryz.prog 224=some (44,[.t 4],zO):=by kernel_rfl
theorem pI:aE Tryz.prog 231=some (19,[.t 4],iR):=by kernel_rfl
section
open Go.Proofs Go.Shelf
def uE:Go.Shelf.Ren:=⟨fun | 143=>230 | 219=>257 | 217=>263 | 225=>264 | 224=>265 | 267=>266 | 266=>269 | 314=>270 | n=>n,
 fun | 9=>9 | 3=>3 | 4=>4 | 5=>5 | 46=>141 | 146=>245 | 51=>178 | n=>n,
 fun | 1=>0 | n=>n⟩
theorem acH:Lays.n143 Tryz.prog uE where
 mixed:=by kernel_rfl
 f143:=Tryz.func230.trans (congrArg some (by kernel_rfl))
 f217:=Tryz.func263.trans (congrArg some (by kernel_rfl))
 f219:=Tryz.func257.trans (congrArg some (by kernel_rfl))
 f224:=Tryz.func265.trans (congrArg some (by kernel_rfl))
 f225:=Tryz.func264.trans (congrArg some (by kernel_rfl))
 f266:=Tryz.func269.trans (congrArg some (by kernel_rfl))
 f267:=Tryz.func266.trans (congrArg some (by kernel_rfl))
 f314:=Tryz.func270.trans (congrArg some (by kernel_rfl))
 t3:=Tryz.underlying3
 a3:=Tryz.isAgg3
 z3:=Tryz.sizeOf3
 v3:=Tryz.zeroValue3
 t4:=Tryz.underlying4
 a4:=Tryz.isAgg4
 z4:=Tryz.sizeOf4
 v4:=Tryz.zeroValue4
 t5:=Tryz.underlying5
 a5:=Tryz.isAgg5
 z5:=Tryz.sizeOf5
 v5:=Tryz.zeroValue5
 t9:=Tryz.underlying9
 a9:=Tryz.isAgg9
 z9:=Tryz.sizeOf9
 v9:=Tryz.zeroValue9
 t46:=Tryz.underlying141
 a46:=Tryz.isAgg141
 z46:=Tryz.sizeOf141
 v46:=Tryz.zeroValue141
 t51:=Tryz.underlying178
 a51:=Tryz.isAgg178
 z51:=Tryz.sizeOf178
 v51:=Tryz.zeroValue178
 t146:=Tryz.underlying245
 a146:=Tryz.isAgg245
 z146:=Tryz.sizeOf245
 v146:=Tryz.zeroValue245
 g1:=by kernel_rfl
def uF:Go.Shelf.Ren:=⟨fun | 138=>229 | 195=>254 | 218=>256 | 143=>230 | 219=>257 | 217=>263 | 225=>264 | 224=>265 | 267=>266 | 266=>269 | 314=>270 | n=>n,
 fun | 9=>9 | 3=>3 | 4=>4 | 5=>5 | 0=>0 | 46=>141 | 146=>245 | 51=>178 | n=>n,
 fun | 1=>0 | n=>n⟩
theorem acI:Lays.n138 Tryz.prog uF where
 mixed:=by kernel_rfl
 f138:=Tryz.func229.trans (congrArg some (by kernel_rfl))
 f143:=Tryz.func230.trans (congrArg some (by kernel_rfl))
 f195:=Tryz.func254.trans (congrArg some (by kernel_rfl))
 f217:=Tryz.func263.trans (congrArg some (by kernel_rfl))
 f218:=Tryz.func256.trans (congrArg some (by kernel_rfl))
 f219:=Tryz.func257.trans (congrArg some (by kernel_rfl))
 f224:=Tryz.func265.trans (congrArg some (by kernel_rfl))
 f225:=Tryz.func264.trans (congrArg some (by kernel_rfl))
 f266:=Tryz.func269.trans (congrArg some (by kernel_rfl))
 f267:=Tryz.func266.trans (congrArg some (by kernel_rfl))
 f314:=Tryz.func270.trans (congrArg some (by kernel_rfl))
 t0:=Tryz.underlying0
 a0:=Tryz.isAgg0
 z0:=Tryz.sizeOf0
 v0:=Tryz.zeroValue0
 t3:=Tryz.underlying3
 a3:=Tryz.isAgg3
 z3:=Tryz.sizeOf3
 v3:=Tryz.zeroValue3
 t4:=Tryz.underlying4
 a4:=Tryz.isAgg4
 z4:=Tryz.sizeOf4
 v4:=Tryz.zeroValue4
 t5:=Tryz.underlying5
 a5:=Tryz.isAgg5
 z5:=Tryz.sizeOf5
 v5:=Tryz.zeroValue5
 t9:=Tryz.underlying9
 a9:=Tryz.isAgg9
 z9:=Tryz.sizeOf9
 v9:=Tryz.zeroValue9
 t46:=Tryz.underlying141
 a46:=Tryz.isAgg141
 z46:=Tryz.sizeOf141
 v46:=Tryz.zeroValue141
 t51:=Tryz.underlying178
 a51:=Tryz.isAgg178
 z51:=Tryz.sizeOf178
 v51:=Tryz.zeroValue178
 t146:=Tryz.underlying245
 a146:=Tryz.isAgg245
 z146:=Tryz.sizeOf245
 v146:=Tryz.zeroValue245
 g1:=by kernel_rfl
def nK:Go.Shelf.Ren:=⟨fun | 156=>225 | 165=>249 | 166=>250 | 169=>251 | 240=>260 | 241=>261 | 276=>267 | 277=>268 | n=>n,
 fun | 31=>37 | 9=>9 | 3=>3 | 4=>4 | 0=>0 | 20=>20 | 72=>220 | 76=>224 | 70=>218 | 37=>22 | 75=>223 | 127=>236 | 164=>238 | 5=>5 | 80=>226 | n=>n,
 fun | n=>n⟩
theorem tY:Lays.n156 Tryz.prog nK where
 mixed:=by kernel_rfl
 f156:=Tryz.func225.trans (congrArg some (by kernel_rfl))
 f165:=Tryz.func249.trans (congrArg some (by kernel_rfl))
 f166:=Tryz.func250.trans (congrArg some (by kernel_rfl))
 f169:=Tryz.func251.trans (congrArg some (by kernel_rfl))
 f240:=Tryz.func260.trans (congrArg some (by kernel_rfl))
 f241:=Tryz.func261.trans (congrArg some (by kernel_rfl))
 f276:=Tryz.func267.trans (congrArg some (by kernel_rfl))
 f277:=Tryz.func268.trans (congrArg some (by kernel_rfl))
 t0:=Tryz.underlying0
 a0:=Tryz.isAgg0
 z0:=Tryz.sizeOf0
 v0:=Tryz.zeroValue0
 t3:=Tryz.underlying3
 a3:=Tryz.isAgg3
 z3:=Tryz.sizeOf3
 v3:=Tryz.zeroValue3
 t4:=Tryz.underlying4
 a4:=Tryz.isAgg4
 z4:=Tryz.sizeOf4
 v4:=Tryz.zeroValue4
 t9:=Tryz.underlying9
 a9:=Tryz.isAgg9
 z9:=Tryz.sizeOf9
 v9:=Tryz.zeroValue9
 t20:=Tryz.underlying20
 a20:=Tryz.isAgg20
 z20:=Tryz.sizeOf20
 v20:=Tryz.zeroValue20
 t31:=Tryz.underlying37
 a31:=Tryz.isAgg37
 z31:=Tryz.sizeOf37
 v31:=Tryz.zeroValue37
 t37:=Tryz.underlying22
 a37:=Tryz.isAgg22
 z37:=Tryz.sizeOf22
 v37:=Tryz.zeroValue22
 t70:=Tryz.underlying218
 a70:=Tryz.isAgg218
 z70:=Tryz.sizeOf218
 v70:=Tryz.zeroValue218
 t72:=Tryz.underlying220
 a72:=Tryz.isAgg220
 z72:=Tryz.sizeOf220
 v72:=Tryz.zeroValue220
 t75:=Tryz.underlying223
 a75:=Tryz.isAgg223
 z75:=Tryz.sizeOf223
 v75:=Tryz.zeroValue223
 t76:=Tryz.underlying224
 a76:=Tryz.isAgg224
 z76:=Tryz.sizeOf224
 v76:=Tryz.zeroValue224
 t127:=Tryz.underlying236
 a127:=Tryz.isAgg236
 z127:=Tryz.sizeOf236
 v127:=Tryz.zeroValue236
 t164:=Tryz.underlying238
 a164:=Tryz.isAgg238
 z164:=Tryz.sizeOf238
 v164:=Tryz.zeroValue238
end
section
@[congr] theorem bind_congr_l {α β:Type} {a b:Option α} {f:α→Option β} (h:a=b):a.bind f=b.bind f:=by rw [h]
@[congr] theorem map_congr_l {α β:Type} {a b:Option α} {f:α→β} (h:a=b):a.map f=b.map f:=by rw [h]
def aof (E:Env):List Plc→Bool
 | []=>true
 | (_,_,r,p)::l=>isU (cL (E.f r) p) && aof E l
theorem aog (E:Env):∀ l:List Plc,aof E l=l.all (fun q=>isU (cL (E.f q.2.2.1) q.2.2.2)):=by
 intro l
 induction l with
 | nil=>rfl
 | cons q l ih=>obtain ⟨k,j,r,p⟩:=q; simp [aof,ih]
theorem aqj:∀ (E:Env) (q:Plc) (pls:List Plc) (outs:List AV),nS E none (q::pls) outs=if aof E (q::pls)=true then n4 E outs (q::pls) else none:=by
 intro E q pls outs
 rw [aog]; rfl
theorem SAU:(∀ E:Env,aof E []=true)∧(∀ (E:Env) (k:Nat) (j:Option Nat) (r:Nat) (p:bG) (l:List Plc),aof E ((k,j,r,p)::l)=(isU (cL (E.f r) p) && aof E l)):=⟨fun _=>rfl,fun _ _ _ _ _ _=>rfl⟩
theorem SBK:∀ (E:Env) (outs:List AV),nS E none [] outs=n4 E outs []:=by
 intro E outs
 simp [nS]
theorem SB0:type_of% (And.intro SBK aqj):=And.intro SBK aqj
abbrev aA:=List UInt8
theorem aa8 {α:Type} {f:α→Nat} {l:List α} {x:α} (h:x ∈ l):f x≤(l.map f).sum:=by
 induction l with
 | nil=>simp at h
 | cons y l ih=>
  rcases lG.1 h with rfl | h
  ·simp
  ·have:=ih h; simp; omega
theorem bF {α:Type} {l:List α} {i:Nat} (h:(i:Int)<(l.length:Nat)):l[i]?=some (l[i]'(by omega)):=by simp
theorem af7 {α:Type} (f:α→Nat) (l:List α) (i:Nat) (h:i<l.length):((l.take (i+1)).map f).sum=((l.take i).map f).sum+f l[i]:=by
 rw [lR h,lF2,List.sum_append]
 simp only [lO,lR1,lC2,List.sum_nil,lS3]
theorem aeP {α:Type} (f:α→Nat) (l:List α) (i:Nat):((l.take i).map f).sum≤(l.map f).sum:=by
 conv=>rhs; rw [← lK i l,lF2,List.sum_append]
 omega
theorem iF {α:Type} {a b:List α} {i:Nat} (h:a.take i=b.take i) (h1:i<a.length) (h2:i<b.length) (e:a[i]=b[i]):a.take (i+1)=b.take (i+1):=by
 rw [lR h1,lR h2,h,e]
theorem uY {α:Type} {a b:List α} {i:Nat} (h:a.take i=b.take i) (h1:a.length≤i) (h2:b.length≤i):a=b:=by
 rwa [lJ2 h1,lJ2 h2] at h
def am6 {α β:Type} (f:α→Int→β) (g:α→β) (c:α→Nat):List α→Int→Nat→List β
 | [],_,_=>[]
 | x::l,_,0=>g x::l.map g
 | x::l,k,i+1=>f x k::am6 f g c l (k+c x) i
def yB {α β:Type} (f:α→Int→β) (c:α→Nat):List α→Int→List β
 | [],_=>[]
 | x::l,k=>f x k::yB f c l (k+c x)
section
variable {α β γ:Type} (f:α→Int→β) (g:α→β) (c:α→Nat)
theorem af8:∀ (l:List α) (k:Int) (i:Nat),(am6 f g c l k i).length=l.length:=by
 intro l
 induction l with
 | nil=>intro k i; rfl
 | cons x l ih=>intro k i; cases i <;> simp [am6,ih]
theorem ama:∀ (l:List α) (k:Int) (i:Nat),(am6 f g c l k i)[i]?=(l[i]?).map g:=by
 intro l
 induction l with
 | nil=>intro k i; simp [am6]
 | cons x l ih=>intro k i; cases i <;> simp [am6,ih]
theorem acJ:∀ (l:List α) (k:Int),(yB f c l k).length=l.length:=by
 intro l
 induction l with
 | nil=>intro k; rfl
 | cons x l ih=>intro k; simp [yB,ih]
theorem acK:∀ (l:List α) (k:Int) (i:Nat),(yB f c l k)[i]?=(l[i]?).map fun x=>f x (k+((l.take i).map c).sum):=by
 intro l
 induction l with
 | nil=>intro k i; simp [yB]
 | cons x l ih=>
  intro k i
  cases i with
  | zero=>simp [yB]
  | succ i=>
   simp only [yB,List.getElem?_cons_succ,ih,List.take_succ_cons,lO,lC2]
   congr 1; funext y; congr 1; omega
end
def apJ {α:Type} (f:α→List TV) (z:List TV) (l:List α) (i:Nat):List (List TV):=am6 (fun x _=>f x) (fun _=>z) (fun _=>0) l 0 i
theorem aj1 {α:Type} (f:α→List TV) (z:List TV) (l:List α) (i:Nat):(apJ f z l i).length=l.length:=af8 ..
def ap4 {α:Type} (r:α→List TV) (f:α→Int→α) (c:α→Nat) (l:List α) (k:Int) (i:Nat):List (List TV):=am6 (fun x k=>r (f x k)) r c l k i
section
variable {α:Type} (r:α→List TV) (f:α→Int→α) (c:α→Nat)
theorem amb (l:List α) (k:Int) (i:Nat):(ap4 r f c l k i).length=l.length:=af8 ..
theorem amc (l:List α) (k:Int) (i:Nat):(ap4 r f c l k i)[i]?=(l[i]?).map r:=ama ..
end
def aj2 (x:UInt8):List TV:=[.int .u8 x.toNat]
def acL (b:aA) (k:Int):aA:=yB (fun _ k=>UInt8.ofInt k) (fun _=>1) b k
theorem aoh {α:Type} (l:List α):(l.map fun _=>1).sum=l.length:=by induction l with | nil=>rfl | cons x l ih=>simp [ih]; omega
theorem ahQ (b:aA) (k:Int):(acL b k).length=b.length:=acJ ..
theorem ahR (b:aA) (k:Int) (i:Nat):(acL b k)[i]?=(b[i]?).map fun _=>UInt8.ofInt (k+i):=by
 rw [acL,acK]
 by_cases h:i<b.length
 ·simp only [aoh,lT,lP1 (Nat.le_of_lt h)]
 ·rw [lY1 (by omega)]; rfl
theorem SF:(∀ (α:Type) (f:α→List TV) (z:List TV) (l:List α) (i:Nat),(apJ f z l i).length=l.length) ∧
  (∀ (α:Type) (r:α→List TV) (f:α→Int→α) (c:α→Nat) (l:List α) (k:Int) (i:Nat),(ap4 r f c l k i).length=l.length) ∧
  (∀ (α:Type) (r:α→List TV) (f:α→Int→α) (c:α→Nat) (l:List α) (k:Int) (i:Nat),(ap4 r f c l k i)[i]?=(l[i]?).map r) ∧
  (∀ (α β:Type) (f:α→Int→β) (c:α→Nat) (l:List α) (k:Int),(yB f c l k).length=l.length) ∧
  (∀ (α β:Type) (f:α→Int→β) (c:α→Nat) (l:List α) (k:Int) (i:Nat),(yB f c l k)[i]?=(l[i]?).map fun x=>f x (k+((l.take i).map c).sum)) ∧
  (∀ (b:aA) (k:Int),(acL b k).length=b.length)∧(∀ (b:aA) (k:Int) (i:Nat),(acL b k)[i]?=(b[i]?).map fun _=>UInt8.ofInt (k+i)) ∧
  (∀ (α:Type) (l:List α) (i:Nat) (f g:α→α),(l.modify i f).modify i g=l.modify i (fun x=>g (f x)))∧(∀ (α:Type) (l:List α) (i:Nat) (f:α→α),(l.modify i f)[i]?=(l[i]?).map f) ∧
  (∀ (α:Type) (l:List α) (i:Nat) (f:α→α),(l.modify i f).length=l.length):=
 ⟨fun _=>aj1,fun _=>amb,fun _=>amc,fun _ _=>acJ,fun _ _=>acK,ahQ,ahR,
  fun _ l i f g=>List.modify_modify_eq f g i l,fun _ l i f=>by simp,fun _ l i f=>by simp⟩
theorem wV (b:aA):gJ (aM b)=true:=by
 simp [gJ,aM]
 intros; rfl
theorem acM (b:aA):iO (aM b)=true:=by
 simp [iO,aM]
 intros; rfl
theorem qF (b:aA):dA (aM b)=some b:=by
 induction b with
 | nil=>rfl
 | cons x b ih=>
  simp only [aM,lO]
  simp only [aM] at ih
  have h1:vF [.int .u8 x.toNat]=some x:=by
   have:=x.toNat_lt
   simp [vF]
   try omega
  simp [dA,ih,h1]
theorem SK:iO []=true∧(∀ (e:List TV) (l:List (List TV)),iO (e::l)=(e.all fQ && iO l))∧(∀ (t:TV) (e:List TV),(t::e).all fQ=(fQ t && e.all fQ))∧([]:List TV).all fQ=true ∧
  (∀ b,fQ (.bool b)=true)∧(∀ k n,fQ (.int k n)=true)∧(∀ s,fQ (.str s)=true)∧(∀ s es,fQ (.sl s es)=true) ∧
  gJ []=true∧(∀ (e:List TV) (l:List (List TV)),gJ (e::l)=(e.all nP && gJ l))∧(∀ (t:TV) (e:List TV),(t::e).all nP=(nP t && e.all nP))∧([]:List TV).all nP=true ∧
  (∀ b,nP (.bool b)=true)∧(∀ k n,nP (.int k n)=true)∧(∀ s,nP (.str s)=true) ∧
  (∀ b:aA,gJ (aM b)=true)∧(∀ b:aA,iO (aM b)=true)∧(∀ b:aA,dA (aM b)=some b):=
 ⟨rfl,fun _ _=>rfl,fun _ _=>rfl,rfl,fun _=>rfl,fun _ _=>rfl,fun _=>rfl,fun _ _=>rfl,rfl,fun _ _=>rfl,fun _ _=>rfl,rfl,fun _=>rfl,fun _ _=>rfl,fun _=>rfl,wV,acM,qF⟩
theorem SB:min 1 IntKind.i64.bits=1∧min 7 IntKind.i64.bits=7∧min 8 IntKind.i64.bits=8∧min 14 IntKind.i64.bits=14∧min 16 IntKind.i64.bits=16∧min 24 IntKind.i64.bits=24∧min 33 IntKind.i64.bits=33∧min 47 IntKind.i64.bits=47∧min 1 IntKind.u32.bits=1∧min 8 IntKind.u32.bits=8∧min 16 IntKind.u32.bits=16∧min 24 IntKind.u32.bits=24:=by decide
def szM {α:Type} (c:α→Nat) (l:List α):Nat:=l.length+(l.map c).sum
structure Ent where
 name:aA
 ino:Int
 deriving DecidableEq,Inhabited
def Ent.row (a:Ent):List TV:=[.str a.name,.int .i64 a.ino]
def Ent.x (a:Ent):AV:=.agg [.str a.name,.int .i64 a.ino]
def Ent.o (a:Ent):AV:=.agg [.str a.name,.int .i64 a.ino]
def Ent.sz (a:Ent):Nat:=a.name.length
def Ent.zero:List TV:=[.str [],.int .i64 0]
theorem Ent.eq' {a b:Ent} (h0:a.name=b.name) (h1:a.ino=b.ino):a=b:=by cases a; cases b; simp_all
structure Attr where
 name:aA
 val:aA
 deriving DecidableEq,Inhabited
def Attr.row (a:Attr):List TV:=[.str a.name,.str a.val]
def Attr.x (a:Attr):AV:=.agg [.str a.name,.str a.val]
def Attr.o (a:Attr):AV:=.agg [.str a.name,.str a.val]
def Attr.sz (a:Attr):Nat:=a.name.length+a.val.length
def Attr.zero:List TV:=[.str [],.str []]
theorem Attr.eq' {a b:Attr} (h0:a.name=b.name) (h1:a.val=b.val):a=b:=by cases a; cases b; simp_all
structure Inode where
 ino:Int
 kind:Int
 links:Int
 data:aA
 ents:List Ent
 attrs:List Attr
 deriving DecidableEq,Inhabited
def Inode.row (a:Inode):List TV:=[.int .i64 a.ino,.int .i64 a.kind,.int .i64 a.links,.sl 1 (aM a.data),.sl 2 (a.ents.map Ent.row),.sl 2 (a.attrs.map Attr.row)]
def Inode.x (a:Inode):AV:=.agg [.int .i64 a.ino,.int .i64 a.kind,.int .i64 a.links,.ext 1 (aM a.data),.ext 2 (a.ents.map Ent.row),.ext 2 (a.attrs.map Attr.row)]
def Inode.o (a:Inode):AV:=.agg [.int .i64 a.ino,.int .i64 a.kind,.int .i64 a.links,.own 1 (aM a.data),.own 2 (a.ents.map Ent.row),.own 2 (a.attrs.map Attr.row)]
def Inode.sz (a:Inode):Nat:=a.data.length+szM Ent.sz a.ents+szM Attr.sz a.attrs
def Inode.zero:List TV:=[.int .i64 0,.int .i64 0,.int .i64 0,.sl 1 [],.sl 2 [],.sl 2 []]
theorem Inode.eq' {a b:Inode} (h0:a.ino=b.ino) (h1:a.kind=b.kind) (h2:a.links=b.links) (h3:a.data=b.data) (h4:a.ents=b.ents) (h5:a.attrs=b.attrs):a=b:=by cases a; cases b; simp_all
structure Tab where
 inodes:List Inode
 next:Int
 deriving DecidableEq,Inhabited
def Tab.row (a:Tab):List TV:=[.sl 6 (a.inodes.map Inode.row),.int .i64 a.next]
def Tab.x (a:Tab):AV:=.agg [.ext 6 (a.inodes.map Inode.row),.int .i64 a.next]
def Tab.o (a:Tab):AV:=.agg [.own 6 (a.inodes.map Inode.row),.int .i64 a.next]
def Tab.sz (a:Tab):Nat:=szM Inode.sz a.inodes
def Tab.zero:List TV:=[.sl 6 [],.int .i64 0]
theorem Tab.eq' {a b:Tab} (h0:a.inodes=b.inodes) (h1:a.next=b.next):a=b:=by cases a; cases b; simp_all
structure Vol where
 id:Int
 name:aA
 ro:Bool
 limit:Int
 t:Tab
 deriving DecidableEq,Inhabited
def Vol.row (a:Vol):List TV:=[.int .i64 a.id,.str a.name,.bool a.ro,.int .i64 a.limit,.sl 6 (a.t.inodes.map Inode.row),.int .i64 a.t.next]
def Vol.x (a:Vol):AV:=.agg [.int .i64 a.id,.str a.name,.bool a.ro,.int .i64 a.limit,.ext 6 (a.t.inodes.map Inode.row),.int .i64 a.t.next]
def Vol.o (a:Vol):AV:=.agg [.int .i64 a.id,.str a.name,.bool a.ro,.int .i64 a.limit,.own 6 (a.t.inodes.map Inode.row),.int .i64 a.t.next]
def Vol.sz (a:Vol):Nat:=a.name.length+a.t.sz
def Vol.zero:List TV:=[.int .i64 0,.str [],.bool false,.int .i64 0,.sl 6 [],.int .i64 0]
theorem Vol.eq' {a b:Vol} (h0:a.id=b.id) (h1:a.name=b.name) (h2:a.ro=b.ro) (h3:a.limit=b.limit) (h4:a.t=b.t):a=b:=by cases a; cases b; simp_all
structure Fs where
 vols:List Vol
 next:Int
 deriving DecidableEq,Inhabited
def Fs.row (a:Fs):List TV:=[.sl 6 (a.vols.map Vol.row),.int .i64 a.next]
def Fs.x (a:Fs):AV:=.agg [.ext 6 (a.vols.map Vol.row),.int .i64 a.next]
def Fs.o (a:Fs):AV:=.agg [.own 6 (a.vols.map Vol.row),.int .i64 a.next]
def Fs.sz (a:Fs):Nat:=szM Vol.sz a.vols
def Fs.zero:List TV:=[.sl 6 [],.int .i64 0]
theorem Fs.eq' {a b:Fs} (h0:a.vols=b.vols) (h1:a.next=b.next):a=b:=by cases a; cases b; simp_all
structure Op where
 kind:Int
 vol:Int
 path:aA
 to':aA
 off:Int
 data:aA
 deriving DecidableEq,Inhabited
def Op.row (a:Op):List TV:=[.int .i64 a.kind,.int .i64 a.vol,.str a.path,.str a.to',.int .i64 a.off,.sl 1 (aM a.data)]
def Op.x (a:Op):AV:=.agg [.int .i64 a.kind,.int .i64 a.vol,.str a.path,.str a.to',.int .i64 a.off,.ext 1 (aM a.data)]
def Op.o (a:Op):AV:=.agg [.int .i64 a.kind,.int .i64 a.vol,.str a.path,.str a.to',.int .i64 a.off,.own 1 (aM a.data)]
def Op.sz (a:Op):Nat:=a.path.length+a.to'.length+a.data.length
def Op.zero:List TV:=[.int .i64 0,.int .i64 0,.str [],.str [],.int .i64 0,.sl 1 []]
theorem Op.eq' {a b:Op} (h0:a.kind=b.kind) (h1:a.vol=b.vol) (h2:a.path=b.path) (h3:a.to'=b.to') (h4:a.off=b.off) (h5:a.data=b.data):a=b:=by cases a; cases b; simp_all
theorem ST :
  (∀ a:Ent,a.row=[.str a.name,.int .i64 a.ino]) ∧
  (∀ a:Ent,a.x=.agg [.str a.name,.int .i64 a.ino]) ∧
  (∀ a:Ent,a.o=.agg [.str a.name,.int .i64 a.ino]) ∧
  (∀ a:Attr,a.row=[.str a.name,.str a.val]) ∧
  (∀ a:Attr,a.x=.agg [.str a.name,.str a.val]) ∧
  (∀ a:Attr,a.o=.agg [.str a.name,.str a.val]) ∧
  (∀ a:Inode,a.row=[.int .i64 a.ino,.int .i64 a.kind,.int .i64 a.links,.sl 1 (aM a.data),.sl 2 (a.ents.map Ent.row),.sl 2 (a.attrs.map Attr.row)]) ∧
  (∀ a:Inode,a.x=.agg [.int .i64 a.ino,.int .i64 a.kind,.int .i64 a.links,.ext 1 (aM a.data),.ext 2 (a.ents.map Ent.row),.ext 2 (a.attrs.map Attr.row)]) ∧
  (∀ a:Inode,a.o=.agg [.int .i64 a.ino,.int .i64 a.kind,.int .i64 a.links,.own 1 (aM a.data),.own 2 (a.ents.map Ent.row),.own 2 (a.attrs.map Attr.row)]) ∧
  (∀ a:Tab,a.row=[.sl 6 (a.inodes.map Inode.row),.int .i64 a.next]) ∧
  (∀ a:Tab,a.x=.agg [.ext 6 (a.inodes.map Inode.row),.int .i64 a.next]) ∧
  (∀ a:Tab,a.o=.agg [.own 6 (a.inodes.map Inode.row),.int .i64 a.next]) ∧
  (∀ a:Vol,a.row=[.int .i64 a.id,.str a.name,.bool a.ro,.int .i64 a.limit,.sl 6 (a.t.inodes.map Inode.row),.int .i64 a.t.next]) ∧
  (∀ a:Vol,a.x=.agg [.int .i64 a.id,.str a.name,.bool a.ro,.int .i64 a.limit,.ext 6 (a.t.inodes.map Inode.row),.int .i64 a.t.next]) ∧
  (∀ a:Vol,a.o=.agg [.int .i64 a.id,.str a.name,.bool a.ro,.int .i64 a.limit,.own 6 (a.t.inodes.map Inode.row),.int .i64 a.t.next]) ∧
  (∀ a:Fs,a.row=[.sl 6 (a.vols.map Vol.row),.int .i64 a.next]) ∧
  (∀ a:Fs,a.x=.agg [.ext 6 (a.vols.map Vol.row),.int .i64 a.next]) ∧
  (∀ a:Fs,a.o=.agg [.own 6 (a.vols.map Vol.row),.int .i64 a.next]) ∧
  (∀ a:Op,a.row=[.int .i64 a.kind,.int .i64 a.vol,.str a.path,.str a.to',.int .i64 a.off,.sl 1 (aM a.data)]) ∧
  (∀ a:Op,a.x=.agg [.int .i64 a.kind,.int .i64 a.vol,.str a.path,.str a.to',.int .i64 a.off,.ext 1 (aM a.data)]) ∧
  (∀ a:Op,a.o=.agg [.int .i64 a.kind,.int .i64 a.vol,.str a.path,.str a.to',.int .i64 a.off,.own 1 (aM a.data)]) ∧
  (∀ (α β:Type) (f:α→β) (l:List α),(l.map f).length=l.length)∧(∀ (α β:Type) (f:α→β) (l:List α) (i:Nat),(l.map f)[i]?=(l[i]?).map f):=by
 refine ⟨?_,?_,?_,?_,?_,?_,?_,?_,?_,?_,?_,?_,?_,?_,?_,?_,?_,?_,?_,?_,?_,?_,?_⟩ <;> intros <;> first | rfl | simp
theorem SX:type_of% (And.intro SAU <| And.intro SU <| And.intro SGs <| And.intro SD <| And.intro S1 <| And.intro S2 <| And.intro S3 <| And.intro SE <| And.intro SC <| And.intro SO <| And.intro ST <| And.intro SF <| And.intro SK <| And.intro @kZ <| And.intro @vX <| And.intro @Bool.beq_eq_decide_eq.{0} <| And.intro @Int.natCast_zero <| And.intro @Int.add_zero <| And.intro @ge_iff_le.{0} <| And.intro @gt_iff_lt.{0} <| And.intro @Option.isNone_none.{0} <| And.intro @Option.isNone_some.{0} <| And.intro @List.nil_append.{0} <| And.intro @List.append_nil.{0} <| And.intro @Bool.and_true <| And.intro @Bool.and_self <| SB):=And.intro SAU <| And.intro SU <| And.intro SGs <| And.intro SD <| And.intro S1 <| And.intro S2 <| And.intro S3 <| And.intro SE <| And.intro SC <| And.intro SO <| And.intro ST <| And.intro SF <| And.intro SK <| And.intro @kZ <| And.intro @vX <| And.intro @Bool.beq_eq_decide_eq.{0} <| And.intro @Int.natCast_zero <| And.intro @Int.add_zero <| And.intro @ge_iff_le.{0} <| And.intro @gt_iff_lt.{0} <| And.intro @Option.isNone_none.{0} <| And.intro @Option.isNone_some.{0} <| And.intro @List.nil_append.{0} <| And.intro @List.append_nil.{0} <| And.intro @Bool.and_true <| And.intro @Bool.and_self <| SB
end
section
theorem rO {l m:List Int} (h:l.Nodup) (hs:∀ x ∈ l,x ∈ m):l.length≤m.length:=by
 induction l generalizing m with
 | nil=>simp
 | cons x l ih=>
  obtain ⟨hx,hl⟩:=lZ4.1 h
  have hm:=hs x (by simp)
  have:=ih (m:=m.erase x) hl fun y hy=>(List.mem_erase_of_ne (by rintro rfl; exact hx hy)).2 (hs y (by simp [hy]))
  rw [List.length_erase_of_mem hm] at this
  have:0<m.length:=List.length_pos_of_mem hm
  simp only [lW]; omega
abbrev Up (l:List Int):Prop:=l.Pairwise (·<·)
theorem rP {l:List Int} (h:Up l):l.Nodup:=h.imp fun h=>by omega
theorem am7 {l m:List Int} (hl:Up l) (hm:Up m) (h:∀ x,x ∈ l↔x ∈ m):l=m:=by
 induction l generalizing m with
 | nil=>
  cases m with
  | nil=>rfl
  | cons y m=>exact absurd ((h y).2 (by simp)) (by simp)
 | cons x l ih=>
  cases m with
  | nil=>exact absurd ((h x).1 (by simp)) (by simp)
  | cons y m=>
   obtain ⟨a1,a2⟩:=lD1.1 hl
   obtain ⟨b1,b2⟩:=lD1.1 hm
   have e:x=y:=by
    have h1:=(h x).1 (by simp)
    have h2:=(h y).2 (by simp)
    simp only [lG] at h1 h2
    rcases h1 with h1 | h1
    ·exact h1
    rcases h2 with h2 | h2
    ·exact h2.symm
    have:=a1 y h2; have:=b1 x h1; omega
   subst e
   congr 1
   refine ih a2 b2 fun z=>⟨fun hz=>?_,fun hz=>?_⟩
   ·have:=(h z).1 (by simp [hz])
    simp only [lG] at this
    rcases this with rfl | this
    ·exact absurd (a1 _ hz) (by omega)
    ·exact this
   ·have:=(h z).2 (by simp [hz])
    simp only [lG] at this
    rcases this with rfl | this
    ·exact absurd (b1 _ hz) (by omega)
    ·exact this
def aj3 (l:List Int) (n:Int):List Int:=if n ∈ l then l else l.takeWhile (·<n)++n::l.dropWhile (·<n)
theorem amd (l:List Int) (n x:Int):x ∈ aj3 l n↔x=n∨x ∈ l:=by
 unfold aj3
 split
 ·rename_i h
  constructor
  ·exact .inr
  ·rintro (rfl | h')
   ·exact h
   ·exact h'
 ·have e:x ∈ l↔x ∈ l.takeWhile (·<n)∨x ∈ l.dropWhile (·<n):=by
   rw [← lL,List.takeWhile_append_dropWhile]
  rw [e]
  simp only [lL,lG]
  constructor
  ·rintro (h | h | h)
   ·exact .inr (.inl h)
   ·exact .inl h
   ·exact .inr (.inr h)
  ·rintro (h | h | h)
   ·exact .inr (.inl h)
   ·exact .inl h
   ·exact .inr (.inr h)
theorem aoi {l:List Int} (h:Up l) (n:Int):Up (aj3 l n):=by
 unfold aj3
 split
 ·exact h
 ·rename_i hn
  induction l with
  | nil=>simp [Up]
  | cons x l ih=>
   obtain ⟨a1,a2⟩:=lD1.1 h
   have hnx:n≠x:=fun e=>hn (by simp [e])
   have ih:=ih a2 fun h=>hn (by simp [h])
   by_cases hx:x<n
   ·rw [List.takeWhile_cons_of_pos (by simpa using hx),List.dropWhile_cons_of_pos (by simpa using hx)]
    refine lD1.2 ⟨fun y hy=>?_,ih⟩
    have hy:y ∈ l.takeWhile (·<n)++n::l.dropWhile (·<n):=hy
    rw [lL,lG] at hy
    rcases hy with hy | rfl | hy
    ·exact a1 y (List.takeWhile_sublist _ |>.subset hy)
    ·exact hx
    ·exact a1 y (List.dropWhile_sublist _ |>.subset hy)
   ·rw [List.takeWhile_cons_of_neg (by simpa using hx),List.dropWhile_cons_of_neg (by simpa using hx)]
    refine lD1.2 ⟨fun y hy=>?_,h⟩
    simp only [lG] at hy
    rcases hy with rfl | hy
    ·omega
    ·have:=a1 y hy; omega
section
variable (nb:Int→Option (List Int))
inductive Reach:Int→Prop where
 | root (h:(nb 1).isSome=true):Reach 1
 | step (i j:Int) (l:List Int) (hi:Reach i) (hl:nb i=some l) (hj:j ∈ l) (hs:(nb j).isSome=true):Reach j
def af9 (out:List Int) (j:Int):List Int:=if (nb j).isSome then aj3 out j else out
def aga (out:List Int) (i:Int):List Int:=((nb i).getD []).foldl (af9 nb) out
def aj4 (l:List Int):List Int:=l.foldl (aga nb) l
def cS:Nat→List Int
 | 0=>[1]
 | k+1=>aj4 nb (cS k)
def rQ (n:Nat):List Int:=if (nb 1).isSome then cS nb n else []
theorem acN (js:List Int):∀ (out:List Int) (x:Int),x ∈ js.foldl (af9 nb) out↔x ∈ out∨(x ∈ js∧(nb x).isSome=true):=by
 induction js with
 | nil=>intro out x; simp
 | cons j js ih=>
  intro out x
  rw [lS2,ih]
  unfold af9
  split
  ·rename_i hj
   rw [amd,lG]
   constructor
   ·rintro ((rfl | h) | h)
    ·exact .inr ⟨.inl rfl,hj⟩
    ·exact .inl h
    ·exact .inr ⟨.inr h.1,h.2⟩
   ·rintro (h | ⟨rfl | h,hs⟩)
    ·exact .inl (.inr h)
    ·exact .inl (.inl rfl)
    ·exact .inr ⟨h,hs⟩
  ·rename_i hj
   rw [lG]
   constructor
   ·rintro (h | h)
    ·exact .inl h
    ·exact .inr ⟨.inr h.1,h.2⟩
   ·rintro (h | ⟨rfl | h,hs⟩)
    ·exact .inl h
    ·exact absurd hs hj
    ·exact .inr ⟨h,hs⟩
theorem agb (js:List Int):∀ (out:List Int),Up out→Up (js.foldl (af9 nb) out):=by
 induction js with
 | nil=>intro out h; exact h
 | cons j js ih=>
  intro out h
  rw [lS2]
  refine ih _ ?_
  unfold af9
  split
  ·exact aoi h j
  ·exact h
theorem acO (l:List Int):∀ (out:List Int) (x:Int),x ∈ l.foldl (aga nb) out↔x ∈ out∨(∃ i ∈ l,x ∈ (nb i).getD [])∧(nb x).isSome=true:=by
 induction l with
 | nil=>intro out x; simp
 | cons i l ih=>
  intro out x
  rw [lS2,ih]
  unfold aga
  rw [acN]
  simp only [lG,exists_eq_or_imp]
  constructor
  ·rintro ((h | h) | h)
   ·exact .inl h
   ·exact .inr ⟨.inl h.1,h.2⟩
   ·exact .inr ⟨.inr h.1,h.2⟩
  ·rintro (h | ⟨h | h,hs⟩)
   ·exact .inl (.inl h)
   ·exact .inl (.inr ⟨h,hs⟩)
   ·exact .inr ⟨h,hs⟩
theorem agc (l:List Int):∀ (out:List Int),Up out→Up (l.foldl (aga nb) out):=by
 induction l with
 | nil=>intro out h; exact h
 | cons i l ih=>intro out h; rw [lS2]; exact ih _ (agb nb _ _ h)
theorem oJ (l:List Int) (x:Int):x ∈ aj4 nb l↔x ∈ l∨(∃ i ∈ l,x ∈ (nb i).getD [])∧(nb x).isSome=true:=acO nb l l x
theorem ame {l:List Int} (h:Up l):Up (aj4 nb l):=agc nb l l h
theorem jB (k:Nat):Up (cS nb k):=by
 induction k with
 | zero=>simp [cS,Up]
 | succ k ih=>exact ame nb ih
theorem wW (n:Nat):Up (rQ nb n):=by
 unfold rQ
 split
 ·exact jB nb n
 ·simp [Up]
theorem oK (h1:(nb 1).isSome=true) (k:Nat):∀ x ∈ cS nb k,Reach nb x:=by
 induction k with
 | zero=>intro x hx; simp only [cS,lC1] at hx; subst hx; exact .root h1
 | succ k ih=>
  intro x hx
  rcases (oJ nb _ _).1 hx with h | ⟨⟨i,hi,hx⟩,hs⟩
  ·exact ih x h
  ·cases hn:nb i with
   | none=>rw [hn] at hx; exact absurd hx (by simp)
   | some l=>rw [hn] at hx; exact .step i x l (ih i hi) hn hx hs
theorem l8 {x:Int} (h:Reach nb x):(nb x).isSome=true:=by
 cases h with
 | root h=>exact h
 | step _ _ _ _ _ _ h=>exact h
def aoj (l:List Int):Prop:=∀ i ∈ l,∀ x ∈ (nb i).getD [],(nb x).isSome=true→x ∈ l
theorem aeQ (k:Nat):aoj nb (cS nb k)∨k+1≤(cS nb k).length:=by
 induction k with
 | zero=>exact .inr (by simp [cS])
 | succ k ih=>
  by_cases hs:aoj nb (cS nb k)
  ·left
   have e:cS nb (k+1)=cS nb k:=by
    refine am7 (jB nb _) (jB nb _) fun x=>?_
    show x ∈ aj4 nb _↔_
    rw [oJ]
    exact ⟨fun h=>h.elim id fun ⟨⟨i,hi,hx⟩,hx'⟩=>hs i hi x hx hx',.inl⟩
   rw [e]; exact hs
  ·right
   have ih:=ih.resolve_left hs
   obtain ⟨x,hx1,hx2⟩:∃ x,x ∈ cS nb (k+1)∧x ∉ cS nb k:=by
    apply Classical.byContradiction
    intro hc
    apply hs
    intro i hi x hx hx'
    apply Classical.byContradiction
    intro hn
    exact hc ⟨x,(oJ nb _ _).2 (.inr ⟨⟨i,hi,hx⟩,hx'⟩),hn⟩
   have:=rO (l:=x::cS nb k) (m:=cS nb (k+1)) (lZ4.2 ⟨hx2,rP (jB nb k)⟩) (by
    intro y hy
    rcases lG.1 hy with rfl | hy
    ·exact hx1
    ·exact (oJ nb _ _).2 (.inl hy))
   simp only [lW] at this
   omega
theorem zR {n:Nat} (hn:∀ l:List Int,l.Nodup→(∀ x ∈ l,(nb x).isSome=true)→l.length≤n) (x:Int):x ∈ rQ nb n↔Reach nb x:=by
 by_cases h1:(nb 1).isSome=true
 ·rw [rQ,lF h1]
  refine ⟨oK nb h1 n x,fun h=>?_⟩
  have hl:=hn _ (rP (jB nb n)) fun y hy=>l8 nb (oK nb h1 n y hy)
  have hs:aoj nb (cS nb n):=(aeQ nb n).resolve_right (by omega)
  have hroot:∀ k,1 ∈ cS nb k:=by
   intro k
   induction k with
   | zero=>simp [cS]
   | succ k ih=>exact (oJ nb _ _).2 (.inl ih)
  induction h with
  | root _=>exact hroot n
  | step i j l hi hl hj hs' ih=>exact hs i ih j (by rw [hl]; exact hj) hs'
 ·rw [rQ,lI h1]
  refine ⟨fun h=>absurd h (by simp),fun h=>?_⟩
  exfalso
  apply h1
  clear hn
  induction h with
  | root h=>exact h
  | step _ _ _ _ _ _ _ ih=>exact ih
structure Que (out next:List Int):Prop where
 nodup:out.Nodup
 reach:∀ x ∈ out,Reach nb x
 from':∀ x ∈ next,(nb x).isSome=true→Reach nb x
 shut:∀ i ∈ out,∀ x ∈ (nb i).getD [],(nb x).isSome=true→x ∈ out∨x ∈ next
 root:(nb 1).isSome=true→1 ∈ out∨1 ∈ next
theorem amf:Que nb [] [1]:=⟨by simp,by simp,fun x hx h=>by simp only [lC1] at hx; subst hx; exact .root h,by simp,fun _=>.inr (by simp)⟩
theorem agd {out next:List Int} {i:Int} (q:Que nb out (i::next)) (h:nb i=none∨i ∈ out):Que nb out next:=by
 refine ⟨q.nodup,q.reach,fun x hx=>q.from' x (by simp [hx]),fun k hk x hx hs=>?_,fun h1=>?_⟩
 ·rcases q.shut k hk x hx hs with h' | h'
  ·exact .inl h'
  ·rcases lG.1 h' with rfl | h'
   ·rcases h with h | h
    ·rw [h] at hs; exact absurd hs (by simp)
    ·exact .inl h
   ·exact .inr h'
 ·rcases q.root h1 with h' | h'
  ·exact .inl h'
  ·rcases lG.1 h' with rfl | h'
   ·rcases h with h | h
    ·rw [h] at h1; exact absurd h1 (by simp)
    ·exact .inl h
   ·exact .inr h'
theorem age {out next l:List Int} {i:Int} (q:Que nb out (i::next)) (h:nb i=some l) (hn:i ∉ out):Que nb (out++[i]) (next++l):=by
 have hr:Reach nb i:=q.from' i (by simp) (by rw [h]; rfl)
 refine ⟨?_,fun x hx=>?_,fun x hx hs=>?_,fun k hk x hx hs=>?_,fun h1=>?_⟩
 ·rw [List.nodup_append]
  refine ⟨q.nodup,by simp,fun a ha b hb=>?_⟩
  rw [lC1.1 hb]
  rintro rfl
  exact hn ha
 ·rcases lL.1 hx with hx | hx
  ·exact q.reach x hx
  ·rw [lC1.1 hx]; exact hr
 ·rcases lL.1 hx with hx | hx
  ·exact q.from' x (by simp [hx]) hs
  ·exact .step i x l hr h hx hs
 ·rcases lL.1 hk with hk | hk
  ·rcases q.shut k hk x hx hs with h' | h'
   ·exact .inl (by simp [h'])
   ·rcases lG.1 h' with rfl | h'
    ·exact .inl (by simp)
    ·exact .inr (by simp [h'])
  ·rw [lC1.1 hk,h] at hx
   exact .inr (by simpa using .inr hx)
 ·rcases q.root h1 with h' | h'
  ·exact .inl (by simp [h'])
  ·rcases lG.1 h' with rfl | h'
   ·exact .inl (by simp)
   ·exact .inr (by simp [h'])
theorem aok {out:List Int} (q:Que nb out []) (x:Int):x ∈ out↔Reach nb x:=by
 refine ⟨q.reach x,fun h=>?_⟩
 induction h with
 | root h=>exact (q.root h).resolve_right (by simp)
 | step i j l hi hl hj hs ih=>exact (q.shut i ih j (by rw [hl]; exact hj) hs).resolve_right (by simp)
theorem ahS {n:Nat} (hn:∀ l:List Int,l.Nodup→(∀ x ∈ l,(nb x).isSome=true)→l.length≤n) {out:List Int} (q:Que nb out []) :
  out.mergeSort (fun x y=>decide (x≤y))=rQ nb n:=by
 refine am7 ?_ (wW nb n) fun x=>?_
 ·have h1:=List.pairwise_mergeSort (le:=fun x y:Int=>decide (x≤y)) (by intro a b c; simp; omega) (by intro a b; simp; omega) out
  have h2:(out.mergeSort (fun x y=>decide (x≤y))).Nodup:=(List.mergeSort_perm out _).nodup_iff.2 q.nodup
  have:Up (out.mergeSort (fun x y=>decide (x≤y))):=(h1.and h2).imp fun ⟨a,b⟩=>by simp at a; omega
  exact this
 ·rw [(List.mergeSort_perm out _).mem_iff,aok nb q,zR nb hn]
theorem aol {n:Nat} (hn:∀ l:List Int,l.Nodup→(∀ x ∈ l,(nb x).isSome=true)→l.length≤n) {out next:List Int} (q:Que nb out next):out.length≤n:=
 hn out q.nodup fun x hx=>l8 nb (q.reach x hx)
end
end
def okc (c:UInt8):Bool:=(decide (97≤c) && decide (c≤122)) || (decide (48≤c) && decide (c≤57)) || decide (c=95) || decide (c=45) || decide (c=46)
def aY (s:aA):Bool:=s.all okc && decide (1≤s.length) && decide (s.length≤14) && decide (s≠[46]) && decide (s≠[46,46])
def bJ:aA→List aA
 | []=>[[]]
 | c::s=>if c=47 then []::bJ s else match bJ s with
  | []=>[[c]]
  | h::t=>(c::h)::t
def cA (l:List aA):Bool:=decide (l.length≤30) && l.all aY
def yC:List aA→Option (List aA)
 | []::n::l=>some (n::l)
 | _=>none
def aC (s:aA):List aA × Bool:=if s=[47] then ([],true) else match yC (bJ s) with
 | some l=>if cA l=true then (l,true) else ([],false)
 | none=>([],false)
def c6 (l:List aA):aA:=l.flatMap fun n=>47::n
def bX (l:List aA):aA:=if cA l=true then (if l=[] then [47] else c6 l) else []
def aJ (s:aA):aA × aA × Bool:=if (aC s).2=true∧(aC s).1≠[] then (bX (aC s).1.dropLast,(aC s).1.getLastD [],true) else ([],[],false)
def aa9 (a b:aA):Bool:=(aC a).2 && ((aC b).2 && (aC a).1.isPrefixOf (aC b).1)
theorem rR (s:aA):bJ s≠[]:=by
 cases s with
 | nil=>simp [bJ]
 | cons c s=>
  rw [bJ]
  split
  ·simp
  ·split <;> simp
theorem m7 (c:UInt8) (s:aA) (h:c≠47):∃ a t,bJ s=a::t∧bJ (c::s)=(c::a)::t:=by
 cases e:bJ s with
 | nil=>exact absurd e (rR s)
 | cons a t=>exact ⟨a,t,rfl,by rw [bJ,lI h,e]⟩
theorem wX (n s:aA) (h:∀ c ∈ n,c≠47):bJ (n++47::s)=n::bJ s:=by
 induction n with
 | nil=>rw [lI1,bJ,lF rfl]
 | cons c n ih=>
  have ih:=ih fun x hx=>h x (by simp [hx])
  rw [lW1,bJ,lI (h c (by simp)),ih]
theorem wY (n:aA) (h:∀ c ∈ n,c≠47):bJ n=[n]:=by
 induction n with
 | nil=>rfl
 | cons c n ih=>
  have ih:=ih fun x hx=>h x (by simp [hx])
  rw [bJ,lI (h c (by simp)),ih]
theorem qG (l:List aA) (h:∀ n ∈ l,∀ c ∈ n,c≠47) (s:aA) (hs:∀ c ∈ s,c≠47):bJ (s++c6 l)=s::l:=by
 induction l generalizing s with
 | nil=>rw [c6]; simpa using wY s hs
 | cons n l ih=>
  have ih:=ih (fun m hm=>h m (by simp [hm])) n (h n (by simp))
  have e:s++c6 (n::l)=s++47::(n++c6 l):=by simp [c6]
  rw [e,wX s _ hs,ih]
theorem aeR (s:aA):∀ a t,bJ s=a::t→s=a++c6 t∧(∀ n ∈ a::t,∀ c ∈ n,c≠47):=by
 induction s with
 | nil=>
  intro a t h
  rw [bJ] at h
  injection h with h1 h2
  subst h1; subst h2
  simp [c6]
 | cons c s ih=>
  intro a t h
  by_cases hc:c=47
  ·rw [bJ,lF hc] at h
   injection h with h1 h2
   subst h1
   cases e:bJ s with
   | nil=>exact absurd e (rR s)
   | cons b u=>
    rw [e] at h2
    subst h2
    obtain ⟨i1,i2⟩:=ih b u e
    refine ⟨?_,fun n hn=>?_⟩
    ·rw [i1,hc]; simp [c6]
    ·rcases lG.1 hn with rfl | hn
     ·simp
     ·exact i2 n hn
  ·obtain ⟨b,u,e1,e2⟩:=m7 c s hc
   rw [e2] at h
   injection h with h1 h2
   subst h1; subst h2
   obtain ⟨i1,i2⟩:=ih b u e1
   refine ⟨by rw [i1]; rfl,fun n hn x hx=>?_⟩
   rcases lG.1 hn with rfl | hn
   ·rcases lG.1 hx with rfl | hx
    ·exact hc
    ·exact i2 b (by simp) x hx
   ·exact i2 n (by simp [hn]) x hx
theorem tA {n:aA} (h:aY n=true):∀ c ∈ n,c≠47:=by
 intro c hc
 simp only [aY,lP] at h
 have:=lA1.1 h.1.1.1.1 c hc
 rintro rfl
 exact absurd this (by decide)
theorem jZ {n:aA} (h:aY n=true):1≤n.length∧n.length≤14:=by
 simp only [aY,lP,decide_eq_true_eq] at h
 exact ⟨h.1.1.1.2,h.1.1.2⟩
theorem l9 {l:List aA} (h:cA l=true):l.length≤30∧∀ n ∈ l,aY n=true:=by
 simp only [cA,lP,decide_eq_true_eq,lA1] at h
 exact h
theorem o9 {l:List aA} (h1:l.length≤30) (h2:∀ n ∈ l,aY n=true):cA l=true:=by
 simp only [cA,lP,decide_eq_true_eq,lA1]
 exact ⟨h1,h2⟩
theorem aeS {l:List aA} (h:cA l=true) (hne:l≠[]):aC (c6 l)=(l,true):=by
 obtain ⟨h1,h2⟩:=l9 h
 have e:=qG l (fun n hn=>tA (h2 n hn)) [] (by simp)
 rw [lI1] at e
 cases l with
 | nil=>exact absurd rfl hne
 | cons n l=>
  have hn:=jZ (h2 n (by simp))
  have hs:c6 (n::l)≠[47]:=by
   intro hc
   have h3:(c6 (n::l)).length=1:=by rw [hc]; rfl
   have h4:c6 (n::l)=47::(n++c6 l):=by simp [c6]
   rw [h4] at h3
   simp only [lW,lU] at h3
   omega
  rw [aC,lI hs,e]
  simp only [yC,h,lF]
theorem aeT {l:List aA} (h:cA l=true):aC (bX l)=(l,true):=by
 rw [bX,lF h]
 split
 ·rename_i e; subst e; rw [aC,lF rfl]
 ·rename_i e; exact aeS h e
theorem m8 {s:aA} (h:(aC s).2=true):cA (aC s).1=true∧bX (aC s).1=s:=by
 unfold aC at h ⊢
 split
 ·rename_i e; subst e; exact ⟨by decide,by decide⟩
 ·rename_i hs
  rw [lI hs] at h
  cases e:yC (bJ s) with
  | none=>rw [e] at h; exact absurd h (by simp)
  | some l=>
   rw [e] at h
   simp only at h ⊢
   by_cases hn:cA l=true
   ·rw [lF hn]
    refine ⟨hn,?_⟩
    show bX l=s
    cases e2:bJ s with
    | nil=>rw [e2] at e; exact absurd e (by simp [yC])
    | cons a t=>
     obtain ⟨i1,_⟩:=aeR s a t e2
     rw [e2] at e
     cases a with
     | cons c a=>exact absurd e (by simp [yC])
     | nil=>
      cases t with
      | nil=>exact absurd e (by simp [yC])
      | cons m t=>
       simp only [yC,Option.some.injEq] at e
       subst e
       rw [bX,lF hn,lI (by simp),i1,lI1]
   ·rw [lI hn] at h; exact absurd h (by simp)
theorem agh {s:aA} (h:(aC s).2=false):aC s=([],false):=by
 unfold aC at h ⊢
 split
 ·rename_i e; rw [lF e] at h; exact absurd h (by simp)
 ·rename_i hs
  rw [lI hs] at h
  cases e:yC (bJ s) with
  | none=>rfl
  | some l=>
   rw [e] at h
   simp only at h ⊢
   by_cases hn:cA l=true
   ·rw [lF hn] at h; exact absurd h (by simp)
   ·rw [lI hn]
theorem acP {l:List aA} (h:cA l=true) (n:Nat):cA (l.take n)=true:=by
 obtain ⟨h1,h2⟩:=l9 h
 exact o9 (by rw [lT]; omega) fun m hm=>h2 m (List.take_subset _ _ hm)
theorem nO {l:List aA} (h:cA l=true):cA l.dropLast=true:=by
 rw [List.dropLast_eq_take]; exact acP h _
theorem zS {s:aA} (h:(aC s).2=true):(aC s).1=[]↔s=[47]:=by
 constructor
 ·intro e
  have:=(m8 h).2
  rw [e] at this
  rw [← this]; decide
 ·intro e; rw [e]; decide
theorem acQ (s:aA):(aJ s).2.2=true↔(aC s).2=true∧(aC s).1≠[]:=by
 unfold aJ
 split
 ·rename_i h; exact ⟨fun _=>h,fun _=>rfl⟩
 ·rename_i h; exact ⟨fun h'=>absurd h' (by simp),fun h'=>absurd h' h⟩
theorem aj5 {s:aA} (h:(aC s).2=true) (hne:(aC s).1≠[]) :
  aJ s=(bX (aC s).1.dropLast,(aC s).1.getLastD [],true)∧aC (bX (aC s).1.dropLast)=((aC s).1.dropLast,true):=by
 refine ⟨by rw [aJ,lF ⟨h,hne⟩],aeT (nO (m8 h).1)⟩
theorem wZ {l m:List aA} (hl:∀ n ∈ l,aY n=true) (hm:∀ n ∈ m,aY n=true) (h:c6 l=c6 m):l=m:=by
 have e1:=qG l (fun n hn=>tA (hl n hn)) [] (by simp)
 have e2:=qG m (fun n hn=>tA (hm n hn)) [] (by simp)
 rw [lI1] at e1 e2
 rw [h,e2] at e1
 injection e1 with _ e1
 exact e1.symm
def bE (x:Inode) (n:aA):Int:=((x.ents.find? fun e=>decide (e.name=n)).map Ent.ino).getD 0
def aD (t:Tab) (i:Int):Option Inode:=t.inodes.find? fun x=>decide (x.ino=i)
def fG (x:Inode):List Int:=if x.kind=2 then x.ents.map Ent.ino else []
def nbT (t:Tab) (i:Int):Option (List Int):=(aD t i).map fG
def eP (t:Tab):List Int:=rQ (nbT t) t.inodes.length
def bD (t:Tab) (i:Int):Nat:=(t.inodes.map fun x=>(fG x).count i).sum
def jT (t:Tab):List aA→Int→Int × Int
 | [],i=>(i,0)
 | n::l,i=>match aD t i with
  | none=>(0,2)
  | some x=>if x.kind=2 then (if bE x n=0 then (0,2) else jT t l (bE x n)) else (0,3)
def pA (t:Tab) (s:aA):Int × Int:=if (aC s).2=true then jT t (aC s).1 1 else (0,1)
structure EntsOk (l:List Ent):Prop where
 len:l.length≤10
 ok:∀ e ∈ l,aY e.name=true∧2≤e.ino∧e.ino≤1000
 up:l.Pairwise fun a b=>a.name<b.name
structure AttrsOk (l:List Attr):Prop where
 len:l.length≤4
 ok:∀ a ∈ l,aY a.name=true∧1≤a.val.length∧a.val.length≤16
 up:l.Pairwise fun a b=>a.name<b.name
structure InodeOk (x:Inode):Prop where
 ino:1≤x.ino∧x.ino≤1000
 links:0≤x.links∧x.links≤1000
 root:x.links=0↔x.ino=1
 data:x.data.length≤100
 ents:EntsOk x.ents
 attrs:AttrsOk x.attrs
 kind:(x.kind=1∧x.ents=[])∨(x.kind=2∧x.data=[]∧x.links≤1)
structure TabOk (t:Tab):Prop where
 len:t.inodes.length≤30
 next:2≤t.next∧t.next≤1000
 ok:∀ x ∈ t.inodes,InodeOk x∧x.ino<t.next
 up:t.inodes.Pairwise fun a b=>a.ino<b.ino
 root:∃ x,aD t 1=some x∧x.kind=2
structure TreeOk (t:Tab):Prop where
 tab:TabOk t
 reach:(eP t).length=t.inodes.length
 links:∀ x ∈ t.inodes,((bD t x.ino:Nat):Int)=x.links
 there:∀ x ∈ t.inodes,∀ e ∈ x.ents,(aD t e.ino).isSome=true
theorem aK {t:Tab} {i:Int} {x:Inode} (h:aD t i=some x):x ∈ t.inodes∧x.ino=i:=by
 refine ⟨List.mem_of_find?_eq_some h,?_⟩
 have:=List.find?_some h
 simpa using this
theorem acR {t:Tab} (h:t.inodes.Pairwise fun a b=>a.ino<b.ino) {x:Inode} (hx:x ∈ t.inodes):aD t x.ino=some x:=by
 unfold aD
 generalize t.inodes=l at *
 induction l with
 | nil=>exact absurd hx (by simp)
 | cons y l ih=>
  obtain ⟨a1,a2⟩:=lD1.1 h
  rcases lG.1 hx with rfl | hx
  ·rw [lO1 (by simp)]
  ·rw [lE1 (by have:=a1 x hx; simp; omega)]
   exact ih a2 hx
theorem ahT {t:Tab} (h:t.inodes.Pairwise fun a b=>a.ino<b.ino):(t.inodes.map Inode.ino).Nodup:=by
 rw [List.Nodup,lT4]
 exact h.imp fun h=>by omega
theorem pB (t:Tab):∀ l:List Int,l.Nodup→(∀ x ∈ l,(nbT t x).isSome=true)→l.length≤t.inodes.length:=by
 intro l hl hs
 have:=rO (m:=t.inodes.map Inode.ino) hl fun x hx=>by
  have:=hs x hx
  cases e:aD t x with
  | none=>rw [nbT,e] at this; exact absurd this (by simp)
  | some y=>obtain ⟨h1,h2⟩:=aK e; exact lZ1.2 ⟨y,h1,h2⟩
 simpa using this
theorem m9 (t:Tab) (i:Int):i ∈ eP t↔Reach (nbT t) i:=zR _ (pB t) i
theorem ahU {l m:List Int} (hl:l.Nodup) (hs:∀ x ∈ l,x ∈ m) (he:m.length≤l.length):∀ x ∈ m,x ∈ l:=by
 intro x hx
 apply Classical.byContradiction
 intro hn
 have:=rO (l:=x::l) (m:=m) (lZ4.2 ⟨hn,hl⟩) fun y hy=>by
  rcases lG.1 hy with rfl | hy
  ·exact hx
  ·exact hs y hy
 simp only [lW] at this
 omega
theorem aeU {t:Tab} (h:TreeOk t):∀ x ∈ t.inodes,Reach (nbT t) x.ino:=by
 intro x hx
 rw [← m9]
 refine ahU (m:=t.inodes.map Inode.ino) (rP (wW _ _)) (fun i hi=>?_) (by have:=h.reach; unfold eP at this; rw [this,List.length_map]; exact Nat.le_refl _) _ (List.mem_map.2 ⟨x,hx,rfl⟩)
 have:=l8 _ ((m9 t i).1 hi)
 cases e:aD t i with
 | none=>rw [nbT,e] at this; exact absurd this (by simp)
 | some y=>obtain ⟨h1,h2⟩:=aK e; exact lZ1.2 ⟨y,h1,h2⟩
theorem acS {t:Tab} (hu:t.inodes.Pairwise fun a b=>a.ino<b.ino) (h:∀ x ∈ t.inodes,Reach (nbT t) x.ino):(eP t).length=t.inodes.length:=by
 apply Nat.le_antisymm
 ·refine pB t _ (rP (wW _ _)) fun x hx=>l8 _ ((m9 t x).1 hx)
 ·have:=rO (l:=t.inodes.map Inode.ino) (m:=eP t) (ahT hu) fun i hi=>by
   obtain ⟨x,hx,rfl⟩:=lZ1.1 hi
   exact (m9 t _).2 (h x hx)
  simpa using this
abbrev IM:=Int→Option Inode
def aT (M:IM):List aA→Int→Option Int
 | [],i=>some i
 | n::l,i=>match M i with
  | none=>none
  | some x=>if x.kind=2∧bE x n≠0 then aT M l (bE x n) else none
theorem aom (t:Tab) (l:List aA):∀ i j,jT t l i=(j,0)↔aT (aD t) l i=some j:=by
 induction l with
 | nil=>intro i j; simp [jT,aT]
 | cons n l ih=>
  intro i j
  rw [jT,aT]
  cases aD t i with
  | none=>simp
  | some x=>
   simp only
   by_cases hk:x.kind=2
   ·by_cases he:bE x n=0
    ·rw [lF hk,lF he,lI (by simp [he])]; simp
    ·rw [lF hk,lI he,lF ⟨hk,he⟩]; exact ih _ _
   ·rw [lI hk,lI (by simp [hk])]; simp
theorem cK (M:IM) (a b:List aA):∀ i,aT M (a++b) i=(aT M a i).bind fun j=>aT M b j:=by
 induction a with
 | nil=>intro i; simp [aT]
 | cons n a ih=>
  intro i
  rw [lW1,aT,aT]
  cases M i with
  | none=>rfl
  | some x=>
   simp only
   split
   ·exact ih _
   ·rfl
theorem f9 (M:IM) (n:aA) (i j:Int):aT M [n] i=some j↔∃ x,M i=some x∧x.kind=2∧bE x n=j∧j≠0:=by
 rw [aT]
 cases M i with
 | none=>simp
 | some x=>
  simp only [aT]
  constructor
  ·intro h
   split at h
   ·rename_i hc
    injection h with h
    subst h
    exact ⟨x,rfl,hc.1,rfl,hc.2⟩
   ·exact absurd h (by simp)
  ·rintro ⟨y,hy,h1,h2,h3⟩
   injection hy with hy
   subst hy
   subst h2
   rw [lF ⟨h1,h3⟩]
theorem tB {x:Inode} {n:aA} (h:bE x n≠0):∃ e ∈ x.ents,e.name=n∧e.ino=bE x n:=by
 unfold bE at h ⊢
 cases e:x.ents.find? fun e=>decide (e.name=n) with
 | none=>rw [e] at h; exact absurd rfl h
 | some y=>exact ⟨y,List.mem_of_find?_eq_some e,by simpa using List.find?_some e,by simp⟩
theorem dY {x:Inode} (hu:x.ents.Pairwise fun a b=>a.name<b.name) {e:Ent} (he:e ∈ x.ents):bE x e.name=e.ino:=by
 unfold bE
 generalize x.ents=l at *
 induction l with
 | nil=>exact absurd he (by simp)
 | cons y l ih=>
  obtain ⟨a1,a2⟩:=lD1.1 hu
  rcases lG.1 he with rfl | he
  ·rw [lO1 (by simp)]; rfl
  ·rw [lE1 ?_]
   ·exact ih a2 he
   ·have:=a1 e he
    simp only [decide_eq_true_eq]
    intro hc
    rw [hc] at this
    exact absurd this (lB4 _)
theorem aeV {x:Inode} {n:aA} (h:∀ e ∈ x.ents,e.ino≠0):bE x n=0↔∀ e ∈ x.ents,e.name≠n:=by
 constructor
 ·intro h0 e he hn
  unfold bE at h0
  cases hf:x.ents.find? fun e=>decide (e.name=n) with
  | none=>exact absurd hn (by simpa using List.find?_eq_none.1 hf e he)
  | some y=>rw [hf] at h0; exact h y (List.mem_of_find?_eq_some hf) (by simpa using h0)
 ·intro hn
  apply Classical.byContradiction
  intro hc
  obtain ⟨e,he,h1,_⟩:=tB hc
  exact hn e he h1
section
theorem mA {α:Type} (f:α→Nat) (l:List α) {p:α} (hp:p ∈ l):f p≤(l.map f).sum:=by
 induction l with
 | nil=>exact absurd hp (by simp)
 | cons x l ih=>
  rw [lO,lC2]
  rcases lG.1 hp with rfl | hp
  ·omega
  ·have:=ih hp; omega
theorem zT {α:Type} (f:α→Nat) (l:List α) {p q:α} (hp:p ∈ l) (hq:q ∈ l) (hne:p≠q):f p+f q≤(l.map f).sum:=by
 induction l with
 | nil=>exact absurd hp (by simp)
 | cons x l ih=>
  rw [lO,lC2]
  rcases lG.1 hp with rfl | hp'
  ·rcases lG.1 hq with rfl | hq'
   ·exact absurd rfl hne
   ·have:=mA f l hq'; omega
  ·rcases lG.1 hq with rfl | hq'
   ·have:=mA f l hp'; omega
   ·have:=ih hp' hq'; omega
theorem aj6 (l:List Ent) (i:Int):(l.map Ent.ino).count i=(l.map fun e=>if e.ino=i then 1 else 0).sum:=by
 induction l with
 | nil=>rfl
 | cons e l ih=>
  rw [lO,lO,lC2,List.count_cons,ih]
  by_cases h:e.ino=i <;> simp [h] <;> omega
theorem aon {α:Type} (f:α→Nat) (l:List α) (h:0<(l.map f).sum):∃ x ∈ l,0<f x:=by
 induction l with
 | nil=>exact absurd h (by simp)
 | cons x l ih=>
  rw [lO,lC2] at h
  by_cases hx:0<f x
  ·exact ⟨x,by simp,hx⟩
  ·obtain ⟨y,hy,h'⟩:=ih (by omega)
   exact ⟨y,by simp [hy],h'⟩
variable {t:Tab}
theorem bO (h:TreeOk t) {x:Inode} (hx:x ∈ t.inodes):EntsOk x.ents:=(h.tab.ok x hx).1.ents
theorem qH (h:TreeOk t) {x:Inode} (hx:x ∈ t.inodes):∀ e ∈ x.ents,e.ino≠0:=fun e he=>by have:=((bO h hx).ok e he).2.1; omega
theorem fV (h:TreeOk t) {x:Inode} (hx:x ∈ t.inodes):aD t x.ino=some x:=acR h.tab.up hx
theorem oL (h:TreeOk t) {x:Inode} (hx:x ∈ t.inodes) (hk:x.kind=2):x.links≤1:=by
 rcases (h.tab.ok x hx).1.kind with ⟨h1,_⟩ | ⟨_,_,h1⟩
 ·omega
 ·exact h1
theorem mB (h:TreeOk t) {x:Inode} (hx:x ∈ t.inodes) (hk:x.kind≠2):x.ents=[]∧x.kind=1:=by
 rcases (h.tab.ok x hx).1.kind with ⟨h1,h2⟩ | ⟨h1,_⟩
 ·exact ⟨h2,h1⟩
 ·exact absurd h1 hk
theorem aeW (h:TreeOk t) {x p q:Inode} (hx:x ∈ t.inodes) (hl:x.links≤1) (hp:p ∈ t.inodes) (hq:q ∈ t.inodes) (kp:p.kind=2) (kq:q.kind=2)
  {e f:Ent} (he:e ∈ p.ents) (hf:f ∈ q.ents) (e1:e.ino=x.ino) (f1:f.ino=x.ino):p=q∧e=f:=by
 have hs:bD t x.ino≤1:=by have:=h.links x hx; omega
 have cp:∀ y:Inode,y.kind=2→(fG y).count x.ino=(y.ents.map fun e=>if e.ino=x.ino then 1 else 0).sum:=fun y hy=>by rw [fG,lF hy,aj6]
 have one:∀ (y:Inode) (g:Ent),y.kind=2→g ∈ y.ents→g.ino=x.ino→1≤(fG y).count x.ino:=fun y g hy hg hi=>by
  rw [cp y hy]
  have:=mA (fun e:Ent=>if e.ino=x.ino then 1 else 0) y.ents hg
  simpa [hi] using this
 have epq:p=q:=by
  apply Classical.byContradiction
  intro hne
  have:=zT (fun y:Inode=>(fG y).count x.ino) t.inodes hp hq hne
  have a:=one p e kp he e1
  have b:=one q f kq hf f1
  unfold bD at hs
  omega
 subst epq
 refine ⟨rfl,?_⟩
 apply Classical.byContradiction
 intro hne
 have a:=zT (fun e:Ent=>if e.ino=x.ino then 1 else 0) p.ents he hf hne
 have b:=mA (fun y:Inode=>(fG y).count x.ino) t.inodes hp
 have c:=cp p kp
 simp only [e1,f1,lQ] at a
 unfold bD at hs
 omega
theorem cR (h:TreeOk t):∃ x,aD t 1=some x∧x.kind=2∧x ∈ t.inodes:=by
 obtain ⟨x,h1,h2⟩:=h.tab.root
 exact ⟨x,h1,h2,(aK h1).1⟩
theorem mC (_:TreeOk t) {a:List aA} {n:aA} {i j:Int} (hw:aT (aD t) (a++[n]) i=some j) :
  ∃ p y e,aT (aD t) a i=some p∧aD t p=some y∧y ∈ t.inodes∧y.ino=p∧y.kind=2∧e ∈ y.ents∧e.name=n∧e.ino=j:=by
 rw [cK] at hw
 cases ha:aT (aD t) a i with
 | none=>rw [ha] at hw; exact absurd hw (by simp)
 | some p=>
  rw [ha] at hw
  obtain ⟨y,h1,h2,h3,h4⟩:=(f9 _ n p j).1 hw
  obtain ⟨hy1,hy2⟩:=aK h1
  obtain ⟨e,he,e1,e2⟩:=tB (x:=y) (n:=n) (by rw [h3]; exact h4)
  exact ⟨p,y,e,rfl,h1,hy1,hy2,h2,he,e1,by rw [e2,h3]⟩
theorem zU (h:TreeOk t) {l:List aA} {i:Int} (hw:aT (aD t) l 1=some i):∃ x,aD t i=some x∧x ∈ t.inodes∧x.ino=i:=by
 rcases lZ2 l with rfl | ⟨a,n,rfl⟩
 ·simp only [aT,Option.some.injEq] at hw
  subst hw
  obtain ⟨x,h1,_,h3⟩:=cR h
  exact ⟨x,h1,h3,(aK h1).2⟩
 ·rw [lA3] at hw
  obtain ⟨p,y,e,_,_,hy,_,_,he,_,e2⟩:=mC h hw
  have:=h.there y hy e he
  rw [e2] at this
  obtain ⟨x,hx⟩:=lZ.1 this
  exact ⟨x,hx,(aK hx).1,(aK hx).2⟩
theorem qI (h:TreeOk t):∀ (l l':List aA) (i:Int) (x:Inode),aD t i=some x→x.links≤1→aT (aD t) l 1=some i→aT (aD t) l' 1=some i→l=l':=by
 have noroot:∀ (a:List aA) (n:aA),aT (aD t) (a++[n]) 1≠some 1:=by
  intro a n hw
  obtain ⟨p,y,e,_,_,hy,_,_,he,_,e2⟩:=mC h hw
  have:=((bO h hy).ok e he).2.1
  omega
 suffices ∀ (k:Nat) (l l':List aA) (i:Int) (x:Inode),l.length=k→aD t i=some x→x.links≤1→aT (aD t) l 1=some i→aT (aD t) l' 1=some i→l=l' from
  fun l l' i x=>this l.length l l' i x rfl
 intro k
 induction k with
 | zero=>
  intro l l' i x hk hx hl h1 h2
  have:l=[]:=lQ1.1 hk
  subst this
  simp only [aT,Option.some.injEq] at h1
  subst h1
  rcases lZ2 l' with rfl | ⟨b,m,rfl⟩
  ·rfl
  ·rw [lA3] at h2; exact absurd h2 (noroot b m)
 | succ k ih=>
  intro l l' i x hk hx hl h1 h2
  rcases lZ2 l with rfl | ⟨a,n,rfl⟩
  ·exact absurd hk (by simp)
  rw [lA3] at h1 hk ⊢
  rcases lZ2 l' with rfl | ⟨b,m,rfl⟩
  ·simp only [aT,Option.some.injEq] at h2
   subst h2
   exact absurd h1 (noroot a n)
  rw [lA3] at h2 ⊢
  obtain ⟨p,y,e,w1,y1,y2,y3,y4,e1,e2,e3⟩:=mC h h1
  obtain ⟨q,z,f,w2,z1,z2,z3,z4,f1,f2,f3⟩:=mC h h2
  obtain ⟨hx1,hx2⟩:=aK hx
  obtain ⟨r1,r2⟩:=aeW h hx1 hl y2 z2 y4 z4 e1 f1 (by rw [e3,hx2]) (by rw [f3,hx2])
  subst r1; subst r2
  rw [← e2,← f2]
  have:=ih a b p y (by simpa using hk) y1 (oL h y2 y4) w1 (by rw [← y3,z3]; exact w2)
  rw [this]
theorem gR (h:TreeOk t) {x:Inode} (hx:x ∈ t.inodes):∃ l,aT (aD t) l 1=some x.ino:=by
 have key:∀ i,Reach (nbT t) i→∃ l,aT (aD t) l 1=some i:=by
  intro i hr
  induction hr with
  | root _=>exact ⟨[],rfl⟩
  | step i j js hi hl hj hs ih=>
   obtain ⟨l,hl'⟩:=ih
   unfold nbT at hl
   cases e:aD t i with
   | none=>rw [e] at hl; exact absurd hl (by simp)
   | some y=>
    rw [e] at hl
    simp only [lC,Option.some.injEq] at hl
    obtain ⟨hy1,hy2⟩:=aK e
    by_cases hk:y.kind=2
    ·rw [fG,lF hk] at hl
     subst hl
     obtain ⟨g,hg,rfl⟩:=lZ1.1 hj
     refine ⟨l++[g.name],?_⟩
     rw [cK,hl']
     exact (f9 _ _ _ _).2 ⟨y,e,hk,dY (bO h hy1).up hg,qH h hy1 g hg⟩
    ·rw [fG,lI hk] at hl
     subst hl
     exact absurd hj (by simp)
 exact key _ (aeU h x hx)
theorem aba (h:∀ l i,aT (aD t) l 1=some i→(aD t i).isSome=true):∀ l i,aT (aD t) l 1=some i→Reach (nbT t) i:=by
 suffices ∀ (k:Nat) (l:List aA) (i:Int),l.length=k→aT (aD t) l 1=some i→Reach (nbT t) i from fun l i=>this l.length l i rfl
 have nbs:∀ i,(aD t i).isSome=true→(nbT t i).isSome=true:=fun i hi=>by unfold nbT; simpa using hi
 intro k
 induction k with
 | zero=>
  intro l i hk hw
  have:l=[]:=lQ1.1 hk
  subst this
  have:=h [] i hw
  simp only [aT,Option.some.injEq] at hw
  subst hw
  exact .root (nbs _ this)
 | succ k ih=>
  intro l i hk hw
  rcases lZ2 l with rfl | ⟨a,n,rfl⟩
  ·exact absurd hk (by simp)
  rw [lA3] at hw hk
  have hs:=h _ i hw
  rw [cK] at hw
  cases ha:aT (aD t) a 1 with
  | none=>rw [ha] at hw; exact absurd hw (by simp)
  | some p=>
   rw [ha] at hw
   obtain ⟨y,h1,h2,h3,h4⟩:=(f9 _ n p i).1 hw
   obtain ⟨e,he,e1,e2⟩:=tB (x:=y) (n:=n) (by rw [h3]; exact h4)
   refine .step p i (y.ents.map Ent.ino) (ih a p (by simpa using hk) ha) (by rw [nbT,h1]; simp [fG,h2]) ?_ (nbs i hs)
   exact lZ1.2 ⟨e,he,by rw [e2,h3]⟩
theorem jC (h:TreeOk t) {l:List aA} {i:Int} (hw:aT (aD t) l 1=some i):l.length<t.inodes.length∧∀ n ∈ l,aY n=true:=by
 have pre:∀ k,∃ j,k≤l.length→aT (aD t) (l.take k) 1=some j:=by
  intro k
  by_cases hk:k≤l.length
  ·have:=hw
   rw [← lK k l,cK] at this
   cases e:aT (aD t) (l.take k) 1 with
   | none=>rw [e] at this; exact absurd this (by simp)
   | some j=>exact ⟨j,fun _=>rfl⟩
  ·exact ⟨0,fun h=>absurd h hk⟩
 obtain ⟨f,hf⟩:=Classical.axiomOfChoice pre
 have stepd:∀ k,k<l.length→∃ y e,aD t (f k)=some y∧y ∈ t.inodes∧y.kind=2∧e ∈ y.ents∧l[k]?=some e.name:=by
  intro k hk
  have h1:=hf (k+1) (by omega)
  rw [lR hk] at h1
  obtain ⟨p,y,e,w1,y1,y2,_,y4,e1,e2,_⟩:=mC h h1
  have h0:=hf k (by omega)
  rw [h0] at w1
  injection w1 with w1
  subst w1
  exact ⟨y,e,y1,y2,y4,e1,by rw [lJ hk,e2]⟩
 refine ⟨?_,fun n hn=>?_⟩
 ·have hlen:((List.range (l.length+1)).map f).length≤t.inodes.length:=by
   refine pB t _ ?_ ?_
   ·rw [List.Nodup,lT4]
    refine List.Pairwise.imp_of_mem ?_ (List.pairwise_lt_range (n:=l.length+1))
    intro a b ha hb hab hc
    have hb':=List.mem_range.1 hb
    obtain ⟨y,_,y1,y2,y4,_⟩:=stepd a (by omega)
    have:=qI h (l.take a) (l.take b) (f a) y y1 (oL h y2 y4) (hf a (by omega)) (by rw [hc]; exact hf b (by omega))
    have:=congrArg List.length this
    simp only [lT] at this
    omega
   ·intro x hx
    obtain ⟨k,hk,rfl⟩:=lZ1.1 hx
    have hk:=List.mem_range.1 hk
    obtain ⟨y,y1,_⟩:=zU h (hf k (by omega))
    rw [nbT,y1]; rfl
  simp only [lB1,List.length_range] at hlen
  omega
 ·obtain ⟨k,hk,rfl⟩:=List.mem_iff_getElem.1 hn
  obtain ⟨y,e,_,y2,_,e1,e2⟩:=stepd k hk
  rw [lJ hk] at e2
  injection e2 with e2
  rw [e2]
  exact ((bO h y2).ok e e1).1
end
section
def cT (s:Int→aA→Option Int):List aA→Int→Option Int
 | [],i=>some i
 | n::l,i=>(s i n).bind (cT s l)
def cB (M:IM) (i:Int) (n:aA):Option Int:=match M i with
 | none=>none
 | some x=>if x.kind=2∧bE x n≠0 then some (bE x n) else none
theorem cU (M:IM) (l:List aA):∀ i,aT M l i=cT (cB M) l i:=by
 induction l with
 | nil=>intro i; rfl
 | cons n l ih=>
  intro i
  rw [aT,cT,cB]
  cases M i with
  | none=>rfl
  | some x=>
   simp only
   split
   ·exact ih _
   ·rfl
section
variable {s s':Int→aA→Option Int}
theorem dK (a b:List aA):∀ i,cT s (a++b) i=(cT s a i).bind fun j=>cT s b j:=by
 induction a with
 | nil=>intro i; simp [cT]
 | cons n a ih=>
  intro i
  rw [lW1,cT,cT]
  cases s i n with
  | none=>rfl
  | some j=>exact ih j
theorem acT {D:Int} {n:aA} (hs:∀ i m,i≠D∨m≠n→s' i m=s i m):∀ (l:List aA) (i:Int),(∀ a b,l=a++n::b→cT s a i≠some D)→cT s' l i=cT s l i:=by
 intro l
 induction l with
 | nil=>intro i _; rfl
 | cons m l ih=>
  intro i h
  rw [cT,cT]
  have e:s' i m=s i m:=by
   apply hs
   by_cases hm:m=n
   ·left
    rintro rfl
    exact h [] l (by rw [hm]; rfl) rfl
   ·exact .inr hm
  rw [e]
  cases hc:s i m with
  | none=>rfl
  | some j=>
   show cT s' l j=cT s l j
   refine ih j fun a b hl hw=>h (m::a) b (by rw [hl]; rfl) ?_
   rw [cT,hc]; exact hw
theorem fN {D:Int} {n:aA} {d:List aA} (hs:∀ i m,i≠D∨m≠n→s' i m=s i m) (hu:∀ a,cT s a 1=some D→a=d) {l:List aA} (hp:¬ (d++[n]) <+: l) :
  cT s' l 1=cT s l 1:=by
 refine acT hs l 1 fun a b hl hw=>hp ?_
 rw [← hu a hw]
 exact ⟨b,by rw [hl]; simp⟩
theorem aj7 {D:Int} {n:aA} {d:List aA} (hs:∀ i m,i≠D∨m≠n→s' i m=s i m) (hu:∀ a,cT s a 1=some D→a=d) (hd:cT s d 1=some D):cT s' d 1=some D:=by
 rw [fN hs hu ?_,hd]
 rintro ⟨b,hb⟩
 have:=congrArg List.length hb
 simp at this
theorem rS {D:Int} {n:aA} {d:List aA} (hs:∀ i m,i≠D∨m≠n→s' i m=s i m) (hu:∀ a,cT s a 1=some D→a=d) (hd:cT s d 1=some D) (b:List aA) :
  cT s' (d++n::b) 1=(s' D n).bind (cT s' b):=by
 rw [dK,aj7 hs hu hd]; rfl
theorem w9 {D:Int} {n:aA} (hs:∀ i m,i≠D∨m≠n→s' i m=s i m) {j:Int} (hj:∀ a,cT s a j≠some D) (b:List aA):cT s' b j=cT s b j:=
 acT hs b j fun a _ _=>hj a
end
def bR:List Inode→Inode→List Inode
 | [],x=>[x]
 | y::l,x=>if y.ino=x.ino then x::l else if x.ino<y.ino then x::y::l else y::bR l x
def aH (t:Tab) (x:Inode):Tab:={ inodes:=bR t.inodes x,next:=t.next }
def fC (t:Tab) (i:Int):Tab:={ inodes:=t.inodes.filter fun x=>decide (x.ino≠i),next:=t.next }
abbrev UpI (l:List Inode):Prop:=l.Pairwise fun a b=>a.ino<b.ino
theorem zV {l:List Inode} {x y:Inode} (h:y ∈ bR l x):y=x∨y ∈ l:=by
 induction l with
 | nil=>simpa [bR] using h
 | cons z l ih=>
  rw [bR] at h
  split at h
  ·rcases lG.1 h with h | h
   ·exact .inl h
   ·exact .inr (by simp [h])
  ·split at h
   ·rcases lG.1 h with h | h
    ·exact .inl h
    ·exact .inr h
   ·rcases lG.1 h with h | h
    ·exact .inr (by simp [h])
    ·rcases ih h with h | h
     ·exact .inl h
     ·exact .inr (by simp [h])
theorem aj8 {l:List Inode} (h:UpI l) (x:Inode):UpI (bR l x):=by
 induction l with
 | nil=>simp [bR,UpI]
 | cons y l ih=>
  obtain ⟨a1,a2⟩:=lD1.1 h
  rw [bR]
  split
  ·rename_i e
   exact lD1.2 ⟨fun z hz=>by have:=a1 z hz; omega,a2⟩
  ·split
   ·rename_i e1 e2
    refine lD1.2 ⟨fun z hz=>?_,h⟩
    rcases lG.1 hz with rfl | hz
    ·exact e2
    ·have:=a1 z hz; omega
   ·rename_i e1 e2
    refine lD1.2 ⟨fun z hz=>?_,ih a2⟩
    rcases zV hz with rfl | hz
    ·omega
    ·exact a1 z hz
theorem aeX {l:List Inode} (h:UpI l) (x:Inode) (j:Int) :
  (bR l x).find? (fun y=>decide (y.ino=j))=if x.ino=j then some x else l.find? fun y=>decide (y.ino=j):=by
 induction l with
 | nil=>
  rw [bR]
  by_cases e:x.ino=j <;> simp [e]
 | cons y l ih=>
  obtain ⟨a1,a2⟩:=lD1.1 h
  have nl:∀ k,k≤y.ino→l.find? (fun z=>decide (z.ino=k))=none:=fun k hk=>by
   rw [List.find?_eq_none]
   intro z hz
   have:=a1 z hz
   simp; omega
  rw [bR]
  split
  ·rename_i e
   by_cases hj:x.ino=j
   ·rw [lO1 (by simpa using hj),lF hj]
   ·rw [lE1 (by simpa using hj),lI hj,lE1 (by simp; omega)]
  ·split
   ·rename_i e1 e2
    by_cases hj:x.ino=j
    ·rw [lO1 (by simpa using hj),lF hj]
    ·rw [lE1 (by simpa using hj),lI hj]
   ·rename_i e1 e2
    by_cases hy:y.ino=j
    ·rw [lO1 (by simpa using hy),lI (by omega),lO1 (by simpa using hy)]
    ·rw [lE1 (by simpa using hy),ih a2,lE1 (by simpa using hy)]
theorem cE {t:Tab} (h:UpI t.inodes) (x:Inode) (j:Int):aD (aH t x) j=if x.ino=j then some x else aD t j:=aeX h x j
theorem gA {t:Tab} (h:UpI t.inodes) (x:Inode):UpI (aH t x).inodes:=aj8 h x
theorem aoo {t:Tab} (h:UpI t.inodes) (i:Int):UpI (fC t i).inodes:=h.filter _
theorem ahV {t:Tab} (i j:Int):aD (fC t i) j=if i=j then none else aD t j:=by
 unfold aD fC
 simp only
 generalize t.inodes=l
 induction l with
 | nil=>simp
 | cons y l ih=>
  rw [lN4]
  by_cases hy:y.ino=i
  ·rw [lI (by simp [hy]),ih]
   by_cases hj:i=j
   ·rw [lF hj,lF hj]
   ·rw [lI hj,lI hj,lE1 (by simp; omega)]
  ·rw [lF (by simp [hy])]
   by_cases hj:y.ino=j
   ·rw [lO1 (by simpa using hj),lI (by omega),lO1 (by simpa using hj)]
   ·rw [lE1 (by simpa using hj),ih,lE1 (by simpa using hj)]
theorem aj9 (f:Inode→Nat) {l:List Inode} (h:UpI l) (x:Inode) :
  ((bR l x).map f).sum+((l.find? fun y=>decide (y.ino=x.ino)).map f).getD 0=(l.map f).sum+f x:=by
 induction l with
 | nil=>simp [bR]
 | cons y l ih=>
  obtain ⟨a1,a2⟩:=lD1.1 h
  have nl:∀ k,k≤y.ino→l.find? (fun z=>decide (z.ino=k))=none:=fun k hk=>by
   rw [List.find?_eq_none]
   intro z hz
   have:=a1 z hz
   simp; omega
  rw [bR]
  split
  ·rename_i e
   rw [lO1 (by simpa using e)]
   simp only [lO,lC2,lC,lY]
   omega
  ·split
   ·rename_i e1 e2
    rw [lE1 (by simpa using e1),nl x.ino (by omega)]
    simp only [lO,lC2,lS,Option.getD_none]
    omega
   ·rename_i e1 e2
    rw [lE1 (by simpa using e1)]
    have:=ih a2
    simp only [lO,lC2]
    omega
theorem agi (f:Inode→Nat) {l:List Inode} (h:UpI l) (i:Int) :
  ((l.filter fun x=>decide (x.ino≠i)).map f).sum+((l.find? fun y=>decide (y.ino=i)).map f).getD 0=(l.map f).sum:=by
 induction l with
 | nil=>simp
 | cons y l ih=>
  obtain ⟨a1,a2⟩:=lD1.1 h
  by_cases e:y.ino=i
  ·rw [lN4,lI (by simp [e]),lO1 (by simpa using e)]
   have:l.filter (fun x=>decide (x.ino≠i))=l:=by
    rw [List.filter_eq_self]
    intro z hz
    have:=a1 z hz
    simp; omega
   rw [this]
   simp only [lO,lC2,lC,lY]
   omega
  ·rw [lN4,lF (by simp [e]),lE1 (by simpa using e)]
   have:=ih a2
   simp only [lO,lC2]
   omega
theorem kI {l:List Inode} (h:UpI l) (x:Inode):(bR l x).length+(if (l.find? fun y=>decide (y.ino=x.ino)).isSome then 1 else 0)=l.length+1:=by
 have:=aj9 (fun _=>1) h x
 have e:∀ l:List Inode,(l.map fun _=>1).sum=l.length:=fun l=>by induction l with
  | nil=>rfl
  | cons y l ih=>rw [lO,lC2,ih,lW]; omega
 rw [e,e] at this
 cases hf:l.find? fun y=>decide (y.ino=x.ino) with
 | none=>rw [hf] at this; simpa using this
 | some y=>rw [hf] at this; simpa using this
theorem gB {t:Tab} (h:UpI t.inodes) (x:Inode) (i:Int):bD (aH t x) i+((aD t x.ino).map fun y=>(fG y).count i).getD 0=bD t i+(fG x).count i:=aj9 _ h x
theorem ahW {t:Tab} (h:UpI t.inodes) (k i:Int):bD (fC t k) i+((aD t k).map fun y=>(fG y).count i).getD 0=bD t i:=agi _ h k
theorem rT {t:Tab} (h:UpI t.inodes) (x:Inode):x ∈ t.inodes↔aD t x.ino=some x:=⟨acR h,fun e=>(aK e).1⟩
theorem aop {t u:Tab} (ht:UpI t.inodes) (hu:UpI u.inodes) (hn:t.next=u.next) (h:∀ i,aD t i=aD u i):t=u:=by
 have key:∀ (l m:List Inode),UpI l→UpI m→(∀ x,x ∈ l↔x ∈ m)→l=m:=by
  intro l
  induction l with
  | nil=>
   intro m _ _ h
   cases m with
   | nil=>rfl
   | cons y m=>exact absurd ((h y).2 (by simp)) (by simp)
  | cons x l ih=>
   intro m hl hm h
   cases m with
   | nil=>exact absurd ((h x).1 (by simp)) (by simp)
   | cons y m=>
    obtain ⟨a1,a2⟩:=lD1.1 hl
    obtain ⟨b1,b2⟩:=lD1.1 hm
    have e:x=y:=by
     have h1:=(h x).1 (by simp)
     have h2:=(h y).2 (by simp)
     rcases lG.1 h1 with h1 | h1
     ·exact h1
     rcases lG.1 h2 with h2 | h2
     ·exact h2.symm
     have:=a1 y h2; have:=b1 x h1; omega
    subst e
    congr 1
    refine ih m a2 b2 fun z=>⟨fun hz=>?_,fun hz=>?_⟩
    ·rcases lG.1 ((h z).1 (by simp [hz])) with rfl | h'
     ·exact absurd (a1 _ hz) (by omega)
     ·exact h'
    ·rcases lG.1 ((h z).2 (by simp [hz])) with rfl | h'
     ·exact absurd (b1 _ hz) (by omega)
     ·exact h'
 have e:t.inodes=u.inodes:=key _ _ ht hu fun x=>by rw [rT ht,rT hu,h]
 cases t; cases u; simp_all
end
section
section
variable {α:Type} (key:α→aA)
def xA:List α→α→List α
 | [],e=>[e]
 | f::l,e=>if key e<key f then e::f::l else f::xA l e
def agj (l:List α) (n:aA):List α:=l.filter fun e=>decide (key e≠n)
abbrev UpK (l:List α):Prop:=l.Pairwise fun a b=>key a<key b
variable {key}
theorem mem_putK {l:List α} {e x:α}:x ∈ xA key l e↔x=e∨x ∈ l:=by
 induction l with
 | nil=>simp [xA]
 | cons f l ih=>
  rw [xA]
  split
  ·simp
  ·rw [lG,ih,lG]
   constructor
   ·rintro (h | h | h)
    ·exact .inr (.inl h)
    ·exact .inl h
    ·exact .inr (.inr h)
   ·rintro (h | h | h)
    ·exact .inr (.inl h)
    ·exact .inl h
    ·exact .inr (.inr h)
theorem pC (l:List α) (e:α):(xA key l e).length=l.length+1:=by
 induction l with
 | nil=>rfl
 | cons f l ih=>
  rw [xA]
  split
  ·rfl
  ·rw [lW,ih,lW]
theorem abb {l:List α} (h:UpK key l) {e:α} (hn:∀ x ∈ l,key x≠key e):UpK key (xA key l e):=by
 induction l with
 | nil=>simp [xA,UpK]
 | cons f l ih=>
  obtain ⟨a1,a2⟩:=lD1.1 h
  rw [xA]
  split
  ·rename_i hlt
   refine lD1.2 ⟨fun x hx=>?_,h⟩
   rcases lG.1 hx with rfl | hx
   ·exact hlt
   ·exact List.lt_trans hlt (a1 x hx)
  ·rename_i hlt
   have hfe:key f<key e:=by
    rcases List.le_iff_lt_or_eq.1 (List.not_lt.1 hlt) with h' | h'
    ·exact h'
    ·exact absurd h' (hn f (by simp))
   refine lD1.2 ⟨fun x hx=>?_,ih a2 fun x hx=>hn x (by simp [hx])⟩
   rcases mem_putK.1 hx with rfl | hx
   ·exact hfe
   ·exact a1 x hx
theorem qJ {l:List α} (h:UpK key l) (n:aA):UpK key (agj key l n):=h.filter _
theorem mem_cutK {l:List α} {n:aA} {x:α}:x ∈ agj key l n↔x ∈ l∧key x≠n:=by simp [agj]
theorem apK {l:List α} (h:UpK key l) {x y:α} (hx:x ∈ l) (hy:y ∈ l) (he:key x=key y):x=y:=by
 induction l with
 | nil=>exact absurd hx (by simp)
 | cons f l ih=>
  obtain ⟨a1,a2⟩:=lD1.1 h
  rcases lG.1 hx with hx' | hx'
  ·rcases lG.1 hy with hy' | hy'
   ·rw [hx',hy']
   ·have:=a1 y hy'; rw [← hx',he] at this; exact absurd this (lB4 _)
  ·rcases lG.1 hy with hy' | hy'
   ·have:=a1 x hx'; rw [← hy',he] at this; exact absurd this (lB4 _)
   ·exact ih a2 hx' hy'
theorem aka {l m:List α} (hl:UpK key l) (hm:UpK key m) (h:∀ x,x ∈ l↔x ∈ m):l=m:=by
 induction l generalizing m with
 | nil=>
  cases m with
  | nil=>rfl
  | cons y m=>exact absurd ((h y).2 (by simp)) (by simp)
 | cons x l ih=>
  cases m with
  | nil=>exact absurd ((h x).1 (by simp)) (by simp)
  | cons y m=>
   obtain ⟨a1,a2⟩:=lD1.1 hl
   obtain ⟨b1,b2⟩:=lD1.1 hm
   have e:x=y:=by
    have h1:=(h x).1 (by simp)
    have h2:=(h y).2 (by simp)
    rcases lG.1 h1 with h1 | h1
    ·exact h1
    rcases lG.1 h2 with h2 | h2
    ·exact h2.symm
    exact absurd (List.lt_trans (a1 y h2) (b1 x h1)) (lB4 _)
   subst e
   congr 1
   refine ih a2 b2 fun z=>⟨fun hz=>?_,fun hz=>?_⟩
   ·rcases lG.1 ((h z).1 (by simp [hz])) with rfl | h'
    ·exact absurd (a1 _ hz) (lB4 _)
    ·exact h'
   ·rcases lG.1 ((h z).2 (by simp [hz])) with rfl | h'
    ·exact absurd (b1 _ hz) (lB4 _)
    ·exact h'
theorem akb {l:List α} (h:UpK key l) {e:α} (he:e ∈ l):xA key (agj key l (key e)) e=l:=by
 refine aka (key:=key) (abb (qJ h _) fun x hx=>(mem_cutK.1 hx).2) h fun x=>?_
 rw [mem_putK,mem_cutK]
 constructor
 ·rintro (rfl | h')
  ·exact he
  ·exact h'.1
 ·intro hx
  by_cases hk:key x=key e
  ·exact .inl (apK h hx he hk)
  ·exact .inr ⟨hx,hk⟩
theorem agk {l:List α} (h:UpK key l) {e:α} (he:e ∈ l):(agj key l (key e)).length+1=l.length:=by
 have:=congrArg List.length (akb h he)
 rw [pC] at this
 exact this
end
def dL (l:List Ent) (e:Ent):List Ent:=xA Ent.name l e
def cY (l:List Ent) (n:aA):List Ent:=agj Ent.name l n
theorem j4 (l:List Ent) (e:Ent) (i:Int):((dL l e).map Ent.ino).count i=(l.map Ent.ino).count i+if e.ino=i then 1 else 0:=by
 induction l with
 | nil=>by_cases h:e.ino=i <;> simp [dL,xA,h]
 | cons f l ih=>
  unfold dL at ih ⊢
  rw [xA]
  split
  ·rw [lO,List.count_cons]
   by_cases h:e.ino=i <;> simp [h]
  ·rw [lO,List.count_cons,ih,lO,List.count_cons]
   omega
theorem tZ {l:List Ent} (h:UpK Ent.name l) {e:Ent} (he:e ∈ l) (i:Int):((cY l e.name).map Ent.ino).count i+(if e.ino=i then 1 else 0)=(l.map Ent.ino).count i:=by
 have:=j4 (cY l e.name) e i
 rw [← this]
 exact congrArg (fun l=>(List.map Ent.ino l).count i) (akb h he)
theorem mD {x:Inode} (h:UpK Ent.name x.ents) {n:aA} {j:Int} (hn:∀ e ∈ x.ents,e.name≠n) (m:aA) :
  bE { x with ents:=dL x.ents ⟨n,j⟩ } m=if m=n then j else bE x m:=by
 have hu:UpK Ent.name (dL x.ents ⟨n,j⟩):=abb h hn
 by_cases hm:m=n
 ·rw [lF hm]
  subst hm
  exact dY (x:={ x with ents:=dL x.ents ⟨m,j⟩ }) hu (e:=⟨m,j⟩) (mem_putK.2 (.inl rfl))
 ·rw [lI hm]
  unfold bE
  congr 2
  show (dL x.ents ⟨n,j⟩).find? _=x.ents.find? _
  generalize x.ents=l at *
  clear hu
  induction l with
  | nil=>simp [dL,xA,Ne.symm hm]
  | cons f l ih=>
   have ih:=ih (lD1.1 h).2 fun e he=>hn e (by simp [he])
   unfold dL at ih ⊢
   rw [xA]
   split
   ·rw [lE1 (by simpa using Ne.symm hm)]
   ·by_cases hf:f.name=m
    ·rw [lO1 (by simpa using hf),lO1 (by simpa using hf)]
    ·rw [lE1 (by simpa using hf),lE1 (by simpa using hf)]; exact ih
theorem oM (x:Inode) (n m:aA):bE { x with ents:=cY x.ents n } m=if m=n then 0 else bE x m:=by
 unfold bE
 show (Option.map Ent.ino ((cY x.ents n).find? _)).getD 0=_
 generalize x.ents=l
 induction l with
 | nil=>simp [cY,agj]
 | cons f l ih=>
  unfold cY agj at ih ⊢
  rw [lN4]
  by_cases hf:f.name=n
  ·rw [lI (by simp [hf]),ih]
   by_cases hm:m=n
   ·rw [lF hm,lF hm]
   ·rw [lI hm,lI hm,lE1 (by simp [hf]; exact Ne.symm hm)]
  ·rw [lF (by simpa using hf)]
   by_cases hm:f.name=m
   ·rw [lO1 (by simpa using hm),lI (by rw [← hm]; exact hf),lO1 (by simpa using hm)]
   ·rw [lE1 (by simpa using hm),ih,lE1 (by simpa using hm)]
end
theorem xB {t:Tab} (h1:TabOk t) (h2:∀ x ∈ t.inodes,((bD t x.ino:Nat):Int)=x.links) (h3:∀ x ∈ t.inodes,∀ e ∈ x.ents,(aD t e.ino).isSome=true)
  (h4:∀ x ∈ t.inodes,∃ l,aT (aD t) l 1=some x.ino):TreeOk t:=by
 have hs:∀ l i,aT (aD t) l 1=some i→(aD t i).isSome=true:=by
  intro l i hw
  rcases lZ2 l with rfl | ⟨a,n,rfl⟩
  ·simp only [aT,Option.some.injEq] at hw
   subst hw
   obtain ⟨x,hx,_⟩:=h1.root
   rw [hx]; rfl
  ·rw [lA3,cK] at hw
   cases ha:aT (aD t) a 1 with
   | none=>rw [ha] at hw; exact absurd hw (by simp)
   | some p=>
    rw [ha] at hw
    obtain ⟨y,y1,y2,y3,y4⟩:=(f9 _ n p i).1 hw
    obtain ⟨e,he,e1,e2⟩:=tB (x:=y) (n:=n) (by rw [y3]; exact y4)
    have:=h3 y (aK y1).1 e he
    rwa [e2,y3] at this
 refine ⟨h1,acS h1.up fun x hx=>?_,h2,h3⟩
 obtain ⟨l,hl⟩:=h4 x hx
 exact aba hs l _ hl
theorem a8 {M:IM} {i:Int} {x:Inode} (h:M i=some x) (n:aA):cB M i n=if x.kind=2∧bE x n≠0 then some (bE x n) else none:=by rw [cB,h]
theorem nA {M M':IM} {i:Int} (h:M' i=M i) (n:aA):cB M' i n=cB M i n:=by rw [cB,cB,h]
theorem agl {t:Tab} {i:Int} (h:0<bD t i):∃ y ∈ t.inodes,y.kind=2∧∃ f ∈ y.ents,f.ino=i:=by
 obtain ⟨y,hy,hc⟩:=aon _ _ h
 by_cases hk:y.kind=2
 ·rw [fG,lF hk] at hc
  obtain ⟨f,hf,e⟩:=lZ1.1 (List.count_pos_iff.1 hc)
  exact ⟨y,hy,hk,f,hf,e⟩
 ·rw [fG,lI hk] at hc
  exact absurd hc (by simp)
theorem akc {t:Tab} {i:Int} (h:bD t i=0) {y:Inode} (hy:y ∈ t.inodes) (hk:y.kind=2) {f:Ent} (hf:f ∈ y.ents):f.ino≠i:=by
 intro e
 have:=mA (fun x:Inode=>(fG x).count i) t.inodes hy
 unfold bD at h
 have hc:0<(fG y).count i:=by rw [fG,lF hk]; exact List.count_pos_iff.2 (lZ1.2 ⟨f,hf,e⟩)
 omega
def bZ (D:Inode) (n:aA):Inode:={ D with ents:=cY D.ents n }
def dE (D:Inode) (n:aA) (j:Int):Inode:={ D with ents:=dL D.ents ⟨n,j⟩ }
theorem xC {D:Inode} (h:InodeOk D) (n:aA):InodeOk (bZ D n):=by
 obtain ⟨a1,a2,a3,a4,a5,a6,a7⟩:=h
 refine ⟨a1,a2,a3,a4,⟨?_,fun e he=>a5.ok e (mem_cutK.1 he).1,qJ a5.up n⟩,a6,?_⟩
 ·have:(cY D.ents n).length≤D.ents.length:=lQ2 _ _
  have:=a5.len
  show (cY D.ents n).length≤10
  omega
 ·rcases a7 with ⟨b1,b2⟩ | b
  ·exact .inl ⟨b1,by show cY D.ents n=[]; rw [b2]; rfl⟩
  ·exact .inr b
theorem xD {D:Inode} (h:InodeOk D) (hk:D.kind=2) {n:aA} {j:Int} (hn:aY n=true) (hj:2≤j∧j≤1000) (hl:D.ents.length<10) (hf:∀ e ∈ D.ents,e.name≠n):InodeOk (dE D n j):=by
 obtain ⟨a1,a2,a3,a4,a5,a6,a7⟩:=h
 refine ⟨a1,a2,a3,a4,⟨?_,fun e he=>?_,abb a5.up hf⟩,a6,?_⟩
 ·show (dL D.ents ⟨n,j⟩).length≤10
  unfold dL
  rw [pC]; omega
 ·rcases mem_putK.1 he with rfl | he
  ·exact ⟨hn,hj⟩
  ·exact a5.ok e he
 ·rcases a7 with ⟨b1,_⟩ | b
  ·omega
  ·exact .inr b
structure Spot (t:Tab) (D:Inode) (d:List aA):Prop where
 mem:D ∈ t.inodes
 kind:D.kind=2
 at':aT (aD t) d 1=some D.ino
theorem gS {t:Tab} (h:TreeOk t) {D:Inode} {d:List aA} (s:Spot t D d):∀ a,cT (cB (aD t)) a 1=some D.ino→a=d:=fun a ha=>
 qI h a d D.ino D (fV h s.mem) (oL h s.mem s.kind) (by rw [cU]; exact ha) s.at'
def qK (X:Inode):Inode:={ X with links:=X.links-1 }
def bT (t:Tab) (D:Inode) (n:aA) (X:Inode):Tab:=if X.links=1 then fC (aH t (bZ D n)) X.ino else aH (aH t (bZ D n)) (qK X)
theorem aeY {t:Tab} (h:TreeOk t) {D X:Inode} {d:List aA} (s:Spot t D d) {e:Ent} (he:e ∈ D.ents) (hX:aD t e.ino=some X) (hE:X.ents=[]) (hk1:X.kind=1∨X.links=1) :
  TreeOk (bT t D e.name X)∧(∀ l,aT (aD (bT t D e.name X)) l 1=if l=d++[e.name] then none else aT (aD t) l 1) ∧
  (∀ i,aD (bT t D e.name X) i=if i=X.ino then (if X.links=1 then none else some (qK X)) else if i=D.ino then some (bZ D e.name) else aD t i):=by
 obtain ⟨X1,X2⟩:=aK hX
 have hD:=fV h s.mem
 have hne:X.ino≠D.ino:=by
  intro hc
  rw [← X2,hc,hD] at hX
  injection hX with hX
  rw [hX,hE] at he
  exact absurd he (by simp)
 have up1:=gA h.tab.up (bZ D e.name)
 have up':UpI (bT t D e.name X).inodes:=by
  unfold bT
  split
  ·exact aoo up1 _
  ·exact gA up1 _
 have map1:∀ i,aD (aH t (bZ D e.name)) i=if D.ino=i then some (bZ D e.name) else aD t i:=fun i=>cE h.tab.up _ i
 have map':∀ i,aD (bT t D e.name X) i=if i=X.ino then (if X.links=1 then none else some (qK X)) else if i=D.ino then some (bZ D e.name) else aD t i:=by
  intro i
  unfold bT
  split
  ·rw [ahV,map1]
   by_cases h1:i=X.ino
   ·rw [lF h1.symm,lF h1]
   ·rw [lI (Ne.symm h1),lI h1]
    by_cases h2:i=D.ino
    ·rw [lF h2.symm,lF h2]
    ·rw [lI (Ne.symm h2),lI h2]
  ·rw [cE up1,map1]
   show (if X.ino=i then _ else _)=_
   by_cases h1:i=X.ino
   ·rw [lF h1.symm,lF h1]
   ·rw [lI (Ne.symm h1),lI h1]
    by_cases h2:i=D.ino
    ·rw [lF h2.symm,lF h2]
    ·rw [lI (Ne.symm h2),lI h2]
 have zX:∀ m,bE X m=0:=fun m=>by unfold bE; rw [hE]; rfl
 have zL:∀ m,bE (qK X) m=0:=zX
 have st:∀ i m,i≠D.ino∨m≠e.name→cB (aD (bT t D e.name X)) i m=cB (aD t) i m:=by
  intro i m him
  by_cases h1:i=X.ino
  ·rw [a8 (M:=aD t) (x:=X) (by rw [h1,X2]; exact hX) m,lI (by simp [zX])]
   by_cases hl:X.links=1
   ·rw [cB,map',lF h1,lF hl]
   ·rw [a8 (x:=qK X) (by rw [map',lF h1,lI hl]) m,lI (by simp [zL])]
  ·by_cases h2:i=D.ino
   ·have hm:=him.resolve_left (by simp [h2])
    rw [a8 (x:=bZ D e.name) (by rw [map',lI h1,lF h2]) m,a8 (M:=aD t) (x:=D) (by rw [h2]; exact hD) m]
    have:bE (bZ D e.name) m=bE D m:=by unfold bZ; rw [oM,if_neg hm]
    rw [this]; rfl
   ·exact nA (by rw [map',lI h1,lI h2]) m
 have stn:cB (aD (bT t D e.name X)) D.ino e.name=none:=by
  rw [a8 (x:=bZ D e.name) (by rw [map',lI (Ne.symm hne),lF rfl]) e.name]
  have:bE (bZ D e.name) e.name=0:=by unfold bZ; rw [oM,if_pos rfl]
  rw [this,lI (by simp)]
 have hu:=gS h s
 have hd:cT (cB (aD t)) d 1=some D.ino:=by rw [← cU]; exact s.at'
 have wk:∀ l,aT (aD (bT t D e.name X)) l 1=if l=d++[e.name] then none else aT (aD t) l 1:=by
  intro l
  rw [cU,cU]
  by_cases hp:(d++[e.name]) <+: l
  ·obtain ⟨b,rfl⟩:=hp
   have e1:d++[e.name]++b=d++e.name::b:=by simp
   rw [e1,rS st hu hd,stn]
   cases b with
   | nil=>rw [lF (by simp)]; rfl
   | cons m b=>
    rw [lI (by simp)]
    show none=_
    rw [dK,hd]
    show none=(cB (aD t) D.ino e.name).bind _
    rw [a8 hD,lF ⟨s.kind,by rw [dY (bO h s.mem).up he]; exact qH h s.mem e he⟩,dY (bO h s.mem).up he]
    show none=(cB (aD t) e.ino m).bind _
    rw [a8 hX,lI (by simp [zX])]; rfl
  ·rw [fN st hu hp,lI (by rintro rfl; exact hp (List.prefix_refl _))]
 refine ⟨?_,wk,map'⟩
 have lk1:∀ i,bD (aH t (bZ D e.name)) i+(if e.ino=i then 1 else 0)=bD t i:=by
  intro i
  have a1:=gB h.tab.up (bZ D e.name) i
  have a2:=tZ (bO h s.mem).up he i
  have a3:aD t (bZ D e.name).ino=some D:=hD
  rw [a3] at a1
  have b1:fG (bZ D e.name)=(cY D.ents e.name).map Ent.ino:=by rw [fG,lF (show (bZ D e.name).kind=2 from s.kind)]; rfl
  have b2:fG D=D.ents.map Ent.ino:=by rw [fG,lF s.kind]
  simp only [lC,lY,b1,b2] at a1
  omega
 have hXD:aD (aH t (bZ D e.name)) X.ino=some X:=by rw [map1,lI (Ne.symm hne),X2]; exact hX
 have nX:fG X=[]:=by unfold fG; rw [hE]; split <;> rfl
 have nL:fG (qK X)=[]:=nX
 have lk:∀ i,bD (bT t D e.name X) i+(if e.ino=i then 1 else 0)=bD t i:=by
  intro i
  rw [← lk1 i]
  unfold bT
  split
  ·have:=ahW up1 X.ino i
   rw [hXD] at this
   simp only [lC,lY,nX,List.count_nil] at this
   omega
  ·have:=gB up1 (qK X) i
   have e2:aD (aH t (bZ D e.name)) (qK X).ino=some X:=hXD
   rw [e2,nL] at this
   simp only [lC,lY,nX,List.count_nil] at this
   omega
 have lX:=h.links X X1
 have mem':∀ x,x ∈ (bT t D e.name X).inodes→(x=qK X∧X.links≠1)∨(x=bZ D e.name)∨(x ∈ t.inodes∧x.ino≠X.ino∧x.ino≠D.ino):=by
  intro x hx
  have hx':=(rT up' x).1 hx
  rw [map'] at hx'
  split at hx'
  ·split at hx'
   ·exact absurd hx' (by simp)
   ·rename_i hl
    injection hx' with hx'
    exact .inl ⟨hx'.symm,hl⟩
  ·split at hx'
   ·injection hx' with hx'
    exact .inr (.inl hx'.symm)
   ·rename_i n1 n2
    exact .inr (.inr ⟨(aK hx').1,n1,n2⟩)
 have okX:=(h.tab.ok X X1)
 have okD:=(h.tab.ok D s.mem)
 have len':(bT t D e.name X).inodes.length≤30:=by
  have a1:=kI h.tab.up (bZ D e.name)
  have a2:(t.inodes.find? fun y=>decide (y.ino=(bZ D e.name).ino))=some D:=hD
  rw [a2] at a1
  simp only [lH2,lQ] at a1
  have a0:=h.tab.len
  unfold bT
  split
  ·have:(fC (aH t (bZ D e.name)) X.ino).inodes.length≤(aH t (bZ D e.name)).inodes.length:=lQ2 _ _
   have e4:(aH t (bZ D e.name)).inodes.length=(bR t.inodes (bZ D e.name)).length:=rfl
   omega
  ·have a3:=kI up1 (qK X)
   have a4:((aH t (bZ D e.name)).inodes.find? fun y=>decide (y.ino=(qK X).ino))=some X:=hXD
   rw [a4] at a3
   simp only [lH2,lQ] at a3
   have e4:(aH t (bZ D e.name)).inodes.length=(bR t.inodes (bZ D e.name)).length:=rfl
   show (bR (aH t (bZ D e.name)).inodes (qK X)).length≤30
   omega
 have next':(bT t D e.name X).next=t.next:=by unfold bT; split <;> rfl
 have root1:X.ino≠1:=by
  have:=((bO h s.mem).ok e he).2.1
  omega
 refine xB ⟨len',by rw [next']; exact h.tab.next,fun x hx=>?_,up',?_⟩ (fun x hx=>?_) (fun x hx f hf=>?_) fun x hx=>?_
 ·rw [next']
  rcases mem' x hx with ⟨rfl,hl⟩ | rfl | ⟨hx,_⟩
  ·refine ⟨?_,okX.2⟩
   obtain ⟨b1,b2,b3,b4,b5,b6,b7⟩:=okX.1
   have:X.links≠0:=fun h0=>root1 (b3.1 h0)
   refine ⟨b1,by show 0≤X.links-1∧X.links-1≤1000; omega,?_,b4,b5,b6,.inl ⟨hk1.resolve_right hl,hE⟩⟩
   show X.links-1=0↔X.ino=1
   constructor
   ·intro h0; omega
   ·intro h0; exact absurd h0 root1
  ·exact ⟨xC okD.1 _,okD.2⟩
  ·exact h.tab.ok x hx
 ·obtain ⟨r,r1,r2,_⟩:=cR h
  by_cases hr:(1:Int)=D.ino
  ·exact ⟨bZ D e.name,by rw [map',lI (Ne.symm root1),lF hr],s.kind⟩
  ·exact ⟨r,by rw [map',lI (Ne.symm root1),lI hr]; exact r1,r2⟩
 ·have a1:=lk x.ino
  rcases mem' x hx with ⟨rfl,hl⟩ | rfl | ⟨hx,n1,_⟩
  ·have e5:(qK X).ino=X.ino:=rfl
   rw [e5] at a1 ⊢
   rw [lF X2.symm] at a1
   show _=X.links-1
   omega
  ·have e5:(bZ D e.name).ino=D.ino:=rfl
   rw [e5] at a1 ⊢
   rw [lI (by rw [← X2]; exact hne)] at a1
   have:=h.links D s.mem
   show _=D.links
   omega
  ·rw [lI (by rw [← X2]; exact Ne.symm n1)] at a1
   have:=h.links x hx
   omega
 ·have old:∃ y ∈ t.inodes,f ∈ y.ents:=by
   rcases mem' x hx with ⟨rfl,_⟩ | rfl | ⟨hx,_⟩
   ·exact ⟨X,X1,hf⟩
   ·exact ⟨D,s.mem,(mem_cutK.1 hf).1⟩
   ·exact ⟨x,hx,hf⟩
  obtain ⟨y,hy,hfy⟩:=old
  rw [map']
  by_cases h1:f.ino=X.ino
  ·rw [lF h1]
   split
   ·rename_i hl
    exfalso
    have a1:=lk X.ino
    rw [lF X2.symm] at a1
    have hk:x.kind=2:=by
     rcases mem' x hx with ⟨rfl,_⟩ | rfl | ⟨hx,_⟩
     ·exact absurd hf (by show ¬ f ∈ X.ents; rw [hE]; simp)
     ·exact s.kind
     ·apply Classical.byContradiction
      intro hk
      rw [(mB h hx hk).1] at hf
      exact absurd hf (by simp)
    exact akc (t:=bT t D e.name X) (i:=X.ino) (by omega) hx hk hf h1
   ·rfl
  ·rw [lI h1]
   split
   ·rfl
   ·exact h.there y hy f hfy
 ·have other:∀ y,y ∈ t.inodes→y.ino≠X.ino→∃ l,aT (aD (bT t D e.name X)) l 1=some y.ino:=by
   intro y hy hn
   obtain ⟨l,hl⟩:=gR h hy
   refine ⟨l,?_⟩
   rw [wk,lI,hl]
   rintro rfl
   rw [cK,s.at'] at hl
   obtain ⟨z,z1,z2,z3,z4⟩:=(f9 _ _ _ _).1 hl
   rw [hD] at z1
   injection z1 with z1
   subst z1
   rw [dY (bO h s.mem).up he] at z3
   exact hn (by rw [← z3,X2])
  rcases mem' x hx with ⟨rfl,hl⟩ | rfl | ⟨hx,n1,_⟩
  ·have a1:=lk X.ino
   rw [lF X2.symm] at a1
   have hpos:X.links≠0:=fun h0=>root1 (okX.1.root.1 h0)
   obtain ⟨y,hy,ky,f,hf,e5⟩:=agl (t:=bT t D e.name X) (i:=X.ino) (by omega)
   have hyX:y.ino≠X.ino:=by
    intro hc
    have hy':=(rT up' y).1 hy
    rw [map',lF hc,lI hl] at hy'
    injection hy' with hy'
    rw [← hy'] at hf
    exact absurd hf (by show ¬ f ∈ X.ents; rw [hE]; simp)
   have hyo:∃ y' ∈ t.inodes,y'.ino=y.ino:=by
    rcases mem' y hy with ⟨h6,_⟩ | rfl | ⟨h6,_⟩
    ·exact absurd (by rw [h6]; rfl) hyX
    ·exact ⟨D,s.mem,rfl⟩
    ·exact ⟨y,h6,rfl⟩
   obtain ⟨y',hy',ey⟩:=hyo
   obtain ⟨l,hl'⟩:=other y' hy' (by rw [ey]; exact hyX)
   refine ⟨l++[f.name],?_⟩
   rw [cK,hl',ey]
   have upy:UpK Ent.name y.ents:=by
    rcases mem' y hy with ⟨h6,_⟩ | rfl | ⟨h6,_⟩
    ·exact absurd (by rw [h6]; rfl) hyX
    ·exact qJ (bO h s.mem).up _
    ·exact (bO h h6).up
   refine (f9 _ _ _ _).2 ⟨y,(rT up' y).1 hy,ky,by rw [dY upy hf]; exact e5,?_⟩
   show X.ino≠0
   have:=okX.1.ino
   omega
  ·exact other D s.mem (Ne.symm hne)
  ·exact other x hx n1
def abc (i k:Int):Inode:={ ino:=i,kind:=k,links:=1,data:=[],ents:=[],attrs:=[] }
def oN (t:Tab) (D:Inode) (n:aA) (k:Int):Tab:={ inodes:=(aH (aH t (dE D n t.next)) (abc t.next k)).inodes,next:=t.next+1 }
theorem acU {t:Tab} (h:TreeOk t) {D:Inode} {d:List aA} (s:Spot t D d) {n:aA} {k:Int} (hn:aY n=true) (hf:bE D n=0) (hl:D.ents.length<10) (hi:t.inodes.length<30)
  (hx:t.next<1000) (hk:k=1∨k=2) :
  TreeOk (oN t D n k)∧(∀ l,aT (aD (oN t D n k)) l 1=if l=d++[n] then some t.next else aT (aD t) l 1) ∧
  (∀ i,aD (oN t D n k) i=if i=t.next then some (abc t.next k) else if i=D.ino then some (dE D n t.next) else aD t i):=by
 have hD:=fV h s.mem
 have hfn:∀ e ∈ D.ents,e.name≠n:=(aeV (qH h s.mem)).1 hf
 have hnext:aD t t.next=none:=by
  cases e:aD t t.next with
  | none=>rfl
  | some y=>
   obtain ⟨y1,y2⟩:=aK e
   have:=(h.tab.ok y y1).2
   omega
 have hne:D.ino≠t.next:=by have:=(h.tab.ok D s.mem).2; omega
 have up1:=gA h.tab.up (dE D n t.next)
 have up':UpI (oN t D n k).inodes:=gA up1 (abc t.next k)
 have map1:∀ i,aD (aH t (dE D n t.next)) i=if D.ino=i then some (dE D n t.next) else aD t i:=fun i=>cE h.tab.up _ i
 have map':∀ i,aD (oN t D n k) i=if i=t.next then some (abc t.next k) else if i=D.ino then some (dE D n t.next) else aD t i:=by
  intro i
  have e0:aD (oN t D n k) i=aD (aH (aH t (dE D n t.next)) (abc t.next k)) i:=rfl
  rw [e0,cE up1,map1]
  show (if t.next=i then _ else _)=_
  by_cases h1:i=t.next
  ·rw [lF h1.symm,lF h1]
  ·rw [lI (Ne.symm h1),lI h1]
   by_cases h2:i=D.ino
   ·rw [lF h2.symm,lF h2]
   ·rw [lI (Ne.symm h2),lI h2]
 have zN:∀ m,bE (abc t.next k) m=0:=fun m=>rfl
 have st:∀ i m,i≠D.ino∨m≠n→cB (aD (oN t D n k)) i m=cB (aD t) i m:=by
  intro i m him
  by_cases h1:i=t.next
  ·rw [a8 (x:=abc t.next k) (by rw [map',lF h1]) m,lI (by simp [zN]),cB,h1,hnext]
  ·by_cases h2:i=D.ino
   ·have hm:=him.resolve_left (by simp [h2])
    rw [a8 (x:=dE D n t.next) (by rw [map',lI h1,lF h2]) m,a8 (M:=aD t) (x:=D) (by rw [h2]; exact hD) m]
    have:bE (dE D n t.next) m=bE D m:=by unfold dE; rw [mD (bO h s.mem).up hfn,if_neg hm]
    rw [this]; rfl
   ·exact nA (by rw [map',lI h1,lI h2]) m
 have hn2:=h.tab.next
 have stn:cB (aD (oN t D n k)) D.ino n=some t.next:=by
  rw [a8 (x:=dE D n t.next) (by rw [map',lI hne,lF rfl]) n]
  have:bE (dE D n t.next) n=t.next:=by unfold dE; rw [mD (bO h s.mem).up hfn,if_pos rfl]
  rw [this,lF ⟨s.kind,by omega⟩]
 have hu:=gS h s
 have hd:cT (cB (aD t)) d 1=some D.ino:=by rw [← cU]; exact s.at'
 have off:cB (aD t) D.ino n=none:=by rw [a8 hD,hf,lI (by simp)]
 have wk:∀ l,aT (aD (oN t D n k)) l 1=if l=d++[n] then some t.next else aT (aD t) l 1:=by
  intro l
  rw [cU,cU]
  by_cases hp:(d++[n]) <+: l
  ·obtain ⟨b,rfl⟩:=hp
   have e1:d++[n]++b=d++n::b:=by simp
   rw [e1,rS st hu hd,stn]
   cases b with
   | nil=>rw [lF (by simp)]; rfl
   | cons m b=>
    rw [lI (by simp)]
    show (cB (aD (oN t D n k)) t.next m).bind _=_
    rw [a8 (x:=abc t.next k) (by rw [map',lF rfl]) m,lI (by simp [zN]),dK,hd]
    show none=(cB (aD t) D.ino n).bind _
    rw [off]; rfl
  ·rw [fN st hu hp,lI (by rintro rfl; exact hp (List.prefix_refl _))]
 have wn:aT (aD t) (d++[n]) 1=none:=by
  rw [cU,dK,hd]
  show (cB (aD t) D.ino n).bind _=none
  rw [off]; rfl
 refine ⟨?_,wk,map'⟩
 have nN:fG (abc t.next k)=[]:=by unfold fG; split <;> rfl
 have lk:∀ i,bD (oN t D n k) i=bD t i+if t.next=i then 1 else 0:=by
  intro i
  have a1:=gB h.tab.up (dE D n t.next) i
  have a2:=j4 D.ents ⟨n,t.next⟩ i
  have a3:aD t (dE D n t.next).ino=some D:=hD
  have a4:=gB up1 (abc t.next k) i
  have a5:aD (aH t (dE D n t.next)) (abc t.next k).ino=none:=by rw [map1]; exact (lI hne).trans hnext
  rw [a3] at a1
  rw [a5] at a4
  have b1:fG (dE D n t.next)=(dL D.ents ⟨n,t.next⟩).map Ent.ino:=by rw [fG,lF (show (dE D n t.next).kind=2 from s.kind)]; rfl
  have b2:fG D=D.ents.map Ent.ino:=by rw [fG,lF s.kind]
  simp only [lC,lY,lS,Option.getD_none,b1,b2,nN,List.count_nil] at a1 a4
  have e0:bD (oN t D n k) i=bD (aH (aH t (dE D n t.next)) (abc t.next k)) i:=rfl
  have a2':(List.map Ent.ino (dL D.ents ⟨n,t.next⟩)).count i=(D.ents.map Ent.ino).count i+if t.next=i then 1 else 0:=a2
  omega
 have l0:bD t t.next=0:=by
  apply Nat.eq_zero_of_not_pos
  intro hp
  obtain ⟨y,hy,_,f,hf',e⟩:=agl hp
  have:=h.there y hy f hf'
  rw [e,hnext] at this
  exact absurd this (by simp)
 have mem':∀ x,x ∈ (oN t D n k).inodes→x=abc t.next k∨x=dE D n t.next∨(x ∈ t.inodes∧x.ino≠t.next∧x.ino≠D.ino):=by
  intro x hx
  have hx':=(rT up' x).1 hx
  rw [map'] at hx'
  split at hx'
  ·injection hx' with hx'; exact .inl hx'.symm
  ·split at hx'
   ·injection hx' with hx'; exact .inr (.inl hx'.symm)
   ·rename_i n1 n2
    exact .inr (.inr ⟨(aK hx').1,n1,n2⟩)
 have okD:=h.tab.ok D s.mem
 have len':(oN t D n k).inodes.length≤30:=by
  have a1:=kI h.tab.up (dE D n t.next)
  have a2:(t.inodes.find? fun y=>decide (y.ino=(dE D n t.next).ino))=some D:=hD
  rw [a2] at a1
  simp only [lH2,lQ] at a1
  have a3:=kI up1 (abc t.next k)
  have e4:(aH t (dE D n t.next)).inodes.length=(bR t.inodes (dE D n t.next)).length:=rfl
  show (bR (aH t (dE D n t.next)).inodes (abc t.next k)).length≤30
  omega
 refine xB ⟨len',by show 2≤t.next+1∧t.next+1≤1000; omega,fun x hx'=>?_,up',?_⟩ (fun x hx'=>?_) (fun x hx' f hf'=>?_) fun x hx'=>?_
 ·show InodeOk x∧x.ino<t.next+1
  rcases mem' x hx' with rfl | rfl | ⟨hx',_⟩
  ·refine ⟨⟨by show 1≤t.next∧t.next≤1000; omega,by show (0:Int)≤1∧(1:Int)≤1000; omega,?_,by show 0≤100; omega,⟨by show 0≤10; omega,fun e he=>absurd he (by simp [abc]),List.Pairwise.nil⟩,⟨by show 0≤4; omega,fun e he=>absurd he (by simp [abc]),List.Pairwise.nil⟩,?_⟩,by show t.next<t.next+1; omega⟩
   ·show (1:Int)=0↔t.next=1
    constructor
    ·intro h0; omega
    ·intro h0; omega
   ·rcases hk with rfl | rfl
    ·exact .inl ⟨rfl,rfl⟩
    ·exact .inr ⟨rfl,rfl,by show (1:Int)≤1; omega⟩
  ·refine ⟨xD okD.1 s.kind hn ⟨hn2.1,hn2.2⟩ hl hfn,?_⟩
   have:=okD.2
   show D.ino<t.next+1
   omega
  ·have:=h.tab.ok x hx'
   exact ⟨this.1,by omega⟩
 ·obtain ⟨r,r1,r2,_⟩:=cR h
  have n1:(1:Int)≠t.next:=by omega
  by_cases hr:(1:Int)=D.ino
  ·exact ⟨dE D n t.next,by rw [map',lI n1,lF hr],s.kind⟩
  ·exact ⟨r,by rw [map',lI n1,lI hr]; exact r1,r2⟩
 ·rw [lk]
  rcases mem' x hx' with rfl | rfl | ⟨hx',n1,_⟩
  ·show ((bD t t.next+(if t.next=t.next then 1 else 0):Nat):Int)=1
   rw [l0,lF rfl]; rfl
  ·have e5:(dE D n t.next).ino=D.ino:=rfl
   rw [e5,lI (Ne.symm hne)]
   exact h.links D s.mem
  ·rw [lI (Ne.symm n1)]
   exact h.links x hx'
 ·rw [map']
  have old:f.ino=t.next∨∃ y ∈ t.inodes,f ∈ y.ents:=by
   rcases mem' x hx' with rfl | rfl | ⟨hx',_⟩
   ·exact absurd hf' (by simp [abc])
   ·rcases mem_putK.1 hf' with rfl | hf'
    ·exact .inl rfl
    ·exact .inr ⟨D,s.mem,hf'⟩
   ·exact .inr ⟨x,hx',hf'⟩
  rcases old with e | ⟨y,hy,hfy⟩
  ·rw [lF e]; rfl
  ·have:=h.there y hy f hfy
   split
   ·rfl
   ·split
    ·rfl
    ·exact this
 ·have other:∀ y,y ∈ t.inodes→∃ l,aT (aD (oN t D n k)) l 1=some y.ino:=by
   intro y hy
   obtain ⟨l,hl'⟩:=gR h hy
   refine ⟨l,?_⟩
   rw [wk,lI,hl']
   rintro rfl
   rw [wn] at hl'
   exact absurd hl' (by simp)
  rcases mem' x hx' with rfl | rfl | ⟨hx',_⟩
  ·exact ⟨d++[n],by rw [wk,lF rfl]; rfl⟩
  ·exact other D s.mem
  ·exact other x hx'
theorem tC {α:Type} (f:α→Nat) (l:List α) (c:Nat) (h:∀ x ∈ l,f x≤c):(l.map f).sum≤l.length*c:=by
 induction l with
 | nil=>simp
 | cons x l ih=>
  have a:=h x (by simp)
  have b:=ih fun y hy=>h y (by simp [hy])
  rw [lO,lC2,lW,lR3]
  omega
theorem amg {t:Tab} (h:TabOk t) (i:Int):bD t i≤300:=by
 have a:=tC (fun x:Inode=>(fG x).count i) t.inodes 10 fun x hx=>by
  have h1:=(h.ok x hx).1.ents.len
  have h2:(fG x).count i≤(fG x).length:=List.count_le_length
  have h3:(fG x).length≤x.ents.length:=by unfold fG; split <;> simp
  omega
 have b:=h.len
 have c:bD t i=(t.inodes.map fun x:Inode=>(fG x).count i).sum:=rfl
 have:t.inodes.length*10≤30*10:=lM1 10 b
 omega
def iW (X:Inode):Inode:={ X with links:=X.links+1 }
def nV (t:Tab) (D:Inode) (n:aA) (X:Inode):Tab:=aH (aH t (dE D n X.ino)) (iW X)
theorem acV {t:Tab} (h:TreeOk t) {D X:Inode} {d:List aA} (s:Spot t D d) {n:aA} (hn:aY n=true) (hf:bE D n=0) (hl:D.ents.length<10) (X1:X ∈ t.inodes) (kX:X.kind=1) :
  TreeOk (nV t D n X)∧(∀ l,aT (aD (nV t D n X)) l 1=if l=d++[n] then some X.ino else aT (aD t) l 1) ∧
  (∀ i,aD (nV t D n X) i=if i=X.ino then some (iW X) else if i=D.ino then some (dE D n X.ino) else aD t i):=by
 have hD:=fV h s.mem
 have hX:=fV h X1
 have kX2:¬ X.kind=2:=by omega
 have hE:=(mB h X1 kX2).1
 have hfn:∀ e ∈ D.ents,e.name≠n:=(aeV (qH h s.mem)).1 hf
 have okX:=h.tab.ok X X1
 have okD:=h.tab.ok D s.mem
 have root1:X.ino≠1:=by
  obtain ⟨r,r1,r2,_⟩:=cR h
  intro hc
  rw [hc,r1] at hX
  injection hX with hX
  rw [hX] at r2
  omega
 have hne:D.ino≠X.ino:=by
  intro hc
  rw [← hc,hD] at hX
  injection hX with hX
  have:=s.kind
  rw [hX] at this
  omega
 have up1:=gA h.tab.up (dE D n X.ino)
 have up':UpI (nV t D n X).inodes:=gA up1 (iW X)
 have map1:∀ i,aD (aH t (dE D n X.ino)) i=if D.ino=i then some (dE D n X.ino) else aD t i:=fun i=>cE h.tab.up _ i
 have map':∀ i,aD (nV t D n X) i=if i=X.ino then some (iW X) else if i=D.ino then some (dE D n X.ino) else aD t i:=by
  intro i
  unfold nV
  rw [cE up1,map1]
  show (if X.ino=i then _ else _)=_
  by_cases h1:i=X.ino
  ·rw [lF h1.symm,lF h1]
  ·rw [lI (Ne.symm h1),lI h1]
   by_cases h2:i=D.ino
   ·rw [lF h2.symm,lF h2]
   ·rw [lI (Ne.symm h2),lI h2]
 have st:∀ i m,i≠D.ino∨m≠n→cB (aD (nV t D n X)) i m=cB (aD t) i m:=by
  intro i m him
  by_cases h1:i=X.ino
  ·rw [a8 (x:=iW X) (by rw [map',lF h1]) m,a8 (M:=aD t) (x:=X) (by rw [h1]; exact hX) m]; rfl
  ·by_cases h2:i=D.ino
   ·have hm:=him.resolve_left (by simp [h2])
    rw [a8 (x:=dE D n X.ino) (by rw [map',lI h1,lF h2]) m,a8 (M:=aD t) (x:=D) (by rw [h2]; exact hD) m]
    have:bE (dE D n X.ino) m=bE D m:=by unfold dE; rw [mD (bO h s.mem).up hfn,if_neg hm]
    rw [this]; rfl
   ·exact nA (by rw [map',lI h1,lI h2]) m
 have hx1:=okX.1.ino
 have stn:cB (aD (nV t D n X)) D.ino n=some X.ino:=by
  rw [a8 (x:=dE D n X.ino) (by rw [map',lI hne,lF rfl]) n]
  have:bE (dE D n X.ino) n=X.ino:=by unfold dE; rw [mD (bO h s.mem).up hfn,if_pos rfl]
  rw [this,lF ⟨s.kind,by omega⟩]
 have hu:=gS h s
 have hd:cT (cB (aD t)) d 1=some D.ino:=by rw [← cU]; exact s.at'
 have off:cB (aD t) D.ino n=none:=by rw [a8 hD,hf,lI (by simp)]
 have wk:∀ l,aT (aD (nV t D n X)) l 1=if l=d++[n] then some X.ino else aT (aD t) l 1:=by
  intro l
  rw [cU,cU]
  by_cases hp:(d++[n]) <+: l
  ·obtain ⟨b,rfl⟩:=hp
   have e1:d++[n]++b=d++n::b:=by simp
   rw [e1,rS st hu hd,stn]
   cases b with
   | nil=>rw [lF (by simp)]; rfl
   | cons m b=>
    rw [lI (by simp)]
    show (cB (aD (nV t D n X)) X.ino m).bind _=_
    rw [a8 (x:=iW X) (by rw [map',lF rfl]) m,lI (by show ¬ (X.kind=2∧_); simp [kX2]),dK,hd]
    show none=(cB (aD t) D.ino n).bind _
    rw [off]; rfl
  ·rw [fN st hu hp,lI (by rintro rfl; exact hp (List.prefix_refl _))]
 have wn:aT (aD t) (d++[n]) 1=none:=by
  rw [cU,dK,hd]
  show (cB (aD t) D.ino n).bind _=none
  rw [off]; rfl
 refine ⟨?_,wk,map'⟩
 have nX:fG X=[]:=by rw [fG,lI kX2]
 have nM:fG (iW X)=[]:=nX
 have lk:∀ i,bD (nV t D n X) i=bD t i+if X.ino=i then 1 else 0:=by
  intro i
  have a1:=gB h.tab.up (dE D n X.ino) i
  have a2:(List.map Ent.ino (dL D.ents ⟨n,X.ino⟩)).count i=(D.ents.map Ent.ino).count i+if X.ino=i then 1 else 0:=j4 D.ents ⟨n,X.ino⟩ i
  have a3:aD t (dE D n X.ino).ino=some D:=hD
  have a4:=gB up1 (iW X) i
  have a5:aD (aH t (dE D n X.ino)) (iW X).ino=some X:=by rw [map1]; exact (lI hne).trans hX
  rw [a3] at a1
  rw [a5] at a4
  have b1:fG (dE D n X.ino)=(dL D.ents ⟨n,X.ino⟩).map Ent.ino:=by rw [fG,lF (show (dE D n X.ino).kind=2 from s.kind)]; rfl
  have b2:fG D=D.ents.map Ent.ino:=by rw [fG,lF s.kind]
  simp only [lC,lY,b1,b2,nX,nM,List.count_nil] at a1 a4
  have e0:bD (nV t D n X) i=bD (aH (aH t (dE D n X.ino)) (iW X)) i:=rfl
  omega
 have lX:=h.links X X1
 have mem':∀ x,x ∈ (nV t D n X).inodes→x=iW X∨x=dE D n X.ino∨(x ∈ t.inodes∧x.ino≠X.ino∧x.ino≠D.ino):=by
  intro x hx
  have hx':=(rT up' x).1 hx
  rw [map'] at hx'
  split at hx'
  ·injection hx' with hx'; exact .inl hx'.symm
  ·split at hx'
   ·injection hx' with hx'; exact .inr (.inl hx'.symm)
   ·rename_i n1 n2
    exact .inr (.inr ⟨(aK hx').1,n1,n2⟩)
 have len':(nV t D n X).inodes.length≤30:=by
  have a0:=h.tab.len
  have a1:=kI h.tab.up (dE D n X.ino)
  have a2:(t.inodes.find? fun y=>decide (y.ino=(dE D n X.ino).ino))=some D:=hD
  rw [a2] at a1
  simp only [lH2,lQ] at a1
  have a3:=kI up1 (iW X)
  have a4:((aH t (dE D n X.ino)).inodes.find? fun y=>decide (y.ino=(iW X).ino))=some X:=by
   show aD (aH t (dE D n X.ino)) X.ino=some X
   rw [map1,lI hne]; exact hX
  rw [a4] at a3
  simp only [lH2,lQ] at a3
  have e4:(aH t (dE D n X.ino)).inodes.length=(bR t.inodes (dE D n X.ino)).length:=rfl
  show (bR (aH t (dE D n X.ino)).inodes (iW X)).length≤30
  omega
 refine xB ⟨len',h.tab.next,fun x hx'=>?_,up',?_⟩ (fun x hx'=>?_) (fun x hx' f hf'=>?_) fun x hx'=>?_
 ·show InodeOk x∧x.ino<t.next
  rcases mem' x hx' with rfl | rfl | ⟨hx',_⟩
  ·refine ⟨?_,okX.2⟩
   obtain ⟨b1,b2,b3,b4,b5,b6,b7⟩:=okX.1
   have hb:=amg h.tab X.ino
   refine ⟨b1,by show 0≤X.links+1∧X.links+1≤1000; omega,?_,b4,b5,b6,.inl ⟨kX,hE⟩⟩
   show X.links+1=0↔X.ino=1
   constructor
   ·intro h0; omega
   ·intro h0; exact absurd h0 root1
  ·have he:X.links≠0:=fun h0=>root1 (okX.1.root.1 h0)
   exact ⟨xD okD.1 s.kind hn ⟨by omega,hx1.2⟩ hl hfn,okD.2⟩
  ·exact h.tab.ok x hx'
 ·obtain ⟨r,r1,r2,_⟩:=cR h
  by_cases hr:(1:Int)=D.ino
  ·exact ⟨dE D n X.ino,by rw [map',lI (Ne.symm root1),lF hr],s.kind⟩
  ·exact ⟨r,by rw [map',lI (Ne.symm root1),lI hr]; exact r1,r2⟩
 ·rw [lk]
  rcases mem' x hx' with rfl | rfl | ⟨hx',n1,_⟩
  ·show ((bD t X.ino+(if X.ino=X.ino then 1 else 0):Nat):Int)=X.links+1
   rw [lF rfl]; omega
  ·have e5:(dE D n X.ino).ino=D.ino:=rfl
   rw [e5,lI (Ne.symm hne)]
   exact h.links D s.mem
  ·rw [lI (Ne.symm n1)]
   exact h.links x hx'
 ·rw [map']
  have old:f.ino=X.ino∨∃ y ∈ t.inodes,f ∈ y.ents:=by
   rcases mem' x hx' with rfl | rfl | ⟨hx',_⟩
   ·exact .inr ⟨X,X1,hf'⟩
   ·rcases mem_putK.1 hf' with rfl | hf'
    ·exact .inl rfl
    ·exact .inr ⟨D,s.mem,hf'⟩
   ·exact .inr ⟨x,hx',hf'⟩
  rcases old with e | ⟨y,hy,hfy⟩
  ·rw [lF e]; rfl
  ·have:=h.there y hy f hfy
   split
   ·rfl
   ·split
    ·rfl
    ·exact this
 ·have other:∀ y,y ∈ t.inodes→∃ l,aT (aD (nV t D n X)) l 1=some y.ino:=by
   intro y hy
   obtain ⟨l,hl'⟩:=gR h hy
   refine ⟨l,?_⟩
   rw [wk,lI,hl']
   rintro rfl
   rw [wn] at hl'
   exact absurd hl' (by simp)
  rcases mem' x hx' with rfl | rfl | ⟨hx',_⟩
  ·exact other X X1
  ·exact other D s.mem
  ·exact other x hx'
def gH (D1 D2:Inode) (n1:aA):Inode:=if D1.ino=D2.ino then bZ D1 n1 else D2
def mE (t:Tab) (D1 D2:Inode) (n1 n2:aA) (j:Int):Tab:=aH (aH t (bZ D1 n1)) (dE (gH D1 D2 n1) n2 j)
theorem akd {t:Tab} (h:TreeOk t) {D1 D2:Inode} {d1 d2:List aA} (s1:Spot t D1 d1) (s2:Spot t D2 d2) {e:Ent} (he:e ∈ D1.ents) {n2:aA} (hn:aY n2=true) (hf:bE D2 n2=0)
  (hl:D2.ents.length<10∨D1.ino=D2.ino) (hb:¬ (d1++[e.name]) <+: (d2++[n2])) :
  TreeOk (mE t D1 D2 e.name n2 e.ino)∧(∀ b,aT (aD (mE t D1 D2 e.name n2 e.ino)) (d2++n2::b) 1=aT (aD t) (d1++e.name::b) 1) ∧
  (∀ l,¬ (d2++[n2]) <+: l→aT (aD (mE t D1 D2 e.name n2 e.ino)) l 1=if (d1++[e.name]).isPrefixOf l then none else aT (aD t) l 1) ∧
  (∀ b,aT (aD t) (d2++n2::b) 1=none) ∧
  (∀ i,aD (mE t D1 D2 e.name n2 e.ino) i=if i=D2.ino then some (dE (gH D1 D2 e.name) n2 e.ino) else if i=D1.ino then some (bZ D1 e.name) else aD t i):=by
 have hD1:=fV h s1.mem
 have hD2:=fV h s2.mem
 have same:D1.ino=D2.ino→D1=D2:=fun hc=>by rw [hc,hD2] at hD1; injection hD1 with hD1; exact hD1.symm
 have okD1:=h.tab.ok D1 s1.mem
 have okD2:=h.tab.ok D2 s2.mem
 have eok:=(bO h s1.mem).ok e he
 have mk:(gH D1 D2 e.name).kind=2:=by unfold gH; split; exact s1.kind; exact s2.kind
 have mi:(gH D1 D2 e.name).ino=D2.ino:=by unfold gH; split; (rename_i hc; exact hc); rfl
 have ml:(gH D1 D2 e.name).links=D2.links:=by
  unfold gH; split
  ·rename_i hc; show D1.links=D2.links; rw [same hc]
  ·rfl
 have mok:InodeOk (gH D1 D2 e.name):=by unfold gH; split; exact xC okD1.1 _; exact okD2.1
 have msub:∀ f ∈ (gH D1 D2 e.name).ents,f ∈ D2.ents:=by
  intro f hf'
  unfold gH at hf'
  split at hf'
  ·rename_i hc; rw [← same hc]; exact (mem_cutK.1 hf').1
  ·exact hf'
 have mlen:(gH D1 D2 e.name).ents.length<10:=by
  unfold gH
  split
  ·have a:=agk (bO h s1.mem).up he
   have b:=(bO h s1.mem).len
   show (cY D1.ents e.name).length<10
   unfold cY; omega
  ·rename_i hc; exact hl.resolve_right hc
 have hf2:∀ f ∈ D2.ents,f.name≠n2:=(aeV (qH h s2.mem)).1 hf
 have mfn:∀ f ∈ (gH D1 D2 e.name).ents,f.name≠n2:=fun f hf'=>hf2 f (msub f hf')
 have up1:=gA h.tab.up (bZ D1 e.name)
 have up':UpI (mE t D1 D2 e.name n2 e.ino).inodes:=gA up1 _
 have map1:∀ i,aD (aH t (bZ D1 e.name)) i=if D1.ino=i then some (bZ D1 e.name) else aD t i:=fun i=>cE h.tab.up _ i
 have at2:aD (aH t (bZ D1 e.name)) D2.ino=some (gH D1 D2 e.name):=by
  rw [map1]
  unfold gH
  split
  ·rfl
  ·exact hD2
 have pi:(dE (gH D1 D2 e.name) n2 e.ino).ino=D2.ino:=mi
 have map':∀ i,aD (mE t D1 D2 e.name n2 e.ino) i=if i=D2.ino then some (dE (gH D1 D2 e.name) n2 e.ino) else if i=D1.ino then some (bZ D1 e.name) else aD t i:=by
  intro i
  unfold mE
  rw [cE up1,map1,pi]
  by_cases h1:i=D2.ino
  ·rw [lF h1.symm,lF h1]
  ·rw [lI (Ne.symm h1),lI h1]
   by_cases h2:i=D1.ino
   ·rw [lF h2.symm,lF h2]
   ·rw [lI (Ne.symm h2),lI h2]
 have st1:∀ i m,i≠D1.ino∨m≠e.name→cB (aD (aH t (bZ D1 e.name))) i m=cB (aD t) i m:=by
  intro i m him
  by_cases h2:i=D1.ino
  ·have hm:=him.resolve_left (by simp [h2])
   rw [a8 (x:=bZ D1 e.name) (by rw [map1,lF h2.symm]) m,a8 (M:=aD t) (x:=D1) (by rw [h2]; exact hD1) m]
   have:bE (bZ D1 e.name) m=bE D1 m:=by unfold bZ; rw [oM,if_neg hm]
   rw [this]; rfl
  ·exact nA (by rw [map1,lI (Ne.symm h2)]) m
 have sn1:cB (aD (aH t (bZ D1 e.name))) D1.ino e.name=none:=by
  rw [a8 (x:=bZ D1 e.name) (by rw [map1,lF rfl]) e.name]
  have:bE (bZ D1 e.name) e.name=0:=by unfold bZ; rw [oM,if_pos rfl]
  rw [this,lI (by simp)]
 have st2:∀ i m,i≠D2.ino∨m≠n2→cB (aD (mE t D1 D2 e.name n2 e.ino)) i m=cB (aD (aH t (bZ D1 e.name))) i m:=by
  intro i m him
  by_cases h2:i=D2.ino
  ·have hm:=him.resolve_left (by simp [h2])
   rw [a8 (x:=dE (gH D1 D2 e.name) n2 e.ino) (by rw [map',lF h2]) m,a8 (M:=aD (aH t (bZ D1 e.name))) (x:=gH D1 D2 e.name) (by rw [h2]; exact at2) m]
   have:bE (dE (gH D1 D2 e.name) n2 e.ino) m=bE (gH D1 D2 e.name) m:=by unfold dE; rw [mD mok.ents.up mfn,if_neg hm]
   rw [this]; rfl
  ·exact nA (by rw [map',lI h2,map1]; by_cases h3:i=D1.ino; (rw [lF h3,lF h3.symm]); (rw [lI h3,lI (Ne.symm h3)])) m
 have sn2:cB (aD (mE t D1 D2 e.name n2 e.ino)) D2.ino n2=some e.ino:=by
  rw [a8 (x:=dE (gH D1 D2 e.name) n2 e.ino) (by rw [map',lF rfl]) n2]
  have:bE (dE (gH D1 D2 e.name) n2 e.ino) n2=e.ino:=by unfold dE; rw [mD mok.ents.up mfn,if_pos rfl]
  rw [this,lF ⟨mk,by omega⟩]
 have hu1:=gS h s1
 have hu2:=gS h s2
 have hd1:cT (cB (aD t)) d1 1=some D1.ino:=by rw [← cU]; exact s1.at'
 have hd2:cT (cB (aD t)) d2 1=some D2.ino:=by rw [← cU]; exact s2.at'
 have on1:cB (aD t) D1.ino e.name=some e.ino:=by
  rw [a8 hD1,dY (bO h s1.mem).up he,lF ⟨s1.kind,qH h s1.mem e he⟩]
 have off2:cB (aD t) D2.ino n2=none:=by rw [a8 hD2,hf,lI (by simp)]
 have thru:∀ b,cT (cB (aD t)) (d1++e.name::b) 1=cT (cB (aD t)) b e.ino:=by
  intro b
  rw [dK,hd1]
  show (cB (aD t) D1.ino e.name).bind _=_
  rw [on1]; rfl
 have w1:∀ l,cT (cB (aD (aH t (bZ D1 e.name)))) l 1=if (d1++[e.name]).isPrefixOf l then none else cT (cB (aD t)) l 1:=by
  intro l
  by_cases hp:(d1++[e.name]) <+: l
  ·rw [lF (lU2.2 hp)]
   obtain ⟨b,rfl⟩:=hp
   have e1:d1++[e.name]++b=d1++e.name::b:=by simp
   rw [e1,rS st1 hu1 hd1,sn1]; rfl
  ·rw [lI (by rw [lU2]; exact hp),fN st1 hu1 hp]
 have npd2:¬ (d1++[e.name]) <+: d2:=fun hp=>hb (hp.trans (List.prefix_append _ _))
 have hd2':cT (cB (aD (aH t (bZ D1 e.name)))) d2 1=some D2.ino:=by rw [w1,lI (by rw [lU2]; exact npd2),hd2]
 have hu2':∀ a,cT (cB (aD (aH t (bZ D1 e.name)))) a 1=some D2.ino→a=d2:=by
  intro a ha
  rw [w1] at ha
  split at ha
  ·exact absurd ha (by simp)
  ·exact hu2 a ha
 have far1:∀ a,cT (cB (aD t)) a e.ino≠some D1.ino:=by
  intro a ha
  rw [← thru a] at ha
  have:=congrArg List.length (hu1 _ ha)
  simp at this
 have b1:∀ b,cT (cB (aD (aH t (bZ D1 e.name)))) b e.ino=cT (cB (aD t)) b e.ino:=w9 st1 far1
 have far2:∀ a,cT (cB (aD (aH t (bZ D1 e.name)))) a e.ino≠some D2.ino:=by
  intro a ha
  rw [b1,← thru a] at ha
  exact npd2 ⟨a,by rw [← hu2 _ ha]; simp⟩
 have wq:∀ b,aT (aD (mE t D1 D2 e.name n2 e.ino)) (d2++n2::b) 1=aT (aD t) (d1++e.name::b) 1:=by
  intro b
  rw [cU,cU,rS st2 hu2' hd2',sn2,thru]
  show cT _ b e.ino=_
  rw [w9 st2 far2,b1]
 have wo:∀ l,¬ (d2++[n2]) <+: l→aT (aD (mE t D1 D2 e.name n2 e.ino)) l 1=if (d1++[e.name]).isPrefixOf l then none else aT (aD t) l 1:=by
  intro l hp
  rw [cU,cU,fN st2 hu2' hp,w1]
 have wn:∀ b,aT (aD t) (d2++n2::b) 1=none:=by
  intro b
  rw [cU,dK,hd2]
  show (cB (aD t) D2.ino n2).bind _=none
  rw [off2]; rfl
 refine ⟨?_,wq,wo,wn,map'⟩
 have lk:∀ i,bD (mE t D1 D2 e.name n2 e.ino) i=bD t i:=by
  intro i
  have a1:=gB h.tab.up (bZ D1 e.name) i
  have a2:(List.map Ent.ino (cY D1.ents e.name)).count i+(if e.ino=i then 1 else 0)=(D1.ents.map Ent.ino).count i:=tZ (bO h s1.mem).up he i
  have a3:aD t (bZ D1 e.name).ino=some D1:=hD1
  have a4:=gB up1 (dE (gH D1 D2 e.name) n2 e.ino) i
  rw [pi,at2] at a4
  rw [a3] at a1
  have a5:(List.map Ent.ino (dL (gH D1 D2 e.name).ents ⟨n2,e.ino⟩)).count i=((gH D1 D2 e.name).ents.map Ent.ino).count i+if e.ino=i then 1 else 0:=j4 _ ⟨n2,e.ino⟩ i
  have c1:fG (bZ D1 e.name)=(cY D1.ents e.name).map Ent.ino:=by rw [fG,lF (show (bZ D1 e.name).kind=2 from s1.kind)]; rfl
  have c2:fG D1=D1.ents.map Ent.ino:=by rw [fG,lF s1.kind]
  have c3:fG (dE (gH D1 D2 e.name) n2 e.ino)=(dL (gH D1 D2 e.name).ents ⟨n2,e.ino⟩).map Ent.ino:=by rw [fG,lF (show (dE (gH D1 D2 e.name) n2 e.ino).kind=2 from mk)]; rfl
  have c4:fG (gH D1 D2 e.name)=(gH D1 D2 e.name).ents.map Ent.ino:=by rw [fG,lF mk]
  simp only [lC,lY,c1,c2,c3,c4] at a1 a4
  have e0:bD (mE t D1 D2 e.name n2 e.ino) i=bD (aH (aH t (bZ D1 e.name)) (dE (gH D1 D2 e.name) n2 e.ino)) i:=rfl
  omega
 have mem':∀ x,x ∈ (mE t D1 D2 e.name n2 e.ino).inodes→x=dE (gH D1 D2 e.name) n2 e.ino∨x=bZ D1 e.name∨x ∈ t.inodes:=by
  intro x hx
  have hx':=(rT up' x).1 hx
  rw [map'] at hx'
  split at hx'
  ·injection hx' with hx'; exact .inl hx'.symm
  ·split at hx'
   ·injection hx' with hx'; exact .inr (.inl hx'.symm)
   ·exact .inr (.inr (aK hx').1)
 have len':(mE t D1 D2 e.name n2 e.ino).inodes.length≤30:=by
  have a0:=h.tab.len
  have a1:=kI h.tab.up (bZ D1 e.name)
  have a2:(t.inodes.find? fun y=>decide (y.ino=(bZ D1 e.name).ino))=some D1:=hD1
  rw [a2] at a1
  simp only [lH2,lQ] at a1
  have a3:=kI up1 (dE (gH D1 D2 e.name) n2 e.ino)
  have a4:((aH t (bZ D1 e.name)).inodes.find? fun y=>decide (y.ino=(dE (gH D1 D2 e.name) n2 e.ino).ino))=some (gH D1 D2 e.name):=by
   show aD (aH t (bZ D1 e.name)) (dE (gH D1 D2 e.name) n2 e.ino).ino=_
   rw [pi]; exact at2
  rw [a4] at a3
  simp only [lH2,lQ] at a3
  have e4:(aH t (bZ D1 e.name)).inodes.length=(bR t.inodes (bZ D1 e.name)).length:=rfl
  show (bR (aH t (bZ D1 e.name)).inodes (dE (gH D1 D2 e.name) n2 e.ino)).length≤30
  omega
 have isS:∀ i,(aD t i).isSome=true→(aD (mE t D1 D2 e.name n2 e.ino) i).isSome=true:=by
  intro i hi
  rw [map']
  split
  ·rfl
  ·split
   ·rfl
   ·exact hi
 refine xB ⟨len',h.tab.next,fun x hx'=>?_,up',?_⟩ (fun x hx'=>?_) (fun x hx' f hf'=>?_) fun x hx'=>?_
 ·show InodeOk x∧x.ino<t.next
  rcases mem' x hx' with rfl | rfl | hx'
  ·exact ⟨xD mok mk hn eok.2 mlen mfn,by rw [pi]; exact okD2.2⟩
  ·exact ⟨xC okD1.1 _,okD1.2⟩
  ·exact h.tab.ok x hx'
 ·obtain ⟨r,r1,r2,_⟩:=cR h
  by_cases hr:(1:Int)=D2.ino
  ·exact ⟨dE (gH D1 D2 e.name) n2 e.ino,by rw [map',lF hr],mk⟩
  ·by_cases hr1:(1:Int)=D1.ino
   ·exact ⟨bZ D1 e.name,by rw [map',lI hr,lF hr1],s1.kind⟩
   ·exact ⟨r,by rw [map',lI hr,lI hr1]; exact r1,r2⟩
 ·rw [lk]
  rcases mem' x hx' with rfl | rfl | hx'
  ·rw [pi]
   show _=(gH D1 D2 e.name).links
   rw [ml]; exact h.links D2 s2.mem
  ·exact h.links D1 s1.mem
  ·exact h.links x hx'
 ·rcases mem' x hx' with rfl | rfl | hx'
  ·rcases mem_putK.1 hf' with rfl | hf'
   ·exact isS _ (h.there D1 s1.mem e he)
   ·exact isS _ (h.there D2 s2.mem f (msub f hf'))
  ·exact isS _ (h.there D1 s1.mem f (mem_cutK.1 hf').1)
  ·exact isS _ (h.there x hx' f hf')
 ·have other:∀ y,y ∈ t.inodes→∃ l,aT (aD (mE t D1 D2 e.name n2 e.ino)) l 1=some y.ino:=by
   intro y hy
   obtain ⟨l,hl'⟩:=gR h hy
   by_cases hp:(d1++[e.name]) <+: l
   ·obtain ⟨b,rfl⟩:=hp
    have e1:d1++[e.name]++b=d1++e.name::b:=by simp
    exact ⟨d2++n2::b,by rw [wq,← e1]; exact hl'⟩
   ·refine ⟨l,?_⟩
    rw [wo,lI (by rw [lU2]; exact hp),hl']
    rintro ⟨b,rfl⟩
    have e1:d2++[n2]++b=d2++n2::b:=by simp
    rw [e1,wn] at hl'
    exact absurd hl' (by simp)
  rcases mem' x hx' with rfl | rfl | hx'
  ·rw [pi]; exact other D2 s2.mem
  ·exact other D1 s1.mem
  ·exact other x hx'
theorem rU {t:Tab} (h:TreeOk t) {X Y:Inode} (hX:X ∈ t.inodes) (e1:Y.ino=X.ino) (e2:Y.kind=X.kind) (e3:Y.links=X.links) (e4:Y.ents=X.ents) (ok:InodeOk Y) :
  TreeOk (aH t Y)∧(∀ l i,aT (aD (aH t Y)) l i=aT (aD t) l i)∧(∀ i,aD (aH t Y) i=if i=X.ino then some Y else aD t i):=by
 have aX:=fV h hX
 have up':=gA h.tab.up Y
 have map':∀ i,aD (aH t Y) i=if i=X.ino then some Y else aD t i:=by
  intro i
  rw [cE h.tab.up,e1]
  by_cases h1:i=X.ino
  ·rw [lF h1.symm,lF h1]
  ·rw [lI (Ne.symm h1),lI h1]
 have eE:∀ m,bE Y m=bE X m:=fun m=>by unfold bE; rw [e4]
 have st:cB (aD (aH t Y))=cB (aD t):=by
  funext i m
  by_cases h1:i=X.ino
  ·rw [a8 (x:=Y) (by rw [map',lF h1]) m,a8 (M:=aD t) (x:=X) (by rw [h1]; exact aX) m,eE,e2]
  ·exact nA (by rw [map',lI h1]) m
 have wk:∀ l i,aT (aD (aH t Y)) l i=aT (aD t) l i:=fun l i=>by rw [cU,cU,st]
 refine ⟨?_,wk,map'⟩
 have nb:fG Y=fG X:=by unfold fG; rw [e2,e4]
 have lk:∀ i,bD (aH t Y) i=bD t i:=by
  intro i
  have a1:=gB h.tab.up Y i
  rw [e1,aX,nb] at a1
  simp only [lC,lY] at a1
  omega
 have mem':∀ x,x ∈ (aH t Y).inodes→x=Y∨x ∈ t.inodes:=by
  intro x hx
  have hx':=(rT up' x).1 hx
  rw [map'] at hx'
  split at hx'
  ·injection hx' with hx'; exact .inl hx'.symm
  ·exact .inr (aK hx').1
 have isS:∀ i,(aD t i).isSome=true→(aD (aH t Y) i).isSome=true:=by
  intro i hi
  rw [map']
  split
  ·rfl
  ·exact hi
 have len':(aH t Y).inodes.length≤30:=by
  have a0:=h.tab.len
  have a1:=kI h.tab.up Y
  have a2:(t.inodes.find? fun y=>decide (y.ino=Y.ino))=some X:=by rw [e1]; exact aX
  rw [a2] at a1
  simp only [lH2,lQ] at a1
  show (bR t.inodes Y).length≤30
  omega
 refine xB ⟨len',h.tab.next,fun x hx=>?_,up',?_⟩ (fun x hx=>?_) (fun x hx f hf=>?_) fun x hx=>?_
 ·show InodeOk x∧x.ino<t.next
  rcases mem' x hx with rfl | hx
  ·exact ⟨ok,by rw [e1]; exact (h.tab.ok X hX).2⟩
  ·exact h.tab.ok x hx
 ·obtain ⟨r,r1,r2,_⟩:=cR h
  by_cases hr:(1:Int)=X.ino
  ·refine ⟨Y,by rw [map',lF hr],?_⟩
   rw [hr,aX] at r1
   injection r1 with r1
   rw [e2,r1]; exact r2
  ·exact ⟨r,by rw [map',lI hr]; exact r1,r2⟩
 ·rw [lk]
  rcases mem' x hx with rfl | hx
  ·rw [e1,e3]; exact h.links X hX
  ·exact h.links x hx
 ·rcases mem' x hx with rfl | hx
  ·rw [e4] at hf; exact isS _ (h.there X hX f hf)
  ·exact isS _ (h.there x hx f hf)
 ·have other:∀ y,y ∈ t.inodes→∃ l,aT (aD (aH t Y)) l 1=some y.ino:=by
   intro y hy
   obtain ⟨l,hl⟩:=gR h hy
   exact ⟨l,by rw [wk]; exact hl⟩
  rcases mem' x hx with rfl | hx
  ·rw [e1]; exact other X hX
  ·exact other x hx
def iT (t:Tab):Nat→Inode→List (List aA)
 | 0,_=>[]
 | k+1,x=>x.ents.flatMap fun e=>[e.name]::(((aD t e.ino).map (iT t k)).getD []).map (e.name::·)
theorem mF {t:Tab} (h:TreeOk t) (k:Nat):∀ (x:Inode),x ∈ t.inodes→∀ l,l ∈ iT t k x↔l≠[]∧l.length≤k∧(aT (aD t) l x.ino).isSome=true:=by
 induction k with
 | zero=>
  intro x hx l
  constructor
  ·intro hl; exact absurd hl (by simp [iT])
  ·rintro ⟨h1,h2,_⟩; exact absurd (lQ1.1 (Nat.le_zero.1 h2)) h1
 | succ k ih=>
  intro x hx l
  have ax:=fV h hx
  rw [iT,lE3]
  constructor
  ·rintro ⟨e,he,hl⟩
   have kx:x.kind=2:=by
    apply Classical.byContradiction
    intro hk
    rw [(mB h hx hk).1] at he
    exact absurd he (by simp)
   obtain ⟨y,hy⟩:=lZ.1 (h.there x hx e he)
   obtain ⟨y1,y2⟩:=aK hy
   have hw:∀ b,aT (aD t) (e.name::b) x.ino=aT (aD t) b e.ino:=fun b=>by
    rw [aT,ax]
    show (if x.kind=2∧bE x e.name≠0 then _ else none)=_
    rw [dY (bO h hx).up he,lF ⟨kx,qH h hx e he⟩]
   rw [hy] at hl
   simp only [lC,lY] at hl
   rcases lG.1 hl with rfl | hl
   ·exact ⟨by simp,by simp,by rw [hw]; rfl⟩
   ·obtain ⟨b,hb,rfl⟩:=lZ1.1 hl
    obtain ⟨_,b2,b3⟩:=(ih y y1 b).1 hb
    exact ⟨by simp,by simp only [lW]; omega,by rw [hw,← y2]; exact b3⟩
  ·rintro ⟨h1,h2,h3⟩
   cases l with
   | nil=>exact absurd rfl h1
   | cons n b=>
    rw [aT,ax] at h3
    simp only at h3
    by_cases hc:x.kind=2∧bE x n≠0
    ·rw [lF hc] at h3
     obtain ⟨e,he,e1,e2⟩:=tB hc.2
     refine ⟨e,he,?_⟩
     obtain ⟨y,hy⟩:=lZ.1 (h.there x hx e he)
     obtain ⟨y1,y2⟩:=aK hy
     rw [hy]
     simp only [lC,lY]
     cases b with
     | nil=>rw [← e1]; exact List.mem_cons_self
     | cons m b=>
      refine List.mem_cons_of_mem _ (lZ1.2 ⟨m::b,(ih y y1 _).2 ⟨by simp,by simpa using h2,?_⟩,by rw [e1]⟩)
      rw [y2,e2]; exact h3
    ·rw [lI hc] at h3; exact absurd h3 (by simp)
theorem t6 {t:Tab} (h:TreeOk t) (k:Nat):∀ (x:Inode),x ∈ t.inodes→(iT t k x).Nodup:=by
 induction k with
 | zero=>intro x _; simp [iT]
 | succ k ih=>
  intro x hx
  rw [iT,List.Nodup,List.pairwise_flatMap]
  refine ⟨fun e he=>?_,?_⟩
  ·obtain ⟨y,hy⟩:=lZ.1 (h.there x hx e he)
   obtain ⟨y1,y2⟩:=aK hy
   rw [hy]
   simp only [lC,lY]
   refine lD1.2 ⟨fun b hb=>?_,?_⟩
   ·obtain ⟨c,hc,rfl⟩:=lZ1.1 hb
    have:=((mF h k y y1 c).1 hc).1
    intro e'
    injection e' with _ e'
    exact this e'.symm
   ·rw [lT4]
    exact (ih y y1).imp fun hne e'=>hne (by injection e')
  ·refine (bO h hx).up.imp fun {a b} hab u hu v hv=>?_
   have hd:∀ (e:Ent) (u:List aA),u ∈ ([e.name]::(((aD t e.ino).map (iT t k)).getD []).map (e.name::·))→u.head?=some e.name:=by
    intro e u hu
    rcases lG.1 hu with rfl | hu
    ·rfl
    ·obtain ⟨c,_,rfl⟩:=lZ1.1 hu; rfl
   rintro rfl
   have h1:=hd a u hu
   rw [hd b u hv] at h1
   injection h1 with h1
   rw [h1] at hab
   exact absurd hab (lB4 _)
def mG (t:Tab):List aA:=(((aD t 1).map (iT t 30)).getD []).map c6
theorem zW {t:Tab} (h:TreeOk t) (s:aA):s ∈ mG t↔∃ l,l≠[]∧s=c6 l∧(aT (aD t) l 1).isSome=true:=by
 obtain ⟨r,r1,_,r3⟩:=cR h
 have r4:=(aK r1).2
 rw [mG,r1]
 simp only [lC,lY,lZ1]
 constructor
 ·rintro ⟨l,hl,rfl⟩
  obtain ⟨a,_,c⟩:=(mF h 30 r r3 l).1 hl
  exact ⟨l,a,rfl,by rw [← r4]; exact c⟩
 ·rintro ⟨l,a,rfl,c⟩
  refine ⟨l,(mF h 30 r r3 l).2 ⟨a,?_,by rw [r4]; exact c⟩,rfl⟩
  obtain ⟨i,hi⟩:=lZ.1 c
  have:=(jC h hi).1
  have:=h.tab.len
  omega
theorem acW {t:Tab} (h:TreeOk t):(mG t).Nodup:=by
 obtain ⟨r,r1,_,r3⟩:=cR h
 have r4:=(aK r1).2
 rw [mG,r1]
 simp only [lC,lY]
 rw [List.Nodup,lT4]
 refine List.Pairwise.imp_of_mem ?_ (t6 h 30 r r3)
 intro a b ha hb hne hj
 have nm:∀ l,l ∈ iT t 30 r→∀ n ∈ l,aY n=true:=by
  intro l hl
  obtain ⟨i,hi⟩:=lZ.1 ((mF h 30 r r3 l).1 hl).2.2
  rw [r4] at hi
  exact (jC h hi).2
 exact hne (wZ (nm a ha) (nm b hb) hj)
def c7 (t:Tab):List aA:=(mG t).mergeSort fun x y=>decide (x≤y)
theorem qL {t:Tab} (h:TreeOk t) (s:aA):s ∈ c7 t↔∃ l,l≠[]∧s=c6 l∧(aT (aD t) l 1).isSome=true:=by
 rw [c7,(List.mergeSort_perm _ _).mem_iff,zW h]
theorem tD {t:Tab} (h:TreeOk t):(c7 t).Pairwise fun a b=>a<b:=by
 have h1:=List.pairwise_mergeSort (le:=fun x y:aA=>decide (x≤y)) (by intro a b c; simp only [decide_eq_true_eq]; exact fun h1 h2=>List.le_trans h1 h2) (by intro a b; simp only [lE4,decide_eq_true_eq]; exact List.le_total a b) (mG t)
 have h2:(c7 t).Nodup:=(List.mergeSort_perm _ _).nodup_iff.2 (acW h)
 exact (h1.and h2).imp fun ⟨a,b⟩=>by
  simp only [decide_eq_true_eq] at a
  rcases List.le_iff_lt_or_eq.1 a with h' | h'
  ·exact h'
  ·exact absurd h' b
theorem tE {t:Tab} (h:TreeOk t) {l:List aA} (hw:(aT (aD t) l 1).isSome=true):∀ n ∈ l,aY n=true:=by
 obtain ⟨i,hi⟩:=lZ.1 hw
 exact (jC h hi).2
theorem uG {t:Tab} (h:TreeOk t) {l:List aA} (hl:∀ n ∈ l,aY n=true) (hne:l≠[]):c6 l ∈ c7 t↔(aT (aD t) l 1).isSome=true:=by
 rw [qL h]
 constructor
 ·rintro ⟨m,_,e,hw⟩
  rw [wZ hl (tE h hw) e]; exact hw
 ·exact fun hw=>⟨l,hne,rfl,hw⟩
theorem aeZ {t u:Tab} (ht:TreeOk t) (hu:TreeOk u) {p:List aA} (hp:p≠[]) (hw:(aT (aD t) p 1).isSome=true)
  (h:∀ l,aT (aD u) l 1=if l=p then none else aT (aD t) l 1):c7 u=agj (fun s:aA=>s) (c7 t) (c6 p)∧(c7 u).length+1=(c7 t).length∧c6 p ∉ c7 u:=by
 have hn:=tE ht hw
 have e:c7 u=agj (fun s:aA=>s) (c7 t) (c6 p):=by
  refine aka (key:=fun s:aA=>s) (tD hu) (qJ (tD ht) _) fun s=>?_
  rw [qL hu,mem_cutK,qL ht]
  constructor
  ·rintro ⟨l,a,rfl,c⟩
   rw [h] at c
   by_cases hl:l=p
   ·rw [lF hl] at c; exact absurd c (by simp)
   ·rw [lI hl] at c
    exact ⟨⟨l,a,rfl,c⟩,fun hj=>hl (wZ (tE ht c) hn hj)⟩
  ·rintro ⟨⟨l,a,rfl,c⟩,hj⟩
   refine ⟨l,a,rfl,?_⟩
   rw [h,lI (by rintro rfl; exact hj rfl)]; exact c
 refine ⟨e,?_,?_⟩
 ·rw [e]
  exact agk (key:=fun s:aA=>s) (tD ht) ((uG ht hn hp).2 hw)
 ·rw [e,mem_cutK]; exact fun hc=>hc.2 rfl
def inR (x a b:Int):Bool:=decide (a≤x∧x≤b)
section
theorem iX (a b:aA):strLt a b=decide (a<b):=bytesLess_eq a b
section
variable {α:Type} (p:Nat→α→Bool) (lt:α→α→Bool)
def ake (l:List α) (x:α):Nat→Bool
 | 0=>true
 | k+1=>match l[k]? with
  | none=>true
  | some y=>lt y x
def dM (l:List α) (i:Nat):Bool:=match l[i]? with
 | none=>true
 | some x=>p i x && ake lt l x i
def abd (l:List α):Bool:=(List.range l.length).all (dM p lt l)
variable {p lt}
theorem pD {l:List α} {i:Nat} (h:i<l.length) (e:dM p lt l i=false):abd p lt l=false:=by
 rw [abd,lH4]
 exact ⟨i,by simpa using h,by simp [e]⟩
theorem jP {l:List α} (h:∀ i,i<l.length→dM p lt l i=true):abd p lt l=true:=by
 rw [abd,lA1]
 intro k hk
 exact h k (by simpa using hk)
theorem fO {l:List α} (h:0<l.length):dM p lt l 0=p 0 l[0]:=by
 rw [dM,lJ h]; simp [ake]
theorem bY {l:List α} {i:Nat} (h:i+1<l.length):dM p lt l (i+1)=(p (i+1) l[i+1] && lt l[i] l[i+1]):=by
 rw [dM,lJ h]
 simp only [ake]
 rw [lJ (show i<l.length by omega)]
theorem rV (htr:∀ a b c,lt a b=true→lt b c=true→lt a c=true) (l:List α):abd p lt l=true↔(∀ i,(h:i<l.length)→p i l[i]=true)∧l.Pairwise (fun a b=>lt a b=true):=by
 constructor
 ·intro h
  have h':∀ i,i<l.length→dM p lt l i=true:=by
   intro i hi
   rw [abd,lA1] at h
   exact h i (by simpa using hi)
  refine ⟨fun i hi=>?_,?_⟩
  ·have:=h' i hi
   rw [dM,lJ hi] at this
   simp only [lP] at this
   exact this.1
  ·rw [lK3]
   intro i j hi hj hij
   induction j with
   | zero=>omega
   | succ j ih=>
    have hs:=h' (j+1) hj
    rw [bY hj,lP] at hs
    by_cases e:i=j
    ·subst e; exact hs.2
    ·exact htr _ _ _ (ih (by omega) (by omega)) hs.2
 ·rintro ⟨h1,h2⟩
  refine jP fun i hi=>?_
  cases i with
  | zero=>rw [fO hi]; exact h1 0 hi
  | succ i=>
   rw [bY hi,lP]
   exact ⟨h1 _ hi,lK3.1 h2 i (i+1) (by omega) hi (by omega)⟩
end
theorem apL:∀ a b c:aA,decide (a<b)=true→decide (b<c)=true→decide (a<c)=true:=by
 intro a b c h1 h2
 simp only [decide_eq_true_eq] at *
 exact List.lt_trans h1 h2
theorem ae0 {α:Type} {l:List α} {p:α→Prop}:(∀ i,(h:i<l.length)→p l[i])↔∀ x ∈ l,p x:=by
 constructor
 ·intro h x hx
  obtain ⟨i,hi,rfl⟩:=lN1 hx
  exact h i hi
 ·intro h i hi; exact h _ (lN hi)
def rW (a:Attr):Bool:=aY a.name && inR a.val.length 1 16
def oO (a b:Attr):Bool:=decide (a.name<b.name)
def tF (l:List Attr):Bool:=abd (fun _=>rW) oO l
def mH (l:List Attr):Bool:=tF l && decide (l.length≤4)
def agm (e:Ent):Bool:=aY e.name && inR e.ino 2 1000
def xE (a b:Ent):Bool:=decide (a.name<b.name)
def zY (l:List Ent):Bool:=abd (fun _=>agm) xE l
def xF (l:List Ent):Bool:=zY l && decide (l.length≤10)
def tG (x:Inode):Bool:=if x.kind=1 then decide (x.ents.length=0) else if x.kind=2 then decide (x.data.length=0) && decide (x.links≤1) else false
def dN (x:Inode):Bool:=inR x.ino 1 1000 && (inR x.links 0 1000 && (decide (x.links=0) == decide (x.ino=1)) && (decide (x.data.length≤100) && (xF x.ents && (mH x.attrs && tG x))))
def jQ (t:Tab) (x:Inode):Bool:=dN x && decide (x.ino<t.next)
def gT (a b:Inode):Bool:=decide (a.ino<b.ino)
def nB (t:Tab):Bool:=abd (fun _=>jQ t) gT t.inodes
def rX (t:Tab):Bool:=match aD t 1 with
 | none=>false
 | some x=>decide (x.kind=2)
def zZ (t:Tab):Bool:=decide (t.inodes.length≤30) && (inR t.next 2 1000 && (nB t && rX t))
def z6 (t:Tab) (x:Inode):Bool:=x.ents.all fun e=>(aD t e.ino).isSome
def mI (t:Tab) (x:Inode):Bool:=decide (x.links=(bD t x.ino:Nat)) && z6 t x
def bA (t:Tab):Bool:=zZ t && (decide ((eP t).length=t.inodes.length) && t.inodes.all (mI t))
theorem jR (x a b:Int):inR x a b=true↔a≤x∧x≤b:=by simp [inR]
theorem ahX (l:List Attr):mH l=true↔AttrsOk l:=by
 rw [mH,lP,tF,rV (lt:=oO) (fun a b c h1 h2=>apL a.name b.name c.name h1 h2)]
 simp only [rW,oO,lP,decide_eq_true_eq,jR]
 rw [ae0 (p:=fun a:Attr=>aY a.name=true∧(1:Int)≤(a.val.length:Int)∧(a.val.length:Int)≤16)]
 constructor
 ·rintro ⟨⟨h1,h2⟩,h3⟩
  exact ⟨h3,fun a ha=>⟨(h1 a ha).1,by have:=(h1 a ha).2.1; omega,by have:=(h1 a ha).2.2; omega⟩,h2⟩
 ·rintro ⟨h3,h1,h2⟩
  exact ⟨⟨fun a ha=>⟨(h1 a ha).1,by have:=(h1 a ha).2.1; omega,by have:=(h1 a ha).2.2; omega⟩,h2⟩,h3⟩
theorem akf (l:List Ent):xF l=true↔EntsOk l:=by
 rw [xF,lP,zY,rV (lt:=xE) (fun a b c h1 h2=>apL a.name b.name c.name h1 h2)]
 simp only [agm,xE,lP,decide_eq_true_eq,jR]
 rw [ae0 (p:=fun a:Ent=>aY a.name=true∧(2:Int)≤a.ino∧a.ino≤1000)]
 constructor
 ·rintro ⟨⟨h1,h2⟩,h3⟩; exact ⟨h3,h1,h2⟩
 ·rintro ⟨h3,h1,h2⟩; exact ⟨⟨h1,h2⟩,h3⟩
theorem akg (x:Inode):tG x=true↔(x.kind=1∧x.ents=[])∨(x.kind=2∧x.data=[]∧x.links≤1):=by
 unfold tG
 by_cases h1:x.kind=1
 ·rw [lF h1]
  simp only [decide_eq_true_eq,lQ1]
  constructor
  ·exact fun h=>.inl ⟨h1,h⟩
  ·rintro (⟨_,h⟩ | ⟨h,_⟩)
   ·exact h
   ·omega
 ·rw [lI h1]
  by_cases h2:x.kind=2
  ·rw [lF h2]
   simp only [lP,decide_eq_true_eq,lQ1]
   constructor
   ·exact fun h=>.inr ⟨h2,h⟩
   ·rintro (⟨h,_⟩ | ⟨_,h⟩)
    ·exact absurd h h1
    ·exact h
  ·rw [lI h2]
   constructor
   ·intro h; cases h
   ·rintro (⟨h,_⟩ | ⟨h,_⟩)
    ·exact absurd h h1
    ·exact absurd h h2
theorem z7 (x:Inode):dN x=true↔InodeOk x:=by
 unfold dN
 simp only [lP,jR,decide_eq_true_eq,akf,ahX,akg,beq_iff_eq,decide_eq_decide]
 constructor
 ·rintro ⟨h1,⟨h2,h3⟩,h4,h5,h6,h7⟩; exact ⟨h1,h2,h3,h4,h5,h6,h7⟩
 ·rintro ⟨h1,h2,h3,h4,h5,h6,h7⟩; exact ⟨h1,⟨h2,h3⟩,h4,h5,h6,h7⟩
theorem akh (t:Tab):rX t=true↔∃ x,aD t 1=some x∧x.kind=2:=by
 unfold rX
 cases aD t 1 with
 | none=>simp
 | some x=>simp
theorem amh (t:Tab):zZ t=true↔TabOk t:=by
 unfold zZ
 rw [nB]
 simp only [lP,decide_eq_true_eq,jR,akh]
 rw [rV (fun a b c h1 h2=>by simp only [gT,decide_eq_true_eq] at *; omega)]
 simp only [jQ,gT,lP,decide_eq_true_eq,z7]
 rw [ae0 (p:=fun x:Inode=>InodeOk x∧x.ino<t.next)]
 constructor
 ·rintro ⟨h1,h2,⟨h3,h4⟩,h5⟩; exact ⟨h1,h2,h3,h4,h5⟩
 ·rintro ⟨h1,h2,h3,h4,h5⟩; exact ⟨h1,h2,⟨h3,h4⟩,h5⟩
theorem aP (t:Tab):bA t=true↔TreeOk t:=by
 unfold bA
 simp only [lP,decide_eq_true_eq,amh,lA1,mI,z6]
 constructor
 ·rintro ⟨h1,h2,h3⟩; exact ⟨h1,h2,fun x hx=>(h3 x hx).1.symm,fun x hx=>(h3 x hx).2⟩
 ·rintro ⟨h1,h2,h3,h4⟩; exact ⟨h1,h2,fun x hx=>⟨(h3 x hx).symm,h4 x hx⟩⟩
def abe (o:Option Nat):Int:=match o with
 | none=>-1
 | some i=>i
end
def zN:Inode:={ ino:=0,kind:=0,links:=0,data:=[],ents:=[],attrs:=[] }
abbrev Rs (α:Type):=Except Int α
def exC {α:Type}:Rs α→Int
 | .ok _=>0
 | .error c=>c
def exI:Rs Inode→Inode
 | .ok x=>x
 | .error _=>zN
def cM (t:Tab) (s:aA):Rs Inode:=if (pA t s).2=0 then (match aD t (pA t s).1 with
 | some x=>.ok x
 | none=>.error 2) else .error (pA t s).2
def nC (t:Tab) (s:aA):Rs Inode:=match cM t s with
 | .ok x=>if x.kind=1 then .ok x else .error 3
 | .error c=>.error c
def eQ (t:Tab) (s:aA):Rs Inode:=match cM t (aJ s).1 with
 | .ok D=>if D.kind=2 then .ok D else .error 3
 | .error c=>.error c
def yD (t:Tab) (s:aA) (from':Int):Rs Inode:=match eQ t s with
 | .ok D=>if bE D (aJ s).2.1=0 then (if D.ents.length<10∨D.ino=from' then .ok D else .error 5) else .error 4
 | .error c=>.error c
def gC (s:aA):Bool:=(aC s).2
def jD (s:aA):Bool:=(aJ s).2.2
def aQ (s:aA):aA:=(aJ s).2.1
def fA (t:Tab) (s:aA) (k:Int):Tab × Int:=if bA t=true∧jD s=true then (match yD t s 0 with
 | .ok D=>if t.inodes.length<30∧t.next<1000 then (oN t D (aQ s) k,0) else (t,5)
 | .error c=>(t,c)) else (t,1)
def eH (t:Tab) (s:aA):Tab × Int:=if bA t=true∧jD s=true then (match nC t s with
 | .ok X=>(bT t (exI (eQ t s)) (aQ s) X,0)
 | .error c=>(t,c)) else (t,1)
def bB (t:Tab) (s:aA):Tab × Int:=if bA t=true∧jD s=true then (match cM t s with
 | .ok X=>if X.kind=2 then (if X.ents=[] then (fC (aH t (bZ (exI (eQ t s)) (aQ s))) X.ino,0) else (t,6)) else (t,3)
 | .error c=>(t,c)) else (t,1)
def mJ (t:Tab) (p q:aA):Tab × Int:=if bA t=true∧gC p=true∧jD q=true then (match nC t p with
 | .ok X=>(match yD t q 0 with
  | .ok D=>(nV t D (aQ q) X,0)
  | .error c=>(t,c))
 | .error c=>(t,c)) else (t,1)
def oP (t:Tab) (p q:aA):Tab × Int:=if bA t=true∧jD p=true∧jD q=true then (match cM t p with
 | .ok X=>if aa9 p q=true then (t,6) else (match yD t q (exI (eQ t p)).ino with
  | .ok D=>(mE t (exI (eQ t p)) D (aQ p) (aQ q) X.ino,0)
  | .error c=>(t,c))
 | .error c=>(t,c)) else (t,1)
def abL (b:aA) (n:Nat):aA:=b++List.replicate (n-b.length) 0
def akZ (b:aA) (o:Nat) (d:aA):aA:=(abL b (o+d.length)).take o++d++b.drop (o+d.length)
def xG (X:Inode) (b:aA):Inode:={ X with data:=b }
def uH (X:Inode) (l:List Attr):Inode:={ X with attrs:=l }
def gU (t:Tab) (p:aA) (o:Int) (d:aA):Tab × Int:=if bA t=true∧gC p=true∧inR o 0 100=true then (match nC t p with
 | .ok X=>if o+(d.length:Nat)≤100 then (aH t (xG X (akZ X.data o.toNat d)),0) else (t,5)
 | .error c=>(t,c)) else (t,1)
def xH (t:Tab) (p:aA) (n:Int):Tab × Int:=if bA t=true∧gC p=true∧inR n 0 100=true then (match nC t p with
 | .ok X=>(aH t (xG X ((abL X.data n.toNat).take n.toNat)),0)
 | .error c=>(t,c)) else (t,1)
def rY (l:List Attr) (n:aA):List Attr:=agj Attr.name l n
def agn (l:List Attr) (a:Attr):List Attr:=xA Attr.name l a
def oQ (t:Tab) (p n v:aA):Tab × Int:=if bA t=true∧gC p=true∧aY n=true∧v.length≤16 then (match cM t p with
 | .ok X=>if v=[] then (aH t (uH X (rY X.attrs n)),0) else if (rY X.attrs n).length<4 then (aH t (uH X (agn (rY X.attrs n) ⟨n,v⟩)),0) else (t,5)
 | .error c=>(t,c)) else (t,1)
theorem ahY (l:List Inode) (x:Inode):(bR l x).length≤l.length+1:=by
 induction l with
 | nil=>simp [bR]
 | cons y l ih=>
  rw [bR]
  split
  ·simp
  ·split <;> simp
   omega
theorem ahZ (f:Inode→Nat) (l:List Inode) (x:Inode):((bR l x).map f).sum≤(l.map f).sum+f x:=by
 induction l with
 | nil=>simp [bR]
 | cons y l ih=>
  rw [bR]
  split
  ·simp only [lO,lC2]; omega
  ·split <;> simp only [lO,lC2] <;> omega
theorem apM (t:Tab):t.sz=t.inodes.length+(t.inodes.map Inode.sz).sum:=rfl
theorem mK (t:Tab) (x:Inode):(aH t x).sz≤t.sz+x.sz+1:=by
 rw [apM,apM]
 have:=ahY t.inodes x
 have:=ahZ Inode.sz t.inodes x
 show (bR t.inodes x).length+((bR t.inodes x).map Inode.sz).sum≤_
 omega
theorem z8 {α:Type} (f:α→Nat) (p:α→Bool) (l:List α):((l.filter p).map f).sum≤(l.map f).sum:=by
 induction l with
 | nil=>simp
 | cons y l ih=>rw [lN4]; split <;> simp <;> omega
theorem aki {α:Type} (f:α→Nat) (l:List α) (c n:Nat) (hn:l.length≤n) (h:∀ x ∈ l,f x≤c):szM f l≤n+n*c:=by
 have:=tC f l c h
 have h2:l.length*c≤n*c:=lM1 c hn
 simp only [szM]; omega
theorem ae1 {x:Inode} (h:InodeOk x):x.sz≤400:=by
 have e:x.sz=x.data.length+szM Ent.sz x.ents+szM Attr.sz x.attrs:=rfl
 have h1:=aki Ent.sz x.ents 14 10 h.ents.len fun e he=>(jZ (h.ents.ok e he).1).2
 have h2:=aki Attr.sz x.attrs 30 4 h.attrs.len fun a ha=>by
  have:=(jZ (h.attrs.ok a ha).1).2
  have:=(h.attrs.ok a ha).2.2
  show a.name.length+a.val.length≤30
  omega
 have:=h.data
 omega
theorem akj {t:Tab} (h:TabOk t):t.sz≤12030:=aki Inode.sz t.inodes 400 30 h.len fun x hx=>ae1 (h.ok x hx).1
theorem fW {t:Tab} (h:bA t=true):t.sz≤12030:=akj ((aP t).1 h).tab
theorem qM {t:Tab} {s:aA} {x:Inode} (h:cM t s=.ok x):pA t s=(x.ino,0)∧aD t x.ino=some x:=by
 unfold cM at h
 split at h
 ·rename_i e
  cases hx:aD t (pA t s).1 with
  | none=>rw [hx] at h; cases h
  | some y=>
   rw [hx] at h
   cases h
   have:=(aK hx).2
   rw [this]
   exact ⟨by rw [← e],hx⟩
 ·cases h
theorem dI {t:Tab} {s:aA} {x:Inode} (h:nC t s=.ok x):cM t s=.ok x∧x.kind=1:=by
 unfold nC at h
 split at h
 ·split at h
  ·cases h; rename_i e k; exact ⟨e,k⟩
  ·cases h
 ·cases h
theorem gY {t:Tab} {s:aA} {x:Inode} (h:eQ t s=.ok x):cM t (aJ s).1=.ok x∧x.kind=2:=by
 unfold eQ at h
 split at h
 ·split at h
  ·cases h; rename_i e k; exact ⟨e,k⟩
  ·cases h
 ·cases h
theorem jS {t:Tab} {s:aA} {f:Int} {x:Inode} (h:yD t s f=.ok x):eQ t s=.ok x∧bE x (aQ s)=0∧(x.ents.length<10∨x.ino=f):=by
 unfold yD at h
 split at h
 ·split at h
  ·split at h
   ·cases h; rename_i e k l; exact ⟨e,k,l⟩
   ·cases h
  ·cases h
 ·cases h
theorem rZ {s:aA} (h:jD s=true):(aC s).2=true∧(aC s).1≠[]:=(acQ s).1 h
theorem iY {s:aA} (h:jD s=true):(aC s).1=(aC (aJ s).1).1++[aQ s]∧(aC (aJ s).1).2=true∧aY (aQ s)=true:=by
 obtain ⟨h1,h2⟩:=rZ h
 obtain ⟨e1,e2⟩:=aj5 h1 h2
 have e3:(aJ s).1=bX (aC s).1.dropLast:=by rw [e1]
 have e4:aQ s=(aC s).1.getLastD []:=by rw [aQ,e1]
 rw [e3,e2,e4]
 have e5:(aC s).1.getLastD []=(aC s).1.getLast h2:=by rw [List.getLastD_eq_getLast?,List.getLast?_eq_some_getLast h2]; rfl
 refine ⟨by rw [e5,List.dropLast_concat_getLast],rfl,?_⟩
 rw [e5]
 exact (l9 (m8 h1).1).2 _ (List.getLast_mem h2)
theorem ago {t:Tab} {s:aA} (h:(aC s).2=true) {i:Int}:pA t s=(i,0)↔aT (aD t) (aC s).1 1=some i:=by
 rw [pA,lF h]; exact aom t _ 1 i
theorem acX {t:Tab} {s:aA} (h:(pA t s).2=0):(aC s).2=true:=by
 unfold pA at h
 split at h
 ·assumption
 ·cases h
theorem r7 {t:Tab} {s:aA} {x:Inode} (h:cM t s=.ok x):(aC s).2=true∧aT (aD t) (aC s).1 1=some x.ino:=by
 have h1:=(qM h).1
 have h2:=acX (by rw [h1])
 exact ⟨h2,(ago h2).1 h1⟩
theorem iG {t:Tab} {s:aA} {D:Inode} (h:eQ t s=.ok D):Spot t D (aC (aJ s).1).1:=by
 obtain ⟨h1,h2⟩:=gY h
 exact ⟨(aK (qM h1).2).1,h2,(r7 h1).2⟩
theorem tH {t:Tab} (ht:TreeOk t) {s:aA} (hs:jD s=true) {X:Inode} (h:cM t s=.ok X):∃ D,eQ t s=.ok D∧bE D (aQ s)=X.ino∧∃ e ∈ D.ents,e.name=aQ s∧e.ino=X.ino:=by
 obtain ⟨h1,h2⟩:=r7 h
 obtain ⟨e1,e2,e3⟩:=iY hs
 rw [e1,cK] at h2
 cases hw:aT (aD t) (aC (aJ s).1).1 1 with
 | none=>rw [hw] at h2; cases h2
 | some j=>
  rw [hw] at h2
  obtain ⟨D,d1,d2,d3,d4⟩:=(f9 _ _ _ _).1 h2
  obtain ⟨_,d5⟩:=aK d1
  have hst:cM t (aJ s).1=.ok D:=by
   rw [cM,(ago e2).2 hw,lF rfl,d1]
  refine ⟨D,by rw [eQ,hst]; simp only [d2,lF],d3,?_⟩
  obtain ⟨e,he,f1,f2⟩:=tB (x:=D) (n:=aQ s) (by rw [d3]; exact d4)
  exact ⟨e,he,f1,by rw [f2,d3]⟩
section
variable {t:Tab}
theorem aS {s:aA} {X:Inode} (h:cM t s=.ok X):X ∈ t.inodes∧aD t X.ino=some X:=⟨(aK (qM h).2).1,(qM h).2⟩
theorem r8 {s:aA} {D:Inode} (h:eQ t s=.ok D):D ∈ t.inodes:=(aS (gY h).1).1
theorem aoq (ht:TreeOk t) {X:Inode} (h:X ∈ t.inodes):1≤X.ino∧X.ino≤1000:=(ht.tab.ok X h).1.ino
theorem uZ (ht:TreeOk t) {s:aA} {D:Inode} (h:yD t s 0=.ok D):D.ents.length<10:=by
 obtain ⟨h1,h2,h3⟩:=jS h
 rcases h3 with h3 | h3
 ·exact h3
 ·have:=aoq ht (r8 h1); omega
theorem aor (ht:TreeOk t) {s:aA} {k:Int} {D:Inode} (hs:jD s=true) (h:yD t s 0=.ok D) (h1:t.inodes.length<30) (h2:t.next<1000) (hk:k=1∨k=2):type_of% (acU ht (iG (jS h).1) (k:=k) (iY hs).2.2 (jS h).2.1 (uZ ht h) h1 h2 hk):=acU ht (iG (jS h).1) (k:=k) (iY hs).2.2 (jS h).2.1 (uZ ht h) h1 h2 hk
theorem gZ (h:bA t=true) (s:aA) {k:Int} (hk:k=1∨k=2):bA (fA t s k).1=true:=by
 unfold fA
 split
 ·rename_i hc
  split
  ·split
   ·rename_i h2
    exact (aP _).2 (aor ((aP t).1 h) hc.2 (by assumption) h2.1 h2.2 hk).1
   ·exact h
  ·exact h
 ·exact h
theorem agp (ht:TreeOk t) {s:aA} (hs:jD s=true) {X:Inode} (h:cM t s=.ok X):X.ino≠1:=by
 intro e
 obtain ⟨D,h1,h2,⟨x,hx,h3,h4⟩⟩:=tH ht hs h
 have:=((bO ht (r8 h1)).ok x hx).2.1
 omega
theorem akk (ht:TreeOk t) {s:aA} (hs:jD s=true) {X:Inode} (h:cM t s=.ok X) (hk:X.kind=2):X.links=1:=by
 have ok:=(ht.tab.ok X (aS h).1).1
 have h1:=oL ht (aS h).1 hk
 have h2:=ok.links
 have h3:X.links≠0:=fun e=>agp ht hs h (ok.root.1 e)
 omega
theorem xI (ht:TreeOk t) {s:aA} {X:Inode} (hs:jD s=true) (h:cM t s=.ok X) (hE:X.ents=[]):∃ D,eQ t s=.ok D∧Spot t D (aC (aJ s).1).1∧(X.kind=1∨X.links=1) ∧
  TreeOk (bT t D (aQ s) X)∧(∀ l,aT (aD (bT t D (aQ s) X)) l 1=if l=(aC s).1 then none else aT (aD t) l 1) ∧
  (∀ i,aD (bT t D (aQ s) X) i=if i=X.ino then (if X.links=1 then none else some (qK X)) else if i=D.ino then some (bZ D (aQ s)) else aD t i):=by
 obtain ⟨D,h1,h2,⟨x,hx,h3,h4⟩⟩:=tH ht hs h
 have hk:X.kind=1∨X.links=1:=by
  rcases (ht.tab.ok X (aS h).1).1.kind with ⟨k,_⟩ | ⟨k,_⟩
  ·exact .inl k
  ·exact .inr (akk ht hs h k)
 have:=aeY ht (iG h1) hx (X:=X) (by rw [h4]; exact (aS h).2) hE hk
 rw [h3,← (iY hs).1] at this
 exact ⟨D,h1,iG h1,hk,this⟩
theorem r9 (h:bA t=true) (s:aA):bA (eH t s).1=true:=by
 have ht:=(aP t).1 h
 unfold eH
 split
 ·rename_i hc
  split
  ·rename_i X hX
   obtain ⟨h1,h2⟩:=dI hX
   obtain ⟨D,d1,d2,d3,d4⟩:=xI ht hc.2 h1 (mB ht (aS h1).1 (by omega)).1
   rw [d1]
   exact (aP _).2 d4.1
  ·exact h
 ·exact h
theorem abf (ht:TreeOk t) {s:aA} {X:Inode} (hs:jD s=true) (h:cM t s=.ok X) (hk:X.kind=2) (D:Inode) (n:aA):fC (aH t (bZ D n)) X.ino=bT t D n X:=by
 rw [bT,lF (akk ht hs h hk)]
theorem acY (h:bA t=true) (s:aA):bA (bB t s).1=true:=by
 have ht:=(aP t).1 h
 unfold bB
 split
 ·rename_i hc
  split
  ·rename_i X hX
   split
   ·rename_i hk
    split
    ·rename_i hE
     obtain ⟨D,d1,d2,d3,d4⟩:=xI ht hc.2 hX hE
     rw [d1,abf ht hc.2 hX hk]
     exact (aP _).2 d4.1
    ·exact h
   ·exact h
  ·exact h
 ·exact h
theorem aos (ht:TreeOk t) {p q:aA} {X D:Inode} (hq:jD q=true) (h1:nC t p=.ok X) (h2:yD t q 0=.ok D):type_of% (acV ht (iG (jS h2).1) (X:=X) (iY hq).2.2 (jS h2).2.1 (uZ ht h2) (aS (dI h1).1).1 (dI h1).2):=acV ht (iG (jS h2).1) (X:=X) (iY hq).2.2 (jS h2).2.1 (uZ ht h2) (aS (dI h1).1).1 (dI h1).2
theorem ae2 (h:bA t=true) (p q:aA):bA (mJ t p q).1=true:=by
 have ht:=(aP t).1 h
 unfold mJ
 split
 ·rename_i hc
  split
  ·split
   ·exact (aP _).2 (aos ht hc.2.2 (by assumption) (by assumption)).1
   ·exact h
  ·exact h
 ·exact h
theorem akl {p q:aA} (hp:gC p=true) (hq:gC q=true):aa9 p q=true↔(aC p).1 <+: (aC q).1:=by
 unfold gC at *
 rw [aa9,hp,hq]; simp
theorem akm (ht:TreeOk t) {p q:aA} {X D2:Inode} (hp:jD p=true) (hq:jD q=true) (h1:cM t p=.ok X) (hb:aa9 p q=false) (h2:yD t q (exI (eQ t p)).ino=.ok D2) :
  ∃ D1 e,eQ t p=.ok D1∧Spot t D1 (aC (aJ p).1).1∧e ∈ D1.ents∧e.name=aQ p∧e.ino=X.ino∧Spot t D2 (aC (aJ q).1).1∧aY (aQ q)=true∧bE D2 (aQ q)=0 ∧
   (D2.ents.length<10∨D1.ino=D2.ino)∧¬ ((aC (aJ p).1).1++[e.name]) <+: ((aC (aJ q).1).1++[aQ q]):=by
 obtain ⟨D1,d1,d2,⟨e,he,d3,d4⟩⟩:=tH ht hp h1
 obtain ⟨n1,n2,n3⟩:=jS h2
 rw [d1] at n3
 refine ⟨D1,e,d1,iG d1,he,d3,d4,iG n1,(iY hq).2.2,n2,?_,?_⟩
 ·rcases n3 with n | n
  ·exact .inl n
  ·exact .inr n.symm
 ·rw [d3,← (iY hp).1,← (iY hq).1,← akl (rZ hp).1 (rZ hq).1,hb]
  simp
theorem ae3 (h:bA t=true) (p q:aA):bA (oP t p q).1=true:=by
 have ht:=(aP t).1 h
 unfold oP
 split
 ·rename_i hc
  split
  ·rename_i X hX
   split
   ·exact h
   ·rename_i hb
    split
    ·rename_i D2 h2
     obtain ⟨D1,e,d1,s1,he,e1,e2,s2,hn,hf,hl,hb'⟩:=akm ht hc.2.1 hc.2.2 hX (by simpa using hb) h2
     have:=(akd ht s1 s2 he hn hf hl hb').1
     rw [e1,e2] at this
     rw [d1]
     exact (aP _).2 this
    ·exact h
  ·exact h
 ·exact h
theorem akn {X:Inode} (h:InodeOk X) (hk:X.kind=1) {b:aA} (hb:b.length≤100):InodeOk (xG X b):=by
 obtain ⟨a1,a2,a3,a4,a5,a6,a7⟩:=h
 refine ⟨a1,a2,a3,hb,a5,a6,?_⟩
 rcases a7 with a | ⟨a,_⟩
 ·exact .inl a
 ·omega
theorem ami (b:aA) (n:Nat):(abL b n).length=max b.length n:=by simp [abL]; omega
theorem amj (b:aA) (o:Nat) (d:aA):(akZ b o d).length=max b.length (o+d.length):=by
 simp only [akZ,lU,lT,lK2,ami]; omega
theorem agq (ht:TreeOk t) {p:aA} {X:Inode} (h:nC t p=.ok X) {b:aA} (hb:b.length≤100):type_of% (rU ht (X:=X) (Y:=xG X b) (aS (dI h).1).1 rfl rfl rfl rfl (akn (ht.tab.ok X (aS (dI h).1).1).1 (dI h).2 hb)):=rU ht (X:=X) (Y:=xG X b) (aS (dI h).1).1 rfl rfl rfl rfl (akn (ht.tab.ok X (aS (dI h).1).1).1 (dI h).2 hb)
theorem oR (h:bA t=true) (p:aA) (o:Int) (d:aA):bA (gU t p o d).1=true:=by
 have ht:=(aP t).1 h
 unfold gU
 split
 ·rename_i hc
  split
  ·rename_i X hX
   split
   ·refine (aP _).2 (agq ht hX ?_).1
    have:=(ht.tab.ok X (aS (dI hX).1).1).1.data
    have:=(jR _ _ _).1 hc.2.2
    rw [amj]; omega
   ·exact h
  ·exact h
 ·exact h
theorem ah0 (h:bA t=true) (p:aA) (n:Int):bA (xH t p n).1=true:=by
 have ht:=(aP t).1 h
 unfold xH
 split
 ·rename_i hc
  split
  ·rename_i X hX
   refine (aP _).2 (agq ht hX ?_).1
   have:=(jR _ _ _).1 hc.2.2
   rw [lT]; omega
  ·exact h
 ·exact h
theorem ako {X:Inode} (h:InodeOk X) {l:List Attr} (hl:AttrsOk l):InodeOk (uH X l):=by
 obtain ⟨a1,a2,a3,a4,a5,a6,a7⟩:=h
 exact ⟨a1,a2,a3,a4,a5,hl,a7⟩
theorem akp {l:List Attr} (h:AttrsOk l) (n:aA):AttrsOk (rY l n):=
 ⟨lJ4 (lQ2 _ _) h.len,fun a ha=>h.ok a (mem_cutK.1 ha).1,qJ h.up n⟩
theorem aot {l:List Attr} (h:AttrsOk l) {n v:aA} (hn:aY n=true) (hv:1≤v.length∧v.length≤16) (hl:l.length<4) (hf:∀ a ∈ l,a.name≠n):AttrsOk (agn l ⟨n,v⟩):=by
 refine ⟨by unfold agn; rw [pC]; omega,fun a ha=>?_,abb h.up hf⟩
 rcases mem_putK.1 ha with rfl | ha
 ·exact ⟨hn,hv⟩
 ·exact h.ok a ha
theorem agr (ht:TreeOk t) {p:aA} {X:Inode} (h:cM t p=.ok X) {l:List Attr} (hl:AttrsOk l):type_of% (rU ht (X:=X) (Y:=uH X l) (aS h).1 rfl rfl rfl rfl (ako (ht.tab.ok X (aS h).1).1 hl)):=rU ht (X:=X) (Y:=uH X l) (aS h).1 rfl rfl rfl rfl (ako (ht.tab.ok X (aS h).1).1 hl)
theorem ae4 (h:bA t=true) (p n v:aA):bA (oQ t p n v).1=true:=by
 have ht:=(aP t).1 h
 unfold oQ
 split
 ·rename_i hc
  split
  ·rename_i X hX
   have ha:=(ht.tab.ok X (aS hX).1).1.attrs
   split
   ·exact (aP _).2 (agr ht hX (akp ha n)).1
   ·rename_i hv
    split
    ·rename_i hl
     refine (aP _).2 (agr ht hX (aot (akp ha n) hc.2.2.1 ⟨?_,hc.2.2.2⟩ hl fun a h=>(mem_cutK.1 h).2)).1
     cases v with
     | nil=>exact absurd rfl hv
     | cons=>simp
    ·exact h
  ·exact h
 ·exact h
end
theorem xJ {s:aA} {m:Nat} (h:m<s.length) (h1:s[m]=47) (h2:∀ k,k<m→(hk:k<s.length)→s[k]≠47):bJ s=s.take m::bJ (s.drop (m+1)):=by
 have e:s=s.take m++47::s.drop (m+1):=by
  rw [← h1,← lL2 h,lK]
 have h3:∀ c ∈ s.take m,c≠47:=by
  intro c hc
  obtain ⟨k,hk,rfl⟩:=lN1 hc
  rw [List.getElem_take]
  exact h2 k (by simp at hk; omega) _
 have:=wX (s.take m) (s.drop (m+1)) h3
 rwa [← e] at this
theorem xK {s:aA} (h:∀ k,(hk:k<s.length)→s[k]≠47):bJ s=[s]:=wY s fun c hc=>by
 obtain ⟨k,hk,rfl⟩:=lN1 hc
 exact h k hk
theorem oS (s:aA):(bJ s).length=s.count 47+1:=by
 induction s with
 | nil=>rfl
 | cons c s ih=>
  by_cases hc:c=47
  ·rw [bJ,lF hc,lW,ih,hc,List.count_cons_self]
  ·obtain ⟨a,t,e1,e2⟩:=m7 c s hc
   rw [e2,List.count_cons_of_ne hc,← ih,e1]; rfl
theorem akq {s:aA} {m:Nat} (h:m<s.length) (h1:s[m]=47) (h2:∀ k,k<m→(hk:k<s.length)→s[k]≠47):s.count 47=(s.drop (m+1)).count 47+1:=by
 have:=oS s
 rw [xJ h h1 h2,lW,oS] at this
 omega
theorem tI {s:aA} (h:s.head?≠some 47):aC s=([],false):=by
 have hs:s≠[47]:=fun e=>h (by rw [e]; rfl)
 rw [aC,lI hs]
 cases s with
 | nil=>rfl
 | cons c s=>
  have hc:c≠47:=fun e=>h (by rw [e]; rfl)
  obtain ⟨a,t,e1,e2⟩:=m7 c s hc
  rw [e2]; rfl
theorem acZ {s:aA} {l:List aA} (h:bJ s=[]::l) (hb:cA l=false) (hs:s≠[47]):aC s=([],false):=by
 rw [aC,lI hs,h]
 cases l with
 | nil=>rfl
 | cons n l=>simp only [yC,hb]; rfl
theorem aaa {s:aA} {l:List aA} (h:bJ s=[]::l) (hl:l≠[]) (hb:cA l=true) (hs:s≠[47]):aC s=(l,true):=by
 rw [aC,lI hs,h]
 cases l with
 | nil=>exact absurd rfl hl
 | cons n l=>simp only [yC,hb]; rfl
theorem ac0 {l:List aA} {n:aA} (h:n ∈ l) (hn:aY n=false):cA l=false:=by
 have:l.all aY=false:=by rw [lH4]; exact ⟨n,h,by simp [hn]⟩
 simp [cA,this]
theorem aab {l:List aA} (h:30<l.length):cA l=false:=by rw [cA,lB (by omega),Bool.false_and]
structure Cut (s:aA) (i j:Nat) (out:List aA):Prop where
 le:j≤i
 end':i≤s.length+1
 no:∀ k,j≤k→k<i→(h:k<s.length)→s[k]≠47
 len:out.length≤30
 ok:∀ n ∈ out,aY n=true
 z:i=0→out=[]
 cut:s.head?=some 47→(i=0∧j=0∧out=[])∨(0<i∧bJ s=[]::(out++if i≤s.length then bJ (s.drop j) else []))
theorem Cut.zero (s:aA):Cut s 0 0 []:=⟨lS1 _,lI3 _,fun _ _ h=>absurd h (Nat.not_lt_zero _),lI3 _,by simp,fun _=>rfl,fun _=>.inl ⟨rfl,rfl,rfl⟩⟩
theorem Cut.skip {s:aA} {i j:Nat} {out:List aA} (h:Cut s i j out) (hi:i<s.length) (hc:s[i]≠47):Cut s (i+1) j out:=by
 obtain ⟨a1,a2,a3,a4,a5,_,a6⟩:=h
 refine ⟨by omega,by omega,fun k h1 h2 h3=>?_,a4,a5,fun h=>absurd h (Nat.succ_ne_zero _),fun h0=>?_⟩
 ·by_cases e:k=i
  ·subst e; exact hc
  ·exact a3 k h1 (by omega) h3
 ·rcases a6 h0 with ⟨e1,e2,e3⟩ | ⟨e1,e2⟩
  ·subst e1
   exfalso
   rw [List.head?_eq_getElem?,lJ hi] at h0
   exact hc (Option.some.inj h0)
  ·refine .inr ⟨by omega,?_⟩
   rw [lF (by omega)] at e2
   rw [lF (by omega)]
   exact e2
theorem Cut.first {s:aA} (h:s.length=0∨∃ h:0<s.length,s[0]=47):Cut s 1 1 []:=by
 refine ⟨lS1 _,by omega,fun k h1 h2=>by omega,lI3 _,by simp,fun h=>rfl,fun h0=>.inr ⟨by omega,?_⟩⟩
 cases s with
 | nil=>cases h0
 | cons c s=>
  injection h0 with h0
  subst h0
  rw [bJ,lF rfl,lF (by simp)]
  rfl
theorem Cut.name {s:aA} {i j:Nat} {out:List aA} (h:Cut s i j out) (h0:0<i) (hi:i≤s.length) (hc:i=s.length∨∃ h:i<s.length,s[i]=47) (hh:s.head?=some 47) :
  bJ s=[]::(out++(s.drop j).take (i-j)::if i+1≤s.length then bJ (s.drop (i+1)) else []):=by
 obtain ⟨a1,a2,a3,a4,a5,_,a6⟩:=h
 rcases a6 hh with ⟨e1,_⟩ | ⟨_,e2⟩
 ·omega
 ·rw [lF hi] at e2
  rw [e2]
  congr 2
  have no:∀ k,k<i-j→(hk:k<(s.drop j).length)→(s.drop j)[k]≠47:=fun k h1 h2=>by
   rw [List.getElem_drop]
   exact a3 _ (by omega) (by omega) _
  rcases hc with rfl | ⟨hc,hx⟩
  ·rw [lI (by omega),xK (fun k hk=>no k (by simpa using hk) hk),lJ2 (by simp)]
  ·rw [lF (by omega),xJ (m:=i-j) (by simp; omega) (by rw [List.getElem_drop]; simpa [show j+(i-j)=i by omega] using hx) no,lB2,show j+(i-j+1)=i+1 by omega]
theorem Cut.next {s:aA} {i j:Nat} {out:List aA} (h:Cut s i j out) (h0:0<i) (hi:i≤s.length) (hc:i=s.length∨∃ h:i<s.length,s[i]=47) (hn:aY ((s.drop j).take (i-j))=true) (hl:out.length<30) :
  Cut s (i+1) (i+1) (out++[(s.drop j).take (i-j)]):=by
 refine ⟨lS1 _,by omega,fun k h1 h2=>by omega,by simp; omega,fun n hm=>?_,fun h=>absurd h (Nat.succ_ne_zero _),fun hh=>.inr ⟨by omega,?_⟩⟩
 ·rcases lL.1 hm with hm | hm
  ·exact h.ok n hm
  ·simp at hm; subst hm; exact hn
 ·rw [h.name h0 hi hc hh,lM2]; rfl
theorem Cut.bad {s:aA} {i j:Nat} {out:List aA} (h:Cut s i j out) (h0:0<i) (hi:i≤s.length) (hc:i=s.length∨∃ h:i<s.length,s[i]=47) (hn:aY ((s.drop j).take (i-j))=false∨out.length=30) (hs:s≠[47]) :
  aC s=([],false):=by
 by_cases hh:s.head?=some 47
 ·refine acZ (h.name h0 hi hc hh) ?_ hs
  rcases hn with hn | hn
  ·exact ac0 (by simp) hn
  ·exact aab (by simp; omega)
 ·exact tI hh
theorem Cut.done {s:aA} {j:Nat} {out:List aA} (h:Cut s (s.length+1) j out) (hh:s.head?=some 47) (hs:s≠[47]):aC s=(out,true):=by
 obtain ⟨a1,a2,a3,a4,a5,_,a6⟩:=h
 rcases a6 hh with ⟨e1,_⟩ | ⟨_,e2⟩
 ·omega
 ·rw [lI (by omega),lR2] at e2
  refine aaa e2 (fun e=>?_) (o9 a4 a5) hs
  rw [e] at e2
  cases s with
  | nil=>cases hh
  | cons c s=>
   injection hh with hh
   subst hh
   rw [bJ,lF rfl] at e2
   injection e2 with _ e2
   exact rR _ e2
theorem ah1 (n:aA) (l:List aA):c6 (n::l)=47::(n++c6 l):=by simp [c6]
theorem ah2 (l:List aA) (n:aA):c6 (l++[n])=c6 l++47::n:=by simp [c6]
theorem xL {l:List aA} (h:cA l=true):(c6 l).length≤450:=by
 obtain ⟨h1,h2⟩:=l9 h
 have:=tC (fun n:aA=>n.length+1) l 15 fun n hn=>by have:=(jZ (h2 n hn)).2; omega
 have e:(c6 l).length=(l.map fun n:aA=>n.length+1).sum:=by rw [c6,List.length_flatMap]; rfl
 rw [e]
 have:l.length*15≤30*15:=lM1 _ h1
 omega







theorem eR (x a b:Int):aZ Tryz.prog 158 [.int .i64 x,.int .i64 a,.int .i64 b] (.bool (inR x a b)) [.undef,.undef,.undef]:=by
 refine U af6 [] 71 [] fun w hP hQ=>?_
 unfold aaW
 refine N ?_
 (first | with_reducible refine sV _ ?_ ?_ | refine sW _ ?_ ?_) <;> intro h1
 ·have hz:=h1
  refine Nz ?_
  simp [inR,h1]
 ·have hz:=h1
  refine Nz ?_
  simp [inR,h1]
theorem j5 (x a b:Int):aZ Tryz.prog 94 [.int .i64 x,.int .i64 a,.int .i64 b] (.bool (inR x a b)) [.undef,.undef,.undef]:=by
 refine U al8 [] 71 [] fun w hP hQ=>?_
 unfold af2
 refine N ?_
 (first | with_reducible refine sV _ ?_ ?_ | refine sW _ ?_ ?_) <;> intro h1
 ·have hz:=h1
  refine Nz ?_
  simp [inR,h1]
 ·have hz:=h1
  refine Nz ?_
  simp [inR,h1]
theorem pE {α:Type} {l:List α} {p:α→Bool} {i:Nat} (hk:∀ k,k<i→(h:k<l.length)→p l[k]=false) (h:i<l.length) (hi:p l[i]=true):l.findIdx? p=some i:=by
 rw [lA2]
 exact ⟨h,hi,fun j hj=>by simp [hk j hj (by omega)]⟩
theorem pG {α:Type} {l:List α} {p:α→Bool} (hk:∀ k,(h:k<l.length)→p l[k]=false):l.findIdx? p=none:=by
 rw [lW2]
 intro x hx
 obtain ⟨k,h,rfl⟩:=lN1 hx
 exact hk k h
theorem nD {α:Type} {l:List α} {p:α→Bool} {i:Nat} (hk:∀ k,k<i→(h:k<l.length)→p l[k]=false) (h:i<l.length) (hi:p l[i]=false):∀ k,k<i+1→(h:k<l.length)→p l[k]=false:=by
 intro k hlt hl
 by_cases e:k=i
 ·subst e; exact hi
 ·exact hk k (by omega) hl
theorem ags {x a b:Int} (h:inR x a b=false):¬ (a≤x∧x≤b):=fun h'=>by rw [(jR x a b).2 h'] at h; cases h
theorem akr (c:UInt8):okc c=true↔(97≤c.toNat∧c.toNat≤122)∨(48≤c.toNat∧c.toNat≤57)∨c.toNat=95∨c.toNat=45∨c.toNat=46:=by
 unfold okc
 simp only [lE4,lP,decide_eq_true_eq,UInt8.le_iff_toNat_le,← UInt8.toNat_inj]
 simp
 omega
theorem abg {c:UInt8} (h:(97≤c.toNat∧c.toNat≤122)∨(48≤c.toNat∧c.toNat≤57)∨c.toNat=95∨c.toNat=45∨c.toNat=46):okc c=true:=(akr c).2 h
theorem am8 {c:UInt8} (h:¬ ((97≤c.toNat∧c.toNat≤122)∨(48≤c.toNat∧c.toNat≤57)∨c.toNat=95∨c.toNat=45∨c.toNat=46)):okc c=false:=by
 cases e:okc c with
 | false=>rfl
 | true=>exact absurd ((akr c).1 e) h
theorem agt {s:aA} {i:Nat} (h:i<s.length) (hc:okc s[i]=false):aY s=false:=by
 unfold aY
 have:s.all okc=false:=by
  rw [lH4]
  exact ⟨s[i],lN h,by simp [hc]⟩
 simp [this]
theorem apN (n:Nat):n<45∨n=45∨n=46∨n=47∨(48≤n∧n≤57)∨(58≤n∧n≤94)∨n=95∨n=96∨(97≤n∧n≤122)∨122<n:=by omega
theorem agu {s:aA} {i:Nat} (hk:∀ k,k<i→(h:k<s.length)→okc s[k]=true) (h:i<s.length) (hi:okc s[i]=true):∀ k,k<i+1→(h:k<s.length)→okc s[k]=true:=by
 intro k hlt hl
 by_cases e:k=i
 ·subst e; exact hi
 ·exact hk k (by omega) hl
theorem am9 {s:aA} (hk:∀ k,(h:k<s.length)→okc s[k]=true):s.all okc=true:=by
 rw [lA1]
 intro x hx
 obtain ⟨k,h,rfl⟩:=lN1 hx
 exact hk k h
theorem eS (s:aA) (hl:s.length<2^48):aZ Tryz.prog 102 [.str s] (.bool (aY s)) [.undef]:=by
 refine U ahE [] 221 [] fun w hP hQ=>?_
 unfold y9
 refine N ?_
 refine eJ [2,3,4] ?_
 refine N ?_
 refine aR [2,3,4] (fun i:Nat=>[(7,.int .i64 i)]) (fun i=>i≤s.length∧∀ k,k<i→(h:k<s.length)→okc s[k]=true) (fun i=>s.length-i) (0) hP hQ (rfl) (by simp) ?_
 rintro i ⟨hi,hk⟩ w1 hP1 hQ1
 refine N1 ?_
 (first | with_reducible refine cN _ ?_ ?_ | refine cO _ ?_ ?_) <;> intro h1
 ·have hlt:i<s.length:=by omega
  have hbad:okc s[i]=false→aY s=false:=fun h=>agt hlt h
  have hnext:okc s[i]=true→_:=fun h=>agu hk hlt h
  have hz:=(bF h1)
  refine Nz1 ?_
  generalize s[i]=c at *
  rcases apN c.toNat with h | h | h | h | h | h | h | h | h | h
  all_goals (simp +decide (maxSteps:=9^9) (disch:=omega) only[↓SB0,SX,seval,hQ,hQ1,apF,apG])
  all_goals first
   | (rw [hbad (am8 (by omega))]; done)
   | exact ⟨i+1,rfl,⟨by omega,hnext (abg (by omega))⟩,by omega⟩
 ·obtain rfl:i=s.length:=by omega
  have hall:s.all okc=true:=am9 fun k h=>hk k h h
  refine N1 ?_
  (first | with_reducible refine sV _ ?_ ?_ | refine sW _ ?_ ?_) <;> intro g1
  rotate_left
  ·have hz:=g1
   refine Nz ?_
   simp [aY,hall]; omega
  have hz:=g1
  refine Nz ?_
  (first | with_reducible refine sV _ ?_ ?_ | refine sW _ ?_ ?_) <;> intro g2
  rotate_left
  ·have hz:=g2
   refine Nz ?_
   simp [aY,hall]; omega
  have hz:=g2
  refine Nz ?_
  (first | with_reducible refine sV _ ?_ ?_ | refine sW _ ?_ ?_) <;> intro g3
  ·have hz:=g3
   refine Nz ?_
   simp [aY,g3]
  have hz:=g3
  refine Nz ?_
  simp [aY,hall,g3]
  try omega
theorem dJ (s:aA) (hl:s.length<2^48):aZ Tryz.prog 150 [.str s] (.bool (aY s)) [.undef]:=by
 refine U ahK [] 29 [] fun w hP hQ=>?_
 unfold zG
 refine N ?_
 refine eJ [2,4] ?_
 refine N ?_
 refine aR [2,4] (fun i:Nat=>[(3,.int .i64 i)]) (fun i=>i≤s.length∧∀ k,k<i→(h:k<s.length)→okc s[k]=true) (fun i=>s.length-i) (0) hP hQ (rfl) (by simp) ?_
 rintro i ⟨hi,hk⟩ w1 hP1 hQ1
 refine N1 ?_
 (first | with_reducible refine cN _ ?_ ?_ | refine cO _ ?_ ?_) <;> intro h1
 ·have hlt:i<s.length:=by omega
  have hbad:okc s[i]=false→aY s=false:=fun h=>agt hlt h
  have hnext:okc s[i]=true→_:=fun h=>agu hk hlt h
  have hz:=(bF h1)
  refine Nz1 ?_
  generalize s[i]=c at *
  have hc:c.toNat<256:=c.toNat_lt
  cases hA:inR (c.toNat) 97 122 with
  | true=>
   have hA':=(jR _ _ _).1 hA
   refine N1 ?_
   have hz:=hA
   refine Kz1 (eR (c.toNat) 97 122) ?_
   exact ⟨i+1,rfl,⟨by omega,hnext (abg (by omega))⟩,by omega⟩
  | false=>
   have hA':=ags hA
   cases hB:inR (c.toNat) 48 57 with
   | true=>
    have hB':=(jR _ _ _).1 hB
    refine N1 ?_
    have hz:=hA
    refine Kz1 (eR (c.toNat) 97 122) ?_
    have hz:=hB
    refine Kz1 (eR (c.toNat) 48 57) ?_
    exact ⟨i+1,rfl,⟨by omega,hnext (abg (by omega))⟩,by omega⟩
   | false=>
    have hB':=ags hB
    have hr:c.toNat=95∨c.toNat=45∨c.toNat=46∨(c.toNat≠95∧c.toNat≠45∧c.toNat≠46):=by omega
    rcases hr with h | h | h | h
    all_goals (simp +decide (maxSteps:=9^9) (disch:=omega) only[↓SB0,SX,seval,hQ,hQ1])
    all_goals (first | refine aF hP1 (eR (c.toNat) 97 122) (.inl ⟨rfl,fun _ hx=>nomatch hx⟩) ?_ | skip)
    all_goals (simp +decide (maxSteps:=9^9) (disch:=omega) only[↓SB0,SX,seval,hQ,hQ1,hA])
    all_goals (first | refine aF hP1 (eR (c.toNat) 48 57) (.inl ⟨rfl,fun _ hx=>nomatch hx⟩) ?_ | skip)
    all_goals (simp +decide (maxSteps:=9^9) (disch:=omega) only[↓SB0,SX,seval,hQ,hQ1,hB,apF,apG])
    all_goals first
     | (rw [hbad (am8 (by omega))]; done)
     | exact ⟨i+1,rfl,⟨by omega,hnext (abg (by omega))⟩,by omega⟩
 ·obtain rfl:i=s.length:=by omega
  have hall:s.all okc=true:=am9 fun k h=>hk k h h
  refine N1 ?_
  cases g1:inR (s.length:Nat) 1 14 with
  | false=>
   have g1':=ags g1
   have hz:=g1
   refine Kz (eR (s.length:Nat) 1 14) ?_
   simp [aY,hall]; omega
  | true=>
   have g1':=(jR _ _ _).1 g1
   have hz:=g1
   refine Kz (eR (s.length:Nat) 1 14) ?_
   (first | with_reducible refine sV _ ?_ ?_ | refine sW _ ?_ ?_) <;> intro g3
   ·have hz:=g3
    refine Nz ?_
    simp [aY,g3]
   have hz:=g3
   refine Nz ?_
   simp [aY,hall,g3]
   try omega
section
open Go.Proofs Go.RowKit
def cP (s:aA):List TV:=[.str s]
theorem aou (l:List aA):gJ (l.map cP)=true:=by
 rw [gJ,lA1]
 intro r hr
 obtain ⟨x,_,rfl⟩:=lZ1.1 hr
 rfl
theorem ac1 {P:Program} {f:Nat} {a b:aA} {r:Int} (hE:qX P f) (run:∀ w,Calls P f #[bU a,bU b] w fun e w'=>e=.returned (.int .i64 r)∧w'=w):aZ P f [.str a,.str b] (.int .i64 r) [.undef,.undef]:=by
 refine ⟨hE,rfl,?_⟩
 intro w vs F X h h1 h2 h3
 cases h with
 | str _ _ _ vs _ h=>
  cases h with
  | str _ _ _ vs _ h=>
   cases h with
   | nil _ _ hF hX=>
    refine (run w).mono ?_
    rintro e w' ⟨rfl,rfl⟩
    exact ⟨_,F,X,rfl,.int _ _ _ _ _ _ (.undef _ _ _ _ _ (.undef _ _ _ _ _ (.nil _ _ hF hX))),h1,h2,⟨lS1 _,.refl _⟩,fun b _ _=>rfl,fun b hb=>.inl hb,fun b hb=>⟨.inl hb,h3 b hb⟩⟩
theorem amk (s:aA):aZ Tryz.prog 230 [.str s,.str [47]] (.int .i64 (Lib.indexByte s 47)) [.undef,.undef]:=
 ac1 ⟨_,Tryz.func230,by kernel_rfl,by kernel_rfl⟩ fun w=>Any.strings_Index_one acH ⟨s.toArray⟩ 47 w
theorem aml (s:aA):aZ Tryz.prog 229 [.str s,.str [47]] (.int .i64 (s.count 47:Nat)) [.undef,.undef]:=
 ac1 ⟨_,Tryz.func229,by kernel_rfl,by kernel_rfl⟩ fun w=>Any.strings_Count_one acI ⟨s.toArray⟩ 47 w
theorem aqe (s:aA):(Lib.indexByte s 47=-1∧∀ k,(h:k<s.length)→s[k]≠47)∨∃ m,∃ h:m<s.length,Lib.indexByte s 47=(m:Nat)∧s[m]=47∧∀ k,k<m→(h:k<s.length)→s[k]≠47:=by
 induction s with
 | nil=>exact .inl ⟨rfl,fun k h=>by simp at h⟩
 | cons c s ih=>
  by_cases hc:c=47
  ·exact .inr ⟨0,by simp,by simp [Lib.indexByte,hc],by simpa using hc,fun k hk=>absurd hk (Nat.not_lt_zero _)⟩
  ·have hb:(c == 47)=false:=by simpa using hc
   rcases ih with ⟨h1,h2⟩ | ⟨m,h1,h2,h3,h4⟩
   ·refine .inl ⟨by simp [Lib.indexByte,hb,h1],fun k hk=>?_⟩
    cases k with
    | zero=>simpa using hc
    | succ k=>simpa using h2 k (by simpa using hk)
   ·refine .inr ⟨m+1,by simpa using h1,?_,by simpa using h3,fun k hk hl=>?_⟩
    ·have:((m:Int) == -1)=false:=by simp
     simp [Lib.indexByte,hb,h2,this]
    ·cases k with
     | zero=>simpa using hc
     | succ k=>simpa using h4 k (by omega) (by simpa using hl)
theorem ac2:Builder.Extra Tryz.prog nK where
 sizeBuilder:=by kernel_rfl
 liesBuilder:=by kernel_rfl
 t5:=Tryz.underlying5
 a5:=Tryz.isAgg5
 z5:=Tryz.sizeOf5
 v5:=Tryz.zeroValue5
 infoByte:=by kernel_rfl
 cellsByte:=by kernel_rfl
 sizeByte:=by kernel_rfl
 neB5:=by decide
theorem agv {w:World} {o:Bool} {F:aL}:∀ (l:List aA) {cs:List Value},Row w o F cs (l.map cP).flatten→cs=l.map bU∧∀ b,F b=0:=by
 intro l
 induction l generalizing F with
 | nil=>
  intro cs h
  cases h with
  | nil _ _ hF=>exact ⟨rfl,hF⟩
 | cons n l ih=>
  intro cs h
  have e:((n::l).map cP).flatten=.str n::(l.map cP).flatten:=by simp [cP]
  rw [e] at h
  cases h with
  | str _ _ _ vs _ h=>
   obtain ⟨e1,e2⟩:=ih h
   exact ⟨by rw [e1]; rfl,e2⟩
theorem apO (l:List aA) (hl:l.length<2^40) (hn:(Lib.join l [47]).length<2^47):aZ Tryz.prog 225 [.ext 1 (l.map cP),.str [47]] (.str (Lib.join l [47])) [.undef,.undef]:=by
 refine ⟨⟨_,Tryz.func225,by kernel_rfl,by kernel_rfl⟩,rfl,?_⟩
 intro w vs F X h h1 h2 h3
 have fin:∀ {e:Ending} {w':World} (h0:∀ b,F b=0),e=.returned (.string ⟨(Lib.join l [47]).toArray⟩)→Below w.heap.size w w'→∃ v F' X',e=.returned v∧RepA w' lk0 F' X' (v::vs) [.str (Lib.join l [47]),.undef,.undef]∧(∀ b,F' b≤1)∧(∀ b,F' b=0∨X' b=0) ∧
   Grows w w'∧(∀ b,b<w.heap.size→F b=0→w'.heap[b]?=w.heap[b]?)∧(∀ b,F' b≠0→F b≠0∨w.heap.size≤b)∧(∀ b,X' b≠0→(X b≠0∨F b≠0∨w.heap.size≤b)∧b<w'.heap.size):=by
  intro e w' h0 he hb
  have hlen:=h.length
  match vs,hlen with
  | [v1,v2],_=>exact ⟨_,fun _=>0,fun _=>0,he,.str _ _ _ _ _ (.undef _ _ _ _ _ (.undef _ _ _ _ _ (.nil _ _ (fun _=>rfl) (fun _=>rfl)))),fun b=>lI3 _,fun b=>.inl rfl,⟨hb.size,⟨hb.os,hb.output⟩⟩,fun b hlt _=>hb.block b hlt,fun b hb=>absurd rfl hb,fun b hb=>absurd rfl hb⟩
 cases h with
 | ext _ _ X1 X2 _ _ v vs _ hr hn' hX=>
  cases hn' with
  | str _ _ _ vs _ h0=>
   cases h0 with
   | nil _ _ hF hX2=>
    by_cases he:l=[]
    ·subst he
     have hv:∃ a c,v=.slice a 0 c:=by
      cases hr with
      | ext0 _ _ a cap _ _ _=>exact ⟨a,cap,rfl⟩
      | ext _ _ _ _ _ a cap _ _ _ _ _ _ _ _ _ _=>exact ⟨some a,cap,rfl⟩
     obtain ⟨a,c,rfl⟩:=hv
     refine (Any.strings_Join_none tY ac2 a c ⟨#[47]⟩ w).mono ?_
     rintro e w' ⟨he,rfl⟩
     exact fin hF he (Below.refl _ _)
    ·generalize hes:l.map cP=es at hr
     cases hr with
     | ext0 _ _ a cap _ _ _=>simp at hes; exact absurd hes he
     | ext _ F1 F2 _ _ a cap cs _ _ hle hs hcs hc g1 g2 hFF=>
      subst hes
      obtain ⟨e1,_⟩:=agv l g1
      have hcl:cs.length=l.length:=by rw [e1,lB1]
      have hpos:0<l.length:=lX2.2 he
      have hc0:=hc 0 (by omega)
      rw [show a.add 0=a from rfl,lJ (by omega)] at hc0
      have hsp:a.spot=none:=by
       unfold World.cell? at hc0
       split at hc0
       ·split at hc0
        ·cases hc0
        ·rename_i h; simpa using h
       ·cases hc0
      obtain ⟨ab,ao,asp⟩:=a
      simp only at hsp
      subst hsp
      have hbl:ab<w.heap.size:=World.block_lt_of_cell? _ _ hc0
      have hml:(l.map cP).length=l.length:=lB1 _
      rw [hml] at hle
      have hxs:(l.map fun s=>(⟨s.toArray⟩:ByteArray)).map (fun x=>x.data.toList)=l:=by rw [lW4]; simp [Function.comp_def]
      have:=Any.strings_Join tY ac2 ab ao cap (l.map fun s=>(⟨s.toArray⟩:ByteArray)) ⟨#[47]⟩ w (fun j x hx=>by
       rw [lJ1] at hx
       cases hj:l[j]? with
       | none=>rw [hj] at hx; cases hx
       | some s=>
        rw [hj] at hx
        have hjl:j<l.length:=(lM.1 hj).1
        have:=hc j (by omega)
        rw [e1,lJ1,hj] at this
        simp only [lC,Option.some.injEq] at hx
        subst hx
        rw [← Addr.add_lit]; exact this) hbl (by rw [lB1]; omega) (by rw [lB1]; exact hle) (by rw [hxs]; show (Lib.join l [47]).length≤_; omega)
      rw [hxs,lB1,← hml] at this
      refine this.mono ?_
      rintro e w' ⟨he,hb⟩
      exact fin hF he hb
end
def aip (done:List aA) (n:Nat):List aA:=done++List.replicate (n-done.length) []
theorem aks (n:Nat):(aip [] n).map cP=List.replicate n [TV.str []]:=by simp [aip,cP]
theorem abh {done:List aA} {n:Nat} (h:done.length≤n):(aip done n).length=n:=by simp [aip]; omega
theorem agw {done:List aA} {n:Nat} (h:done.length<n) (x:aA):((aip done n).map cP).modify done.length (fun r=>TV.str x::r.drop 1)=(aip (done++[x]) n).map cP:=by
 obtain ⟨m,hm⟩:∃ m,n-done.length=m+1:=⟨n-done.length-1,by omega⟩
 have e:n-(done++[x]).length=m:=by simp; omega
 rw [aip,aip,hm,e,lF2,lF2,lF2,List.replicate_succ,lO]
 have:=qT (done.map cP) (cP []::(List.replicate m []).map cP) done.length (fun r=>TV.str x::r.drop 1) (by simp)
 rw [this,lB1,Nat.sub_self,lQ4,lM2]; rfl
theorem akt {done:List aA} {n:Nat}:((aip done n).map cP).take done.length=done.map cP:=by
 rw [← lU4,aip,List.take_left']; rfl
theorem ac3 (s:aA):s.count 47≤s.length:=List.count_le_length
theorem ae5 (s:aA) (hl:s.length<2^40):aZ Tryz.prog 184 [.str s,.str [47],.int .i64 0,.int .i64 (-1)] (.own 1 ((bJ s).map cP)) [.undef,.undef,.undef,.undef]:=by
 have hc:=ac3 s
 have hm:¬ ((s.length:Nat):Int)+1<((s.count 47:Nat):Int)+1:=by omega
 refine U acG [] 3855 [] fun w hP hQ=>?_
 unfold tU
 refine N ?_
 refine K (aml s) ?_
 have ha:((s.count 47:Nat):Int)+1-1=(s.count 47:Nat):=by omega
 have hb:(((s.count 47:Nat):Int)+1).toNat=s.count 47+1:=by omega
 simp only [lI hm,ha,hb,← aks]
 refine eJ [11] ?_
 refine N ?_
 refine aR [11] (fun x:List aA × aA=>[(0,.str x.2),(9,.own 1 ((aip x.1 (s.count 47+1)).map cP)),(10,.int .i64 (x.1.length:Nat))]) (fun x=>x.1++bJ x.2=bJ s∧x.2.length<2^40) (fun x=>x.2.count 47) (([],s)) hP hQ (rfl) (⟨rfl,hl⟩) ?_
 rintro ⟨done,rest⟩ ⟨hd,hr⟩ w1 hP1 hQ1
 refine N1 ?_
 simp only at hd hr
 have hn:done.length+rest.count 47=s.count 47:=by
  have:=congrArg List.length hd
  rw [lU,oS,oS] at this; omega
 have hpl:=abh (done:=done) (n:=s.count 47+1) (by omega)
 rcases aqe rest with ⟨h1,h2⟩ | ⟨m,h1,h2,h3,h4⟩
 ·have fin:done++[rest]=bJ s:=by rw [← hd,xK h2]
  have hz:rest.count 47=0:=List.count_eq_zero.2 fun hmem=>by
   obtain ⟨k,hk,e⟩:=lN1 hmem
   exact h2 k hk e
  (first | with_reducible refine cN _ ?_ ?_ | refine cO _ ?_ ?_) <;> intro g
  ·exfalso; omega
  ·have hdl:((done.length:Nat):Int)<((aip done (s.count 47+1)).length:Nat):=by omega
   have e1:(((done.length:Nat):Int)+1-0).toNat=done.length+1:=by omega
   have e2:0+(done.length+1)≤s.count 47+1:=by omega
   have e3:=agw (done:=done) (n:=s.count 47+1) (by omega) rest
   have e4:=akt (done:=done++[rest]) (n:=s.count 47+1)
   rw [fin,← fin,lU] at e4
   have hp2:=abh (done:=done++[rest]) (n:=s.count 47+1) (by simp; omega)
   have hz:=And.intro hpl (And.intro hp2 (And.intro e1 (And.intro e2 e3)))
   refine Nz1 ?_
   rw [← fin]
   exact congrArg (AV.own 1) e4
 ·have hx:=akq h1 h3 h4
  have hy:=xJ h1 h3 h4
  (first | with_reducible refine cN _ ?_ ?_ | refine cO _ ?_ ?_) <;> intro g
  ·have e5:¬ ((m:Nat):Int)<0:=by omega
   have e6:(((m:Nat):Int)-0).toNat=m:=by omega
   have e7:(((rest.length:Nat):Int)-((m:Int)+1)).toNat=rest.length-(m+1):=by omega
   have e9:(rest.drop (m+1)).take (rest.length-(m+1))=rest.drop (m+1):=lJ2 (by simp)
   have e8:(((m:Nat):Int)+1).toNat=m+1:=by omega
   have e3:=agw (done:=done) (n:=s.count 47+1) (by omega) (rest.take m)
   have hp2:=abh (done:=done++[rest.take m]) (n:=s.count 47+1) (by simp; omega)
   refine N1 ?_
   have hz:=And.intro h2 (And.intro e5 (And.intro e6 (And.intro e7 (And.intro e8 (And.intro e9 (And.intro hpl (And.intro hp2 e3)))))))
   refine Kz1 (amk rest) ?_
   exact ⟨(done++[rest.take m],rest.drop (m+1)),by simp,⟨by rw [← hd,hy,lM2]; rfl,by simp only [lK2]; omega⟩,by simp only; omega⟩
  ·exfalso; omega
theorem aov (s:aA) (hl:s.length<2^40):aZ Tryz.prog 142 [.str s,.str [47]] (.own 1 ((bJ s).map cP)) [.undef,.undef]:=by
 refine U ajW [] 19 [] fun w hP hQ=>?_
 unfold acx
 refine N ?_
 exact K (ae5 s hl) trivial
theorem ac4 (s:aA) (hl:s.length<2^48):aZ Tryz.prog 186 [.str s] (.bool (!aY s)) [.undef]:=by
 refine U aa7 [] 5 [] fun w hP hQ=>?_
 unfold rK
 refine N ?_
 exact K (eS s hl) trivial
theorem sA {g:Nat} {p:aA→Bool} (l:List aA) (hl:l.length<2^48) (hc:∀ v ∈ l,aZ Tryz.prog g [.str v] (.bool (p v)) [.undef]) :
  aZ Tryz.prog 231 [.ext 1 (l.map cP),.fn g []] (.int .i64 (abe (l.findIdx? p))) [.undef,.undef]:=by
 refine U pI [] 435 [] fun w hP hQ=>?_
 unfold iR
 refine N ?_
 refine eJ [4,5] ?_
 refine N ?_
 refine aR [4,5] (fun i:Nat=>[(8,.int .i64 i)]) (fun i=>i≤l.length∧∀ k,k<i→(h:k<l.length)→p l[k]=false) (fun i=>l.length-i) (0) hP hQ (rfl) (by simp) ?_
 rintro i ⟨hi,hk⟩ w1 hP1 hQ1
 refine N1 ?_
 (first | with_reducible refine cN _ ?_ ?_ | refine cO _ ?_ ?_) <;> intro h1
 ·simp +decide (maxSteps:=9^9) (disch:=omega) only[↓SB0,SX,seval,hQ,hQ1,bF h1,cP]
  cases h2:p (l[i]'(by omega)) with
  | true=>
   have hz:=h2
   refine Kz1 (hc (l[i]'(by omega)) (lN _)) ?_
   rw [pE hk (by omega) h2]; rfl
  | false=>
   have hz:=h2
   refine Kz1 (hc (l[i]'(by omega)) (lN _)) ?_
   exact ⟨i+1,rfl,⟨by omega,nD hk (by omega) h2⟩,by omega⟩
 ·obtain rfl:i=l.length:=by omega
  refine N1 ?_
  rw [pG fun k h=>hk k h h]; rfl
theorem oT {g:Nat} {p:aA→Bool} (l:List aA) (hl:l.length<2^48) (hc:∀ v ∈ l,aZ Tryz.prog g [.str v] (.bool (p v)) [.undef]) :
  aZ Tryz.prog 185 [.ext 1 (l.map cP),.fn g []] (.bool (l.any p)) [.undef,.undef]:=by
 have hI:=sA l hl hc
 cases e:l.findIdx? p with
 | none=>
  have:l.any p=false:=by
   rw [List.any_eq_false]
   intro x hx
   rw [lW2] at e
   simp [e x hx]
  rw [e] at hI
  rw [this]
  refine U f8 [] 19 [] fun w hP hQ=>?_
  unfold dV
  refine N ?_
  exact K (hI) trivial
 | some k=>
  have:l.any p=true:=by
   rw [lA2] at e
   rw [List.any_eq_true]
   exact ⟨_,lN e.1,e.2.1⟩
  rw [e,show abe (some k)=(k:Int) from rfl] at hI
  rw [this]
  have hz:decide ((0:Int)≤(k:Nat))=true:=lE (by omega)
  refine U f8 [] 19 [] fun w hP hQ=>?_
  unfold dV
  refine N ?_
  have hz:=hz
  exact Kz (hI) trivial
theorem aac (l:List aA) (hl:l.length<2^48) (hs:∀ n ∈ l,n.length<2^48):aZ Tryz.prog 143 [.ext 1 (l.map cP)] (.bool (cA l)) [.undef]:=by
 have hC:=oT (g:=186) (p:=fun s=>!aY s) l hl fun v hv=>ac4 v (hs v hv)
 have e:cA l=(decide (((l.length:Nat):Int)≤30) && !(l.any fun s=>!aY s)):=by
  rw [cA,List.not_any_eq_all_not,show decide (l.length≤30)=decide (((l.length:Nat):Int)≤30) by rw [decide_eq_decide]; omega]
  simp
 rw [e]
 refine U aeI [] 5 [] fun w hP hQ=>?_
 unfold wG
 refine N ?_
 (first | with_reducible refine sV _ ?_ ?_ | refine sW _ ?_ ?_) <;> intro h
 ·have hz:=h
  refine Nz ?_
  refine K (hC) ?_
  rw [lE h]; rfl
 ·have hz:=h
  exact Nz trivial
theorem ae6 (s:aA):∀ n ∈ bJ s,n.length≤s.length:=by
 induction s with
 | nil=>simp [bJ]
 | cons c s ih=>
  intro n hn
  by_cases hc:c=47
  ·rw [bJ,lF hc] at hn
   rcases lG.1 hn with rfl | hn
   ·simp
   ·have:=ih n hn; simp; omega
  ·obtain ⟨a,t,e1,e2⟩:=m7 c s hc
   rw [e2] at hn
   rcases lG.1 hn with rfl | hn
   ·have:=ih a (by rw [e1]; simp); simp; omega
   ·have:=ih n (by rw [e1]; simp [hn]); simp; omega
theorem ah3 (s:aA):(bJ s).length≤s.length+1:=by rw [oS]; have:=ac3 s; omega
theorem oU (s:aA) (hl:s.length<2^40):aZ Tryz.prog 81 [.str s] (.tup [.own 1 ((aC s).1.map cP),.bool (aC s).2]) [.undef]:=by
 have hS:=aov s hl
 have hp:=ae6 s
 have hf:=ah3 s
 by_cases h0:s=[47]
 ·subst h0
  refine U f7 [] 29 [] fun w hP hQ=>?_
  unfold eT
  refine N ?_
  rfl
 cases e:bJ s with
 | nil=>exact absurd e (rR s)
 | cons a t=>
  rw [e] at hS hp hf
  cases a with
  | cons c a=>
   have er:aC s=([],false):=by rw [aC,lI h0,e]; rfl
   rw [er]
   refine U f7 [] 29 [] fun w hP hQ=>?_
   unfold eT
   refine N ?_
   have hz:=h0
   refine Nz ?_
   (first|refine cI hP (hS) rfl rfl ?_|refine cH hP (hS) rfl rfl ?_)
   simp +decide (maxSteps:=9^9) (disch:=omega) only[↓SB0,SX,seval,hQ,lO,cP]
  | nil=>
   cases t with
   | nil=>
    have er:aC s=([],false):=by rw [aC,lI h0,e]; rfl
    rw [er]
    refine U f7 [] 29 [] fun w hP hQ=>?_
    unfold eT
    refine N ?_
    have hz:=h0
    refine Nz ?_
    (first|refine cI hP (hS) rfl rfl ?_|refine cH hP (hS) rfl rfl ?_)
    simp +decide (maxSteps:=9^9) (disch:=omega) only[↓SB0,SX,seval,hQ,lO,lR1,cP]
   | cons n t=>
    have hN:=aac (n::t) (by simp only [lW] at hf ⊢; omega) fun x hx=>by have:=hp x (by simp [hx]); omega
    have hw:decide (((t.length+1+1:Nat):Int)<2)=false:=lB (by omega)
    have hy:1+(t.length+1)≤t.length+1+1:=by omega
    have hz:(((t.length+1+1:Nat):Int)-1).toNat=t.length+1:=by omega
    have ht:([TV.str n]::List.map cP t).take (t.length+1)=[TV.str n]::List.map cP t:=lJ2 (by simp)
    simp only [lO,show cP n=[TV.str n] from rfl] at hN
    cases hn:cA (n::t) with
    | false=>
     have er:aC s=([],false):=acZ e hn h0
     rw [hn] at hN
     rw [er]
     refine U f7 [] 29 [] fun w hP hQ=>?_
     unfold eT
     refine N ?_
     simp +decide (maxSteps:=9^9) (disch:=omega) only[↓SB0,SX,seval,hQ,h0]
     (first|refine cI hP (hS) rfl rfl ?_|refine cH hP (hS) rfl rfl ?_)
     simp +decide (maxSteps:=9^9) (disch:=omega) only[↓SB0,SX,seval,hQ,lO,cP,hw,hz,ht,hy]
     (first|refine cI hP (hN) rfl rfl ?_|refine cH hP (hN) rfl rfl ?_)
     simp +decide (maxSteps:=9^9) (disch:=omega) only[↓SB0,SX,seval,hQ,hw,hz,ht,hy,lO,cP]
    | true=>
     have er:aC s=(n::t,true):=aaa e (by simp) hn h0
     rw [hn] at hN
     rw [er]
     refine U f7 [] 29 [] fun w hP hQ=>?_
     unfold eT
     refine N ?_
     simp +decide (maxSteps:=9^9) (disch:=omega) only[↓SB0,SX,seval,hQ,h0]
     (first|refine cI hP (hS) rfl rfl ?_|refine cH hP (hS) rfl rfl ?_)
     simp +decide (maxSteps:=9^9) (disch:=omega) only[↓SB0,SX,seval,hQ,lO,cP,hw,hz,ht,hy]
     (first|refine cI hP (hN) rfl rfl ?_|refine cH hP (hN) rfl rfl ?_)
     simp +decide (maxSteps:=9^9) (disch:=omega) only[↓SB0,SX,seval,hQ,hw,hz,ht,hy,lO,cP]
theorem aad {n:Nat} (h:n<2^63):IntKind.i64.wrap (n:Int)=n:=by
 have h1:((2:Int)^IntKind.i64.bits)=2^64:=by decide
 have h2:((2:Int)^(IntKind.i64.bits-1))=2^63:=by decide
 unfold IntKind.wrap
 simp only [h1,h2,IntKind.signed]
 simp
 omega
theorem ac5 (n:aA) (l:List aA):(47:UInt8)::Lib.join (n::l) [47]=c6 (n::l):=by
 rw [Lib.join_cons,ah1]
 congr 2
theorem aae {l:List aA} (h:cA l=true):(Lib.join l [47]).length≤450:=by
 cases l with
 | nil=>simp [Lib.join_nil]
 | cons n l=>
  have:=xL h
  rw [← ac5] at this
  simp at this; omega
theorem ae7 (l:List aA) (hl:l.length<2^40) (hs:∀ n ∈ l,n.length<2^48):aZ Tryz.prog 179 [.ext 1 (l.map cP)] (.str (bX l)) [.undef]:=by
 have hN:=aac l (by omega) hs
 cases e:cA l with
 | false=>
  rw [e] at hN
  rw [bX,lI (by simp [e])]
  refine U tX [] 5 [] fun w hP hQ=>?_
  unfold oF
  refine N ?_
  exact K (hN) trivial
 | true=>
  rw [e] at hN
  have hJ:=apO l hl (by have:=aae e; omega)
  have er:(47:UInt8)::Lib.join l [47]=bX l:=by
   rw [bX,lF e]
   cases l with
   | nil=>rfl
   | cons n l=>rw [ac5,lI (by simp)]
  rw [← er]
  refine U tX [] 5 [] fun w hP hQ=>?_
  unfold oF
  refine N ?_
  refine K (hN) ?_
  have hb:1+(Lib.join l [47]).length≤4611686018427387904:=by have:=aae e; omega
  have hz:=hb
  exact Kz (hJ) trivial
theorem tJ {s:aA}:∀ n ∈ (aC s).1,n.length≤14:=by
 intro n hn
 cases h:(aC s).2 with
 | false=>rw [agh h] at hn; simp at hn
 | true=>exact (jZ ((l9 (m8 h).1).2 n hn)).2
theorem mL (s:aA):(aC s).1.length≤30:=by
 cases h:(aC s).2 with
 | false=>rw [agh h]; simp
 | true=>exact (l9 (m8 h).1).1
theorem xM {l:List aA} {k:Nat} (h:l.length=k+1):l[k]?=some (l.getLastD []):=by
 have hne:l≠[]:=fun e=>by rw [e] at h; simp at h
 rw [List.getLastD_eq_getLast?,List.getLast?_eq_some_getLast hne,List.getLast_eq_getElem]
 simp [h]
theorem ae8 (s:aA) (hl:s.length<2^40):aZ Tryz.prog 123 [.str s] (.tup [.str (aJ s).1,.str (aJ s).2.1,.bool (aJ s).2.2]) [.undef]:=by
 have hS:=oU s hl
 have hp:=tJ (s:=s)
 have hf:=mL s
 unfold aJ
 generalize aC s=x at *
 obtain ⟨l,b⟩:=x
 cases b with
 | false=>
  rw [lI (by simp)]
  refine U oI [] 253 [] fun w hP hQ=>?_
  unfold jX
  refine N ?_
  exact K (hS) trivial
 | true=>
  cases hk:l.length with
  | zero=>
   obtain rfl:l=[]:=lQ1.1 hk
   rw [lI (by simp)]
   refine U oI [] 253 [] fun w hP hQ=>?_
   unfold jX
   refine N ?_
   exact K (hS) trivial
  | succ k=>
   have hne:l≠[]:=fun e=>by rw [e] at hk; simp at hk
   rw [lF ⟨rfl,hne⟩]
   have hJ:=ae7 l.dropLast (by simp; simp only at hf; omega) fun n hn=>by have:=hp n (List.dropLast_subset _ hn); omega
   rw [List.dropLast_eq_take,hk] at hJ ⊢
   simp only [Nat.add_sub_cancel,lU4] at hJ ⊢
   have hg:=xM hk
   have h0:(decide (((k+1:Nat):Int)=0))=false:=lB (by omega)
   have h1:(((k+1:Nat):Int)-1)=(k:Int):=by omega
   have h2:((k:Int)-0).toNat=k:=by omega
   have h3:0+k≤k+1:=by omega
   have h4:=aad (n:=k) (by simp only [hk] at hf; omega)
   refine U oI [] 253 [] fun w hP hQ=>?_
   unfold jX
   refine N ?_
   have hz:=And.intro hk (And.intro h0 (And.intro h1 (And.intro h2 (And.intro h3 h4))))
   refine Kz (hS) ?_
   (first|refine cI hP (hJ) rfl rfl ?_|refine cH hP (hJ) rfl rfl ?_)
   simp +decide (maxSteps:=9^9) (disch:=omega) only[↓SB0,SX,seval,hQ,hk,h0,h1,h2,h3,h4,hg,cP]
theorem ae9 {l m:List aA} (h:l.length≤m.length):l.isPrefixOf m=decide (l=m.take l.length):=by
 rw [lU3,lU2,decide_eq_true_eq]
 exact List.prefix_iff_eq_take
theorem afa {l m:List aA} (h:m.length<l.length):l.isPrefixOf m=false:=by
 cases e:l.isPrefixOf m with
 | false=>rfl
 | true=>have:=(lU2.1 e).length_le; omega
end Go.Proofs.YtnfngemnghiehaaGreatDoor.Awp
