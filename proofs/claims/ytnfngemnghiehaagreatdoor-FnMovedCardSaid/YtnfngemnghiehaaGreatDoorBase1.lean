/- Contracts of functions that the laws on trees reach are proved here (part 1). Condition: none. -/
import Derived.Test.YtnfngemnghiehaaGreatDoorAwp3
import Derived.Test.YtnfngemnghiehaaGreatDoorRows
import Derived.Test.YtnfngemnghiehaaGreatDoorCards
import Derived.Test.YtnfngemnghiehaaGreatDoorTie
import Derived.Shelf.Lays
import Derived.Sort.Walk0
import Derived.Shelf.Strings.Search3
import Derived.Shelf.Strings.Count
import Derived.Shelf.Strings.OnBuilder
import Derived.Shelf.Sort.Plain
import Derived.Shelf.Slices.In.SortNone
import Derived.Shelf.Spec.SlicesInsert
import Derived.Shelf.Spec.SlicesInsertGrow
import Derived.Deep.MidRow
import Derived.ArgAppend
import Derived.OpenShut
import Derived.SevenTiedAt
import Derived.KernelRfl
set_option linter.unusedVariables false
set_option linter.unusedSimpArgs false
set_option maxRecDepth 100000
set_option maxHeartbeats 20000000
open Nat (reduceEqDiff reduceAdd reduceMul reduceSub)
open Int (reduceNeg reduceToNat reducePow)
namespace Go.Proofs.YtnfngemnghiehaaGreatDoor.Awp
section
namespace W
abbrev a (d x:Nat):GI:=⟨none,some d,.mov d (.t x)⟩
abbrev b (d x s:Nat):GI:=⟨none,some d,.ld d (.t x) s true⟩
abbrev b' (d x s:Nat):GI:=⟨none,some d,.ld d (.t x) s false⟩
abbrev c (d f:Nat) (l:List O):GI:=⟨none,some d,.call (some d) f l⟩
abbrev e (d x:Nat):GI:=⟨none,some d,.asg d (.t x)⟩
abbrev e' (d:Nat) (x:O):GI:=⟨none,some d,.asg d x⟩
abbrev f (d x i:Nat):GI:=⟨none,some d,.fld d (.t x) i⟩
abbrev g (d:Nat) (o:BinOp) (x y:O):GI:=⟨none,some d,.bin d o x y⟩
abbrev x (d x i:Nat):GI:=⟨none,some d,.xtr d (.t x) i⟩
abbrev l (d x:Nat):GI:=⟨none,some d,.len d (.t x)⟩
abbrev s (x y n:Nat):GI:=⟨none,none,.st (.t x) (.t y) n⟩
abbrev i (d x y s:Nat):GI:=⟨none,some d,.idx d (.t x) (.t y) s⟩
abbrev p (d x:Nat) (y z:O):GI:=⟨none,some d,.pck d (.t x) y z⟩
abbrev o (d s:Nat) (y:List O):GI:=⟨none,some d,.bsl d s y⟩
abbrev z (d:Nat) (y:List TV):GI:=⟨none,some d,.alc d y⟩
abbrev ha (t:Nat) (q:Bool) (d x:Nat):GI:=⟨some (t,q),some d,.mov d (.t x)⟩
abbrev hb (t:Nat) (q:Bool) (d x s:Nat):GI:=⟨some (t,q),some d,.ld d (.t x) s true⟩
abbrev hc (t:Nat) (q:Bool) (d f:Nat) (l:List O):GI:=⟨some (t,q),some d,.call (some d) f l⟩
end W
open I W
def aim:Cmd:=Q (R [e' 2 k0]) (Q (R [a 3 0,l 4 3,g 5 .gtr (v 4) (k 1048576),e 2 5]) .ret)
def uN:Cmd:=Q (R [n 2 (box 2 (v 0)),n 3 (box 3 (v 1)),e' 4 k0]) (Q (R [f 5 2 1,b' 6 5 1,f 7 3 1,b' 8 7 1,g 9 .eql (v 6) (v 8),a 10 9,h 10 true 11 (fld 11 (v 2) 0),h 10 true 12 (ld 12 (v 11) 1 false),h 10 true 13 (fld 13 (v 3) 0),h 10 true 14 (ld 14 (v 13) 1 false),hc 10 true 15 72 [v 12,v 14,.c (.fn 73 [])],p 16 10 (v 15) k0,e 4 16]) .ret)
def iK:Cmd:=Q (R [n 2 (box 2 (v 0)),z 4 [.sl 6 [],.int .i64 0],e' 5 (k 0)]) (Q (R [a 13 1,c 14 75 [v 13],a 12 14,x 15 12 0,x 16 12 1,x 17 12 2,e 6 15,e 7 16,e 8 17]) (Q (Q (R [b 18 2 2,c 19 46 [v 18],n 20 (un 20 .not (v 19)),a 21 20,ha 21 false 22 8,h 21 false 23 (un 23 .not (v 22)),p 24 21 k1 (v 23)]) (F (v 24) (Q (R [b 25 2 2,c 26 76 [v 25],s 4 26 2,e' 5 (k 1)]) .ret) .skip)) (Q (R [b 28 2 2,a 29 1,c 30 77 [v 28,v 29],a 27 30,x 31 27 0,x 32 27 1,z 9 [.int .i64 0,.int .i64 0,.int .i64 0,.sl 1 [],.sl 2 [],.sl 2 []],s 9 31 6,e 10 32]) (Q (Q (R [a 33 10,g 34 .neq (v 33) (k 0)]) (F (v 34) (Q (R [b 35 2 2,c 36 76 [v 35],a 37 10,s 4 36 2,e 5 37]) .ret) .skip)) (Q (R [b 38 2 2,a 39 1,c 40 78 [v 38,v 39],z 11 [.sl 6 [],.int .i64 0],s 11 40 2]) (Q (Q (R [f 41 9 2,b' 42 41 1,g 43 .eql (v 42) (k 1)]) (F (v 43) (Q (R [b 44 11 2,f 45 9 0,b' 46 45 1,c 47 79 [v 44,v 46],s 4 47 2,e' 5 (k 0)]) .ret) .skip)) (Q (R [f 48 9 2,b' 49 48 1,g 50 .sub (v 49) (k 1),f 51 9 2,s 51 50 1]) (Q (R [b 52 11 2,b 53 9 6,c 54 80 [v 52,v 53],s 4 54 2,e' 5 (k 0)]) .ret))))))))
def zZ:Cmd:=Q (R [n 2 (box 2 (v 0)),e' 4 (k 0),e' 5 (k 0)]) (Q (R [a 14 1,c 15 81 [v 14],a 13 15,x 16 13 0,x 17 13 1,e 6 16,e 7 17]) (Q (Q (R [a 18 7,n 19 (un 19 .not (v 18))]) (F (v 19) (Q (R [e' 4 (k 0),e' 5 (k 1)]) .ret) .skip)) (Q (R [e' 8 (k 1)]) (Q (Q (R [a 20 6,l 21 20,n 22 (mov 22 (k 0))]) (.blk 0 (.loop (Q (R [g 23 .lss (v 22) (v 21)]) (Q (F (v 23) .skip (.exit 0)) (Q (.blk 1 (Q (R [i 24 20 22 1,b' 25 24 1,e 10 25]) (Q (R [b 27 2 2,a 28 8,c 29 70 [v 27,v 28],a 26 29,x 30 26 0,x 31 26 1,z 11 [.int .i64 0,.int .i64 0,.int .i64 0,.sl 1 [],.sl 2 [],.sl 2 []],s 11 30 6,e 12 31]) (Q (.blk 2 (Q (R [a 33 12,n 34 (un 34 .not (v 33)),e 32 34]) (F (v 32) (Q (R [e' 4 (k 0),e' 5 (k 2)]) .ret) (Q (R [f 36 11 1,b' 37 36 1,g 38 .neq (v 37) (k 2),e 35 38]) (F (v 35) (Q (R [e' 4 (k 0),e' 5 (k 3)]) .ret) .skip))))) (Q (R [b 39 11 6,a 40 10,c 41 69 [v 39,v 40],e 8 41]) (Q (R [a 42 8,g 43 .eql (v 42) (k 0)]) (F (v 43) (Q (R [e' 4 (k 0),e' 5 (k 2)]) .ret) .skip))))))) (R [g 44 .add (v 22) (k 1),a 22 44]))))))) (Q (R [a 45 8,e 4 45,e' 5 (k 0)]) .ret)))))
def xH:Cmd:=Q (R [n 1 (box 1 (v 0)),e' 2 k0]) (Q (Q (D [0,1,3,7,15,31,63,15,143,399,1023,2047] [b 7 1 2,c 8 85 [v 7],n 9 (un 9 .not (v 8)),a 10 9,hb 10 false 11 1 2,hc 10 false 12 49 [v 11],h 10 false 13 (len 13 (v 12)),h 10 false 14 (fld 14 (v 1) 0),h 10 false 15 (ld 15 (v 14) 1 false),h 10 false 16 (len 16 (v 15)),h 10 false 17 (bin 17 .neq (v 13) (v 16)),p 18 10 k1 (v 17)]) (F (v 18) (Q (R [e' 2 k0]) .ret) .skip)) (Q (Q (R [f 19 1 0,b' 20 19 1,l 21 20,n 22 (mov 22 (k 0))]) (.blk 0 (.loop (Q (R [g 23 .lss (v 22) (v 21)]) (Q (F (v 23) .skip (.exit 0)) (Q (.blk 1 (Q (R [i 24 20 22 6,b 25 24 6,z 4 [.int .i64 0,.int .i64 0,.int .i64 0,.sl 1 [],.sl 2 [],.sl 2 []],s 4 25 6]) (Q (Q (D [0,1,0,0,8,28,63] [f 26 4 2,b' 27 26 1,b 28 1 2,f 29 4 0,b' 30 29 1,c 31 86 [v 28,v 30],g 32 .neq (v 27) (v 31)]) (F (v 32) (Q (R [e' 2 k0]) .ret) .skip)) (Q (R [f 33 4 4,b' 34 33 1,l 35 34,n 36 (mov 36 (k 0))]) (.blk 2 (.loop (Q (R [g 37 .lss (v 36) (v 35)]) (Q (F (v 37) .skip (.exit 2)) (Q (.blk 3 (Q (R [i 38 34 36 2,b 39 38 2,z 6 [.str [],.int .i64 0],s 6 39 2]) (Q (R [b 40 1 2,f 41 6 1,b' 42 41 1,c 43 87 [v 40,v 42],g 44 .lss (v 43) (k 0)]) (F (v 44) (Q (R [e' 2 k0]) .ret) .skip)))) (R [g 45 .add (v 36) (k 1),a 36 45])))))))))) (R [g 46 .add (v 22) (k 1),a 22 46]))))))) (Q (R [e' 2 k1]) .ret)))
def dL:Cmd:=Q (R [n 2 (box 2 (v 0)),z 4 [.sl 6 [],.int .i64 0],e' 5 (k 0)]) (Q (R [a 12 1,c 13 75 [v 12],a 11 13,x 14 11 0,x 15 11 1,x 16 11 2,e 6 14,e 7 15,e 8 16]) (Q (Q (R [b 17 2 2,c 18 46 [v 17],n 19 (un 19 .not (v 18)),a 20 19,ha 20 false 21 8,h 20 false 22 (un 22 .not (v 21)),p 23 20 k1 (v 22)]) (F (v 23) (Q (R [b 24 2 2,c 25 76 [v 24],s 4 25 2,e' 5 (k 1)]) .ret) .skip)) (Q (R [b 27 2 2,a 28 1,c 29 88 [v 27,v 28],a 26 29,x 30 26 0,x 31 26 1,z 9 [.int .i64 0,.int .i64 0,.int .i64 0,.sl 1 [],.sl 2 [],.sl 2 []],s 9 30 6,e 10 31]) (Q (.blk 0 (Q (R [a 33 10,g 34 .neq (v 33) (k 0),e 32 34]) (F (v 32) (Q (R [b 35 2 2,c 36 76 [v 35],a 37 10,s 4 36 2,e 5 37]) .ret) (Q (R [f 39 9 1,b' 40 39 1,g 41 .neq (v 40) (k 2),e 38 41]) (F (v 38) (Q (R [b 42 2 2,c 43 76 [v 42],s 4 43 2,e' 5 (k 3)]) .ret) (Q (R [f 45 9 4,b' 46 45 1,l 47 46,g 48 .gtr (v 47) (k 0),e 44 48]) (F (v 44) (Q (R [b 49 2 2,c 50 76 [v 49],s 4 50 2,e' 5 (k 6)]) .ret) .skip))))))) (Q (D [0,0,3,0,8,31,63,127] [b 51 2 2,a 52 1,c 53 78 [v 51,v 52],f 54 9 0,b' 55 54 1,c 56 79 [v 53,v 55],s 4 56 2,e' 5 (k 0)]) .ret)))))
def sK:Cmd:=Q (R [n 2 (box 2 (v 0)),z 4 [.sl 6 [],.int .i64 0],e' 5 (k 0)]) (Q (R [b 6 2 2,a 7 1,c 8 89 [v 6,v 7,k 1],x 9 8 0,x 10 8 1,s 4 9 2,e 5 10]) .ret)
def uO:Cmd:=Q (R [n 2 (box 2 (v 0)),z 4 [.sl 6 [],.int .i64 0],e' 5 (k 0)]) (Q (R [b 6 2 2,a 7 1,c 8 89 [v 6,v 7,k 2],x 9 8 0,x 10 8 1,s 4 9 2,e 5 10]) .ret)
def dZ:Cmd:=Q (R [n 3 (box 3 (v 0)),z 6 [.sl 6 [],.int .i64 0],e' 7 (k 0)]) (Q (R [a 19 1,c 20 91 [v 19],a 18 20,x 21 18 0,x 22 18 1,e 8 21,e 9 22]) (Q (R [a 24 2,c 25 75 [v 24],a 23 25,x 26 23 0,x 27 23 1,x 28 23 2,e 10 26,e 11 27,e 12 28]) (Q (Q (R [b 29 3 2,c 30 46 [v 29],n 31 (un 31 .not (v 30)),a 32 31,ha 32 false 33 9,h 32 false 34 (un 34 .not (v 33)),p 35 32 k1 (v 34),a 36 35,ha 36 false 37 12,h 36 false 38 (un 38 .not (v 37)),p 39 36 k1 (v 38)]) (F (v 39) (Q (R [b 40 3 2,c 41 76 [v 40],s 6 41 2,e' 7 (k 1)]) .ret) .skip)) (Q (R [b 43 3 2,a 44 1,c 45 77 [v 43,v 44],a 42 45,x 46 42 0,x 47 42 1,z 13 [.int .i64 0,.int .i64 0,.int .i64 0,.sl 1 [],.sl 2 [],.sl 2 []],s 13 46 6,e 14 47]) (Q (Q (R [a 48 14,g 49 .neq (v 48) (k 0)]) (F (v 49) (Q (R [b 50 3 2,c 51 76 [v 50],a 52 14,s 6 51 2,e 7 52]) .ret) .skip)) (Q (R [b 54 3 2,a 55 2,c 56 92 [v 54,v 55,k 0],a 53 56,x 57 53 0,x 58 53 1,x 59 53 2,z 15 [.int .i64 0,.int .i64 0,.int .i64 0,.sl 1 [],.sl 2 [],.sl 2 []],s 15 57 6,e 16 58,e 17 59]) (Q (Q (R [a 60 17,g 61 .neq (v 60) (k 0)]) (F (v 61) (Q (R [b 62 3 2,c 63 76 [v 62],a 64 17,s 6 63 2,e 7 64]) .ret) .skip)) (Q (R [f 65 13 2,b' 66 65 1,g 67 .add (v 66) (k 1),f 68 13 2,s 68 67 1]) (Q (R [f 69 15 4,b' 70 69 1,a 71 16,f 72 13 0,b' 73 72 1,n 74 (bld 74 [.str [],.int .i64 0] [(0,1,v 71),(1,1,v 73)]),c 75 93 [v 70,v 74],f 76 15 4,s 76 75 1]) (Q (D [0,0,3,0,15,31,63] [b 77 3 2,b 78 13 6,c 79 80 [v 77,v 78],b 80 15 6,c 81 80 [v 79,v 80],s 6 81 2,e' 7 (k 0)]) .ret))))))))))
def fI:Cmd:=Q (R [n 3 (box 3 (v 0)),z 6 [.sl 6 [],.int .i64 0],e' 7 (k 0)]) (Q (R [a 28 1,c 29 75 [v 28],a 27 29,x 30 27 0,x 31 27 1,x 32 27 2,e 8 30,e 9 31,e 10 32]) (Q (R [a 34 2,c 35 75 [v 34],a 33 35,x 36 33 0,x 37 33 1,x 38 33 2,e 11 36,e 12 37,e 13 38]) (Q (Q (R [b 39 3 2,c 40 46 [v 39],n 41 (un 41 .not (v 40)),a 42 41,ha 42 false 43 10,h 42 false 44 (un 44 .not (v 43)),p 45 42 k1 (v 44),a 46 45,ha 46 false 47 13,h 46 false 48 (un 48 .not (v 47)),p 49 46 k1 (v 48)]) (F (v 49) (Q (R [b 50 3 2,c 51 76 [v 50],s 6 51 2,e' 7 (k 1)]) .ret) .skip)) (Q (R [b 53 3 2,a 54 1,c 55 97 [v 53,v 54],a 52 55,x 56 52 0,x 57 52 1,e 14 56,e 15 57]) (Q (Q (R [a 58 15,g 59 .neq (v 58) (k 0)]) (F (v 59) (Q (R [b 60 3 2,c 61 76 [v 60],a 62 15,s 6 61 2,e 7 62]) .ret) .skip)) (Q (Q (R [a 63 1,a 64 2,c 65 98 [v 63,v 64]]) (F (v 65) (Q (R [b 66 3 2,c 67 76 [v 66],s 6 67 2,e' 7 (k 6)]) .ret) .skip)) (Q (R [b 69 3 2,a 70 8,c 71 97 [v 69,v 70],a 68 71,x 72 68 0,x 73 68 1,e 16 72,e 17 73]) (Q (R [b 75 3 2,a 76 2,a 77 16,c 78 92 [v 75,v 76,v 77],a 74 78,x 79 74 0,x 80 74 1,x 81 74 2,z 18 [.int .i64 0,.int .i64 0,.int .i64 0,.sl 1 [],.sl 2 [],.sl 2 []],s 18 79 6,e 19 80,e 20 81]) (Q (Q (R [a 82 20,g 83 .neq (v 82) (k 0)]) (F (v 83) (Q (R [b 84 3 2,c 85 76 [v 84],a 86 20,s 6 85 2,e 7 86]) .ret) .skip)) (Q (R [b 87 3 2,a 88 1,c 89 78 [v 87,v 88],z 21 [.sl 6 [],.int .i64 0],s 21 89 2]) (Q (R [a 91 2,c 92 75 [v 91],a 90 92,x 93 90 0,x 94 90 1,x 95 90 2,e 22 93,e 23 94,e 24 95]) (Q (R [b 97 21 2,a 98 22,c 99 88 [v 97,v 98],a 96 99,x 100 96 0,x 101 96 1,z 25 [.int .i64 0,.int .i64 0,.int .i64 0,.sl 1 [],.sl 2 [],.sl 2 []],s 25 100 6,e 26 101]) (Q (R [f 102 25 4,b' 103 102 1,a 104 19,a 105 14,n 106 (bld 106 [.str [],.int .i64 0] [(0,1,v 104),(1,1,v 105)]),c 107 93 [v 103,v 106],f 108 25 4,s 108 107 1]) (Q (R [b 109 21 2,b 110 25 6,c 111 80 [v 109,v 110],s 6 111 2,e' 7 (k 0)]) .ret))))))))))))))
def xI:Cmd:=Q (R [n 1 (box 1 (v 0)),e' 2 k0]) (Q (Q (D [0,1,3,7,15,31,63,15,143,399,1023,2047] [b 6 1 2,c 7 107 [v 6],n 8 (un 8 .not (v 7)),a 9 8,hb 9 false 10 1 2,hc 9 false 11 50 [v 10],h 9 false 12 (len 12 (v 11)),h 9 false 13 (fld 13 (v 1) 0),h 9 false 14 (ld 14 (v 13) 1 false),h 9 false 15 (len 15 (v 14)),h 9 false 16 (bin 16 .neq (v 12) (v 15)),p 17 9 k1 (v 16)]) (F (v 17) (Q (R [e' 2 k0]) .ret) .skip)) (Q (Q (R [e' 3 (k 0)]) (.blk 0 (.loop (Q (Q (R [a 18 3,f 19 1 0,b' 20 19 1,l 21 20,g 22 .lss (v 18) (v 21)]) (F (v 22) .skip (.exit 0))) (Q (.blk 1 (Q (R [f 25 1 0,b' 26 25 1,a 27 3,i 28 26 27 6,b 29 28 6,z 4 [.int .i64 0,.int .i64 0,.int .i64 0,.sl 1 [],.sl 2 [],.sl 2 []],s 4 29 6]) (Q (Q (D [0,0,2,7,0,16,63] [b 30 1 2,f 31 4 0,b' 32 31 1,c 33 108 [v 30,v 32],f 34 4 2,b' 35 34 1,g 36 .neq (v 33) (v 35)]) (F (v 36) (Q (R [e' 2 k0]) .ret) .skip)) (Q (R [e' 5 (k 0)]) (.blk 2 (.loop (Q (Q (R [a 37 5,f 38 4 4,b' 39 38 1,l 40 39,g 41 .lss (v 37) (v 40)]) (F (v 41) .skip (.exit 2))) (Q (.blk 3 (Q (D [0,0,2,0,14,30,62,127,255] [b 44 1 2,f 45 4 4,b' 46 45 1,a 47 5,i 48 46 47 2,f 49 48 1,b' 50 49 1,c 51 109 [v 44,v 50],g 52 .lss (v 51) (k 0)]) (F (v 52) (Q (R [e' 2 k0]) .ret) .skip))) (R [a 42 5,g 43 .add (v 42) (k 1),e 5 43]))))))))) (R [a 23 3,g 24 .add (v 23) (k 1),e 3 24])))))) (Q (R [e' 2 k1]) .ret)))
def uP:Cmd:=Q (R [n 1 (box 1 (v 0)),e' 2 (.c (.own 1 []))]) (Q (R [o 10 1 [],e 3 10]) (Q (R [o 11 1 [k 1],e 4 11]) (Q (.blk 0 (.loop (Q (Q (R [a 12 4,l 13 12,g 14 .gtr (v 13) (k 0)]) (F (v 14) .skip (.exit 0))) (.blk 1 (Q (R [a 15 4,n 16 (idx 16 (v 15) (k 0) 1),b' 17 16 1,e 5 17]) (Q (R [a 18 4,n 19 (slc 19 (v 18) (some (k 1)) none 1),e 4 19]) (Q (R [b 21 1 2,a 22 5,c 23 70 [v 21,v 22],a 20 23,x 24 20 0,x 25 20 1,z 6 [.int .i64 0,.int .i64 0,.int .i64 0,.sl 1 [],.sl 2 [],.sl 2 []],s 6 24 6,e 7 25]) (Q (Q (R [a 26 7,n 27 (un 27 .not (v 26)),a 28 27,ha 28 false 29 3,ha 28 false 30 5,hc 28 false 31 110 [v 29,v 30],p 32 28 k1 (v 31)]) (F (v 32) (.exit 1) .skip)) (Q (R [a 33 3,a 34 5,o 35 1 [v 34],n 36 (app 36 (v 33) (v 35) 1 8),e 3 36]) (Q (R [f 37 6 1,b' 38 37 1,g 39 .eql (v 38) (k 2)]) (F (v 39) (Q (R [f 40 6 4,b' 41 40 1,l 42 41,n 43 (mov 43 (k 0))]) (.blk 2 (.loop (Q (R [g 44 .lss (v 43) (v 42)]) (Q (F (v 44) .skip (.exit 2)) (Q (.blk 3 (Q (R [i 45 41 43 2,b 46 45 2,z 9 [.str [],.int .i64 0],s 9 46 2]) (R [a 47 4,f 48 9 1,b' 49 48 1,o 50 1 [v 49],n 51 (app 51 (v 47) (v 50) 1 8),e 4 51]))) (R [g 52 .add (v 43) (k 1),a 43 52]))))))) .skip))))))))))) (Q (R [a 53 3,c 54 111 [v 53]]) (Q (R [a 55 3,e 2 55]) .ret)))))
def pL:Cmd:=Q (R [n 1 (box 1 (v 0)),e' 2 (.c (.own 1 []))]) (Q (R [o 5 1 [],e 3 5]) (Q (Q (R [b 6 1 2,c 7 109 [v 6,k 1],g 8 .lss (v 7) (k 0)]) (F (v 8) (Q (R [a 9 3,e 2 9]) .ret) .skip)) (Q (R [a 10 3,o 11 1 [k 1],n 12 (app 12 (v 10) (v 11) 1 8),e 3 12]) (Q (Q (R [e' 4 (k 0)]) (.blk 0 (.loop (Q (Q (R [a 13 4,f 14 1 0,b' 15 14 1,l 16 15,g 17 .lss (v 13) (v 16)]) (F (v 17) .skip (.exit 0))) (Q (.blk 1 (R [b 20 1 2,a 21 3,c 22 112 [v 20,v 21],e 3 22])) (R [a 18 4,g 19 .add (v 18) (k 1),e 4 19])))))) (Q (R [a 23 3,e 2 23]) .ret)))))
def abi:Cmd:=Q (R [e' 2 (.c (.undef))]) (Q (R [a 5 0,l 6 5,g 7 .add (k 351351) (v 6),e 3 7]) (Q (Q (R [e' 4 (k 0)]) (.blk 0 (.loop (Q (Q (R [a 8 4,a 9 0,l 10 9,g 11 .lss (v 8) (v 10),a 12 11,ha 12 true 13 4,h 12 true 14 (bin 14 .lss (v 13) (k 4000)),p 15 12 (v 14) k0]) (F (v 15) .skip (.exit 0))) (Q (.blk 1 (R [a 18 3,g 19 .mul (v 18) (k 137),a 20 0,a 21 4,i 22 20 21 1,b' 23 22 1,n 24 (conv 24 .i64 (v 23)),g 25 .add (v 19) (v 24),g 26 .add (v 25) (k 11),g 27 .and (v 26) (k 1073741823),e 3 27])) (R [a 16 4,g 17 .add (v 16) (k 1),e 4 17])))))) (Q (R [a 28 0,a 29 3,n 30 (bld 30 [.sl 1 [],.int .i64 0,.int .i64 0] [(0,1,v 28),(2,1,v 29)]),n 31 (box 31 (v 30)),e 2 31]) .ret)))
def xJ:Cmd:=Q (R [z 4 [.sl 6 [],.int .i64 0]]) (Q (R [c 7 118 [],z 5 [.sl 6 [],.int .i64 0],s 5 7 2]) (Q (Q (R [a 8 0,a 9 1,g 10 .add (v 9) (k 4),c 11 101 [v 8,v 10],e 6 11]) (.blk 0 (.loop (Q (Q (R [a 12 6,g 13 .gtr (v 12) (k 0)]) (F (v 13) .skip (.exit 0))) (Q (.blk 1 (R [a 16 0,b 17 5 2,c 18 119 [v 16,v 17],s 5 18 2])) (R [a 14 6,g 15 .sub (v 14) (k 1),e 6 15])))))) (Q (R [b 19 5 2,s 4 19 2]) .ret)))
def oM:Cmd:=Q (R [n 3 (box 3 (v 1)),e' 4 (.c (.str []))]) (Q (R [b 6 3 2,c 7 120 [v 6],e 5 7]) (Q (Q (R [a 8 5,l 9 8,g 10 .gtr (v 9) (k 0),a 11 10,ha 11 true 12 0,hc 11 true 13 96 [v 12,k 4],h 11 true 14 (un 14 .not (v 13)),p 15 11 (v 14) k0]) (F (v 15) (Q (R [a 16 5,a 17 0,a 18 5,l 19 18,c 20 101 [v 17,v 19],i 21 16 20 1,b' 22 21 1,e 4 22]) .ret) .skip)) (Q (R [a 23 0,c 24 90 [v 23],e 4 24]) .ret)))
def xK:Cmd:=Q (R [e' 2 (.c (.str []))]) (Q (R [e' 3 (.c (.str []))]) (Q (Q (R [a 5 0,c 6 101 [v 5,k 3],g 7 .add (k 1) (v 6),e 4 7]) (.blk 0 (.loop (Q (Q (R [a 8 4,g 9 .gtr (v 8) (k 0)]) (F (v 9) .skip (.exit 0))) (Q (.blk 1 (R [a 12 3,g 13 .add (v 12) (.c (.str [47])),a 14 0,c 15 121 [v 14],g 16 .add (v 13) (v 15),e 3 16])) (R [a 10 4,g 11 .sub (v 10) (k 1),e 4 11])))))) (Q (R [a 17 3,e 2 17]) .ret)))
def uQ:Cmd:=Q (R [n 1 (box 1 (v 0)),z 2 [.sl 6 [],.int .i64 0]]) (Q (R [f 6 1 1,b' 7 6 1,n 8 (bld 8 [.sl 6 [],.int .i64 0] [(1,1,v 7)]),z 3 [.sl 6 [],.int .i64 0],s 3 8 2]) (Q (Q (R [f 9 1 0,b' 10 9 1,l 11 10,n 12 (mov 12 (k 0))]) (.blk 0 (.loop (Q (R [g 13 .lss (v 12) (v 11)]) (Q (F (v 13) .skip (.exit 0)) (Q (.blk 1 (Q (R [i 14 10 12 6,b 15 14 6,z 5 [.int .i64 0,.int .i64 0,.int .i64 0,.sl 1 [],.sl 2 [],.sl 2 []],s 5 15 6]) (D [0,1,0,4,12,31,63,127] [f 16 3 0,b' 17 16 1,b 18 5 6,c 19 122 [v 18],o 20 6 [v 19],n 21 (app 21 (v 17) (v 20) 6 96),f 22 3 0,s 22 21 1]))) (R [g 23 .add (v 12) (k 1),a 12 23]))))))) (Q (R [b 24 3 2,s 2 24 2]) .ret)))
def abj:Cmd:=Q (R [n 2 (box 2 (v 0)),e' 4 k0]) (Q (Q (R [a 9 1,l 10 9,n 11 (mov 11 (k 0))]) (.blk 0 (.loop (Q (R [g 12 .lss (v 11) (v 10)]) (Q (F (v 12) .skip (.exit 0)) (Q (.blk 1 (Q (R [i 13 9 11 1,b' 14 13 1,e 6 14]) (Q (R [a 16 6,c 17 81 [v 16],a 15 17,x 18 15 0,x 19 15 1,e 7 18,e 8 19]) (Q (R [a 20 8,n 21 (un 21 .not (v 20))]) (F (v 21) (Q (R [e' 4 k0]) .ret) .skip))))) (R [g 22 .add (v 11) (k 1),a 11 22]))))))) (Q (R [b 23 2 2,c 24 28 [v 23],e 4 24]) .ret))
def oN:Cmd:=Q (R [n 2 (box 2 (v 0)),z 4 [.int .i64 0,.int .i64 0,.int .i64 0,.sl 1 [],.sl 2 [],.sl 2 [],.str []],e' 5 (k 0)]) (Q (R [a 12 1,c 13 123 [v 12],a 11 13,x 14 11 0,x 15 11 1,x 16 11 2,e 6 14,e 7 15,e 8 16]) (Q (R [b 18 2 2,a 19 6,c 20 68 [v 18,v 19],a 17 20,x 21 17 0,x 22 17 1,z 9 [.int .i64 0,.int .i64 0,.int .i64 0,.sl 1 [],.sl 2 [],.sl 2 []],s 9 21 6,e 10 22]) (Q (Q (R [a 23 10,g 24 .neq (v 23) (k 0)]) (F (v 24) (Q (R [n 25 (bld 25 [.int .i64 0,.int .i64 0,.int .i64 0,.sl 1 [],.sl 2 [],.sl 2 [],.str []] []),a 26 10,s 4 25 7,e 5 26]) .ret) .skip)) (Q (Q (R [f 27 9 1,b' 28 27 1,g 29 .neq (v 28) (k 2)]) (F (v 29) (Q (R [n 30 (bld 30 [.int .i64 0,.int .i64 0,.int .i64 0,.sl 1 [],.sl 2 [],.sl 2 [],.str []] []),s 4 30 7,e' 5 (k 3)]) .ret) .skip)) (Q (R [b 31 9 6,a 32 7,n 33 (bld 33 [.int .i64 0,.int .i64 0,.int .i64 0,.sl 1 [],.sl 2 [],.sl 2 [],.str []] [(0,6,v 31),(6,1,v 32)]),s 4 33 7,e' 5 (k 0)]) .ret)))))
def sL:Cmd:=Q (R [n 2 (box 2 (v 0)),n 3 (box 3 (v 1)),z 4 [.sl 6 [],.int .i64 0]]) (Q (R [b 7 2 2,c 8 61 [v 7],s 2 8 2]) (Q (R [b 9 3 6,c 10 122 [v 9],s 3 10 6]) (Q (Q (R [b 11 2 2,f 12 3 0,b' 13 12 1,c 14 87 [v 11,v 13],e 5 14]) (Q (R [a 15 5,g 16 .geq (v 15) (k 0)]) (F (v 16) (Q (R [f 17 2 0,b' 18 17 1,a 19 5,b 20 3 6,i 21 18 19 6,s 21 20 6]) (Q (R [b 22 2 2,s 4 22 2]) .ret)) .skip))) (Q (R [f 23 2 0,b' 24 23 1,n 25 (mkf 25 130 [v 3]),c 26 129 [v 24,v 25],e 6 26]) (Q (Q (R [a 27 6,g 28 .lss (v 27) (k 0)]) (F (v 28) (R [f 29 2 0,b' 30 29 1,l 31 30,e 6 31]) .skip)) (Q (R [f 32 2 0,b' 33 32 1,a 34 6,b 35 3 6,o 36 6 [v 35],c 37 131 [v 33,v 34,v 36],f 38 2 0,s 38 37 1]) (Q (R [b 39 2 2,s 4 39 2]) .ret)))))))
def tH:Cmd:=Q (R [n 2 (box 2 (v 0)),z 4 [.int .i64 0,.int .i64 0,.int .i64 0,.sl 1 [],.sl 2 [],.sl 2 []],e' 5 (k 0)]) (Q (R [b 11 2 2,a 12 1,c 13 23 [v 11,v 12],a 10 13,x 14 10 0,x 15 10 1,e 6 14,e 7 15]) (Q (Q (R [a 16 7,g 17 .neq (v 16) (k 0)]) (F (v 17) (Q (R [n 18 (bld 18 [.int .i64 0,.int .i64 0,.int .i64 0,.sl 1 [],.sl 2 [],.sl 2 []] []),a 19 7,s 4 18 6,e 5 19]) .ret) .skip)) (Q (R [b 21 2 2,a 22 6,c 23 70 [v 21,v 22],a 20 23,x 24 20 0,x 25 20 1,z 8 [.int .i64 0,.int .i64 0,.int .i64 0,.sl 1 [],.sl 2 [],.sl 2 []],s 8 24 6,e 9 25]) (Q (Q (R [a 26 9,n 27 (un 27 .not (v 26))]) (F (v 27) (Q (R [n 28 (bld 28 [.int .i64 0,.int .i64 0,.int .i64 0,.sl 1 [],.sl 2 [],.sl 2 []] []),s 4 28 6,e' 5 (k 2)]) .ret) .skip)) (Q (R [b 29 8 6,s 4 29 6,e' 5 (k 0)]) .ret)))))
def abk:Cmd:=Q (R [n 2 (box 2 (v 0)),e' 4 (k 0)]) (Q (Q (R [f 7 2 4,b' 8 7 1,l 9 8,n 10 (mov 10 (k 0))]) (.blk 0 (.loop (Q (R [g 11 .lss (v 10) (v 9)]) (Q (F (v 11) .skip (.exit 0)) (Q (.blk 1 (Q (R [i 12 8 10 2,b 13 12 2,z 6 [.str [],.int .i64 0],s 6 13 2]) (Q (R [f 14 6 0,b' 15 14 1,a 16 1,g 17 .eql (v 15) (v 16)]) (F (v 17) (Q (R [f 18 6 1,b' 19 18 1,e 4 19]) .ret) .skip)))) (R [g 20 .add (v 10) (k 1),a 10 20]))))))) (Q (R [e' 4 (k 0)]) .ret))
def pM:Cmd:=Q (R [n 2 (box 2 (v 0)),z 4 [.int .i64 0,.int .i64 0,.int .i64 0,.sl 1 [],.sl 2 [],.sl 2 []],e' 5 k0]) (Q (R [b 7 2 2,a 8 1,c 9 87 [v 7,v 8],e 6 9]) (Q (Q (R [a 10 6,g 11 .lss (v 10) (k 0)]) (F (v 11) (Q (R [n 12 (bld 12 [.int .i64 0,.int .i64 0,.int .i64 0,.sl 1 [],.sl 2 [],.sl 2 []] []),s 4 12 6,e' 5 k0]) .ret) .skip)) (Q (R [f 13 2 0,b' 14 13 1,a 15 6,i 16 14 15 6,b 17 16 6,c 18 122 [v 17],s 4 18 6,e' 5 k1]) .ret)))
def iT:Cmd:=Q (R [e' 6 k0]) (Q (Q (R [a 10 0,l 11 10,a 12 1,l 13 12,g 14 .neq (v 11) (v 13)]) (F (v 14) (Q (R [e' 6 k0]) .ret) .skip)) (Q (Q (R [a 15 0,l 16 15,n 17 (mov 17 (k 0))]) (.blk 0 (.loop (Q (R [g 18 .lss (v 17) (v 16)]) (Q (F (v 18) .skip (.exit 0)) (Q (.blk 1 (Q (R [a 19 17,i 20 15 17 6,b 21 20 6,z 8 [.int .i64 0,.int .i64 0,.int .i64 0,.sl 1 [],.sl 2 [],.sl 2 []],e 7 19,s 8 21 6]) (Q (R [a 22 1,a 23 7,i 24 22 23 6,b 25 24 6,z 9 [.int .i64 0,.int .i64 0,.int .i64 0,.sl 1 [],.sl 2 [],.sl 2 []],s 9 25 6]) (Q (R [a 26 2,b 27 8 6,b 28 9 6,n 29 (callv (some 29) (v 26) [v 27,v 28]),n 30 (un 30 .not (v 29))]) (F (v 30) (Q (R [e' 6 k0]) .ret) .skip))))) (R [g 31 .add (v 17) (k 1),a 17 31]))))))) (Q (R [e' 6 k1]) .ret)))
def qG:Cmd:=Q (R [n 2 (box 2 (v 0)),n 3 (box 3 (v 1)),e' 4 k0]) (Q (R [f 5 2 0,b' 6 5 1,f 7 3 0,b' 8 7 1,g 9 .eql (v 6) (v 8),a 10 9,h 10 true 11 (fld 11 (v 2) 1),h 10 true 12 (ld 12 (v 11) 1 false),h 10 true 13 (fld 13 (v 3) 1),h 10 true 14 (ld 14 (v 13) 1 false),h 10 true 15 (bin 15 .eql (v 12) (v 14)),p 16 10 (v 15) k0,a 17 16,h 17 true 18 (fld 18 (v 2) 2),h 17 true 19 (ld 19 (v 18) 1 false),h 17 true 20 (fld 20 (v 3) 2),h 17 true 21 (ld 21 (v 20) 1 false),h 17 true 22 (bin 22 .eql (v 19) (v 21)),p 23 17 (v 22) k0,a 24 23,h 24 true 25 (fld 25 (v 2) 3),h 24 true 26 (ld 26 (v 25) 1 false),h 24 true 27 (fld 27 (v 3) 3),h 24 true 28 (ld 28 (v 27) 1 false),hc 24 true 29 135 [v 26,v 28],p 30 24 (v 29) k0,a 31 30,h 31 true 32 (fld 32 (v 2) 4),h 31 true 33 (ld 33 (v 32) 1 false),h 31 true 34 (fld 34 (v 3) 4),h 31 true 35 (ld 35 (v 34) 1 false),hc 31 true 36 136 [v 33,v 35],p 37 31 (v 36) k0,a 38 37,h 38 true 39 (fld 39 (v 2) 5),h 38 true 40 (ld 40 (v 39) 1 false),h 38 true 41 (fld 41 (v 3) 5),h 38 true 42 (ld 42 (v 41) 1 false),hc 38 true 43 137 [v 40,v 42],p 44 38 (v 43) k0,e 4 44]) .ret)
def jF:Cmd:=Q (R [e' 2 (.c (.str [])),e' 3 (.c (.str [])),e' 4 k0]) (Q (R [a 9 0,c 10 91 [v 9],a 8 10,x 11 8 0,x 12 8 1,e 5 11,e 6 12]) (Q (Q (R [a 13 6,n 14 (un 14 .not (v 13)),a 15 14,ha 15 false 16 5,h 15 false 17 (len 17 (v 16)),h 15 false 18 (bin 18 .eql (v 17) (k 0)),p 19 15 k1 (v 18)]) (F (v 19) (Q (R [e' 2 (.c (.str [])),e' 3 (.c (.str [])),e' 4 k0]) .ret) .skip)) (Q (R [a 20 5,l 21 20,g 22 .sub (v 21) (k 1),e 7 22]) (Q (D [0,0,3,7,0,0,48,112,15,511,1023] [a 23 5,a 24 7,n 25 (slc 25 (v 23) none (some (v 24)) 1),c 26 139 [v 25],a 27 5,a 28 7,i 29 27 28 1,b' 30 29 1,e 2 26,e 3 30,e' 4 k1]) .ret))))
def xL:Cmd:=Q (R [n 1 (box 1 (v 0)),z 2 [.sl 6 [],.int .i64 0]]) (Q (R [f 5 1 1,b' 6 5 1,n 7 (bld 7 [.sl 6 [],.int .i64 0] [(1,1,v 6)]),z 3 [.sl 6 [],.int .i64 0],s 3 7 2]) (Q (Q (R [e' 4 (k 0)]) (.blk 0 (.loop (Q (Q (R [a 8 4,f 9 1 0,b' 10 9 1,l 11 10,g 12 .lss (v 8) (v 11)]) (F (v 12) .skip (.exit 0))) (Q (.blk 1 (D [0,1,0,4,0,28,60,124,252,511,1023,2047] [f 15 3 0,b' 16 15 1,f 17 1 0,b' 18 17 1,a 19 4,i 20 18 19 6,b 21 20 6,c 22 140 [v 21],o 23 6 [v 22],n 24 (app 24 (v 16) (v 23) 6 96),f 25 3 0,s 25 24 1])) (R [a 13 4,g 14 .add (v 13) (k 1),e 4 14])))))) (Q (R [b 26 3 2,s 2 26 2]) .ret)))
def oO:Cmd:=Q (R [n 2 (box 2 (v 0)),z 4 [.int .i64 0,.int .i64 0,.int .i64 0,.sl 1 [],.sl 2 [],.sl 2 []],e' 5 (k 0)]) (Q (R [b 9 2 2,a 10 1,c 11 88 [v 9,v 10],a 8 11,x 12 8 0,x 13 8 1,z 6 [.int .i64 0,.int .i64 0,.int .i64 0,.sl 1 [],.sl 2 [],.sl 2 []],s 6 12 6,e 7 13]) (Q (Q (R [a 14 7,g 15 .eql (v 14) (k 0),a 16 15,h 16 true 17 (fld 17 (v 6) 1),h 16 true 18 (ld 18 (v 17) 1 false),h 16 true 19 (bin 19 .neq (v 18) (k 1)),p 20 16 (v 19) k0]) (F (v 20) (Q (R [n 21 (bld 21 [.int .i64 0,.int .i64 0,.int .i64 0,.sl 1 [],.sl 2 [],.sl 2 []] []),s 4 21 6,e' 5 (k 3)]) .ret) .skip)) (Q (R [b 22 6 6,a 23 7,s 4 22 6,e 5 23]) .ret)))
def xM:Cmd:=Q (R [n 2 (box 2 (v 0)),z 4 [.sl 6 [],.int .i64 0]]) (Q (R [a 11 1,c 12 75 [v 11],a 10 12,x 13 10 0,x 14 10 1,x 15 10 2,e 5 13,e 6 14,e 7 15]) (Q (R [b 17 2 2,a 18 5,c 19 88 [v 17,v 18],a 16 19,x 20 16 0,x 21 16 1,z 8 [.int .i64 0,.int .i64 0,.int .i64 0,.sl 1 [],.sl 2 [],.sl 2 []],s 8 20 6,e 9 21]) (Q (R [f 22 8 4,b' 23 22 1,a 24 6,c 25 141 [v 23,v 24],f 26 8 4,s 26 25 1]) (Q (R [b 27 2 2,b 28 8 6,c 29 80 [v 27,v 28],s 4 29 2]) .ret))))
def qH:Cmd:=Q (R [n 2 (box 2 (v 0)),z 4 [.sl 6 [],.int .i64 0]]) (Q (R [f 7 2 1,b' 8 7 1,n 9 (bld 9 [.sl 6 [],.int .i64 0] [(1,1,v 8)]),z 5 [.sl 6 [],.int .i64 0],s 5 9 2]) (Q (Q (R [e' 6 (k 0)]) (.blk 0 (.loop (Q (Q (R [a 10 6,f 11 2 0,b' 12 11 1,l 13 12,g 14 .lss (v 10) (v 13)]) (F (v 14) .skip (.exit 0))) (Q (.blk 1 (Q (R [f 17 2 0,b' 18 17 1,a 19 6,i 20 18 19 6,f 21 20 0,b' 22 21 1,a 23 1,g 24 .neq (v 22) (v 23)]) (F (v 24) (D [0,1,0,4,0,28,60,124,252,511,1023,2047] [f 25 5 0,b' 26 25 1,f 27 2 0,b' 28 27 1,a 29 6,i 30 28 29 6,b 31 30 6,c 32 140 [v 31],o 33 6 [v 32],n 34 (app 34 (v 26) (v 33) 6 96),f 35 5 0,s 35 34 1]) .skip))) (R [a 15 6,g 16 .add (v 15) (k 1),e 6 16])))))) (Q (R [b 36 5 2,s 4 36 2]) .ret)))
def nO:Cmd:=Q (R [n 2 (box 2 (v 0)),n 3 (box 3 (v 1)),z 4 [.sl 6 [],.int .i64 0]]) (Q (R [b 8 2 2,c 9 76 [v 8],z 5 [.sl 6 [],.int .i64 0],s 5 9 2]) (Q (R [b 10 2 2,f 11 3 0,b' 12 11 1,c 13 109 [v 10,v 12],e 6 13]) (Q (Q (R [a 14 6,g 15 .geq (v 14) (k 0)]) (F (v 15) (Q (D [0,1,0,0,8,31,63] [f 16 5 0,b' 17 16 1,a 18 6,b 19 3 6,c 20 140 [v 19],i 21 17 18 6,s 21 20 6]) (Q (R [b 22 5 2,s 4 22 2]) .ret)) .skip)) (Q (R [e' 6 (k 0)]) (Q (.blk 0 (.loop (Q (Q (D [0,0,2,6,15,31,63,127,63,511,1023,2047,63,4159,16383,32767] [a 23 6,f 24 2 0,b' 25 24 1,l 26 25,g 27 .lss (v 23) (v 26),a 28 27,h 28 true 29 (fld 29 (v 2) 0),h 28 true 30 (ld 30 (v 29) 1 false),ha 28 true 31 6,h 28 true 32 (idx 32 (v 30) (v 31) 6),h 28 true 33 (fld 33 (v 32) 0),h 28 true 34 (ld 34 (v 33) 1 false),h 28 true 35 (fld 35 (v 3) 0),h 28 true 36 (ld 36 (v 35) 1 false),h 28 true 37 (bin 37 .lss (v 34) (v 36)),p 38 28 (v 37) k0]) (F (v 38) .skip (.exit 0))) (.blk 1 (R [a 39 6,g 40 .add (v 39) (k 1),e 6 40]))))) (Q (D [0,0,2,0,14,31,0,127,255,511,1023] [o 41 6 [],f 42 5 0,b' 43 42 1,a 44 6,n 45 (slc 45 (v 43) none (some (v 44)) 6),n 46 (app 46 (v 41) (v 45) 6 96),b 47 3 6,c 48 140 [v 47],o 49 6 [v 48],n 50 (app 50 (v 46) (v 49) 6 96),e 7 50]) (Q (R [a 51 7,f 52 5 0,b' 53 52 1,a 54 6,n 55 (slc 55 (v 53) (some (v 54)) none 6),n 56 (app 56 (v 51) (v 55) 6 96),f 57 5 0,s 57 56 1]) (Q (R [b 58 5 2,s 4 58 2]) .ret))))))))
def eJ:Cmd:=Q (R [e' 2 (.c (.own 1 [])),e' 3 k0]) (Q (Q (R [a 5 0,g 6 .eql (v 5) (.c (.str [47]))]) (F (v 6) (Q (R [e' 2 (.c (.own 1 [])),e' 3 k1]) .ret) .skip)) (Q (R [a 7 0,c 8 142 [v 7,.c (.str [47])],e 4 8]) (Q (Q (R [a 9 4,n 10 (idx 10 (v 9) (k 0) 1),b' 11 10 1,g 12 .neq (v 11) (.c (.str [])),a 13 12,ha 13 false 14 4,h 13 false 15 (len 15 (v 14)),h 13 false 16 (bin 16 .lss (v 15) (k 2)),p 17 13 k1 (v 16),a 18 17,ha 18 false 19 4,h 18 false 20 (slc 20 (v 19) (some (k 1)) none 1),hc 18 false 21 143 [v 20],h 18 false 22 (un 22 .not (v 21)),p 23 18 k1 (v 22)]) (F (v 23) (Q (R [e' 2 (.c (.own 1 [])),e' 3 k0]) .ret) .skip)) (Q (R [a 24 4,n 25 (slc 25 (v 24) (some (k 1)) none 1),e 2 25,e' 3 k1]) .ret))))
def jN:Cmd:=Q (R [e' 2 (.c (.own 1 []))]) (Q (Q (R [a 3 0,n 4 (isn 4 false (v 3) (.c (.own 1 [])))]) (F (v 4) (Q (R [e' 2 (.c (.own 1 []))]) .ret) .skip)) (Q (R [o 5 1 [],a 6 0,n 7 (app 7 (v 5) (v 6) 1 1),e 2 7]) .ret))
def abl:Cmd:=Q (R [n 1 (box 1 (v 0)),e' 2 k0]) (Q (Q (R [f 7 1 0,b' 8 7 1,l 9 8,g 10 .gtr (v 9) (k 30),a 11 10,h 11 false 12 (fld 12 (v 1) 1),h 11 false 13 (ld 13 (v 12) 1 false),hc 11 false 14 94 [v 13,k 2,k 1000],h 11 false 15 (un 15 .not (v 14)),p 16 11 k1 (v 15)]) (F (v 16) (Q (R [e' 2 k0]) .ret) .skip)) (Q (Q (R [f 17 1 0,b' 18 17 1,l 19 18,n 20 (mov 20 (k 0))]) (.blk 0 (.loop (Q (R [g 21 .lss (v 20) (v 19)]) (Q (F (v 21) .skip (.exit 0)) (Q (.blk 1 (Q (R [a 22 20,i 23 18 20 6,b 24 23 6,z 4 [.int .i64 0,.int .i64 0,.int .i64 0,.sl 1 [],.sl 2 [],.sl 2 []],e 3 22,s 4 24 6]) (Q (D [0,1,3,7,15,31,15,79,255,511,1023,2047,4095,8191,16383,32767,16383,81919,262143,524287,1048575,16383,2113535,8388607,16777215,33554431] [b 25 4 6,c 26 146 [v 25],n 27 (un 27 .not (v 26)),a 28 27,h 28 false 29 (fld 29 (v 4) 0),h 28 false 30 (ld 30 (v 29) 1 false),h 28 false 31 (fld 31 (v 1) 1),h 28 false 32 (ld 32 (v 31) 1 false),h 28 false 33 (bin 33 .geq (v 30) (v 32)),p 34 28 k1 (v 33),a 35 34,ha 35 false 36 3,h 35 false 37 (bin 37 .gtr (v 36) (k 0)),ha 35 false 38 37,h 38 true 39 (fld 39 (v 1) 0),h 38 true 40 (ld 40 (v 39) 1 false),ha 38 true 41 3,h 38 true 42 (bin 42 .sub (v 41) (k 1)),h 38 true 43 (idx 43 (v 40) (v 42) 6),h 38 true 44 (fld 44 (v 43) 0),h 38 true 45 (ld 45 (v 44) 1 false),h 38 true 46 (fld 46 (v 4) 0),h 38 true 47 (ld 47 (v 46) 1 false),h 38 true 48 (bin 48 .geq (v 45) (v 47)),h 35 false 49 (pck 49 (v 38) (v 48) k0),p 50 35 k1 (v 49)]) (F (v 50) (Q (R [e' 2 k0]) .ret) .skip)))) (R [g 51 .add (v 20) (k 1),a 20 51]))))))) (Q (R [b 53 1 2,c 54 70 [v 53,k 1],a 52 54,x 55 52 0,x 56 52 1,z 5 [.int .i64 0,.int .i64 0,.int .i64 0,.sl 1 [],.sl 2 [],.sl 2 []],s 5 55 6,e 6 56]) (Q (R [a 57 6,a 58 57,h 58 true 59 (fld 59 (v 5) 1),h 58 true 60 (ld 60 (v 59) 1 false),h 58 true 61 (bin 61 .eql (v 60) (k 2)),p 62 58 (v 61) k0,e 2 62]) .ret))))
def uR:Cmd:=Q (R [n 2 (box 2 (v 0)),e' 4 (k 0)]) (Q (R [e' 5 (k 0)]) (Q (Q (R [f 10 2 0,b' 11 10 1,l 12 11,n 13 (mov 13 (k 0))]) (.blk 0 (.loop (Q (R [g 14 .lss (v 13) (v 12)]) (Q (F (v 14) .skip (.exit 0)) (Q (.blk 1 (Q (R [i 15 11 13 6,b 16 15 6,z 7 [.int .i64 0,.int .i64 0,.int .i64 0,.sl 1 [],.sl 2 [],.sl 2 []],s 7 16 6]) (Q (Q (R [f 17 7 1,b' 18 17 1,g 19 .neq (v 18) (k 2)]) (F (v 19) (.exit 1) .skip)) (Q (R [f 20 7 4,b' 21 20 1,l 22 21,n 23 (mov 23 (k 0))]) (.blk 2 (.loop (Q (R [g 24 .lss (v 23) (v 22)]) (Q (F (v 24) .skip (.exit 2)) (Q (.blk 3 (Q (R [i 25 21 23 2,b 26 25 2,z 9 [.str [],.int .i64 0],s 9 26 2]) (Q (R [f 27 9 1,b' 28 27 1,a 29 1,g 30 .eql (v 28) (v 29)]) (F (v 30) (R [a 31 5,g 32 .add (v 31) (k 1),e 5 32]) .skip)))) (R [g 33 .add (v 23) (k 1),a 23 33])))))))))) (R [g 34 .add (v 13) (k 1),a 13 34]))))))) (Q (R [a 35 5,e 4 35]) .ret)))
def uS:Cmd:=Q (R [n 2 (box 2 (v 0)),n 3 (box 3 (v 1)),e' 4 (k 0)]) (Q (R [f 5 2 0,b' 6 5 1,n 7 (mkf 7 147 [v 3]),c 8 129 [v 6,v 7],e 4 8]) .ret)
def tI:Cmd:=Q (R [n 2 (box 2 (v 0)),z 4 [.int .i64 0,.int .i64 0,.int .i64 0,.sl 1 [],.sl 2 [],.sl 2 []],e' 5 (k 0)]) (Q (R [b 11 2 2,a 12 1,c 13 97 [v 11,v 12],a 10 13,x 14 10 0,x 15 10 1,e 6 14,e 7 15]) (Q (Q (R [a 16 7,g 17 .neq (v 16) (k 0)]) (F (v 17) (Q (R [n 18 (bld 18 [.int .i64 0,.int .i64 0,.int .i64 0,.sl 1 [],.sl 2 [],.sl 2 []] []),a 19 7,s 4 18 6,e 5 19]) .ret) .skip)) (Q (R [b 21 2 2,a 22 6,c 23 148 [v 21,v 22],a 20 23,x 24 20 0,x 25 20 1,z 8 [.int .i64 0,.int .i64 0,.int .i64 0,.sl 1 [],.sl 2 [],.sl 2 []],s 8 24 6,e 9 25]) (Q (Q (R [a 26 9,n 27 (un 27 .not (v 26))]) (F (v 27) (Q (R [n 28 (bld 28 [.int .i64 0,.int .i64 0,.int .i64 0,.sl 1 [],.sl 2 [],.sl 2 []] []),s 4 28 6,e' 5 (k 2)]) .ret) .skip)) (Q (R [b 29 8 6,s 4 29 6,e' 5 (k 0)]) .ret)))))
def f9:Cmd:=Q (R [n 3 (box 3 (v 0)),z 6 [.sl 6 [],.int .i64 0],e' 7 (k 0)]) (Q (Q (R [b 12 3 2,c 13 46 [v 12],n 14 (un 14 .not (v 13))]) (F (v 14) (Q (R [b 15 3 2,c 16 76 [v 15],s 6 16 2,e' 7 (k 1)]) .ret) .skip)) (Q (R [b 18 3 2,a 19 1,c 20 92 [v 18,v 19,k 0],a 17 20,x 21 17 0,x 22 17 1,x 23 17 2,z 8 [.int .i64 0,.int .i64 0,.int .i64 0,.sl 1 [],.sl 2 [],.sl 2 []],s 8 21 6,e 9 22,e 10 23]) (Q (Q (R [a 24 10,g 25 .eql (v 24) (k 0),a 26 25,h 26 true 27 (fld 27 (v 3) 0),h 26 true 28 (ld 28 (v 27) 1 false),h 26 true 29 (len 29 (v 28)),h 26 true 30 (bin 30 .geq (v 29) (k 30)),ha 26 true 31 30,h 31 false 32 (fld 32 (v 3) 1),h 31 false 33 (ld 33 (v 32) 1 false),h 31 false 34 (bin 34 .geq (v 33) (k 1000)),h 26 true 35 (pck 35 (v 31) k1 (v 34)),p 36 26 (v 35) k0]) (F (v 36) (R [e' 10 (k 5)]) .skip)) (Q (Q (R [a 37 10,g 38 .neq (v 37) (k 0)]) (F (v 38) (Q (R [b 39 3 2,c 40 76 [v 39],a 41 10,s 6 40 2,e 7 41]) .ret) .skip)) (Q (R [b 42 3 2,c 43 76 [v 42],z 11 [.sl 6 [],.int .i64 0],s 11 43 2]) (Q (R [f 44 8 4,b' 45 44 1,a 46 9,f 47 3 1,b' 48 47 1,n 49 (bld 49 [.str [],.int .i64 0] [(0,1,v 46),(1,1,v 48)]),c 50 93 [v 45,v 49],f 51 8 4,s 51 50 1]) (Q (D [0,0,3,0,8,0,56,127,255] [b 52 11 2,b 53 8 6,c 54 80 [v 52,v 53],f 55 3 1,b' 56 55 1,a 57 2,n 58 (bld 58 [.int .i64 0,.int .i64 0,.int .i64 0,.sl 1 [],.sl 2 [],.sl 2 []] [(0,1,v 56),(1,1,v 57),(2,1,k 1)]),c 59 80 [v 54,v 58],s 11 59 2]) (Q (R [f 60 3 1,b' 61 60 1,g 62 .add (v 61) (k 1),f 63 11 1,s 63 62 1]) (Q (R [b 64 11 2,s 6 64 2,e' 7 (k 0)]) .ret)))))))))
def uT:Cmd:=Q (R [e' 2 (.c (.str []))]) (Q (Q (R [a 3 0,c 4 96 [v 3,k 6]]) (F (v 4) (Q (R [a 5 0,o 6 1 [.c (.str []),.c (.str [47]),.c (.str [97]),.c (.str [47,47]),.c (.str [47,97,47]),.c (.str [47,65]),.c (.str [47,46,46]),.c (.str [47,46]),.c (.str [47,102,105,102,116,101,101,110,98,121,116,101,115,120,120,120]),.c (.str [47,97,47,47,98])],c 7 149 [v 5,v 6],e 2 7]) .ret) .skip)) (Q (R [a 8 0,c 9 59 [v 8],e 2 9]) .ret))
def mE:Cmd:=Q (R [e' 2 (.c (.own 1 [])),e' 3 k0]) (Q (R [o 8 1 [],e 4 8]) (Q (Q (R [a 9 0,g 10 .eql (v 9) (.c (.str [47]))]) (F (v 10) (Q (R [a 11 4,e 2 11,e' 3 k1]) .ret) .skip)) (Q (R [e' 5 (k 0)]) (Q (Q (R [e' 6 (k 0)]) (.blk 0 (.loop (Q (Q (R [a 12 6,a 13 0,n 14 (lens 14 (v 13)),g 15 .leq (v 12) (v 14)]) (F (v 15) .skip (.exit 0))) (Q (.blk 1 (Q (Q (R [a 18 6,a 19 0,n 20 (lens 20 (v 19)),g 21 .lss (v 18) (v 20),a 22 21,ha 22 true 23 0,ha 22 true 24 6,h 22 true 25 (sidx 25 (v 23) (v 24)),h 22 true 26 (bin 26 .neq (v 25) (.c (.int .u8 47))),p 27 22 (v 26) k0]) (F (v 27) (.exit 1) .skip)) (Q (Q (R [a 28 6,g 29 .gtr (v 28) (k 0)]) (F (v 29) (Q (R [a 30 0,a 31 5,a 32 6,n 33 (sls 33 (v 30) (some (v 31)) (some (v 32))),e 7 33]) (Q (Q (R [a 34 7,c 35 150 [v 34],n 36 (un 36 .not (v 35)),a 37 36,ha 37 false 38 4,h 37 false 39 (len 39 (v 38)),h 37 false 40 (bin 40 .eql (v 39) (k 30)),p 41 37 k1 (v 40)]) (F (v 41) (Q (R [o 42 1 [],e 2 42,e' 3 k0]) .ret) .skip)) (R [a 43 4,a 44 7,o 45 1 [v 44],n 46 (app 46 (v 43) (v 45) 1 16),e 4 46]))) .skip)) (R [a 47 6,g 48 .add (v 47) (k 1),e 5 48])))) (R [a 16 6,g 17 .add (v 16) (k 1),e 6 17])))))) (Q (Q (R [a 49 0,n 50 (lens 50 (v 49)),g 51 .eql (v 50) (k 0),a 52 51,ha 52 false 53 0,h 52 false 54 (sidx 54 (v 53) (k 0)),h 52 false 55 (bin 55 .neq (v 54) (.c (.int .u8 47))),p 56 52 k1 (v 55)]) (F (v 56) (Q (R [o 57 1 [],e 2 57,e' 3 k0]) .ret) .skip)) (Q (R [a 58 4,e 2 58,e' 3 k1]) .ret))))))
def fJ:Cmd:=Q (R [n 3 (box 3 (v 0)),z 6 [.int .i64 0,.int .i64 0,.int .i64 0,.sl 1 [],.sl 2 [],.sl 2 []],e' 7 (.c (.str [])),e' 8 (k 0)]) (Q (R [a 15 1,c 16 75 [v 15],a 14 16,x 17 14 0,x 18 14 1,x 19 14 2,e 9 17,e 10 18,e 11 19]) (Q (Q (R [a 20 11,n 21 (un 21 .not (v 20))]) (F (v 21) (Q (R [n 22 (bld 22 [.int .i64 0,.int .i64 0,.int .i64 0,.sl 1 [],.sl 2 [],.sl 2 []] []),s 6 22 6,e' 7 (.c (.str [])),e' 8 (k 1)]) .ret) .skip)) (Q (R [b 24 3 2,a 25 9,c 26 88 [v 24,v 25],a 23 26,x 27 23 0,x 28 23 1,z 12 [.int .i64 0,.int .i64 0,.int .i64 0,.sl 1 [],.sl 2 [],.sl 2 []],s 12 27 6,e 13 28]) (Q (.blk 0 (Q (R [a 30 13,g 31 .neq (v 30) (k 0),e 29 31]) (F (v 29) (Q (R [n 32 (bld 32 [.int .i64 0,.int .i64 0,.int .i64 0,.sl 1 [],.sl 2 [],.sl 2 []] []),a 33 13,s 6 32 6,e' 7 (.c (.str [])),e 8 33]) .ret) (Q (R [f 35 12 1,b' 36 35 1,g 37 .neq (v 36) (k 2),e 34 37]) (F (v 34) (Q (R [n 38 (bld 38 [.int .i64 0,.int .i64 0,.int .i64 0,.sl 1 [],.sl 2 [],.sl 2 []] []),s 6 38 6,e' 7 (.c (.str [])),e' 8 (k 3)]) .ret) (Q (R [b 40 12 6,a 41 10,c 42 151 [v 40,v 41],g 43 .neq (v 42) (k 0),e 39 43]) (F (v 39) (Q (R [n 44 (bld 44 [.int .i64 0,.int .i64 0,.int .i64 0,.sl 1 [],.sl 2 [],.sl 2 []] []),s 6 44 6,e' 7 (.c (.str [])),e' 8 (k 4)]) .ret) (Q (R [f 46 12 4,b' 47 46 1,l 48 47,g 49 .geq (v 48) (k 10),a 50 49,h 50 true 51 (fld 51 (v 12) 0),h 50 true 52 (ld 52 (v 51) 1 false),ha 50 true 53 2,h 50 true 54 (bin 54 .neq (v 52) (v 53)),p 55 50 (v 54) k0,e 45 55]) (F (v 45) (Q (R [n 56 (bld 56 [.int .i64 0,.int .i64 0,.int .i64 0,.sl 1 [],.sl 2 [],.sl 2 []] []),s 6 56 6,e' 7 (.c (.str [])),e' 8 (k 5)]) .ret) .skip))))))))) (Q (R [b 57 12 6,a 58 10,s 6 57 6,e 7 58,e' 8 (k 0)]) .ret)))))
def abm:Cmd:=Q (R [n 3 (box 3 (v 1)),e' 4 (.c (.own 2 []))]) (Q (D [0,0,3,0,8,31,63] [o 7 2 [],a 8 0,n 9 (app 9 (v 7) (v 8) 2 24),b 10 3 2,o 11 2 [v 10],n 12 (app 12 (v 9) (v 11) 2 24),e 5 12]) (Q (R [a 13 5,l 14 13,g 15 .sub (v 14) (k 1),e 6 15]) (Q (.blk 0 (.loop (Q (Q (D [0,1,3,7,7,23,63,127,255,7,519,2047,4095] [a 16 6,g 17 .gtr (v 16) (k 0),a 18 17,ha 18 true 19 5,ha 18 true 20 6,h 18 true 21 (bin 21 .sub (v 20) (k 1)),h 18 true 22 (idx 22 (v 19) (v 21) 2),h 18 true 23 (fld 23 (v 22) 0),h 18 true 24 (ld 24 (v 23) 1 false),h 18 true 25 (fld 25 (v 3) 0),h 18 true 26 (ld 26 (v 25) 1 false),h 18 true 27 (bin 27 .gtr (v 24) (v 26)),p 28 18 (v 27) k0]) (F (v 28) .skip (.exit 0))) (.blk 1 (Q (R [a 29 5,a 30 6,a 31 5,a 32 6,g 33 .sub (v 32) (k 1),i 34 31 33 2,b 35 34 2,i 36 29 30 2,s 36 35 2]) (R [a 37 6,g 38 .sub (v 37) (k 1),e 6 38])))))) (Q (R [a 39 5,a 40 6,b 41 3 2,i 42 39 40 2,s 42 41 2]) (Q (R [a 43 5,e 4 43]) .ret)))))
def aeJ:Cmd:=Q (R [e' 6 k0]) (Q (R [a 7 0,a 8 1,g 9 .geq (v 7) (v 8),a 10 9,ha 10 true 11 0,ha 10 true 12 2,h 10 true 13 (bin 13 .leq (v 11) (v 12)),p 14 10 (v 13) k0,e 6 14]) .ret)
def xN:Cmd:=Q (R [e' 4 k0]) (Q (R [a 5 0,a 6 1,c 7 101 [v 5,v 6],g 8 .eql (v 7) (k 0),e 4 8]) .ret)
def aaa:Cmd:=Q (R [n 2 (box 2 (v 0)),e' 4 (k 0),e' 5 (k 0)]) (Q (R [a 9 1,c 10 91 [v 9],a 8 10,x 11 8 0,x 12 8 1,e 6 11,e 7 12]) (Q (Q (R [a 13 7,n 14 (un 14 .not (v 13))]) (F (v 14) (Q (R [e' 4 (k 0),e' 5 (k 1)]) .ret) .skip)) (Q (R [b 15 2 2,a 16 6,c 17 152 [v 15,v 16],x 18 17 0,x 19 17 1,e 4 18,e 5 19]) .ret)))
def nP:Cmd:=Q (R [e' 4 k0]) (Q (R [a 11 0,c 12 91 [v 11],a 10 12,x 13 10 0,x 14 10 1,e 5 13,e 6 14]) (Q (R [a 16 1,c 17 91 [v 16],a 15 17,x 18 15 0,x 19 15 1,e 7 18,e 8 19]) (Q (Q (R [a 20 6,n 21 (un 21 .not (v 20)),a 22 21,ha 22 false 23 8,h 22 false 24 (un 24 .not (v 23)),p 25 22 k1 (v 24),a 26 25,ha 26 false 27 5,h 26 false 28 (len 28 (v 27)),ha 26 false 29 7,h 26 false 30 (len 30 (v 29)),h 26 false 31 (bin 31 .gtr (v 28) (v 30)),p 32 26 k1 (v 31)]) (F (v 32) (Q (R [e' 4 k0]) .ret) .skip)) (Q (Q (R [e' 9 (k 0)]) (.blk 0 (.loop (Q (Q (R [a 33 9,a 34 5,l 35 34,g 36 .lss (v 33) (v 35)]) (F (v 36) .skip (.exit 0))) (Q (.blk 1 (Q (D [0,0,3,7,0,0,48,112,255] [a 39 5,a 40 9,i 41 39 40 1,b' 42 41 1,a 43 7,a 44 9,i 45 43 44 1,b' 46 45 1,g 47 .neq (v 42) (v 46)]) (F (v 47) (Q (R [e' 4 k0]) .ret) .skip))) (R [a 37 9,g 38 .add (v 37) (k 1),e 9 38])))))) (Q (R [e' 4 k1]) .ret)))))
def mF:Cmd:=Q (R [e' 4 (k 0)]) (Q (Q (R [a 8 1,g 9 .leq (v 8) (k 0)]) (F (v 9) (Q (R [e' 4 (k 0)]) .ret) .skip)) (Q (Q (R [a 10 1,g 11 .leq (v 10) (k 256)]) (F (v 11) (Q (R [a 12 0,c 13 155 [v 12],a 14 1,g 15 .rem (v 13) (v 14),e 4 15]) .ret) .skip)) (Q (R [a 16 0,c 17 155 [v 16],e 5 17]) (Q (R [a 18 0,c 19 155 [v 18],e 6 19]) (Q (R [a 20 0,c 21 155 [v 20],e 7 21]) (Q (R [a 22 5,g 23 .mul (v 22) (k 65536),a 24 6,g 25 .mul (v 24) (k 256),g 26 .add (v 23) (v 25),a 27 7,g 28 .add (v 26) (v 27),a 29 1,g 30 .rem (v 28) (v 29),e 4 30]) .ret))))))
def xO:Cmd:=Q (R [e' 2 k0]) (Q (Q (R [a 5 0,n 6 (lens 6 (v 5)),n 7 (mov 7 (k 0))]) (.blk 0 (.loop (Q (R [g 8 .lss (v 7) (v 6)]) (Q (F (v 8) .skip (.exit 0)) (Q (.blk 1 (Q (R [a 9 7,e 3 9]) (Q (R [a 10 0,a 11 3,n 12 (sidx 12 (v 10) (v 11)),e 4 12]) (Q (R [a 13 4,g 14 .lss (v 13) (.c (.int .u8 97)),a 15 14,ha 15 false 16 4,h 15 false 17 (bin 17 .gtr (v 16) (.c (.int .u8 122))),p 18 15 k1 (v 17),a 19 18,ha 19 true 20 4,h 19 true 21 (bin 21 .lss (v 20) (.c (.int .u8 48))),ha 19 true 22 21,ha 22 false 23 4,h 22 false 24 (bin 24 .gtr (v 23) (.c (.int .u8 57))),h 19 true 25 (pck 25 (v 22) k1 (v 24)),p 26 19 (v 25) k0,a 27 26,ha 27 true 28 4,h 27 true 29 (bin 29 .neq (v 28) (.c (.int .u8 95))),p 30 27 (v 29) k0,a 31 30,ha 31 true 32 4,h 31 true 33 (bin 33 .neq (v 32) (.c (.int .u8 45))),p 34 31 (v 33) k0,a 35 34,ha 35 true 36 4,h 35 true 37 (bin 37 .neq (v 36) (.c (.int .u8 46))),p 38 35 (v 37) k0]) (F (v 38) (Q (R [e' 2 k0]) .ret) .skip))))) (R [g 39 .add (v 7) (k 1),a 7 39]))))))) (Q (R [a 40 0,n 41 (lens 41 (v 40)),g 42 .geq (v 41) (k 1),a 43 42,ha 43 true 44 0,h 43 true 45 (lens 45 (v 44)),h 43 true 46 (bin 46 .leq (v 45) (k 14)),p 47 43 (v 46) k0,a 48 47,ha 48 true 49 0,h 48 true 50 (bin 50 .neq (v 49) (.c (.str [46]))),p 51 48 (v 50) k0,a 52 51,ha 52 true 53 0,h 52 true 54 (bin 54 .neq (v 53) (.c (.str [46,46]))),p 55 52 (v 54) k0,e 2 55]) .ret))
def abn:Cmd:=Q (R [n 1 (box 1 (v 0)),e' 2 k0]) (Q (Q (R [f 5 1 0,b' 6 5 1,l 7 6,c 8 158 [v 7,k 1,k 30],n 9 (un 9 .not (v 8)),a 10 9,h 10 false 11 (fld 11 (v 1) 1),h 10 false 12 (ld 12 (v 11) 1 false),hc 10 false 13 158 [v 12,k 2,k 1000],h 10 false 14 (un 14 .not (v 13)),p 15 10 k1 (v 14)]) (F (v 15) (Q (R [e' 2 k0]) .ret) .skip)) (Q (Q (R [e' 3 (k 0)]) (.blk 0 (.loop (Q (Q (R [a 16 3,f 17 1 0,b' 18 17 1,l 19 18,g 20 .lss (v 16) (v 19)]) (F (v 20) .skip (.exit 0))) (Q (.blk 1 (Q (R [f 23 1 0,b' 24 23 1,a 25 3,i 26 24 25 6,b 27 26 6,z 4 [.int .i64 0,.int .i64 0,.int .i64 0,.sl 1 [],.sl 2 [],.sl 2 []],s 4 27 6]) (Q (D [0,1,3,7,15,31,15,79,255,511,1023,2047,4095,8191,16383,32767,16383,81919,262143,524287,1048575,16383,2113535,8388607,16777215,33554431] [b 28 4 6,c 29 159 [v 28],n 30 (un 30 .not (v 29)),a 31 30,h 31 false 32 (fld 32 (v 4) 0),h 31 false 33 (ld 33 (v 32) 1 false),h 31 false 34 (fld 34 (v 1) 1),h 31 false 35 (ld 35 (v 34) 1 false),h 31 false 36 (bin 36 .geq (v 33) (v 35)),p 37 31 k1 (v 36),a 38 37,ha 38 false 39 3,h 38 false 40 (bin 40 .gtr (v 39) (k 0)),ha 38 false 41 40,h 41 true 42 (fld 42 (v 1) 0),h 41 true 43 (ld 43 (v 42) 1 false),ha 41 true 44 3,h 41 true 45 (bin 45 .sub (v 44) (k 1)),h 41 true 46 (idx 46 (v 43) (v 45) 6),h 41 true 47 (fld 47 (v 46) 0),h 41 true 48 (ld 48 (v 47) 1 false),h 41 true 49 (fld 49 (v 4) 0),h 41 true 50 (ld 50 (v 49) 1 false),h 41 true 51 (bin 51 .geq (v 48) (v 50)),h 38 false 52 (pck 52 (v 41) (v 51) k0),p 53 38 k1 (v 52)]) (F (v 53) (Q (R [e' 2 k0]) .ret) .skip)))) (R [a 21 3,g 22 .add (v 21) (k 1),e 3 22])))))) (Q (R [f 54 1 0,b' 55 54 1,n 56 (idx 56 (v 55) (k 0) 6),f 57 56 0,b' 58 57 1,g 59 .eql (v 58) (k 1),a 60 59,h 60 true 61 (fld 61 (v 1) 0),h 60 true 62 (ld 62 (v 61) 1 false),h 60 true 63 (idx 63 (v 62) (k 0) 6),h 60 true 64 (fld 64 (v 63) 1),h 60 true 65 (ld 65 (v 64) 1 false),h 60 true 66 (bin 66 .eql (v 65) (k 2)),p 67 60 (v 66) k0,e 2 67]) .ret)))
def uU:Cmd:=Q (R [n 2 (box 2 (v 0)),e' 4 (k 0)]) (Q (R [e' 5 (k 0)]) (Q (Q (R [e' 6 (k 0)]) (.blk 0 (.loop (Q (Q (R [a 8 6,f 9 2 0,b' 10 9 1,l 11 10,g 12 .lss (v 8) (v 11)]) (F (v 12) .skip (.exit 0))) (Q (.blk 1 (Q (R [e' 7 (k 0)]) (.blk 2 (.loop (Q (Q (R [a 15 7,f 16 2 0,b' 17 16 1,a 18 6,i 19 17 18 6,f 20 19 4,b' 21 20 1,l 22 21,g 23 .lss (v 15) (v 22),a 24 23,h 24 true 25 (fld 25 (v 2) 0),h 24 true 26 (ld 26 (v 25) 1 false),ha 24 true 27 6,h 24 true 28 (idx 28 (v 26) (v 27) 6),h 24 true 29 (fld 29 (v 28) 1),h 24 true 30 (ld 30 (v 29) 1 false),h 24 true 31 (bin 31 .eql (v 30) (k 2)),p 32 24 (v 31) k0]) (F (v 32) .skip (.exit 2))) (Q (.blk 3 (Q (R [f 35 2 0,b' 36 35 1,a 37 6,i 38 36 37 6,f 39 38 4,b' 40 39 1,a 41 7,i 42 40 41 2,f 43 42 1,b' 44 43 1,a 45 1,g 46 .eql (v 44) (v 45)]) (F (v 46) (R [a 47 5,g 48 .add (v 47) (k 1),e 5 48]) .skip))) (R [a 33 7,g 34 .add (v 33) (k 1),e 7 34]))))))) (R [a 13 6,g 14 .add (v 13) (k 1),e 6 14])))))) (Q (R [a 49 5,e 4 49]) .ret)))
def aeK:Cmd:=Q (R [n 2 (box 2 (v 0)),e' 4 (k 0)]) (Q (Q (R [e' 5 (k 0)]) (.blk 0 (.loop (Q (Q (R [a 6 5,f 7 2 0,b' 8 7 1,l 9 8,g 10 .lss (v 6) (v 9)]) (F (v 10) .skip (.exit 0))) (Q (.blk 1 (Q (R [f 13 2 0,b' 14 13 1,a 15 5,i 16 14 15 6,f 17 16 0,b' 18 17 1,a 19 1,g 20 .eql (v 18) (v 19)]) (F (v 20) (Q (R [a 21 5,e 4 21]) .ret) .skip))) (R [a 11 5,g 12 .add (v 11) (k 1),e 5 12])))))) (Q (R [e' 4 (k (-1))]) .ret))
def g7:Cmd:=Q (R [e' 4 k0]) (Q (R [a 5 0,a 6 1,c 7 160 [v 5,v 6],g 8 .geq (v 7) (k 0),e 4 8]) .ret)
def xP:Cmd:=Q (R [n 2 (box 2 (v 0)),e' 4 (.c (.own 1 []))]) (Q (R [a 10 1,e 5 10]) (Q (Q (R [e' 6 (k 0)]) (.blk 0 (.loop (Q (Q (R [a 11 6,a 12 1,l 13 12,g 14 .lss (v 11) (v 13)]) (F (v 14) .skip (.exit 0))) (Q (.blk 1 (Q (D [0,0,0,6,14,31,63,127,255,0,767,2047] [b 18 2 2,a 19 1,a 20 6,i 21 19 20 1,b' 22 21 1,c 23 148 [v 18,v 22],a 17 23,x 24 17 0,x 25 17 1,z 7 [.int .i64 0,.int .i64 0,.int .i64 0,.sl 1 [],.sl 2 [],.sl 2 []],s 7 24 6,e 8 25]) (Q (R [e' 9 (k 0)]) (.blk 2 (.loop (Q (Q (R [a 26 9,f 27 7 4,b' 28 27 1,l 29 28,g 30 .lss (v 26) (v 29),a 31 30,ha 31 true 32 8,p 33 31 (v 32) k0,a 34 33,h 34 true 35 (fld 35 (v 7) 1),h 34 true 36 (ld 36 (v 35) 1 false),h 34 true 37 (bin 37 .eql (v 36) (k 2)),p 38 34 (v 37) k0]) (F (v 38) .skip (.exit 2))) (Q (.blk 3 (Q (D [0,0,2,0,14,30,62,127,255] [b 41 2 2,f 42 7 4,b' 43 42 1,a 44 9,i 45 43 44 2,f 46 45 1,b' 47 46 1,c 48 109 [v 41,v 47],g 49 .geq (v 48) (k 0)]) (F (v 49) (R [a 50 5,f 51 7 4,b' 52 51 1,a 53 9,i 54 52 53 2,f 55 54 1,b' 56 55 1,c 57 162 [v 50,v 56],e 5 57]) .skip))) (R [a 39 9,g 40 .add (v 39) (k 1),e 9 40])))))))) (R [a 15 6,g 16 .add (v 15) (k 1),e 6 16])))))) (Q (R [a 58 5,e 4 58]) .ret)))
def xQ:Cmd:=Q (R [z 0 [.sl 6 [],.int .i64 0]]) (Q (R [n 1 (bld 1 [.int .i64 0,.int .i64 0,.int .i64 0,.sl 1 [],.sl 2 [],.sl 2 []] [(0,1,k 1),(1,1,k 2)]),o 2 6 [v 1],n 3 (bld 3 [.sl 6 [],.int .i64 0] [(0,1,v 2),(1,1,k 2)]),s 0 3 2]) .ret)
def bL:Cmd:=Q (R [n 3 (box 3 (v 1)),z 4 [.sl 6 [],.int .i64 0]]) (Q (R [a 7 0,b 8 3 2,c 9 58 [v 7,v 8],e 5 9]) (Q (R [a 10 0,c 11 59 [v 10],e 6 11]) (Q (Q (R [a 12 0,c 13 101 [v 12,k 12]]) (.blk 0 (Q (Q (R [g 34 .eql (v 13) (k 0),e 33 34]) (F (v 33) .skip (R [g 35 .eql (v 13) (k 1),e 33 35]))) (F (v 33) (R [b 37 3 2,a 38 6,c 39 37 [v 37,v 38],a 36 39,x 40 36 0,x 41 36 1,s 3 40 2]) (Q (Q (R [g 43 .eql (v 13) (k 2),e 42 43]) (F (v 42) .skip (R [g 44 .eql (v 13) (k 3),e 42 44]))) (F (v 42) (R [b 46 3 2,a 47 6,c 48 33 [v 46,v 47],a 45 48,x 49 45 0,x 50 45 1,s 3 49 2]) (Q (Q (R [g 52 .eql (v 13) (k 4),e 51 52]) (F (v 51) .skip (Q (R [g 53 .eql (v 13) (k 5),e 51 53]) (F (v 51) .skip (R [g 54 .eql (v 13) (k 6),e 51 54]))))) (F (v 51) (D [0,0,0,0,12,0,60,127,255,511,1023,1023] [b 56 3 2,a 57 5,a 58 0,o 59 1 [k 0,k 1,k 20],c 60 153 [v 58,v 59],a 61 0,c 62 173 [v 61],c 63 172 [v 56,v 57,v 60,v 62],a 55 63,x 64 55 0,x 65 55 1,s 3 64 2]) (Q (R [g 67 .eql (v 13) (k 7),e 66 67]) (F (v 66) (D [0,0,0,0,12,31,63,127,255,255] [b 69 3 2,a 70 5,a 71 0,o 72 1 [k 0,k 3,k 50],c 73 153 [v 71,v 72],c 74 174 [v 69,v 70,v 73],a 68 74,x 75 68 0,x 76 68 1,s 3 75 2]) (Q (R [g 78 .eql (v 13) (k 8),e 77 78]) (F (v 77) (R [b 80 3 2,a 81 5,c 82 22 [v 80,v 81],a 79 82,x 83 79 0,x 84 79 1,s 3 83 2]) (Q (R [g 86 .eql (v 13) (k 9),e 85 86]) (F (v 85) (R [b 88 3 2,a 89 5,a 90 6,c 91 39 [v 88,v 89,v 90],a 87 91,x 92 87 0,x 93 87 1,s 3 92 2]) (Q (R [g 95 .eql (v 13) (k 10),e 94 95]) (F (v 94) (R [b 97 3 2,a 98 5,a 99 6,c 100 42 [v 97,v 98,v 99],a 96 100,x 101 96 0,x 102 96 1,s 3 101 2]) (Q (R [a 14 0,c 15 96 [v 14,k 2]]) (F (v 15) (R [b 17 3 2,a 18 5,c 19 30 [v 17,v 18],a 16 19,x 20 16 0,x 21 16 1,s 3 20 2]) (D [0,0,0,4,0,0,60,127,255,511,1023,1023] [b 23 3 2,a 24 5,a 25 0,c 26 121 [v 25],a 27 0,o 28 1 [.c (.str [120]),.c (.str []),.c (.str [118,97,108,117,101])],c 29 149 [v 27,v 28],c 30 175 [v 23,v 24,v 26,v 29],a 22 30,x 31 22 0,x 32 22 1,s 3 31 2]))))))))))))))))))) (Q (R [b 103 3 2,s 4 103 2]) .ret))))
def pN:Cmd:=Q (R [n 1 (box 1 (v 0)),e' 2 (.c (.own 1 []))]) (Q (R [o 4 1 [],z 3 [.sl 1 []],s 3 4 1]) (Q (Q (R [b 5 1 2,c 6 46 [v 5]]) (F (v 6) (R [b 7 1 2,c 8 176 [v 7,k 1,.c (.str []),v 3]]) .skip)) (Q (R [b' 9 3 1,c 10 177 [v 9],e 2 10]) .ret)))
def xR:Cmd:=Q (R [e' 2 (.c (.str []))]) (Q (R [a 3 0,o 4 1 [.c (.str [97]),.c (.str [98]),.c (.str [99]),.c (.str [100,46,116,120,116])],c 5 149 [v 3,v 4],e 2 5]) .ret)
def qI:Cmd:=Q (R [n 1 (box 1 (v 0)),z 2 [.int .i64 0,.int .i64 0,.int .i64 0,.sl 1 [],.sl 2 [],.sl 2 []]]) (Q (R [f 3 1 3,b' 4 3 1,c 5 84 [v 4],f 6 1 3,s 6 5 1]) (Q (R [f 7 1 4,b' 8 7 1,c 9 125 [v 8],f 10 1 4,s 10 9 1]) (Q (R [f 11 1 5,b' 12 11 1,c 13 178 [v 12],f 14 1 5,s 14 13 1]) (Q (R [b 15 1 6,s 2 15 6]) .ret))))
def jG:Cmd:=Q (R [e' 2 (.c (.str [])),e' 3 (.c (.str [])),e' 4 k0]) (Q (R [a 9 0,c 10 81 [v 9],a 8 10,x 11 8 0,x 12 8 1,e 5 11,e 6 12]) (Q (Q (R [a 13 6,n 14 (un 14 .not (v 13)),a 15 14,ha 15 false 16 5,h 15 false 17 (len 17 (v 16)),h 15 false 18 (bin 18 .eql (v 17) (k 0)),p 19 15 k1 (v 18)]) (F (v 19) (Q (R [e' 2 (.c (.str [])),e' 3 (.c (.str [])),e' 4 k0]) .ret) .skip)) (Q (R [a 20 5,l 21 20,g 22 .sub (v 21) (k 1),e 7 22]) (Q (D [0,0,3,7,0,0,48,112,15,511,1023] [a 23 5,a 24 7,n 25 (slc 25 (v 23) none (some (v 24)) 1),c 26 179 [v 25],a 27 5,a 28 7,i 29 27 28 1,b' 30 29 1,e 2 26,e 3 30,e' 4 k1]) .ret))))
def mG:Cmd:=Q (R [e' 2 (.c (.own 2 []))]) (Q (Q (R [a 3 0,n 4 (isn 4 false (v 3) (.c (.own 2 [])))]) (F (v 4) (Q (R [e' 2 (.c (.own 2 []))]) .ret) .skip)) (Q (R [o 5 2 [],a 6 0,n 7 (app 7 (v 5) (v 6) 2 24),e 2 7]) .ret))
def iU:Cmd:=Q (R [e' 4 (k 0)]) (Q (Q (R [a 6 0,l 7 6,n 8 (mov 8 (k 0))]) (.blk 0 (.loop (Q (R [g 9 .lss (v 8) (v 7)]) (Q (F (v 9) .skip (.exit 0)) (Q (.blk 1 (Q (R [a 10 8,e 5 10]) (Q (R [a 11 1,a 12 0,a 13 5,i 14 12 13 6,b 15 14 6,n 16 (callv (some 16) (v 11) [v 15])]) (F (v 16) (Q (R [a 17 5,e 4 17]) .ret) .skip)))) (R [g 18 .add (v 8) (k 1),a 8 18]))))))) (Q (R [e' 4 (k (-1))]) .ret))
def jZ:Cmd:=Q (R [e' 4 (k 0)]) (Q (Q (R [a 6 0,l 7 6,n 8 (mov 8 (k 0))]) (.blk 0 (.loop (Q (R [g 9 .lss (v 8) (v 7)]) (Q (F (v 9) .skip (.exit 0)) (Q (.blk 1 (Q (R [a 10 8,e 5 10]) (Q (R [a 11 1,a 12 0,a 13 5,i 14 12 13 2,b 15 14 2,n 16 (callv (some 16) (v 11) [v 15])]) (F (v 16) (Q (R [a 17 5,e 4 17]) .ret) .skip)))) (R [g 18 .add (v 8) (k 1),a 8 18]))))))) (Q (R [e' 4 (k (-1))]) .ret))
def o7:Cmd:=Q (R [e' 4 k0]) (Q (Q (R [a 6 0,l 7 6,a 8 1,l 9 8,g 10 .neq (v 7) (v 9)]) (F (v 10) (Q (R [e' 4 k0]) .ret) .skip)) (Q (Q (R [a 11 0,l 12 11,n 13 (mov 13 (k 0))]) (.blk 0 (.loop (Q (R [g 14 .lss (v 13) (v 12)]) (Q (F (v 14) .skip (.exit 0)) (Q (.blk 1 (Q (R [a 15 13,e 5 15]) (Q (D [0,0,3,7,0,0,48,112,255] [a 16 0,a 17 5,i 18 16 17 1,b' 19 18 1,a 20 1,a 21 5,i 22 20 21 1,b' 23 22 1,g 24 .neq (v 19) (v 23)]) (F (v 24) (Q (R [e' 4 k0]) .ret) .skip)))) (R [g 25 .add (v 13) (k 1),a 13 25]))))))) (Q (R [e' 4 k1]) .ret)))
def qJ:Cmd:=Q (R [e' 4 k0]) (Q (Q (R [a 6 0,l 7 6,a 8 1,l 9 8,g 10 .neq (v 7) (v 9)]) (F (v 10) (Q (R [e' 4 k0]) .ret) .skip)) (Q (Q (R [a 11 0,l 12 11,n 13 (mov 13 (k 0))]) (.blk 0 (.loop (Q (R [g 14 .lss (v 13) (v 12)]) (Q (F (v 14) .skip (.exit 0)) (Q (.blk 1 (Q (R [a 15 13,e 5 15]) (Q (D [0,0,3,7,0,0,48,112,255] [a 16 0,a 17 5,i 18 16 17 2,b 19 18 2,a 20 1,a 21 5,i 22 20 21 2,b 23 22 2,n 24 (eqs 24 true [1,0] (v 19) (v 23))]) (F (v 24) (Q (R [e' 4 k0]) .ret) .skip)))) (R [g 25 .add (v 13) (k 1),a 13 25]))))))) (Q (R [e' 4 k1]) .ret)))
def o8:Cmd:=Q (R [e' 4 k0]) (Q (Q (R [a 6 0,l 7 6,a 8 1,l 9 8,g 10 .neq (v 7) (v 9)]) (F (v 10) (Q (R [e' 4 k0]) .ret) .skip)) (Q (Q (R [a 11 0,l 12 11,n 13 (mov 13 (k 0))]) (.blk 0 (.loop (Q (R [g 14 .lss (v 13) (v 12)]) (Q (F (v 14) .skip (.exit 0)) (Q (.blk 1 (Q (R [a 15 13,e 5 15]) (Q (D [0,0,3,7,0,0,48,112,255] [a 16 0,a 17 5,i 18 16 17 2,b 19 18 2,a 20 1,a 21 5,i 22 20 21 2,b 23 22 2,n 24 (eqs 24 true [1,1] (v 19) (v 23))]) (F (v 24) (Q (R [e' 4 k0]) .ret) .skip)))) (R [g 25 .add (v 13) (k 1),a 13 25]))))))) (Q (R [e' 4 k1]) .ret)))
def nQ:Cmd:=Q (R [e' 2 (.c (.str []))]) (Q (Q (R [a 5 0,l 6 5,g 7 .eql (v 6) (k 0)]) (F (v 7) (Q (R [e' 2 (.c (.str [47]))]) .ret) .skip)) (Q (R [e' 3 (.c (.str []))]) (Q (Q (R [e' 4 (k 0)]) (.blk 0 (.loop (Q (Q (R [a 8 4,a 9 0,l 10 9,g 11 .lss (v 8) (v 10)]) (F (v 11) .skip (.exit 0))) (Q (.blk 1 (Q (Q (R [a 14 0,a 15 4,i 16 14 15 1,b' 17 16 1,c 18 150 [v 17],n 19 (un 19 .not (v 18)),a 20 19,ha 20 false 21 0,h 20 false 22 (len 22 (v 21)),h 20 false 23 (bin 23 .gtr (v 22) (k 30)),p 24 20 k1 (v 23)]) (F (v 24) (Q (R [e' 2 (.c (.str []))]) .ret) .skip)) (R [a 25 3,g 26 .add (v 25) (.c (.str [47])),a 27 0,a 28 4,i 29 27 28 1,b' 30 29 1,g 31 .add (v 26) (v 30),e 3 31]))) (R [a 12 4,g 13 .add (v 12) (k 1),e 4 13])))))) (Q (R [a 32 3,e 2 32]) .ret))))
def xS:Cmd:=Q (R [n 1 (box 1 (v 0)),z 2 [.int .i64 0,.int .i64 0,.int .i64 0,.sl 1 [],.sl 2 [],.sl 2 []]]) (Q (R [b 4 1 6,z 3 [.int .i64 0,.int .i64 0,.int .i64 0,.sl 1 [],.sl 2 [],.sl 2 []],s 3 4 6]) (Q (R [o 5 1 [],f 6 1 3,b' 7 6 1,n 8 (app 8 (v 5) (v 7) 1 1),f 9 3 3,s 9 8 1]) (Q (R [o 10 2 [],f 11 1 4,b' 12 11 1,n 13 (app 13 (v 10) (v 12) 2 24),f 14 3 4,s 14 13 1]) (Q (R [o 15 2 [],f 16 1 5,b' 17 16 1,n 18 (app 18 (v 15) (v 17) 2 32),f 19 3 5,s 19 18 1]) (Q (R [b 20 3 6,s 2 20 6]) .ret)))))
def abo:Cmd:=Q (R [e' 4 (.c (.own 2 []))]) (Q (R [o 7 2 [],e 5 7]) (Q (Q (R [e' 6 (k 0)]) (.blk 0 (.loop (Q (Q (R [a 8 6,a 9 0,l 10 9,g 11 .lss (v 8) (v 10)]) (F (v 11) .skip (.exit 0))) (Q (.blk 1 (Q (R [a 14 0,a 15 6,i 16 14 15 2,f 17 16 0,b' 18 17 1,a 19 1,g 20 .neq (v 18) (v 19)]) (F (v 20) (R [a 21 5,a 22 0,a 23 6,i 24 22 23 2,b 25 24 2,o 26 2 [v 25],n 27 (app 27 (v 21) (v 26) 2 24),e 5 27]) .skip))) (R [a 12 6,g 13 .add (v 12) (k 1),e 6 13])))))) (Q (R [a 28 5,e 4 28]) .ret)))
def abp:Cmd:=Q (R [e' 4 (.c (.own 1 []))]) (Q (R [a 5 0,a 6 1,c 7 184 [v 5,v 6,k 0,k (-1)],e 4 7]) .ret)
def uV:Cmd:=Q (R [e' 2 k0]) (Q (R [a 3 0,l 4 3,g 5 .leq (v 4) (k 30),a 6 5,ha 6 true 7 0,hc 6 true 8 185 [v 7,.c (.fn 186 [])],h 6 true 9 (un 9 .not (v 8)),p 10 6 (v 9) k0,e 2 10]) .ret)
def uW:Cmd:=Q (R [n 1 (box 1 (v 0)),e' 2 k0]) (Q (Q (R [f 5 1 0,b' 6 5 1,c 7 94 [v 6,k 1,k 1000],n 8 (un 8 .not (v 7)),a 9 8,h 9 false 10 (fld 10 (v 1) 3),h 9 false 11 (ld 11 (v 10) 1 false),h 9 false 12 (len 12 (v 11)),h 9 false 13 (bin 13 .gtr (v 12) (k 100)),p 14 9 k1 (v 13),a 15 14,h 15 false 16 (fld 16 (v 1) 4),h 15 false 17 (ld 17 (v 16) 1 false),h 15 false 18 (len 18 (v 17)),h 15 false 19 (bin 19 .gtr (v 18) (k 10)),p 20 15 k1 (v 19),a 21 20,h 21 false 22 (fld 22 (v 1) 5),h 21 false 23 (ld 23 (v 22) 1 false),hc 21 false 24 198 [v 23],h 21 false 25 (un 25 .not (v 24)),p 26 21 k1 (v 25)]) (F (v 26) (Q (R [e' 2 k0]) .ret) .skip)) (Q (Q (R [f 27 1 4,b' 28 27 1,l 29 28,n 30 (mov 30 (k 0))]) (.blk 0 (.loop (Q (R [g 31 .lss (v 30) (v 29)]) (Q (F (v 31) .skip (.exit 0)) (Q (.blk 1 (Q (R [a 32 30,i 33 28 30 2,b 34 33 2,z 4 [.str [],.int .i64 0],e 3 32,s 4 34 2]) (Q (D [0,1,3,7,15,31,63,127,255,511,1023,2047,4095,8191,16383,32767,16383,81919,262143,524287,1048575,16383,2113535,8388607,16777215,33554431] [f 35 4 0,b' 36 35 1,c 37 102 [v 36],n 38 (un 38 .not (v 37)),a 39 38,h 39 false 40 (fld 40 (v 4) 1),h 39 false 41 (ld 41 (v 40) 1 false),hc 39 false 42 94 [v 41,k 2,k 1000],h 39 false 43 (un 43 .not (v 42)),p 44 39 k1 (v 43),a 45 44,ha 45 false 46 3,h 45 false 47 (bin 47 .gtr (v 46) (k 0)),ha 45 false 48 47,h 48 true 49 (fld 49 (v 1) 4),h 48 true 50 (ld 50 (v 49) 1 false),ha 48 true 51 3,h 48 true 52 (bin 52 .sub (v 51) (k 1)),h 48 true 53 (idx 53 (v 50) (v 52) 2),h 48 true 54 (fld 54 (v 53) 0),h 48 true 55 (ld 55 (v 54) 1 false),h 48 true 56 (fld 56 (v 4) 0),h 48 true 57 (ld 57 (v 56) 1 false),h 48 true 58 (bin 58 .geq (v 55) (v 57)),h 45 false 59 (pck 59 (v 48) (v 58) k0),p 60 45 k1 (v 59)]) (F (v 60) (Q (R [e' 2 k0]) .ret) .skip)))) (R [g 61 .add (v 30) (k 1),a 30 61]))))))) (Q (Q (R [f 62 1 2,b' 63 62 1,c 64 94 [v 63,k 0,k 1000],n 65 (un 65 .not (v 64)),a 66 65,h 66 false 67 (fld 67 (v 1) 2),h 66 false 68 (ld 68 (v 67) 1 false),h 66 false 69 (bin 69 .eql (v 68) (k 0)),h 66 false 70 (fld 70 (v 1) 0),h 66 false 71 (ld 71 (v 70) 1 false),h 66 false 72 (bin 72 .eql (v 71) (k 1)),h 66 false 73 (beq 73 true (v 69) (v 72)),p 74 66 k1 (v 73)]) (F (v 74) (Q (R [e' 2 k0]) .ret) .skip)) (Q (Q (R [f 75 1 1,b' 76 75 1]) (.blk 2 (Q (R [g 78 .eql (v 76) (k 1),e 77 78]) (F (v 77) (Q (R [f 79 1 4,b' 80 79 1,l 81 80,g 82 .eql (v 81) (k 0),e 2 82]) .ret) (Q (R [g 84 .eql (v 76) (k 2),e 83 84]) (F (v 83) (Q (R [f 85 1 3,b' 86 85 1,l 87 86,g 88 .eql (v 87) (k 0),a 89 88,h 89 true 90 (fld 90 (v 1) 2),h 89 true 91 (ld 91 (v 90) 1 false),h 89 true 92 (bin 92 .leq (v 91) (k 1)),p 93 89 (v 92) k0,e 2 93]) .ret) .skip)))))) (Q (R [e' 2 k0]) .ret)))))
def qK:Cmd:=Q (R [n 2 (box 2 (v 0)),e' 3 k0]) (Q (R [f 4 2 0,b' 5 4 1,b' 6 1 1,g 7 .eql (v 5) (v 6),e 3 7]) .ret)
def pO:Cmd:=Q (R [n 2 (box 2 (v 0)),z 4 [.int .i64 0,.int .i64 0,.int .i64 0,.sl 1 [],.sl 2 [],.sl 2 []],e' 5 k0]) (Q (R [b 7 2 2,a 8 1,c 9 109 [v 7,v 8],e 6 9]) (Q (Q (R [a 10 6,g 11 .lss (v 10) (k 0)]) (F (v 11) (Q (R [n 12 (bld 12 [.int .i64 0,.int .i64 0,.int .i64 0,.sl 1 [],.sl 2 [],.sl 2 []] []),s 4 12 6,e' 5 k0]) .ret) .skip)) (Q (R [f 13 2 0,b' 14 13 1,a 15 6,i 16 14 15 6,b 17 16 6,c 18 140 [v 17],s 4 18 6,e' 5 k1]) .ret)))
def abq:Cmd:=Q (R [e' 4 (.c (.str []))]) (Q (R [a 5 1,a 6 0,a 7 1,l 8 7,c 9 101 [v 6,v 8],i 10 5 9 1,b' 11 10 1,e 4 11]) .ret)
def xT:Cmd:=Q (R [e' 2 k0]) (Q (Q (R [e' 3 (k 0)]) (.blk 0 (.loop (Q (Q (R [a 5 3,a 6 0,n 7 (lens 7 (v 6)),g 8 .lss (v 5) (v 7)]) (F (v 8) .skip (.exit 0))) (Q (.blk 1 (Q (R [a 11 0,a 12 3,n 13 (sidx 13 (v 11) (v 12)),n 14 (conv 14 .i64 (v 13)),e 4 14]) (Q (R [a 15 4,c 16 158 [v 15,k 97,k 122],n 17 (un 17 .not (v 16)),a 18 17,ha 18 true 19 4,hc 18 true 20 158 [v 19,k 48,k 57],h 18 true 21 (un 21 .not (v 20)),p 22 18 (v 21) k0,a 23 22,ha 23 true 24 4,h 23 true 25 (bin 25 .neq (v 24) (k 95)),p 26 23 (v 25) k0,a 27 26,ha 27 true 28 4,h 27 true 29 (bin 29 .neq (v 28) (k 45)),p 30 27 (v 29) k0,a 31 30,ha 31 true 32 4,h 31 true 33 (bin 33 .neq (v 32) (k 46)),p 34 31 (v 33) k0]) (F (v 34) (Q (R [e' 2 k0]) .ret) .skip)))) (R [a 9 3,g 10 .add (v 9) (k 1),e 3 10])))))) (Q (R [a 35 0,n 36 (lens 36 (v 35)),c 37 158 [v 36,k 1,k 14],a 38 37,ha 38 true 39 0,h 38 true 40 (bin 40 .neq (v 39) (.c (.str [46]))),p 41 38 (v 40) k0,a 42 41,ha 42 true 43 0,h 42 true 44 (bin 44 .neq (v 43) (.c (.str [46,46]))),p 45 42 (v 44) k0,e 2 45]) .ret))
def abr:Cmd:=Q (R [n 2 (box 2 (v 0)),e' 4 (k 0)]) (Q (Q (R [e' 5 (k 0)]) (.blk 0 (.loop (Q (Q (R [a 6 5,f 7 2 4,b' 8 7 1,l 9 8,g 10 .lss (v 6) (v 9)]) (F (v 10) .skip (.exit 0))) (Q (.blk 1 (Q (R [f 13 2 4,b' 14 13 1,a 15 5,i 16 14 15 2,f 17 16 0,b' 18 17 1,a 19 1,g 20 .eql (v 18) (v 19)]) (F (v 20) (Q (R [f 21 2 4,b' 22 21 1,a 23 5,i 24 22 23 2,f 25 24 1,b' 26 25 1,e 4 26]) .ret) .skip))) (R [a 11 5,g 12 .add (v 11) (k 1),e 5 12])))))) (Q (R [e' 4 (k 0)]) .ret))
def xU:Cmd:=Q (R [n 2 (box 2 (v 0)),e' 4 (k 0),e' 5 (k 0)]) (Q (R [e' 6 (k 1)]) (Q (Q (R [e' 7 (k 0)]) (.blk 0 (.loop (Q (Q (R [a 9 7,a 10 1,l 11 10,g 12 .lss (v 9) (v 11)]) (F (v 12) .skip (.exit 0))) (Q (.blk 1 (Q (R [b 15 2 2,a 16 6,c 17 109 [v 15,v 16],e 8 17]) (Q (Q (R [a 18 8,g 19 .lss (v 18) (k 0)]) (F (v 19) (Q (R [e' 4 (k 0),e' 5 (k 2)]) .ret) .skip)) (Q (Q (R [f 20 2 0,b' 21 20 1,a 22 8,i 23 21 22 6,f 24 23 1,b' 25 24 1,g 26 .neq (v 25) (k 2)]) (F (v 26) (Q (R [e' 4 (k 0),e' 5 (k 3)]) .ret) .skip)) (Q (D [0,1,0,7,15,0,0,96,224,511,1023] [f 27 2 0,b' 28 27 1,a 29 8,i 30 28 29 6,b 31 30 6,a 32 1,a 33 7,i 34 32 33 1,b' 35 34 1,c 36 151 [v 31,v 35],e 6 36]) (Q (R [a 37 6,g 38 .eql (v 37) (k 0)]) (F (v 38) (Q (R [e' 4 (k 0),e' 5 (k 2)]) .ret) .skip))))))) (R [a 13 7,g 14 .add (v 13) (k 1),e 7 14])))))) (Q (R [a 39 6,e 4 39,e' 5 (k 0)]) .ret)))
def abs:Cmd:=Q (R [e' 4 (k 0)]) (Q (R [a 5 1,a 6 0,a 7 1,l 8 7,c 9 101 [v 6,v 8],i 10 5 9 1,b' 11 10 1,e 4 11]) .ret)
def rQ:Cmd:=Q (R [e' 2 (k 0)]) (Q (R [a 4 0,a 5 0,n 6 (nck 6 (v 5)),f 7 6 2,b' 8 7 1,g 9 .mul (v 8) (k 6364136223846793005),g 10 .add (v 9) (k 1442695040888963407),n 11 (nck 11 (v 4)),f 12 11 2,s 12 10 1]) (Q (D [0,1,3,7,15,0,32,96,224,480,1023,2047,4095] [a 13 0,n 14 (nck 14 (v 13)),f 15 14 2,b' 16 15 1,g 17 .shr (v 16) (.c (.int .u64 33)),a 18 0,n 19 (nck 19 (v 18)),f 20 19 2,b' 21 20 1,g 22 .shr (v 21) (.c (.int .u64 47)),g 23 .xor (v 17) (v 22),g 24 .and (v 23) (k 255),e 3 24]) (Q (Q (D [0,1,3,7,0,16,48,112,240,511] [a 25 0,n 26 (nck 26 (v 25)),f 27 26 1,b' 28 27 1,a 29 0,n 30 (nck 30 (v 29)),f 31 30 0,b' 32 31 1,l 33 32,g 34 .lss (v 28) (v 33)]) (F (v 34) (Q (D [0,0,2,6,14,0,32,96,224,510,1022,2046,4095,8191,16383] [a 35 3,a 36 0,n 37 (nck 37 (v 36)),f 38 37 0,b' 39 38 1,a 40 0,n 41 (nck 41 (v 40)),f 42 41 1,b' 43 42 1,i 44 39 43 1,b' 45 44 1,n 46 (conv 46 .i64 (v 45)),g 47 .add (v 35) (v 46),g 48 .and (v 47) (k 255),e 3 48]) (R [a 49 0,a 50 0,n 51 (nck 51 (v 50)),f 52 51 1,b' 53 52 1,g 54 .add (v 53) (k 1),n 55 (nck 55 (v 49)),f 56 55 1,s 56 54 1])) .skip)) (Q (R [a 57 3,e 2 57]) .ret))))
def aab:Cmd:=Q (R [e' 6 k0]) (Q (R [a 7 0,a 8 1,g 9 .geq (v 7) (v 8),a 10 9,ha 10 true 11 0,ha 10 true 12 2,h 10 true 13 (bin 13 .leq (v 11) (v 12)),p 14 10 (v 13) k0,e 6 14]) .ret)
def uY:Cmd:=Q (R [n 1 (box 1 (v 0)),e' 2 k0]) (Q (Q (R [f 3 1 0,b' 4 3 1,c 5 158 [v 4,k 1,k 1000],n 6 (un 6 .not (v 5)),a 7 6,h 7 false 8 (fld 8 (v 1) 2),h 7 false 9 (ld 9 (v 8) 1 false),hc 7 false 10 158 [v 9,k 0,k 1000],h 7 false 11 (un 11 .not (v 10)),p 12 7 k1 (v 11),a 13 12,h 13 false 14 (fld 14 (v 1) 2),h 13 false 15 (ld 15 (v 14) 1 false),h 13 false 16 (bin 16 .eql (v 15) (k 0)),h 13 false 17 (fld 17 (v 1) 0),h 13 false 18 (ld 18 (v 17) 1 false),h 13 false 19 (bin 19 .eql (v 18) (k 1)),h 13 false 20 (beq 20 true (v 16) (v 19)),p 21 13 k1 (v 20),a 22 21,h 22 false 23 (fld 23 (v 1) 3),h 22 false 24 (ld 24 (v 23) 1 false),h 22 false 25 (len 25 (v 24)),h 22 false 26 (bin 26 .gtr (v 25) (k 100)),p 27 22 k1 (v 26),a 28 27,h 28 false 29 (fld 29 (v 1) 4),h 28 false 30 (ld 30 (v 29) 1 false),hc 28 false 31 201 [v 30],h 28 false 32 (un 32 .not (v 31)),p 33 28 k1 (v 32),a 34 33,h 34 false 35 (fld 35 (v 1) 5),h 34 false 36 (ld 36 (v 35) 1 false),hc 34 false 37 202 [v 36],h 34 false 38 (un 38 .not (v 37)),p 39 34 k1 (v 38)]) (F (v 39) (Q (R [e' 2 k0]) .ret) .skip)) (Q (Q (R [f 40 1 1,b' 41 40 1]) (.blk 0 (Q (R [g 43 .eql (v 41) (k 1),e 42 43]) (F (v 42) (Q (R [f 44 1 4,b' 45 44 1,l 46 45,g 47 .eql (v 46) (k 0),e 2 47]) .ret) (Q (R [g 49 .eql (v 41) (k 2),e 48 49]) (F (v 48) (Q (R [f 50 1 3,b' 51 50 1,l 52 51,g 53 .eql (v 52) (k 0),a 54 53,h 54 true 55 (fld 55 (v 1) 2),h 54 true 56 (ld 56 (v 55) 1 false),h 54 true 57 (bin 57 .leq (v 56) (k 1)),p 58 54 (v 57) k0,e 2 58]) .ret) .skip)))))) (Q (R [e' 2 k0]) .ret)))
def qL:Cmd:=Q (R [e' 4 (k 0)]) (Q (Q (R [a 6 0,l 7 6,n 8 (mov 8 (k 0))]) (.blk 0 (.loop (Q (R [g 9 .lss (v 8) (v 7)]) (Q (F (v 9) .skip (.exit 0)) (Q (.blk 1 (Q (R [a 10 8,e 5 10]) (Q (R [a 11 1,a 12 0,a 13 5,i 14 12 13 1,b' 15 14 1,g 16 .eql (v 11) (v 15)]) (F (v 16) (Q (R [a 17 5,e 4 17]) .ret) .skip)))) (R [g 18 .add (v 8) (k 1),a 8 18]))))))) (Q (R [e' 4 (k (-1))]) .ret))
def uZ:Cmd:=Q (R [e' 4 (.c (.own 1 []))]) (Q (Q (R [a 7 0,a 8 1,c 9 212 [v 7,v 8]]) (F (v 9) (Q (R [a 10 0,e 4 10]) .ret) .skip)) (Q (R [o 11 1 [],a 12 0,n 13 (app 13 (v 11) (v 12) 1 8),a 14 1,o 15 1 [v 14],n 16 (app 16 (v 13) (v 15) 1 8),e 5 16]) (Q (R [a 17 5,l 18 17,g 19 .sub (v 18) (k 1),e 6 19]) (Q (.blk 0 (.loop (Q (Q (R [a 20 6,g 21 .gtr (v 20) (k 0),a 22 21,ha 22 true 23 5,ha 22 true 24 6,h 22 true 25 (bin 25 .sub (v 24) (k 1)),h 22 true 26 (idx 26 (v 23) (v 25) 1),h 22 true 27 (ld 27 (v 26) 1 false),ha 22 true 28 1,h 22 true 29 (bin 29 .gtr (v 27) (v 28)),p 30 22 (v 29) k0]) (F (v 30) .skip (.exit 0))) (.blk 1 (Q (R [a 31 5,a 32 6,a 33 5,a 34 6,g 35 .sub (v 34) (k 1),i 36 33 35 1,b' 37 36 1,i 38 31 32 1,s 38 37 1]) (R [a 39 6,g 40 .sub (v 39) (k 1),e 6 40])))))) (Q (R [a 41 5,a 42 6,a 43 1,i 44 41 42 1,s 44 43 1]) (Q (R [a 45 5,e 4 45]) .ret))))))
def fB:Cmd:=Q (R [n 4 (box 4 (v 0)),z 8 [.sl 6 [],.int .i64 0],e' 9 (k 0)]) (Q (R [a 16 1,c 17 91 [v 16],a 15 17,x 18 15 0,x 19 15 1,e 10 18,e 11 19]) (Q (Q (R [b 20 4 2,c 21 46 [v 20],n 22 (un 22 .not (v 21)),a 23 22,ha 23 false 24 11,h 23 false 25 (un 25 .not (v 24)),p 26 23 k1 (v 25),a 27 26,ha 27 false 28 2,hc 27 false 29 158 [v 28,k 0,k 100],h 27 false 30 (un 30 .not (v 29)),p 31 27 k1 (v 30)]) (F (v 31) (Q (R [b 32 4 2,c 33 76 [v 32],s 8 33 2,e' 9 (k 1)]) .ret) .skip)) (Q (R [b 35 4 2,a 36 1,c 37 77 [v 35,v 36],a 34 37,x 38 34 0,x 39 34 1,z 12 [.int .i64 0,.int .i64 0,.int .i64 0,.sl 1 [],.sl 2 [],.sl 2 []],s 12 38 6,e 13 39]) (Q (Q (R [a 40 13,g 41 .eql (v 40) (k 0),a 42 41,ha 42 true 43 3,h 42 true 44 (len 44 (v 43)),ha 42 true 45 2,h 42 true 46 (bin 46 .sub (k 100) (v 45)),h 42 true 47 (bin 47 .gtr (v 44) (v 46)),p 48 42 (v 47) k0]) (F (v 48) (R [e' 13 (k 5)]) .skip)) (Q (Q (R [a 49 13,g 50 .neq (v 49) (k 0)]) (F (v 50) (Q (R [b 51 4 2,c 52 76 [v 51],a 53 13,s 8 52 2,e 9 53]) .ret) .skip)) (Q (.blk 0 (.loop (Q (Q (R [f 54 12 3,b' 55 54 1,l 56 55,a 57 2,a 58 3,l 59 58,g 60 .add (v 57) (v 59),g 61 .lss (v 56) (v 60)]) (F (v 61) .skip (.exit 0))) (.blk 1 (R [f 62 12 3,b' 63 62 1,o 64 1 [.c (.int .u8 0)],n 65 (app 65 (v 63) (v 64) 1 1),f 66 12 3,s 66 65 1]))))) (Q (Q (R [e' 14 (k 0)]) (.blk 2 (.loop (Q (Q (R [a 67 14,a 68 3,l 69 68,g 70 .lss (v 67) (v 69)]) (F (v 70) .skip (.exit 2))) (Q (.blk 3 (D [0,1,0,0,12,0,0,96,224,511,1023] [f 73 12 3,b' 74 73 1,a 75 2,a 76 14,g 77 .add (v 75) (v 76),a 78 3,a 79 14,i 80 78 79 1,b' 81 80 1,i 82 74 77 1,s 82 81 1])) (R [a 71 14,g 72 .add (v 71) (k 1),e 14 72])))))) (Q (R [b 83 4 2,b 84 12 6,c 85 80 [v 83,v 84],s 8 85 2,e' 9 (k 0)]) .ret))))))))
def xV:Cmd:=Q (R [e' 2 (.c (.own 1 []))]) (Q (R [a 3 0,a 4 0,o 5 1 [k 0,k 1,k 2,k 5,k 9],c 6 153 [v 4,v 5],c 7 223 [v 3,v 6],e 2 7]) .ret)
def fK:Cmd:=Q (R [n 3 (box 3 (v 0)),z 6 [.sl 6 [],.int .i64 0],e' 7 (k 0)]) (Q (R [a 13 1,c 14 91 [v 13],a 12 14,x 15 12 0,x 16 12 1,e 8 15,e 9 16]) (Q (Q (R [b 17 3 2,c 18 46 [v 17],n 19 (un 19 .not (v 18)),a 20 19,ha 20 false 21 9,h 20 false 22 (un 22 .not (v 21)),p 23 20 k1 (v 22),a 24 23,ha 24 false 25 2,hc 24 false 26 158 [v 25,k 0,k 100],h 24 false 27 (un 27 .not (v 26)),p 28 24 k1 (v 27)]) (F (v 28) (Q (R [b 29 3 2,c 30 76 [v 29],s 6 30 2,e' 7 (k 1)]) .ret) .skip)) (Q (R [b 32 3 2,a 33 1,c 34 77 [v 32,v 33],a 31 34,x 35 31 0,x 36 31 1,z 10 [.int .i64 0,.int .i64 0,.int .i64 0,.sl 1 [],.sl 2 [],.sl 2 []],s 10 35 6,e 11 36]) (Q (Q (R [a 37 11,g 38 .neq (v 37) (k 0)]) (F (v 38) (Q (R [b 39 3 2,c 40 76 [v 39],a 41 11,s 6 40 2,e 7 41]) .ret) .skip)) (Q (.blk 0 (.loop (Q (Q (R [f 42 10 3,b' 43 42 1,l 44 43,a 45 2,g 46 .lss (v 44) (v 45)]) (F (v 46) .skip (.exit 0))) (.blk 1 (R [f 47 10 3,b' 48 47 1,o 49 1 [.c (.int .u8 0)],n 50 (app 50 (v 48) (v 49) 1 1),f 51 10 3,s 51 50 1]))))) (Q (R [f 52 10 3,b' 53 52 1,a 54 2,n 55 (slc 55 (v 53) none (some (v 54)) 1),f 56 10 3,s 56 55 1]) (Q (R [b 57 3 2,b 58 10 6,c 59 80 [v 57,v 58],s 6 59 2,e' 7 (k 0)]) .ret)))))))
def fC:Cmd:=Q (R [n 4 (box 4 (v 0)),z 8 [.sl 6 [],.int .i64 0],e' 9 (k 0)]) (Q (R [a 17 1,c 18 91 [v 17],a 16 18,x 19 16 0,x 20 16 1,e 10 19,e 11 20]) (Q (Q (R [b 21 4 2,c 22 46 [v 21],n 23 (un 23 .not (v 22)),a 24 23,ha 24 false 25 11,h 24 false 26 (un 26 .not (v 25)),p 27 24 k1 (v 26),a 28 27,ha 28 false 29 2,hc 28 false 30 150 [v 29],h 28 false 31 (un 31 .not (v 30)),p 32 28 k1 (v 31),a 33 32,ha 33 false 34 3,h 33 false 35 (lens 35 (v 34)),h 33 false 36 (bin 36 .gtr (v 35) (k 16)),p 37 33 k1 (v 36)]) (F (v 37) (Q (R [b 38 4 2,c 39 76 [v 38],s 8 39 2,e' 9 (k 1)]) .ret) .skip)) (Q (R [b 41 4 2,a 42 1,c 43 88 [v 41,v 42],a 40 43,x 44 40 0,x 45 40 1,z 12 [.int .i64 0,.int .i64 0,.int .i64 0,.sl 1 [],.sl 2 [],.sl 2 []],s 12 44 6,e 13 45]) (Q (Q (R [a 46 13,g 47 .neq (v 46) (k 0)]) (F (v 47) (Q (R [b 48 4 2,c 49 76 [v 48],a 50 13,s 8 49 2,e 9 50]) .ret) .skip)) (Q (R [o 51 2 [],e 14 51]) (Q (Q (R [e' 15 (k 0)]) (.blk 0 (.loop (Q (Q (R [a 52 15,f 53 12 5,b' 54 53 1,l 55 54,g 56 .lss (v 52) (v 55)]) (F (v 56) .skip (.exit 0))) (Q (.blk 1 (Q (R [f 59 12 5,b' 60 59 1,a 61 15,i 62 60 61 2,f 63 62 0,b' 64 63 1,a 65 2,g 66 .neq (v 64) (v 65)]) (F (v 66) (R [a 67 14,f 68 12 5,b' 69 68 1,a 70 15,i 71 69 70 2,b 72 71 2,o 73 2 [v 72],n 74 (app 74 (v 67) (v 73) 2 32),e 14 74]) .skip))) (R [a 57 15,g 58 .add (v 57) (k 1),e 15 58])))))) (Q (Q (R [a 75 3,g 76 .eql (v 75) (.c (.str []))]) (F (v 76) (Q (R [a 77 14,f 78 12 5,s 78 77 1]) (Q (R [b 79 4 2,b 80 12 6,c 81 80 [v 79,v 80],s 8 81 2,e' 9 (k 0)]) .ret)) .skip)) (Q (Q (R [a 82 14,l 83 82,g 84 .geq (v 83) (k 4)]) (F (v 84) (Q (R [b 85 4 2,c 86 76 [v 85],s 8 86 2,e' 9 (k 5)]) .ret) .skip)) (Q (R [a 87 14,a 88 2,a 89 3,n 90 (bld 90 [.str [],.str []] [(0,1,v 88),(1,1,v 89)]),c 91 224 [v 87,v 90],f 92 12 5,s 92 91 1]) (Q (R [b 93 4 2,b 94 12 6,c 95 80 [v 93,v 94],s 8 95 2,e' 9 (k 0)]) .ret))))))))))
def u5:Cmd:=Q (R [n 4 (box 4 (v 0))]) (Q (R [b 13 4 2,a 14 1,c 15 148 [v 13,v 14],a 12 15,x 16 12 0,x 17 12 1,z 8 [.int .i64 0,.int .i64 0,.int .i64 0,.sl 1 [],.sl 2 [],.sl 2 []],s 8 16 6,e 9 17]) (Q (R [e' 10 (k 0)]) (.blk 0 (.loop (Q (Q (R [a 18 10,f 19 8 4,b' 20 19 1,l 21 20,g 22 .lss (v 18) (v 21)]) (F (v 22) .skip (.exit 0))) (Q (.blk 1 (Q (R [a 25 2,g 26 .add (v 25) (.c (.str [47])),f 27 8 4,b' 28 27 1,a 29 10,i 30 28 29 2,f 31 30 0,b' 32 31 1,g 33 .add (v 26) (v 32),e 11 33]) (Q (R [a 34 3,a 35 3,n 36 (nck 36 (v 35)),b' 37 36 1,a 38 11,o 39 1 [v 38],n 40 (app 40 (v 37) (v 39) 1 16),n 41 (nck 41 (v 34)),s 41 40 1]) (D [0,0,2,0,14,30,62,0,0,511] [b 42 4 2,f 43 8 4,b' 44 43 1,a 45 10,i 46 44 45 2,f 47 46 1,b' 48 47 1,a 49 11,a 50 3,c 51 176 [v 42,v 48,v 49,v 50]])))) (R [a 23 10,g 24 .add (v 23) (k 1),e 10 24])))))))
def xW:Cmd:=Q (R [e' 2 (.c (.own 1 []))]) (Q (R [o 7 1 [],a 8 0,n 9 (app 9 (v 7) (v 8) 1 16),e 3 9]) (Q (Q (R [e' 4 (k 1)]) (.blk 0 (.loop (Q (Q (R [a 10 4,a 11 3,l 12 11,g 13 .lss (v 10) (v 12)]) (F (v 13) .skip (.exit 0))) (Q (.blk 1 (Q (R [a 16 3,a 17 4,i 18 16 17 1,b' 19 18 1,e 5 19]) (Q (R [a 20 4,e 6 20]) (Q (.blk 2 (.loop (Q (Q (R [a 21 6,g 22 .gtr (v 21) (k 0),a 23 22,ha 23 true 24 3,ha 23 true 25 6,h 23 true 26 (bin 26 .sub (v 25) (k 1)),h 23 true 27 (idx 27 (v 24) (v 26) 1),h 23 true 28 (ld 28 (v 27) 1 false),ha 23 true 29 5,h 23 true 30 (bin 30 .gtr (v 28) (v 29)),p 31 23 (v 30) k0]) (F (v 31) .skip (.exit 2))) (.blk 3 (Q (R [a 32 3,a 33 6,a 34 3,a 35 6,g 36 .sub (v 35) (k 1),i 37 34 36 1,b' 38 37 1,i 39 32 33 1,s 39 38 1]) (R [a 40 6,g 41 .sub (v 40) (k 1),e 6 41])))))) (R [a 42 3,a 43 6,a 44 5,i 45 42 43 1,s 45 44 1]))))) (R [a 14 4,g 15 .add (v 14) (k 1),e 4 15])))))) (Q (R [a 46 3,e 2 46]) .ret)))
def jO:Cmd:=Q (R [e' 2 (.c (.own 2 []))]) (Q (Q (R [a 3 0,n 4 (isn 4 false (v 3) (.c (.own 2 [])))]) (F (v 4) (Q (R [e' 2 (.c (.own 2 []))]) .ret) .skip)) (Q (R [o 5 2 [],a 6 0,n 7 (app 7 (v 5) (v 6) 2 32),e 2 7]) .ret))
def nR:Cmd:=Q (R [e' 2 (.c (.str []))]) (Q (Q (R [a 3 0,c 4 143 [v 3],n 5 (un 5 .not (v 4))]) (F (v 5) (Q (R [e' 2 (.c (.str []))]) .ret) .skip)) (Q (R [a 6 0,c 7 225 [v 6,.c (.str [47])],g 8 .add (.c (.str [47])) (v 7),e 2 8]) .ret))
def sM:Cmd:=Q (R [e' 8 (.c (.own 1 []))]) (Q (Q (R [a 12 3,g 13 .eql (v 12) (k 0)]) (F (v 13) (Q (R [e' 8 (.c (.own 1 []))]) .ret) .skip)) (Q (Q (R [a 14 1,g 15 .eql (v 14) (.c (.str []))]) (F (v 15) (Q (R [a 16 0,a 17 3,c 18 228 [v 16,v 17],e 8 18]) .ret) .skip)) (Q (Q (R [a 19 3,g 20 .lss (v 19) (k 0)]) (F (v 20) (R [a 21 0,a 22 1,c 23 229 [v 21,v 22],g 24 .add (v 23) (k 1),e 3 24]) .skip)) (Q (R [a 25 3,a 26 0,n 27 (lens 27 (v 26)),g 28 .add (v 27) (k 1),n 29 (mn 29 (v 25) (v 28)),e 3 29]) (Q (R [a 30 3,n 31 (mks 31 (v 30) (v 30) 1 16 [.str []]),e 9 31]) (Q (R [a 32 3,g 33 .sub (v 32) (k 1),e 3 33]) (Q (R [e' 10 (k 0)]) (Q (.blk 0 (.loop (Q (Q (R [a 34 10,a 35 3,g 36 .lss (v 34) (v 35)]) (F (v 36) .skip (.exit 0))) (.blk 1 (Q (R [a 37 0,a 38 1,c 39 230 [v 37,v 38],e 11 39]) (Q (Q (R [a 40 11,g 41 .lss (v 40) (k 0)]) (F (v 41) (.exit 0) .skip)) (Q (R [a 42 9,a 43 10,a 44 0,a 45 11,a 46 2,g 47 .add (v 45) (v 46),n 48 (sls 48 (v 44) none (some (v 47))),i 49 42 43 1,s 49 48 1]) (Q (R [a 50 0,a 51 11,a 52 1,n 53 (lens 53 (v 52)),g 54 .add (v 51) (v 53),n 55 (sls 55 (v 50) (some (v 54)) none),e 0 55]) (R [a 56 10,g 57 .add (v 56) (k 1),e 10 57]))))))))) (Q (R [a 58 9,a 59 10,a 60 0,i 61 58 59 1,s 61 60 1]) (Q (R [a 62 9,a 63 10,g 64 .add (v 63) (k 1),n 65 (slc 65 (v 62) none (some (v 64)) 1),e 8 65]) .ret))))))))))
def dM:Cmd:=Q (R [e' 4 k0]) (Q (R [a 5 0,a 6 1,c 7 231 [v 5,v 6],g 8 .geq (v 7) (k 0),e 4 8]) .ret)
def qM:Cmd:=Q (R [e' 2 k0]) (Q (R [a 3 0,c 4 102 [v 3],n 5 (un 5 .not (v 4)),e 2 5]) .ret)
def u6:Cmd:=Q (R [e' 2 k0]) (Q (Q (R [a 5 0,l 6 5,n 7 (mov 7 (k 0))]) (.blk 0 (.loop (Q (R [g 8 .lss (v 7) (v 6)]) (Q (F (v 8) .skip (.exit 0)) (Q (.blk 1 (Q (R [a 9 7,i 10 5 7 2,b 11 10 2,z 4 [.str [],.str []],e 3 9,s 4 11 2]) (Q (D [0,1,3,7,15,31,63,127,255,511,1023,2047,4095,8191,16383,32767,32767,98303,262143,524287,1048575,32767,2129919,8388607,16777215,33554431] [f 12 4 0,b' 13 12 1,c 14 102 [v 13],n 15 (un 15 .not (v 14)),a 16 15,h 16 false 17 (fld 17 (v 4) 1),h 16 false 18 (ld 18 (v 17) 1 false),h 16 false 19 (lens 19 (v 18)),hc 16 false 20 94 [v 19,k 1,k 16],h 16 false 21 (un 21 .not (v 20)),p 22 16 k1 (v 21),a 23 22,ha 23 false 24 3,h 23 false 25 (bin 25 .gtr (v 24) (k 0)),ha 23 false 26 25,ha 26 true 27 0,ha 26 true 28 3,h 26 true 29 (bin 29 .sub (v 28) (k 1)),h 26 true 30 (idx 30 (v 27) (v 29) 2),h 26 true 31 (fld 31 (v 30) 0),h 26 true 32 (ld 32 (v 31) 1 false),h 26 true 33 (fld 33 (v 4) 0),h 26 true 34 (ld 34 (v 33) 1 false),h 26 true 35 (bin 35 .geq (v 32) (v 34)),h 23 false 36 (pck 36 (v 26) (v 35) k0),p 37 23 k1 (v 36)]) (F (v 37) (Q (R [e' 2 k0]) .ret) .skip)))) (R [g 38 .add (v 7) (k 1),a 7 38]))))))) (Q (R [a 39 0,l 40 39,g 41 .leq (v 40) (k 4),e 2 41]) .ret))
def xX:Cmd:=Q (R [e' 2 k0]) (Q (Q (R [e' 3 (k 0)]) (.blk 0 (.loop (Q (Q (R [a 4 3,a 5 0,l 6 5,g 7 .lss (v 4) (v 6)]) (F (v 7) .skip (.exit 0))) (Q (.blk 1 (Q (D [0,0,3,7,15,31,63,127,255,255,1023,2047,4095,8191,16383,32767,65535,131071,262143,524287,1048575,1048575,3145727,8388607,16777215,33554431,1048575,1048575,202375167,470810623,1007681535,2147483647,4294967295,8589934591] [a 10 0,a 11 3,i 12 10 11 2,f 13 12 0,b' 14 13 1,c 15 150 [v 14],n 16 (un 16 .not (v 15)),a 17 16,ha 17 false 18 0,ha 17 false 19 3,h 17 false 20 (idx 20 (v 18) (v 19) 2),h 17 false 21 (fld 21 (v 20) 1),h 17 false 22 (ld 22 (v 21) 1 false),hc 17 false 23 158 [v 22,k 2,k 1000],h 17 false 24 (un 24 .not (v 23)),p 25 17 k1 (v 24),a 26 25,ha 26 false 27 3,h 26 false 28 (bin 28 .gtr (v 27) (k 0)),ha 26 false 29 28,ha 29 true 30 0,ha 29 true 31 3,h 29 true 32 (bin 32 .sub (v 31) (k 1)),h 29 true 33 (idx 33 (v 30) (v 32) 2),h 29 true 34 (fld 34 (v 33) 0),h 29 true 35 (ld 35 (v 34) 1 false),ha 29 true 36 0,ha 29 true 37 3,h 29 true 38 (idx 38 (v 36) (v 37) 2),h 29 true 39 (fld 39 (v 38) 0),h 29 true 40 (ld 40 (v 39) 1 false),h 29 true 41 (bin 41 .geq (v 35) (v 40)),h 26 false 42 (pck 42 (v 29) (v 41) k0),p 43 26 k1 (v 42)]) (F (v 43) (Q (R [e' 2 k0]) .ret) .skip))) (R [a 8 3,g 9 .add (v 8) (k 1),e 3 9])))))) (Q (R [a 44 0,l 45 44,g 46 .leq (v 45) (k 10),e 2 46]) .ret))
def u7:Cmd:=Q (R [e' 2 k0]) (Q (Q (R [e' 3 (k 0)]) (.blk 0 (.loop (Q (Q (R [a 4 3,a 5 0,l 6 5,g 7 .lss (v 4) (v 6)]) (F (v 7) .skip (.exit 0))) (Q (.blk 1 (Q (D [0,0,3,7,15,31,63,127,255,255,1023,2047,4095,8191,16383,32767,65535,131071,262143,524287,1048575,2097151,2097151,6291455,16777215,33554431,67108863,2097151,2097151,404750335,941621247,2015363071,4294967295,8589934591,17179869183] [a 10 0,a 11 3,i 12 10 11 2,f 13 12 0,b' 14 13 1,c 15 150 [v 14],n 16 (un 16 .not (v 15)),a 17 16,ha 17 false 18 0,ha 17 false 19 3,h 17 false 20 (idx 20 (v 18) (v 19) 2),h 17 false 21 (fld 21 (v 20) 1),h 17 false 22 (ld 22 (v 21) 1 false),h 17 false 23 (lens 23 (v 22)),hc 17 false 24 158 [v 23,k 1,k 16],h 17 false 25 (un 25 .not (v 24)),p 26 17 k1 (v 25),a 27 26,ha 27 false 28 3,h 27 false 29 (bin 29 .gtr (v 28) (k 0)),ha 27 false 30 29,ha 30 true 31 0,ha 30 true 32 3,h 30 true 33 (bin 33 .sub (v 32) (k 1)),h 30 true 34 (idx 34 (v 31) (v 33) 2),h 30 true 35 (fld 35 (v 34) 0),h 30 true 36 (ld 36 (v 35) 1 false),ha 30 true 37 0,ha 30 true 38 3,h 30 true 39 (idx 39 (v 37) (v 38) 2),h 30 true 40 (fld 40 (v 39) 0),h 30 true 41 (ld 41 (v 40) 1 false),h 30 true 42 (bin 42 .geq (v 36) (v 41)),h 27 false 43 (pck 43 (v 30) (v 42) k0),p 44 27 k1 (v 43)]) (F (v 44) (Q (R [e' 2 k0]) .ret) .skip))) (R [a 8 3,g 9 .add (v 8) (k 1),e 3 9])))))) (Q (R [a 45 0,l 46 45,g 47 .leq (v 46) (k 4),e 2 47]) .ret))
def abt:Cmd:=Q (R [e' 4 k0]) (Q (Q (R [e' 5 (k 0)]) (.blk 0 (.loop (Q (Q (R [a 6 5,a 7 0,l 8 7,g 9 .lss (v 6) (v 8)]) (F (v 9) .skip (.exit 0))) (Q (.blk 1 (Q (R [a 12 0,a 13 5,i 14 12 13 1,b' 15 14 1,a 16 1,g 17 .eql (v 15) (v 16)]) (F (v 17) (Q (R [e' 4 k1]) .ret) .skip))) (R [a 10 5,g 11 .add (v 10) (k 1),e 5 11])))))) (Q (R [e' 4 k0]) .ret))
def u9:Cmd:=Q (R [e' 4 (.c (.own 1 []))]) (Q (R [o 7 1 [],e 5 7]) (Q (Q (R [e' 6 (k 0)]) (.blk 0 (.loop (Q (Q (R [a 8 6,a 9 1,g 10 .lss (v 8) (v 9)]) (F (v 10) .skip (.exit 0))) (Q (.blk 1 (R [a 13 5,a 14 0,c 15 155 [v 14],n 16 (conv 16 .u8 (v 15)),o 17 1 [v 16],n 18 (app 18 (v 13) (v 17) 1 1),e 5 18])) (R [a 11 6,g 12 .add (v 11) (k 1),e 6 12])))))) (Q (R [a 19 5,e 4 19]) .ret)))
def xY:Cmd:=Q (R [n 3 (box 3 (v 1)),e' 4 (.c (.own 2 []))]) (Q (D [0,0,3,0,8,31,63] [o 7 2 [],a 8 0,n 9 (app 9 (v 7) (v 8) 2 32),b 10 3 2,o 11 2 [v 10],n 12 (app 12 (v 9) (v 11) 2 32),e 5 12]) (Q (R [a 13 5,l 14 13,g 15 .sub (v 14) (k 1),e 6 15]) (Q (.blk 0 (.loop (Q (Q (D [0,1,3,7,7,23,63,127,255,7,519,2047,4095] [a 16 6,g 17 .gtr (v 16) (k 0),a 18 17,ha 18 true 19 5,ha 18 true 20 6,h 18 true 21 (bin 21 .sub (v 20) (k 1)),h 18 true 22 (idx 22 (v 19) (v 21) 2),h 18 true 23 (fld 23 (v 22) 0),h 18 true 24 (ld 24 (v 23) 1 false),h 18 true 25 (fld 25 (v 3) 0),h 18 true 26 (ld 26 (v 25) 1 false),h 18 true 27 (bin 27 .gtr (v 24) (v 26)),p 28 18 (v 27) k0]) (F (v 28) .skip (.exit 0))) (.blk 1 (Q (R [a 29 5,a 30 6,a 31 5,a 32 6,g 33 .sub (v 32) (k 1),i 34 31 33 2,b 35 34 2,i 36 29 30 2,s 36 35 2]) (R [a 37 6,g 38 .sub (v 37) (k 1),e 6 38])))))) (Q (R [a 39 5,a 40 6,b 41 3 2,i 42 39 40 2,s 42 41 2]) (Q (R [a 43 5,e 4 43]) .ret)))))
def iB:Cmd:=Q (R [e' 4 (k 0)]) (Q (Q (R [a 6 0,l 7 6,n 8 (mov 8 (k 0))]) (.blk 0 (.loop (Q (R [g 9 .lss (v 8) (v 7)]) (Q (F (v 9) .skip (.exit 0)) (Q (.blk 1 (Q (R [a 10 8,e 5 10]) (Q (R [a 11 1,a 12 0,a 13 5,i 14 12 13 1,b' 15 14 1,n 16 (callv (some 16) (v 11) [v 15])]) (F (v 16) (Q (R [a 17 5,e 4 17]) .ret) .skip)))) (R [g 18 .add (v 8) (k 1),a 8 18]))))))) (Q (R [e' 4 (k (-1))]) .ret))
end
theorem hmx:Tryz.prog.follows .mixedOrders=true:=by kernel_rfl
theorem amE:aD Tryz.prog 12=some (6,[.t 2],aim):=by kernel_rfl
theorem adi:aD Tryz.prog 20=some (17,[.t 4],uN):=by kernel_rfl
theorem j4:aD Tryz.prog 22=some (55,[.c 4 2 true,.t 5],iK):=by kernel_rfl
theorem aeL:aD Tryz.prog 23=some (46,[.t 4,.t 5],zZ):=by kernel_rfl
theorem af3:aD Tryz.prog 28=some (47,[.t 2],xH):=by kernel_rfl
theorem eK:aD Tryz.prog 30=some (57,[.c 4 2 true,.t 5],dL):=by kernel_rfl
theorem abu:aD Tryz.prog 33=some (11,[.c 4 2 true,.t 5],sK):=by kernel_rfl
theorem adj:aD Tryz.prog 37=some (11,[.c 4 2 true,.t 5],uO):=by kernel_rfl
theorem fL:aD Tryz.prog 39=some (82,[.c 6 2 true,.t 7],dZ):=by kernel_rfl
theorem gA:aD Tryz.prog 42=some (112,[.c 6 2 true,.t 7],fI):=by kernel_rfl
theorem af4:aD Tryz.prog 46=some (53,[.t 2],xI):=by kernel_rfl
theorem adk:aD Tryz.prog 49=some (56,[.t 2],uP):=by kernel_rfl
theorem vA:aD Tryz.prog 50=some (24,[.t 2],pL):=by kernel_rfl
theorem ain:aD Tryz.prog 56=some (32,[.t 2],abi):=by kernel_rfl
theorem af5:aD Tryz.prog 57=some (20,[.c 4 2 true],xJ):=by kernel_rfl
theorem rR:aD Tryz.prog 58=some (25,[.t 4],oM):=by kernel_rfl
theorem af6:aD Tryz.prog 59=some (18,[.t 2],xK):=by kernel_rfl
theorem adl:aD Tryz.prog 61=some (25,[.c 2 2 true],uQ):=by kernel_rfl
theorem aio:aD Tryz.prog 62=some (25,[.t 4],abj):=by kernel_rfl
theorem rS:aD Tryz.prog 64=some (34,[.c 4 7 true,.t 5],oN):=by kernel_rfl
theorem abv:aD Tryz.prog 67=some (40,[.c 4 2 true],sL):=by kernel_rfl
theorem aac:aD Tryz.prog 68=some (30,[.c 4 6 true,.t 5],tH):=by kernel_rfl
theorem aip:aD Tryz.prog 69=some (21,[.t 4],abk):=by kernel_rfl
theorem vB:aD Tryz.prog 70=some (19,[.c 4 6 true,.t 5],pM):=by kernel_rfl
theorem pP:aD Tryz.prog 72=some (32,[.t 6],iT):=by kernel_rfl
theorem aad:aD Tryz.prog 73=some (45,[.t 4],qG):=by kernel_rfl
theorem nS:aD Tryz.prog 75=some (31,[.t 2,.t 3,.t 4],jF):=by kernel_rfl
theorem af7:aD Tryz.prog 76=some (27,[.c 2 2 true],xL):=by kernel_rfl
theorem rT:aD Tryz.prog 77=some (24,[.c 4 6 true,.t 5],oO):=by kernel_rfl
theorem af8:aD Tryz.prog 78=some (30,[.c 4 2 true],xM):=by kernel_rfl
theorem aae:aD Tryz.prog 79=some (37,[.c 4 2 true],qH):=by kernel_rfl
theorem sN:aD Tryz.prog 80=some (59,[.c 4 2 true],nO):=by kernel_rfl
theorem fS:aD Tryz.prog 81=some (26,[.t 2,.t 3],eJ):=by kernel_rfl
theorem o9:aD Tryz.prog 84=some (8,[.t 2],jN):=by kernel_rfl
theorem aiq:aD Tryz.prog 85=some (63,[.t 2],abl):=by kernel_rfl
theorem adm:aD Tryz.prog 86=some (36,[.t 4],uR):=by kernel_rfl
theorem adn:aD Tryz.prog 87=some (9,[.t 4],uS):=by kernel_rfl
theorem aaf:aD Tryz.prog 88=some (30,[.c 4 6 true,.t 5],tI):=by kernel_rfl
theorem iL:aD Tryz.prog 89=some (65,[.c 6 2 true,.t 7],f9):=by kernel_rfl
theorem abw:aD Tryz.prog 90=some (10,[.t 2],uT):=by kernel_rfl
theorem qN:aD Tryz.prog 91=some (59,[.t 2,.t 3],mE):=by kernel_rfl
theorem gB:aD Tryz.prog 92=some (59,[.c 6 6 true,.t 7,.t 8],fJ):=by kernel_rfl
theorem air:aD Tryz.prog 93=some (44,[.t 4],abm):=by kernel_rfl
theorem akD:aD Tryz.prog 94=some (15,[.t 6],aeJ):=by kernel_rfl
theorem af9:aD Tryz.prog 96=some (9,[.t 4],xN):=by kernel_rfl
theorem aeM:aD Tryz.prog 97=some (20,[.t 4,.t 5],aaa):=by kernel_rfl
theorem qO:aD Tryz.prog 98=some (48,[.t 4],nP):=by kernel_rfl
theorem pQ:aD Tryz.prog 101=some (31,[.t 4],mF):=by kernel_rfl
theorem aga:aD Tryz.prog 102=some (56,[.t 2],xO):=by kernel_rfl
theorem ais:aD Tryz.prog 107=some (68,[.t 2],abn):=by kernel_rfl
theorem ado:aD Tryz.prog 108=some (50,[.t 4],uU):=by kernel_rfl
theorem akE:aD Tryz.prog 109=some (22,[.t 4],aeK):=by kernel_rfl
theorem mT:aD Tryz.prog 110=some (9,[.t 4],g7):=by kernel_rfl
theorem agb:aD Tryz.prog 112=some (59,[.t 4],xP):=by kernel_rfl
theorem agc:aD Tryz.prog 118=some (4,[.c 0 2 true],xQ):=by kernel_rfl
theorem bO:aD Tryz.prog 119=some (104,[.c 4 2 true],bL):=by kernel_rfl
theorem vC:aD Tryz.prog 120=some (11,[.t 2],pN):=by kernel_rfl
theorem agd:aD Tryz.prog 121=some (6,[.t 2],xR):=by kernel_rfl
theorem aag:aD Tryz.prog 122=some (16,[.c 2 6 true],qI):=by kernel_rfl
theorem nT:aD Tryz.prog 123=some (31,[.t 2,.t 3,.t 4],jG):=by kernel_rfl
theorem qP:aD Tryz.prog 125=some (8,[.t 2],mG):=by kernel_rfl
theorem pR:aD Tryz.prog 129=some (19,[.t 4],iU):=by kernel_rfl
theorem rU:aD Tryz.prog 132=some (19,[.t 4],jZ):=by kernel_rfl
theorem wK:aD Tryz.prog 135=some (26,[.t 4],o7):=by kernel_rfl
theorem aah:aD Tryz.prog 136=some (26,[.t 4],qJ):=by kernel_rfl
theorem wL:aD Tryz.prog 137=some (26,[.t 4],o8):=by kernel_rfl
theorem sO:aD Tryz.prog 139=some (33,[.t 2],nQ):=by kernel_rfl
theorem age:aD Tryz.prog 140=some (21,[.c 2 6 true],xS):=by kernel_rfl
theorem ait:aD Tryz.prog 141=some (29,[.t 4],abo):=by kernel_rfl
theorem aiu:aD Tryz.prog 142=some (8,[.t 4],abp):=by kernel_rfl
theorem adp:aD Tryz.prog 143=some (11,[.t 2],uV):=by kernel_rfl
theorem adq:aD Tryz.prog 146=some (94,[.t 2],uW):=by kernel_rfl
theorem aai:aD Tryz.prog 147=some (8,[.t 3],qK):=by kernel_rfl
theorem vD:aD Tryz.prog 148=some (19,[.c 4 6 true,.t 5],pO):=by kernel_rfl
theorem aiv:aD Tryz.prog 149=some (12,[.t 4],abq):=by kernel_rfl
theorem agh:aD Tryz.prog 150=some (46,[.t 2],xT):=by kernel_rfl
theorem aiw:aD Tryz.prog 151=some (27,[.t 4],abr):=by kernel_rfl
theorem agi:aD Tryz.prog 152=some (40,[.t 4,.t 5],xU):=by kernel_rfl
theorem aix:aD Tryz.prog 153=some (12,[.t 4],abs):=by kernel_rfl
theorem xZ:aD Tryz.prog 155=some (58,[.t 2],rQ):=by kernel_rfl
theorem aeN:aD Tryz.prog 158=some (15,[.t 6],aab):=by kernel_rfl
theorem adr:aD Tryz.prog 159=some (59,[.t 2],uY):=by kernel_rfl
theorem aaj:aD Tryz.prog 160=some (19,[.t 4],qL):=by kernel_rfl
theorem abx:aD Tryz.prog 162=some (46,[.t 4],uZ):=by kernel_rfl
theorem gC:aD Tryz.prog 172=some (86,[.c 8 2 true,.t 9],fB):=by kernel_rfl
theorem agj:aD Tryz.prog 173=some (8,[.t 2],xV):=by kernel_rfl
theorem gQ:aD Tryz.prog 174=some (60,[.c 6 2 true,.t 7],fK):=by kernel_rfl
theorem gD:aD Tryz.prog 175=some (96,[.c 8 2 true,.t 9],fC):=by kernel_rfl
theorem ads:aD Tryz.prog 176=some (52,[],u5):=by kernel_rfl
theorem agk:aD Tryz.prog 177=some (47,[.t 2],xW):=by kernel_rfl
theorem pA:aD Tryz.prog 178=some (8,[.t 2],jO):=by kernel_rfl
theorem sP:aD Tryz.prog 179=some (9,[.t 2],nR):=by kernel_rfl
theorem aby:aD Tryz.prog 184=some (66,[.t 8],sM):=by kernel_rfl
theorem fT:aD Tryz.prog 185=some (9,[.t 4],dM):=by kernel_rfl
theorem aak:aD Tryz.prog 186=some (6,[.t 2],qM):=by kernel_rfl
theorem adt:aD Tryz.prog 198=some (42,[.t 2],u6):=by kernel_rfl
theorem agl:aD Tryz.prog 201=some (47,[.t 2],xX):=by kernel_rfl
theorem adu:aD Tryz.prog 202=some (48,[.t 2],u7):=by kernel_rfl
theorem aiy:aD Tryz.prog 212=some (18,[.t 4],abt):=by kernel_rfl
theorem adv:aD Tryz.prog 223=some (20,[.t 4],u9):=by kernel_rfl
theorem agm:aD Tryz.prog 224=some (44,[.t 4],xY):=by kernel_rfl
theorem o3:aD Tryz.prog 231=some (19,[.t 4],iB):=by kernel_rfl
section
open Go.Proofs Go.Shelf
def sY:Go.Shelf.Ren:=⟨fun | 143=>230 | 219=>257 | 217=>263 | 225=>264 | 224=>265 | 267=>266 | 266=>269 | 314=>270 | n=>n,
 fun | 9=>9 | 3=>3 | 4=>4 | 5=>5 | 46=>141 | 146=>245 | 51=>178 | n=>n,
 fun | 1=>0 | n=>n⟩
theorem abz:Lays.n143 Tryz.prog sY where
 mixed:=by kernel_rfl
 f143:=Tryz.func230.trans (congrArg some (by kernel_rfl))
 f217:=Tryz.func263.trans (congrArg some (by kernel_rfl))
 f219:=Tryz.func257.trans (congrArg some (by kernel_rfl))
 f224:=Tryz.func265.trans (congrArg some (by kernel_rfl))
 f225:=Tryz.func264.trans (congrArg some (by kernel_rfl))
 f266:=Tryz.func269.trans (congrArg some (by kernel_rfl))
 f267:=Tryz.func266.trans (congrArg some (by kernel_rfl))
 f314:=Tryz.func270.trans (congrArg some (by kernel_rfl))
 t3:=Tryz.underlying3
 a3:=Tryz.isAgg3
 z3:=Tryz.sizeOf3
 v3:=Tryz.zeroValue3
 t4:=Tryz.underlying4
 a4:=Tryz.isAgg4
 z4:=Tryz.sizeOf4
 v4:=Tryz.zeroValue4
 t5:=Tryz.underlying5
 a5:=Tryz.isAgg5
 z5:=Tryz.sizeOf5
 v5:=Tryz.zeroValue5
 t9:=Tryz.underlying9
 a9:=Tryz.isAgg9
 z9:=Tryz.sizeOf9
 v9:=Tryz.zeroValue9
 t46:=Tryz.underlying141
 a46:=Tryz.isAgg141
 z46:=Tryz.sizeOf141
 v46:=Tryz.zeroValue141
 t51:=Tryz.underlying178
 a51:=Tryz.isAgg178
 z51:=Tryz.sizeOf178
 v51:=Tryz.zeroValue178
 t146:=Tryz.underlying245
 a146:=Tryz.isAgg245
 z146:=Tryz.sizeOf245
 v146:=Tryz.zeroValue245
 g1:=by kernel_rfl
def sZ:Go.Shelf.Ren:=⟨fun | 138=>229 | 195=>254 | 218=>256 | 143=>230 | 219=>257 | 217=>263 | 225=>264 | 224=>265 | 267=>266 | 266=>269 | 314=>270 | n=>n,
 fun | 9=>9 | 3=>3 | 4=>4 | 5=>5 | 0=>0 | 46=>141 | 146=>245 | 51=>178 | n=>n,
 fun | 1=>0 | n=>n⟩
theorem abA:Lays.n138 Tryz.prog sZ where
 mixed:=by kernel_rfl
 f138:=Tryz.func229.trans (congrArg some (by kernel_rfl))
 f143:=Tryz.func230.trans (congrArg some (by kernel_rfl))
 f195:=Tryz.func254.trans (congrArg some (by kernel_rfl))
 f217:=Tryz.func263.trans (congrArg some (by kernel_rfl))
 f218:=Tryz.func256.trans (congrArg some (by kernel_rfl))
 f219:=Tryz.func257.trans (congrArg some (by kernel_rfl))
 f224:=Tryz.func265.trans (congrArg some (by kernel_rfl))
 f225:=Tryz.func264.trans (congrArg some (by kernel_rfl))
 f266:=Tryz.func269.trans (congrArg some (by kernel_rfl))
 f267:=Tryz.func266.trans (congrArg some (by kernel_rfl))
 f314:=Tryz.func270.trans (congrArg some (by kernel_rfl))
 t0:=Tryz.underlying0
 a0:=Tryz.isAgg0
 z0:=Tryz.sizeOf0
 v0:=Tryz.zeroValue0
 t3:=Tryz.underlying3
 a3:=Tryz.isAgg3
 z3:=Tryz.sizeOf3
 v3:=Tryz.zeroValue3
 t4:=Tryz.underlying4
 a4:=Tryz.isAgg4
 z4:=Tryz.sizeOf4
 v4:=Tryz.zeroValue4
 t5:=Tryz.underlying5
 a5:=Tryz.isAgg5
 z5:=Tryz.sizeOf5
 v5:=Tryz.zeroValue5
 t9:=Tryz.underlying9
 a9:=Tryz.isAgg9
 z9:=Tryz.sizeOf9
 v9:=Tryz.zeroValue9
 t46:=Tryz.underlying141
 a46:=Tryz.isAgg141
 z46:=Tryz.sizeOf141
 v46:=Tryz.zeroValue141
 t51:=Tryz.underlying178
 a51:=Tryz.isAgg178
 z51:=Tryz.sizeOf178
 v51:=Tryz.zeroValue178
 t146:=Tryz.underlying245
 a146:=Tryz.isAgg245
 z146:=Tryz.sizeOf245
 v146:=Tryz.zeroValue245
 g1:=by kernel_rfl
def mU:Go.Shelf.Ren:=⟨fun | 156=>225 | 165=>249 | 166=>250 | 169=>251 | 240=>260 | 241=>261 | 276=>267 | 277=>268 | n=>n,
 fun | 31=>37 | 9=>9 | 3=>3 | 4=>4 | 0=>0 | 20=>20 | 72=>220 | 76=>224 | 70=>218 | 37=>22 | 75=>223 | 127=>236 | 164=>238 | 5=>5 | 80=>226 | n=>n,
 fun | n=>n⟩
theorem sQ:Lays.n156 Tryz.prog mU where
 mixed:=by kernel_rfl
 f156:=Tryz.func225.trans (congrArg some (by kernel_rfl))
 f165:=Tryz.func249.trans (congrArg some (by kernel_rfl))
 f166:=Tryz.func250.trans (congrArg some (by kernel_rfl))
 f169:=Tryz.func251.trans (congrArg some (by kernel_rfl))
 f240:=Tryz.func260.trans (congrArg some (by kernel_rfl))
 f241:=Tryz.func261.trans (congrArg some (by kernel_rfl))
 f276:=Tryz.func267.trans (congrArg some (by kernel_rfl))
 f277:=Tryz.func268.trans (congrArg some (by kernel_rfl))
 t0:=Tryz.underlying0
 a0:=Tryz.isAgg0
 z0:=Tryz.sizeOf0
 v0:=Tryz.zeroValue0
 t3:=Tryz.underlying3
 a3:=Tryz.isAgg3
 z3:=Tryz.sizeOf3
 v3:=Tryz.zeroValue3
 t4:=Tryz.underlying4
 a4:=Tryz.isAgg4
 z4:=Tryz.sizeOf4
 v4:=Tryz.zeroValue4
 t9:=Tryz.underlying9
 a9:=Tryz.isAgg9
 z9:=Tryz.sizeOf9
 v9:=Tryz.zeroValue9
 t20:=Tryz.underlying20
 a20:=Tryz.isAgg20
 z20:=Tryz.sizeOf20
 v20:=Tryz.zeroValue20
 t31:=Tryz.underlying37
 a31:=Tryz.isAgg37
 z31:=Tryz.sizeOf37
 v31:=Tryz.zeroValue37
 t37:=Tryz.underlying22
 a37:=Tryz.isAgg22
 z37:=Tryz.sizeOf22
 v37:=Tryz.zeroValue22
 t70:=Tryz.underlying218
 a70:=Tryz.isAgg218
 z70:=Tryz.sizeOf218
 v70:=Tryz.zeroValue218
 t72:=Tryz.underlying220
 a72:=Tryz.isAgg220
 z72:=Tryz.sizeOf220
 v72:=Tryz.zeroValue220
 t75:=Tryz.underlying223
 a75:=Tryz.isAgg223
 z75:=Tryz.sizeOf223
 v75:=Tryz.zeroValue223
 t76:=Tryz.underlying224
 a76:=Tryz.isAgg224
 z76:=Tryz.sizeOf224
 v76:=Tryz.zeroValue224
 t127:=Tryz.underlying236
 a127:=Tryz.isAgg236
 z127:=Tryz.sizeOf236
 v127:=Tryz.zeroValue236
 t164:=Tryz.underlying238
 a164:=Tryz.isAgg238
 z164:=Tryz.sizeOf238
 v164:=Tryz.zeroValue238
end
section
@[congr] theorem bind_congr_l {α β:Type} {a b:Option α} {f:α→Option β} (h:a=b):a.bind f=b.bind f:=by rw [h]
@[congr] theorem map_congr_l {α β:Type} {a b:Option α} {f:α→β} (h:a=b):a.map f=b.map f:=by rw [h]
def amF (E:Env):List Plc→Bool
 | []=>true
 | (_,_,r,p)::l=>isU (cD (E.f r) p) && amF E l
theorem amG (E:Env):∀ l:List Plc,amF E l=l.all (fun q=>isU (cD (E.f q.2.2.1) q.2.2.2)):=by
 intro l
 induction l with
 | nil=>rfl
 | cons q l ih=>obtain ⟨k,j,r,p⟩:=q; simp [amF,ih]
theorem aoJ:∀ (E:Env) (q:Plc) (pls:List Plc) (outs:List AV),m0 E none (q::pls) outs=if amF E (q::pls)=true then nD E outs (q::pls) else none:=by
 intro E q pls outs
 rw [amG]; rfl
theorem SAU:(∀ E:Env,amF E []=true)∧(∀ (E:Env) (k:Nat) (j:Option Nat) (r:Nat) (p:bD) (l:List Plc),amF E ((k,j,r,p)::l)=(isU (cD (E.f r) p) && amF E l)):=⟨fun _=>rfl,fun _ _ _ _ _ _=>rfl⟩
theorem SBK:∀ (E:Env) (outs:List AV),m0 E none [] outs=nD E outs []:=by
 intro E outs
 simp [m0]
theorem SB0:type_of% (And.intro SBK aoJ):=And.intro SBK aoJ
abbrev aA:=List UInt8
theorem aal {α:Type} {f:α→Nat} {l:List α} {x:α} (h:x ∈ l):f x≤(l.map f).sum:=by
 induction l with
 | nil=>simp at h
 | cons y l ih=>
  rcases lF.1 h with rfl | h
  ·simp
  ·have:=ih h; simp; omega
theorem bG {α:Type} {l:List α} {i:Nat} (h:(i:Int)<(l.length:Nat)):l[i]?=some (l[i]'(by omega)):=by simp
theorem aeO {α:Type} (f:α→Nat) (l:List α) (i:Nat) (h:i<l.length):((l.take (i+1)).map f).sum=((l.take i).map f).sum+f l[i]:=by
 rw [lU h,lM2,List.sum_append]
 simp only [lP,lA2,lB2,List.sum_nil,lM3]
theorem adw {α:Type} (f:α→Nat) (l:List α) (i:Nat):((l.take i).map f).sum≤(l.map f).sum:=by
 conv=>rhs; rw [← lH i l,lM2,List.sum_append]
 omega
theorem gR {α:Type} {a b:List α} {i:Nat} (h:a.take i=b.take i) (h1:i<a.length) (h2:i<b.length) (e:a[i]=b[i]):a.take (i+1)=b.take (i+1):=by
 rw [lU h1,lU h2,h,e]
theorem tJ {α:Type} {a b:List α} {i:Nat} (h:a.take i=b.take i) (h1:a.length≤i) (h2:b.length≤i):a=b:=by
 rwa [lD2 h1,lD2 h2] at h
def aly {α β:Type} (f:α→Int→β) (g:α→β) (c:α→Nat):List α→Int→Nat→List β
 | [],_,_=>[]
 | x::l,_,0=>g x::l.map g
 | x::l,k,i+1=>f x k::aly f g c l (k+c x) i
def wM {α β:Type} (f:α→Int→β) (c:α→Nat):List α→Int→List β
 | [],_=>[]
 | x::l,k=>f x k::wM f c l (k+c x)
section
variable {α β γ:Type} (f:α→Int→β) (g:α→β) (c:α→Nat)
theorem aeP:∀ (l:List α) (k:Int) (i:Nat),(aly f g c l k i).length=l.length:=by
 intro l
 induction l with
 | nil=>intro k i; rfl
 | cons x l ih=>intro k i; cases i <;> simp [aly,ih]
theorem akF:∀ (l:List α) (k:Int) (i:Nat),(aly f g c l k i)[i]?=(l[i]?).map g:=by
 intro l
 induction l with
 | nil=>intro k i; simp [aly]
 | cons x l ih=>intro k i; cases i <;> simp [aly,ih]
theorem abB:∀ (l:List α) (k:Int),(wM f c l k).length=l.length:=by
 intro l
 induction l with
 | nil=>intro k; rfl
 | cons x l ih=>intro k; simp [wM,ih]
theorem abC:∀ (l:List α) (k:Int) (i:Nat),(wM f c l k)[i]?=(l[i]?).map fun x=>f x (k+((l.take i).map c).sum):=by
 intro l
 induction l with
 | nil=>intro k i; simp [wM]
 | cons x l ih=>
  intro k i
  cases i with
  | zero=>simp [wM]
  | succ i=>
   simp only [wM,List.getElem?_cons_succ,ih,List.take_succ_cons,lP,lB2]
   congr 1; funext y; congr 1; omega
end
def anZ {α:Type} (f:α→List TV) (z:List TV) (l:List α) (i:Nat):List (List TV):=aly (fun x _=>f x) (fun _=>z) (fun _=>0) l 0 i
theorem aiz {α:Type} (f:α→List TV) (z:List TV) (l:List α) (i:Nat):(anZ f z l i).length=l.length:=aeP ..
def aog {α:Type} (r:α→List TV) (f:α→Int→α) (c:α→Nat) (l:List α) (k:Int) (i:Nat):List (List TV):=aly (fun x k=>r (f x k)) r c l k i
section
variable {α:Type} (r:α→List TV) (f:α→Int→α) (c:α→Nat)
theorem akG (l:List α) (k:Int) (i:Nat):(aog r f c l k i).length=l.length:=aeP ..
theorem akH (l:List α) (k:Int) (i:Nat):(aog r f c l k i)[i]?=(l[i]?).map r:=akF ..
end
def aiA (x:UInt8):List TV:=[.int .u8 x.toNat]
def abD (b:aA) (k:Int):aA:=wM (fun _ k=>UInt8.ofInt k) (fun _=>1) b k
theorem amH {α:Type} (l:List α):(l.map fun _=>1).sum=l.length:=by induction l with | nil=>rfl | cons x l ih=>simp [ih]; omega
theorem agn (b:aA) (k:Int):(abD b k).length=b.length:=abB ..
theorem ago (b:aA) (k:Int) (i:Nat):(abD b k)[i]?=(b[i]?).map fun _=>UInt8.ofInt (k+i):=by
 rw [abD,abC]
 by_cases h:i<b.length
 ·simp only [amH,lR,lL1 (Nat.le_of_lt h)]
 ·rw [lT1 (by omega)]; rfl
theorem SF:(∀ (α:Type) (f:α→List TV) (z:List TV) (l:List α) (i:Nat),(anZ f z l i).length=l.length) ∧
  (∀ (α:Type) (r:α→List TV) (f:α→Int→α) (c:α→Nat) (l:List α) (k:Int) (i:Nat),(aog r f c l k i).length=l.length) ∧
  (∀ (α:Type) (r:α→List TV) (f:α→Int→α) (c:α→Nat) (l:List α) (k:Int) (i:Nat),(aog r f c l k i)[i]?=(l[i]?).map r) ∧
  (∀ (α β:Type) (f:α→Int→β) (c:α→Nat) (l:List α) (k:Int),(wM f c l k).length=l.length) ∧
  (∀ (α β:Type) (f:α→Int→β) (c:α→Nat) (l:List α) (k:Int) (i:Nat),(wM f c l k)[i]?=(l[i]?).map fun x=>f x (k+((l.take i).map c).sum)) ∧
  (∀ (b:aA) (k:Int),(abD b k).length=b.length)∧(∀ (b:aA) (k:Int) (i:Nat),(abD b k)[i]?=(b[i]?).map fun _=>UInt8.ofInt (k+i)) ∧
  (∀ (α:Type) (l:List α) (i:Nat) (f g:α→α),(l.modify i f).modify i g=l.modify i (fun x=>g (f x)))∧(∀ (α:Type) (l:List α) (i:Nat) (f:α→α),(l.modify i f)[i]?=(l[i]?).map f) ∧
  (∀ (α:Type) (l:List α) (i:Nat) (f:α→α),(l.modify i f).length=l.length):=
 ⟨fun _=>aiz,fun _=>akG,fun _=>akH,fun _ _=>abB,fun _ _=>abC,agn,ago,
  fun _ l i f g=>List.modify_modify_eq f g i l,fun _ l i f=>by simp,fun _ l i f=>by simp⟩
theorem vE (b:aA):f5 (aO b)=true:=by
 simp [f5,aO]
 intros; rfl
theorem abE (b:aA):jC (aO b)=true:=by
 simp [jC,aO]
 intros; rfl
theorem adx (b:aA):dN (aO b)=some b:=by
 induction b with
 | nil=>rfl
 | cons x b ih=>
  simp only [aO,lP]
  simp only [aO] at ih
  have h1:tU [.int .u8 x.toNat]=some x:=by
   have:=x.toNat_lt
   simp [tU]
   try omega
  simp [dN,ih,h1]
theorem SK:jC []=true∧(∀ (e:List TV) (l:List (List TV)),jC (e::l)=(e.all fG && jC l))∧(∀ (t:TV) (e:List TV),(t::e).all fG=(fG t && e.all fG))∧([]:List TV).all fG=true ∧
  (∀ b,fG (.bool b)=true)∧(∀ k n,fG (.int k n)=true)∧(∀ s,fG (.str s)=true)∧(∀ s es,fG (.sl s es)=true) ∧
  f5 []=true∧(∀ (e:List TV) (l:List (List TV)),f5 (e::l)=(e.all mX && f5 l))∧(∀ (t:TV) (e:List TV),(t::e).all mX=(mX t && e.all mX))∧([]:List TV).all mX=true ∧
  (∀ b,mX (.bool b)=true)∧(∀ k n,mX (.int k n)=true)∧(∀ s,mX (.str s)=true) ∧
  (∀ b:aA,f5 (aO b)=true)∧(∀ b:aA,jC (aO b)=true)∧(∀ b:aA,dN (aO b)=some b):=
 ⟨rfl,fun _ _=>rfl,fun _ _=>rfl,rfl,fun _=>rfl,fun _ _=>rfl,fun _=>rfl,fun _ _=>rfl,rfl,fun _ _=>rfl,fun _ _=>rfl,rfl,fun _=>rfl,fun _ _=>rfl,fun _=>rfl,vE,abE,adx⟩
theorem SB:min 1 IntKind.i64.bits=1∧min 7 IntKind.i64.bits=7∧min 8 IntKind.i64.bits=8∧min 14 IntKind.i64.bits=14∧min 16 IntKind.i64.bits=16∧min 24 IntKind.i64.bits=24∧min 33 IntKind.i64.bits=33∧min 47 IntKind.i64.bits=47∧min 1 IntKind.u32.bits=1∧min 8 IntKind.u32.bits=8∧min 16 IntKind.u32.bits=16∧min 24 IntKind.u32.bits=24:=by decide
def szM {α:Type} (c:α→Nat) (l:List α):Nat:=l.length+(l.map c).sum
structure Ent where
 name:aA
 ino:Int
 deriving DecidableEq,Inhabited
def Ent.row (a:Ent):List TV:=[.str a.name,.int .i64 a.ino]
def Ent.x (a:Ent):AV:=.agg [.str a.name,.int .i64 a.ino]
def Ent.o (a:Ent):AV:=.agg [.str a.name,.int .i64 a.ino]
def Ent.sz (a:Ent):Nat:=a.name.length
def Ent.zero:List TV:=[.str [],.int .i64 0]
theorem Ent.eq' {a b:Ent} (h0:a.name=b.name) (h1:a.ino=b.ino):a=b:=by cases a; cases b; simp_all
structure Attr where
 name:aA
 val:aA
 deriving DecidableEq,Inhabited
def Attr.row (a:Attr):List TV:=[.str a.name,.str a.val]
def Attr.x (a:Attr):AV:=.agg [.str a.name,.str a.val]
def Attr.o (a:Attr):AV:=.agg [.str a.name,.str a.val]
def Attr.sz (a:Attr):Nat:=a.name.length+a.val.length
def Attr.zero:List TV:=[.str [],.str []]
theorem Attr.eq' {a b:Attr} (h0:a.name=b.name) (h1:a.val=b.val):a=b:=by cases a; cases b; simp_all
structure Inode where
 ino:Int
 kind:Int
 links:Int
 data:aA
 ents:List Ent
 attrs:List Attr
 deriving DecidableEq,Inhabited
def Inode.row (a:Inode):List TV:=[.int .i64 a.ino,.int .i64 a.kind,.int .i64 a.links,.sl 1 (aO a.data),.sl 2 (a.ents.map Ent.row),.sl 2 (a.attrs.map Attr.row)]
def Inode.x (a:Inode):AV:=.agg [.int .i64 a.ino,.int .i64 a.kind,.int .i64 a.links,.ext 1 (aO a.data),.ext 2 (a.ents.map Ent.row),.ext 2 (a.attrs.map Attr.row)]
def Inode.o (a:Inode):AV:=.agg [.int .i64 a.ino,.int .i64 a.kind,.int .i64 a.links,.own 1 (aO a.data),.own 2 (a.ents.map Ent.row),.own 2 (a.attrs.map Attr.row)]
def Inode.sz (a:Inode):Nat:=a.data.length+szM Ent.sz a.ents+szM Attr.sz a.attrs
def Inode.zero:List TV:=[.int .i64 0,.int .i64 0,.int .i64 0,.sl 1 [],.sl 2 [],.sl 2 []]
theorem Inode.eq' {a b:Inode} (h0:a.ino=b.ino) (h1:a.kind=b.kind) (h2:a.links=b.links) (h3:a.data=b.data) (h4:a.ents=b.ents) (h5:a.attrs=b.attrs):a=b:=by cases a; cases b; simp_all
structure Tab where
 inodes:List Inode
 next:Int
 deriving DecidableEq,Inhabited
def Tab.row (a:Tab):List TV:=[.sl 6 (a.inodes.map Inode.row),.int .i64 a.next]
def Tab.x (a:Tab):AV:=.agg [.ext 6 (a.inodes.map Inode.row),.int .i64 a.next]
def Tab.o (a:Tab):AV:=.agg [.own 6 (a.inodes.map Inode.row),.int .i64 a.next]
def Tab.sz (a:Tab):Nat:=szM Inode.sz a.inodes
def Tab.zero:List TV:=[.sl 6 [],.int .i64 0]
theorem Tab.eq' {a b:Tab} (h0:a.inodes=b.inodes) (h1:a.next=b.next):a=b:=by cases a; cases b; simp_all
structure Vol where
 id:Int
 name:aA
 ro:Bool
 limit:Int
 t:Tab
 deriving DecidableEq,Inhabited
def Vol.row (a:Vol):List TV:=[.int .i64 a.id,.str a.name,.bool a.ro,.int .i64 a.limit,.sl 6 (a.t.inodes.map Inode.row),.int .i64 a.t.next]
def Vol.x (a:Vol):AV:=.agg [.int .i64 a.id,.str a.name,.bool a.ro,.int .i64 a.limit,.ext 6 (a.t.inodes.map Inode.row),.int .i64 a.t.next]
def Vol.o (a:Vol):AV:=.agg [.int .i64 a.id,.str a.name,.bool a.ro,.int .i64 a.limit,.own 6 (a.t.inodes.map Inode.row),.int .i64 a.t.next]
def Vol.sz (a:Vol):Nat:=a.name.length+a.t.sz
def Vol.zero:List TV:=[.int .i64 0,.str [],.bool false,.int .i64 0,.sl 6 [],.int .i64 0]
theorem Vol.eq' {a b:Vol} (h0:a.id=b.id) (h1:a.name=b.name) (h2:a.ro=b.ro) (h3:a.limit=b.limit) (h4:a.t=b.t):a=b:=by cases a; cases b; simp_all
structure Fs where
 vols:List Vol
 next:Int
 deriving DecidableEq,Inhabited
def Fs.row (a:Fs):List TV:=[.sl 6 (a.vols.map Vol.row),.int .i64 a.next]
def Fs.x (a:Fs):AV:=.agg [.ext 6 (a.vols.map Vol.row),.int .i64 a.next]
def Fs.o (a:Fs):AV:=.agg [.own 6 (a.vols.map Vol.row),.int .i64 a.next]
def Fs.sz (a:Fs):Nat:=szM Vol.sz a.vols
def Fs.zero:List TV:=[.sl 6 [],.int .i64 0]
theorem Fs.eq' {a b:Fs} (h0:a.vols=b.vols) (h1:a.next=b.next):a=b:=by cases a; cases b; simp_all
structure Op where
 kind:Int
 vol:Int
 path:aA
 to':aA
 off:Int
 data:aA
 deriving DecidableEq,Inhabited
def Op.row (a:Op):List TV:=[.int .i64 a.kind,.int .i64 a.vol,.str a.path,.str a.to',.int .i64 a.off,.sl 1 (aO a.data)]
def Op.x (a:Op):AV:=.agg [.int .i64 a.kind,.int .i64 a.vol,.str a.path,.str a.to',.int .i64 a.off,.ext 1 (aO a.data)]
def Op.o (a:Op):AV:=.agg [.int .i64 a.kind,.int .i64 a.vol,.str a.path,.str a.to',.int .i64 a.off,.own 1 (aO a.data)]
def Op.sz (a:Op):Nat:=a.path.length+a.to'.length+a.data.length
def Op.zero:List TV:=[.int .i64 0,.int .i64 0,.str [],.str [],.int .i64 0,.sl 1 []]
theorem Op.eq' {a b:Op} (h0:a.kind=b.kind) (h1:a.vol=b.vol) (h2:a.path=b.path) (h3:a.to'=b.to') (h4:a.off=b.off) (h5:a.data=b.data):a=b:=by cases a; cases b; simp_all
theorem ST :
  (∀ a:Ent,a.row=[.str a.name,.int .i64 a.ino]) ∧
  (∀ a:Ent,a.x=.agg [.str a.name,.int .i64 a.ino]) ∧
  (∀ a:Ent,a.o=.agg [.str a.name,.int .i64 a.ino]) ∧
  (∀ a:Attr,a.row=[.str a.name,.str a.val]) ∧
  (∀ a:Attr,a.x=.agg [.str a.name,.str a.val]) ∧
  (∀ a:Attr,a.o=.agg [.str a.name,.str a.val]) ∧
  (∀ a:Inode,a.row=[.int .i64 a.ino,.int .i64 a.kind,.int .i64 a.links,.sl 1 (aO a.data),.sl 2 (a.ents.map Ent.row),.sl 2 (a.attrs.map Attr.row)]) ∧
  (∀ a:Inode,a.x=.agg [.int .i64 a.ino,.int .i64 a.kind,.int .i64 a.links,.ext 1 (aO a.data),.ext 2 (a.ents.map Ent.row),.ext 2 (a.attrs.map Attr.row)]) ∧
  (∀ a:Inode,a.o=.agg [.int .i64 a.ino,.int .i64 a.kind,.int .i64 a.links,.own 1 (aO a.data),.own 2 (a.ents.map Ent.row),.own 2 (a.attrs.map Attr.row)]) ∧
  (∀ a:Tab,a.row=[.sl 6 (a.inodes.map Inode.row),.int .i64 a.next]) ∧
  (∀ a:Tab,a.x=.agg [.ext 6 (a.inodes.map Inode.row),.int .i64 a.next]) ∧
  (∀ a:Tab,a.o=.agg [.own 6 (a.inodes.map Inode.row),.int .i64 a.next]) ∧
  (∀ a:Vol,a.row=[.int .i64 a.id,.str a.name,.bool a.ro,.int .i64 a.limit,.sl 6 (a.t.inodes.map Inode.row),.int .i64 a.t.next]) ∧
  (∀ a:Vol,a.x=.agg [.int .i64 a.id,.str a.name,.bool a.ro,.int .i64 a.limit,.ext 6 (a.t.inodes.map Inode.row),.int .i64 a.t.next]) ∧
  (∀ a:Vol,a.o=.agg [.int .i64 a.id,.str a.name,.bool a.ro,.int .i64 a.limit,.own 6 (a.t.inodes.map Inode.row),.int .i64 a.t.next]) ∧
  (∀ a:Fs,a.row=[.sl 6 (a.vols.map Vol.row),.int .i64 a.next]) ∧
  (∀ a:Fs,a.x=.agg [.ext 6 (a.vols.map Vol.row),.int .i64 a.next]) ∧
  (∀ a:Fs,a.o=.agg [.own 6 (a.vols.map Vol.row),.int .i64 a.next]) ∧
  (∀ a:Op,a.row=[.int .i64 a.kind,.int .i64 a.vol,.str a.path,.str a.to',.int .i64 a.off,.sl 1 (aO a.data)]) ∧
  (∀ a:Op,a.x=.agg [.int .i64 a.kind,.int .i64 a.vol,.str a.path,.str a.to',.int .i64 a.off,.ext 1 (aO a.data)]) ∧
  (∀ a:Op,a.o=.agg [.int .i64 a.kind,.int .i64 a.vol,.str a.path,.str a.to',.int .i64 a.off,.own 1 (aO a.data)]) ∧
  (∀ (α β:Type) (f:α→β) (l:List α),(l.map f).length=l.length)∧(∀ (α β:Type) (f:α→β) (l:List α) (i:Nat),(l.map f)[i]?=(l[i]?).map f):=by
 refine ⟨?_,?_,?_,?_,?_,?_,?_,?_,?_,?_,?_,?_,?_,?_,?_,?_,?_,?_,?_,?_,?_,?_,?_⟩ <;> intros <;> first | rfl | simp
theorem SX:type_of% (And.intro SAU <| And.intro SU <| And.intro SGs <| And.intro SD <| And.intro S1 <| And.intro S2 <| And.intro S3 <| And.intro SE <| And.intro SC <| And.intro SO <| And.intro ST <| And.intro SF <| And.intro SK <| And.intro @jY <| And.intro @uJ <| And.intro @Bool.beq_eq_decide_eq.{0} <| And.intro @Int.natCast_zero <| And.intro @Int.add_zero <| And.intro @ge_iff_le.{0} <| And.intro @gt_iff_lt.{0} <| And.intro @Option.isNone_none.{0} <| And.intro @Option.isNone_some.{0} <| And.intro @List.nil_append.{0} <| And.intro @List.append_nil.{0} <| And.intro @Bool.and_true <| And.intro @Bool.and_self <| SB):=And.intro SAU <| And.intro SU <| And.intro SGs <| And.intro SD <| And.intro S1 <| And.intro S2 <| And.intro S3 <| And.intro SE <| And.intro SC <| And.intro SO <| And.intro ST <| And.intro SF <| And.intro SK <| And.intro @jY <| And.intro @uJ <| And.intro @Bool.beq_eq_decide_eq.{0} <| And.intro @Int.natCast_zero <| And.intro @Int.add_zero <| And.intro @ge_iff_le.{0} <| And.intro @gt_iff_lt.{0} <| And.intro @Option.isNone_none.{0} <| And.intro @Option.isNone_some.{0} <| And.intro @List.nil_append.{0} <| And.intro @List.append_nil.{0} <| And.intro @Bool.and_true <| And.intro @Bool.and_self <| SB
end
section
theorem qQ {l m:List Int} (h:l.Nodup) (hs:∀ x ∈ l,x ∈ m):l.length≤m.length:=by
 induction l generalizing m with
 | nil=>simp
 | cons x l ih=>
  obtain ⟨hx,hl⟩:=lU4.1 h
  have hm:=hs x (by simp)
  have:=ih (m:=m.erase x) hl fun y hy=>(List.mem_erase_of_ne (by rintro rfl; exact hx hy)).2 (hs y (by simp [hy]))
  rw [List.length_erase_of_mem hm] at this
  have:0<m.length:=List.length_pos_of_mem hm
  simp only [lV]; omega
abbrev Up (l:List Int):Prop:=l.Pairwise (·<·)
theorem qR {l:List Int} (h:Up l):l.Nodup:=h.imp fun h=>by omega
theorem alz {l m:List Int} (hl:Up l) (hm:Up m) (h:∀ x,x ∈ l↔x ∈ m):l=m:=by
 induction l generalizing m with
 | nil=>
  cases m with
  | nil=>rfl
  | cons y m=>exact absurd ((h y).2 (by simp)) (by simp)
 | cons x l ih=>
  cases m with
  | nil=>exact absurd ((h x).1 (by simp)) (by simp)
  | cons y m=>
   obtain ⟨a1,a2⟩:=lA1.1 hl
   obtain ⟨b1,b2⟩:=lA1.1 hm
   have e:x=y:=by
    have h1:=(h x).1 (by simp)
    have h2:=(h y).2 (by simp)
    simp only [lF] at h1 h2
    rcases h1 with h1 | h1
    ·exact h1
    rcases h2 with h2 | h2
    ·exact h2.symm
    have:=a1 y h2; have:=b1 x h1; omega
   subst e
   congr 1
   refine ih a2 b2 fun z=>⟨fun hz=>?_,fun hz=>?_⟩
   ·have:=(h z).1 (by simp [hz])
    simp only [lF] at this
    rcases this with rfl | this
    ·exact absurd (a1 _ hz) (by omega)
    ·exact this
   ·have:=(h z).2 (by simp [hz])
    simp only [lF] at this
    rcases this with rfl | this
    ·exact absurd (b1 _ hz) (by omega)
    ·exact this
def aiB (l:List Int) (n:Int):List Int:=if n ∈ l then l else l.takeWhile (·<n)++n::l.dropWhile (·<n)
theorem akI (l:List Int) (n x:Int):x ∈ aiB l n↔x=n∨x ∈ l:=by
 unfold aiB
 split
 ·rename_i h
  constructor
  ·exact .inr
  ·rintro (rfl | h')
   ·exact h
   ·exact h'
 ·have e:x ∈ l↔x ∈ l.takeWhile (·<n)∨x ∈ l.dropWhile (·<n):=by
   rw [← lI,List.takeWhile_append_dropWhile]
  rw [e]
  simp only [lI,lF]
  constructor
  ·rintro (h | h | h)
   ·exact .inr (.inl h)
   ·exact .inl h
   ·exact .inr (.inr h)
  ·rintro (h | h | h)
   ·exact .inr (.inl h)
   ·exact .inl h
   ·exact .inr (.inr h)
theorem amI {l:List Int} (h:Up l) (n:Int):Up (aiB l n):=by
 unfold aiB
 split
 ·exact h
 ·rename_i hn
  induction l with
  | nil=>simp [Up]
  | cons x l ih=>
   obtain ⟨a1,a2⟩:=lA1.1 h
   have hnx:n≠x:=fun e=>hn (by simp [e])
   have ih:=ih a2 fun h=>hn (by simp [h])
   by_cases hx:x<n
   ·rw [List.takeWhile_cons_of_pos (by simpa using hx),List.dropWhile_cons_of_pos (by simpa using hx)]
    refine lA1.2 ⟨fun y hy=>?_,ih⟩
    have hy:y ∈ l.takeWhile (·<n)++n::l.dropWhile (·<n):=hy
    rw [lI,lF] at hy
    rcases hy with hy | rfl | hy
    ·exact a1 y (List.takeWhile_sublist _ |>.subset hy)
    ·exact hx
    ·exact a1 y (List.dropWhile_sublist _ |>.subset hy)
   ·rw [List.takeWhile_cons_of_neg (by simpa using hx),List.dropWhile_cons_of_neg (by simpa using hx)]
    refine lA1.2 ⟨fun y hy=>?_,h⟩
    simp only [lF] at hy
    rcases hy with rfl | hy
    ·omega
    ·have:=a1 y hy; omega
section
variable (nb:Int→Option (List Int))
inductive Reach:Int→Prop where
 | root (h:(nb 1).isSome=true):Reach 1
 | step (i j:Int) (l:List Int) (hi:Reach i) (hl:nb i=some l) (hj:j ∈ l) (hs:(nb j).isSome=true):Reach j
def aeQ (out:List Int) (j:Int):List Int:=if (nb j).isSome then aiB out j else out
def aeR (out:List Int) (i:Int):List Int:=((nb i).getD []).foldl (aeQ nb) out
def aiC (l:List Int):List Int:=l.foldl (aeR nb) l
def cL:Nat→List Int
 | 0=>[1]
 | k+1=>aiC nb (cL k)
def qS (n:Nat):List Int:=if (nb 1).isSome then cL nb n else []
theorem abF (js:List Int):∀ (out:List Int) (x:Int),x ∈ js.foldl (aeQ nb) out↔x ∈ out∨(x ∈ js∧(nb x).isSome=true):=by
 induction js with
 | nil=>intro out x; simp
 | cons j js ih=>
  intro out x
  rw [lR2,ih]
  unfold aeQ
  split
  ·rename_i hj
   rw [akI,lF]
   constructor
   ·rintro ((rfl | h) | h)
    ·exact .inr ⟨.inl rfl,hj⟩
    ·exact .inl h
    ·exact .inr ⟨.inr h.1,h.2⟩
   ·rintro (h | ⟨rfl | h,hs⟩)
    ·exact .inl (.inr h)
    ·exact .inl (.inl rfl)
    ·exact .inr ⟨h,hs⟩
  ·rename_i hj
   rw [lF]
   constructor
   ·rintro (h | h)
    ·exact .inl h
    ·exact .inr ⟨.inr h.1,h.2⟩
   ·rintro (h | ⟨rfl | h,hs⟩)
    ·exact .inl h
    ·exact absurd hs hj
    ·exact .inr ⟨h,hs⟩
theorem aeS (js:List Int):∀ (out:List Int),Up out→Up (js.foldl (aeQ nb) out):=by
 induction js with
 | nil=>intro out h; exact h
 | cons j js ih=>
  intro out h
  rw [lR2]
  refine ih _ ?_
  unfold aeQ
  split
  ·exact amI h j
  ·exact h
theorem abG (l:List Int):∀ (out:List Int) (x:Int),x ∈ l.foldl (aeR nb) out↔x ∈ out∨(∃ i ∈ l,x ∈ (nb i).getD [])∧(nb x).isSome=true:=by
 induction l with
 | nil=>intro out x; simp
 | cons i l ih=>
  intro out x
  rw [lR2,ih]
  unfold aeR
  rw [abF]
  simp only [lF,exists_eq_or_imp]
  constructor
  ·rintro ((h | h) | h)
   ·exact .inl h
   ·exact .inr ⟨.inl h.1,h.2⟩
   ·exact .inr ⟨.inr h.1,h.2⟩
  ·rintro (h | ⟨h | h,hs⟩)
   ·exact .inl (.inl h)
   ·exact .inl (.inr ⟨h,hs⟩)
   ·exact .inr ⟨h,hs⟩
theorem aeT (l:List Int):∀ (out:List Int),Up out→Up (l.foldl (aeR nb) out):=by
 induction l with
 | nil=>intro out h; exact h
 | cons i l ih=>intro out h; rw [lR2]; exact ih _ (aeS nb _ _ h)
theorem nU (l:List Int) (x:Int):x ∈ aiC nb l↔x ∈ l∨(∃ i ∈ l,x ∈ (nb i).getD [])∧(nb x).isSome=true:=abG nb l l x
theorem akJ {l:List Int} (h:Up l):Up (aiC nb l):=aeT nb l l h
theorem iM (k:Nat):Up (cL nb k):=by
 induction k with
 | zero=>simp [cL,Up]
 | succ k ih=>exact akJ nb ih
theorem vF (n:Nat):Up (qS nb n):=by
 unfold qS
 split
 ·exact iM nb n
 ·simp [Up]
theorem nV (h1:(nb 1).isSome=true) (k:Nat):∀ x ∈ cL nb k,Reach nb x:=by
 induction k with
 | zero=>intro x hx; simp only [cL,lZ] at hx; subst hx; exact .root h1
 | succ k ih=>
  intro x hx
  rcases (nU nb _ _).1 hx with h | ⟨⟨i,hi,hx⟩,hs⟩
  ·exact ih x h
  ·cases hn:nb i with
   | none=>rw [hn] at hx; exact absurd hx (by simp)
   | some l=>rw [hn] at hx; exact .step i x l (ih i hi) hn hx hs
theorem j5 {x:Int} (h:Reach nb x):(nb x).isSome=true:=by
 cases h with
 | root h=>exact h
 | step _ _ _ _ _ _ h=>exact h
def amJ (l:List Int):Prop:=∀ i ∈ l,∀ x ∈ (nb i).getD [],(nb x).isSome=true→x ∈ l
theorem ady (k:Nat):amJ nb (cL nb k)∨k+1≤(cL nb k).length:=by
 induction k with
 | zero=>exact .inr (by simp [cL])
 | succ k ih=>
  by_cases hs:amJ nb (cL nb k)
  ·left
   have e:cL nb (k+1)=cL nb k:=by
    refine alz (iM nb _) (iM nb _) fun x=>?_
    show x ∈ aiC nb _↔_
    rw [nU]
    exact ⟨fun h=>h.elim id fun ⟨⟨i,hi,hx⟩,hx'⟩=>hs i hi x hx hx',.inl⟩
   rw [e]; exact hs
  ·right
   have ih:=ih.resolve_left hs
   obtain ⟨x,hx1,hx2⟩:∃ x,x ∈ cL nb (k+1)∧x ∉ cL nb k:=by
    apply Classical.byContradiction
    intro hc
    apply hs
    intro i hi x hx hx'
    apply Classical.byContradiction
    intro hn
    exact hc ⟨x,(nU nb _ _).2 (.inr ⟨⟨i,hi,hx⟩,hx'⟩),hn⟩
   have:=qQ (l:=x::cL nb k) (m:=cL nb (k+1)) (lU4.2 ⟨hx2,qR (iM nb k)⟩) (by
    intro y hy
    rcases lF.1 hy with rfl | hy
    ·exact hx1
    ·exact (nU nb _ _).2 (.inl hy))
   simp only [lV] at this
   omega
theorem x6 {n:Nat} (hn:∀ l:List Int,l.Nodup→(∀ x ∈ l,(nb x).isSome=true)→l.length≤n) (x:Int):x ∈ qS nb n↔Reach nb x:=by
 by_cases h1:(nb 1).isSome=true
 ·rw [qS,lG h1]
  refine ⟨nV nb h1 n x,fun h=>?_⟩
  have hl:=hn _ (qR (iM nb n)) fun y hy=>j5 nb (nV nb h1 n y hy)
  have hs:amJ nb (cL nb n):=(ady nb n).resolve_right (by omega)
  have hroot:∀ k,1 ∈ cL nb k:=by
   intro k
   induction k with
   | zero=>simp [cL]
   | succ k ih=>exact (nU nb _ _).2 (.inl ih)
  induction h with
  | root _=>exact hroot n
  | step i j l hi hl hj hs' ih=>exact hs i ih j (by rw [hl]; exact hj) hs'
 ·rw [qS,lJ h1]
  refine ⟨fun h=>absurd h (by simp),fun h=>?_⟩
  exfalso
  apply h1
  clear hn
  induction h with
  | root h=>exact h
  | step _ _ _ _ _ _ _ ih=>exact ih
structure Que (out next:List Int):Prop where
 nodup:out.Nodup
 reach:∀ x ∈ out,Reach nb x
 from':∀ x ∈ next,(nb x).isSome=true→Reach nb x
 shut:∀ i ∈ out,∀ x ∈ (nb i).getD [],(nb x).isSome=true→x ∈ out∨x ∈ next
 root:(nb 1).isSome=true→1 ∈ out∨1 ∈ next
theorem akK:Que nb [] [1]:=⟨by simp,by simp,fun x hx h=>by simp only [lZ] at hx; subst hx; exact .root h,by simp,fun _=>.inr (by simp)⟩
theorem aeU {out next:List Int} {i:Int} (q:Que nb out (i::next)) (h:nb i=none∨i ∈ out):Que nb out next:=by
 refine ⟨q.nodup,q.reach,fun x hx=>q.from' x (by simp [hx]),fun k hk x hx hs=>?_,fun h1=>?_⟩
 ·rcases q.shut k hk x hx hs with h' | h'
  ·exact .inl h'
  ·rcases lF.1 h' with rfl | h'
   ·rcases h with h | h
    ·rw [h] at hs; exact absurd hs (by simp)
    ·exact .inl h
   ·exact .inr h'
 ·rcases q.root h1 with h' | h'
  ·exact .inl h'
  ·rcases lF.1 h' with rfl | h'
   ·rcases h with h | h
    ·rw [h] at h1; exact absurd h1 (by simp)
    ·exact .inl h
   ·exact .inr h'
theorem aeV {out next l:List Int} {i:Int} (q:Que nb out (i::next)) (h:nb i=some l) (hn:i ∉ out):Que nb (out++[i]) (next++l):=by
 have hr:Reach nb i:=q.from' i (by simp) (by rw [h]; rfl)
 refine ⟨?_,fun x hx=>?_,fun x hx hs=>?_,fun k hk x hx hs=>?_,fun h1=>?_⟩
 ·rw [List.nodup_append]
  refine ⟨q.nodup,by simp,fun a ha b hb=>?_⟩
  rw [lZ.1 hb]
  rintro rfl
  exact hn ha
 ·rcases lI.1 hx with hx | hx
  ·exact q.reach x hx
  ·rw [lZ.1 hx]; exact hr
 ·rcases lI.1 hx with hx | hx
  ·exact q.from' x (by simp [hx]) hs
  ·exact .step i x l hr h hx hs
 ·rcases lI.1 hk with hk | hk
  ·rcases q.shut k hk x hx hs with h' | h'
   ·exact .inl (by simp [h'])
   ·rcases lF.1 h' with rfl | h'
    ·exact .inl (by simp)
    ·exact .inr (by simp [h'])
  ·rw [lZ.1 hk,h] at hx
   exact .inr (by simpa using .inr hx)
 ·rcases q.root h1 with h' | h'
  ·exact .inl (by simp [h'])
  ·rcases lF.1 h' with rfl | h'
   ·exact .inl (by simp)
   ·exact .inr (by simp [h'])
theorem amK {out:List Int} (q:Que nb out []) (x:Int):x ∈ out↔Reach nb x:=by
 refine ⟨q.reach x,fun h=>?_⟩
 induction h with
 | root h=>exact (q.root h).resolve_right (by simp)
 | step i j l hi hl hj hs ih=>exact (q.shut i ih j (by rw [hl]; exact hj) hs).resolve_right (by simp)
theorem agp {n:Nat} (hn:∀ l:List Int,l.Nodup→(∀ x ∈ l,(nb x).isSome=true)→l.length≤n) {out:List Int} (q:Que nb out []) :
  out.mergeSort (fun x y=>decide (x≤y))=qS nb n:=by
 refine alz ?_ (vF nb n) fun x=>?_
 ·have h1:=List.pairwise_mergeSort (le:=fun x y:Int=>decide (x≤y)) (by intro a b c; simp; omega) (by intro a b; simp; omega) out
  have h2:(out.mergeSort (fun x y=>decide (x≤y))).Nodup:=(List.mergeSort_perm out _).nodup_iff.2 q.nodup
  have:Up (out.mergeSort (fun x y=>decide (x≤y))):=(h1.and h2).imp fun ⟨a,b⟩=>by simp at a; omega
  exact this
 ·rw [(List.mergeSort_perm out _).mem_iff,amK nb q,x6 nb hn]
theorem amL {n:Nat} (hn:∀ l:List Int,l.Nodup→(∀ x ∈ l,(nb x).isSome=true)→l.length≤n) {out next:List Int} (q:Que nb out next):out.length≤n:=
 hn out q.nodup fun x hx=>j5 nb (q.reach x hx)
end
end
def okc (c:UInt8):Bool:=(decide (97≤c) && decide (c≤122)) || (decide (48≤c) && decide (c≤57)) || decide (c=95) || decide (c=45) || decide (c=46)
def aZ (s:aA):Bool:=s.all okc && decide (1≤s.length) && decide (s.length≤14) && decide (s≠[46]) && decide (s≠[46,46])
def bH:aA→List aA
 | []=>[[]]
 | c::s=>if c=47 then []::bH s else match bH s with
  | []=>[[c]]
  | h::t=>(c::h)::t
def bX (l:List aA):Bool:=decide (l.length≤30) && l.all aZ
def wN:List aA→Option (List aA)
 | []::n::l=>some (n::l)
 | _=>none
def aB (s:aA):List aA × Bool:=if s=[47] then ([],true) else match wN (bH s) with
 | some l=>if bX l=true then (l,true) else ([],false)
 | none=>([],false)
def dS (l:List aA):aA:=l.flatMap fun n=>47::n
def b8 (l:List aA):aA:=if bX l=true then (if l=[] then [47] else dS l) else []
def aJ (s:aA):aA × aA × Bool:=if (aB s).2=true∧(aB s).1≠[] then (b8 (aB s).1.dropLast,(aB s).1.getLastD [],true) else ([],[],false)
def aam (a b:aA):Bool:=(aB a).2 && ((aB b).2 && (aB a).1.isPrefixOf (aB b).1)
theorem qT (s:aA):bH s≠[]:=by
 cases s with
 | nil=>simp [bH]
 | cons c s=>
  rw [bH]
  split
  ·simp
  ·split <;> simp
theorem mH (c:UInt8) (s:aA) (h:c≠47):∃ a t,bH s=a::t∧bH (c::s)=(c::a)::t:=by
 cases e:bH s with
 | nil=>exact absurd e (qT s)
 | cons a t=>exact ⟨a,t,rfl,by rw [bH,lJ h,e]⟩
theorem vG (n s:aA) (h:∀ c ∈ n,c≠47):bH (n++47::s)=n::bH s:=by
 induction n with
 | nil=>rw [lF1,bH,lG rfl]
 | cons c n ih=>
  have ih:=ih fun x hx=>h x (by simp [hx])
  rw [lS1,bH,lJ (h c (by simp)),ih]
theorem vH (n:aA) (h:∀ c ∈ n,c≠47):bH n=[n]:=by
 induction n with
 | nil=>rfl
 | cons c n ih=>
  have ih:=ih fun x hx=>h x (by simp [hx])
  rw [bH,lJ (h c (by simp)),ih]
theorem adz (l:List aA) (h:∀ n ∈ l,∀ c ∈ n,c≠47) (s:aA) (hs:∀ c ∈ s,c≠47):bH (s++dS l)=s::l:=by
 induction l generalizing s with
 | nil=>rw [dS]; simpa using vH s hs
 | cons n l ih=>
  have ih:=ih (fun m hm=>h m (by simp [hm])) n (h n (by simp))
  have e:s++dS (n::l)=s++47::(n++dS l):=by simp [dS]
  rw [e,vG s _ hs,ih]
theorem adA (s:aA):∀ a t,bH s=a::t→s=a++dS t∧(∀ n ∈ a::t,∀ c ∈ n,c≠47):=by
 induction s with
 | nil=>
  intro a t h
  rw [bH] at h
  injection h with h1 h2
  subst h1; subst h2
  simp [dS]
 | cons c s ih=>
  intro a t h
  by_cases hc:c=47
  ·rw [bH,lG hc] at h
   injection h with h1 h2
   subst h1
   cases e:bH s with
   | nil=>exact absurd e (qT s)
   | cons b u=>
    rw [e] at h2
    subst h2
    obtain ⟨i1,i2⟩:=ih b u e
    refine ⟨?_,fun n hn=>?_⟩
    ·rw [i1,hc]; simp [dS]
    ·rcases lF.1 hn with rfl | hn
     ·simp
     ·exact i2 n hn
  ·obtain ⟨b,u,e1,e2⟩:=mH c s hc
   rw [e2] at h
   injection h with h1 h2
   subst h1; subst h2
   obtain ⟨i1,i2⟩:=ih b u e1
   refine ⟨by rw [i1]; rfl,fun n hn x hx=>?_⟩
   rcases lF.1 hn with rfl | hn
   ·rcases lF.1 hx with rfl | hx
    ·exact hc
    ·exact i2 b (by simp) x hx
   ·exact i2 n (by simp [hn]) x hx
theorem agq {n:aA} (h:aZ n=true):∀ c ∈ n,c≠47:=by
 intro c hc
 simp only [aZ,lM] at h
 have:=lW.1 h.1.1.1.1 c hc
 rintro rfl
 exact absurd this (by decide)
theorem mI {n:aA} (h:aZ n=true):1≤n.length∧n.length≤14:=by
 simp only [aZ,lM,decide_eq_true_eq] at h
 exact ⟨h.1.1.1.2,h.1.1.2⟩
theorem j6 {l:List aA} (h:bX l=true):l.length≤30∧∀ n ∈ l,aZ n=true:=by
 simp only [bX,lM,decide_eq_true_eq,lW] at h
 exact h
theorem oP {l:List aA} (h1:l.length≤30) (h2:∀ n ∈ l,aZ n=true):bX l=true:=by
 simp only [bX,lM,decide_eq_true_eq,lW]
 exact ⟨h1,h2⟩
theorem adB {l:List aA} (h:bX l=true) (hne:l≠[]):aB (dS l)=(l,true):=by
 obtain ⟨h1,h2⟩:=j6 h
 have e:=adz l (fun n hn=>agq (h2 n hn)) [] (by simp)
 rw [lF1] at e
 cases l with
 | nil=>exact absurd rfl hne
 | cons n l=>
  have hn:=mI (h2 n (by simp))
  have hs:dS (n::l)≠[47]:=by
   intro hc
   have h3:(dS (n::l)).length=1:=by rw [hc]; rfl
   have h4:dS (n::l)=47::(n++dS l):=by simp [dS]
   rw [h4] at h3
   simp only [lV,lT] at h3
   omega
  rw [aB,lJ hs,e]
  simp only [wN,h,lG]
theorem adC {l:List aA} (h:bX l=true):aB (b8 l)=(l,true):=by
 rw [b8,lG h]
 split
 ·rename_i e; subst e; rw [aB,lG rfl]
 ·rename_i e; exact adB h e
theorem oQ {s:aA} (h:(aB s).2=true):bX (aB s).1=true∧b8 (aB s).1=s:=by
 unfold aB at h ⊢
 split
 ·rename_i e; subst e; exact ⟨by decide,by decide⟩
 ·rename_i hs
  rw [lJ hs] at h
  cases e:wN (bH s) with
  | none=>rw [e] at h; exact absurd h (by simp)
  | some l=>
   rw [e] at h
   simp only at h ⊢
   by_cases hn:bX l=true
   ·rw [lG hn]
    refine ⟨hn,?_⟩
    show b8 l=s
    cases e2:bH s with
    | nil=>rw [e2] at e; exact absurd e (by simp [wN])
    | cons a t=>
     obtain ⟨i1,_⟩:=adA s a t e2
     rw [e2] at e
     cases a with
     | cons c a=>exact absurd e (by simp [wN])
     | nil=>
      cases t with
      | nil=>exact absurd e (by simp [wN])
      | cons m t=>
       simp only [wN,Option.some.injEq] at e
       subst e
       rw [b8,lG hn,lJ (by simp),i1,lF1]
   ·rw [lJ hn] at h; exact absurd h (by simp)
theorem aeW {s:aA} (h:(aB s).2=false):aB s=([],false):=by
 unfold aB at h ⊢
 split
 ·rename_i e; rw [lG e] at h; exact absurd h (by simp)
 ·rename_i hs
  rw [lJ hs] at h
  cases e:wN (bH s) with
  | none=>rfl
  | some l=>
   rw [e] at h
   simp only at h ⊢
   by_cases hn:bX l=true
   ·rw [lG hn] at h; exact absurd h (by simp)
   ·rw [lJ hn]
theorem abH {l:List aA} (h:bX l=true) (n:Nat):bX (l.take n)=true:=by
 obtain ⟨h1,h2⟩:=j6 h
 exact oP (by rw [lR]; omega) fun m hm=>h2 m (List.take_subset _ _ hm)
theorem mV {l:List aA} (h:bX l=true):bX l.dropLast=true:=by
 rw [List.dropLast_eq_take]; exact abH h _
theorem x7 {s:aA} (h:(aB s).2=true):(aB s).1=[]↔s=[47]:=by
 constructor
 ·intro e
  have:=(oQ h).2
  rw [e] at this
  rw [← this]; decide
 ·intro e; rw [e]; decide
theorem abI (s:aA):(aJ s).2.2=true↔(aB s).2=true∧(aB s).1≠[]:=by
 unfold aJ
 split
 ·rename_i h; exact ⟨fun _=>h,fun _=>rfl⟩
 ·rename_i h; exact ⟨fun h'=>absurd h' (by simp),fun h'=>absurd h' h⟩
theorem aiD {s:aA} (h:(aB s).2=true) (hne:(aB s).1≠[]) :
  aJ s=(b8 (aB s).1.dropLast,(aB s).1.getLastD [],true)∧aB (b8 (aB s).1.dropLast)=((aB s).1.dropLast,true):=by
 refine ⟨by rw [aJ,lG ⟨h,hne⟩],adC (mV (oQ h).1)⟩
def bB (x:Inode) (n:aA):Int:=((x.ents.find? fun e=>decide (e.name=n)).map Ent.ino).getD 0
def aC (t:Tab) (i:Int):Option Inode:=t.inodes.find? fun x=>decide (x.ino=i)
def eS (x:Inode):List Int:=if x.kind=2 then x.ents.map Ent.ino else []
def nbT (t:Tab) (i:Int):Option (List Int):=(aC t i).map eS
def eG (t:Tab):List Int:=qS (nbT t) t.inodes.length
def bA (t:Tab) (i:Int):Nat:=(t.inodes.map fun x=>(eS x).count i).sum
def jB (t:Tab):List aA→Int→Int × Int
 | [],i=>(i,0)
 | n::l,i=>match aC t i with
  | none=>(0,2)
  | some x=>if x.kind=2 then (if bB x n=0 then (0,2) else jB t l (bB x n)) else (0,3)
def oR (t:Tab) (s:aA):Int × Int:=if (aB s).2=true then jB t (aB s).1 1 else (0,1)
structure EntsOk (l:List Ent):Prop where
 len:l.length≤10
 ok:∀ e ∈ l,aZ e.name=true∧2≤e.ino∧e.ino≤1000
 up:l.Pairwise fun a b=>a.name<b.name
structure AttrsOk (l:List Attr):Prop where
 len:l.length≤4
 ok:∀ a ∈ l,aZ a.name=true∧1≤a.val.length∧a.val.length≤16
 up:l.Pairwise fun a b=>a.name<b.name
structure InodeOk (x:Inode):Prop where
 ino:1≤x.ino∧x.ino≤1000
 links:0≤x.links∧x.links≤1000
 root:x.links=0↔x.ino=1
 data:x.data.length≤100
 ents:EntsOk x.ents
 attrs:AttrsOk x.attrs
 kind:(x.kind=1∧x.ents=[])∨(x.kind=2∧x.data=[]∧x.links≤1)
structure TabOk (t:Tab):Prop where
 len:t.inodes.length≤30
 next:2≤t.next∧t.next≤1000
 ok:∀ x ∈ t.inodes,InodeOk x∧x.ino<t.next
 up:t.inodes.Pairwise fun a b=>a.ino<b.ino
 root:∃ x,aC t 1=some x∧x.kind=2
structure TreeOk (t:Tab):Prop where
 tab:TabOk t
 reach:(eG t).length=t.inodes.length
 links:∀ x ∈ t.inodes,((bA t x.ino:Nat):Int)=x.links
 there:∀ x ∈ t.inodes,∀ e ∈ x.ents,(aC t e.ino).isSome=true
theorem aM {t:Tab} {i:Int} {x:Inode} (h:aC t i=some x):x ∈ t.inodes∧x.ino=i:=by
 refine ⟨List.mem_of_find?_eq_some h,?_⟩
 have:=List.find?_some h
 simpa using this
theorem abJ {t:Tab} (h:t.inodes.Pairwise fun a b=>a.ino<b.ino) {x:Inode} (hx:x ∈ t.inodes):aC t x.ino=some x:=by
 unfold aC
 generalize t.inodes=l at *
 induction l with
 | nil=>exact absurd hx (by simp)
 | cons y l ih=>
  obtain ⟨a1,a2⟩:=lA1.1 h
  rcases lF.1 hx with rfl | hx
  ·rw [lK1 (by simp)]
  ·rw [lC1 (by have:=a1 x hx; simp; omega)]
   exact ih a2 hx
theorem agr {t:Tab} (h:t.inodes.Pairwise fun a b=>a.ino<b.ino):(t.inodes.map Inode.ino).Nodup:=by
 rw [List.Nodup,List.pairwise_map]
 exact h.imp fun h=>by omega
theorem oS (t:Tab):∀ l:List Int,l.Nodup→(∀ x ∈ l,(nbT t x).isSome=true)→l.length≤t.inodes.length:=by
 intro l hl hs
 have:=qQ (m:=t.inodes.map Inode.ino) hl fun x hx=>by
  have:=hs x hx
  cases e:aC t x with
  | none=>rw [nbT,e] at this; exact absurd this (by simp)
  | some y=>obtain ⟨h1,h2⟩:=aM e; exact lV1.2 ⟨y,h1,h2⟩
 simpa using this
theorem mJ (t:Tab) (i:Int):i ∈ eG t↔Reach (nbT t) i:=x6 _ (oS t) i
theorem ags {l m:List Int} (hl:l.Nodup) (hs:∀ x ∈ l,x ∈ m) (he:m.length≤l.length):∀ x ∈ m,x ∈ l:=by
 intro x hx
 apply Classical.byContradiction
 intro hn
 have:=qQ (l:=x::l) (m:=m) (lU4.2 ⟨hn,hl⟩) fun y hy=>by
  rcases lF.1 hy with rfl | hy
  ·exact hx
  ·exact hs y hy
 simp only [lV] at this
 omega
theorem adD {t:Tab} (h:TreeOk t):∀ x ∈ t.inodes,Reach (nbT t) x.ino:=by
 intro x hx
 rw [← mJ]
 refine ags (m:=t.inodes.map Inode.ino) (qR (vF _ _)) (fun i hi=>?_) (by have:=h.reach; unfold eG at this; rw [this,List.length_map]; exact Nat.le_refl _) _ (List.mem_map.2 ⟨x,hx,rfl⟩)
 have:=j5 _ ((mJ t i).1 hi)
 cases e:aC t i with
 | none=>rw [nbT,e] at this; exact absurd this (by simp)
 | some y=>obtain ⟨h1,h2⟩:=aM e; exact lV1.2 ⟨y,h1,h2⟩
theorem abK {t:Tab} (hu:t.inodes.Pairwise fun a b=>a.ino<b.ino) (h:∀ x ∈ t.inodes,Reach (nbT t) x.ino):(eG t).length=t.inodes.length:=by
 apply Nat.le_antisymm
 ·refine oS t _ (qR (vF _ _)) fun x hx=>j5 _ ((mJ t x).1 hx)
 ·have:=qQ (l:=t.inodes.map Inode.ino) (m:=eG t) (agr hu) fun i hi=>by
   obtain ⟨x,hx,rfl⟩:=lV1.1 hi
   exact (mJ t _).2 (h x hx)
  simpa using this
abbrev IM:=Int→Option Inode
def aQ (M:IM):List aA→Int→Option Int
 | [],i=>some i
 | n::l,i=>match M i with
  | none=>none
  | some x=>if x.kind=2∧bB x n≠0 then aQ M l (bB x n) else none
theorem amM (t:Tab) (l:List aA):∀ i j,jB t l i=(j,0)↔aQ (aC t) l i=some j:=by
 induction l with
 | nil=>intro i j; simp [jB,aQ]
 | cons n l ih=>
  intro i j
  rw [jB,aQ]
  cases aC t i with
  | none=>simp
  | some x=>
   simp only
   by_cases hk:x.kind=2
   ·by_cases he:bB x n=0
    ·rw [lG hk,lG he,lJ (by simp [he])]; simp
    ·rw [lG hk,lJ he,lG ⟨hk,he⟩]; exact ih _ _
   ·rw [lJ hk,lJ (by simp [hk])]; simp
theorem cG (M:IM) (a b:List aA):∀ i,aQ M (a++b) i=(aQ M a i).bind fun j=>aQ M b j:=by
 induction a with
 | nil=>intro i; simp [aQ]
 | cons n a ih=>
  intro i
  rw [lS1,aQ,aQ]
  cases M i with
  | none=>rfl
  | some x=>
   simp only
   split
   ·exact ih _
   ·rfl
theorem gS (M:IM) (n:aA) (i j:Int):aQ M [n] i=some j↔∃ x,M i=some x∧x.kind=2∧bB x n=j∧j≠0:=by
 rw [aQ]
 cases M i with
 | none=>simp
 | some x=>
  simp only [aQ]
  constructor
  ·intro h
   split at h
   ·rename_i hc
    injection h with h
    subst h
    exact ⟨x,rfl,hc.1,rfl,hc.2⟩
   ·exact absurd h (by simp)
  ·rintro ⟨y,hy,h1,h2,h3⟩
   injection hy with hy
   subst hy
   subst h2
   rw [lG ⟨h1,h3⟩]
theorem rV {x:Inode} {n:aA} (h:bB x n≠0):∃ e ∈ x.ents,e.name=n∧e.ino=bB x n:=by
 unfold bB at h ⊢
 cases e:x.ents.find? fun e=>decide (e.name=n) with
 | none=>rw [e] at h; exact absurd rfl h
 | some y=>exact ⟨y,List.mem_of_find?_eq_some e,by simpa using List.find?_some e,by simp⟩
theorem eL {x:Inode} (hu:x.ents.Pairwise fun a b=>a.name<b.name) {e:Ent} (he:e ∈ x.ents):bB x e.name=e.ino:=by
 unfold bB
 generalize x.ents=l at *
 induction l with
 | nil=>exact absurd he (by simp)
 | cons y l ih=>
  obtain ⟨a1,a2⟩:=lA1.1 hu
  rcases lF.1 he with rfl | he
  ·rw [lK1 (by simp)]; rfl
  ·rw [lC1 ?_]
   ·exact ih a2 he
   ·have:=a1 e he
    simp only [decide_eq_true_eq]
    intro hc
    rw [hc] at this
    exact absurd this (lT3 _)
theorem adE {x:Inode} {n:aA} (h:∀ e ∈ x.ents,e.ino≠0):bB x n=0↔∀ e ∈ x.ents,e.name≠n:=by
 constructor
 ·intro h0 e he hn
  unfold bB at h0
  cases hf:x.ents.find? fun e=>decide (e.name=n) with
  | none=>exact absurd hn (by simpa using List.find?_eq_none.1 hf e he)
  | some y=>rw [hf] at h0; exact h y (List.mem_of_find?_eq_some hf) (by simpa using h0)
 ·intro hn
  apply Classical.byContradiction
  intro hc
  obtain ⟨e,he,h1,_⟩:=rV hc
  exact hn e he h1
section
theorem j7 {α:Type} (f:α→Nat) (l:List α) {p:α} (hp:p ∈ l):f p≤(l.map f).sum:=by
 induction l with
 | nil=>exact absurd hp (by simp)
 | cons x l ih=>
  rw [lP,lB2]
  rcases lF.1 hp with rfl | hp
  ·omega
  ·have:=ih hp; omega
theorem x8 {α:Type} (f:α→Nat) (l:List α) {p q:α} (hp:p ∈ l) (hq:q ∈ l) (hne:p≠q):f p+f q≤(l.map f).sum:=by
 induction l with
 | nil=>exact absurd hp (by simp)
 | cons x l ih=>
  rw [lP,lB2]
  rcases lF.1 hp with rfl | hp'
  ·rcases lF.1 hq with rfl | hq'
   ·exact absurd rfl hne
   ·have:=j7 f l hq'; omega
  ·rcases lF.1 hq with rfl | hq'
   ·have:=j7 f l hp'; omega
   ·have:=ih hp' hq'; omega
theorem aiE (l:List Ent) (i:Int):(l.map Ent.ino).count i=(l.map fun e=>if e.ino=i then 1 else 0).sum:=by
 induction l with
 | nil=>rfl
 | cons e l ih=>
  rw [lP,lP,lB2,List.count_cons,ih]
  by_cases h:e.ino=i <;> simp [h] <;> omega
theorem amN {α:Type} (f:α→Nat) (l:List α) (h:0<(l.map f).sum):∃ x ∈ l,0<f x:=by
 induction l with
 | nil=>exact absurd h (by simp)
 | cons x l ih=>
  rw [lP,lB2] at h
  by_cases hx:0<f x
  ·exact ⟨x,by simp,hx⟩
  ·obtain ⟨y,hy,h'⟩:=ih (by omega)
   exact ⟨y,by simp [hy],h'⟩
variable {t:Tab}
theorem bQ (h:TreeOk t) {x:Inode} (hx:x ∈ t.inodes):EntsOk x.ents:=(h.tab.ok x hx).1.ents
theorem pS (h:TreeOk t) {x:Inode} (hx:x ∈ t.inodes):∀ e ∈ x.ents,e.ino≠0:=fun e he=>by have:=((bQ h hx).ok e he).2.1; omega
theorem f0 (h:TreeOk t) {x:Inode} (hx:x ∈ t.inodes):aC t x.ino=some x:=abJ h.tab.up hx
theorem nW (h:TreeOk t) {x:Inode} (hx:x ∈ t.inodes) (hk:x.kind=2):x.links≤1:=by
 rcases (h.tab.ok x hx).1.kind with ⟨h1,_⟩ | ⟨_,_,h1⟩
 ·omega
 ·exact h1
theorem nY (h:TreeOk t) {x:Inode} (hx:x ∈ t.inodes) (hk:x.kind≠2):x.ents=[]∧x.kind=1:=by
 rcases (h.tab.ok x hx).1.kind with ⟨h1,h2⟩ | ⟨h1,_⟩
 ·exact ⟨h2,h1⟩
 ·exact absurd h1 hk
theorem adF (h:TreeOk t) {x p q:Inode} (hx:x ∈ t.inodes) (hl:x.links≤1) (hp:p ∈ t.inodes) (hq:q ∈ t.inodes) (kp:p.kind=2) (kq:q.kind=2)
  {e f:Ent} (he:e ∈ p.ents) (hf:f ∈ q.ents) (e1:e.ino=x.ino) (f1:f.ino=x.ino):p=q∧e=f:=by
 have hs:bA t x.ino≤1:=by have:=h.links x hx; omega
 have cp:∀ y:Inode,y.kind=2→(eS y).count x.ino=(y.ents.map fun e=>if e.ino=x.ino then 1 else 0).sum:=fun y hy=>by rw [eS,lG hy,aiE]
 have one:∀ (y:Inode) (g:Ent),y.kind=2→g ∈ y.ents→g.ino=x.ino→1≤(eS y).count x.ino:=fun y g hy hg hi=>by
  rw [cp y hy]
  have:=j7 (fun e:Ent=>if e.ino=x.ino then 1 else 0) y.ents hg
  simpa [hi] using this
 have epq:p=q:=by
  apply Classical.byContradiction
  intro hne
  have:=x8 (fun y:Inode=>(eS y).count x.ino) t.inodes hp hq hne
  have a:=one p e kp he e1
  have b:=one q f kq hf f1
  unfold bA at hs
  omega
 subst epq
 refine ⟨rfl,?_⟩
 apply Classical.byContradiction
 intro hne
 have a:=x8 (fun e:Ent=>if e.ino=x.ino then 1 else 0) p.ents he hf hne
 have b:=j7 (fun y:Inode=>(eS y).count x.ino) t.inodes hp
 have c:=cp p kp
 simp only [e1,f1,lN] at a
 unfold bA at hs
 omega
theorem eM (h:TreeOk t):∃ x,aC t 1=some x∧x.kind=2∧x ∈ t.inodes:=by
 obtain ⟨x,h1,h2⟩:=h.tab.root
 exact ⟨x,h1,h2,(aM h1).1⟩
theorem j8 (_:TreeOk t) {a:List aA} {n:aA} {i j:Int} (hw:aQ (aC t) (a++[n]) i=some j) :
  ∃ p y e,aQ (aC t) a i=some p∧aC t p=some y∧y ∈ t.inodes∧y.ino=p∧y.kind=2∧e ∈ y.ents∧e.name=n∧e.ino=j:=by
 rw [cG] at hw
 cases ha:aQ (aC t) a i with
 | none=>rw [ha] at hw; exact absurd hw (by simp)
 | some p=>
  rw [ha] at hw
  obtain ⟨y,h1,h2,h3,h4⟩:=(gS _ n p j).1 hw
  obtain ⟨hy1,hy2⟩:=aM h1
  obtain ⟨e,he,e1,e2⟩:=rV (x:=y) (n:=n) (by rw [h3]; exact h4)
  exact ⟨p,y,e,rfl,h1,hy1,hy2,h2,he,e1,by rw [e2,h3]⟩
theorem x9 (h:TreeOk t) {l:List aA} {i:Int} (hw:aQ (aC t) l 1=some i):∃ x,aC t i=some x∧x ∈ t.inodes∧x.ino=i:=by
 rcases lX2 l with rfl | ⟨a,n,rfl⟩
 ·simp only [aQ,Option.some.injEq] at hw
  subst hw
  obtain ⟨x,h1,_,h3⟩:=eM h
  exact ⟨x,h1,h3,(aM h1).2⟩
 ·rw [lY2] at hw
  obtain ⟨p,y,e,_,_,hy,_,_,he,_,e2⟩:=j8 h hw
  have:=h.there y hy e he
  rw [e2] at this
  obtain ⟨x,hx⟩:=lB1.1 this
  exact ⟨x,hx,(aM hx).1,(aM hx).2⟩
theorem pT (h:TreeOk t):∀ (l l':List aA) (i:Int) (x:Inode),aC t i=some x→x.links≤1→aQ (aC t) l 1=some i→aQ (aC t) l' 1=some i→l=l':=by
 have noroot:∀ (a:List aA) (n:aA),aQ (aC t) (a++[n]) 1≠some 1:=by
  intro a n hw
  obtain ⟨p,y,e,_,_,hy,_,_,he,_,e2⟩:=j8 h hw
  have:=((bQ h hy).ok e he).2.1
  omega
 suffices ∀ (k:Nat) (l l':List aA) (i:Int) (x:Inode),l.length=k→aC t i=some x→x.links≤1→aQ (aC t) l 1=some i→aQ (aC t) l' 1=some i→l=l' from
  fun l l' i x=>this l.length l l' i x rfl
 intro k
 induction k with
 | zero=>
  intro l l' i x hk hx hl h1 h2
  have:l=[]:=lM1.1 hk
  subst this
  simp only [aQ,Option.some.injEq] at h1
  subst h1
  rcases lX2 l' with rfl | ⟨b,m,rfl⟩
  ·rfl
  ·rw [lY2] at h2; exact absurd h2 (noroot b m)
 | succ k ih=>
  intro l l' i x hk hx hl h1 h2
  rcases lX2 l with rfl | ⟨a,n,rfl⟩
  ·exact absurd hk (by simp)
  rw [lY2] at h1 hk ⊢
  rcases lX2 l' with rfl | ⟨b,m,rfl⟩
  ·simp only [aQ,Option.some.injEq] at h2
   subst h2
   exact absurd h1 (noroot a n)
  rw [lY2] at h2 ⊢
  obtain ⟨p,y,e,w1,y1,y2,y3,y4,e1,e2,e3⟩:=j8 h h1
  obtain ⟨q,z,f,w2,z1,z2,z3,z4,f1,f2,f3⟩:=j8 h h2
  obtain ⟨hx1,hx2⟩:=aM hx
  obtain ⟨r1,r2⟩:=adF h hx1 hl y2 z2 y4 z4 e1 f1 (by rw [e3,hx2]) (by rw [f3,hx2])
  subst r1; subst r2
  rw [← e2,← f2]
  have:=ih a b p y (by simpa using hk) y1 (nW h y2 y4) w1 (by rw [← y3,z3]; exact w2)
  rw [this]
theorem gG (h:TreeOk t) {x:Inode} (hx:x ∈ t.inodes):∃ l,aQ (aC t) l 1=some x.ino:=by
 have key:∀ i,Reach (nbT t) i→∃ l,aQ (aC t) l 1=some i:=by
  intro i hr
  induction hr with
  | root _=>exact ⟨[],rfl⟩
  | step i j js hi hl hj hs ih=>
   obtain ⟨l,hl'⟩:=ih
   unfold nbT at hl
   cases e:aC t i with
   | none=>rw [e] at hl; exact absurd hl (by simp)
   | some y=>
    rw [e] at hl
    simp only [lC,Option.some.injEq] at hl
    obtain ⟨hy1,hy2⟩:=aM e
    by_cases hk:y.kind=2
    ·rw [eS,lG hk] at hl
     subst hl
     obtain ⟨g,hg,rfl⟩:=lV1.1 hj
     refine ⟨l++[g.name],?_⟩
     rw [cG,hl']
     exact (gS _ _ _ _).2 ⟨y,e,hk,eL (bQ h hy1).up hg,pS h hy1 g hg⟩
    ·rw [eS,lJ hk] at hl
     subst hl
     exact absurd hj (by simp)
 exact key _ (adD h x hx)
theorem aan (h:∀ l i,aQ (aC t) l 1=some i→(aC t i).isSome=true):∀ l i,aQ (aC t) l 1=some i→Reach (nbT t) i:=by
 suffices ∀ (k:Nat) (l:List aA) (i:Int),l.length=k→aQ (aC t) l 1=some i→Reach (nbT t) i from fun l i=>this l.length l i rfl
 have nbs:∀ i,(aC t i).isSome=true→(nbT t i).isSome=true:=fun i hi=>by unfold nbT; simpa using hi
 intro k
 induction k with
 | zero=>
  intro l i hk hw
  have:l=[]:=lM1.1 hk
  subst this
  have:=h [] i hw
  simp only [aQ,Option.some.injEq] at hw
  subst hw
  exact .root (nbs _ this)
 | succ k ih=>
  intro l i hk hw
  rcases lX2 l with rfl | ⟨a,n,rfl⟩
  ·exact absurd hk (by simp)
  rw [lY2] at hw hk
  have hs:=h _ i hw
  rw [cG] at hw
  cases ha:aQ (aC t) a 1 with
  | none=>rw [ha] at hw; exact absurd hw (by simp)
  | some p=>
   rw [ha] at hw
   obtain ⟨y,h1,h2,h3,h4⟩:=(gS _ n p i).1 hw
   obtain ⟨e,he,e1,e2⟩:=rV (x:=y) (n:=n) (by rw [h3]; exact h4)
   refine .step p i (y.ents.map Ent.ino) (ih a p (by simpa using hk) ha) (by rw [nbT,h1]; simp [eS,h2]) ?_ (nbs i hs)
   exact lV1.2 ⟨e,he,by rw [e2,h3]⟩
theorem rW (h:TreeOk t) {l:List aA} {i:Int} (hw:aQ (aC t) l 1=some i):l.length<t.inodes.length∧∀ n ∈ l,aZ n=true:=by
 have pre:∀ k,∃ j,k≤l.length→aQ (aC t) (l.take k) 1=some j:=by
  intro k
  by_cases hk:k≤l.length
  ·have:=hw
   rw [← lH k l,cG] at this
   cases e:aQ (aC t) (l.take k) 1 with
   | none=>rw [e] at this; exact absurd this (by simp)
   | some j=>exact ⟨j,fun _=>rfl⟩
  ·exact ⟨0,fun h=>absurd h hk⟩
 obtain ⟨f,hf⟩:=Classical.axiomOfChoice pre
 have stepd:∀ k,k<l.length→∃ y e,aC t (f k)=some y∧y ∈ t.inodes∧y.kind=2∧e ∈ y.ents∧l[k]?=some e.name:=by
  intro k hk
  have h1:=hf (k+1) (by omega)
  rw [lU hk] at h1
  obtain ⟨p,y,e,w1,y1,y2,_,y4,e1,e2,_⟩:=j8 h h1
  have h0:=hf k (by omega)
  rw [h0] at w1
  injection w1 with w1
  subst w1
  exact ⟨y,e,y1,y2,y4,e1,by rw [lK hk,e2]⟩
 refine ⟨?_,fun n hn=>?_⟩
 ·have hlen:((List.range (l.length+1)).map f).length≤t.inodes.length:=by
   refine oS t _ ?_ ?_
   ·rw [List.Nodup,List.pairwise_map]
    refine List.Pairwise.imp_of_mem ?_ (List.pairwise_lt_range (n:=l.length+1))
    intro a b ha hb hab hc
    have hb':=List.mem_range.1 hb
    obtain ⟨y,_,y1,y2,y4,_⟩:=stepd a (by omega)
    have:=pT h (l.take a) (l.take b) (f a) y y1 (nW h y2 y4) (hf a (by omega)) (by rw [hc]; exact hf b (by omega))
    have:=congrArg List.length this
    simp only [lR] at this
    omega
   ·intro x hx
    obtain ⟨k,hk,rfl⟩:=lV1.1 hx
    have hk:=List.mem_range.1 hk
    obtain ⟨y,y1,_⟩:=x9 h (hf k (by omega))
    rw [nbT,y1]; rfl
  simp only [lJ1,List.length_range] at hlen
  omega
 ·obtain ⟨k,hk,rfl⟩:=List.mem_iff_getElem.1 hn
  obtain ⟨y,e,_,y2,_,e1,e2⟩:=stepd k hk
  rw [lK hk] at e2
  injection e2 with e2
  rw [e2]
  exact ((bQ h y2).ok e e1).1
end
section
def cM (s:Int→aA→Option Int):List aA→Int→Option Int
 | [],i=>some i
 | n::l,i=>(s i n).bind (cM s l)
def bY (M:IM) (i:Int) (n:aA):Option Int:=match M i with
 | none=>none
 | some x=>if x.kind=2∧bB x n≠0 then some (bB x n) else none
theorem cN (M:IM) (l:List aA):∀ i,aQ M l i=cM (bY M) l i:=by
 induction l with
 | nil=>intro i; rfl
 | cons n l ih=>
  intro i
  rw [aQ,cM,bY]
  cases M i with
  | none=>rfl
  | some x=>
   simp only
   split
   ·exact ih _
   ·rfl
section
variable {s s':Int→aA→Option Int}
theorem dC (a b:List aA):∀ i,cM s (a++b) i=(cM s a i).bind fun j=>cM s b j:=by
 induction a with
 | nil=>intro i; simp [cM]
 | cons n a ih=>
  intro i
  rw [lS1,cM,cM]
  cases s i n with
  | none=>rfl
  | some j=>exact ih j
theorem abL {D:Int} {n:aA} (hs:∀ i m,i≠D∨m≠n→s' i m=s i m):∀ (l:List aA) (i:Int),(∀ a b,l=a++n::b→cM s a i≠some D)→cM s' l i=cM s l i:=by
 intro l
 induction l with
 | nil=>intro i _; rfl
 | cons m l ih=>
  intro i h
  rw [cM,cM]
  have e:s' i m=s i m:=by
   apply hs
   by_cases hm:m=n
   ·left
    rintro rfl
    exact h [] l (by rw [hm]; rfl) rfl
   ·exact .inr hm
  rw [e]
  cases hc:s i m with
  | none=>rfl
  | some j=>
   show cM s' l j=cM s l j
   refine ih j fun a b hl hw=>h (m::a) b (by rw [hl]; rfl) ?_
   rw [cM,hc]; exact hw
theorem fD {D:Int} {n:aA} {d:List aA} (hs:∀ i m,i≠D∨m≠n→s' i m=s i m) (hu:∀ a,cM s a 1=some D→a=d) {l:List aA} (hp:¬ (d++[n]) <+: l) :
  cM s' l 1=cM s l 1:=by
 refine abL hs l 1 fun a b hl hw=>hp ?_
 rw [← hu a hw]
 exact ⟨b,by rw [hl]; simp⟩
theorem aiF {D:Int} {n:aA} {d:List aA} (hs:∀ i m,i≠D∨m≠n→s' i m=s i m) (hu:∀ a,cM s a 1=some D→a=d) (hd:cM s d 1=some D):cM s' d 1=some D:=by
 rw [fD hs hu ?_,hd]
 rintro ⟨b,hb⟩
 have:=congrArg List.length hb
 simp at this
theorem qU {D:Int} {n:aA} {d:List aA} (hs:∀ i m,i≠D∨m≠n→s' i m=s i m) (hu:∀ a,cM s a 1=some D→a=d) (hd:cM s d 1=some D) (b:List aA) :
  cM s' (d++n::b) 1=(s' D n).bind (cM s' b):=by
 rw [dC,aiF hs hu hd]; rfl
theorem vI {D:Int} {n:aA} (hs:∀ i m,i≠D∨m≠n→s' i m=s i m) {j:Int} (hj:∀ a,cM s a j≠some D) (b:List aA):cM s' b j=cM s b j:=
 abL hs b j fun a _ _=>hj a
end
def bR:List Inode→Inode→List Inode
 | [],x=>[x]
 | y::l,x=>if y.ino=x.ino then x::l else if x.ino<y.ino then x::y::l else y::bR l x
def aG (t:Tab) (x:Inode):Tab:={ inodes:=bR t.inodes x,next:=t.next }
def jP (t:Tab) (i:Int):Tab:={ inodes:=t.inodes.filter fun x=>decide (x.ino≠i),next:=t.next }
abbrev UpI (l:List Inode):Prop:=l.Pairwise fun a b=>a.ino<b.ino
theorem yA {l:List Inode} {x y:Inode} (h:y ∈ bR l x):y=x∨y ∈ l:=by
 induction l with
 | nil=>simpa [bR] using h
 | cons z l ih=>
  rw [bR] at h
  split at h
  ·rcases lF.1 h with h | h
   ·exact .inl h
   ·exact .inr (by simp [h])
  ·split at h
   ·rcases lF.1 h with h | h
    ·exact .inl h
    ·exact .inr h
   ·rcases lF.1 h with h | h
    ·exact .inr (by simp [h])
    ·rcases ih h with h | h
     ·exact .inl h
     ·exact .inr (by simp [h])
theorem aiG {l:List Inode} (h:UpI l) (x:Inode):UpI (bR l x):=by
 induction l with
 | nil=>simp [bR,UpI]
 | cons y l ih=>
  obtain ⟨a1,a2⟩:=lA1.1 h
  rw [bR]
  split
  ·rename_i e
   exact lA1.2 ⟨fun z hz=>by have:=a1 z hz; omega,a2⟩
  ·split
   ·rename_i e1 e2
    refine lA1.2 ⟨fun z hz=>?_,h⟩
    rcases lF.1 hz with rfl | hz
    ·exact e2
    ·have:=a1 z hz; omega
   ·rename_i e1 e2
    refine lA1.2 ⟨fun z hz=>?_,ih a2⟩
    rcases yA hz with rfl | hz
    ·omega
    ·exact a1 z hz
theorem adG {l:List Inode} (h:UpI l) (x:Inode) (j:Int) :
  (bR l x).find? (fun y=>decide (y.ino=j))=if x.ino=j then some x else l.find? fun y=>decide (y.ino=j):=by
 induction l with
 | nil=>
  rw [bR]
  by_cases e:x.ino=j <;> simp [e]
 | cons y l ih=>
  obtain ⟨a1,a2⟩:=lA1.1 h
  have nl:∀ k,k≤y.ino→l.find? (fun z=>decide (z.ino=k))=none:=fun k hk=>by
   rw [List.find?_eq_none]
   intro z hz
   have:=a1 z hz
   simp; omega
  rw [bR]
  split
  ·rename_i e
   by_cases hj:x.ino=j
   ·rw [lK1 (by simpa using hj),lG hj]
   ·rw [lC1 (by simpa using hj),lJ hj,lC1 (by simp; omega)]
  ·split
   ·rename_i e1 e2
    by_cases hj:x.ino=j
    ·rw [lK1 (by simpa using hj),lG hj]
    ·rw [lC1 (by simpa using hj),lJ hj]
   ·rename_i e1 e2
    by_cases hy:y.ino=j
    ·rw [lK1 (by simpa using hy),lJ (by omega),lK1 (by simpa using hy)]
    ·rw [lC1 (by simpa using hy),ih a2,lC1 (by simpa using hy)]
theorem cC {t:Tab} (h:UpI t.inodes) (x:Inode) (j:Int):aC (aG t x) j=if x.ino=j then some x else aC t j:=adG h x j
theorem f4 {t:Tab} (h:UpI t.inodes) (x:Inode):UpI (aG t x).inodes:=aiG h x
theorem amO {t:Tab} (h:UpI t.inodes) (i:Int):UpI (jP t i).inodes:=h.filter _
theorem agt {t:Tab} (i j:Int):aC (jP t i) j=if i=j then none else aC t j:=by
 unfold aC jP
 simp only
 generalize t.inodes=l
 induction l with
 | nil=>simp
 | cons y l ih=>
  rw [lC4]
  by_cases hy:y.ino=i
  ·rw [lJ (by simp [hy]),ih]
   by_cases hj:i=j
   ·rw [lG hj,lG hj]
   ·rw [lJ hj,lJ hj,lC1 (by simp; omega)]
  ·rw [lG (by simp [hy])]
   by_cases hj:y.ino=j
   ·rw [lK1 (by simpa using hj),lJ (by omega),lK1 (by simpa using hj)]
   ·rw [lC1 (by simpa using hj),ih,lC1 (by simpa using hj)]
theorem aiH (f:Inode→Nat) {l:List Inode} (h:UpI l) (x:Inode) :
  ((bR l x).map f).sum+((l.find? fun y=>decide (y.ino=x.ino)).map f).getD 0=(l.map f).sum+f x:=by
 induction l with
 | nil=>simp [bR]
 | cons y l ih=>
  obtain ⟨a1,a2⟩:=lA1.1 h
  have nl:∀ k,k≤y.ino→l.find? (fun z=>decide (z.ino=k))=none:=fun k hk=>by
   rw [List.find?_eq_none]
   intro z hz
   have:=a1 z hz
   simp; omega
  rw [bR]
  split
  ·rename_i e
   rw [lK1 (by simpa using e)]
   simp only [lP,lB2,lC,lY]
   omega
  ·split
   ·rename_i e1 e2
    rw [lC1 (by simpa using e1),nl x.ino (by omega)]
    simp only [lP,lB2,lQ,Option.getD_none]
    omega
   ·rename_i e1 e2
    rw [lC1 (by simpa using e1)]
    have:=ih a2
    simp only [lP,lB2]
    omega
theorem akL (f:Inode→Nat) {l:List Inode} (h:UpI l) (i:Int) :
  ((l.filter fun x=>decide (x.ino≠i)).map f).sum+((l.find? fun y=>decide (y.ino=i)).map f).getD 0=(l.map f).sum:=by
 induction l with
 | nil=>simp
 | cons y l ih=>
  obtain ⟨a1,a2⟩:=lA1.1 h
  by_cases e:y.ino=i
  ·rw [lC4,lJ (by simp [e]),lK1 (by simpa using e)]
   have:l.filter (fun x=>decide (x.ino≠i))=l:=by
    rw [List.filter_eq_self]
    intro z hz
    have:=a1 z hz
    simp; omega
   rw [this]
   simp only [lP,lB2,lC,lY]
   omega
  ·rw [lC4,lG (by simp [e]),lC1 (by simpa using e)]
   have:=ih a2
   simp only [lP,lB2]
   omega
theorem mK {l:List Inode} (h:UpI l) (x:Inode):(bR l x).length+(if (l.find? fun y=>decide (y.ino=x.ino)).isSome then 1 else 0)=l.length+1:=by
 have:=aiH (fun _=>1) h x
 have e:∀ l:List Inode,(l.map fun _=>1).sum=l.length:=fun l=>by induction l with
  | nil=>rfl
  | cons y l ih=>rw [lP,lB2,ih,lV]; omega
 rw [e,e] at this
 cases hf:l.find? fun y=>decide (y.ino=x.ino) with
 | none=>rw [hf] at this; simpa using this
 | some y=>rw [hf] at this; simpa using this
theorem fU {t:Tab} (h:UpI t.inodes) (x:Inode) (i:Int):bA (aG t x) i+((aC t x.ino).map fun y=>(eS y).count i).getD 0=bA t i+(eS x).count i:=aiH _ h x
theorem agu {t:Tab} (h:UpI t.inodes) (k i:Int):bA (jP t k) i+((aC t k).map fun y=>(eS y).count i).getD 0=bA t i:=akL _ h k
theorem qV {t:Tab} (h:UpI t.inodes) (x:Inode):x ∈ t.inodes↔aC t x.ino=some x:=⟨abJ h,fun e=>(aM e).1⟩
theorem amP {t u:Tab} (ht:UpI t.inodes) (hu:UpI u.inodes) (hn:t.next=u.next) (h:∀ i,aC t i=aC u i):t=u:=by
 have key:∀ (l m:List Inode),UpI l→UpI m→(∀ x,x ∈ l↔x ∈ m)→l=m:=by
  intro l
  induction l with
  | nil=>
   intro m _ _ h
   cases m with
   | nil=>rfl
   | cons y m=>exact absurd ((h y).2 (by simp)) (by simp)
  | cons x l ih=>
   intro m hl hm h
   cases m with
   | nil=>exact absurd ((h x).1 (by simp)) (by simp)
   | cons y m=>
    obtain ⟨a1,a2⟩:=lA1.1 hl
    obtain ⟨b1,b2⟩:=lA1.1 hm
    have e:x=y:=by
     have h1:=(h x).1 (by simp)
     have h2:=(h y).2 (by simp)
     rcases lF.1 h1 with h1 | h1
     ·exact h1
     rcases lF.1 h2 with h2 | h2
     ·exact h2.symm
     have:=a1 y h2; have:=b1 x h1; omega
    subst e
    congr 1
    refine ih m a2 b2 fun z=>⟨fun hz=>?_,fun hz=>?_⟩
    ·rcases lF.1 ((h z).1 (by simp [hz])) with rfl | h'
     ·exact absurd (a1 _ hz) (by omega)
     ·exact h'
    ·rcases lF.1 ((h z).2 (by simp [hz])) with rfl | h'
     ·exact absurd (b1 _ hz) (by omega)
     ·exact h'
 have e:t.inodes=u.inodes:=key _ _ ht hu fun x=>by rw [qV ht,qV hu,h]
 cases t; cases u; simp_all
end
section
section
variable {α:Type} (key:α→aA)
def vJ:List α→α→List α
 | [],e=>[e]
 | f::l,e=>if key e<key f then e::f::l else f::vJ l e
def aiI (l:List α) (n:aA):List α:=l.filter fun e=>decide (key e≠n)
abbrev UpK (l:List α):Prop:=l.Pairwise fun a b=>key a<key b
variable {key}
theorem mem_putK {l:List α} {e x:α}:x ∈ vJ key l e↔x=e∨x ∈ l:=by
 induction l with
 | nil=>simp [vJ]
 | cons f l ih=>
  rw [vJ]
  split
  ·simp
  ·rw [lF,ih,lF]
   constructor
   ·rintro (h | h | h)
    ·exact .inr (.inl h)
    ·exact .inl h
    ·exact .inr (.inr h)
   ·rintro (h | h | h)
    ·exact .inr (.inl h)
    ·exact .inl h
    ·exact .inr (.inr h)
theorem oT (l:List α) (e:α):(vJ key l e).length=l.length+1:=by
 induction l with
 | nil=>rfl
 | cons f l ih=>
  rw [vJ]
  split
  ·rfl
  ·rw [lV,ih,lV]
theorem aao {l:List α} (h:UpK key l) {e:α} (hn:∀ x ∈ l,key x≠key e):UpK key (vJ key l e):=by
 induction l with
 | nil=>simp [vJ,UpK]
 | cons f l ih=>
  obtain ⟨a1,a2⟩:=lA1.1 h
  rw [vJ]
  split
  ·rename_i hlt
   refine lA1.2 ⟨fun x hx=>?_,h⟩
   rcases lF.1 hx with rfl | hx
   ·exact hlt
   ·exact List.lt_trans hlt (a1 x hx)
  ·rename_i hlt
   have hfe:key f<key e:=by
    rcases List.le_iff_lt_or_eq.1 (List.not_lt.1 hlt) with h' | h'
    ·exact h'
    ·exact absurd h' (hn f (by simp))
   refine lA1.2 ⟨fun x hx=>?_,ih a2 fun x hx=>hn x (by simp [hx])⟩
   rcases mem_putK.1 hx with rfl | hx
   ·exact hfe
   ·exact a1 x hx
theorem rX {l:List α} (h:UpK key l) (n:aA):UpK key (aiI key l n):=h.filter _
theorem mem_cutK {l:List α} {n:aA} {x:α}:x ∈ aiI key l n↔x ∈ l∧key x≠n:=by simp [aiI]
theorem an0 {l:List α} (h:UpK key l) {x y:α} (hx:x ∈ l) (hy:y ∈ l) (he:key x=key y):x=y:=by
 induction l with
 | nil=>exact absurd hx (by simp)
 | cons f l ih=>
  obtain ⟨a1,a2⟩:=lA1.1 h
  rcases lF.1 hx with hx' | hx'
  ·rcases lF.1 hy with hy' | hy'
   ·rw [hx',hy']
   ·have:=a1 y hy'; rw [← hx',he] at this; exact absurd this (lT3 _)
  ·rcases lF.1 hy with hy' | hy'
   ·have:=a1 x hx'; rw [← hy',he] at this; exact absurd this (lT3 _)
   ·exact ih a2 hx' hy'
theorem amQ {l m:List α} (hl:UpK key l) (hm:UpK key m) (h:∀ x,x ∈ l↔x ∈ m):l=m:=by
 induction l generalizing m with
 | nil=>
  cases m with
  | nil=>rfl
  | cons y m=>exact absurd ((h y).2 (by simp)) (by simp)
 | cons x l ih=>
  cases m with
  | nil=>exact absurd ((h x).1 (by simp)) (by simp)
  | cons y m=>
   obtain ⟨a1,a2⟩:=lA1.1 hl
   obtain ⟨b1,b2⟩:=lA1.1 hm
   have e:x=y:=by
    have h1:=(h x).1 (by simp)
    have h2:=(h y).2 (by simp)
    rcases lF.1 h1 with h1 | h1
    ·exact h1
    rcases lF.1 h2 with h2 | h2
    ·exact h2.symm
    exact absurd (List.lt_trans (a1 y h2) (b1 x h1)) (lT3 _)
   subst e
   congr 1
   refine ih a2 b2 fun z=>⟨fun hz=>?_,fun hz=>?_⟩
   ·rcases lF.1 ((h z).1 (by simp [hz])) with rfl | h'
    ·exact absurd (a1 _ hz) (lT3 _)
    ·exact h'
   ·rcases lF.1 ((h z).2 (by simp [hz])) with rfl | h'
    ·exact absurd (b1 _ hz) (lT3 _)
    ·exact h'
theorem aiJ {l:List α} (h:UpK key l) {e:α} (he:e ∈ l):vJ key (aiI key l (key e)) e=l:=by
 refine amQ (key:=key) (aao (rX h _) fun x hx=>(mem_cutK.1 hx).2) h fun x=>?_
 rw [mem_putK,mem_cutK]
 constructor
 ·rintro (rfl | h')
  ·exact he
  ·exact h'.1
 ·intro hx
  by_cases hk:key x=key e
  ·exact .inl (an0 h hx he hk)
  ·exact .inr ⟨hx,hk⟩
theorem akM {l:List α} (h:UpK key l) {e:α} (he:e ∈ l):(aiI key l (key e)).length+1=l.length:=by
 have:=congrArg List.length (aiJ h he)
 rw [oT] at this
 exact this
end
def dD (l:List Ent) (e:Ent):List Ent:=vJ Ent.name l e
def cY (l:List Ent) (n:aA):List Ent:=aiI Ent.name l n
theorem jH (l:List Ent) (e:Ent) (i:Int):((dD l e).map Ent.ino).count i=(l.map Ent.ino).count i+if e.ino=i then 1 else 0:=by
 induction l with
 | nil=>by_cases h:e.ino=i <;> simp [dD,vJ,h]
 | cons f l ih=>
  unfold dD at ih ⊢
  rw [vJ]
  split
  ·rw [lP,List.count_cons]
   by_cases h:e.ino=i <;> simp [h]
  ·rw [lP,List.count_cons,ih,lP,List.count_cons]
   omega
theorem sR {l:List Ent} (h:UpK Ent.name l) {e:Ent} (he:e ∈ l) (i:Int):((cY l e.name).map Ent.ino).count i+(if e.ino=i then 1 else 0)=(l.map Ent.ino).count i:=by
 have:=jH (cY l e.name) e i
 rw [← this]
 exact congrArg (fun l=>(List.map Ent.ino l).count i) (aiJ h he)
theorem j9 {x:Inode} (h:UpK Ent.name x.ents) {n:aA} {j:Int} (hn:∀ e ∈ x.ents,e.name≠n) (m:aA) :
  bB { x with ents:=dD x.ents ⟨n,j⟩ } m=if m=n then j else bB x m:=by
 have hu:UpK Ent.name (dD x.ents ⟨n,j⟩):=aao h hn
 by_cases hm:m=n
 ·rw [lG hm]
  subst hm
  exact eL (x:={ x with ents:=dD x.ents ⟨m,j⟩ }) hu (e:=⟨m,j⟩) (mem_putK.2 (.inl rfl))
 ·rw [lJ hm]
  unfold bB
  congr 2
  show (dD x.ents ⟨n,j⟩).find? _=x.ents.find? _
  generalize x.ents=l at *
  clear hu
  induction l with
  | nil=>simp [dD,vJ,Ne.symm hm]
  | cons f l ih=>
   have ih:=ih (lA1.1 h).2 fun e he=>hn e (by simp [he])
   unfold dD at ih ⊢
   rw [vJ]
   split
   ·rw [lC1 (by simpa using Ne.symm hm)]
   ·by_cases hf:f.name=m
    ·rw [lK1 (by simpa using hf),lK1 (by simpa using hf)]
    ·rw [lC1 (by simpa using hf),lC1 (by simpa using hf)]; exact ih
theorem nZ (x:Inode) (n m:aA):bB { x with ents:=cY x.ents n } m=if m=n then 0 else bB x m:=by
 unfold bB
 show (Option.map Ent.ino ((cY x.ents n).find? _)).getD 0=_
 generalize x.ents=l
 induction l with
 | nil=>simp [cY,aiI]
 | cons f l ih=>
  unfold cY aiI at ih ⊢
  rw [lC4]
  by_cases hf:f.name=n
  ·rw [lJ (by simp [hf]),ih]
   by_cases hm:m=n
   ·rw [lG hm,lG hm]
   ·rw [lJ hm,lJ hm,lC1 (by simp [hf]; exact Ne.symm hm)]
  ·rw [lG (by simpa using hf)]
   by_cases hm:f.name=m
   ·rw [lK1 (by simpa using hm),lJ (by rw [← hm]; exact hf),lK1 (by simpa using hm)]
   ·rw [lC1 (by simpa using hm),ih,lC1 (by simpa using hm)]
end
theorem vK {t:Tab} (h1:TabOk t) (h2:∀ x ∈ t.inodes,((bA t x.ino:Nat):Int)=x.links) (h3:∀ x ∈ t.inodes,∀ e ∈ x.ents,(aC t e.ino).isSome=true)
  (h4:∀ x ∈ t.inodes,∃ l,aQ (aC t) l 1=some x.ino):TreeOk t:=by
 have hs:∀ l i,aQ (aC t) l 1=some i→(aC t i).isSome=true:=by
  intro l i hw
  rcases lX2 l with rfl | ⟨a,n,rfl⟩
  ·simp only [aQ,Option.some.injEq] at hw
   subst hw
   obtain ⟨x,hx,_⟩:=h1.root
   rw [hx]; rfl
  ·rw [lY2,cG] at hw
   cases ha:aQ (aC t) a 1 with
   | none=>rw [ha] at hw; exact absurd hw (by simp)
   | some p=>
    rw [ha] at hw
    obtain ⟨y,y1,y2,y3,y4⟩:=(gS _ n p i).1 hw
    obtain ⟨e,he,e1,e2⟩:=rV (x:=y) (n:=n) (by rw [y3]; exact y4)
    have:=h3 y (aM y1).1 e he
    rwa [e2,y3] at this
 refine ⟨h1,abK h1.up fun x hx=>?_,h2,h3⟩
 obtain ⟨l,hl⟩:=h4 x hx
 exact aan hs l _ hl
theorem aY {M:IM} {i:Int} {x:Inode} (h:M i=some x) (n:aA):bY M i n=if x.kind=2∧bB x n≠0 then some (bB x n) else none:=by rw [bY,h]
theorem mL {M M':IM} {i:Int} (h:M' i=M i) (n:aA):bY M' i n=bY M i n:=by rw [bY,bY,h]
theorem aeX {t:Tab} {i:Int} (h:0<bA t i):∃ y ∈ t.inodes,y.kind=2∧∃ f ∈ y.ents,f.ino=i:=by
 obtain ⟨y,hy,hc⟩:=amN _ _ h
 by_cases hk:y.kind=2
 ·rw [eS,lG hk] at hc
  obtain ⟨f,hf,e⟩:=lV1.1 (List.count_pos_iff.1 hc)
  exact ⟨y,hy,hk,f,hf,e⟩
 ·rw [eS,lJ hk] at hc
  exact absurd hc (by simp)
theorem aiK {t:Tab} {i:Int} (h:bA t i=0) {y:Inode} (hy:y ∈ t.inodes) (hk:y.kind=2) {f:Ent} (hf:f ∈ y.ents):f.ino≠i:=by
 intro e
 have:=j7 (fun x:Inode=>(eS x).count i) t.inodes hy
 unfold bA at h
 have hc:0<(eS y).count i:=by rw [eS,lG hk]; exact List.count_pos_iff.2 (lV1.2 ⟨f,hf,e⟩)
 omega
def cF (D:Inode) (n:aA):Inode:={ D with ents:=cY D.ents n }
def c5 (D:Inode) (n:aA) (j:Int):Inode:={ D with ents:=dD D.ents ⟨n,j⟩ }
theorem vL {D:Inode} (h:InodeOk D) (n:aA):InodeOk (cF D n):=by
 obtain ⟨a1,a2,a3,a4,a5,a6,a7⟩:=h
 refine ⟨a1,a2,a3,a4,⟨?_,fun e he=>a5.ok e (mem_cutK.1 he).1,rX a5.up n⟩,a6,?_⟩
 ·have:(cY D.ents n).length≤D.ents.length:=lN2 _ _
  have:=a5.len
  show (cY D.ents n).length≤10
  omega
 ·rcases a7 with ⟨b1,b2⟩ | b
  ·exact .inl ⟨b1,by show cY D.ents n=[]; rw [b2]; rfl⟩
  ·exact .inr b
theorem vM {D:Inode} (h:InodeOk D) (hk:D.kind=2) {n:aA} {j:Int} (hn:aZ n=true) (hj:2≤j∧j≤1000) (hl:D.ents.length<10) (hf:∀ e ∈ D.ents,e.name≠n):InodeOk (c5 D n j):=by
 obtain ⟨a1,a2,a3,a4,a5,a6,a7⟩:=h
 refine ⟨a1,a2,a3,a4,⟨?_,fun e he=>?_,aao a5.up hf⟩,a6,?_⟩
 ·show (dD D.ents ⟨n,j⟩).length≤10
  unfold dD
  rw [oT]; omega
 ·rcases mem_putK.1 he with rfl | he
  ·exact ⟨hn,hj⟩
  ·exact a5.ok e he
 ·rcases a7 with ⟨b1,_⟩ | b
  ·omega
  ·exact .inr b
structure Spot (t:Tab) (D:Inode) (d:List aA):Prop where
 mem:D ∈ t.inodes
 kind:D.kind=2
 at':aQ (aC t) d 1=some D.ino
theorem gH {t:Tab} (h:TreeOk t) {D:Inode} {d:List aA} (s:Spot t D d):∀ a,cM (bY (aC t)) a 1=some D.ino→a=d:=fun a ha=>
 pT h a d D.ino D (f0 h s.mem) (nW h s.mem s.kind) (by rw [cN]; exact ha) s.at'
def pU (X:Inode):Inode:={ X with links:=X.links-1 }
def bZ (t:Tab) (D:Inode) (n:aA) (X:Inode):Tab:=if X.links=1 then jP (aG t (cF D n)) X.ino else aG (aG t (cF D n)) (pU X)
theorem adH {t:Tab} (h:TreeOk t) {D X:Inode} {d:List aA} (s:Spot t D d) {e:Ent} (he:e ∈ D.ents) (hX:aC t e.ino=some X) (hE:X.ents=[]) (hk1:X.kind=1∨X.links=1) :
  TreeOk (bZ t D e.name X)∧(∀ l,aQ (aC (bZ t D e.name X)) l 1=if l=d++[e.name] then none else aQ (aC t) l 1) ∧
  (∀ i,aC (bZ t D e.name X) i=if i=X.ino then (if X.links=1 then none else some (pU X)) else if i=D.ino then some (cF D e.name) else aC t i):=by
 obtain ⟨X1,X2⟩:=aM hX
 have hD:=f0 h s.mem
 have hne:X.ino≠D.ino:=by
  intro hc
  rw [← X2,hc,hD] at hX
  injection hX with hX
  rw [hX,hE] at he
  exact absurd he (by simp)
 have up1:=f4 h.tab.up (cF D e.name)
 have up':UpI (bZ t D e.name X).inodes:=by
  unfold bZ
  split
  ·exact amO up1 _
  ·exact f4 up1 _
 have map1:∀ i,aC (aG t (cF D e.name)) i=if D.ino=i then some (cF D e.name) else aC t i:=fun i=>cC h.tab.up _ i
 have map':∀ i,aC (bZ t D e.name X) i=if i=X.ino then (if X.links=1 then none else some (pU X)) else if i=D.ino then some (cF D e.name) else aC t i:=by
  intro i
  unfold bZ
  split
  ·rw [agt,map1]
   by_cases h1:i=X.ino
   ·rw [lG h1.symm,lG h1]
   ·rw [lJ (Ne.symm h1),lJ h1]
    by_cases h2:i=D.ino
    ·rw [lG h2.symm,lG h2]
    ·rw [lJ (Ne.symm h2),lJ h2]
  ·rw [cC up1,map1]
   show (if X.ino=i then _ else _)=_
   by_cases h1:i=X.ino
   ·rw [lG h1.symm,lG h1]
   ·rw [lJ (Ne.symm h1),lJ h1]
    by_cases h2:i=D.ino
    ·rw [lG h2.symm,lG h2]
    ·rw [lJ (Ne.symm h2),lJ h2]
 have zX:∀ m,bB X m=0:=fun m=>by unfold bB; rw [hE]; rfl
 have zL:∀ m,bB (pU X) m=0:=zX
 have st:∀ i m,i≠D.ino∨m≠e.name→bY (aC (bZ t D e.name X)) i m=bY (aC t) i m:=by
  intro i m him
  by_cases h1:i=X.ino
  ·rw [aY (M:=aC t) (x:=X) (by rw [h1,X2]; exact hX) m,lJ (by simp [zX])]
   by_cases hl:X.links=1
   ·rw [bY,map',lG h1,lG hl]
   ·rw [aY (x:=pU X) (by rw [map',lG h1,lJ hl]) m,lJ (by simp [zL])]
  ·by_cases h2:i=D.ino
   ·have hm:=him.resolve_left (by simp [h2])
    rw [aY (x:=cF D e.name) (by rw [map',lJ h1,lG h2]) m,aY (M:=aC t) (x:=D) (by rw [h2]; exact hD) m]
    have:bB (cF D e.name) m=bB D m:=by unfold cF; rw [nZ,if_neg hm]
    rw [this]; rfl
   ·exact mL (by rw [map',lJ h1,lJ h2]) m
 have stn:bY (aC (bZ t D e.name X)) D.ino e.name=none:=by
  rw [aY (x:=cF D e.name) (by rw [map',lJ (Ne.symm hne),lG rfl]) e.name]
  have:bB (cF D e.name) e.name=0:=by unfold cF; rw [nZ,if_pos rfl]
  rw [this,lJ (by simp)]
 have hu:=gH h s
 have hd:cM (bY (aC t)) d 1=some D.ino:=by rw [← cN]; exact s.at'
 have wk:∀ l,aQ (aC (bZ t D e.name X)) l 1=if l=d++[e.name] then none else aQ (aC t) l 1:=by
  intro l
  rw [cN,cN]
  by_cases hp:(d++[e.name]) <+: l
  ·obtain ⟨b,rfl⟩:=hp
   have e1:d++[e.name]++b=d++e.name::b:=by simp
   rw [e1,qU st hu hd,stn]
   cases b with
   | nil=>rw [lG (by simp)]; rfl
   | cons m b=>
    rw [lJ (by simp)]
    show none=_
    rw [dC,hd]
    show none=(bY (aC t) D.ino e.name).bind _
    rw [aY hD,lG ⟨s.kind,by rw [eL (bQ h s.mem).up he]; exact pS h s.mem e he⟩,eL (bQ h s.mem).up he]
    show none=(bY (aC t) e.ino m).bind _
    rw [aY hX,lJ (by simp [zX])]; rfl
  ·rw [fD st hu hp,lJ (by rintro rfl; exact hp (List.prefix_refl _))]
 refine ⟨?_,wk,map'⟩
 have lk1:∀ i,bA (aG t (cF D e.name)) i+(if e.ino=i then 1 else 0)=bA t i:=by
  intro i
  have a1:=fU h.tab.up (cF D e.name) i
  have a2:=sR (bQ h s.mem).up he i
  have a3:aC t (cF D e.name).ino=some D:=hD
  rw [a3] at a1
  have b1:eS (cF D e.name)=(cY D.ents e.name).map Ent.ino:=by rw [eS,lG (show (cF D e.name).kind=2 from s.kind)]; rfl
  have b2:eS D=D.ents.map Ent.ino:=by rw [eS,lG s.kind]
  simp only [lC,lY,b1,b2] at a1
  omega
 have hXD:aC (aG t (cF D e.name)) X.ino=some X:=by rw [map1,lJ (Ne.symm hne),X2]; exact hX
 have nX:eS X=[]:=by unfold eS; rw [hE]; split <;> rfl
 have nL:eS (pU X)=[]:=nX
 have lk:∀ i,bA (bZ t D e.name X) i+(if e.ino=i then 1 else 0)=bA t i:=by
  intro i
  rw [← lk1 i]
  unfold bZ
  split
  ·have:=agu up1 X.ino i
   rw [hXD] at this
   simp only [lC,lY,nX,List.count_nil] at this
   omega
  ·have:=fU up1 (pU X) i
   have e2:aC (aG t (cF D e.name)) (pU X).ino=some X:=hXD
   rw [e2,nL] at this
   simp only [lC,lY,nX,List.count_nil] at this
   omega
 have lX:=h.links X X1
 have mem':∀ x,x ∈ (bZ t D e.name X).inodes→(x=pU X∧X.links≠1)∨(x=cF D e.name)∨(x ∈ t.inodes∧x.ino≠X.ino∧x.ino≠D.ino):=by
  intro x hx
  have hx':=(qV up' x).1 hx
  rw [map'] at hx'
  split at hx'
  ·split at hx'
   ·exact absurd hx' (by simp)
   ·rename_i hl
    injection hx' with hx'
    exact .inl ⟨hx'.symm,hl⟩
  ·split at hx'
   ·injection hx' with hx'
    exact .inr (.inl hx'.symm)
   ·rename_i n1 n2
    exact .inr (.inr ⟨(aM hx').1,n1,n2⟩)
 have okX:=(h.tab.ok X X1)
 have okD:=(h.tab.ok D s.mem)
 have len':(bZ t D e.name X).inodes.length≤30:=by
  have a1:=mK h.tab.up (cF D e.name)
  have a2:(t.inodes.find? fun y=>decide (y.ino=(cF D e.name).ino))=some D:=hD
  rw [a2] at a1
  simp only [lQ2,lN] at a1
  have a0:=h.tab.len
  unfold bZ
  split
  ·have:(jP (aG t (cF D e.name)) X.ino).inodes.length≤(aG t (cF D e.name)).inodes.length:=lN2 _ _
   have e4:(aG t (cF D e.name)).inodes.length=(bR t.inodes (cF D e.name)).length:=rfl
   omega
  ·have a3:=mK up1 (pU X)
   have a4:((aG t (cF D e.name)).inodes.find? fun y=>decide (y.ino=(pU X).ino))=some X:=hXD
   rw [a4] at a3
   simp only [lQ2,lN] at a3
   have e4:(aG t (cF D e.name)).inodes.length=(bR t.inodes (cF D e.name)).length:=rfl
   show (bR (aG t (cF D e.name)).inodes (pU X)).length≤30
   omega
 have next':(bZ t D e.name X).next=t.next:=by unfold bZ; split <;> rfl
 have root1:X.ino≠1:=by
  have:=((bQ h s.mem).ok e he).2.1
  omega
 refine vK ⟨len',by rw [next']; exact h.tab.next,fun x hx=>?_,up',?_⟩ (fun x hx=>?_) (fun x hx f hf=>?_) fun x hx=>?_
 ·rw [next']
  rcases mem' x hx with ⟨rfl,hl⟩ | rfl | ⟨hx,_⟩
  ·refine ⟨?_,okX.2⟩
   obtain ⟨b1,b2,b3,b4,b5,b6,b7⟩:=okX.1
   have:X.links≠0:=fun h0=>root1 (b3.1 h0)
   refine ⟨b1,by show 0≤X.links-1∧X.links-1≤1000; omega,?_,b4,b5,b6,.inl ⟨hk1.resolve_right hl,hE⟩⟩
   show X.links-1=0↔X.ino=1
   constructor
   ·intro h0; omega
   ·intro h0; exact absurd h0 root1
  ·exact ⟨vL okD.1 _,okD.2⟩
  ·exact h.tab.ok x hx
 ·obtain ⟨r,r1,r2,_⟩:=eM h
  by_cases hr:(1:Int)=D.ino
  ·exact ⟨cF D e.name,by rw [map',lJ (Ne.symm root1),lG hr],s.kind⟩
  ·exact ⟨r,by rw [map',lJ (Ne.symm root1),lJ hr]; exact r1,r2⟩
 ·have a1:=lk x.ino
  rcases mem' x hx with ⟨rfl,hl⟩ | rfl | ⟨hx,n1,_⟩
  ·have e5:(pU X).ino=X.ino:=rfl
   rw [e5] at a1 ⊢
   rw [lG X2.symm] at a1
   show _=X.links-1
   omega
  ·have e5:(cF D e.name).ino=D.ino:=rfl
   rw [e5] at a1 ⊢
   rw [lJ (by rw [← X2]; exact hne)] at a1
   have:=h.links D s.mem
   show _=D.links
   omega
  ·rw [lJ (by rw [← X2]; exact Ne.symm n1)] at a1
   have:=h.links x hx
   omega
 ·have old:∃ y ∈ t.inodes,f ∈ y.ents:=by
   rcases mem' x hx with ⟨rfl,_⟩ | rfl | ⟨hx,_⟩
   ·exact ⟨X,X1,hf⟩
   ·exact ⟨D,s.mem,(mem_cutK.1 hf).1⟩
   ·exact ⟨x,hx,hf⟩
  obtain ⟨y,hy,hfy⟩:=old
  rw [map']
  by_cases h1:f.ino=X.ino
  ·rw [lG h1]
   split
   ·rename_i hl
    exfalso
    have a1:=lk X.ino
    rw [lG X2.symm] at a1
    have hk:x.kind=2:=by
     rcases mem' x hx with ⟨rfl,_⟩ | rfl | ⟨hx,_⟩
     ·exact absurd hf (by show ¬ f ∈ X.ents; rw [hE]; simp)
     ·exact s.kind
     ·apply Classical.byContradiction
      intro hk
      rw [(nY h hx hk).1] at hf
      exact absurd hf (by simp)
    exact aiK (t:=bZ t D e.name X) (i:=X.ino) (by omega) hx hk hf h1
   ·rfl
  ·rw [lJ h1]
   split
   ·rfl
   ·exact h.there y hy f hfy
 ·have other:∀ y,y ∈ t.inodes→y.ino≠X.ino→∃ l,aQ (aC (bZ t D e.name X)) l 1=some y.ino:=by
   intro y hy hn
   obtain ⟨l,hl⟩:=gG h hy
   refine ⟨l,?_⟩
   rw [wk,lJ,hl]
   rintro rfl
   rw [cG,s.at'] at hl
   obtain ⟨z,z1,z2,z3,z4⟩:=(gS _ _ _ _).1 hl
   rw [hD] at z1
   injection z1 with z1
   subst z1
   rw [eL (bQ h s.mem).up he] at z3
   exact hn (by rw [← z3,X2])
  rcases mem' x hx with ⟨rfl,hl⟩ | rfl | ⟨hx,n1,_⟩
  ·have a1:=lk X.ino
   rw [lG X2.symm] at a1
   have hpos:X.links≠0:=fun h0=>root1 (okX.1.root.1 h0)
   obtain ⟨y,hy,ky,f,hf,e5⟩:=aeX (t:=bZ t D e.name X) (i:=X.ino) (by omega)
   have hyX:y.ino≠X.ino:=by
    intro hc
    have hy':=(qV up' y).1 hy
    rw [map',lG hc,lJ hl] at hy'
    injection hy' with hy'
    rw [← hy'] at hf
    exact absurd hf (by show ¬ f ∈ X.ents; rw [hE]; simp)
   have hyo:∃ y' ∈ t.inodes,y'.ino=y.ino:=by
    rcases mem' y hy with ⟨h6,_⟩ | rfl | ⟨h6,_⟩
    ·exact absurd (by rw [h6]; rfl) hyX
    ·exact ⟨D,s.mem,rfl⟩
    ·exact ⟨y,h6,rfl⟩
   obtain ⟨y',hy',ey⟩:=hyo
   obtain ⟨l,hl'⟩:=other y' hy' (by rw [ey]; exact hyX)
   refine ⟨l++[f.name],?_⟩
   rw [cG,hl',ey]
   have upy:UpK Ent.name y.ents:=by
    rcases mem' y hy with ⟨h6,_⟩ | rfl | ⟨h6,_⟩
    ·exact absurd (by rw [h6]; rfl) hyX
    ·exact rX (bQ h s.mem).up _
    ·exact (bQ h h6).up
   refine (gS _ _ _ _).2 ⟨y,(qV up' y).1 hy,ky,by rw [eL upy hf]; exact e5,?_⟩
   show X.ino≠0
   have:=okX.1.ino
   omega
  ·exact other D s.mem (Ne.symm hne)
  ·exact other x hx n1
def aap (i k:Int):Inode:={ ino:=i,kind:=k,links:=1,data:=[],ents:=[],attrs:=[] }
def n4 (t:Tab) (D:Inode) (n:aA) (k:Int):Tab:={ inodes:=(aG (aG t (c5 D n t.next)) (aap t.next k)).inodes,next:=t.next+1 }
theorem abM {t:Tab} (h:TreeOk t) {D:Inode} {d:List aA} (s:Spot t D d) {n:aA} {k:Int} (hn:aZ n=true) (hf:bB D n=0) (hl:D.ents.length<10) (hi:t.inodes.length<30)
  (hx:t.next<1000) (hk:k=1∨k=2) :
  TreeOk (n4 t D n k)∧(∀ l,aQ (aC (n4 t D n k)) l 1=if l=d++[n] then some t.next else aQ (aC t) l 1) ∧
  (∀ i,aC (n4 t D n k) i=if i=t.next then some (aap t.next k) else if i=D.ino then some (c5 D n t.next) else aC t i):=by
 have hD:=f0 h s.mem
 have hfn:∀ e ∈ D.ents,e.name≠n:=(adE (pS h s.mem)).1 hf
 have hnext:aC t t.next=none:=by
  cases e:aC t t.next with
  | none=>rfl
  | some y=>
   obtain ⟨y1,y2⟩:=aM e
   have:=(h.tab.ok y y1).2
   omega
 have hne:D.ino≠t.next:=by have:=(h.tab.ok D s.mem).2; omega
 have up1:=f4 h.tab.up (c5 D n t.next)
 have up':UpI (n4 t D n k).inodes:=f4 up1 (aap t.next k)
 have map1:∀ i,aC (aG t (c5 D n t.next)) i=if D.ino=i then some (c5 D n t.next) else aC t i:=fun i=>cC h.tab.up _ i
 have map':∀ i,aC (n4 t D n k) i=if i=t.next then some (aap t.next k) else if i=D.ino then some (c5 D n t.next) else aC t i:=by
  intro i
  have e0:aC (n4 t D n k) i=aC (aG (aG t (c5 D n t.next)) (aap t.next k)) i:=rfl
  rw [e0,cC up1,map1]
  show (if t.next=i then _ else _)=_
  by_cases h1:i=t.next
  ·rw [lG h1.symm,lG h1]
  ·rw [lJ (Ne.symm h1),lJ h1]
   by_cases h2:i=D.ino
   ·rw [lG h2.symm,lG h2]
   ·rw [lJ (Ne.symm h2),lJ h2]
 have zN:∀ m,bB (aap t.next k) m=0:=fun m=>rfl
 have st:∀ i m,i≠D.ino∨m≠n→bY (aC (n4 t D n k)) i m=bY (aC t) i m:=by
  intro i m him
  by_cases h1:i=t.next
  ·rw [aY (x:=aap t.next k) (by rw [map',lG h1]) m,lJ (by simp [zN]),bY,h1,hnext]
  ·by_cases h2:i=D.ino
   ·have hm:=him.resolve_left (by simp [h2])
    rw [aY (x:=c5 D n t.next) (by rw [map',lJ h1,lG h2]) m,aY (M:=aC t) (x:=D) (by rw [h2]; exact hD) m]
    have:bB (c5 D n t.next) m=bB D m:=by unfold c5; rw [j9 (bQ h s.mem).up hfn,if_neg hm]
    rw [this]; rfl
   ·exact mL (by rw [map',lJ h1,lJ h2]) m
 have hn2:=h.tab.next
 have stn:bY (aC (n4 t D n k)) D.ino n=some t.next:=by
  rw [aY (x:=c5 D n t.next) (by rw [map',lJ hne,lG rfl]) n]
  have:bB (c5 D n t.next) n=t.next:=by unfold c5; rw [j9 (bQ h s.mem).up hfn,if_pos rfl]
  rw [this,lG ⟨s.kind,by omega⟩]
 have hu:=gH h s
 have hd:cM (bY (aC t)) d 1=some D.ino:=by rw [← cN]; exact s.at'
 have off:bY (aC t) D.ino n=none:=by rw [aY hD,hf,lJ (by simp)]
 have wk:∀ l,aQ (aC (n4 t D n k)) l 1=if l=d++[n] then some t.next else aQ (aC t) l 1:=by
  intro l
  rw [cN,cN]
  by_cases hp:(d++[n]) <+: l
  ·obtain ⟨b,rfl⟩:=hp
   have e1:d++[n]++b=d++n::b:=by simp
   rw [e1,qU st hu hd,stn]
   cases b with
   | nil=>rw [lG (by simp)]; rfl
   | cons m b=>
    rw [lJ (by simp)]
    show (bY (aC (n4 t D n k)) t.next m).bind _=_
    rw [aY (x:=aap t.next k) (by rw [map',lG rfl]) m,lJ (by simp [zN]),dC,hd]
    show none=(bY (aC t) D.ino n).bind _
    rw [off]; rfl
  ·rw [fD st hu hp,lJ (by rintro rfl; exact hp (List.prefix_refl _))]
 have wn:aQ (aC t) (d++[n]) 1=none:=by
  rw [cN,dC,hd]
  show (bY (aC t) D.ino n).bind _=none
  rw [off]; rfl
 refine ⟨?_,wk,map'⟩
 have nN:eS (aap t.next k)=[]:=by unfold eS; split <;> rfl
 have lk:∀ i,bA (n4 t D n k) i=bA t i+if t.next=i then 1 else 0:=by
  intro i
  have a1:=fU h.tab.up (c5 D n t.next) i
  have a2:=jH D.ents ⟨n,t.next⟩ i
  have a3:aC t (c5 D n t.next).ino=some D:=hD
  have a4:=fU up1 (aap t.next k) i
  have a5:aC (aG t (c5 D n t.next)) (aap t.next k).ino=none:=by rw [map1]; exact (lJ hne).trans hnext
  rw [a3] at a1
  rw [a5] at a4
  have b1:eS (c5 D n t.next)=(dD D.ents ⟨n,t.next⟩).map Ent.ino:=by rw [eS,lG (show (c5 D n t.next).kind=2 from s.kind)]; rfl
  have b2:eS D=D.ents.map Ent.ino:=by rw [eS,lG s.kind]
  simp only [lC,lY,lQ,Option.getD_none,b1,b2,nN,List.count_nil] at a1 a4
  have e0:bA (n4 t D n k) i=bA (aG (aG t (c5 D n t.next)) (aap t.next k)) i:=rfl
  have a2':(List.map Ent.ino (dD D.ents ⟨n,t.next⟩)).count i=(D.ents.map Ent.ino).count i+if t.next=i then 1 else 0:=a2
  omega
 have l0:bA t t.next=0:=by
  apply Nat.eq_zero_of_not_pos
  intro hp
  obtain ⟨y,hy,_,f,hf',e⟩:=aeX hp
  have:=h.there y hy f hf'
  rw [e,hnext] at this
  exact absurd this (by simp)
 have mem':∀ x,x ∈ (n4 t D n k).inodes→x=aap t.next k∨x=c5 D n t.next∨(x ∈ t.inodes∧x.ino≠t.next∧x.ino≠D.ino):=by
  intro x hx
  have hx':=(qV up' x).1 hx
  rw [map'] at hx'
  split at hx'
  ·injection hx' with hx'; exact .inl hx'.symm
  ·split at hx'
   ·injection hx' with hx'; exact .inr (.inl hx'.symm)
   ·rename_i n1 n2
    exact .inr (.inr ⟨(aM hx').1,n1,n2⟩)
 have okD:=h.tab.ok D s.mem
 have len':(n4 t D n k).inodes.length≤30:=by
  have a1:=mK h.tab.up (c5 D n t.next)
  have a2:(t.inodes.find? fun y=>decide (y.ino=(c5 D n t.next).ino))=some D:=hD
  rw [a2] at a1
  simp only [lQ2,lN] at a1
  have a3:=mK up1 (aap t.next k)
  have e4:(aG t (c5 D n t.next)).inodes.length=(bR t.inodes (c5 D n t.next)).length:=rfl
  show (bR (aG t (c5 D n t.next)).inodes (aap t.next k)).length≤30
  omega
 refine vK ⟨len',by show 2≤t.next+1∧t.next+1≤1000; omega,fun x hx'=>?_,up',?_⟩ (fun x hx'=>?_) (fun x hx' f hf'=>?_) fun x hx'=>?_
 ·show InodeOk x∧x.ino<t.next+1
  rcases mem' x hx' with rfl | rfl | ⟨hx',_⟩
  ·refine ⟨⟨by show 1≤t.next∧t.next≤1000; omega,by show (0:Int)≤1∧(1:Int)≤1000; omega,?_,by show 0≤100; omega,⟨by show 0≤10; omega,fun e he=>absurd he (by simp [aap]),List.Pairwise.nil⟩,⟨by show 0≤4; omega,fun e he=>absurd he (by simp [aap]),List.Pairwise.nil⟩,?_⟩,by show t.next<t.next+1; omega⟩
   ·show (1:Int)=0↔t.next=1
    constructor
    ·intro h0; omega
    ·intro h0; omega
   ·rcases hk with rfl | rfl
    ·exact .inl ⟨rfl,rfl⟩
    ·exact .inr ⟨rfl,rfl,by show (1:Int)≤1; omega⟩
  ·refine ⟨vM okD.1 s.kind hn ⟨hn2.1,hn2.2⟩ hl hfn,?_⟩
   have:=okD.2
   show D.ino<t.next+1
   omega
  ·have:=h.tab.ok x hx'
   exact ⟨this.1,by omega⟩
 ·obtain ⟨r,r1,r2,_⟩:=eM h
  have n1:(1:Int)≠t.next:=by omega
  by_cases hr:(1:Int)=D.ino
  ·exact ⟨c5 D n t.next,by rw [map',lJ n1,lG hr],s.kind⟩
  ·exact ⟨r,by rw [map',lJ n1,lJ hr]; exact r1,r2⟩
 ·rw [lk]
  rcases mem' x hx' with rfl | rfl | ⟨hx',n1,_⟩
  ·show ((bA t t.next+(if t.next=t.next then 1 else 0):Nat):Int)=1
   rw [l0,lG rfl]; rfl
  ·have e5:(c5 D n t.next).ino=D.ino:=rfl
   rw [e5,lJ (Ne.symm hne)]
   exact h.links D s.mem
  ·rw [lJ (Ne.symm n1)]
   exact h.links x hx'
 ·rw [map']
  have old:f.ino=t.next∨∃ y ∈ t.inodes,f ∈ y.ents:=by
   rcases mem' x hx' with rfl | rfl | ⟨hx',_⟩
   ·exact absurd hf' (by simp [aap])
   ·rcases mem_putK.1 hf' with rfl | hf'
    ·exact .inl rfl
    ·exact .inr ⟨D,s.mem,hf'⟩
   ·exact .inr ⟨x,hx',hf'⟩
  rcases old with e | ⟨y,hy,hfy⟩
  ·rw [lG e]; rfl
  ·have:=h.there y hy f hfy
   split
   ·rfl
   ·split
    ·rfl
    ·exact this
 ·have other:∀ y,y ∈ t.inodes→∃ l,aQ (aC (n4 t D n k)) l 1=some y.ino:=by
   intro y hy
   obtain ⟨l,hl'⟩:=gG h hy
   refine ⟨l,?_⟩
   rw [wk,lJ,hl']
   rintro rfl
   rw [wn] at hl'
   exact absurd hl' (by simp)
  rcases mem' x hx' with rfl | rfl | ⟨hx',_⟩
  ·exact ⟨d++[n],by rw [wk,lG rfl]; rfl⟩
  ·exact other D s.mem
  ·exact other x hx'
theorem rY {α:Type} (f:α→Nat) (l:List α) (c:Nat) (h:∀ x ∈ l,f x≤c):(l.map f).sum≤l.length*c:=by
 induction l with
 | nil=>simp
 | cons x l ih=>
  have a:=h x (by simp)
  have b:=ih fun y hy=>h y (by simp [hy])
  rw [lP,lB2,lV,lL3]
  omega
theorem akN {t:Tab} (h:TabOk t) (i:Int):bA t i≤300:=by
 have a:=rY (fun x:Inode=>(eS x).count i) t.inodes 10 fun x hx=>by
  have h1:=(h.ok x hx).1.ents.len
  have h2:(eS x).count i≤(eS x).length:=List.count_le_length
  have h3:(eS x).length≤x.ents.length:=by unfold eS; split <;> simp
  omega
 have b:=h.len
 have c:bA t i=(t.inodes.map fun x:Inode=>(eS x).count i).sum:=rfl
 have:t.inodes.length*10≤30*10:=lH1 10 b
 omega
def iD (X:Inode):Inode:={ X with links:=X.links+1 }
def m9 (t:Tab) (D:Inode) (n:aA) (X:Inode):Tab:=aG (aG t (c5 D n X.ino)) (iD X)
theorem abN {t:Tab} (h:TreeOk t) {D X:Inode} {d:List aA} (s:Spot t D d) {n:aA} (hn:aZ n=true) (hf:bB D n=0) (hl:D.ents.length<10) (X1:X ∈ t.inodes) (kX:X.kind=1) :
  TreeOk (m9 t D n X)∧(∀ l,aQ (aC (m9 t D n X)) l 1=if l=d++[n] then some X.ino else aQ (aC t) l 1) ∧
  (∀ i,aC (m9 t D n X) i=if i=X.ino then some (iD X) else if i=D.ino then some (c5 D n X.ino) else aC t i):=by
 have hD:=f0 h s.mem
 have hX:=f0 h X1
 have kX2:¬ X.kind=2:=by omega
 have hE:=(nY h X1 kX2).1
 have hfn:∀ e ∈ D.ents,e.name≠n:=(adE (pS h s.mem)).1 hf
 have okX:=h.tab.ok X X1
 have okD:=h.tab.ok D s.mem
 have root1:X.ino≠1:=by
  obtain ⟨r,r1,r2,_⟩:=eM h
  intro hc
  rw [hc,r1] at hX
  injection hX with hX
  rw [hX] at r2
  omega
 have hne:D.ino≠X.ino:=by
  intro hc
  rw [← hc,hD] at hX
  injection hX with hX
  have:=s.kind
  rw [hX] at this
  omega
 have up1:=f4 h.tab.up (c5 D n X.ino)
 have up':UpI (m9 t D n X).inodes:=f4 up1 (iD X)
 have map1:∀ i,aC (aG t (c5 D n X.ino)) i=if D.ino=i then some (c5 D n X.ino) else aC t i:=fun i=>cC h.tab.up _ i
 have map':∀ i,aC (m9 t D n X) i=if i=X.ino then some (iD X) else if i=D.ino then some (c5 D n X.ino) else aC t i:=by
  intro i
  unfold m9
  rw [cC up1,map1]
  show (if X.ino=i then _ else _)=_
  by_cases h1:i=X.ino
  ·rw [lG h1.symm,lG h1]
  ·rw [lJ (Ne.symm h1),lJ h1]
   by_cases h2:i=D.ino
   ·rw [lG h2.symm,lG h2]
   ·rw [lJ (Ne.symm h2),lJ h2]
 have st:∀ i m,i≠D.ino∨m≠n→bY (aC (m9 t D n X)) i m=bY (aC t) i m:=by
  intro i m him
  by_cases h1:i=X.ino
  ·rw [aY (x:=iD X) (by rw [map',lG h1]) m,aY (M:=aC t) (x:=X) (by rw [h1]; exact hX) m]; rfl
  ·by_cases h2:i=D.ino
   ·have hm:=him.resolve_left (by simp [h2])
    rw [aY (x:=c5 D n X.ino) (by rw [map',lJ h1,lG h2]) m,aY (M:=aC t) (x:=D) (by rw [h2]; exact hD) m]
    have:bB (c5 D n X.ino) m=bB D m:=by unfold c5; rw [j9 (bQ h s.mem).up hfn,if_neg hm]
    rw [this]; rfl
   ·exact mL (by rw [map',lJ h1,lJ h2]) m
 have hx1:=okX.1.ino
 have stn:bY (aC (m9 t D n X)) D.ino n=some X.ino:=by
  rw [aY (x:=c5 D n X.ino) (by rw [map',lJ hne,lG rfl]) n]
  have:bB (c5 D n X.ino) n=X.ino:=by unfold c5; rw [j9 (bQ h s.mem).up hfn,if_pos rfl]
  rw [this,lG ⟨s.kind,by omega⟩]
 have hu:=gH h s
 have hd:cM (bY (aC t)) d 1=some D.ino:=by rw [← cN]; exact s.at'
 have off:bY (aC t) D.ino n=none:=by rw [aY hD,hf,lJ (by simp)]
 have wk:∀ l,aQ (aC (m9 t D n X)) l 1=if l=d++[n] then some X.ino else aQ (aC t) l 1:=by
  intro l
  rw [cN,cN]
  by_cases hp:(d++[n]) <+: l
  ·obtain ⟨b,rfl⟩:=hp
   have e1:d++[n]++b=d++n::b:=by simp
   rw [e1,qU st hu hd,stn]
   cases b with
   | nil=>rw [lG (by simp)]; rfl
   | cons m b=>
    rw [lJ (by simp)]
    show (bY (aC (m9 t D n X)) X.ino m).bind _=_
    rw [aY (x:=iD X) (by rw [map',lG rfl]) m,lJ (by show ¬ (X.kind=2∧_); simp [kX2]),dC,hd]
    show none=(bY (aC t) D.ino n).bind _
    rw [off]; rfl
  ·rw [fD st hu hp,lJ (by rintro rfl; exact hp (List.prefix_refl _))]
 have wn:aQ (aC t) (d++[n]) 1=none:=by
  rw [cN,dC,hd]
  show (bY (aC t) D.ino n).bind _=none
  rw [off]; rfl
 refine ⟨?_,wk,map'⟩
 have nX:eS X=[]:=by rw [eS,lJ kX2]
 have nM:eS (iD X)=[]:=nX
 have lk:∀ i,bA (m9 t D n X) i=bA t i+if X.ino=i then 1 else 0:=by
  intro i
  have a1:=fU h.tab.up (c5 D n X.ino) i
  have a2:(List.map Ent.ino (dD D.ents ⟨n,X.ino⟩)).count i=(D.ents.map Ent.ino).count i+if X.ino=i then 1 else 0:=jH D.ents ⟨n,X.ino⟩ i
  have a3:aC t (c5 D n X.ino).ino=some D:=hD
  have a4:=fU up1 (iD X) i
  have a5:aC (aG t (c5 D n X.ino)) (iD X).ino=some X:=by rw [map1]; exact (lJ hne).trans hX
  rw [a3] at a1
  rw [a5] at a4
  have b1:eS (c5 D n X.ino)=(dD D.ents ⟨n,X.ino⟩).map Ent.ino:=by rw [eS,lG (show (c5 D n X.ino).kind=2 from s.kind)]; rfl
  have b2:eS D=D.ents.map Ent.ino:=by rw [eS,lG s.kind]
  simp only [lC,lY,b1,b2,nX,nM,List.count_nil] at a1 a4
  have e0:bA (m9 t D n X) i=bA (aG (aG t (c5 D n X.ino)) (iD X)) i:=rfl
  omega
 have lX:=h.links X X1
 have mem':∀ x,x ∈ (m9 t D n X).inodes→x=iD X∨x=c5 D n X.ino∨(x ∈ t.inodes∧x.ino≠X.ino∧x.ino≠D.ino):=by
  intro x hx
  have hx':=(qV up' x).1 hx
  rw [map'] at hx'
  split at hx'
  ·injection hx' with hx'; exact .inl hx'.symm
  ·split at hx'
   ·injection hx' with hx'; exact .inr (.inl hx'.symm)
   ·rename_i n1 n2
    exact .inr (.inr ⟨(aM hx').1,n1,n2⟩)
 have len':(m9 t D n X).inodes.length≤30:=by
  have a0:=h.tab.len
  have a1:=mK h.tab.up (c5 D n X.ino)
  have a2:(t.inodes.find? fun y=>decide (y.ino=(c5 D n X.ino).ino))=some D:=hD
  rw [a2] at a1
  simp only [lQ2,lN] at a1
  have a3:=mK up1 (iD X)
  have a4:((aG t (c5 D n X.ino)).inodes.find? fun y=>decide (y.ino=(iD X).ino))=some X:=by
   show aC (aG t (c5 D n X.ino)) X.ino=some X
   rw [map1,lJ hne]; exact hX
  rw [a4] at a3
  simp only [lQ2,lN] at a3
  have e4:(aG t (c5 D n X.ino)).inodes.length=(bR t.inodes (c5 D n X.ino)).length:=rfl
  show (bR (aG t (c5 D n X.ino)).inodes (iD X)).length≤30
  omega
 refine vK ⟨len',h.tab.next,fun x hx'=>?_,up',?_⟩ (fun x hx'=>?_) (fun x hx' f hf'=>?_) fun x hx'=>?_
 ·show InodeOk x∧x.ino<t.next
  rcases mem' x hx' with rfl | rfl | ⟨hx',_⟩
  ·refine ⟨?_,okX.2⟩
   obtain ⟨b1,b2,b3,b4,b5,b6,b7⟩:=okX.1
   have hb:=akN h.tab X.ino
   refine ⟨b1,by show 0≤X.links+1∧X.links+1≤1000; omega,?_,b4,b5,b6,.inl ⟨kX,hE⟩⟩
   show X.links+1=0↔X.ino=1
   constructor
   ·intro h0; omega
   ·intro h0; exact absurd h0 root1
  ·have he:X.links≠0:=fun h0=>root1 (okX.1.root.1 h0)
   exact ⟨vM okD.1 s.kind hn ⟨by omega,hx1.2⟩ hl hfn,okD.2⟩
  ·exact h.tab.ok x hx'
 ·obtain ⟨r,r1,r2,_⟩:=eM h
  by_cases hr:(1:Int)=D.ino
  ·exact ⟨c5 D n X.ino,by rw [map',lJ (Ne.symm root1),lG hr],s.kind⟩
  ·exact ⟨r,by rw [map',lJ (Ne.symm root1),lJ hr]; exact r1,r2⟩
 ·rw [lk]
  rcases mem' x hx' with rfl | rfl | ⟨hx',n1,_⟩
  ·show ((bA t X.ino+(if X.ino=X.ino then 1 else 0):Nat):Int)=X.links+1
   rw [lG rfl]; omega
  ·have e5:(c5 D n X.ino).ino=D.ino:=rfl
   rw [e5,lJ (Ne.symm hne)]
   exact h.links D s.mem
  ·rw [lJ (Ne.symm n1)]
   exact h.links x hx'
 ·rw [map']
  have old:f.ino=X.ino∨∃ y ∈ t.inodes,f ∈ y.ents:=by
   rcases mem' x hx' with rfl | rfl | ⟨hx',_⟩
   ·exact .inr ⟨X,X1,hf'⟩
   ·rcases mem_putK.1 hf' with rfl | hf'
    ·exact .inl rfl
    ·exact .inr ⟨D,s.mem,hf'⟩
   ·exact .inr ⟨x,hx',hf'⟩
  rcases old with e | ⟨y,hy,hfy⟩
  ·rw [lG e]; rfl
  ·have:=h.there y hy f hfy
   split
   ·rfl
   ·split
    ·rfl
    ·exact this
 ·have other:∀ y,y ∈ t.inodes→∃ l,aQ (aC (m9 t D n X)) l 1=some y.ino:=by
   intro y hy
   obtain ⟨l,hl'⟩:=gG h hy
   refine ⟨l,?_⟩
   rw [wk,lJ,hl']
   rintro rfl
   rw [wn] at hl'
   exact absurd hl' (by simp)
  rcases mem' x hx' with rfl | rfl | ⟨hx',_⟩
  ·exact other X X1
  ·exact other D s.mem
  ·exact other x hx'
def fZ (D1 D2:Inode) (n1:aA):Inode:=if D1.ino=D2.ino then cF D1 n1 else D2
def kI (t:Tab) (D1 D2:Inode) (n1 n2:aA) (j:Int):Tab:=aG (aG t (cF D1 n1)) (c5 (fZ D1 D2 n1) n2 j)
theorem aiL {t:Tab} (h:TreeOk t) {D1 D2:Inode} {d1 d2:List aA} (s1:Spot t D1 d1) (s2:Spot t D2 d2) {e:Ent} (he:e ∈ D1.ents) {n2:aA} (hn:aZ n2=true) (hf:bB D2 n2=0)
  (hl:D2.ents.length<10∨D1.ino=D2.ino) (hb:¬ (d1++[e.name]) <+: (d2++[n2])) :
  TreeOk (kI t D1 D2 e.name n2 e.ino)∧(∀ b,aQ (aC (kI t D1 D2 e.name n2 e.ino)) (d2++n2::b) 1=aQ (aC t) (d1++e.name::b) 1) ∧
  (∀ l,¬ (d2++[n2]) <+: l→aQ (aC (kI t D1 D2 e.name n2 e.ino)) l 1=if (d1++[e.name]).isPrefixOf l then none else aQ (aC t) l 1) ∧
  (∀ b,aQ (aC t) (d2++n2::b) 1=none) ∧
  (∀ i,aC (kI t D1 D2 e.name n2 e.ino) i=if i=D2.ino then some (c5 (fZ D1 D2 e.name) n2 e.ino) else if i=D1.ino then some (cF D1 e.name) else aC t i):=by
 have hD1:=f0 h s1.mem
 have hD2:=f0 h s2.mem
 have same:D1.ino=D2.ino→D1=D2:=fun hc=>by rw [hc,hD2] at hD1; injection hD1 with hD1; exact hD1.symm
 have okD1:=h.tab.ok D1 s1.mem
 have okD2:=h.tab.ok D2 s2.mem
 have eok:=(bQ h s1.mem).ok e he
 have mk:(fZ D1 D2 e.name).kind=2:=by unfold fZ; split; exact s1.kind; exact s2.kind
 have mi:(fZ D1 D2 e.name).ino=D2.ino:=by unfold fZ; split; (rename_i hc; exact hc); rfl
 have ml:(fZ D1 D2 e.name).links=D2.links:=by
  unfold fZ; split
  ·rename_i hc; show D1.links=D2.links; rw [same hc]
  ·rfl
 have mok:InodeOk (fZ D1 D2 e.name):=by unfold fZ; split; exact vL okD1.1 _; exact okD2.1
 have msub:∀ f ∈ (fZ D1 D2 e.name).ents,f ∈ D2.ents:=by
  intro f hf'
  unfold fZ at hf'
  split at hf'
  ·rename_i hc; rw [← same hc]; exact (mem_cutK.1 hf').1
  ·exact hf'
 have mlen:(fZ D1 D2 e.name).ents.length<10:=by
  unfold fZ
  split
  ·have a:=akM (bQ h s1.mem).up he
   have b:=(bQ h s1.mem).len
   show (cY D1.ents e.name).length<10
   unfold cY; omega
  ·rename_i hc; exact hl.resolve_right hc
 have hf2:∀ f ∈ D2.ents,f.name≠n2:=(adE (pS h s2.mem)).1 hf
 have mfn:∀ f ∈ (fZ D1 D2 e.name).ents,f.name≠n2:=fun f hf'=>hf2 f (msub f hf')
 have up1:=f4 h.tab.up (cF D1 e.name)
 have up':UpI (kI t D1 D2 e.name n2 e.ino).inodes:=f4 up1 _
 have map1:∀ i,aC (aG t (cF D1 e.name)) i=if D1.ino=i then some (cF D1 e.name) else aC t i:=fun i=>cC h.tab.up _ i
 have at2:aC (aG t (cF D1 e.name)) D2.ino=some (fZ D1 D2 e.name):=by
  rw [map1]
  unfold fZ
  split
  ·rfl
  ·exact hD2
 have pi:(c5 (fZ D1 D2 e.name) n2 e.ino).ino=D2.ino:=mi
 have map':∀ i,aC (kI t D1 D2 e.name n2 e.ino) i=if i=D2.ino then some (c5 (fZ D1 D2 e.name) n2 e.ino) else if i=D1.ino then some (cF D1 e.name) else aC t i:=by
  intro i
  unfold kI
  rw [cC up1,map1,pi]
  by_cases h1:i=D2.ino
  ·rw [lG h1.symm,lG h1]
  ·rw [lJ (Ne.symm h1),lJ h1]
   by_cases h2:i=D1.ino
   ·rw [lG h2.symm,lG h2]
   ·rw [lJ (Ne.symm h2),lJ h2]
 have st1:∀ i m,i≠D1.ino∨m≠e.name→bY (aC (aG t (cF D1 e.name))) i m=bY (aC t) i m:=by
  intro i m him
  by_cases h2:i=D1.ino
  ·have hm:=him.resolve_left (by simp [h2])
   rw [aY (x:=cF D1 e.name) (by rw [map1,lG h2.symm]) m,aY (M:=aC t) (x:=D1) (by rw [h2]; exact hD1) m]
   have:bB (cF D1 e.name) m=bB D1 m:=by unfold cF; rw [nZ,if_neg hm]
   rw [this]; rfl
  ·exact mL (by rw [map1,lJ (Ne.symm h2)]) m
 have sn1:bY (aC (aG t (cF D1 e.name))) D1.ino e.name=none:=by
  rw [aY (x:=cF D1 e.name) (by rw [map1,lG rfl]) e.name]
  have:bB (cF D1 e.name) e.name=0:=by unfold cF; rw [nZ,if_pos rfl]
  rw [this,lJ (by simp)]
 have st2:∀ i m,i≠D2.ino∨m≠n2→bY (aC (kI t D1 D2 e.name n2 e.ino)) i m=bY (aC (aG t (cF D1 e.name))) i m:=by
  intro i m him
  by_cases h2:i=D2.ino
  ·have hm:=him.resolve_left (by simp [h2])
   rw [aY (x:=c5 (fZ D1 D2 e.name) n2 e.ino) (by rw [map',lG h2]) m,aY (M:=aC (aG t (cF D1 e.name))) (x:=fZ D1 D2 e.name) (by rw [h2]; exact at2) m]
   have:bB (c5 (fZ D1 D2 e.name) n2 e.ino) m=bB (fZ D1 D2 e.name) m:=by unfold c5; rw [j9 mok.ents.up mfn,if_neg hm]
   rw [this]; rfl
  ·exact mL (by rw [map',lJ h2,map1]; by_cases h3:i=D1.ino; (rw [lG h3,lG h3.symm]); (rw [lJ h3,lJ (Ne.symm h3)])) m
 have sn2:bY (aC (kI t D1 D2 e.name n2 e.ino)) D2.ino n2=some e.ino:=by
  rw [aY (x:=c5 (fZ D1 D2 e.name) n2 e.ino) (by rw [map',lG rfl]) n2]
  have:bB (c5 (fZ D1 D2 e.name) n2 e.ino) n2=e.ino:=by unfold c5; rw [j9 mok.ents.up mfn,if_pos rfl]
  rw [this,lG ⟨mk,by omega⟩]
 have hu1:=gH h s1
 have hu2:=gH h s2
 have hd1:cM (bY (aC t)) d1 1=some D1.ino:=by rw [← cN]; exact s1.at'
 have hd2:cM (bY (aC t)) d2 1=some D2.ino:=by rw [← cN]; exact s2.at'
 have on1:bY (aC t) D1.ino e.name=some e.ino:=by
  rw [aY hD1,eL (bQ h s1.mem).up he,lG ⟨s1.kind,pS h s1.mem e he⟩]
 have off2:bY (aC t) D2.ino n2=none:=by rw [aY hD2,hf,lJ (by simp)]
 have thru:∀ b,cM (bY (aC t)) (d1++e.name::b) 1=cM (bY (aC t)) b e.ino:=by
  intro b
  rw [dC,hd1]
  show (bY (aC t) D1.ino e.name).bind _=_
  rw [on1]; rfl
 have w1:∀ l,cM (bY (aC (aG t (cF D1 e.name)))) l 1=if (d1++[e.name]).isPrefixOf l then none else cM (bY (aC t)) l 1:=by
  intro l
  by_cases hp:(d1++[e.name]) <+: l
  ·rw [lG (lT2.2 hp)]
   obtain ⟨b,rfl⟩:=hp
   have e1:d1++[e.name]++b=d1++e.name::b:=by simp
   rw [e1,qU st1 hu1 hd1,sn1]; rfl
  ·rw [lJ (by rw [lT2]; exact hp),fD st1 hu1 hp]
 have npd2:¬ (d1++[e.name]) <+: d2:=fun hp=>hb (hp.trans (List.prefix_append _ _))
 have hd2':cM (bY (aC (aG t (cF D1 e.name)))) d2 1=some D2.ino:=by rw [w1,lJ (by rw [lT2]; exact npd2),hd2]
 have hu2':∀ a,cM (bY (aC (aG t (cF D1 e.name)))) a 1=some D2.ino→a=d2:=by
  intro a ha
  rw [w1] at ha
  split at ha
  ·exact absurd ha (by simp)
  ·exact hu2 a ha
 have far1:∀ a,cM (bY (aC t)) a e.ino≠some D1.ino:=by
  intro a ha
  rw [← thru a] at ha
  have:=congrArg List.length (hu1 _ ha)
  simp at this
 have b1:∀ b,cM (bY (aC (aG t (cF D1 e.name)))) b e.ino=cM (bY (aC t)) b e.ino:=vI st1 far1
 have far2:∀ a,cM (bY (aC (aG t (cF D1 e.name)))) a e.ino≠some D2.ino:=by
  intro a ha
  rw [b1,← thru a] at ha
  exact npd2 ⟨a,by rw [← hu2 _ ha]; simp⟩
 have wq:∀ b,aQ (aC (kI t D1 D2 e.name n2 e.ino)) (d2++n2::b) 1=aQ (aC t) (d1++e.name::b) 1:=by
  intro b
  rw [cN,cN,qU st2 hu2' hd2',sn2,thru]
  show cM _ b e.ino=_
  rw [vI st2 far2,b1]
 have wo:∀ l,¬ (d2++[n2]) <+: l→aQ (aC (kI t D1 D2 e.name n2 e.ino)) l 1=if (d1++[e.name]).isPrefixOf l then none else aQ (aC t) l 1:=by
  intro l hp
  rw [cN,cN,fD st2 hu2' hp,w1]
 have wn:∀ b,aQ (aC t) (d2++n2::b) 1=none:=by
  intro b
  rw [cN,dC,hd2]
  show (bY (aC t) D2.ino n2).bind _=none
  rw [off2]; rfl
 refine ⟨?_,wq,wo,wn,map'⟩
 have lk:∀ i,bA (kI t D1 D2 e.name n2 e.ino) i=bA t i:=by
  intro i
  have a1:=fU h.tab.up (cF D1 e.name) i
  have a2:(List.map Ent.ino (cY D1.ents e.name)).count i+(if e.ino=i then 1 else 0)=(D1.ents.map Ent.ino).count i:=sR (bQ h s1.mem).up he i
  have a3:aC t (cF D1 e.name).ino=some D1:=hD1
  have a4:=fU up1 (c5 (fZ D1 D2 e.name) n2 e.ino) i
  rw [pi,at2] at a4
  rw [a3] at a1
  have a5:(List.map Ent.ino (dD (fZ D1 D2 e.name).ents ⟨n2,e.ino⟩)).count i=((fZ D1 D2 e.name).ents.map Ent.ino).count i+if e.ino=i then 1 else 0:=jH _ ⟨n2,e.ino⟩ i
  have c1:eS (cF D1 e.name)=(cY D1.ents e.name).map Ent.ino:=by rw [eS,lG (show (cF D1 e.name).kind=2 from s1.kind)]; rfl
  have c2:eS D1=D1.ents.map Ent.ino:=by rw [eS,lG s1.kind]
  have c3:eS (c5 (fZ D1 D2 e.name) n2 e.ino)=(dD (fZ D1 D2 e.name).ents ⟨n2,e.ino⟩).map Ent.ino:=by rw [eS,lG (show (c5 (fZ D1 D2 e.name) n2 e.ino).kind=2 from mk)]; rfl
  have c4:eS (fZ D1 D2 e.name)=(fZ D1 D2 e.name).ents.map Ent.ino:=by rw [eS,lG mk]
  simp only [lC,lY,c1,c2,c3,c4] at a1 a4
  have e0:bA (kI t D1 D2 e.name n2 e.ino) i=bA (aG (aG t (cF D1 e.name)) (c5 (fZ D1 D2 e.name) n2 e.ino)) i:=rfl
  omega
 have mem':∀ x,x ∈ (kI t D1 D2 e.name n2 e.ino).inodes→x=c5 (fZ D1 D2 e.name) n2 e.ino∨x=cF D1 e.name∨x ∈ t.inodes:=by
  intro x hx
  have hx':=(qV up' x).1 hx
  rw [map'] at hx'
  split at hx'
  ·injection hx' with hx'; exact .inl hx'.symm
  ·split at hx'
   ·injection hx' with hx'; exact .inr (.inl hx'.symm)
   ·exact .inr (.inr (aM hx').1)
 have len':(kI t D1 D2 e.name n2 e.ino).inodes.length≤30:=by
  have a0:=h.tab.len
  have a1:=mK h.tab.up (cF D1 e.name)
  have a2:(t.inodes.find? fun y=>decide (y.ino=(cF D1 e.name).ino))=some D1:=hD1
  rw [a2] at a1
  simp only [lQ2,lN] at a1
  have a3:=mK up1 (c5 (fZ D1 D2 e.name) n2 e.ino)
  have a4:((aG t (cF D1 e.name)).inodes.find? fun y=>decide (y.ino=(c5 (fZ D1 D2 e.name) n2 e.ino).ino))=some (fZ D1 D2 e.name):=by
   show aC (aG t (cF D1 e.name)) (c5 (fZ D1 D2 e.name) n2 e.ino).ino=_
   rw [pi]; exact at2
  rw [a4] at a3
  simp only [lQ2,lN] at a3
  have e4:(aG t (cF D1 e.name)).inodes.length=(bR t.inodes (cF D1 e.name)).length:=rfl
  show (bR (aG t (cF D1 e.name)).inodes (c5 (fZ D1 D2 e.name) n2 e.ino)).length≤30
  omega
 have isS:∀ i,(aC t i).isSome=true→(aC (kI t D1 D2 e.name n2 e.ino) i).isSome=true:=by
  intro i hi
  rw [map']
  split
  ·rfl
  ·split
   ·rfl
   ·exact hi
 refine vK ⟨len',h.tab.next,fun x hx'=>?_,up',?_⟩ (fun x hx'=>?_) (fun x hx' f hf'=>?_) fun x hx'=>?_
 ·show InodeOk x∧x.ino<t.next
  rcases mem' x hx' with rfl | rfl | hx'
  ·exact ⟨vM mok mk hn eok.2 mlen mfn,by rw [pi]; exact okD2.2⟩
  ·exact ⟨vL okD1.1 _,okD1.2⟩
  ·exact h.tab.ok x hx'
 ·obtain ⟨r,r1,r2,_⟩:=eM h
  by_cases hr:(1:Int)=D2.ino
  ·exact ⟨c5 (fZ D1 D2 e.name) n2 e.ino,by rw [map',lG hr],mk⟩
  ·by_cases hr1:(1:Int)=D1.ino
   ·exact ⟨cF D1 e.name,by rw [map',lJ hr,lG hr1],s1.kind⟩
   ·exact ⟨r,by rw [map',lJ hr,lJ hr1]; exact r1,r2⟩
 ·rw [lk]
  rcases mem' x hx' with rfl | rfl | hx'
  ·rw [pi]
   show _=(fZ D1 D2 e.name).links
   rw [ml]; exact h.links D2 s2.mem
  ·exact h.links D1 s1.mem
  ·exact h.links x hx'
 ·rcases mem' x hx' with rfl | rfl | hx'
  ·rcases mem_putK.1 hf' with rfl | hf'
   ·exact isS _ (h.there D1 s1.mem e he)
   ·exact isS _ (h.there D2 s2.mem f (msub f hf'))
  ·exact isS _ (h.there D1 s1.mem f (mem_cutK.1 hf').1)
  ·exact isS _ (h.there x hx' f hf')
 ·have other:∀ y,y ∈ t.inodes→∃ l,aQ (aC (kI t D1 D2 e.name n2 e.ino)) l 1=some y.ino:=by
   intro y hy
   obtain ⟨l,hl'⟩:=gG h hy
   by_cases hp:(d1++[e.name]) <+: l
   ·obtain ⟨b,rfl⟩:=hp
    have e1:d1++[e.name]++b=d1++e.name::b:=by simp
    exact ⟨d2++n2::b,by rw [wq,← e1]; exact hl'⟩
   ·refine ⟨l,?_⟩
    rw [wo,lJ (by rw [lT2]; exact hp),hl']
    rintro ⟨b,rfl⟩
    have e1:d2++[n2]++b=d2++n2::b:=by simp
    rw [e1,wn] at hl'
    exact absurd hl' (by simp)
  rcases mem' x hx' with rfl | rfl | hx'
  ·rw [pi]; exact other D2 s2.mem
  ·exact other D1 s1.mem
  ·exact other x hx'
theorem qW {t:Tab} (h:TreeOk t) {X Y:Inode} (hX:X ∈ t.inodes) (e1:Y.ino=X.ino) (e2:Y.kind=X.kind) (e3:Y.links=X.links) (e4:Y.ents=X.ents) (ok:InodeOk Y) :
  TreeOk (aG t Y)∧(∀ l i,aQ (aC (aG t Y)) l i=aQ (aC t) l i)∧(∀ i,aC (aG t Y) i=if i=X.ino then some Y else aC t i):=by
 have aX:=f0 h hX
 have up':=f4 h.tab.up Y
 have map':∀ i,aC (aG t Y) i=if i=X.ino then some Y else aC t i:=by
  intro i
  rw [cC h.tab.up,e1]
  by_cases h1:i=X.ino
  ·rw [lG h1.symm,lG h1]
  ·rw [lJ (Ne.symm h1),lJ h1]
 have eE:∀ m,bB Y m=bB X m:=fun m=>by unfold bB; rw [e4]
 have st:bY (aC (aG t Y))=bY (aC t):=by
  funext i m
  by_cases h1:i=X.ino
  ·rw [aY (x:=Y) (by rw [map',lG h1]) m,aY (M:=aC t) (x:=X) (by rw [h1]; exact aX) m,eE,e2]
  ·exact mL (by rw [map',lJ h1]) m
 have wk:∀ l i,aQ (aC (aG t Y)) l i=aQ (aC t) l i:=fun l i=>by rw [cN,cN,st]
 refine ⟨?_,wk,map'⟩
 have nb:eS Y=eS X:=by unfold eS; rw [e2,e4]
 have lk:∀ i,bA (aG t Y) i=bA t i:=by
  intro i
  have a1:=fU h.tab.up Y i
  rw [e1,aX,nb] at a1
  simp only [lC,lY] at a1
  omega
 have mem':∀ x,x ∈ (aG t Y).inodes→x=Y∨x ∈ t.inodes:=by
  intro x hx
  have hx':=(qV up' x).1 hx
  rw [map'] at hx'
  split at hx'
  ·injection hx' with hx'; exact .inl hx'.symm
  ·exact .inr (aM hx').1
 have isS:∀ i,(aC t i).isSome=true→(aC (aG t Y) i).isSome=true:=by
  intro i hi
  rw [map']
  split
  ·rfl
  ·exact hi
 have len':(aG t Y).inodes.length≤30:=by
  have a0:=h.tab.len
  have a1:=mK h.tab.up Y
  have a2:(t.inodes.find? fun y=>decide (y.ino=Y.ino))=some X:=by rw [e1]; exact aX
  rw [a2] at a1
  simp only [lQ2,lN] at a1
  show (bR t.inodes Y).length≤30
  omega
 refine vK ⟨len',h.tab.next,fun x hx=>?_,up',?_⟩ (fun x hx=>?_) (fun x hx f hf=>?_) fun x hx=>?_
 ·show InodeOk x∧x.ino<t.next
  rcases mem' x hx with rfl | hx
  ·exact ⟨ok,by rw [e1]; exact (h.tab.ok X hX).2⟩
  ·exact h.tab.ok x hx
 ·obtain ⟨r,r1,r2,_⟩:=eM h
  by_cases hr:(1:Int)=X.ino
  ·refine ⟨Y,by rw [map',lG hr],?_⟩
   rw [hr,aX] at r1
   injection r1 with r1
   rw [e2,r1]; exact r2
  ·exact ⟨r,by rw [map',lJ hr]; exact r1,r2⟩
 ·rw [lk]
  rcases mem' x hx with rfl | hx
  ·rw [e1,e3]; exact h.links X hX
  ·exact h.links x hx
 ·rcases mem' x hx with rfl | hx
  ·rw [e4] at hf; exact isS _ (h.there X hX f hf)
  ·exact isS _ (h.there x hx f hf)
 ·have other:∀ y,y ∈ t.inodes→∃ l,aQ (aC (aG t Y)) l 1=some y.ino:=by
   intro y hy
   obtain ⟨l,hl⟩:=gG h hy
   exact ⟨l,by rw [wk]; exact hl⟩
  rcases mem' x hx with rfl | hx
  ·rw [e1]; exact other X hX
  ·exact other x hx
def iV (t:Tab):Nat→Inode→List (List aA)
 | 0,_=>[]
 | k+1,x=>x.ents.flatMap fun e=>[e.name]::(((aC t e.ino).map (iV t k)).getD []).map (e.name::·)
theorem oU {t:Tab} (h:TreeOk t) (k:Nat):∀ (x:Inode),x ∈ t.inodes→∀ l,l ∈ iV t k x↔l≠[]∧l.length≤k∧(aQ (aC t) l x.ino).isSome=true:=by
 induction k with
 | zero=>
  intro x hx l
  constructor
  ·intro hl; exact absurd hl (by simp [iV])
  ·rintro ⟨h1,h2,_⟩; exact absurd (lM1.1 (Nat.le_zero.1 h2)) h1
 | succ k ih=>
  intro x hx l
  have ax:=f0 h hx
  rw [iV,lC3]
  constructor
  ·rintro ⟨e,he,hl⟩
   have kx:x.kind=2:=by
    apply Classical.byContradiction
    intro hk
    rw [(nY h hx hk).1] at he
    exact absurd he (by simp)
   obtain ⟨y,hy⟩:=lB1.1 (h.there x hx e he)
   obtain ⟨y1,y2⟩:=aM hy
   have hw:∀ b,aQ (aC t) (e.name::b) x.ino=aQ (aC t) b e.ino:=fun b=>by
    rw [aQ,ax]
    show (if x.kind=2∧bB x e.name≠0 then _ else none)=_
    rw [eL (bQ h hx).up he,lG ⟨kx,pS h hx e he⟩]
   rw [hy] at hl
   simp only [lC,lY] at hl
   rcases lF.1 hl with rfl | hl
   ·exact ⟨by simp,by simp,by rw [hw]; rfl⟩
   ·obtain ⟨b,hb,rfl⟩:=lV1.1 hl
    obtain ⟨_,b2,b3⟩:=(ih y y1 b).1 hb
    exact ⟨by simp,by simp only [lV]; omega,by rw [hw,← y2]; exact b3⟩
  ·rintro ⟨h1,h2,h3⟩
   cases l with
   | nil=>exact absurd rfl h1
   | cons n b=>
    rw [aQ,ax] at h3
    simp only at h3
    by_cases hc:x.kind=2∧bB x n≠0
    ·rw [lG hc] at h3
     obtain ⟨e,he,e1,e2⟩:=rV hc.2
     refine ⟨e,he,?_⟩
     obtain ⟨y,hy⟩:=lB1.1 (h.there x hx e he)
     obtain ⟨y1,y2⟩:=aM hy
     rw [hy]
     simp only [lC,lY]
     cases b with
     | nil=>rw [← e1]; exact List.mem_cons_self
     | cons m b=>
      refine List.mem_cons_of_mem _ (lV1.2 ⟨m::b,(ih y y1 _).2 ⟨by simp,by simpa using h2,?_⟩,by rw [e1]⟩)
      rw [y2,e2]; exact h3
    ·rw [lJ hc] at h3; exact absurd h3 (by simp)
theorem abO {t:Tab} (h:TreeOk t) (k:Nat):∀ (x:Inode),x ∈ t.inodes→(iV t k x).Nodup:=by
 induction k with
 | zero=>intro x _; simp [iV]
 | succ k ih=>
  intro x hx
  rw [iV,List.Nodup,List.pairwise_flatMap]
  refine ⟨fun e he=>?_,?_⟩
  ·obtain ⟨y,hy⟩:=lB1.1 (h.there x hx e he)
   obtain ⟨y1,y2⟩:=aM hy
   rw [hy]
   simp only [lC,lY]
   refine lA1.2 ⟨fun b hb=>?_,?_⟩
   ·obtain ⟨c,hc,rfl⟩:=lV1.1 hb
    have:=((oU h k y y1 c).1 hc).1
    intro e'
    injection e' with _ e'
    exact this e'.symm
   ·rw [List.pairwise_map]
    exact (ih y y1).imp fun hne e'=>hne (by injection e')
  ·refine (bQ h hx).up.imp fun {a b} hab u hu v hv=>?_
   have hd:∀ (e:Ent) (u:List aA),u ∈ ([e.name]::(((aC t e.ino).map (iV t k)).getD []).map (e.name::·))→u.head?=some e.name:=by
    intro e u hu
    rcases lF.1 hu with rfl | hu
    ·rfl
    ·obtain ⟨c,_,rfl⟩:=lV1.1 hu; rfl
   rintro rfl
   have h1:=hd a u hu
   rw [hd b u hv] at h1
   injection h1 with h1
   rw [h1] at hab
   exact absurd hab (lT3 _)
def yB (t:Tab):List aA:=(((aC t 1).map (iV t 30)).getD []).map dS
theorem agv {t:Tab} (h:TreeOk t) (s:aA):s ∈ yB t↔∃ l,l≠[]∧s=dS l∧(aQ (aC t) l 1).isSome=true:=by
 obtain ⟨r,r1,_,r3⟩:=eM h
 have r4:=(aM r1).2
 rw [yB,r1]
 simp only [lC,lY,lV1]
 constructor
 ·rintro ⟨l,hl,rfl⟩
  obtain ⟨a,_,c⟩:=(oU h 30 r r3 l).1 hl
  exact ⟨l,a,rfl,by rw [← r4]; exact c⟩
 ·rintro ⟨l,a,rfl,c⟩
  refine ⟨l,(oU h 30 r r3 l).2 ⟨a,?_,by rw [r4]; exact c⟩,rfl⟩
  obtain ⟨i,hi⟩:=lB1.1 c
  have:=(rW h hi).1
  have:=h.tab.len
  omega
def inR (x a b:Int):Bool:=decide (a≤x∧x≤b)
section
theorem iF (a b:aA):strLt a b=decide (a<b):=bytesLess_eq a b
section
variable {α:Type} (p:Nat→α→Bool) (lt:α→α→Bool)
def aiM (l:List α) (x:α):Nat→Bool
 | 0=>true
 | k+1=>match l[k]? with
  | none=>true
  | some y=>lt y x
def dE (l:List α) (i:Nat):Bool:=match l[i]? with
 | none=>true
 | some x=>p i x && aiM lt l x i
def aaq (l:List α):Bool:=(List.range l.length).all (dE p lt l)
variable {p lt}
theorem oV {l:List α} {i:Nat} (h:i<l.length) (e:dE p lt l i=false):aaq p lt l=false:=by
 rw [aaq,lY3]
 exact ⟨i,by simpa using h,by simp [e]⟩
theorem iW {l:List α} (h:∀ i,i<l.length→dE p lt l i=true):aaq p lt l=true:=by
 rw [aaq,lW]
 intro k hk
 exact h k (by simpa using hk)
theorem fE {l:List α} (h:0<l.length):dE p lt l 0=p 0 l[0]:=by
 rw [dE,lK h]; simp [aiM]
theorem bU {l:List α} {i:Nat} (h:i+1<l.length):dE p lt l (i+1)=(p (i+1) l[i+1] && lt l[i] l[i+1]):=by
 rw [dE,lK h]
 simp only [aiM]
 rw [lK (show i<l.length by omega)]
theorem qX (htr:∀ a b c,lt a b=true→lt b c=true→lt a c=true) (l:List α):aaq p lt l=true↔(∀ i,(h:i<l.length)→p i l[i]=true)∧l.Pairwise (fun a b=>lt a b=true):=by
 constructor
 ·intro h
  have h':∀ i,i<l.length→dE p lt l i=true:=by
   intro i hi
   rw [aaq,lW] at h
   exact h i (by simpa using hi)
  refine ⟨fun i hi=>?_,?_⟩
  ·have:=h' i hi
   rw [dE,lK hi] at this
   simp only [lM] at this
   exact this.1
  ·rw [lG3]
   intro i j hi hj hij
   induction j with
   | zero=>omega
   | succ j ih=>
    have hs:=h' (j+1) hj
    rw [bU hj,lM] at hs
    by_cases e:i=j
    ·subst e; exact hs.2
    ·exact htr _ _ _ (ih (by omega) (by omega)) hs.2
 ·rintro ⟨h1,h2⟩
  refine iW fun i hi=>?_
  cases i with
  | zero=>rw [fE hi]; exact h1 0 hi
  | succ i=>
   rw [bU hi,lM]
   exact ⟨h1 _ hi,lG3.1 h2 i (i+1) (by omega) hi (by omega)⟩
end
theorem an1:∀ a b c:aA,decide (a<b)=true→decide (b<c)=true→decide (a<c)=true:=by
 intro a b c h1 h2
 simp only [decide_eq_true_eq] at *
 exact List.lt_trans h1 h2
theorem adI {α:Type} {l:List α} {p:α→Prop}:(∀ i,(h:i<l.length)→p l[i])↔∀ x ∈ l,p x:=by
 constructor
 ·intro h x hx
  obtain ⟨i,hi,rfl⟩:=lU1 hx
  exact h i hi
 ·intro h i hi; exact h _ (lO hi)
def qY (a:Attr):Bool:=aZ a.name && inR a.val.length 1 16
def n5 (a b:Attr):Bool:=decide (a.name<b.name)
def rZ (l:List Attr):Bool:=aaq (fun _=>qY) n5 l
def kJ (l:List Attr):Bool:=rZ l && decide (l.length≤4)
def aeY (e:Ent):Bool:=aZ e.name && inR e.ino 2 1000
def vN (a b:Ent):Bool:=decide (a.name<b.name)
def yC (l:List Ent):Bool:=aaq (fun _=>aeY) vN l
def vO (l:List Ent):Bool:=yC l && decide (l.length≤10)
def r9 (x:Inode):Bool:=if x.kind=1 then decide (x.ents.length=0) else if x.kind=2 then decide (x.data.length=0) && decide (x.links≤1) else false
def dF (x:Inode):Bool:=inR x.ino 1 1000 && (inR x.links 0 1000 && (decide (x.links=0) == decide (x.ino=1)) && (decide (x.data.length≤100) && (vO x.ents && (kJ x.attrs && r9 x))))
def iX (t:Tab) (x:Inode):Bool:=dF x && decide (x.ino<t.next)
def gI (a b:Inode):Bool:=decide (a.ino<b.ino)
def mM (t:Tab):Bool:=aaq (fun _=>iX t) gI t.inodes
def qZ (t:Tab):Bool:=match aC t 1 with
 | none=>false
 | some x=>decide (x.kind=2)
def yD (t:Tab):Bool:=decide (t.inodes.length≤30) && (inR t.next 2 1000 && (mM t && qZ t))
def yE (t:Tab) (x:Inode):Bool:=x.ents.all fun e=>(aC t e.ino).isSome
def kK (t:Tab) (x:Inode):Bool:=decide (x.links=(bA t x.ino:Nat)) && yE t x
def bJ (t:Tab):Bool:=yD t && (decide ((eG t).length=t.inodes.length) && t.inodes.all (kK t))
theorem iY (x a b:Int):inR x a b=true↔a≤x∧x≤b:=by simp [inR]
theorem agw (l:List Attr):kJ l=true↔AttrsOk l:=by
 rw [kJ,lM,rZ,qX (lt:=n5) (fun a b c h1 h2=>an1 a.name b.name c.name h1 h2)]
 simp only [qY,n5,lM,decide_eq_true_eq,iY]
 rw [adI (p:=fun a:Attr=>aZ a.name=true∧(1:Int)≤(a.val.length:Int)∧(a.val.length:Int)≤16)]
 constructor
 ·rintro ⟨⟨h1,h2⟩,h3⟩
  exact ⟨h3,fun a ha=>⟨(h1 a ha).1,by have:=(h1 a ha).2.1; omega,by have:=(h1 a ha).2.2; omega⟩,h2⟩
 ·rintro ⟨h3,h1,h2⟩
  exact ⟨⟨fun a ha=>⟨(h1 a ha).1,by have:=(h1 a ha).2.1; omega,by have:=(h1 a ha).2.2; omega⟩,h2⟩,h3⟩
theorem aiN (l:List Ent):vO l=true↔EntsOk l:=by
 rw [vO,lM,yC,qX (lt:=vN) (fun a b c h1 h2=>an1 a.name b.name c.name h1 h2)]
 simp only [aeY,vN,lM,decide_eq_true_eq,iY]
 rw [adI (p:=fun a:Ent=>aZ a.name=true∧(2:Int)≤a.ino∧a.ino≤1000)]
 constructor
 ·rintro ⟨⟨h1,h2⟩,h3⟩; exact ⟨h3,h1,h2⟩
 ·rintro ⟨h3,h1,h2⟩; exact ⟨⟨h1,h2⟩,h3⟩
theorem aiO (x:Inode):r9 x=true↔(x.kind=1∧x.ents=[])∨(x.kind=2∧x.data=[]∧x.links≤1):=by
 unfold r9
 by_cases h1:x.kind=1
 ·rw [lG h1]
  simp only [decide_eq_true_eq,lM1]
  constructor
  ·exact fun h=>.inl ⟨h1,h⟩
  ·rintro (⟨_,h⟩ | ⟨h,_⟩)
   ·exact h
   ·omega
 ·rw [lJ h1]
  by_cases h2:x.kind=2
  ·rw [lG h2]
   simp only [lM,decide_eq_true_eq,lM1]
   constructor
   ·exact fun h=>.inr ⟨h2,h⟩
   ·rintro (⟨h,_⟩ | ⟨_,h⟩)
    ·exact absurd h h1
    ·exact h
  ·rw [lJ h2]
   constructor
   ·intro h; cases h
   ·rintro (⟨h,_⟩ | ⟨h,_⟩)
    ·exact absurd h h1
    ·exact absurd h h2
theorem yF (x:Inode):dF x=true↔InodeOk x:=by
 unfold dF
 simp only [lM,iY,decide_eq_true_eq,aiN,agw,aiO,beq_iff_eq,decide_eq_decide]
 constructor
 ·rintro ⟨h1,⟨h2,h3⟩,h4,h5,h6,h7⟩; exact ⟨h1,h2,h3,h4,h5,h6,h7⟩
 ·rintro ⟨h1,h2,h3,h4,h5,h6,h7⟩; exact ⟨h1,⟨h2,h3⟩,h4,h5,h6,h7⟩
theorem aiP (t:Tab):qZ t=true↔∃ x,aC t 1=some x∧x.kind=2:=by
 unfold qZ
 cases aC t 1 with
 | none=>simp
 | some x=>simp
theorem akO (t:Tab):yD t=true↔TabOk t:=by
 unfold yD
 rw [mM]
 simp only [lM,decide_eq_true_eq,iY,aiP]
 rw [qX (fun a b c h1 h2=>by simp only [gI,decide_eq_true_eq] at *; omega)]
 simp only [iX,gI,lM,decide_eq_true_eq,yF]
 rw [adI (p:=fun x:Inode=>InodeOk x∧x.ino<t.next)]
 constructor
 ·rintro ⟨h1,h2,⟨h3,h4⟩,h5⟩; exact ⟨h1,h2,h3,h4,h5⟩
 ·rintro ⟨h1,h2,h3,h4,h5⟩; exact ⟨h1,h2,⟨h3,h4⟩,h5⟩
theorem aV (t:Tab):bJ t=true↔TreeOk t:=by
 unfold bJ
 simp only [lM,decide_eq_true_eq,akO,lW,kK,yE]
 constructor
 ·rintro ⟨h1,h2,h3⟩; exact ⟨h1,h2,fun x hx=>(h3 x hx).1.symm,fun x hx=>(h3 x hx).2⟩
 ·rintro ⟨h1,h2,h3,h4⟩; exact ⟨h1,h2,fun x hx=>⟨(h3 x hx).symm,h4 x hx⟩⟩
def abP (o:Option Nat):Int:=match o with
 | none=>-1
 | some i=>i
end
def zN:Inode:={ ino:=0,kind:=0,links:=0,data:=[],ents:=[],attrs:=[] }
abbrev Rs (α:Type):=Except Int α
def exC {α:Type}:Rs α→Int
 | .ok _=>0
 | .error c=>c
def exI:Rs Inode→Inode
 | .ok x=>x
 | .error _=>zN
def cJ (t:Tab) (s:aA):Rs Inode:=if (oR t s).2=0 then (match aC t (oR t s).1 with
 | some x=>.ok x
 | none=>.error 2) else .error (oR t s).2
def mN (t:Tab) (s:aA):Rs Inode:=match cJ t s with
 | .ok x=>if x.kind=1 then .ok x else .error 3
 | .error c=>.error c
def eN (t:Tab) (s:aA):Rs Inode:=match cJ t (aJ s).1 with
 | .ok D=>if D.kind=2 then .ok D else .error 3
 | .error c=>.error c
def wO (t:Tab) (s:aA) (from':Int):Rs Inode:=match eN t s with
 | .ok D=>if bB D (aJ s).2.1=0 then (if D.ents.length<10∨D.ino=from' then .ok D else .error 5) else .error 4
 | .error c=>.error c
def gT (s:aA):Bool:=(aB s).2
def jA (s:aA):Bool:=(aJ s).2.2
def aW (s:aA):aA:=(aJ s).2.1
def fM (t:Tab) (s:aA) (k:Int):Tab × Int:=if bJ t=true∧jA s=true then (match wO t s 0 with
 | .ok D=>if t.inodes.length<30∧t.next<1000 then (n4 t D (aW s) k,0) else (t,5)
 | .error c=>(t,c)) else (t,1)
def fV (t:Tab) (s:aA):Tab × Int:=if bJ t=true∧jA s=true then (match mN t s with
 | .ok X=>(bZ t (exI (eN t s)) (aW s) X,0)
 | .error c=>(t,c)) else (t,1)
def iZ (t:Tab) (s:aA):Tab × Int:=if bJ t=true∧jA s=true then (match cJ t s with
 | .ok X=>if X.kind=2 then (if X.ents=[] then (jP (aG t (cF (exI (eN t s)) (aW s))) X.ino,0) else (t,6)) else (t,3)
 | .error c=>(t,c)) else (t,1)
def kO (t:Tab) (p q:aA):Tab × Int:=if bJ t=true∧gT p=true∧jA q=true then (match mN t p with
 | .ok X=>(match wO t q 0 with
  | .ok D=>(m9 t D (aW q) X,0)
  | .error c=>(t,c))
 | .error c=>(t,c)) else (t,1)
def n6 (t:Tab) (p q:aA):Tab × Int:=if bJ t=true∧jA p=true∧jA q=true then (match cJ t p with
 | .ok X=>if aam p q=true then (t,6) else (match wO t q (exI (eN t p)).ino with
  | .ok D=>(kI t (exI (eN t p)) D (aW p) (aW q) X.ino,0)
  | .error c=>(t,c))
 | .error c=>(t,c)) else (t,1)
def aaE (b:aA) (n:Nat):aA:=b++List.replicate (n-b.length) 0
def ajx (b:aA) (o:Nat) (d:aA):aA:=(aaE b (o+d.length)).take o++d++b.drop (o+d.length)
def vP (X:Inode) (b:aA):Inode:={ X with data:=b }
def s5 (X:Inode) (l:List Attr):Inode:={ X with attrs:=l }
def gJ (t:Tab) (p:aA) (o:Int) (d:aA):Tab × Int:=if bJ t=true∧gT p=true∧inR o 0 100=true then (match mN t p with
 | .ok X=>if o+(d.length:Nat)≤100 then (aG t (vP X (ajx X.data o.toNat d)),0) else (t,5)
 | .error c=>(t,c)) else (t,1)
def vQ (t:Tab) (p:aA) (n:Int):Tab × Int:=if bJ t=true∧gT p=true∧inR n 0 100=true then (match mN t p with
 | .ok X=>(aG t (vP X ((aaE X.data n.toNat).take n.toNat)),0)
 | .error c=>(t,c)) else (t,1)
def q0 (l:List Attr) (n:aA):List Attr:=aiI Attr.name l n
def aeZ (l:List Attr) (a:Attr):List Attr:=vJ Attr.name l a
def n7 (t:Tab) (p n v:aA):Tab × Int:=if bJ t=true∧gT p=true∧aZ n=true∧v.length≤16 then (match cJ t p with
 | .ok X=>if v=[] then (aG t (s5 X (q0 X.attrs n)),0) else if (q0 X.attrs n).length<4 then (aG t (s5 X (aeZ (q0 X.attrs n) ⟨n,v⟩)),0) else (t,5)
 | .error c=>(t,c)) else (t,1)
theorem agx (l:List Inode) (x:Inode):(bR l x).length≤l.length+1:=by
 induction l with
 | nil=>simp [bR]
 | cons y l ih=>
  rw [bR]
  split
  ·simp
  ·split <;> simp
   omega
theorem agy (f:Inode→Nat) (l:List Inode) (x:Inode):((bR l x).map f).sum≤(l.map f).sum+f x:=by
 induction l with
 | nil=>simp [bR]
 | cons y l ih=>
  rw [bR]
  split
  ·simp only [lP,lB2]; omega
  ·split <;> simp only [lP,lB2] <;> omega
theorem an2 (t:Tab):t.sz=t.inodes.length+(t.inodes.map Inode.sz).sum:=rfl
theorem n8 (t:Tab) (x:Inode):(aG t x).sz≤t.sz+x.sz+1:=by
 rw [an2,an2]
 have:=agx t.inodes x
 have:=agy Inode.sz t.inodes x
 show (bR t.inodes x).length+((bR t.inodes x).map Inode.sz).sum≤_
 omega
theorem yG {α:Type} (f:α→Nat) (p:α→Bool) (l:List α):((l.filter p).map f).sum≤(l.map f).sum:=by
 induction l with
 | nil=>simp
 | cons y l ih=>rw [lC4]; split <;> simp <;> omega
theorem aiQ {α:Type} (f:α→Nat) (l:List α) (c n:Nat) (hn:l.length≤n) (h:∀ x ∈ l,f x≤c):szM f l≤n+n*c:=by
 have:=rY f l c h
 have h2:l.length*c≤n*c:=lH1 c hn
 simp only [szM]; omega
theorem adJ {x:Inode} (h:InodeOk x):x.sz≤400:=by
 have e:x.sz=x.data.length+szM Ent.sz x.ents+szM Attr.sz x.attrs:=rfl
 have h1:=aiQ Ent.sz x.ents 14 10 h.ents.len fun e he=>(mI (h.ents.ok e he).1).2
 have h2:=aiQ Attr.sz x.attrs 30 4 h.attrs.len fun a ha=>by
  have:=(mI (h.attrs.ok a ha).1).2
  have:=(h.attrs.ok a ha).2.2
  show a.name.length+a.val.length≤30
  omega
 have:=h.data
 omega
theorem aiR {t:Tab} (h:TabOk t):t.sz≤12030:=aiQ Inode.sz t.inodes 400 30 h.len fun x hx=>adJ (h.ok x hx).1
theorem agz {t:Tab} (h:bJ t=true):t.sz≤12030:=aiR ((aV t).1 h).tab
theorem pV {t:Tab} {s:aA} {x:Inode} (h:cJ t s=.ok x):oR t s=(x.ino,0)∧aC t x.ino=some x:=by
 unfold cJ at h
 split at h
 ·rename_i e
  cases hx:aC t (oR t s).1 with
  | none=>rw [hx] at h; cases h
  | some y=>
   rw [hx] at h
   cases h
   have:=(aM hx).2
   rw [this]
   exact ⟨by rw [← e],hx⟩
 ·cases h
theorem c9 {t:Tab} {s:aA} {x:Inode} (h:mN t s=.ok x):cJ t s=.ok x∧x.kind=1:=by
 unfold mN at h
 split at h
 ·split at h
  ·cases h; rename_i e k; exact ⟨e,k⟩
  ·cases h
 ·cases h
theorem i7 {t:Tab} {s:aA} {x:Inode} (h:eN t s=.ok x):cJ t (aJ s).1=.ok x∧x.kind=2:=by
 unfold eN at h
 split at h
 ·split at h
  ·cases h; rename_i e k; exact ⟨e,k⟩
  ·cases h
 ·cases h
theorem i8 {t:Tab} {s:aA} {f:Int} {x:Inode} (h:wO t s f=.ok x):eN t s=.ok x∧bB x (aW s)=0∧(x.ents.length<10∨x.ino=f):=by
 unfold wO at h
 split at h
 ·split at h
  ·split at h
   ·cases h; rename_i e k l; exact ⟨e,k,l⟩
   ·cases h
  ·cases h
 ·cases h
theorem vR {s:aA} (h:jA s=true):(aB s).2=true∧(aB s).1≠[]:=(abI s).1 h
theorem iG {s:aA} (h:jA s=true):(aB s).1=(aB (aJ s).1).1++[aW s]∧(aB (aJ s).1).2=true∧aZ (aW s)=true:=by
 obtain ⟨h1,h2⟩:=vR h
 obtain ⟨e1,e2⟩:=aiD h1 h2
 have e3:(aJ s).1=b8 (aB s).1.dropLast:=by rw [e1]
 have e4:aW s=(aB s).1.getLastD []:=by rw [aW,e1]
 rw [e3,e2,e4]
 have e5:(aB s).1.getLastD []=(aB s).1.getLast h2:=by rw [List.getLastD_eq_getLast?,List.getLast?_eq_some_getLast h2]; rfl
 refine ⟨by rw [e5,List.dropLast_concat_getLast],rfl,?_⟩
 rw [e5]
 exact (j6 (oQ h1).1).2 _ (List.getLast_mem h2)
theorem ae0 {t:Tab} {s:aA} (h:(aB s).2=true) {i:Int}:oR t s=(i,0)↔aQ (aC t) (aB s).1 1=some i:=by
 rw [oR,lG h]; exact amM t _ 1 i
theorem abQ {t:Tab} {s:aA} (h:(oR t s).2=0):(aB s).2=true:=by
 unfold oR at h
 split at h
 ·assumption
 ·cases h
theorem vS {t:Tab} {s:aA} {x:Inode} (h:cJ t s=.ok x):(aB s).2=true∧aQ (aC t) (aB s).1 1=some x.ino:=by
 have h1:=(pV h).1
 have h2:=abQ (by rw [h1])
 exact ⟨h2,(ae0 h2).1 h1⟩
theorem gU {t:Tab} {s:aA} {D:Inode} (h:eN t s=.ok D):Spot t D (aB (aJ s).1).1:=by
 obtain ⟨h1,h2⟩:=i7 h
 exact ⟨(aM (pV h1).2).1,h2,(vS h1).2⟩
theorem vT {t:Tab} (ht:TreeOk t) {s:aA} (hs:jA s=true) {X:Inode} (h:cJ t s=.ok X):∃ D,eN t s=.ok D∧bB D (aW s)=X.ino∧∃ e ∈ D.ents,e.name=aW s∧e.ino=X.ino:=by
 obtain ⟨h1,h2⟩:=vS h
 obtain ⟨e1,e2,e3⟩:=iG hs
 rw [e1,cG] at h2
 cases hw:aQ (aC t) (aB (aJ s).1).1 1 with
 | none=>rw [hw] at h2; cases h2
 | some j=>
  rw [hw] at h2
  obtain ⟨D,d1,d2,d3,d4⟩:=(gS _ _ _ _).1 h2
  obtain ⟨_,d5⟩:=aM d1
  have hst:cJ t (aJ s).1=.ok D:=by
   rw [cJ,(ae0 e2).2 hw,lG rfl,d1]
  refine ⟨D,by rw [eN,hst]; simp only [d2,lG],d3,?_⟩
  obtain ⟨e,he,f1,f2⟩:=rV (x:=D) (n:=aW s) (by rw [d3]; exact d4)
  exact ⟨e,he,f1,by rw [f2,d3]⟩
section
variable {t:Tab}
theorem aR {s:aA} {X:Inode} (h:cJ t s=.ok X):X ∈ t.inodes∧aC t X.ino=some X:=⟨(aM (pV h).2).1,(pV h).2⟩
theorem q7 {s:aA} {D:Inode} (h:eN t s=.ok D):D ∈ t.inodes:=(aR (i7 h).1).1
theorem amR (ht:TreeOk t) {X:Inode} (h:X ∈ t.inodes):1≤X.ino∧X.ino≤1000:=(ht.tab.ok X h).1.ino
theorem tK (ht:TreeOk t) {s:aA} {D:Inode} (h:wO t s 0=.ok D):D.ents.length<10:=by
 obtain ⟨h1,h2,h3⟩:=i8 h
 rcases h3 with h3 | h3
 ·exact h3
 ·have:=amR ht (q7 h1); omega
theorem amS (ht:TreeOk t) {s:aA} {k:Int} {D:Inode} (hs:jA s=true) (h:wO t s 0=.ok D) (h1:t.inodes.length<30) (h2:t.next<1000) (hk:k=1∨k=2):type_of% (abM ht (gU (i8 h).1) (k:=k) (iG hs).2.2 (i8 h).2.1 (tK ht h) h1 h2 hk):=abM ht (gU (i8 h).1) (k:=k) (iG hs).2.2 (i8 h).2.1 (tK ht h) h1 h2 hk
theorem mO (h:bJ t=true) (s:aA) {k:Int} (hk:k=1∨k=2):bJ (fM t s k).1=true:=by
 unfold fM
 split
 ·rename_i hc
  split
  ·split
   ·rename_i h2
    exact (aV _).2 (amS ((aV t).1 h) hc.2 (by assumption) h2.1 h2.2 hk).1
   ·exact h
  ·exact h
 ·exact h
theorem ae1 (ht:TreeOk t) {s:aA} (hs:jA s=true) {X:Inode} (h:cJ t s=.ok X):X.ino≠1:=by
 intro e
 obtain ⟨D,h1,h2,⟨x,hx,h3,h4⟩⟩:=vT ht hs h
 have:=((bQ ht (q7 h1)).ok x hx).2.1
 omega
theorem aiS (ht:TreeOk t) {s:aA} (hs:jA s=true) {X:Inode} (h:cJ t s=.ok X) (hk:X.kind=2):X.links=1:=by
 have ok:=(ht.tab.ok X (aR h).1).1
 have h1:=nW ht (aR h).1 hk
 have h2:=ok.links
 have h3:X.links≠0:=fun e=>ae1 ht hs h (ok.root.1 e)
 omega
theorem abR (ht:TreeOk t) {s:aA} {X:Inode} (hs:jA s=true) (h:cJ t s=.ok X) (hE:X.ents=[]):∃ D,eN t s=.ok D∧Spot t D (aB (aJ s).1).1∧(X.kind=1∨X.links=1) ∧
  TreeOk (bZ t D (aW s) X)∧(∀ l,aQ (aC (bZ t D (aW s) X)) l 1=if l=(aB s).1 then none else aQ (aC t) l 1) ∧
  (∀ i,aC (bZ t D (aW s) X) i=if i=X.ino then (if X.links=1 then none else some (pU X)) else if i=D.ino then some (cF D (aW s)) else aC t i):=by
 obtain ⟨D,h1,h2,⟨x,hx,h3,h4⟩⟩:=vT ht hs h
 have hk:X.kind=1∨X.links=1:=by
  rcases (ht.tab.ok X (aR h).1).1.kind with ⟨k,_⟩ | ⟨k,_⟩
  ·exact .inl k
  ·exact .inr (aiS ht hs h k)
 have:=adH ht (gU h1) hx (X:=X) (by rw [h4]; exact (aR h).2) hE hk
 rw [h3,← (iG hs).1] at this
 exact ⟨D,h1,gU h1,hk,this⟩
theorem aar (h:bJ t=true) (s:aA):bJ (fV t s).1=true:=by
 have ht:=(aV t).1 h
 unfold fV
 split
 ·rename_i hc
  split
  ·rename_i X hX
   obtain ⟨h1,h2⟩:=c9 hX
   obtain ⟨D,d1,d2,d3,d4⟩:=abR ht hc.2 h1 (nY ht (aR h1).1 (by omega)).1
   rw [d1]
   exact (aV _).2 d4.1
  ·exact h
 ·exact h
theorem akP (ht:TreeOk t) {s:aA} {X:Inode} (hs:jA s=true) (h:cJ t s=.ok X) (hk:X.kind=2) (D:Inode) (n:aA):jP (aG t (cF D n)) X.ino=bZ t D n X:=by
 rw [bZ,lG (aiS ht hs h hk)]
theorem abS (h:bJ t=true) (s:aA):bJ (iZ t s).1=true:=by
 have ht:=(aV t).1 h
 unfold iZ
 split
 ·rename_i hc
  split
  ·rename_i X hX
   split
   ·rename_i hk
    split
    ·rename_i hE
     obtain ⟨D,d1,d2,d3,d4⟩:=abR ht hc.2 hX hE
     rw [d1,akP ht hc.2 hX hk]
     exact (aV _).2 d4.1
    ·exact h
   ·exact h
  ·exact h
 ·exact h
theorem amT (ht:TreeOk t) {p q:aA} {X D:Inode} (hq:jA q=true) (h1:mN t p=.ok X) (h2:wO t q 0=.ok D):type_of% (abN ht (gU (i8 h2).1) (X:=X) (iG hq).2.2 (i8 h2).2.1 (tK ht h2) (aR (c9 h1).1).1 (c9 h1).2):=abN ht (gU (i8 h2).1) (X:=X) (iG hq).2.2 (i8 h2).2.1 (tK ht h2) (aR (c9 h1).1).1 (c9 h1).2
theorem adK (h:bJ t=true) (p q:aA):bJ (kO t p q).1=true:=by
 have ht:=(aV t).1 h
 unfold kO
 split
 ·rename_i hc
  split
  ·split
   ·exact (aV _).2 (amT ht hc.2.2 (by assumption) (by assumption)).1
   ·exact h
  ·exact h
 ·exact h
theorem aiT {p q:aA} (hp:gT p=true) (hq:gT q=true):aam p q=true↔(aB p).1 <+: (aB q).1:=by
 unfold gT at *
 rw [aam,hp,hq]; simp
theorem aiU (ht:TreeOk t) {p q:aA} {X D2:Inode} (hp:jA p=true) (hq:jA q=true) (h1:cJ t p=.ok X) (hb:aam p q=false) (h2:wO t q (exI (eN t p)).ino=.ok D2) :
  ∃ D1 e,eN t p=.ok D1∧Spot t D1 (aB (aJ p).1).1∧e ∈ D1.ents∧e.name=aW p∧e.ino=X.ino∧Spot t D2 (aB (aJ q).1).1∧aZ (aW q)=true∧bB D2 (aW q)=0 ∧
   (D2.ents.length<10∨D1.ino=D2.ino)∧¬ ((aB (aJ p).1).1++[e.name]) <+: ((aB (aJ q).1).1++[aW q]):=by
 obtain ⟨D1,d1,d2,⟨e,he,d3,d4⟩⟩:=vT ht hp h1
 obtain ⟨n1,n2,n3⟩:=i8 h2
 rw [d1] at n3
 refine ⟨D1,e,d1,gU d1,he,d3,d4,gU n1,(iG hq).2.2,n2,?_,?_⟩
 ·rcases n3 with n | n
  ·exact .inl n
  ·exact .inr n.symm
 ·rw [d3,← (iG hp).1,← (iG hq).1,← aiT (vR hp).1 (vR hq).1,hb]
  simp
theorem adL (h:bJ t=true) (p q:aA):bJ (n6 t p q).1=true:=by
 have ht:=(aV t).1 h
 unfold n6
 split
 ·rename_i hc
  split
  ·rename_i X hX
   split
   ·exact h
   ·rename_i hb
    split
    ·rename_i D2 h2
     obtain ⟨D1,e,d1,s1,he,e1,e2,s2,hn,hf,hl,hb'⟩:=aiU ht hc.2.1 hc.2.2 hX (by simpa using hb) h2
     have:=(aiL ht s1 s2 he hn hf hl hb').1
     rw [e1,e2] at this
     rw [d1]
     exact (aV _).2 this
    ·exact h
  ·exact h
 ·exact h
theorem aiV {X:Inode} (h:InodeOk X) (hk:X.kind=1) {b:aA} (hb:b.length≤100):InodeOk (vP X b):=by
 obtain ⟨a1,a2,a3,a4,a5,a6,a7⟩:=h
 refine ⟨a1,a2,a3,hb,a5,a6,?_⟩
 rcases a7 with a | ⟨a,_⟩
 ·exact .inl a
 ·omega
theorem akQ (b:aA) (n:Nat):(aaE b n).length=max b.length n:=by simp [aaE]; omega
theorem akR (b:aA) (o:Nat) (d:aA):(ajx b o d).length=max b.length (o+d.length):=by
 simp only [ajx,lT,lR,lE2,akQ]; omega
theorem ae2 (ht:TreeOk t) {p:aA} {X:Inode} (h:mN t p=.ok X) {b:aA} (hb:b.length≤100):type_of% (qW ht (X:=X) (Y:=vP X b) (aR (c9 h).1).1 rfl rfl rfl rfl (aiV (ht.tab.ok X (aR (c9 h).1).1).1 (c9 h).2 hb)):=qW ht (X:=X) (Y:=vP X b) (aR (c9 h).1).1 rfl rfl rfl rfl (aiV (ht.tab.ok X (aR (c9 h).1).1).1 (c9 h).2 hb)
theorem n9 (h:bJ t=true) (p:aA) (o:Int) (d:aA):bJ (gJ t p o d).1=true:=by
 have ht:=(aV t).1 h
 unfold gJ
 split
 ·rename_i hc
  split
  ·rename_i X hX
   split
   ·refine (aV _).2 (ae2 ht hX ?_).1
    have:=(ht.tab.ok X (aR (c9 hX).1).1).1.data
    have:=(iY _ _ _).1 hc.2.2
    rw [akR]; omega
   ·exact h
  ·exact h
 ·exact h
theorem agA (h:bJ t=true) (p:aA) (n:Int):bJ (vQ t p n).1=true:=by
 have ht:=(aV t).1 h
 unfold vQ
 split
 ·rename_i hc
  split
  ·rename_i X hX
   refine (aV _).2 (ae2 ht hX ?_).1
   have:=(iY _ _ _).1 hc.2.2
   rw [lR]; omega
  ·exact h
 ·exact h
theorem aiW {X:Inode} (h:InodeOk X) {l:List Attr} (hl:AttrsOk l):InodeOk (s5 X l):=by
 obtain ⟨a1,a2,a3,a4,a5,a6,a7⟩:=h
 exact ⟨a1,a2,a3,a4,a5,hl,a7⟩
theorem aiX {l:List Attr} (h:AttrsOk l) (n:aA):AttrsOk (q0 l n):=
 ⟨lA4 (lN2 _ _) h.len,fun a ha=>h.ok a (mem_cutK.1 ha).1,rX h.up n⟩
theorem amU {l:List Attr} (h:AttrsOk l) {n v:aA} (hn:aZ n=true) (hv:1≤v.length∧v.length≤16) (hl:l.length<4) (hf:∀ a ∈ l,a.name≠n):AttrsOk (aeZ l ⟨n,v⟩):=by
 refine ⟨by unfold aeZ; rw [oT]; omega,fun a ha=>?_,aao h.up hf⟩
 rcases mem_putK.1 ha with rfl | ha
 ·exact ⟨hn,hv⟩
 ·exact h.ok a ha
theorem ae3 (ht:TreeOk t) {p:aA} {X:Inode} (h:cJ t p=.ok X) {l:List Attr} (hl:AttrsOk l):type_of% (qW ht (X:=X) (Y:=s5 X l) (aR h).1 rfl rfl rfl rfl (aiW (ht.tab.ok X (aR h).1).1 hl)):=qW ht (X:=X) (Y:=s5 X l) (aR h).1 rfl rfl rfl rfl (aiW (ht.tab.ok X (aR h).1).1 hl)
theorem adM (h:bJ t=true) (p n v:aA):bJ (n7 t p n v).1=true:=by
 have ht:=(aV t).1 h
 unfold n7
 split
 ·rename_i hc
  split
  ·rename_i X hX
   have ha:=(ht.tab.ok X (aR hX).1).1.attrs
   split
   ·exact (aV _).2 (ae3 ht hX (aiX ha n)).1
   ·rename_i hv
    split
    ·rename_i hl
     refine (aV _).2 (ae3 ht hX (amU (aiX ha n) hc.2.2.1 ⟨?_,hc.2.2.2⟩ hl fun a h=>(mem_cutK.1 h).2)).1
     cases v with
     | nil=>exact absurd rfl hv
     | cons=>simp
    ·exact h
  ·exact h
 ·exact h
end
theorem vU {s:aA} {m:Nat} (h:m<s.length) (h1:s[m]=47) (h2:∀ k,k<m→(hk:k<s.length)→s[k]≠47):bH s=s.take m::bH (s.drop (m+1)):=by
 have e:s=s.take m++47::s.drop (m+1):=by
  rw [← h1,← lF2 h,lH]
 have h3:∀ c ∈ s.take m,c≠47:=by
  intro c hc
  obtain ⟨k,hk,rfl⟩:=lU1 hc
  rw [List.getElem_take]
  exact h2 k (by simp at hk; omega) _
 have:=vG (s.take m) (s.drop (m+1)) h3
 rwa [← e] at this
theorem vV {s:aA} (h:∀ k,(hk:k<s.length)→s[k]≠47):bH s=[s]:=vH s fun c hc=>by
 obtain ⟨k,hk,rfl⟩:=lU1 hc
 exact h k hk
theorem oA (s:aA):(bH s).length=s.count 47+1:=by
 induction s with
 | nil=>rfl
 | cons c s ih=>
  by_cases hc:c=47
  ·rw [bH,lG hc,lV,ih,hc,List.count_cons_self]
  ·obtain ⟨a,t,e1,e2⟩:=mH c s hc
   rw [e2,List.count_cons_of_ne hc,← ih,e1]; rfl
theorem aiY {s:aA} {m:Nat} (h:m<s.length) (h1:s[m]=47) (h2:∀ k,k<m→(hk:k<s.length)→s[k]≠47):s.count 47=(s.drop (m+1)).count 47+1:=by
 have:=oA s
 rw [vU h h1 h2,lV,oA] at this
 omega
theorem sA {s:aA} (h:s.head?≠some 47):aB s=([],false):=by
 have hs:s≠[47]:=fun e=>h (by rw [e]; rfl)
 rw [aB,lJ hs]
 cases s with
 | nil=>rfl
 | cons c s=>
  have hc:c≠47:=fun e=>h (by rw [e]; rfl)
  obtain ⟨a,t,e1,e2⟩:=mH c s hc
  rw [e2]; rfl
theorem abT {s:aA} {l:List aA} (h:bH s=[]::l) (hb:bX l=false) (hs:s≠[47]):aB s=([],false):=by
 rw [aB,lJ hs,h]
 cases l with
 | nil=>rfl
 | cons n l=>simp only [wN,hb]; rfl
theorem yH {s:aA} {l:List aA} (h:bH s=[]::l) (hl:l≠[]) (hb:bX l=true) (hs:s≠[47]):aB s=(l,true):=by
 rw [aB,lJ hs,h]
 cases l with
 | nil=>exact absurd rfl hl
 | cons n l=>simp only [wN,hb]; rfl
theorem abU {l:List aA} {n:aA} (h:n ∈ l) (hn:aZ n=false):bX l=false:=by
 have:l.all aZ=false:=by rw [lY3]; exact ⟨n,h,by simp [hn]⟩
 simp [bX,this]
theorem yI {l:List aA} (h:30<l.length):bX l=false:=by rw [bX,lB (by omega),Bool.false_and]
structure Cut (s:aA) (i j:Nat) (out:List aA):Prop where
 le:j≤i
 end':i≤s.length+1
 no:∀ k,j≤k→k<i→(h:k<s.length)→s[k]≠47
 len:out.length≤30
 ok:∀ n ∈ out,aZ n=true
 z:i=0→out=[]
 cut:s.head?=some 47→(i=0∧j=0∧out=[])∨(0<i∧bH s=[]::(out++if i≤s.length then bH (s.drop j) else []))
theorem Cut.zero (s:aA):Cut s 0 0 []:=⟨lR1 _,lD3 _,fun _ _ h=>absurd h (Nat.not_lt_zero _),lD3 _,by simp,fun _=>rfl,fun _=>.inl ⟨rfl,rfl,rfl⟩⟩
theorem Cut.skip {s:aA} {i j:Nat} {out:List aA} (h:Cut s i j out) (hi:i<s.length) (hc:s[i]≠47):Cut s (i+1) j out:=by
 obtain ⟨a1,a2,a3,a4,a5,_,a6⟩:=h
 refine ⟨by omega,by omega,fun k h1 h2 h3=>?_,a4,a5,fun h=>absurd h (Nat.succ_ne_zero _),fun h0=>?_⟩
 ·by_cases e:k=i
  ·subst e; exact hc
  ·exact a3 k h1 (by omega) h3
 ·rcases a6 h0 with ⟨e1,e2,e3⟩ | ⟨e1,e2⟩
  ·subst e1
   exfalso
   rw [List.head?_eq_getElem?,lK hi] at h0
   exact hc (Option.some.inj h0)
  ·refine .inr ⟨by omega,?_⟩
   rw [lG (by omega)] at e2
   rw [lG (by omega)]
   exact e2
theorem Cut.first {s:aA} (h:s.length=0∨∃ h:0<s.length,s[0]=47):Cut s 1 1 []:=by
 refine ⟨lR1 _,by omega,fun k h1 h2=>by omega,lD3 _,by simp,fun h=>rfl,fun h0=>.inr ⟨by omega,?_⟩⟩
 cases s with
 | nil=>cases h0
 | cons c s=>
  injection h0 with h0
  subst h0
  rw [bH,lG rfl,lG (by simp)]
  rfl
theorem Cut.name {s:aA} {i j:Nat} {out:List aA} (h:Cut s i j out) (h0:0<i) (hi:i≤s.length) (hc:i=s.length∨∃ h:i<s.length,s[i]=47) (hh:s.head?=some 47) :
  bH s=[]::(out++(s.drop j).take (i-j)::if i+1≤s.length then bH (s.drop (i+1)) else []):=by
 obtain ⟨a1,a2,a3,a4,a5,_,a6⟩:=h
 rcases a6 hh with ⟨e1,_⟩ | ⟨_,e2⟩
 ·omega
 ·rw [lG hi] at e2
  rw [e2]
  congr 2
  have no:∀ k,k<i-j→(hk:k<(s.drop j).length)→(s.drop j)[k]≠47:=fun k h1 h2=>by
   rw [List.getElem_drop]
   exact a3 _ (by omega) (by omega) _
  rcases hc with rfl | ⟨hc,hx⟩
  ·rw [lJ (by omega),vV (fun k hk=>no k (by simpa using hk) hk),lD2 (by simp)]
  ·rw [lG (by omega),vU (m:=i-j) (by simp; omega) (by rw [List.getElem_drop]; simpa [show j+(i-j)=i by omega] using hx) no,lJ2,show j+(i-j+1)=i+1 by omega]
theorem Cut.next {s:aA} {i j:Nat} {out:List aA} (h:Cut s i j out) (h0:0<i) (hi:i≤s.length) (hc:i=s.length∨∃ h:i<s.length,s[i]=47) (hn:aZ ((s.drop j).take (i-j))=true) (hl:out.length<30) :
  Cut s (i+1) (i+1) (out++[(s.drop j).take (i-j)]):=by
 refine ⟨lR1 _,by omega,fun k h1 h2=>by omega,by simp; omega,fun n hm=>?_,fun h=>absurd h (Nat.succ_ne_zero _),fun hh=>.inr ⟨by omega,?_⟩⟩
 ·rcases lI.1 hm with hm | hm
  ·exact h.ok n hm
  ·simp at hm; subst hm; exact hn
 ·rw [h.name h0 hi hc hh,lG2]; rfl
theorem Cut.bad {s:aA} {i j:Nat} {out:List aA} (h:Cut s i j out) (h0:0<i) (hi:i≤s.length) (hc:i=s.length∨∃ h:i<s.length,s[i]=47) (hn:aZ ((s.drop j).take (i-j))=false∨out.length=30) (hs:s≠[47]) :
  aB s=([],false):=by
 by_cases hh:s.head?=some 47
 ·refine abT (h.name h0 hi hc hh) ?_ hs
  rcases hn with hn | hn
  ·exact abU (by simp) hn
  ·exact yI (by simp; omega)
 ·exact sA hh
theorem Cut.done {s:aA} {j:Nat} {out:List aA} (h:Cut s (s.length+1) j out) (hh:s.head?=some 47) (hs:s≠[47]):aB s=(out,true):=by
 obtain ⟨a1,a2,a3,a4,a5,_,a6⟩:=h
 rcases a6 hh with ⟨e1,_⟩ | ⟨_,e2⟩
 ·omega
 ·rw [lJ (by omega),lP2] at e2
  refine yH e2 (fun e=>?_) (oP a4 a5) hs
  rw [e] at e2
  cases s with
  | nil=>cases hh
  | cons c s=>
   injection hh with hh
   subst hh
   rw [bH,lG rfl] at e2
   injection e2 with _ e2
   exact qT _ e2
theorem agB (n:aA) (l:List aA):dS (n::l)=47::(n++dS l):=by simp [dS]
theorem agC (l:List aA) (n:aA):dS (l++[n])=dS l++47::n:=by simp [dS]
theorem vW {l:List aA} (h:bX l=true):(dS l).length≤450:=by
 obtain ⟨h1,h2⟩:=j6 h
 have:=rY (fun n:aA=>n.length+1) l 15 fun n hn=>by have:=(mI (h2 n hn)).2; omega
 have e:(dS l).length=(l.map fun n:aA=>n.length+1).sum:=by rw [dS,List.length_flatMap]; rfl
 rw [e]
 have:l.length*15≤30*15:=lH1 _ h1
 omega
theorem eH (x a b:Int):bC Tryz.prog 158 [.int .i64 x,.int .i64 a,.int .i64 b] (.bool (inR x a b)) [.undef,.undef,.undef]:=by
 refine U aeN [] 71 [] fun w hP hQ=>?_
 unfold aab
 refine N ?_
 (first | with_reducible refine rO _ ?_ ?_ | refine rP _ ?_ ?_) <;> intro h1
 ·have hz:=h1
  refine Nz ?_
  simp [inR,h1]
 ·have hz:=h1
  refine Nz ?_
  simp [inR,h1]
theorem jI (x a b:Int):bC Tryz.prog 94 [.int .i64 x,.int .i64 a,.int .i64 b] (.bool (inR x a b)) [.undef,.undef,.undef]:=by
 refine U akD [] 71 [] fun w hP hQ=>?_
 unfold aeJ
 refine N ?_
 (first | with_reducible refine rO _ ?_ ?_ | refine rP _ ?_ ?_) <;> intro h1
 ·have hz:=h1
  refine Nz ?_
  simp [inR,h1]
 ·have hz:=h1
  refine Nz ?_
  simp [inR,h1]
theorem oW {α:Type} {l:List α} {p:α→Bool} {i:Nat} (hk:∀ k,k<i→(h:k<l.length)→p l[k]=false) (h:i<l.length) (hi:p l[i]=true):l.findIdx? p=some i:=by
 rw [lO2]
 exact ⟨h,hi,fun j hj=>by simp [hk j hj (by omega)]⟩
theorem oX {α:Type} {l:List α} {p:α→Bool} (hk:∀ k,(h:k<l.length)→p l[k]=false):l.findIdx? p=none:=by
 rw [lU3]
 intro x hx
 obtain ⟨k,h,rfl⟩:=lU1 hx
 exact hk k h
theorem oB {α:Type} {l:List α} {p:α→Bool} {i:Nat} (hk:∀ k,k<i→(h:k<l.length)→p l[k]=false) (h:i<l.length) (hi:p l[i]=false):∀ k,k<i+1→(h:k<l.length)→p l[k]=false:=by
 intro k hlt hl
 by_cases e:k=i
 ·subst e; exact hi
 ·exact hk k (by omega) hl
theorem ae4 {x a b:Int} (h:inR x a b=false):¬ (a≤x∧x≤b):=fun h'=>by rw [(iY x a b).2 h'] at h; cases h
theorem aiZ (c:UInt8):okc c=true↔(97≤c.toNat∧c.toNat≤122)∨(48≤c.toNat∧c.toNat≤57)∨c.toNat=95∨c.toNat=45∨c.toNat=46:=by
 unfold okc
 simp only [lL4,lM,decide_eq_true_eq,UInt8.le_iff_toNat_le,← UInt8.toNat_inj]
 simp
 omega
theorem aas {c:UInt8} (h:(97≤c.toNat∧c.toNat≤122)∨(48≤c.toNat∧c.toNat≤57)∨c.toNat=95∨c.toNat=45∨c.toNat=46):okc c=true:=(aiZ c).2 h
theorem alA {c:UInt8} (h:¬ ((97≤c.toNat∧c.toNat≤122)∨(48≤c.toNat∧c.toNat≤57)∨c.toNat=95∨c.toNat=45∨c.toNat=46)):okc c=false:=by
 cases e:okc c with
 | false=>rfl
 | true=>exact absurd ((aiZ c).1 e) h
theorem ae5 {s:aA} {i:Nat} (h:i<s.length) (hc:okc s[i]=false):aZ s=false:=by
 unfold aZ
 have:s.all okc=false:=by
  rw [lY3]
  exact ⟨s[i],lO h,by simp [hc]⟩
 simp [this]
theorem an3 (n:Nat):n<45∨n=45∨n=46∨n=47∨(48≤n∧n≤57)∨(58≤n∧n≤94)∨n=95∨n=96∨(97≤n∧n≤122)∨122<n:=by omega
theorem ae6 {s:aA} {i:Nat} (hk:∀ k,k<i→(h:k<s.length)→okc s[k]=true) (h:i<s.length) (hi:okc s[i]=true):∀ k,k<i+1→(h:k<s.length)→okc s[k]=true:=by
 intro k hlt hl
 by_cases e:k=i
 ·subst e; exact hi
 ·exact hk k (by omega) hl
theorem alB {s:aA} (hk:∀ k,(h:k<s.length)→okc s[k]=true):s.all okc=true:=by
 rw [lW]
 intro x hx
 obtain ⟨k,h,rfl⟩:=lU1 hx
 exact hk k h
theorem eI (s:aA) (hl:s.length<2^48):bC Tryz.prog 102 [.str s] (.bool (aZ s)) [.undef]:=by
 refine U aga [] 221 [] fun w hP hQ=>?_
 unfold xO
 refine N ?_
 refine fH [2,3,4] ?_
 refine N ?_
 refine aT [2,3,4] (fun i:Nat=>[(7,.int .i64 i)]) (fun i=>i≤s.length∧∀ k,k<i→(h:k<s.length)→okc s[k]=true) (fun i=>s.length-i) (0) hP hQ (rfl) (by simp) ?_
 rintro i ⟨hi,hk⟩ w1 hP1 hQ1
 refine N1 ?_
 (first | with_reducible refine cQ _ ?_ ?_ | refine cR _ ?_ ?_) <;> intro h1
 ·have hlt:i<s.length:=by omega
  have hbad:okc s[i]=false→aZ s=false:=fun h=>ae5 hlt h
  have hnext:okc s[i]=true→_:=fun h=>ae6 hk hlt h
  have hz:=(bG h1)
  refine Nz1 ?_
  generalize s[i]=c at *
  rcases an3 c.toNat with h | h | h | h | h | h | h | h | h | h
  all_goals (simp +decide (maxSteps:=9^9) (disch:=omega) only[↓SB0,SX,seval,hQ,hQ1,anU,anV])
  all_goals first
   | (rw [hbad (alA (by omega))]; done)
   | exact ⟨i+1,rfl,⟨by omega,hnext (aas (by omega))⟩,by omega⟩
 ·obtain rfl:i=s.length:=by omega
  have hall:s.all okc=true:=alB fun k h=>hk k h h
  refine N1 ?_
  (first | with_reducible refine rO _ ?_ ?_ | refine rP _ ?_ ?_) <;> intro g1
  rotate_left
  ·have hz:=g1
   refine Nz ?_
   simp [aZ,hall]; omega
  have hz:=g1
  refine Nz ?_
  (first | with_reducible refine rO _ ?_ ?_ | refine rP _ ?_ ?_) <;> intro g2
  rotate_left
  ·have hz:=g2
   refine Nz ?_
   simp [aZ,hall]; omega
  have hz:=g2
  refine Nz ?_
  (first | with_reducible refine rO _ ?_ ?_ | refine rP _ ?_ ?_) <;> intro g3
  ·have hz:=g3
   refine Nz ?_
   simp [aZ,g3]
  have hz:=g3
  refine Nz ?_
  simp [aZ,hall,g3]
  try omega
theorem dA (s:aA) (hl:s.length<2^48):bC Tryz.prog 150 [.str s] (.bool (aZ s)) [.undef]:=by
 refine U agh [] 29 [] fun w hP hQ=>?_
 unfold xT
 refine N ?_
 refine fH [2,4] ?_
 refine N ?_
 refine aT [2,4] (fun i:Nat=>[(3,.int .i64 i)]) (fun i=>i≤s.length∧∀ k,k<i→(h:k<s.length)→okc s[k]=true) (fun i=>s.length-i) (0) hP hQ (rfl) (by simp) ?_
 rintro i ⟨hi,hk⟩ w1 hP1 hQ1
 refine N1 ?_
 (first | with_reducible refine cQ _ ?_ ?_ | refine cR _ ?_ ?_) <;> intro h1
 ·have hlt:i<s.length:=by omega
  have hbad:okc s[i]=false→aZ s=false:=fun h=>ae5 hlt h
  have hnext:okc s[i]=true→_:=fun h=>ae6 hk hlt h
  have hz:=(bG h1)
  refine Nz1 ?_
  generalize s[i]=c at *
  have hc:c.toNat<256:=c.toNat_lt
  cases hA:inR (c.toNat) 97 122 with
  | true=>
   have hA':=(iY _ _ _).1 hA
   refine N1 ?_
   have hz:=hA
   refine Kz1 (eH (c.toNat) 97 122) ?_
   exact ⟨i+1,rfl,⟨by omega,hnext (aas (by omega))⟩,by omega⟩
  | false=>
   have hA':=ae4 hA
   cases hB:inR (c.toNat) 48 57 with
   | true=>
    have hB':=(iY _ _ _).1 hB
    refine N1 ?_
    have hz:=hA
    refine Kz1 (eH (c.toNat) 97 122) ?_
    have hz:=hB
    refine Kz1 (eH (c.toNat) 48 57) ?_
    exact ⟨i+1,rfl,⟨by omega,hnext (aas (by omega))⟩,by omega⟩
   | false=>
    have hB':=ae4 hB
    have hr:c.toNat=95∨c.toNat=45∨c.toNat=46∨(c.toNat≠95∧c.toNat≠45∧c.toNat≠46):=by omega
    rcases hr with h | h | h | h
    all_goals (simp +decide (maxSteps:=9^9) (disch:=omega) only[↓SB0,SX,seval,hQ,hQ1])
    all_goals (first | refine aI hP1 (eH (c.toNat) 97 122) (.inl ⟨rfl,fun _ hx=>nomatch hx⟩) ?_ | skip)
    all_goals (simp +decide (maxSteps:=9^9) (disch:=omega) only[↓SB0,SX,seval,hQ,hQ1,hA])
    all_goals (first | refine aI hP1 (eH (c.toNat) 48 57) (.inl ⟨rfl,fun _ hx=>nomatch hx⟩) ?_ | skip)
    all_goals (simp +decide (maxSteps:=9^9) (disch:=omega) only[↓SB0,SX,seval,hQ,hQ1,hB,anU,anV])
    all_goals first
     | (rw [hbad (alA (by omega))]; done)
     | exact ⟨i+1,rfl,⟨by omega,hnext (aas (by omega))⟩,by omega⟩
 ·obtain rfl:i=s.length:=by omega
  have hall:s.all okc=true:=alB fun k h=>hk k h h
  refine N1 ?_
  cases g1:inR (s.length:Nat) 1 14 with
  | false=>
   have g1':=ae4 g1
   have hz:=g1
   refine Kz (eH (s.length:Nat) 1 14) ?_
   simp [aZ,hall]; omega
  | true=>
   have g1':=(iY _ _ _).1 g1
   have hz:=g1
   refine Kz (eH (s.length:Nat) 1 14) ?_
   (first | with_reducible refine rO _ ?_ ?_ | refine rP _ ?_ ?_) <;> intro g3
   ·have hz:=g3
    refine Nz ?_
    simp [aZ,g3]
   have hz:=g3
   refine Nz ?_
   simp [aZ,hall,g3]
   try omega
section
open Go.Proofs Go.RowKit
def dB (s:aA):List TV:=[.str s]
theorem amV (l:List aA):f5 (l.map dB)=true:=by
 rw [f5,lW]
 intro r hr
 obtain ⟨x,_,rfl⟩:=lV1.1 hr
 rfl
theorem abV {P:Program} {f:Nat} {a b:aA} {r:Int} (hE:p9 P f) (run:∀ w,Calls P f #[cK a,cK b] w fun e w'=>e=.returned (.int .i64 r)∧w'=w):bC P f [.str a,.str b] (.int .i64 r) [.undef,.undef]:=by
 refine ⟨hE,rfl,?_⟩
 intro w vs F X h h1 h2 h3
 cases h with
 | str _ _ _ vs _ h=>
  cases h with
  | str _ _ _ vs _ h=>
   cases h with
   | nil _ _ hF hX=>
    refine (run w).mono ?_
    rintro e w' ⟨rfl,rfl⟩
    exact ⟨_,F,X,rfl,.int _ _ _ _ _ _ (.undef _ _ _ _ _ (.undef _ _ _ _ _ (.nil _ _ hF hX))),h1,h2,⟨lR1 _,.refl _⟩,fun b _ _=>rfl,fun b hb=>.inl hb,fun b hb=>⟨.inl hb,h3 b hb⟩⟩
theorem akS (s:aA):bC Tryz.prog 230 [.str s,.str [47]] (.int .i64 (Lib.indexByte s 47)) [.undef,.undef]:=
 abV ⟨_,Tryz.func230,by kernel_rfl,by kernel_rfl⟩ fun w=>Any.strings_Index_one abz ⟨s.toArray⟩ 47 w
theorem akT (s:aA):bC Tryz.prog 229 [.str s,.str [47]] (.int .i64 (s.count 47:Nat)) [.undef,.undef]:=
 abV ⟨_,Tryz.func229,by kernel_rfl,by kernel_rfl⟩ fun w=>Any.strings_Count_one abA ⟨s.toArray⟩ 47 w
theorem aou (s:aA):(Lib.indexByte s 47=-1∧∀ k,(h:k<s.length)→s[k]≠47)∨∃ m,∃ h:m<s.length,Lib.indexByte s 47=(m:Nat)∧s[m]=47∧∀ k,k<m→(h:k<s.length)→s[k]≠47:=by
 induction s with
 | nil=>exact .inl ⟨rfl,fun k h=>by simp at h⟩
 | cons c s ih=>
  by_cases hc:c=47
  ·exact .inr ⟨0,by simp,by simp [Lib.indexByte,hc],by simpa using hc,fun k hk=>absurd hk (Nat.not_lt_zero _)⟩
  ·have hb:(c == 47)=false:=by simpa using hc
   rcases ih with ⟨h1,h2⟩ | ⟨m,h1,h2,h3,h4⟩
   ·refine .inl ⟨by simp [Lib.indexByte,hb,h1],fun k hk=>?_⟩
    cases k with
    | zero=>simpa using hc
    | succ k=>simpa using h2 k (by simpa using hk)
   ·refine .inr ⟨m+1,by simpa using h1,?_,by simpa using h3,fun k hk hl=>?_⟩
    ·have:((m:Int) == -1)=false:=by simp
     simp [Lib.indexByte,hb,h2,this]
    ·cases k with
     | zero=>simpa using hc
     | succ k=>simpa using h4 k (by omega) (by simpa using hl)
theorem abW:Builder.Extra Tryz.prog mU where
 sizeBuilder:=by kernel_rfl
 liesBuilder:=by kernel_rfl
 t5:=Tryz.underlying5
 a5:=Tryz.isAgg5
 z5:=Tryz.sizeOf5
 v5:=Tryz.zeroValue5
 infoByte:=by kernel_rfl
 cellsByte:=by kernel_rfl
 sizeByte:=by kernel_rfl
 neB5:=by decide
theorem akU {w:World} {o:Bool} {F:aK}:∀ (l:List aA) {cs:List Value},Row w o F cs (l.map dB).flatten→cs=l.map cK∧∀ b,F b=0:=by
 intro l
 induction l generalizing F with
 | nil=>
  intro cs h
  cases h with
  | nil _ _ hF=>exact ⟨rfl,hF⟩
 | cons n l ih=>
  intro cs h
  have e:((n::l).map dB).flatten=.str n::(l.map dB).flatten:=by simp [dB]
  rw [e] at h
  cases h with
  | str _ _ _ vs _ h=>
   obtain ⟨e1,e2⟩:=ih h
   exact ⟨by rw [e1]; rfl,e2⟩
theorem an4 (l:List aA) (hl:l.length<2^40) (hn:(Lib.join l [47]).length<2^47):bC Tryz.prog 225 [.ext 1 (l.map dB),.str [47]] (.str (Lib.join l [47])) [.undef,.undef]:=by
 refine ⟨⟨_,Tryz.func225,by kernel_rfl,by kernel_rfl⟩,rfl,?_⟩
 intro w vs F X h h1 h2 h3
 have fin:∀ {e:Ending} {w':World} (h0:∀ b,F b=0),e=.returned (.string ⟨(Lib.join l [47]).toArray⟩)→Below w.heap.size w w'→∃ v F' X',e=.returned v∧RepA w' lk0 F' X' (v::vs) [.str (Lib.join l [47]),.undef,.undef]∧(∀ b,F' b≤1)∧(∀ b,F' b=0∨X' b=0) ∧
   Grows w w'∧(∀ b,b<w.heap.size→F b=0→w'.heap[b]?=w.heap[b]?)∧(∀ b,F' b≠0→F b≠0∨w.heap.size≤b)∧(∀ b,X' b≠0→(X b≠0∨F b≠0∨w.heap.size≤b)∧b<w'.heap.size):=by
  intro e w' h0 he hb
  have hlen:=h.length
  match vs,hlen with
  | [v1,v2],_=>exact ⟨_,fun _=>0,fun _=>0,he,.str _ _ _ _ _ (.undef _ _ _ _ _ (.undef _ _ _ _ _ (.nil _ _ (fun _=>rfl) (fun _=>rfl)))),fun b=>lD3 _,fun b=>.inl rfl,⟨hb.size,⟨hb.os,hb.output⟩⟩,fun b hlt _=>hb.block b hlt,fun b hb=>absurd rfl hb,fun b hb=>absurd rfl hb⟩
 cases h with
 | ext _ _ X1 X2 _ _ v vs _ hr hn' hX=>
  cases hn' with
  | str _ _ _ vs _ h0=>
   cases h0 with
   | nil _ _ hF hX2=>
    by_cases he:l=[]
    ·subst he
     have hv:∃ a c,v=.slice a 0 c:=by
      cases hr with
      | ext0 _ _ a cap _ _ _=>exact ⟨a,cap,rfl⟩
      | ext _ _ _ _ _ a cap _ _ _ _ _ _ _ _ _ _=>exact ⟨some a,cap,rfl⟩
     obtain ⟨a,c,rfl⟩:=hv
     refine (Any.strings_Join_none sQ abW a c ⟨#[47]⟩ w).mono ?_
     rintro e w' ⟨he,rfl⟩
     exact fin hF he (Below.refl _ _)
    ·generalize hes:l.map dB=es at hr
     cases hr with
     | ext0 _ _ a cap _ _ _=>simp at hes; exact absurd hes he
     | ext _ F1 F2 _ _ a cap cs _ _ hle hs hcs hc g1 g2 hFF=>
      subst hes
      obtain ⟨e1,_⟩:=akU l g1
      have hcl:cs.length=l.length:=by rw [e1,lJ1]
      have hpos:0<l.length:=lE3.2 he
      have hc0:=hc 0 (by omega)
      rw [show a.add 0=a from rfl,lK (by omega)] at hc0
      have hsp:a.spot=none:=by
       unfold World.cell? at hc0
       split at hc0
       ·split at hc0
        ·cases hc0
        ·rename_i h; simpa using h
       ·cases hc0
      obtain ⟨ab,ao,asp⟩:=a
      simp only at hsp
      subst hsp
      have hbl:ab<w.heap.size:=World.block_lt_of_cell? _ _ hc0
      have hml:(l.map dB).length=l.length:=lJ1 _
      rw [hml] at hle
      have hxs:(l.map fun s=>(⟨s.toArray⟩:ByteArray)).map (fun x=>x.data.toList)=l:=by rw [lR4]; simp [Function.comp_def]
      have:=Any.strings_Join sQ abW ab ao cap (l.map fun s=>(⟨s.toArray⟩:ByteArray)) ⟨#[47]⟩ w (fun j x hx=>by
       rw [lI1] at hx
       cases hj:l[j]? with
       | none=>rw [hj] at hx; cases hx
       | some s=>
        rw [hj] at hx
        have hjl:j<l.length:=(lL.1 hj).1
        have:=hc j (by omega)
        rw [e1,lI1,hj] at this
        simp only [lC,Option.some.injEq] at hx
        subst hx
        rw [← Addr.add_lit]; exact this) hbl (by rw [lJ1]; omega) (by rw [lJ1]; exact hle) (by rw [hxs]; show (Lib.join l [47]).length≤_; omega)
      rw [hxs,lJ1,← hml] at this
      refine this.mono ?_
      rintro e w' ⟨he,hb⟩
      exact fin hF he hb
end
def agY (done:List aA) (n:Nat):List aA:=done++List.replicate (n-done.length) []
theorem ai0 (n:Nat):(agY [] n).map dB=List.replicate n [TV.str []]:=by simp [agY,dB]
theorem aat {done:List aA} {n:Nat} (h:done.length≤n):(agY done n).length=n:=by simp [agY]; omega
theorem ae7 {done:List aA} {n:Nat} (h:done.length<n) (x:aA):((agY done n).map dB).modify done.length (fun r=>TV.str x::r.drop 1)=(agY (done++[x]) n).map dB:=by
 obtain ⟨m,hm⟩:∃ m,n-done.length=m+1:=⟨n-done.length-1,by omega⟩
 have e:n-(done++[x]).length=m:=by simp; omega
 rw [agY,agY,hm,e,lM2,lM2,lM2,List.replicate_succ,lP]
 have:=p5 (done.map dB) (dB []::(List.replicate m []).map dB) done.length (fun r=>TV.str x::r.drop 1) (by simp)
 rw [this,lJ1,Nat.sub_self,lJ4,lG2]; rfl
theorem ai1 {done:List aA} {n:Nat}:((agY done n).map dB).take done.length=done.map dB:=by
 rw [← lP4,agY,List.take_left']; rfl
theorem abX (s:aA):s.count 47≤s.length:=List.count_le_length
theorem adN (s:aA) (hl:s.length<2^40):bC Tryz.prog 184 [.str s,.str [47],.int .i64 0,.int .i64 (-1)] (.own 1 ((bH s).map dB)) [.undef,.undef,.undef,.undef]:=by
 have hc:=abX s
 have hm:¬ ((s.length:Nat):Int)+1<((s.count 47:Nat):Int)+1:=by omega
 refine U aby [] 3855 [] fun w hP hQ=>?_
 unfold sM
 refine N ?_
 refine K (akT s) ?_
 have ha:((s.count 47:Nat):Int)+1-1=(s.count 47:Nat):=by omega
 have hb:(((s.count 47:Nat):Int)+1).toNat=s.count 47+1:=by omega
 simp only [lJ hm,ha,hb,← ai0]
 refine fH [11] ?_
 refine N ?_
 refine aT [11] (fun x:List aA × aA=>[(0,.str x.2),(9,.own 1 ((agY x.1 (s.count 47+1)).map dB)),(10,.int .i64 (x.1.length:Nat))]) (fun x=>x.1++bH x.2=bH s∧x.2.length<2^40) (fun x=>x.2.count 47) (([],s)) hP hQ (rfl) (⟨rfl,hl⟩) ?_
 rintro ⟨done,rest⟩ ⟨hd,hr⟩ w1 hP1 hQ1
 refine N1 ?_
 simp only at hd hr
 have hn:done.length+rest.count 47=s.count 47:=by
  have:=congrArg List.length hd
  rw [lT,oA,oA] at this; omega
 have hpl:=aat (done:=done) (n:=s.count 47+1) (by omega)
 rcases aou rest with ⟨h1,h2⟩ | ⟨m,h1,h2,h3,h4⟩
 ·have fin:done++[rest]=bH s:=by rw [← hd,vV h2]
  have hz:rest.count 47=0:=List.count_eq_zero.2 fun hmem=>by
   obtain ⟨k,hk,e⟩:=lU1 hmem
   exact h2 k hk e
  (first | with_reducible refine cQ _ ?_ ?_ | refine cR _ ?_ ?_) <;> intro g
  ·exfalso; omega
  ·have hdl:((done.length:Nat):Int)<((agY done (s.count 47+1)).length:Nat):=by omega
   have e1:(((done.length:Nat):Int)+1-0).toNat=done.length+1:=by omega
   have e2:0+(done.length+1)≤s.count 47+1:=by omega
   have e3:=ae7 (done:=done) (n:=s.count 47+1) (by omega) rest
   have e4:=ai1 (done:=done++[rest]) (n:=s.count 47+1)
   rw [fin,← fin,lT] at e4
   have hp2:=aat (done:=done++[rest]) (n:=s.count 47+1) (by simp; omega)
   have hz:=And.intro hpl (And.intro hp2 (And.intro e1 (And.intro e2 e3)))
   refine Nz1 ?_
   rw [← fin]
   exact congrArg (AV.own 1) e4
 ·have hx:=aiY h1 h3 h4
  have hy:=vU h1 h3 h4
  (first | with_reducible refine cQ _ ?_ ?_ | refine cR _ ?_ ?_) <;> intro g
  ·have e5:¬ ((m:Nat):Int)<0:=by omega
   have e6:(((m:Nat):Int)-0).toNat=m:=by omega
   have e7:(((rest.length:Nat):Int)-((m:Int)+1)).toNat=rest.length-(m+1):=by omega
   have e9:(rest.drop (m+1)).take (rest.length-(m+1))=rest.drop (m+1):=lD2 (by simp)
   have e8:(((m:Nat):Int)+1).toNat=m+1:=by omega
   have e3:=ae7 (done:=done) (n:=s.count 47+1) (by omega) (rest.take m)
   have hp2:=aat (done:=done++[rest.take m]) (n:=s.count 47+1) (by simp; omega)
   refine N1 ?_
   have hz:=And.intro h2 (And.intro e5 (And.intro e6 (And.intro e7 (And.intro e8 (And.intro e9 (And.intro hpl (And.intro hp2 e3)))))))
   refine Kz1 (akS rest) ?_
   exact ⟨(done++[rest.take m],rest.drop (m+1)),by simp,⟨by rw [← hd,hy,lG2]; rfl,by simp only [lE2]; omega⟩,by simp only; omega⟩
  ·exfalso; omega
theorem amW (s:aA) (hl:s.length<2^40):bC Tryz.prog 142 [.str s,.str [47]] (.own 1 ((bH s).map dB)) [.undef,.undef]:=by
 refine U aiu [] 19 [] fun w hP hQ=>?_
 unfold abp
 refine N ?_
 exact K (adN s hl) trivial
theorem abY (s:aA) (hl:s.length<2^48):bC Tryz.prog 186 [.str s] (.bool (!aZ s)) [.undef]:=by
 refine U aak [] 5 [] fun w hP hQ=>?_
 unfold qM
 refine N ?_
 exact K (eI s hl) trivial
theorem q8 {g:Nat} {p:aA→Bool} (l:List aA) (hl:l.length<2^48) (hc:∀ v ∈ l,bC Tryz.prog g [.str v] (.bool (p v)) [.undef]) :
  bC Tryz.prog 231 [.ext 1 (l.map dB),.fn g []] (.int .i64 (abP (l.findIdx? p))) [.undef,.undef]:=by
 refine U o3 [] 435 [] fun w hP hQ=>?_
 unfold iB
 refine N ?_
 refine fH [4,5] ?_
 refine N ?_
 refine aT [4,5] (fun i:Nat=>[(8,.int .i64 i)]) (fun i=>i≤l.length∧∀ k,k<i→(h:k<l.length)→p l[k]=false) (fun i=>l.length-i) (0) hP hQ (rfl) (by simp) ?_
 rintro i ⟨hi,hk⟩ w1 hP1 hQ1
 refine N1 ?_
 (first | with_reducible refine cQ _ ?_ ?_ | refine cR _ ?_ ?_) <;> intro h1
 ·simp +decide (maxSteps:=9^9) (disch:=omega) only[↓SB0,SX,seval,hQ,hQ1,bG h1,dB]
  cases h2:p (l[i]'(by omega)) with
  | true=>
   have hz:=h2
   refine Kz1 (hc (l[i]'(by omega)) (lO _)) ?_
   rw [oW hk (by omega) h2]; rfl
  | false=>
   have hz:=h2
   refine Kz1 (hc (l[i]'(by omega)) (lO _)) ?_
   exact ⟨i+1,rfl,⟨by omega,oB hk (by omega) h2⟩,by omega⟩
 ·obtain rfl:i=l.length:=by omega
  refine N1 ?_
  rw [oX fun k h=>hk k h h]; rfl
theorem oC {g:Nat} {p:aA→Bool} (l:List aA) (hl:l.length<2^48) (hc:∀ v ∈ l,bC Tryz.prog g [.str v] (.bool (p v)) [.undef]) :
  bC Tryz.prog 185 [.ext 1 (l.map dB),.fn g []] (.bool (l.any p)) [.undef,.undef]:=by
 have hI:=q8 l hl hc
 cases e:l.findIdx? p with
 | none=>
  have:l.any p=false:=by
   rw [List.any_eq_false]
   intro x hx
   rw [lU3] at e
   simp [e x hx]
  rw [e] at hI
  rw [this]
  refine U fT [] 19 [] fun w hP hQ=>?_
  unfold dM
  refine N ?_
  exact K (hI) trivial
 | some k=>
  have:l.any p=true:=by
   rw [lO2] at e
   rw [List.any_eq_true]
   exact ⟨_,lO e.1,e.2.1⟩
  rw [e,show abP (some k)=(k:Int) from rfl] at hI
  rw [this]
  have hz:decide ((0:Int)≤(k:Nat))=true:=lE (by omega)
  refine U fT [] 19 [] fun w hP hQ=>?_
  unfold dM
  refine N ?_
  have hz:=hz
  exact Kz (hI) trivial
theorem yJ (l:List aA) (hl:l.length<2^48) (hs:∀ n ∈ l,n.length<2^48):bC Tryz.prog 143 [.ext 1 (l.map dB)] (.bool (bX l)) [.undef]:=by
 have hC:=oC (g:=186) (p:=fun s=>!aZ s) l hl fun v hv=>abY v (hs v hv)
 have e:bX l=(decide (((l.length:Nat):Int)≤30) && !(l.any fun s=>!aZ s)):=by
  rw [bX,List.not_any_eq_all_not,show decide (l.length≤30)=decide (((l.length:Nat):Int)≤30) by rw [decide_eq_decide]; omega]
  simp
 rw [e]
 refine U adp [] 5 [] fun w hP hQ=>?_
 unfold uV
 refine N ?_
 (first | with_reducible refine rO _ ?_ ?_ | refine rP _ ?_ ?_) <;> intro h
 ·have hz:=h
  refine Nz ?_
  refine K (hC) ?_
  rw [lE h]; rfl
 ·have hz:=h
  exact Nz trivial
theorem adO (s:aA):∀ n ∈ bH s,n.length≤s.length:=by
 induction s with
 | nil=>simp [bH]
 | cons c s ih=>
  intro n hn
  by_cases hc:c=47
  ·rw [bH,lG hc] at hn
   rcases lF.1 hn with rfl | hn
   ·simp
   ·have:=ih n hn; simp; omega
  ·obtain ⟨a,t,e1,e2⟩:=mH c s hc
   rw [e2] at hn
   rcases lF.1 hn with rfl | hn
   ·have:=ih a (by rw [e1]; simp); simp; omega
   ·have:=ih n (by rw [e1]; simp [hn]); simp; omega
theorem agD (s:aA):(bH s).length≤s.length+1:=by rw [oA]; have:=abX s; omega
theorem oD (s:aA) (hl:s.length<2^40):bC Tryz.prog 81 [.str s] (.tup [.own 1 ((aB s).1.map dB),.bool (aB s).2]) [.undef]:=by
 have hS:=amW s hl
 have hp:=adO s
 have hf:=agD s
 by_cases h0:s=[47]
 ·subst h0
  refine U fS [] 29 [] fun w hP hQ=>?_
  unfold eJ
  refine N ?_
  rfl
 cases e:bH s with
 | nil=>exact absurd e (qT s)
 | cons a t=>
  rw [e] at hS hp hf
  cases a with
  | cons c a=>
   have er:aB s=([],false):=by rw [aB,lJ h0,e]; rfl
   rw [er]
   refine U fS [] 29 [] fun w hP hQ=>?_
   unfold eJ
   refine N ?_
   have hz:=h0
   refine Nz ?_
   (first|refine cI hP (hS) rfl rfl ?_|refine cH hP (hS) rfl rfl ?_)
   simp +decide (maxSteps:=9^9) (disch:=omega) only[↓SB0,SX,seval,hQ,lP,dB]
  | nil=>
   cases t with
   | nil=>
    have er:aB s=([],false):=by rw [aB,lJ h0,e]; rfl
    rw [er]
    refine U fS [] 29 [] fun w hP hQ=>?_
    unfold eJ
    refine N ?_
    have hz:=h0
    refine Nz ?_
    (first|refine cI hP (hS) rfl rfl ?_|refine cH hP (hS) rfl rfl ?_)
    simp +decide (maxSteps:=9^9) (disch:=omega) only[↓SB0,SX,seval,hQ,lP,lA2,dB]
   | cons n t=>
    have hN:=yJ (n::t) (by simp only [lV] at hf ⊢; omega) fun x hx=>by have:=hp x (by simp [hx]); omega
    have hw:decide (((t.length+1+1:Nat):Int)<2)=false:=lB (by omega)
    have hy:1+(t.length+1)≤t.length+1+1:=by omega
    have hz:(((t.length+1+1:Nat):Int)-1).toNat=t.length+1:=by omega
    have ht:([TV.str n]::List.map dB t).take (t.length+1)=[TV.str n]::List.map dB t:=lD2 (by simp)
    simp only [lP,show dB n=[TV.str n] from rfl] at hN
    cases hn:bX (n::t) with
    | false=>
     have er:aB s=([],false):=abT e hn h0
     rw [hn] at hN
     rw [er]
     refine U fS [] 29 [] fun w hP hQ=>?_
     unfold eJ
     refine N ?_
     simp +decide (maxSteps:=9^9) (disch:=omega) only[↓SB0,SX,seval,hQ,h0]
     (first|refine cI hP (hS) rfl rfl ?_|refine cH hP (hS) rfl rfl ?_)
     simp +decide (maxSteps:=9^9) (disch:=omega) only[↓SB0,SX,seval,hQ,lP,dB,hw,hz,ht,hy]
     (first|refine cI hP (hN) rfl rfl ?_|refine cH hP (hN) rfl rfl ?_)
     simp +decide (maxSteps:=9^9) (disch:=omega) only[↓SB0,SX,seval,hQ,hw,hz,ht,hy,lP,dB]
    | true=>
     have er:aB s=(n::t,true):=yH e (by simp) hn h0
     rw [hn] at hN
     rw [er]
     refine U fS [] 29 [] fun w hP hQ=>?_
     unfold eJ
     refine N ?_
     simp +decide (maxSteps:=9^9) (disch:=omega) only[↓SB0,SX,seval,hQ,h0]
     (first|refine cI hP (hS) rfl rfl ?_|refine cH hP (hS) rfl rfl ?_)
     simp +decide (maxSteps:=9^9) (disch:=omega) only[↓SB0,SX,seval,hQ,lP,dB,hw,hz,ht,hy]
     (first|refine cI hP (hN) rfl rfl ?_|refine cH hP (hN) rfl rfl ?_)
     simp +decide (maxSteps:=9^9) (disch:=omega) only[↓SB0,SX,seval,hQ,hw,hz,ht,hy,lP,dB]
theorem yK {n:Nat} (h:n<2^63):IntKind.i64.wrap (n:Int)=n:=by
 have h1:((2:Int)^IntKind.i64.bits)=2^64:=by decide
 have h2:((2:Int)^(IntKind.i64.bits-1))=2^63:=by decide
 unfold IntKind.wrap
 simp only [h1,h2,IntKind.signed]
 simp
 omega
theorem abZ (n:aA) (l:List aA):(47:UInt8)::Lib.join (n::l) [47]=dS (n::l):=by
 rw [Lib.join_cons,agB]
 congr 2
theorem yL {l:List aA} (h:bX l=true):(Lib.join l [47]).length≤450:=by
 cases l with
 | nil=>simp [Lib.join_nil]
 | cons n l=>
  have:=vW h
  rw [← abZ] at this
  simp at this; omega
theorem adP (l:List aA) (hl:l.length<2^40) (hs:∀ n ∈ l,n.length<2^48):bC Tryz.prog 179 [.ext 1 (l.map dB)] (.str (b8 l)) [.undef]:=by
 have hN:=yJ l (by omega) hs
 cases e:bX l with
 | false=>
  rw [e] at hN
  rw [b8,lJ (by simp [e])]
  refine U sP [] 5 [] fun w hP hQ=>?_
  unfold nR
  refine N ?_
  exact K (hN) trivial
 | true=>
  rw [e] at hN
  have hJ:=an4 l hl (by have:=yL e; omega)
  have er:(47:UInt8)::Lib.join l [47]=b8 l:=by
   rw [b8,lG e]
   cases l with
   | nil=>rfl
   | cons n l=>rw [abZ,lJ (by simp)]
  rw [← er]
  refine U sP [] 5 [] fun w hP hQ=>?_
  unfold nR
  refine N ?_
  refine K (hN) ?_
  have hb:1+(Lib.join l [47]).length≤4611686018427387904:=by have:=yL e; omega
  have hz:=hb
  exact Kz (hJ) trivial
theorem sB {s:aA}:∀ n ∈ (aB s).1,n.length≤14:=by
 intro n hn
 cases h:(aB s).2 with
 | false=>rw [aeW h] at hn; simp at hn
 | true=>exact (mI ((j6 (oQ h).1).2 n hn)).2
theorem kY (s:aA):(aB s).1.length≤30:=by
 cases h:(aB s).2 with
 | false=>rw [aeW h]; simp
 | true=>exact (j6 (oQ h).1).1
theorem vX {l:List aA} {k:Nat} (h:l.length=k+1):l[k]?=some (l.getLastD []):=by
 have hne:l≠[]:=fun e=>by rw [e] at h; simp at h
 rw [List.getLastD_eq_getLast?,List.getLast?_eq_some_getLast hne,List.getLast_eq_getElem]
 simp [h]
theorem adQ (s:aA) (hl:s.length<2^40):bC Tryz.prog 123 [.str s] (.tup [.str (aJ s).1,.str (aJ s).2.1,.bool (aJ s).2.2]) [.undef]:=by
 have hS:=oD s hl
 have hp:=sB (s:=s)
 have hf:=kY s
 unfold aJ
 generalize aB s=x at *
 obtain ⟨l,b⟩:=x
 cases b with
 | false=>
  rw [lJ (by simp)]
  refine U nT [] 253 [] fun w hP hQ=>?_
  unfold jG
  refine N ?_
  exact K (hS) trivial
 | true=>
  cases hk:l.length with
  | zero=>
   obtain rfl:l=[]:=lM1.1 hk
   rw [lJ (by simp)]
   refine U nT [] 253 [] fun w hP hQ=>?_
   unfold jG
   refine N ?_
   exact K (hS) trivial
  | succ k=>
   have hne:l≠[]:=fun e=>by rw [e] at hk; simp at hk
   rw [lG ⟨rfl,hne⟩]
   have hJ:=adP l.dropLast (by simp; simp only at hf; omega) fun n hn=>by have:=hp n (List.dropLast_subset _ hn); omega
   rw [List.dropLast_eq_take,hk] at hJ ⊢
   simp only [Nat.add_sub_cancel,lP4] at hJ ⊢
   have hg:=vX hk
   have h0:(decide (((k+1:Nat):Int)=0))=false:=lB (by omega)
   have h1:(((k+1:Nat):Int)-1)=(k:Int):=by omega
   have h2:((k:Int)-0).toNat=k:=by omega
   have h3:0+k≤k+1:=by omega
   have h4:=yK (n:=k) (by simp only [hk] at hf; omega)
   refine U nT [] 253 [] fun w hP hQ=>?_
   unfold jG
   refine N ?_
   have hz:=And.intro hk (And.intro h0 (And.intro h1 (And.intro h2 (And.intro h3 h4))))
   refine Kz (hS) ?_
   (first|refine cI hP (hJ) rfl rfl ?_|refine cH hP (hJ) rfl rfl ?_)
   simp +decide (maxSteps:=9^9) (disch:=omega) only[↓SB0,SX,seval,hQ,hk,h0,h1,h2,h3,h4,hg,dB]
theorem adR {l m:List aA} (h:l.length≤m.length):l.isPrefixOf m=decide (l=m.take l.length):=by
 rw [lO3,lT2,decide_eq_true_eq]
 exact List.prefix_iff_eq_take
theorem adS {l m:List aA} (h:m.length<l.length):l.isPrefixOf m=false:=by
 cases e:l.isPrefixOf m with
 | false=>rfl
 | true=>have:=(lT2.1 e).length_le; omega
theorem an5 (l:List aA) (n:aA):l.map dB++[[TV.str n]]=(l++[n]).map dB:=by simp [dB]
theorem akV (c:UInt8):((c.toNat:Int)=47)↔c=47:=by
 rw [← UInt8.toNat_inj]
 show _↔c.toNat=47
 omega
theorem dG (s:aA) (hl:s.length<2^40):bC Tryz.prog 91 [.str s] (.tup [.own 1 ((aB s).1.map dB),.bool (aB s).2]) [.undef]:=by
 by_cases h0:s=[47]
 ·subst h0
  refine U qN [] 253 [] fun w hP hQ=>?_
  unfold mE
  refine N ?_
  rfl
 refine U qN [] 253 [] fun w hP hQ=>?_
 unfold mE
 refine N ?_
 have hz:=h0
 refine Nz ?_
 refine fH [2,3,7] ?_
 refine N ?_
 refine aT [2,3,7] (fun x:Nat × Nat × List aA=>[(4,.own 1 (x.2.2.map dB)),(5,.int .i64 (x.2.1:Nat)),(6,.int .i64 (x.1:Nat))]) (fun x=>Cut s x.1 x.2.1 x.2.2) (fun x=>s.length+1-x.1) ((0,0,[])) hP hQ (rfl) (Cut.zero s) ?_
 rintro ⟨i,j,out⟩ hC w1 hP1 hQ1
 refine N1 ?_
 simp only at hC
 have c1:=hC.le
 have c2:=hC.end'
 have c3:=hC.len
 (first | with_reducible refine cQ _ ?_ ?_ | refine cR _ ?_ ?_) <;> intro h1
 ·have next:(i=s.length∨∃ h:i<s.length,s[i]=47)→_:=fun hc=>hc
  by_cases hi:i<s.length∧∃ h:i<s.length,s[i]≠47
  ·obtain ⟨_,h2,h3⟩:=hi
   have e1:decide (((i:Nat):Int)<(s.length:Nat))=true:=lE (by omega)
   have e2:decide (((s[i].toNat:Nat):Int)=47)=false:=lB fun e=>h3 ((akV _).1 e)
   have hz:=And.intro e1 (And.intro e2 (bG (show ((i:Nat):Int)<(s.length:Nat) by omega)))
   refine Nz1 ?_
   exact ⟨(i+1,j,out),rfl,hC.skip h2 h3,by simp only; omega⟩
  ·have hc:i=s.length∨∃ h:i<s.length,s[i]=47:=by
    by_cases e:i<s.length
    ·exact .inr ⟨e,Classical.byContradiction fun h=>hi ⟨e,e,h⟩⟩
    ·exact .inl (by omega)
   have hw:1≤s.length→i<s.length→∃ h:i<s.length,s[i]=47:=fun _ h=>hc.resolve_left (by omega)
   have e1:∃ b:Bool,decide (((i:Nat):Int)<(s.length:Nat))=b:=⟨_,rfl⟩
   rcases Nat.eq_zero_or_pos i with rfl | hp
   ·obtain rfl:=hC.z rfl
    have hF:Cut s 1 1 []:=Cut.first (hc.imp (fun h=>h.symm) id)
    rcases hc with hc | ⟨hc,hx⟩
    ·have e1:decide (((0:Nat):Int)<(s.length:Nat))=false:=lB (by omega)
     have e1':decide ((0:Int)<(s.length:Nat))=false:=lB (by omega)
     have hz:=And.intro e1 e1'
     refine Nz1 ?_
     exact ⟨(1,1,[]),rfl,hF,by simp only; omega⟩
    ·have e1:decide (((0:Nat):Int)<(s.length:Nat))=true:=lE (by omega)
     have e1':decide ((0:Int)<(s.length:Nat))=true:=lE (by omega)
     have e2:decide (((s[0].toNat:Nat):Int)=47)=true:=lE ((akV _).2 hx)
     have hz:=And.intro e1 (And.intro e1' (And.intro e2 (bG (show ((0:Nat):Int)<(s.length:Nat) by omega))))
     refine Nz1 ?_
     exact ⟨(1,1,[]),rfl,hF,by simp only; omega⟩
   ·have hi2:i≤s.length:=by omega
    have e3:decide ((0:Int)<((i:Nat):Int))=true:=lE (by omega)
    have e4:(((i:Nat):Int)-(j:Nat)).toNat=i-j:=by omega
    have e5:(0:Int)≤(j:Nat)∧((j:Nat):Int)≤(i:Nat)∧((i:Nat):Int)≤(s.length:Nat):=by omega
    have hB:=hC.bad hp hi2 hc
    have hN:=hC.next hp hi2 hc
    have hO:=dA ((s.drop j).take (i-j)) (by simp; omega)
    obtain ⟨nm,hnm⟩:∃ nm,(s.drop j).take (i-j)=nm:=⟨_,rfl⟩
    rw [hnm] at hB hN hO
    rcases hc with hc | ⟨hc,hx⟩
    ·have e1:decide (((i:Nat):Int)<(s.length:Nat))=false:=lB (by omega)
     have hz:=And.intro e1 (And.intro e3 (And.intro e4 (And.intro e5 hnm)))
     refine Nz1 ?_
     cases hn:aZ nm with
     | false=>
      rw [hn] at hO
      (first|refine cI hP1 (hO) rfl rfl ?_|refine cH hP1 (hO) rfl rfl ?_)
      simp +decide (maxSteps:=9^9) (disch:=omega) only[↓SB0,SX,seval,hQ,hQ1,hB (.inl hn) h0,lA2]
     | true=>
      rw [hn] at hO
      by_cases h30:out.length=30
      ·(first|refine cI hP1 (hO) rfl rfl ?_|refine cH hP1 (hO) rfl rfl ?_)
       simp +decide (maxSteps:=9^9) (disch:=omega) only[↓SB0,SX,seval,hQ,hQ1,h30,hB (.inr h30) h0,lA2]
      ·have e6:decide (((out.length:Nat):Int)=30)=false:=lB (by omega)
       have hC2:=hN hn (by omega)
       have hz:=And.intro e6 an5
       refine Kz1 (hO) ?_
       exact ⟨(i+1,i+1,out++[nm]),rfl,hC2,by simp only; omega⟩
    ·have e1:decide (((i:Nat):Int)<(s.length:Nat))=true:=lE (by omega)
     have e2:decide (((s[i].toNat:Nat):Int)=47)=true:=lE ((akV _).2 hx)
     have hz:=And.intro e1 (And.intro e2 (And.intro e3 (And.intro e4 (And.intro e5 (And.intro hnm (bG (show ((i:Nat):Int)<(s.length:Nat) by omega)))))))
     refine Nz1 ?_
     cases hn:aZ nm with
     | false=>
      rw [hn] at hO
      (first|refine cI hP1 (hO) rfl rfl ?_|refine cH hP1 (hO) rfl rfl ?_)
      simp +decide (maxSteps:=9^9) (disch:=omega) only[↓SB0,SX,seval,hQ,hQ1,hB (.inl hn) h0,lA2]
     | true=>
      rw [hn] at hO
      by_cases h30:out.length=30
      ·(first|refine cI hP1 (hO) rfl rfl ?_|refine cH hP1 (hO) rfl rfl ?_)
       simp +decide (maxSteps:=9^9) (disch:=omega) only[↓SB0,SX,seval,hQ,hQ1,h30,hB (.inr h30) h0,lA2]
      ·have e6:decide (((out.length:Nat):Int)=30)=false:=lB (by omega)
       have hC2:=hN hn (by omega)
       have hz:=And.intro e6 an5
       refine Kz1 (hO) ?_
       exact ⟨(i+1,i+1,out++[nm]),rfl,hC2,by simp only; omega⟩
 ·obtain rfl:i=s.length+1:=by omega
  cases s with
  | nil=>
   simp +decide (maxSteps:=9^9) (disch:=omega) only[↓SB0,SX,seval,hQ,hQ1,sA (s:=[]) (by simp),lA2]
  | cons c s=>
   have e7:decide ((((s.length+1:Nat)):Int)=0)=false:=lB (by omega)
   have e8:(0:Int)<((s.length+1:Nat):Int):=by omega
   by_cases hc:c=47
   ·subst hc
    simp +decide (maxSteps:=9^9) (disch:=omega) only[↓SB0,SX,seval,hQ,hQ1,e7,e8,lK3,hC.done rfl h0]
   ·have e9:decide (((c.toNat:Nat):Int)=47)=false:=lB fun e=>hc ((akV _).1 e)
    simp +decide (maxSteps:=9^9) (disch:=omega) only[↓SB0,SX,seval,hQ,hQ1,e7,e8,lK3,e9,sA (s:=c::s) (by simpa using hc),lA2]
theorem adT (l:List aA) (hl:l.length<2^30) (hs:∀ n ∈ l,n.length≤14):bC Tryz.prog 139 [.ext 1 (l.map dB)] (.str (b8 l)) [.undef]:=by
 by_cases h0:l=[]
 ·subst h0
  refine U sO [] 29 [] fun w hP hQ=>?_
  unfold nQ
  refine N ?_
  rfl
 have hp:0<l.length:=lE3.2 h0
 have hd:decide (((l.length:Nat):Int)=0)=false:=lB (by omega)
 refine U sO [] 29 [] fun w hP hQ=>?_
 unfold nQ
 refine N ?_
 have hz:=hd
 refine Nz ?_
 refine fH [2] ?_
 refine N ?_
 refine aT [2] (fun i:Nat=>[(3,.str (dS (l.take i))),(4,.int .i64 (i:Nat))]) (fun i=>i≤l.length∧(i=0∨l.length≤30)∧∀ k,k<i→(h:k<l.length)→aZ l[k]=true) (fun i=>l.length-i) (0) hP hQ (rfl) (by simp) ?_
 rintro i ⟨hi,h30,hk⟩ w1 hP1 hQ1
 refine N1 ?_
 (first | with_reducible refine cQ _ ?_ ?_ | refine cR _ ?_ ?_) <;> intro h1
 ·have hlt:i<l.length:=by omega
  have hO:=dA (l[i]) (by have:=hs _ (lO hlt); omega)
  have hm:=lO hlt
  simp +decide (maxSteps:=9^9) (disch:=omega) only[↓SB0,SX,seval,hQ,hQ1,bG h1,dB]
  cases hn:aZ (l[i]'(by omega)) with
  | false=>
   rw [hn] at hO
   have e:b8 l=[]:=by rw [b8,lJ (by simp [abU hm hn])]
   have hz:=e
   exact Kz1 (hO) trivial
  | true=>
   rw [hn] at hO
   by_cases hg:30<l.length
   ·have e:b8 l=[]:=by rw [b8,lJ (by simp [yI hg])]
    have hg':decide ((30:Int)<(l.length:Nat))=true:=lE (by omega)
    have hz:=And.intro e hg'
    exact Kz1 (hO) trivial
   ·have hg':decide ((30:Int)<(l.length:Nat))=false:=lB (by omega)
    have hb:(dS (l.take i)).length≤450:=vW (oP (by rw [lR]; omega) fun n hn=>by
     obtain ⟨k,hk1,rfl⟩:=lU1 hn
     rw [List.getElem_take]
     exact hk k (by simp at hk1; omega) _)
    have hc:=hs _ hm
    have hb2:(dS (l.take i)++[47]).length+(l[i]).length≤4611686018427387904:=by simp only [lT,List.length_singleton]; omega
    have he:dS (l.take i)++[47]++l[i]=dS (l.take (i+1)):=by rw [lU hlt,agC]; simp
    (first|refine cI hP1 (hO) rfl rfl ?_|refine cH hP1 (hO) rfl rfl ?_)
    simp +decide (maxSteps:=9^9) (disch:=omega) only[↓SB0,SX,seval,hQ,hQ1,hg',bG h1,dB,hb2,he]
    exact ⟨i+1,rfl,⟨by omega,.inr (by omega),fun k hk1 hk2=>by
     by_cases e:k=i
     ·subst e; exact hn
     ·exact hk k (by omega) hk2⟩,by omega⟩
 ·obtain rfl:i=l.length:=by omega
  have e:b8 l=dS l:=by
   rw [b8,lG (oP (by omega) fun n hn=>by obtain ⟨k,h,rfl⟩:=lU1 hn; exact hk k h h),lJ h0]
  simp +decide (maxSteps:=9^9) (disch:=omega) only[↓SB0,SX,seval,hQ,hQ1,e,lZ1]
theorem fF (s:aA) (hl:s.length<2^40):bC Tryz.prog 75 [.str s] (.tup [.str (aJ s).1,.str (aJ s).2.1,.bool (aJ s).2.2]) [.undef]:=by
 have hS:=dG s hl
 have hp:=sB (s:=s)
 have hf:=kY s
 unfold aJ
 generalize aB s=x at *
 obtain ⟨l,b⟩:=x
 cases b with
 | false=>
  rw [lJ (by simp)]
  refine U nS [] 253 [] fun w hP hQ=>?_
  unfold jF
  refine N ?_
  exact K (hS) trivial
 | true=>
  cases hk:l.length with
  | zero=>
   obtain rfl:l=[]:=lM1.1 hk
   rw [lJ (by simp)]
   refine U nS [] 253 [] fun w hP hQ=>?_
   unfold jF
   refine N ?_
   exact K (hS) trivial
  | succ k=>
   have hne:l≠[]:=fun e=>by rw [e] at hk; simp at hk
   rw [lG ⟨rfl,hne⟩]
   have hJ:=adT l.dropLast (by simp; simp only at hf; omega) fun n hn=>hp n (List.dropLast_subset _ hn)
   rw [List.dropLast_eq_take,hk] at hJ ⊢
   simp only [Nat.add_sub_cancel,lP4] at hJ ⊢
   have hg:=vX hk
   have h0:(decide (((k+1:Nat):Int)=0))=false:=lB (by omega)
   have h1:(((k+1:Nat):Int)-1)=(k:Int):=by omega
   have h2:((k:Int)-0).toNat=k:=by omega
   have h3:0+k≤k+1:=by omega
   have h4:=yK (n:=k) (by simp only [hk] at hf; omega)
   refine U nS [] 253 [] fun w hP hQ=>?_
   unfold jF
   refine N ?_
   have hz:=And.intro hk (And.intro h0 (And.intro h1 (And.intro h2 (And.intro h3 h4))))
   refine Kz (hS) ?_
   (first|refine cI hP (hJ) rfl rfl ?_|refine cH hP (hJ) rfl rfl ?_)
   simp +decide (maxSteps:=9^9) (disch:=omega) only[↓SB0,SX,seval,hQ,hk,h0,h1,h2,h3,h4,hg,dB]
theorem akW (a b:aA) (ha:a.length<2^40) (hb:b.length<2^40):bC Tryz.prog 98 [.str a,.str b] (.bool (aam a b)) [.undef,.undef]:=by
 have hS:=dG a ha
 have hT:=dG b hb
 have hf:=kY a
 have hg:=kY b
 unfold aam
 generalize aB a=x at *
 generalize aB b=y at *
 obtain ⟨l,u⟩:=x
 obtain ⟨m,v⟩:=y
 simp only at *
 cases u with
 | false=>
  refine U qO [] 1011 [] fun w hP hQ=>?_
  unfold nP
  refine N ?_
  refine K (hS) ?_
  exact K (hT) trivial
 | true=>
  cases v with
  | false=>
   refine U qO [] 1011 [] fun w hP hQ=>?_
   unfold nP
   refine N ?_
   refine K (hS) ?_
   exact K (hT) trivial
  | true=>
   by_cases hn:l.length≤m.length
   ·rw [adR hn]
    have h0:decide (((m.length:Nat):Int)<(l.length:Nat))=false:=lB (by omega)
    refine U qO [] 1011 [] fun w hP hQ=>?_
    unfold nP
    refine N ?_
    refine K (hS) ?_
    have hz:=h0
    refine Kz (hT) ?_
    refine fH [4] ?_
    refine N ?_
    refine aT [4] (fun i:Nat=>[(9,.int .i64 i)]) (fun i=>i≤l.length∧l.take i=m.take i) (fun i=>l.length-i) (0) hP hQ (rfl) (by simp) ?_
    rintro i ⟨hi,hab⟩ w1 hP1 hQ1
    refine N1 ?_
    (first | with_reducible refine cQ _ ?_ ?_ | refine cR _ ?_ ?_) <;> intro h1
    ·have h5:((i:Nat):Int)<(m.length:Nat):=by omega
     simp +decide (maxSteps:=9^9) (disch:=omega) only[↓SB0,SX,seval,hQ,hQ1,bG h1,bG h5,dB]
     (first | with_reducible refine cQ _ ?_ ?_ | refine cR _ ?_ ?_) <;> intro h2
     ·refine N1 ?_
      exact ⟨i+1,rfl,⟨by omega,gR hab _ _ h2⟩,by omega⟩
     ·refine N1 ?_
      rw [lB (show ¬ l=m.take l.length from fun e=>h2 (by
       have:=congrArg (fun x=>x[i]?) e
       simp only [lP1] at this
       rw [lG (by omega),lK (by omega),lK (by omega)] at this
       exact Option.some.inj this))]
    ·obtain rfl:i=l.length:=by omega
     rw [lZ1] at hab
     refine N1 ?_
     rw [lE hab]
   ·rw [adS (by omega)]
    have h0:decide (((m.length:Nat):Int)<(l.length:Nat))=true:=lE (by omega)
    refine U qO [] 1011 [] fun w hP hQ=>?_
    unfold nP
    refine N ?_
    refine K (hS) ?_
    have hz:=h0
    exact Kz (hT) trivial
section
section
variable {α:Type} {key:α→aA}
theorem agE {l:List α} {e:α} {k:Nat} (hk:k≤l.length) (h1:∀ j,j<k→(h:j<l.length)→¬ key e<key l[j]) (h2:∀ h:k<l.length,key e<key l[k]):vJ key l e=l.take k++e::l.drop k:=by
 induction l generalizing k with
 | nil=>simp at hk; subst hk; rfl
 | cons f l ih=>
  rw [vJ]
  cases k with
  | zero=>have h:=h2 (by simp); simp only [lP3] at h; rw [lG h]; rfl
  | succ k=>
   have h:=h1 0 (by omega) (by simp)
   simp only [lP3] at h
   rw [lJ h,ih (k:=k) (by simpa using hk) (fun j hj h=>h1 (j+1) (by omega) (by simpa using h)) (fun h=>h2 (by simpa using h))]
   rfl
theorem q9 {l:List α} (hu:UpK key l) {e:α} {k:Nat} (hk:k≤l.length) (h1:∀ j,k≤j→(h:j<l.length)→key e<key l[j]) (h2:k=0∨∃ h:k-1<l.length,¬ key e<key l[k-1]):vJ key l e=l.take k++e::l.drop k:=by
 refine agE hk (fun j hj h hlt=>?_) (fun h=>h1 k (lR1 _) h)
 rcases h2 with h2 | ⟨h2,h3⟩
 ·omega
 ·by_cases e1:j=k-1
  ·subst e1; exact h3 hlt
  ·exact h3 (List.lt_trans hlt (lG3.1 hu j (k-1) h h2 (by omega)))
end
theorem yM {l:List Inode} (h:UpI l) {x:Inode} {k:Nat} (hk:l.findIdx? (fun y=>decide (y.ino=x.ino))=some k):bR l x=l.set k x:=by
 induction l generalizing k with
 | nil=>simp at hk
 | cons y l ih=>
  obtain ⟨a1,a2⟩:=lA1.1 h
  rw [List.findIdx?_cons] at hk
  rw [bR]
  by_cases e:y.ino=x.ino
  ·rw [lG (by simpa using e)] at hk
   injection hk with hk
   subst hk
   rw [lG e]; rfl
  ·rw [lJ (by simpa using e)] at hk
   cases hf:l.findIdx? (fun y=>decide (y.ino=x.ino)) with
   | none=>rw [hf] at hk; cases hk
   | some j=>
    rw [hf] at hk
    injection hk with hk
    subst hk
    obtain ⟨j1,j2,_⟩:=lO2.1 hf
    have:=a1 _ (lO j1)
    simp only [decide_eq_true_eq] at j2
    rw [lJ e,lJ (by omega),ih a2 hf]; rfl
theorem ab0 {l:List Inode} {x:Inode} {k:Nat} (hk:k≤l.length) (h1:∀ j,j<k→(h:j<l.length)→l[j].ino<x.ino) (h2:∀ h:k<l.length,x.ino<l[k].ino):bR l x=l.take k++x::l.drop k:=by
 induction l generalizing k with
 | nil=>simp at hk; subst hk; rfl
 | cons y l ih=>
  rw [bR]
  cases k with
  | zero=>
   have:=h2 (by simp)
   simp only [lP3] at this
   rw [lJ (by omega),lG this]; rfl
  | succ k=>
   have:=h1 0 (by omega) (by simp)
   simp only [lP3] at this
   rw [lJ (by omega),lJ (by omega),ih (k:=k) (by simpa using hk) (fun j hj h=>h1 (j+1) (by omega) (by simpa using h)) (fun h=>h2 (by simpa using h))]
   rfl
theorem set_comm {t:Tab} (h:UpI t.inodes) {x y:Inode} (hne:x.ino≠y.ino):aG (aG t x) y=aG (aG t y) x:=by
 refine amP (f4 (f4 h x) y) (f4 (f4 h y) x) rfl fun i=>?_
 rw [cC (f4 h x),cC h,cC (f4 h y),cC h]
 by_cases e1:y.ino=i <;> by_cases e2:x.ino=i <;> simp [e1,e2] <;> omega
theorem ab1 {α:Type} {l:List α} {k:Nat} {h:α} (hk:k≤l.length):(l.take k++h::l.drop k).length=l.length+1:=by simp; omega
theorem ab2 {α:Type} {l:List α} {k:Nat} {h:α} (hk:k<l.length):((l.take (k+1)++h::l.drop (k+1)))[k]?=some l[k]:=by
 rw [lF3 (by simp; omega),lP1,lG (by omega),lK hk]
theorem rA {α:Type} {l:List α} {k:Nat} (h x:α) (hk:k≤l.length):(l.take k++h::l.drop k).set k x=l.take k++x::l.drop k:=by
 have:(l.take k).length=k:=by simp; omega
 rw [List.set_append_right _ _ (by omega)]
 congr 1
 rw [this,Nat.sub_self]; rfl
theorem yN {α:Type} {l:List α} {k:Nat} (hk:k<l.length):l.take (k+1)++l[k]::l.drop (k+1)=l.take k++l[k]::l.drop k:=by
 rw [lU hk,lG2]
 congr 1
 rw [← lF2 hk]; rfl
end
section
variable {t:Tab}
theorem amX {s:aA} (hs:(aB s).2=true) {i:Int} (h:aQ (aC t) (aB s).1 1=some i):cJ t s=match aC t i with
  | some x=>.ok x
  | none=>.error 2:=by
 rw [cJ,(ae0 hs).2 h,lG rfl]
 all_goals (cases aC t i <;> rfl)
theorem mP {s:aA} {c:Int} (h:cJ t s=.error c):c≠0:=by
 unfold cJ at h
 split at h
 ·split at h
  ·cases h
  ·cases h; decide
 ·rename_i e; cases h; exact e
theorem tL {s:aA} {c:Int} (h:mN t s=.error c):c≠0:=by
 unfold mN at h
 split at h
 ·split at h
  ·cases h
  ·cases h; decide
 ·rename_i e; cases h; exact mP e
end
theorem a8 (m:Nat):((m+1:Nat):Int)-1=(m:Int):=by omega
theorem g8 {α:Type} {p:Nat→α→Bool} {lt:α→α→Bool} {l:List α} {i:Nat} (hk:∀ k,k<i→dE p lt l k=true) (hi:dE p lt l i=true):∀ k,k<i+1→dE p lt l k=true:=by
 intro k hlt
 by_cases e:k=i
 ·subst e; exact hi
 ·exact hk k (by omega)
theorem eV {α:Type} {p:Nat→α→Bool} {lt:α→α→Bool} {l:List α} {i:Nat} (h:i<l.length) (hp:p i l[i]=false):dE p lt l i=false:=by
 rw [dE,lK h]; simp [hp]
theorem ai2 {l:List Attr} {n:Nat} (h:szM Attr.sz l<n):l.length<n∧∀ x ∈ l,x.name.length<n∧x.val.length<n:=by
 refine ⟨by simp only [szM] at h; omega,fun x hx=>?_⟩
 have:=aal (f:=Attr.sz) hx
 simp only [szM] at h
 simp only [Attr.sz] at this
 omega
theorem alC {l:List Ent} {n:Nat} (h:szM Ent.sz l<n):l.length<n∧∀ x ∈ l,x.name.length<n:=by
 refine ⟨by simp only [szM] at h; omega,fun x hx=>?_⟩
 have:=aal (f:=Ent.sz) hx
 simp only [szM] at h
 simp only [Ent.sz] at this
 omega
theorem ai3 {p q:Prop} [Decidable p] [Decidable q] (h:p↔q):decide p=decide q:=by simp [h]
theorem yO (l:List Attr) (hs:szM Attr.sz l<2^48):bC Tryz.prog 202 [.ext 2 (l.map Attr.row)] (.bool (kJ l)) [.undef]:=by
 obtain ⟨hl,hls⟩:=ai2 hs
 refine U adu [] 13 [] fun w hP hQ=>?_
 unfold u7
 refine N ?_
 refine fH [2] ?_
 refine N ?_
 refine aT [2] (fun i:Nat=>[(3,.int .i64 i)]) (fun i=>i≤l.length∧∀ k,k<i→dE (fun _=>qY) n5 l k=true) (fun i=>l.length-i) (0) hP hQ (rfl) (by simp) ?_
 rintro i ⟨hi,hk⟩ w1 hP1 hQ1
 refine N1 ?_
 (first | with_reducible refine cQ _ ?_ ?_ | refine cR _ ?_ ?_) <;> intro h1
 ·have hlt:i<l.length:=by omega
  have hno:dE (fun _=>qY) n5 l i=false→kJ l=false:=fun e=>(fun e=>by rw [kJ,rZ,e]; rfl) (oV hlt e)
  obtain hla:=hls _ (lO hlt)
  cases hN:aZ (l[i]'hlt).name with
  | false=>
   have hz:=(bG h1)
   refine Nz1 ?_
   have hz:=hN
   refine Kz1 (dA (l[i]'hlt).name (by omega)) ?_
   rw [hno (eV hlt (by simp [qY,hN]))]
  | true=>
   cases hV:inR (((l[i]'hlt).val.length:Nat)) 1 16 with
   | false=>
    have hz:=(bG h1)
    refine Nz1 ?_
    have hz:=And.intro hN (bG h1)
    refine Kz1 (dA (l[i]'hlt).name (by omega)) ?_
    have hz:=hV
    refine Kz1 (eH (((l[i]'hlt).val.length:Nat)) 1 16) ?_
    rw [hno (eV hlt (by simp [qY,hV]))]
   | true=>
    cases i with
    | zero=>
     have hz:=(bG h1)
     refine Nz1 ?_
     have hz:=And.intro hN (bG h1)
     refine Kz1 (dA (l[0]'hlt).name (by omega)) ?_
     have hz:=And.intro hV (bG h1)
     refine Kz1 (eH (((l[0]'hlt).val.length:Nat)) 1 16) ?_
     exact ⟨1,rfl,⟨by omega,g8 hk (by rw [fE hlt]; simp [qY,hN,hV])⟩,by omega⟩
    | succ m=>
     have w4:decide ((0:Int)<((m+1:Nat):Int))=true:=lE (by omega)
     have hm:=bG (show ((m:Nat):Int)<(l.length:Nat) by omega)
     cases hD:strLt (l[m]'(by omega)).name (l[m+1]'hlt).name with
     | false=>
      have hz:=(bG h1)
      refine Nz1 ?_
      have hz:=And.intro hN (bG h1)
      refine Kz1 (dA (l[m+1]'hlt).name (by omega)) ?_
      have hz:=And.intro hV (And.intro w4 (And.intro a8 (And.intro hm (And.intro (bG h1) hD))))
      refine Kz1 (eH (((l[m+1]'hlt).val.length:Nat)) 1 16) ?_
      rw [hno (by rw [bU hlt,n5,← iF,hD]; simp)]
     | true=>
      have hz:=(bG h1)
      refine Nz1 ?_
      have hz:=And.intro hN (bG h1)
      refine Kz1 (dA (l[m+1]'hlt).name (by omega)) ?_
      have hz:=And.intro hV (And.intro w4 (And.intro a8 (And.intro hm (And.intro (bG h1) hD))))
      refine Kz1 (eH (((l[m+1]'hlt).val.length:Nat)) 1 16) ?_
      exact ⟨m+1+1,rfl,⟨by omega,g8 hk (by rw [bU hlt,n5,← iF,hD]; simp [qY,hN,hV])⟩,by omega⟩
 ·obtain rfl:i=l.length:=by omega
  have e:rZ l=true:=iW fun k h=>hk k h
  refine N1 ?_
  rw [kJ,e,lS3]
  rw [ai3 (p:=(l.length:Int)≤4) (q:=l.length≤4) (by omega)]
theorem ab3 (l:List Ent) (hs:szM Ent.sz l<2^48):bC Tryz.prog 201 [.ext 2 (l.map Ent.row)] (.bool (vO l)) [.undef]:=by
 obtain ⟨hl,hls⟩:=alC hs
 refine U agl [] 13 [] fun w hP hQ=>?_
 unfold xX
 refine N ?_
 refine fH [2] ?_
 refine N ?_
 refine aT [2] (fun i:Nat=>[(3,.int .i64 i)]) (fun i=>i≤l.length∧∀ k,k<i→dE (fun _=>aeY) vN l k=true) (fun i=>l.length-i) (0) hP hQ (rfl) (by simp) ?_
 rintro i ⟨hi,hk⟩ w1 hP1 hQ1
 refine N1 ?_
 (first | with_reducible refine cQ _ ?_ ?_ | refine cR _ ?_ ?_) <;> intro h1
 ·have hlt:i<l.length:=by omega
  have hno:dE (fun _=>aeY) vN l i=false→vO l=false:=fun e=>(fun e=>by rw [vO,yC,e]; rfl) (oV hlt e)
  obtain hla:=hls _ (lO hlt)
  cases hN:aZ (l[i]'hlt).name with
  | false=>
   have hz:=(bG h1)
   refine Nz1 ?_
   have hz:=hN
   refine Kz1 (dA (l[i]'hlt).name (by omega)) ?_
   rw [hno (eV hlt (by simp [aeY,hN]))]
  | true=>
   cases hV:inR ((l[i]'hlt).ino) 2 1000 with
   | false=>
    have hz:=(bG h1)
    refine Nz1 ?_
    have hz:=And.intro hN (bG h1)
    refine Kz1 (dA (l[i]'hlt).name (by omega)) ?_
    have hz:=hV
    refine Kz1 (eH ((l[i]'hlt).ino) 2 1000) ?_
    rw [hno (eV hlt (by simp [aeY,hV]))]
   | true=>
    cases i with
    | zero=>
     have hz:=(bG h1)
     refine Nz1 ?_
     have hz:=And.intro hN (bG h1)
     refine Kz1 (dA (l[0]'hlt).name (by omega)) ?_
     have hz:=And.intro hV (bG h1)
     refine Kz1 (eH ((l[0]'hlt).ino) 2 1000) ?_
     exact ⟨1,rfl,⟨by omega,g8 hk (by rw [fE hlt]; simp [aeY,hN,hV])⟩,by omega⟩
    | succ m=>
     have w4:decide ((0:Int)<((m+1:Nat):Int))=true:=lE (by omega)
     have hm:=bG (show ((m:Nat):Int)<(l.length:Nat) by omega)
     cases hD:strLt (l[m]'(by omega)).name (l[m+1]'hlt).name with
     | false=>
      have hz:=(bG h1)
      refine Nz1 ?_
      have hz:=And.intro hN (bG h1)
      refine Kz1 (dA (l[m+1]'hlt).name (by omega)) ?_
      have hz:=And.intro hV (And.intro w4 (And.intro a8 (And.intro hm (And.intro (bG h1) hD))))
      refine Kz1 (eH ((l[m+1]'hlt).ino) 2 1000) ?_
      rw [hno (by rw [bU hlt,vN,← iF,hD]; simp)]
     | true=>
      have hz:=(bG h1)
      refine Nz1 ?_
      have hz:=And.intro hN (bG h1)
      refine Kz1 (dA (l[m+1]'hlt).name (by omega)) ?_
      have hz:=And.intro hV (And.intro w4 (And.intro a8 (And.intro hm (And.intro (bG h1) hD))))
      refine Kz1 (eH ((l[m+1]'hlt).ino) 2 1000) ?_
      exact ⟨m+1+1,rfl,⟨by omega,g8 hk (by rw [bU hlt,vN,← iF,hD]; simp [aeY,hN,hV])⟩,by omega⟩
 ·obtain rfl:i=l.length:=by omega
  have e:yC l=true:=iW fun k h=>hk k h
  refine N1 ?_
  rw [vO,e,lS3]
  rw [ai3 (p:=(l.length:Int)≤10) (q:=l.length≤10) (by omega)]
theorem yP (l:List Attr) (hs:szM Attr.sz l<2^48):bC Tryz.prog 198 [.ext 2 (l.map Attr.row)] (.bool (kJ l)) [.undef]:=by
 obtain ⟨hl,hls⟩:=ai2 hs
 refine U adt [] 253 [] fun w hP hQ=>?_
 unfold u6
 refine N ?_
 refine fH [2,3,4,5004] ?_
 refine N ?_
 refine aT [2,3,4,5004] (fun i:Nat=>[(7,.int .i64 i)]) (fun i=>i≤l.length∧∀ k,k<i→dE (fun _=>qY) n5 l k=true) (fun i=>l.length-i) (0) hP hQ (rfl) (by simp) ?_
 rintro i ⟨hi,hk⟩ w1 hP1 hQ1
 refine N1 ?_
 (first | with_reducible refine cQ _ ?_ ?_ | refine cR _ ?_ ?_) <;> intro h1
 ·have hlt:i<l.length:=by omega
  have hno:dE (fun _=>qY) n5 l i=false→kJ l=false:=fun e=>(fun e=>by rw [kJ,rZ,e]; rfl) (oV hlt e)
  obtain hla:=hls _ (lO hlt)
  cases hN:aZ (l[i]'hlt).name with
  | false=>
   have hz:=(bG h1)
   refine Nz1 ?_
   have hz:=hN
   refine Kz1 (eI (l[i]'hlt).name (by omega)) ?_
   rw [hno (eV hlt (by simp [qY,hN]))]
  | true=>
   cases hV:inR (((l[i]'hlt).val.length:Nat)) 1 16 with
   | false=>
    have hz:=(bG h1)
    refine Nz1 ?_
    have hz:=And.intro hN (bG h1)
    refine Kz1 (eI (l[i]'hlt).name (by omega)) ?_
    have hz:=hV
    refine Kz1 (jI (((l[i]'hlt).val.length:Nat)) 1 16) ?_
    rw [hno (eV hlt (by simp [qY,hV]))]
   | true=>
    cases i with
    | zero=>
     have hz:=(bG h1)
     refine Nz1 ?_
     have hz:=And.intro hN (bG h1)
     refine Kz1 (eI (l[0]'hlt).name (by omega)) ?_
     have hz:=And.intro hV (bG h1)
     refine Kz1 (jI (((l[0]'hlt).val.length:Nat)) 1 16) ?_
     exact ⟨1,rfl,⟨by omega,g8 hk (by rw [fE hlt]; simp [qY,hN,hV])⟩,by omega⟩
    | succ m=>
     have w4:decide ((0:Int)<((m+1:Nat):Int))=true:=lE (by omega)
     have hm:=bG (show ((m:Nat):Int)<(l.length:Nat) by omega)
     cases hD:strLt (l[m]'(by omega)).name (l[m+1]'hlt).name with
     | false=>
      have hz:=(bG h1)
      refine Nz1 ?_
      have hz:=And.intro hN (bG h1)
      refine Kz1 (eI (l[m+1]'hlt).name (by omega)) ?_
      have hz:=And.intro hV (And.intro w4 (And.intro a8 (And.intro hm (And.intro (bG h1) hD))))
      refine Kz1 (jI (((l[m+1]'hlt).val.length:Nat)) 1 16) ?_
      rw [hno (by rw [bU hlt,n5,← iF,hD]; simp)]
     | true=>
      have hz:=(bG h1)
      refine Nz1 ?_
      have hz:=And.intro hN (bG h1)
      refine Kz1 (eI (l[m+1]'hlt).name (by omega)) ?_
      have hz:=And.intro hV (And.intro w4 (And.intro a8 (And.intro hm (And.intro (bG h1) hD))))
      refine Kz1 (jI (((l[m+1]'hlt).val.length:Nat)) 1 16) ?_
      exact ⟨m+1+1,rfl,⟨by omega,g8 hk (by rw [bU hlt,n5,← iF,hD]; simp [qY,hN,hV])⟩,by omega⟩
 ·obtain rfl:i=l.length:=by omega
  have e:rZ l=true:=iW fun k h=>hk k h
  refine N1 ?_
  rw [kJ,e,lS3]
  rw [ai3 (p:=(l.length:Int)≤4) (q:=l.length≤4) (by omega)]
theorem wP (a b:aA) (ha:a.length<2^48) (hb:b.length<2^48):bC Tryz.prog 135 [.ext 1 (aO a),.ext 1 (aO b)] (.bool (decide (a=b))) [.undef,.undef]:=by
 refine U wK [] 12339 [] fun w hP hQ=>?_
 unfold o7
 refine N ?_
 (first | with_reducible refine cQ _ ?_ ?_ | refine cR _ ?_ ?_) <;> intro h
 ·refine N ?_
  refine fH [4,5] ?_
  refine N ?_
  refine aT [4,5] (fun i:Nat=>[(13,.int .i64 i)]) (fun i=>i≤a.length∧a.take i=b.take i) (fun i=>a.length-i) (0) hP hQ (rfl) (by simp) ?_
  rintro i ⟨hi,hab⟩ w1 hP1 hQ1
  refine N1 ?_
  (first | with_reducible refine cQ _ ?_ ?_ | refine cR _ ?_ ?_) <;> intro h1
  ·have hz:=And.intro (bG h1) (bG (h ▸ h1))
   refine Nz1 ?_
   (first | with_reducible refine cQ _ ?_ ?_ | refine cR _ ?_ ?_) <;> intro h2
   ·refine N1 ?_
    exact ⟨i+1,rfl,⟨by omega,gR hab _ _ (UInt8.toNat_inj.1 (by omega))⟩,by omega⟩
   ·refine N1 ?_
    rw [lB]
    rintro rfl; exact h2 rfl
  ·refine N1 ?_
   rw [lE (tJ hab (by omega) (by omega))]
 ·have hz:=hQ
  refine Nz ?_
  rw [lB]
  rintro rfl; exact h rfl
theorem aau (a b:List Ent) (ha:a.length<2^48) (hb:b.length<2^48):bC Tryz.prog 136 [.ext 2 (a.map Ent.row),.ext 2 (b.map Ent.row)] (.bool (decide (a=b))) [.undef,.undef]:=by
 refine U aah [] 12339 [] fun w hP hQ=>?_
 unfold qJ
 refine N ?_
 (first | with_reducible refine cQ _ ?_ ?_ | refine cR _ ?_ ?_) <;> intro h
 ·refine N ?_
  refine fH [4,5] ?_
  refine N ?_
  refine aT [4,5] (fun i:Nat=>[(13,.int .i64 i)]) (fun i=>i≤a.length∧a.take i=b.take i) (fun i=>a.length-i) (0) hP hQ (rfl) (by simp) ?_
  rintro i ⟨hi,hab⟩ w1 hP1 hQ1
  refine N1 ?_
  (first | with_reducible refine cQ _ ?_ ?_ | refine cR _ ?_ ?_) <;> intro h1
  ·have hz:=And.intro (bG h1) (bG (h ▸ h1))
   refine Nz1 ?_
   (first | with_reducible refine cQ _ ?_ ?_ | refine cR _ ?_ ?_) <;> intro h2
   ·refine N1 ?_
    exact ⟨i+1,rfl,⟨by omega,gR hab _ _ (Ent.eq' (by simp at h2; exact h2.1) (by simp at h2; exact h2.2))⟩,by omega⟩
   ·refine N1 ?_
    rw [lB]
    rintro rfl; simp at h2
  ·refine N1 ?_
   rw [lE (tJ hab (by omega) (by omega))]
 ·have hz:=hQ
  refine Nz ?_
  rw [lB]
  rintro rfl; exact h rfl
theorem wQ (a b:List Attr) (ha:a.length<2^48) (hb:b.length<2^48):bC Tryz.prog 137 [.ext 2 (a.map Attr.row),.ext 2 (b.map Attr.row)] (.bool (decide (a=b))) [.undef,.undef]:=by
 refine U wL [] 12339 [] fun w hP hQ=>?_
 unfold o8
 refine N ?_
 (first | with_reducible refine cQ _ ?_ ?_ | refine cR _ ?_ ?_) <;> intro h
 ·refine N ?_
  refine fH [4,5] ?_
  refine N ?_
  refine aT [4,5] (fun i:Nat=>[(13,.int .i64 i)]) (fun i=>i≤a.length∧a.take i=b.take i) (fun i=>a.length-i) (0) hP hQ (rfl) (by simp) ?_
  rintro i ⟨hi,hab⟩ w1 hP1 hQ1
  refine N1 ?_
  (first | with_reducible refine cQ _ ?_ ?_ | refine cR _ ?_ ?_) <;> intro h1
  ·have hz:=And.intro (bG h1) (bG (h ▸ h1))
   refine Nz1 ?_
   (first | with_reducible refine cQ _ ?_ ?_ | refine cR _ ?_ ?_) <;> intro h2
   ·refine N1 ?_
    exact ⟨i+1,rfl,⟨by omega,gR hab _ _ (Attr.eq' (by simp at h2; exact h2.1) (by simp at h2; exact h2.2))⟩,by omega⟩
   ·refine N1 ?_
    rw [lB]
    rintro rfl; simp at h2
  ·refine N1 ?_
   rw [lE (tJ hab (by omega) (by omega))]
 ·have hz:=hQ
  refine Nz ?_
  rw [lB]
  rintro rfl; exact h rfl
end Go.Proofs.YtnfngemnghiehaaGreatDoor.Awp
