/- Contracts of the functions that laws.FnExactRename reaches are proved here (part 1). Condition: none. -/
import Derived.Test.YtnfngemnghiehaaGreatDoorAwp3
import Derived.Test.YtnfngemnghiehaaGreatDoorRows
import Derived.Test.YtnfngemnghiehaaGreatDoorCards
import Derived.Test.YtnfngemnghiehaaGreatDoorTie
import Derived.Shelf.Spec.SlicesInsert
import Derived.Shelf.Spec.SlicesInsertGrow
import Derived.Deep.MidRow
import Derived.ArgAppend
import Derived.Sort.Walk0
import Derived.Shelf.Lays
import Derived.Shelf.Strings.Search3
import Derived.Shelf.Strings.Count
import Derived.Shelf.Strings.OnBuilder
import Derived.Shelf.Sort.Plain
import Derived.Shelf.Slices.In.SortNone
import Derived.OpenShut
import Derived.SevenTiedAt
import Derived.KernelRfl
set_option linter.unusedVariables false
set_option linter.unusedSimpArgs false
set_option maxRecDepth 100000
set_option maxHeartbeats 20000000
namespace Go.Proofs.YtnfngemnghiehaaGreatDoor.Awp
section
namespace W
abbrev a (d x:Nat):GI:=⟨none,some d,.mov d (.t x)⟩
abbrev b (d x s:Nat):GI:=⟨none,some d,.ld d (.t x) s true⟩
abbrev b' (d x s:Nat):GI:=⟨none,some d,.ld d (.t x) s false⟩
abbrev c (d f:Nat) (l:List O):GI:=⟨none,some d,.call (some d) f l⟩
abbrev e (d x:Nat):GI:=⟨none,some d,.asg d (.t x)⟩
abbrev e' (d:Nat) (x:O):GI:=⟨none,some d,.asg d x⟩
abbrev f (d x i:Nat):GI:=⟨none,some d,.fld d (.t x) i⟩
abbrev g (d:Nat) (o:BinOp) (x y:O):GI:=⟨none,some d,.bin d o x y⟩
abbrev x (d x i:Nat):GI:=⟨none,some d,.xtr d (.t x) i⟩
abbrev l (d x:Nat):GI:=⟨none,some d,.len d (.t x)⟩
abbrev s (x y n:Nat):GI:=⟨none,none,.st (.t x) (.t y) n⟩
abbrev i (d x y s:Nat):GI:=⟨none,some d,.idx d (.t x) (.t y) s⟩
abbrev p (d x:Nat) (y z:O):GI:=⟨none,some d,.pck d (.t x) y z⟩
abbrev o (d s:Nat) (y:List O):GI:=⟨none,some d,.bsl d s y⟩
abbrev z (d:Nat) (y:List TV):GI:=⟨none,some d,.alc d y⟩
abbrev ha (t:Nat) (q:Bool) (d x:Nat):GI:=⟨some (t,q),some d,.mov d (.t x)⟩
abbrev hb (t:Nat) (q:Bool) (d x s:Nat):GI:=⟨some (t,q),some d,.ld d (.t x) s true⟩
abbrev hc (t:Nat) (q:Bool) (d f:Nat) (l:List O):GI:=⟨some (t,q),some d,.call (some d) f l⟩
end W
open I W
def b8:Cmd:=Q (R [n 3 (box 3 (v 0)),e' 6 k0]) (Q (Q (R [a 18 1,n 19 (lens 19 (v 18)),g 20 .gtr (v 19) (k 1048576)]) (F (v 20) (Q (R [e' 6 k1]) .ret) .skip)) (Q (Q (R [a 21 2,n 22 (lens 22 (v 21)),g 23 .gtr (v 22) (k 1048576)]) (F (v 23) (Q (R [e' 6 k1]) .ret) .skip)) (Q (R [e' 7 (k 1048576)]) (Q (R [b 24 3 2,a 25 7,c 26 51 [v 24,v 25],e 7 26]) (Q (Q (R [a 27 7,g 28 .lss (v 27) (k 0)]) (F (v 28) (Q (R [e' 6 k1]) .ret) .skip)) (Q (R [b 30 3 2,c 31 52 [v 30],a 32 1,a 33 2,c 34 42 [v 31,v 32,v 33],a 29 34,x 35 29 0,x 36 29 1,z 8 [.sl 6 [],.int .i64 0],s 8 35 2,e 9 36]) (Q (R [b 37 3 2,c 38 52 [v 37],z 10 [.sl 6 [],.int .i64 0],s 10 38 2]) (Q (R [b 40 10 2,a 41 1,a 42 2,c 43 18 [v 40,v 41,v 42],a 39 43,x 44 39 0,x 45 39 1,z 11 [.sl 6 [],.int .i64 0],s 11 44 2,e 12 45]) (Q (Q (R [b 46 11 2,b 47 8 2,c 48 53 [v 46,v 47],n 49 (un 49 .not (v 48)),a 50 49,ha 50 false 51 12,ha 50 false 52 9,h 50 false 53 (bin 53 .neq (v 51) (v 52)),p 54 50 k1 (v 53)]) (F (v 54) (Q (R [e' 6 k0]) .ret) .skip)) (Q (Q (D [0,0,2,7,15] [b 55 10 2,b 56 3 2,c 57 52 [v 56],c 58 53 [v 55,v 57],n 59 (un 59 .not (v 58))]) (F (v 59) (Q (R [e' 6 k0]) .ret) .skip)) (Q (R [e' 13 (k 1)]) (Q (R [b 60 10 2,a 61 13,c 62 54 [v 60,v 61],e 13 62]) (Q (Q (R [a 63 13,g 64 .lss (v 63) (k 0),a 65 64,hb 65 false 66 11 2,hb 65 false 67 8 2,hc 65 false 68 53 [v 66,v 67],h 65 false 69 (un 69 .not (v 68)),p 70 65 k1 (v 69),a 71 70,ha 71 false 72 12,ha 71 false 73 9,h 71 false 74 (bin 74 .neq (v 72) (v 73)),p 75 71 k1 (v 74)]) (F (v 75) (Q (R [e' 6 k0]) .ret) .skip)) (Q (R [e' 14 (k 1)]) (Q (R [b 76 11 2,a 77 14,c 78 54 [v 76,v 77],e 14 78]) (Q (R [e' 15 (k 1)]) (Q (R [b 79 11 2,a 80 15,c 81 55 [v 79,v 80],e 15 81]) (Q (Q (R [a 82 15,g 83 .lss (v 82) (k 0)]) (F (v 83) (Q (R [e' 6 k0]) .ret) .skip)) (Q (Q (R [a 84 15,a 85 14,g 86 .neq (v 84) (v 85)]) (F (v 86) (Q (R [e' 6 k0]) .ret) .skip)) (Q (R [b 88 3 2,c 89 52 [v 88],a 90 1,a 91 2,c 92 18 [v 89,v 90,v 91],a 87 92,x 93 87 0,x 94 87 1,z 16 [.sl 6 [],.int .i64 0],s 16 93 2,e 17 94]) (Q (Q (R [b 95 16 2,b 96 8 2,c 97 53 [v 95,v 96],n 98 (un 98 .not (v 97)),a 99 98,ha 99 false 100 17,ha 99 false 101 9,h 99 false 102 (bin 102 .neq (v 100) (v 101)),p 103 99 k1 (v 102)]) (F (v 103) (Q (R [e' 6 k0]) .ret) .skip)) (Q (R [e' 15 (k 1)]) (Q (R [b 104 11 2,a 105 15,c 106 55 [v 104,v 105],e 15 106]) (Q (Q (R [a 107 15,g 108 .lss (v 107) (k 0)]) (F (v 108) (Q (R [e' 6 k0]) .ret) .skip)) (Q (Q (R [a 109 15,a 110 14,g 111 .neq (v 109) (v 110)]) (F (v 111) (Q (R [e' 6 k0]) .ret) .skip)) (Q (R [e' 6 k1]) .ret))))))))))))))))))))))))))
def b9:Cmd:=Q (R [n 3 (box 3 (v 0)),z 6 [.sl 6 [],.int .i64 0],e' 7 (k 0)]) (Q (R [b 13 3 2,c 14 61 [v 13],s 3 14 2]) (Q (Q (R [b 15 3 2,a 16 1,a 17 2,o 18 1 [v 16,v 17],c 19 62 [v 15,v 18],n 20 (un 20 .not (v 19)),a 21 20,ha 21 false 22 1,h 21 false 23 (bin 23 .eql (v 22) (.c (.str [47]))),p 24 21 k1 (v 23),a 25 24,ha 25 false 26 2,h 25 false 27 (bin 27 .eql (v 26) (.c (.str [47]))),p 28 25 k1 (v 27)]) (F (v 28) (Q (R [b 29 3 2,s 6 29 2,e' 7 (k 1)]) .ret) .skip)) (Q (R [b 31 3 2,a 32 1,c 33 68 [v 31,v 32],a 30 33,x 34 30 0,x 35 30 1,z 8 [.int .i64 0,.int .i64 0,.int .i64 0,.sl 1 [],.sl 2 [],.sl 2 []],s 8 34 6,e 9 35]) (Q (Q (R [a 36 9,g 37 .neq (v 36) (k 0)]) (F (v 37) (Q (R [b 38 3 2,a 39 9,s 6 38 2,e 7 39]) .ret) .skip)) (Q (Q (R [a 40 1,a 41 2,c 42 43 [v 40,v 41]]) (F (v 42) (Q (R [b 43 3 2,s 6 43 2,e' 7 (k 6)]) .ret) .skip)) (Q (R [b 45 3 2,a 46 1,c 47 64 [v 45,v 46],a 44 47,x 48 44 0,x 49 44 1,z 10 [.int .i64 0,.int .i64 0,.int .i64 0,.sl 1 [],.sl 2 [],.sl 2 [],.str []],s 10 48 7,e 11 49]) (Q (R [b 51 3 2,a 52 2,c 53 64 [v 51,v 52],a 50 53,x 54 50 0,x 55 50 1,z 12 [.int .i64 0,.int .i64 0,.int .i64 0,.sl 1 [],.sl 2 [],.sl 2 [],.str []],s 12 54 7,e 9 55]) (Q (.blk 0 (Q (R [a 57 9,g 58 .neq (v 57) (k 0),e 56 58]) (F (v 56) (Q (R [b 59 3 2,a 60 9,s 6 59 2,e 7 60]) .ret) (Q (R [f 62 12 0,b 63 62 6,f 64 12 6,b' 65 64 1,c 66 69 [v 63,v 65],g 67 .neq (v 66) (k 0),e 61 67]) (F (v 61) (Q (R [b 68 3 2,s 6 68 2,e' 7 (k 4)]) .ret) (Q (R [f 70 12 0,f 71 70 4,b' 72 71 1,l 73 72,g 74 .eql (v 73) (k 10),a 75 74,h 75 true 76 (fld 76 (v 12) 0),h 75 true 77 (fld 77 (v 76) 0),h 75 true 78 (ld 78 (v 77) 1 false),h 75 true 79 (fld 79 (v 10) 0),h 75 true 80 (fld 80 (v 79) 0),h 75 true 81 (ld 81 (v 80) 1 false),h 75 true 82 (bin 82 .neq (v 78) (v 81)),p 83 75 (v 82) k0,e 69 83]) (F (v 69) (Q (R [b 84 3 2,s 6 84 2,e' 7 (k 5)]) .ret) .skip))))))) (Q (R [b 85 10 7,b 86 3 2,c 87 65 [v 85,v 86],s 3 87 2]) (Q (R [b 89 3 2,f 90 12 0,f 91 90 0,b' 92 91 1,c 93 70 [v 89,v 92],a 88 93,x 94 88 0,x 95 88 1,f 96 12 0,s 96 94 6]) (Q (R [b 97 12 7,b 98 3 2,f 99 8 0,b' 100 99 1,c 101 71 [v 97,v 98,v 100],s 6 101 2,e' 7 (k 0)]) .ret)))))))))))
def v8:Cmd:=Q (R [n 2 (box 2 (v 0)),e' 4 (k 0),e' 5 (k 0)]) (Q (R [a 14 1,c 15 81 [v 14],a 13 15,x 16 13 0,x 17 13 1,e 6 16,e 7 17]) (Q (Q (R [a 18 7,n 19 (un 19 .not (v 18))]) (F (v 19) (Q (R [e' 4 (k 0),e' 5 (k 1)]) .ret) .skip)) (Q (R [e' 8 (k 1)]) (Q (Q (R [a 20 6,l 21 20,n 22 (mov 22 (k 0))]) (.blk 0 (.loop (Q (R [g 23 .lss (v 22) (v 21)]) (Q (F (v 23) .skip (.exit 0)) (Q (.blk 1 (Q (R [i 24 20 22 1,b' 25 24 1,e 10 25]) (Q (R [b 27 2 2,a 28 8,c 29 70 [v 27,v 28],a 26 29,x 30 26 0,x 31 26 1,z 11 [.int .i64 0,.int .i64 0,.int .i64 0,.sl 1 [],.sl 2 [],.sl 2 []],s 11 30 6,e 12 31]) (Q (.blk 2 (Q (R [a 33 12,n 34 (un 34 .not (v 33)),e 32 34]) (F (v 32) (Q (R [e' 4 (k 0),e' 5 (k 2)]) .ret) (Q (R [f 36 11 1,b' 37 36 1,g 38 .neq (v 37) (k 2),e 35 38]) (F (v 35) (Q (R [e' 4 (k 0),e' 5 (k 3)]) .ret) .skip))))) (Q (R [b 39 11 6,a 40 10,c 41 69 [v 39,v 40],e 8 41]) (Q (R [a 42 8,g 43 .eql (v 42) (k 0)]) (F (v 43) (Q (R [e' 4 (k 0),e' 5 (k 2)]) .ret) .skip))))))) (R [g 44 .add (v 22) (k 1),a 22 44]))))))) (Q (R [a 45 8,e 4 45,e' 5 (k 0)]) .ret)))))
def tO:Cmd:=Q (R [n 1 (box 1 (v 0)),e' 2 k0]) (Q (Q (D [0,1,3,7,15,31,63,15,143,399,1023,2047] [b 7 1 2,c 8 85 [v 7],n 9 (un 9 .not (v 8)),a 10 9,hb 10 false 11 1 2,hc 10 false 12 49 [v 11],h 10 false 13 (len 13 (v 12)),h 10 false 14 (fld 14 (v 1) 0),h 10 false 15 (ld 15 (v 14) 1 false),h 10 false 16 (len 16 (v 15)),h 10 false 17 (bin 17 .neq (v 13) (v 16)),p 18 10 k1 (v 17)]) (F (v 18) (Q (R [e' 2 k0]) .ret) .skip)) (Q (Q (R [f 19 1 0,b' 20 19 1,l 21 20,n 22 (mov 22 (k 0))]) (.blk 0 (.loop (Q (R [g 23 .lss (v 22) (v 21)]) (Q (F (v 23) .skip (.exit 0)) (Q (.blk 1 (Q (R [i 24 20 22 6,b 25 24 6,z 4 [.int .i64 0,.int .i64 0,.int .i64 0,.sl 1 [],.sl 2 [],.sl 2 []],s 4 25 6]) (Q (Q (D [0,1,0,0,8,28,63] [f 26 4 2,b' 27 26 1,b 28 1 2,f 29 4 0,b' 30 29 1,c 31 86 [v 28,v 30],g 32 .neq (v 27) (v 31)]) (F (v 32) (Q (R [e' 2 k0]) .ret) .skip)) (Q (R [f 33 4 4,b' 34 33 1,l 35 34,n 36 (mov 36 (k 0))]) (.blk 2 (.loop (Q (R [g 37 .lss (v 36) (v 35)]) (Q (F (v 37) .skip (.exit 2)) (Q (.blk 3 (Q (R [i 38 34 36 2,b 39 38 2,z 6 [.str [],.int .i64 0],s 6 39 2]) (Q (R [b 40 1 2,f 41 6 1,b' 42 41 1,c 43 87 [v 40,v 42],g 44 .lss (v 43) (k 0)]) (F (v 44) (Q (R [e' 2 k0]) .ret) .skip)))) (R [g 45 .add (v 36) (k 1),a 36 45])))))))))) (R [g 46 .add (v 22) (k 1),a 22 46]))))))) (Q (R [e' 2 k1]) .ret)))
def dP:Cmd:=Q (R [n 3 (box 3 (v 0)),z 6 [.sl 6 [],.int .i64 0],e' 7 (k 0)]) (Q (R [a 28 1,c 29 75 [v 28],a 27 29,x 30 27 0,x 31 27 1,x 32 27 2,e 8 30,e 9 31,e 10 32]) (Q (R [a 34 2,c 35 75 [v 34],a 33 35,x 36 33 0,x 37 33 1,x 38 33 2,e 11 36,e 12 37,e 13 38]) (Q (Q (R [b 39 3 2,c 40 46 [v 39],n 41 (un 41 .not (v 40)),a 42 41,ha 42 false 43 10,h 42 false 44 (un 44 .not (v 43)),p 45 42 k1 (v 44),a 46 45,ha 46 false 47 13,h 46 false 48 (un 48 .not (v 47)),p 49 46 k1 (v 48)]) (F (v 49) (Q (R [b 50 3 2,c 51 76 [v 50],s 6 51 2,e' 7 (k 1)]) .ret) .skip)) (Q (R [b 53 3 2,a 54 1,c 55 97 [v 53,v 54],a 52 55,x 56 52 0,x 57 52 1,e 14 56,e 15 57]) (Q (Q (R [a 58 15,g 59 .neq (v 58) (k 0)]) (F (v 59) (Q (R [b 60 3 2,c 61 76 [v 60],a 62 15,s 6 61 2,e 7 62]) .ret) .skip)) (Q (Q (R [a 63 1,a 64 2,c 65 98 [v 63,v 64]]) (F (v 65) (Q (R [b 66 3 2,c 67 76 [v 66],s 6 67 2,e' 7 (k 6)]) .ret) .skip)) (Q (R [b 69 3 2,a 70 8,c 71 97 [v 69,v 70],a 68 71,x 72 68 0,x 73 68 1,e 16 72,e 17 73]) (Q (R [b 75 3 2,a 76 2,a 77 16,c 78 92 [v 75,v 76,v 77],a 74 78,x 79 74 0,x 80 74 1,x 81 74 2,z 18 [.int .i64 0,.int .i64 0,.int .i64 0,.sl 1 [],.sl 2 [],.sl 2 []],s 18 79 6,e 19 80,e 20 81]) (Q (Q (R [a 82 20,g 83 .neq (v 82) (k 0)]) (F (v 83) (Q (R [b 84 3 2,c 85 76 [v 84],a 86 20,s 6 85 2,e 7 86]) .ret) .skip)) (Q (R [b 87 3 2,a 88 1,c 89 78 [v 87,v 88],z 21 [.sl 6 [],.int .i64 0],s 21 89 2]) (Q (R [a 91 2,c 92 75 [v 91],a 90 92,x 93 90 0,x 94 90 1,x 95 90 2,e 22 93,e 23 94,e 24 95]) (Q (R [b 97 21 2,a 98 22,c 99 88 [v 97,v 98],a 96 99,x 100 96 0,x 101 96 1,z 25 [.int .i64 0,.int .i64 0,.int .i64 0,.sl 1 [],.sl 2 [],.sl 2 []],s 25 100 6,e 26 101]) (Q (R [f 102 25 4,b' 103 102 1,a 104 19,a 105 14,n 106 (bld 106 [.str [],.int .i64 0] [(0,1,v 104),(1,1,v 105)]),c 107 93 [v 103,v 106],f 108 25 4,s 108 107 1]) (Q (R [b 109 21 2,b 110 25 6,c 111 80 [v 109,v 110],s 6 111 2,e' 7 (k 0)]) .ret))))))))))))))
def jN:Cmd:=Q (R [e' 4 k0]) (Q (R [a 10 0,c 11 81 [v 10],a 9 11,x 12 9 0,x 13 9 1,e 5 12,e 6 13]) (Q (R [a 15 1,c 16 81 [v 15],a 14 16,x 17 14 0,x 18 14 1,e 7 17,e 8 18]) (Q (R [a 19 6,a 20 19,ha 20 true 21 8,p 22 20 (v 21) k0,a 23 22,ha 23 true 24 5,h 23 true 25 (len 25 (v 24)),ha 23 true 26 7,h 23 true 27 (len 27 (v 26)),h 23 true 28 (bin 28 .leq (v 25) (v 27)),p 29 23 (v 28) k0,a 30 29,ha 30 true 31 5,ha 30 true 32 7,ha 30 true 33 5,h 30 true 34 (len 34 (v 33)),h 30 true 35 (slc 35 (v 32) none (some (v 34)) 1),hc 30 true 36 99 [v 31,v 35],p 37 30 (v 36) k0,e 4 37]) .ret)))
def tP:Cmd:=Q (R [n 1 (box 1 (v 0)),e' 2 k0]) (Q (Q (D [0,1,3,7,15,31,63,15,143,399,1023,2047] [b 6 1 2,c 7 107 [v 6],n 8 (un 8 .not (v 7)),a 9 8,hb 9 false 10 1 2,hc 9 false 11 50 [v 10],h 9 false 12 (len 12 (v 11)),h 9 false 13 (fld 13 (v 1) 0),h 9 false 14 (ld 14 (v 13) 1 false),h 9 false 15 (len 15 (v 14)),h 9 false 16 (bin 16 .neq (v 12) (v 15)),p 17 9 k1 (v 16)]) (F (v 17) (Q (R [e' 2 k0]) .ret) .skip)) (Q (Q (R [e' 3 (k 0)]) (.blk 0 (.loop (Q (Q (R [a 18 3,f 19 1 0,b' 20 19 1,l 21 20,g 22 .lss (v 18) (v 21)]) (F (v 22) .skip (.exit 0))) (Q (.blk 1 (Q (R [f 25 1 0,b' 26 25 1,a 27 3,i 28 26 27 6,b 29 28 6,z 4 [.int .i64 0,.int .i64 0,.int .i64 0,.sl 1 [],.sl 2 [],.sl 2 []],s 4 29 6]) (Q (Q (D [0,0,2,7,0,16,63] [b 30 1 2,f 31 4 0,b' 32 31 1,c 33 108 [v 30,v 32],f 34 4 2,b' 35 34 1,g 36 .neq (v 33) (v 35)]) (F (v 36) (Q (R [e' 2 k0]) .ret) .skip)) (Q (R [e' 5 (k 0)]) (.blk 2 (.loop (Q (Q (R [a 37 5,f 38 4 4,b' 39 38 1,l 40 39,g 41 .lss (v 37) (v 40)]) (F (v 41) .skip (.exit 2))) (Q (.blk 3 (Q (D [0,0,2,0,14,30,62,127,255] [b 44 1 2,f 45 4 4,b' 46 45 1,a 47 5,i 48 46 47 2,f 49 48 1,b' 50 49 1,c 51 109 [v 44,v 50],g 52 .lss (v 51) (k 0)]) (F (v 52) (Q (R [e' 2 k0]) .ret) .skip))) (R [a 42 5,g 43 .add (v 42) (k 1),e 5 43]))))))))) (R [a 23 3,g 24 .add (v 23) (k 1),e 3 24])))))) (Q (R [e' 2 k1]) .ret)))
def q9:Cmd:=Q (R [n 1 (box 1 (v 0)),e' 2 (.c (.own 1 []))]) (Q (R [o 10 1 [],e 3 10]) (Q (R [o 11 1 [k 1],e 4 11]) (Q (.blk 0 (.loop (Q (Q (R [a 12 4,l 13 12,g 14 .gtr (v 13) (k 0)]) (F (v 14) .skip (.exit 0))) (.blk 1 (Q (R [a 15 4,n 16 (idx 16 (v 15) (k 0) 1),b' 17 16 1,e 5 17]) (Q (R [a 18 4,n 19 (slc 19 (v 18) (some (k 1)) none 1),e 4 19]) (Q (R [b 21 1 2,a 22 5,c 23 70 [v 21,v 22],a 20 23,x 24 20 0,x 25 20 1,z 6 [.int .i64 0,.int .i64 0,.int .i64 0,.sl 1 [],.sl 2 [],.sl 2 []],s 6 24 6,e 7 25]) (Q (Q (R [a 26 7,n 27 (un 27 .not (v 26)),a 28 27,ha 28 false 29 3,ha 28 false 30 5,hc 28 false 31 110 [v 29,v 30],p 32 28 k1 (v 31)]) (F (v 32) (.exit 1) .skip)) (Q (R [a 33 3,a 34 5,o 35 1 [v 34],n 36 (app 36 (v 33) (v 35) 1 8),e 3 36]) (Q (R [f 37 6 1,b' 38 37 1,g 39 .eql (v 38) (k 2)]) (F (v 39) (Q (R [f 40 6 4,b' 41 40 1,l 42 41,n 43 (mov 43 (k 0))]) (.blk 2 (.loop (Q (R [g 44 .lss (v 43) (v 42)]) (Q (F (v 44) .skip (.exit 2)) (Q (.blk 3 (Q (R [i 45 41 43 2,b 46 45 2,z 9 [.str [],.int .i64 0],s 9 46 2]) (R [a 47 4,f 48 9 1,b' 49 48 1,o 50 1 [v 49],n 51 (app 51 (v 47) (v 50) 1 8),e 4 51]))) (R [g 52 .add (v 43) (k 1),a 43 52]))))))) .skip))))))))))) (Q (R [a 53 3,c 54 111 [v 53]]) (Q (R [a 55 3,e 2 55]) .ret)))))
def lP:Cmd:=Q (R [n 1 (box 1 (v 0)),e' 2 (.c (.own 1 []))]) (Q (R [o 5 1 [],e 3 5]) (Q (Q (R [b 6 1 2,c 7 109 [v 6,k 1],g 8 .lss (v 7) (k 0)]) (F (v 8) (Q (R [a 9 3,e 2 9]) .ret) .skip)) (Q (R [a 10 3,o 11 1 [k 1],n 12 (app 12 (v 10) (v 11) 1 8),e 3 12]) (Q (Q (R [e' 4 (k 0)]) (.blk 0 (.loop (Q (Q (R [a 13 4,f 14 1 0,b' 15 14 1,l 16 15,g 17 .lss (v 13) (v 16)]) (F (v 17) .skip (.exit 0))) (Q (.blk 1 (R [b 20 1 2,a 21 3,c 22 112 [v 20,v 21],e 3 22])) (R [a 18 4,g 19 .add (v 18) (k 1),e 4 19])))))) (Q (R [a 23 3,e 2 23]) .ret)))))
def yO:Cmd:=Q (R [n 2 (box 2 (v 0)),e' 4 (k 0)]) (Q (R [f 5 2 0,b' 6 5 1,a 7 1,c 8 113 [v 6,v 7],e 1 8]) (Q (Q (R [a 9 1,g 10 .lss (v 9) (k 0)]) (F (v 10) (Q (R [e' 4 (k (-1))]) .ret) .skip)) (Q (R [a 11 1,e 4 11]) .ret)))
def yP:Cmd:=Q (R [n 1 (box 1 (v 0)),z 2 [.sl 6 [],.int .i64 0]]) (Q (R [z 3 [.sl 6 [],.int .i64 0]]) (Q (R [f 4 1 0,b' 5 4 1,c 6 114 [v 5],f 7 3 0,s 7 6 1]) (Q (R [f 8 1 1,b' 9 8 1,f 10 3 1,s 10 9 1]) (Q (R [b 11 3 2,s 2 11 2]) .ret))))
def yQ:Cmd:=Q (R [n 2 (box 2 (v 0)),n 3 (box 3 (v 1)),e' 4 k0]) (Q (Q (R [f 5 2 0,b' 6 5 1,f 7 3 0,b' 8 7 1,c 9 115 [v 6,v 8],n 10 (un 10 .not (v 9))]) (F (v 10) (Q (R [e' 4 k0]) .ret) .skip)) (Q (Q (R [f 11 2 1,b' 12 11 1,f 13 3 1,b' 14 13 1,g 15 .neq (v 12) (v 14)]) (F (v 15) (Q (R [e' 4 k0]) .ret) .skip)) (Q (R [e' 4 k1]) .ret)))
def rA:Cmd:=Q (R [n 2 (box 2 (v 0)),e' 4 (k 0)]) (Q (R [f 5 2 0,b' 6 5 1,a 7 1,c 8 116 [v 6,v 7],e 1 8]) (Q (R [a 9 1,e 4 9]) .ret))
def rB:Cmd:=Q (R [n 2 (box 2 (v 0)),e' 4 (k 0)]) (Q (R [f 5 2 0,b' 6 5 1,a 7 1,c 8 117 [v 6,v 7],e 1 8]) (Q (Q (R [a 9 1,g 10 .lss (v 9) (k 0)]) (F (v 10) (Q (R [e' 4 (k (-1))]) .ret) .skip)) (Q (R [a 11 1,e 4 11]) .ret)))
def rC:Cmd:=Q (R [n 1 (box 1 (v 0)),z 2 [.sl 6 [],.int .i64 0]]) (Q (R [f 6 1 1,b' 7 6 1,n 8 (bld 8 [.sl 6 [],.int .i64 0] [(1,1,v 7)]),z 3 [.sl 6 [],.int .i64 0],s 3 8 2]) (Q (Q (R [f 9 1 0,b' 10 9 1,l 11 10,n 12 (mov 12 (k 0))]) (.blk 0 (.loop (Q (R [g 13 .lss (v 12) (v 11)]) (Q (F (v 13) .skip (.exit 0)) (Q (.blk 1 (Q (R [i 14 10 12 6,b 15 14 6,z 5 [.int .i64 0,.int .i64 0,.int .i64 0,.sl 1 [],.sl 2 [],.sl 2 []],s 5 15 6]) (D [0,1,0,4,12,31,63,127] [f 16 3 0,b' 17 16 1,b 18 5 6,c 19 122 [v 18],o 20 6 [v 19],n 21 (app 21 (v 17) (v 20) 6 96),f 22 3 0,s 22 21 1]))) (R [g 23 .add (v 12) (k 1),a 12 23]))))))) (Q (R [b 24 3 2,s 2 24 2]) .ret)))
def yR:Cmd:=Q (R [n 2 (box 2 (v 0)),e' 4 k0]) (Q (Q (R [a 9 1,l 10 9,n 11 (mov 11 (k 0))]) (.blk 0 (.loop (Q (R [g 12 .lss (v 11) (v 10)]) (Q (F (v 12) .skip (.exit 0)) (Q (.blk 1 (Q (R [i 13 9 11 1,b' 14 13 1,e 6 14]) (Q (R [a 16 6,c 17 81 [v 16],a 15 17,x 18 15 0,x 19 15 1,e 7 18,e 8 19]) (Q (R [a 20 8,n 21 (un 21 .not (v 20))]) (F (v 21) (Q (R [e' 4 k0]) .ret) .skip))))) (R [g 22 .add (v 11) (k 1),a 11 22]))))))) (Q (R [b 23 2 2,c 24 28 [v 23],e 4 24]) .ret))
def kL:Cmd:=Q (R [n 2 (box 2 (v 0)),z 4 [.int .i64 0,.int .i64 0,.int .i64 0,.sl 1 [],.sl 2 [],.sl 2 [],.str []],e' 5 (k 0)]) (Q (R [a 12 1,c 13 123 [v 12],a 11 13,x 14 11 0,x 15 11 1,x 16 11 2,e 6 14,e 7 15,e 8 16]) (Q (R [b 18 2 2,a 19 6,c 20 68 [v 18,v 19],a 17 20,x 21 17 0,x 22 17 1,z 9 [.int .i64 0,.int .i64 0,.int .i64 0,.sl 1 [],.sl 2 [],.sl 2 []],s 9 21 6,e 10 22]) (Q (Q (R [a 23 10,g 24 .neq (v 23) (k 0)]) (F (v 24) (Q (R [n 25 (bld 25 [.int .i64 0,.int .i64 0,.int .i64 0,.sl 1 [],.sl 2 [],.sl 2 [],.str []] []),a 26 10,s 4 25 7,e 5 26]) .ret) .skip)) (Q (Q (R [f 27 9 1,b' 28 27 1,g 29 .neq (v 28) (k 2)]) (F (v 29) (Q (R [n 30 (bld 30 [.int .i64 0,.int .i64 0,.int .i64 0,.sl 1 [],.sl 2 [],.sl 2 [],.str []] []),s 4 30 7,e' 5 (k 3)]) .ret) .skip)) (Q (R [b 31 9 6,a 32 7,n 33 (bld 33 [.int .i64 0,.int .i64 0,.int .i64 0,.sl 1 [],.sl 2 [],.sl 2 [],.str []] [(0,6,v 31),(6,1,v 32)]),s 4 33 7,e' 5 (k 0)]) .ret)))))
def lB:Cmd:=Q (R [n 2 (box 2 (v 0)),n 3 (box 3 (v 1)),z 4 [.sl 6 [],.int .i64 0]]) (Q (R [f 5 2 0,f 6 5 4,b' 7 6 1,c 8 125 [v 7],n 9 (mkf 9 126 [v 2]),c 10 124 [v 8,v 9],f 11 2 0,f 12 11 4,s 12 10 1]) (Q (R [b 13 3 2,f 14 2 0,b 15 14 6,c 16 67 [v 13,v 15],s 4 16 2]) .ret))
def oN:Cmd:=Q (R [n 2 (box 2 (v 0)),n 3 (box 3 (v 1)),z 4 [.sl 6 [],.int .i64 0]]) (Q (R [b 7 2 2,c 8 61 [v 7],s 2 8 2]) (Q (R [b 9 3 6,c 10 122 [v 9],s 3 10 6]) (Q (Q (R [b 11 2 2,f 12 3 0,b' 13 12 1,c 14 87 [v 11,v 13],e 5 14]) (Q (R [a 15 5,g 16 .geq (v 15) (k 0)]) (F (v 16) (Q (R [f 17 2 0,b' 18 17 1,a 19 5,b 20 3 6,i 21 18 19 6,s 21 20 6]) (Q (R [b 22 2 2,s 4 22 2]) .ret)) .skip))) (Q (R [f 23 2 0,b' 24 23 1,n 25 (mkf 25 130 [v 3]),c 26 129 [v 24,v 25],e 6 26]) (Q (Q (R [a 27 6,g 28 .lss (v 27) (k 0)]) (F (v 28) (R [f 29 2 0,b' 30 29 1,l 31 30,e 6 31]) .skip)) (Q (R [f 32 2 0,b' 33 32 1,a 34 6,b 35 3 6,o 36 6 [v 35],c 37 131 [v 33,v 34,v 36],f 38 2 0,s 38 37 1]) (Q (R [b 39 2 2,s 4 39 2]) .ret)))))))
def p8:Cmd:=Q (R [n 2 (box 2 (v 0)),z 4 [.int .i64 0,.int .i64 0,.int .i64 0,.sl 1 [],.sl 2 [],.sl 2 []],e' 5 (k 0)]) (Q (R [b 11 2 2,a 12 1,c 13 23 [v 11,v 12],a 10 13,x 14 10 0,x 15 10 1,e 6 14,e 7 15]) (Q (Q (R [a 16 7,g 17 .neq (v 16) (k 0)]) (F (v 17) (Q (R [n 18 (bld 18 [.int .i64 0,.int .i64 0,.int .i64 0,.sl 1 [],.sl 2 [],.sl 2 []] []),a 19 7,s 4 18 6,e 5 19]) .ret) .skip)) (Q (R [b 21 2 2,a 22 6,c 23 70 [v 21,v 22],a 20 23,x 24 20 0,x 25 20 1,z 8 [.int .i64 0,.int .i64 0,.int .i64 0,.sl 1 [],.sl 2 [],.sl 2 []],s 8 24 6,e 9 25]) (Q (Q (R [a 26 9,n 27 (un 27 .not (v 26))]) (F (v 27) (Q (R [n 28 (bld 28 [.int .i64 0,.int .i64 0,.int .i64 0,.sl 1 [],.sl 2 [],.sl 2 []] []),s 4 28 6,e' 5 (k 2)]) .ret) .skip)) (Q (R [b 29 8 6,s 4 29 6,e' 5 (k 0)]) .ret)))))
def yS:Cmd:=Q (R [n 2 (box 2 (v 0)),e' 4 (k 0)]) (Q (Q (R [f 7 2 4,b' 8 7 1,l 9 8,n 10 (mov 10 (k 0))]) (.blk 0 (.loop (Q (R [g 11 .lss (v 10) (v 9)]) (Q (F (v 11) .skip (.exit 0)) (Q (.blk 1 (Q (R [i 12 8 10 2,b 13 12 2,z 6 [.str [],.int .i64 0],s 6 13 2]) (Q (R [f 14 6 0,b' 15 14 1,a 16 1,g 17 .eql (v 15) (v 16)]) (F (v 17) (Q (R [f 18 6 1,b' 19 18 1,e 4 19]) .ret) .skip)))) (R [g 20 .add (v 10) (k 1),a 10 20]))))))) (Q (R [e' 4 (k 0)]) .ret))
def lQ:Cmd:=Q (R [n 2 (box 2 (v 0)),z 4 [.int .i64 0,.int .i64 0,.int .i64 0,.sl 1 [],.sl 2 [],.sl 2 []],e' 5 k0]) (Q (R [b 7 2 2,a 8 1,c 9 87 [v 7,v 8],e 6 9]) (Q (Q (R [a 10 6,g 11 .lss (v 10) (k 0)]) (F (v 11) (Q (R [n 12 (bld 12 [.int .i64 0,.int .i64 0,.int .i64 0,.sl 1 [],.sl 2 [],.sl 2 []] []),s 4 12 6,e' 5 k0]) .ret) .skip)) (Q (R [f 13 2 0,b' 14 13 1,a 15 6,i 16 14 15 6,b 17 16 6,c 18 122 [v 17],s 4 18 6,e' 5 k1]) .ret)))
def gP:Cmd:=Q (R [n 3 (box 3 (v 0)),n 4 (box 4 (v 1)),z 6 [.sl 6 [],.int .i64 0]]) (Q (R [f 8 3 0,f 9 8 4,b' 10 9 1,n 11 (mkf 11 133 [v 3]),c 12 132 [v 10,v 11],e 7 12]) (Q (Q (R [a 13 7,g 14 .lss (v 13) (k 0)]) (F (v 14) (R [f 15 3 0,f 16 15 4,b' 17 16 1,l 18 17,e 7 18]) .skip)) (Q (D [0,1,3,7,0,0,32,0,224,480,1023,2047,4095,8191] [f 19 3 0,f 20 19 4,b' 21 20 1,c 22 125 [v 21],a 23 7,f 24 3 6,b' 25 24 1,a 26 2,n 27 (bld 27 [.str [],.int .i64 0] [(0,1,v 25),(1,1,v 26)]),o 28 2 [v 27],c 29 134 [v 22,v 23,v 28],f 30 3 0,f 31 30 4,s 31 29 1]) (Q (R [b 32 4 2,f 33 3 0,b 34 33 6,c 35 67 [v 32,v 34],s 6 35 2]) .ret))))
def gG:Cmd:=Q (R [e' 2 (.c (.str [])),e' 3 (.c (.str [])),e' 4 k0]) (Q (R [a 9 0,c 10 91 [v 9],a 8 10,x 11 8 0,x 12 8 1,e 5 11,e 6 12]) (Q (Q (R [a 13 6,n 14 (un 14 .not (v 13)),a 15 14,ha 15 false 16 5,h 15 false 17 (len 17 (v 16)),h 15 false 18 (bin 18 .eql (v 17) (k 0)),p 19 15 k1 (v 18)]) (F (v 19) (Q (R [e' 2 (.c (.str [])),e' 3 (.c (.str [])),e' 4 k0]) .ret) .skip)) (Q (R [a 20 5,l 21 20,g 22 .sub (v 21) (k 1),e 7 22]) (Q (D [0,0,3,7,0,0,48,112,15,511,1023] [a 23 5,a 24 7,n 25 (slc 25 (v 23) none (some (v 24)) 1),c 26 139 [v 25],a 27 5,a 28 7,i 29 27 28 1,b' 30 29 1,e 2 26,e 3 30,e' 4 k1]) .ret))))
def tQ:Cmd:=Q (R [n 1 (box 1 (v 0)),z 2 [.sl 6 [],.int .i64 0]]) (Q (R [f 5 1 1,b' 6 5 1,n 7 (bld 7 [.sl 6 [],.int .i64 0] [(1,1,v 6)]),z 3 [.sl 6 [],.int .i64 0],s 3 7 2]) (Q (Q (R [e' 4 (k 0)]) (.blk 0 (.loop (Q (Q (R [a 8 4,f 9 1 0,b' 10 9 1,l 11 10,g 12 .lss (v 8) (v 11)]) (F (v 12) .skip (.exit 0))) (Q (.blk 1 (D [0,1,0,4,0,28,60,124,252,511,1023,2047] [f 15 3 0,b' 16 15 1,f 17 1 0,b' 18 17 1,a 19 4,i 20 18 19 6,b 21 20 6,c 22 140 [v 21],o 23 6 [v 22],n 24 (app 24 (v 16) (v 23) 6 96),f 25 3 0,s 25 24 1])) (R [a 13 4,g 14 .add (v 13) (k 1),e 4 14])))))) (Q (R [b 26 3 2,s 2 26 2]) .ret)))
def tR:Cmd:=Q (R [n 2 (box 2 (v 0)),z 4 [.sl 6 [],.int .i64 0]]) (Q (R [a 11 1,c 12 75 [v 11],a 10 12,x 13 10 0,x 14 10 1,x 15 10 2,e 5 13,e 6 14,e 7 15]) (Q (R [b 17 2 2,a 18 5,c 19 88 [v 17,v 18],a 16 19,x 20 16 0,x 21 16 1,z 8 [.int .i64 0,.int .i64 0,.int .i64 0,.sl 1 [],.sl 2 [],.sl 2 []],s 8 20 6,e 9 21]) (Q (R [f 22 8 4,b' 23 22 1,a 24 6,c 25 141 [v 23,v 24],f 26 8 4,s 26 25 1]) (Q (R [b 27 2 2,b 28 8 6,c 29 80 [v 27,v 28],s 4 29 2]) .ret))))
def oO:Cmd:=Q (R [n 2 (box 2 (v 0)),n 3 (box 3 (v 1)),z 4 [.sl 6 [],.int .i64 0]]) (Q (R [b 8 2 2,c 9 76 [v 8],z 5 [.sl 6 [],.int .i64 0],s 5 9 2]) (Q (R [b 10 2 2,f 11 3 0,b' 12 11 1,c 13 109 [v 10,v 12],e 6 13]) (Q (Q (R [a 14 6,g 15 .geq (v 14) (k 0)]) (F (v 15) (Q (D [0,1,0,0,8,31,63] [f 16 5 0,b' 17 16 1,a 18 6,b 19 3 6,c 20 140 [v 19],i 21 17 18 6,s 21 20 6]) (Q (R [b 22 5 2,s 4 22 2]) .ret)) .skip)) (Q (R [e' 6 (k 0)]) (Q (.blk 0 (.loop (Q (Q (D [0,0,2,6,15,31,63,127,63,511,1023,2047,63,4159,16383,32767] [a 23 6,f 24 2 0,b' 25 24 1,l 26 25,g 27 .lss (v 23) (v 26),a 28 27,h 28 true 29 (fld 29 (v 2) 0),h 28 true 30 (ld 30 (v 29) 1 false),ha 28 true 31 6,h 28 true 32 (idx 32 (v 30) (v 31) 6),h 28 true 33 (fld 33 (v 32) 0),h 28 true 34 (ld 34 (v 33) 1 false),h 28 true 35 (fld 35 (v 3) 0),h 28 true 36 (ld 36 (v 35) 1 false),h 28 true 37 (bin 37 .lss (v 34) (v 36)),p 38 28 (v 37) k0]) (F (v 38) .skip (.exit 0))) (.blk 1 (R [a 39 6,g 40 .add (v 39) (k 1),e 6 40]))))) (Q (D [0,0,2,0,14,31,0,127,255,511,1023] [o 41 6 [],f 42 5 0,b' 43 42 1,a 44 6,n 45 (slc 45 (v 43) none (some (v 44)) 6),n 46 (app 46 (v 41) (v 45) 6 96),b 47 3 6,c 48 140 [v 47],o 49 6 [v 48],n 50 (app 50 (v 46) (v 49) 6 96),e 7 50]) (Q (R [a 51 7,f 52 5 0,b' 53 52 1,a 54 6,n 55 (slc 55 (v 53) (some (v 54)) none 6),n 56 (app 56 (v 51) (v 55) 6 96),f 57 5 0,s 57 56 1]) (Q (R [b 58 5 2,s 4 58 2]) .ret))))))))
def c5:Cmd:=Q (R [e' 2 (.c (.own 1 [])),e' 3 k0]) (Q (Q (R [a 5 0,g 6 .eql (v 5) (.c (.str [47]))]) (F (v 6) (Q (R [e' 2 (.c (.own 1 [])),e' 3 k1]) .ret) .skip)) (Q (R [a 7 0,c 8 142 [v 7,.c (.str [47])],e 4 8]) (Q (Q (R [a 9 4,n 10 (idx 10 (v 9) (k 0) 1),b' 11 10 1,g 12 .neq (v 11) (.c (.str [])),a 13 12,ha 13 false 14 4,h 13 false 15 (len 15 (v 14)),h 13 false 16 (bin 16 .lss (v 15) (k 2)),p 17 13 k1 (v 16),a 18 17,ha 18 false 19 4,h 18 false 20 (slc 20 (v 19) (some (k 1)) none 1),hc 18 false 21 143 [v 20],h 18 false 22 (un 22 .not (v 21)),p 23 18 k1 (v 22)]) (F (v 23) (Q (R [e' 2 (.c (.own 1 [])),e' 3 k0]) .ret) .skip)) (Q (R [a 24 4,n 25 (slc 25 (v 24) (some (k 1)) none 1),e 2 25,e' 3 k1]) .ret))))
def gQ:Cmd:=Q (R [e' 2 (.c (.own 1 []))]) (Q (Q (R [a 3 0,n 4 (isn 4 false (v 3) (.c (.own 1 [])))]) (F (v 4) (Q (R [e' 2 (.c (.own 1 []))]) .ret) .skip)) (Q (R [o 5 1 [],a 6 0,n 7 (app 7 (v 5) (v 6) 1 1),e 2 7]) .ret))
def yT:Cmd:=Q (R [n 1 (box 1 (v 0)),e' 2 k0]) (Q (Q (R [f 7 1 0,b' 8 7 1,l 9 8,g 10 .gtr (v 9) (k 30),a 11 10,h 11 false 12 (fld 12 (v 1) 1),h 11 false 13 (ld 13 (v 12) 1 false),hc 11 false 14 94 [v 13,k 2,k 1000],h 11 false 15 (un 15 .not (v 14)),p 16 11 k1 (v 15)]) (F (v 16) (Q (R [e' 2 k0]) .ret) .skip)) (Q (Q (R [f 17 1 0,b' 18 17 1,l 19 18,n 20 (mov 20 (k 0))]) (.blk 0 (.loop (Q (R [g 21 .lss (v 20) (v 19)]) (Q (F (v 21) .skip (.exit 0)) (Q (.blk 1 (Q (R [a 22 20,i 23 18 20 6,b 24 23 6,z 4 [.int .i64 0,.int .i64 0,.int .i64 0,.sl 1 [],.sl 2 [],.sl 2 []],e 3 22,s 4 24 6]) (Q (D [0,1,3,7,15,31,15,79,255,511,1023,2047,4095,8191,16383,32767,16383,81919,262143,524287,1048575,16383,2113535,8388607,16777215,33554431] [b 25 4 6,c 26 146 [v 25],n 27 (un 27 .not (v 26)),a 28 27,h 28 false 29 (fld 29 (v 4) 0),h 28 false 30 (ld 30 (v 29) 1 false),h 28 false 31 (fld 31 (v 1) 1),h 28 false 32 (ld 32 (v 31) 1 false),h 28 false 33 (bin 33 .geq (v 30) (v 32)),p 34 28 k1 (v 33),a 35 34,ha 35 false 36 3,h 35 false 37 (bin 37 .gtr (v 36) (k 0)),ha 35 false 38 37,h 38 true 39 (fld 39 (v 1) 0),h 38 true 40 (ld 40 (v 39) 1 false),ha 38 true 41 3,h 38 true 42 (bin 42 .sub (v 41) (k 1)),h 38 true 43 (idx 43 (v 40) (v 42) 6),h 38 true 44 (fld 44 (v 43) 0),h 38 true 45 (ld 45 (v 44) 1 false),h 38 true 46 (fld 46 (v 4) 0),h 38 true 47 (ld 47 (v 46) 1 false),h 38 true 48 (bin 48 .geq (v 45) (v 47)),h 35 false 49 (pck 49 (v 38) (v 48) k0),p 50 35 k1 (v 49)]) (F (v 50) (Q (R [e' 2 k0]) .ret) .skip)))) (R [g 51 .add (v 20) (k 1),a 20 51]))))))) (Q (R [b 53 1 2,c 54 70 [v 53,k 1],a 52 54,x 55 52 0,x 56 52 1,z 5 [.int .i64 0,.int .i64 0,.int .i64 0,.sl 1 [],.sl 2 [],.sl 2 []],s 5 55 6,e 6 56]) (Q (R [a 57 6,a 58 57,h 58 true 59 (fld 59 (v 5) 1),h 58 true 60 (ld 60 (v 59) 1 false),h 58 true 61 (bin 61 .eql (v 60) (k 2)),p 62 58 (v 61) k0,e 2 62]) .ret))))
def rD:Cmd:=Q (R [n 2 (box 2 (v 0)),e' 4 (k 0)]) (Q (R [e' 5 (k 0)]) (Q (Q (R [f 10 2 0,b' 11 10 1,l 12 11,n 13 (mov 13 (k 0))]) (.blk 0 (.loop (Q (R [g 14 .lss (v 13) (v 12)]) (Q (F (v 14) .skip (.exit 0)) (Q (.blk 1 (Q (R [i 15 11 13 6,b 16 15 6,z 7 [.int .i64 0,.int .i64 0,.int .i64 0,.sl 1 [],.sl 2 [],.sl 2 []],s 7 16 6]) (Q (Q (R [f 17 7 1,b' 18 17 1,g 19 .neq (v 18) (k 2)]) (F (v 19) (.exit 1) .skip)) (Q (R [f 20 7 4,b' 21 20 1,l 22 21,n 23 (mov 23 (k 0))]) (.blk 2 (.loop (Q (R [g 24 .lss (v 23) (v 22)]) (Q (F (v 24) .skip (.exit 2)) (Q (.blk 3 (Q (R [i 25 21 23 2,b 26 25 2,z 9 [.str [],.int .i64 0],s 9 26 2]) (Q (R [f 27 9 1,b' 28 27 1,a 29 1,g 30 .eql (v 28) (v 29)]) (F (v 30) (R [a 31 5,g 32 .add (v 31) (k 1),e 5 32]) .skip)))) (R [g 33 .add (v 23) (k 1),a 23 33])))))))))) (R [g 34 .add (v 13) (k 1),a 13 34]))))))) (Q (R [a 35 5,e 4 35]) .ret)))
def rE:Cmd:=Q (R [n 2 (box 2 (v 0)),n 3 (box 3 (v 1)),e' 4 (k 0)]) (Q (R [f 5 2 0,b' 6 5 1,n 7 (mkf 7 147 [v 3]),c 8 129 [v 6,v 7],e 4 8]) .ret)
def p9:Cmd:=Q (R [n 2 (box 2 (v 0)),z 4 [.int .i64 0,.int .i64 0,.int .i64 0,.sl 1 [],.sl 2 [],.sl 2 []],e' 5 (k 0)]) (Q (R [b 11 2 2,a 12 1,c 13 97 [v 11,v 12],a 10 13,x 14 10 0,x 15 10 1,e 6 14,e 7 15]) (Q (Q (R [a 16 7,g 17 .neq (v 16) (k 0)]) (F (v 17) (Q (R [n 18 (bld 18 [.int .i64 0,.int .i64 0,.int .i64 0,.sl 1 [],.sl 2 [],.sl 2 []] []),a 19 7,s 4 18 6,e 5 19]) .ret) .skip)) (Q (R [b 21 2 2,a 22 6,c 23 148 [v 21,v 22],a 20 23,x 24 20 0,x 25 20 1,z 8 [.int .i64 0,.int .i64 0,.int .i64 0,.sl 1 [],.sl 2 [],.sl 2 []],s 8 24 6,e 9 25]) (Q (Q (R [a 26 9,n 27 (un 27 .not (v 26))]) (F (v 27) (Q (R [n 28 (bld 28 [.int .i64 0,.int .i64 0,.int .i64 0,.sl 1 [],.sl 2 [],.sl 2 []] []),s 4 28 6,e' 5 (k 2)]) .ret) .skip)) (Q (R [b 29 8 6,s 4 29 6,e' 5 (k 0)]) .ret)))))
def iM:Cmd:=Q (R [e' 2 (.c (.own 1 [])),e' 3 k0]) (Q (R [o 8 1 [],e 4 8]) (Q (Q (R [a 9 0,g 10 .eql (v 9) (.c (.str [47]))]) (F (v 10) (Q (R [a 11 4,e 2 11,e' 3 k1]) .ret) .skip)) (Q (R [e' 5 (k 0)]) (Q (Q (R [e' 6 (k 0)]) (.blk 0 (.loop (Q (Q (R [a 12 6,a 13 0,n 14 (lens 14 (v 13)),g 15 .leq (v 12) (v 14)]) (F (v 15) .skip (.exit 0))) (Q (.blk 1 (Q (Q (R [a 18 6,a 19 0,n 20 (lens 20 (v 19)),g 21 .lss (v 18) (v 20),a 22 21,ha 22 true 23 0,ha 22 true 24 6,h 22 true 25 (sidx 25 (v 23) (v 24)),h 22 true 26 (bin 26 .neq (v 25) (.c (.int .u8 47))),p 27 22 (v 26) k0]) (F (v 27) (.exit 1) .skip)) (Q (Q (R [a 28 6,g 29 .gtr (v 28) (k 0)]) (F (v 29) (Q (R [a 30 0,a 31 5,a 32 6,n 33 (sls 33 (v 30) (some (v 31)) (some (v 32))),e 7 33]) (Q (Q (R [a 34 7,c 35 150 [v 34],n 36 (un 36 .not (v 35)),a 37 36,ha 37 false 38 4,h 37 false 39 (len 39 (v 38)),h 37 false 40 (bin 40 .eql (v 39) (k 30)),p 41 37 k1 (v 40)]) (F (v 41) (Q (R [o 42 1 [],e 2 42,e' 3 k0]) .ret) .skip)) (R [a 43 4,a 44 7,o 45 1 [v 44],n 46 (app 46 (v 43) (v 45) 1 16),e 4 46]))) .skip)) (R [a 47 6,g 48 .add (v 47) (k 1),e 5 48])))) (R [a 16 6,g 17 .add (v 16) (k 1),e 6 17])))))) (Q (Q (R [a 49 0,n 50 (lens 50 (v 49)),g 51 .eql (v 50) (k 0),a 52 51,ha 52 false 53 0,h 52 false 54 (sidx 54 (v 53) (k 0)),h 52 false 55 (bin 55 .neq (v 54) (.c (.int .u8 47))),p 56 52 k1 (v 55)]) (F (v 56) (Q (R [o 57 1 [],e 2 57,e' 3 k0]) .ret) .skip)) (Q (R [a 58 4,e 2 58,e' 3 k1]) .ret))))))
def dQ:Cmd:=Q (R [n 3 (box 3 (v 0)),z 6 [.int .i64 0,.int .i64 0,.int .i64 0,.sl 1 [],.sl 2 [],.sl 2 []],e' 7 (.c (.str [])),e' 8 (k 0)]) (Q (R [a 15 1,c 16 75 [v 15],a 14 16,x 17 14 0,x 18 14 1,x 19 14 2,e 9 17,e 10 18,e 11 19]) (Q (Q (R [a 20 11,n 21 (un 21 .not (v 20))]) (F (v 21) (Q (R [n 22 (bld 22 [.int .i64 0,.int .i64 0,.int .i64 0,.sl 1 [],.sl 2 [],.sl 2 []] []),s 6 22 6,e' 7 (.c (.str [])),e' 8 (k 1)]) .ret) .skip)) (Q (R [b 24 3 2,a 25 9,c 26 88 [v 24,v 25],a 23 26,x 27 23 0,x 28 23 1,z 12 [.int .i64 0,.int .i64 0,.int .i64 0,.sl 1 [],.sl 2 [],.sl 2 []],s 12 27 6,e 13 28]) (Q (.blk 0 (Q (R [a 30 13,g 31 .neq (v 30) (k 0),e 29 31]) (F (v 29) (Q (R [n 32 (bld 32 [.int .i64 0,.int .i64 0,.int .i64 0,.sl 1 [],.sl 2 [],.sl 2 []] []),a 33 13,s 6 32 6,e' 7 (.c (.str [])),e 8 33]) .ret) (Q (R [f 35 12 1,b' 36 35 1,g 37 .neq (v 36) (k 2),e 34 37]) (F (v 34) (Q (R [n 38 (bld 38 [.int .i64 0,.int .i64 0,.int .i64 0,.sl 1 [],.sl 2 [],.sl 2 []] []),s 6 38 6,e' 7 (.c (.str [])),e' 8 (k 3)]) .ret) (Q (R [b 40 12 6,a 41 10,c 42 151 [v 40,v 41],g 43 .neq (v 42) (k 0),e 39 43]) (F (v 39) (Q (R [n 44 (bld 44 [.int .i64 0,.int .i64 0,.int .i64 0,.sl 1 [],.sl 2 [],.sl 2 []] []),s 6 44 6,e' 7 (.c (.str [])),e' 8 (k 4)]) .ret) (Q (R [f 46 12 4,b' 47 46 1,l 48 47,g 49 .geq (v 48) (k 10),a 50 49,h 50 true 51 (fld 51 (v 12) 0),h 50 true 52 (ld 52 (v 51) 1 false),ha 50 true 53 2,h 50 true 54 (bin 54 .neq (v 52) (v 53)),p 55 50 (v 54) k0,e 45 55]) (F (v 45) (Q (R [n 56 (bld 56 [.int .i64 0,.int .i64 0,.int .i64 0,.sl 1 [],.sl 2 [],.sl 2 []] []),s 6 56 6,e' 7 (.c (.str [])),e' 8 (k 5)]) .ret) .skip))))))))) (Q (R [b 57 12 6,a 58 10,s 6 57 6,e 7 58,e' 8 (k 0)]) .ret)))))
def yU:Cmd:=Q (R [n 3 (box 3 (v 1)),e' 4 (.c (.own 2 []))]) (Q (D [0,0,3,0,8,31,63] [o 7 2 [],a 8 0,n 9 (app 9 (v 7) (v 8) 2 24),b 10 3 2,o 11 2 [v 10],n 12 (app 12 (v 9) (v 11) 2 24),e 5 12]) (Q (R [a 13 5,l 14 13,g 15 .sub (v 14) (k 1),e 6 15]) (Q (.blk 0 (.loop (Q (Q (D [0,1,3,7,7,23,63,127,255,7,519,2047,4095] [a 16 6,g 17 .gtr (v 16) (k 0),a 18 17,ha 18 true 19 5,ha 18 true 20 6,h 18 true 21 (bin 21 .sub (v 20) (k 1)),h 18 true 22 (idx 22 (v 19) (v 21) 2),h 18 true 23 (fld 23 (v 22) 0),h 18 true 24 (ld 24 (v 23) 1 false),h 18 true 25 (fld 25 (v 3) 0),h 18 true 26 (ld 26 (v 25) 1 false),h 18 true 27 (bin 27 .gtr (v 24) (v 26)),p 28 18 (v 27) k0]) (F (v 28) .skip (.exit 0))) (.blk 1 (Q (R [a 29 5,a 30 6,a 31 5,a 32 6,g 33 .sub (v 32) (k 1),i 34 31 33 2,b 35 34 2,i 36 29 30 2,s 36 35 2]) (R [a 37 6,g 38 .sub (v 37) (k 1),e 6 38])))))) (Q (R [a 39 5,a 40 6,b 41 3 2,i 42 39 40 2,s 42 41 2]) (Q (R [a 43 5,e 4 43]) .ret)))))
def acQ:Cmd:=Q (R [e' 6 k0]) (Q (R [a 7 0,a 8 1,g 9 .geq (v 7) (v 8),a 10 9,ha 10 true 11 0,ha 10 true 12 2,h 10 true 13 (bin 13 .leq (v 11) (v 12)),p 14 10 (v 13) k0,e 6 14]) .ret)
def wA:Cmd:=Q (R [n 2 (box 2 (v 0)),e' 4 (k 0),e' 5 (k 0)]) (Q (R [a 9 1,c 10 91 [v 9],a 8 10,x 11 8 0,x 12 8 1,e 6 11,e 7 12]) (Q (Q (R [a 13 7,n 14 (un 14 .not (v 13))]) (F (v 14) (Q (R [e' 4 (k 0),e' 5 (k 1)]) .ret) .skip)) (Q (R [b 15 2 2,a 16 6,c 17 152 [v 15,v 16],x 18 17 0,x 19 17 1,e 4 18,e 5 19]) .ret)))
def jO:Cmd:=Q (R [e' 4 k0]) (Q (R [a 11 0,c 12 91 [v 11],a 10 12,x 13 10 0,x 14 10 1,e 5 13,e 6 14]) (Q (R [a 16 1,c 17 91 [v 16],a 15 17,x 18 15 0,x 19 15 1,e 7 18,e 8 19]) (Q (Q (R [a 20 6,n 21 (un 21 .not (v 20)),a 22 21,ha 22 false 23 8,h 22 false 24 (un 24 .not (v 23)),p 25 22 k1 (v 24),a 26 25,ha 26 false 27 5,h 26 false 28 (len 28 (v 27)),ha 26 false 29 7,h 26 false 30 (len 30 (v 29)),h 26 false 31 (bin 31 .gtr (v 28) (v 30)),p 32 26 k1 (v 31)]) (F (v 32) (Q (R [e' 4 k0]) .ret) .skip)) (Q (Q (R [e' 9 (k 0)]) (.blk 0 (.loop (Q (Q (R [a 33 9,a 34 5,l 35 34,g 36 .lss (v 33) (v 35)]) (F (v 36) .skip (.exit 0))) (Q (.blk 1 (Q (D [0,0,3,7,0,0,48,112,255] [a 39 5,a 40 9,i 41 39 40 1,b' 42 41 1,a 43 7,a 44 9,i 45 43 44 1,b' 46 45 1,g 47 .neq (v 42) (v 46)]) (F (v 47) (Q (R [e' 4 k0]) .ret) .skip))) (R [a 37 9,g 38 .add (v 37) (k 1),e 9 38])))))) (Q (R [e' 4 k1]) .ret)))))
def iV:Cmd:=Q (R [e' 4 k0]) (Q (Q (R [a 6 0,l 7 6,a 8 1,l 9 8,g 10 .neq (v 7) (v 9)]) (F (v 10) (Q (R [e' 4 k0]) .ret) .skip)) (Q (Q (R [a 11 0,l 12 11,n 13 (mov 13 (k 0))]) (.blk 0 (.loop (Q (R [g 14 .lss (v 13) (v 12)]) (Q (F (v 14) .skip (.exit 0)) (Q (.blk 1 (Q (R [a 15 13,e 5 15]) (Q (D [0,0,3,7,0,0,48,112,255] [a 16 0,a 17 5,i 18 16 17 1,b' 19 18 1,a 20 1,a 21 5,i 22 20 21 1,b' 23 22 1,g 24 .neq (v 19) (v 23)]) (F (v 24) (Q (R [e' 4 k0]) .ret) .skip)))) (R [g 25 .add (v 13) (k 1),a 13 25]))))))) (Q (R [e' 4 k1]) .ret)))
def tS:Cmd:=Q (R [e' 2 k0]) (Q (Q (R [a 5 0,n 6 (lens 6 (v 5)),n 7 (mov 7 (k 0))]) (.blk 0 (.loop (Q (R [g 8 .lss (v 7) (v 6)]) (Q (F (v 8) .skip (.exit 0)) (Q (.blk 1 (Q (R [a 9 7,e 3 9]) (Q (R [a 10 0,a 11 3,n 12 (sidx 12 (v 10) (v 11)),e 4 12]) (Q (R [a 13 4,g 14 .lss (v 13) (.c (.int .u8 97)),a 15 14,ha 15 false 16 4,h 15 false 17 (bin 17 .gtr (v 16) (.c (.int .u8 122))),p 18 15 k1 (v 17),a 19 18,ha 19 true 20 4,h 19 true 21 (bin 21 .lss (v 20) (.c (.int .u8 48))),ha 19 true 22 21,ha 22 false 23 4,h 22 false 24 (bin 24 .gtr (v 23) (.c (.int .u8 57))),h 19 true 25 (pck 25 (v 22) k1 (v 24)),p 26 19 (v 25) k0,a 27 26,ha 27 true 28 4,h 27 true 29 (bin 29 .neq (v 28) (.c (.int .u8 95))),p 30 27 (v 29) k0,a 31 30,ha 31 true 32 4,h 31 true 33 (bin 33 .neq (v 32) (.c (.int .u8 45))),p 34 31 (v 33) k0,a 35 34,ha 35 true 36 4,h 35 true 37 (bin 37 .neq (v 36) (.c (.int .u8 46))),p 38 35 (v 37) k0]) (F (v 38) (Q (R [e' 2 k0]) .ret) .skip))))) (R [g 39 .add (v 7) (k 1),a 7 39]))))))) (Q (R [a 40 0,n 41 (lens 41 (v 40)),g 42 .geq (v 41) (k 1),a 43 42,ha 43 true 44 0,h 43 true 45 (lens 45 (v 44)),h 43 true 46 (bin 46 .leq (v 45) (k 14)),p 47 43 (v 46) k0,a 48 47,ha 48 true 49 0,h 48 true 50 (bin 50 .neq (v 49) (.c (.str [46]))),p 51 48 (v 50) k0,a 52 51,ha 52 true 53 0,h 52 true 54 (bin 54 .neq (v 53) (.c (.str [46,46]))),p 55 52 (v 54) k0,e 2 55]) .ret))
def yV:Cmd:=Q (R [n 1 (box 1 (v 0)),e' 2 k0]) (Q (Q (R [f 5 1 0,b' 6 5 1,l 7 6,c 8 158 [v 7,k 1,k 30],n 9 (un 9 .not (v 8)),a 10 9,h 10 false 11 (fld 11 (v 1) 1),h 10 false 12 (ld 12 (v 11) 1 false),hc 10 false 13 158 [v 12,k 2,k 1000],h 10 false 14 (un 14 .not (v 13)),p 15 10 k1 (v 14)]) (F (v 15) (Q (R [e' 2 k0]) .ret) .skip)) (Q (Q (R [e' 3 (k 0)]) (.blk 0 (.loop (Q (Q (R [a 16 3,f 17 1 0,b' 18 17 1,l 19 18,g 20 .lss (v 16) (v 19)]) (F (v 20) .skip (.exit 0))) (Q (.blk 1 (Q (R [f 23 1 0,b' 24 23 1,a 25 3,i 26 24 25 6,b 27 26 6,z 4 [.int .i64 0,.int .i64 0,.int .i64 0,.sl 1 [],.sl 2 [],.sl 2 []],s 4 27 6]) (Q (D [0,1,3,7,15,31,15,79,255,511,1023,2047,4095,8191,16383,32767,16383,81919,262143,524287,1048575,16383,2113535,8388607,16777215,33554431] [b 28 4 6,c 29 159 [v 28],n 30 (un 30 .not (v 29)),a 31 30,h 31 false 32 (fld 32 (v 4) 0),h 31 false 33 (ld 33 (v 32) 1 false),h 31 false 34 (fld 34 (v 1) 1),h 31 false 35 (ld 35 (v 34) 1 false),h 31 false 36 (bin 36 .geq (v 33) (v 35)),p 37 31 k1 (v 36),a 38 37,ha 38 false 39 3,h 38 false 40 (bin 40 .gtr (v 39) (k 0)),ha 38 false 41 40,h 41 true 42 (fld 42 (v 1) 0),h 41 true 43 (ld 43 (v 42) 1 false),ha 41 true 44 3,h 41 true 45 (bin 45 .sub (v 44) (k 1)),h 41 true 46 (idx 46 (v 43) (v 45) 6),h 41 true 47 (fld 47 (v 46) 0),h 41 true 48 (ld 48 (v 47) 1 false),h 41 true 49 (fld 49 (v 4) 0),h 41 true 50 (ld 50 (v 49) 1 false),h 41 true 51 (bin 51 .geq (v 48) (v 50)),h 38 false 52 (pck 52 (v 41) (v 51) k0),p 53 38 k1 (v 52)]) (F (v 53) (Q (R [e' 2 k0]) .ret) .skip)))) (R [a 21 3,g 22 .add (v 21) (k 1),e 3 22])))))) (Q (R [f 54 1 0,b' 55 54 1,n 56 (idx 56 (v 55) (k 0) 6),f 57 56 0,b' 58 57 1,g 59 .eql (v 58) (k 1),a 60 59,h 60 true 61 (fld 61 (v 1) 0),h 60 true 62 (ld 62 (v 61) 1 false),h 60 true 63 (idx 63 (v 62) (k 0) 6),h 60 true 64 (fld 64 (v 63) 1),h 60 true 65 (ld 65 (v 64) 1 false),h 60 true 66 (bin 66 .eql (v 65) (k 2)),p 67 60 (v 66) k0,e 2 67]) .ret)))
def rF:Cmd:=Q (R [n 2 (box 2 (v 0)),e' 4 (k 0)]) (Q (R [e' 5 (k 0)]) (Q (Q (R [e' 6 (k 0)]) (.blk 0 (.loop (Q (Q (R [a 8 6,f 9 2 0,b' 10 9 1,l 11 10,g 12 .lss (v 8) (v 11)]) (F (v 12) .skip (.exit 0))) (Q (.blk 1 (Q (R [e' 7 (k 0)]) (.blk 2 (.loop (Q (Q (R [a 15 7,f 16 2 0,b' 17 16 1,a 18 6,i 19 17 18 6,f 20 19 4,b' 21 20 1,l 22 21,g 23 .lss (v 15) (v 22),a 24 23,h 24 true 25 (fld 25 (v 2) 0),h 24 true 26 (ld 26 (v 25) 1 false),ha 24 true 27 6,h 24 true 28 (idx 28 (v 26) (v 27) 6),h 24 true 29 (fld 29 (v 28) 1),h 24 true 30 (ld 30 (v 29) 1 false),h 24 true 31 (bin 31 .eql (v 30) (k 2)),p 32 24 (v 31) k0]) (F (v 32) .skip (.exit 2))) (Q (.blk 3 (Q (R [f 35 2 0,b' 36 35 1,a 37 6,i 38 36 37 6,f 39 38 4,b' 40 39 1,a 41 7,i 42 40 41 2,f 43 42 1,b' 44 43 1,a 45 1,g 46 .eql (v 44) (v 45)]) (F (v 46) (R [a 47 5,g 48 .add (v 47) (k 1),e 5 48]) .skip))) (R [a 33 7,g 34 .add (v 33) (k 1),e 7 34]))))))) (R [a 13 6,g 14 .add (v 13) (k 1),e 6 14])))))) (Q (R [a 49 5,e 4 49]) .ret)))
def acR:Cmd:=Q (R [n 2 (box 2 (v 0)),e' 4 (k 0)]) (Q (Q (R [e' 5 (k 0)]) (.blk 0 (.loop (Q (Q (R [a 6 5,f 7 2 0,b' 8 7 1,l 9 8,g 10 .lss (v 6) (v 9)]) (F (v 10) .skip (.exit 0))) (Q (.blk 1 (Q (R [f 13 2 0,b' 14 13 1,a 15 5,i 16 14 15 6,f 17 16 0,b' 18 17 1,a 19 1,g 20 .eql (v 18) (v 19)]) (F (v 20) (Q (R [a 21 5,e 4 21]) .ret) .skip))) (R [a 11 5,g 12 .add (v 11) (k 1),e 5 12])))))) (Q (R [e' 4 (k (-1))]) .ret))
def fH:Cmd:=Q (R [e' 4 k0]) (Q (R [a 5 0,a 6 1,c 7 160 [v 5,v 6],g 8 .geq (v 7) (k 0),e 4 8]) .ret)
def tT:Cmd:=Q (R [n 2 (box 2 (v 0)),e' 4 (.c (.own 1 []))]) (Q (R [a 10 1,e 5 10]) (Q (Q (R [e' 6 (k 0)]) (.blk 0 (.loop (Q (Q (R [a 11 6,a 12 1,l 13 12,g 14 .lss (v 11) (v 13)]) (F (v 14) .skip (.exit 0))) (Q (.blk 1 (Q (D [0,0,0,6,14,31,63,127,255,0,767,2047] [b 18 2 2,a 19 1,a 20 6,i 21 19 20 1,b' 22 21 1,c 23 148 [v 18,v 22],a 17 23,x 24 17 0,x 25 17 1,z 7 [.int .i64 0,.int .i64 0,.int .i64 0,.sl 1 [],.sl 2 [],.sl 2 []],s 7 24 6,e 8 25]) (Q (R [e' 9 (k 0)]) (.blk 2 (.loop (Q (Q (R [a 26 9,f 27 7 4,b' 28 27 1,l 29 28,g 30 .lss (v 26) (v 29),a 31 30,ha 31 true 32 8,p 33 31 (v 32) k0,a 34 33,h 34 true 35 (fld 35 (v 7) 1),h 34 true 36 (ld 36 (v 35) 1 false),h 34 true 37 (bin 37 .eql (v 36) (k 2)),p 38 34 (v 37) k0]) (F (v 38) .skip (.exit 2))) (Q (.blk 3 (Q (D [0,0,2,0,14,30,62,127,255] [b 41 2 2,f 42 7 4,b' 43 42 1,a 44 9,i 45 43 44 2,f 46 45 1,b' 47 46 1,c 48 109 [v 41,v 47],g 49 .geq (v 48) (k 0)]) (F (v 49) (R [a 50 5,f 51 7 4,b' 52 51 1,a 53 9,i 54 52 53 2,f 55 54 1,b' 56 55 1,c 57 162 [v 50,v 56],e 5 57]) .skip))) (R [a 39 9,g 40 .add (v 39) (k 1),e 9 40])))))))) (R [a 15 6,g 16 .add (v 15) (k 1),e 6 16])))))) (Q (R [a 58 5,e 4 58]) .ret)))
def oP:Cmd:=Q (R [e' 4 (k 0)]) (Q (R [a 6 1,a 7 0,l 8 7,g 9 .sub (v 6) (v 8),e 1 9]) (Q (Q (R [a 10 1,g 11 .lss (v 10) (k 0)]) (F (v 11) (Q (R [e' 4 (k (-1))]) .ret) .skip)) (Q (Q (R [e' 5 (k 0)]) (.blk 0 (.loop (Q (Q (R [a 12 5,a 13 0,l 14 13,g 15 .lss (v 12) (v 14)]) (F (v 15) .skip (.exit 0))) (Q (.blk 1 (Q (R [a 18 0,a 19 5,i 20 18 19 6,b 21 20 6,a 22 1,c 23 163 [v 21,v 22],e 1 23]) (Q (R [a 24 1,g 25 .lss (v 24) (k 0)]) (F (v 25) (Q (R [e' 4 (k (-1))]) .ret) .skip)))) (R [a 16 5,g 17 .add (v 16) (k 1),e 5 17])))))) (Q (R [a 26 1,e 4 26]) .ret))))
def oQ:Cmd:=Q (R [e' 2 (.c (.own 6 []))]) (Q (R [a 5 0,l 6 5,n 7 (mks 7 (v 6) (v 6) 6 96 [.int .i64 0,.int .i64 0,.int .i64 0,.sl 1 [],.sl 2 [],.sl 2 []]),e 3 7]) (Q (Q (R [e' 4 (k 0)]) (.blk 0 (.loop (Q (Q (R [a 8 4,a 9 0,l 10 9,g 11 .lss (v 8) (v 10)]) (F (v 11) .skip (.exit 0))) (Q (.blk 1 (R [a 14 3,a 15 4,a 16 0,a 17 4,i 18 16 17 6,b 19 18 6,c 20 164 [v 19],i 21 14 15 6,s 21 20 6])) (R [a 12 4,g 13 .add (v 12) (k 1),e 4 13])))))) (Q (R [a 22 3,e 2 22]) .ret)))
def oR:Cmd:=Q (R [e' 4 k0]) (Q (Q (R [a 6 0,l 7 6,a 8 1,l 9 8,g 10 .neq (v 7) (v 9)]) (F (v 10) (Q (R [e' 4 k0]) .ret) .skip)) (Q (Q (R [e' 5 (k 0)]) (.blk 0 (.loop (Q (Q (R [a 11 5,a 12 0,l 13 12,g 14 .lss (v 11) (v 13)]) (F (v 14) .skip (.exit 0))) (Q (.blk 1 (Q (D [0,0,3,7,0,0,48,112,255,511] [a 17 0,a 18 5,i 19 17 18 6,b 20 19 6,a 21 1,a 22 5,i 23 21 22 6,b 24 23 6,c 25 165 [v 20,v 24],n 26 (un 26 .not (v 25))]) (F (v 26) (Q (R [e' 4 k0]) .ret) .skip))) (R [a 15 5,g 16 .add (v 15) (k 1),e 5 16])))))) (Q (R [e' 4 k1]) .ret)))
def lC:Cmd:=Q (R [e' 4 (k 0)]) (Q (Q (R [e' 5 (k 0)]) (.blk 0 (.loop (Q (Q (R [a 6 5,a 7 0,l 8 7,g 9 .lss (v 6) (v 8)]) (F (v 9) .skip (.exit 0))) (Q (.blk 1 (Q (R [a 12 0,a 13 5,a 14 1,i 15 12 13 6,f 16 15 0,s 16 14 1]) (Q (R [a 17 1,g 18 .add (v 17) (k 1),e 1 18]) (Q (R [a 19 0,a 20 5,a 21 1,i 22 19 20 6,f 23 22 1,s 23 21 1]) (Q (R [a 24 1,g 25 .add (v 24) (k 1),e 1 25]) (Q (R [a 26 0,a 27 5,a 28 1,i 29 26 27 6,f 30 29 2,s 30 28 1]) (Q (R [a 31 1,g 32 .add (v 31) (k 1),e 1 32]) (Q (R [a 33 0,a 34 5,i 35 33 34 6,f 36 35 3,b' 37 36 1,a 38 1,c 39 166 [v 37,v 38],e 1 39]) (Q (R [a 40 0,a 41 5,i 42 40 41 6,f 43 42 4,b' 44 43 1,a 45 1,c 46 167 [v 44,v 45],e 1 46]) (R [a 47 0,a 48 5,i 49 47 48 6,f 50 49 5,b' 51 50 1,a 52 1,c 53 168 [v 51,v 52],e 1 53])))))))))) (R [a 10 5,g 11 .add (v 10) (k 1),e 5 11])))))) (Q (R [a 54 1,e 4 54]) .ret))
def lD:Cmd:=Q (R [e' 4 (k 0)]) (Q (Q (R [e' 5 (k 0)]) (.blk 0 (.loop (Q (Q (R [a 6 5,a 7 0,l 8 7,g 9 .lss (v 6) (v 8)]) (F (v 9) .skip (.exit 0))) (Q (.blk 1 (Q (Q (R [a 12 0,a 13 5,i 14 12 13 6,f 15 14 0,b' 16 15 1,a 17 1,g 18 .neq (v 16) (v 17)]) (F (v 18) (Q (R [e' 4 (k (-1))]) .ret) .skip)) (Q (R [a 19 1,g 20 .add (v 19) (k 1),e 1 20]) (Q (Q (R [a 21 0,a 22 5,i 23 21 22 6,f 24 23 1,b' 25 24 1,a 26 1,g 27 .neq (v 25) (v 26)]) (F (v 27) (Q (R [e' 4 (k (-1))]) .ret) .skip)) (Q (R [a 28 1,g 29 .add (v 28) (k 1),e 1 29]) (Q (Q (R [a 30 0,a 31 5,i 32 30 31 6,f 33 32 2,b' 34 33 1,a 35 1,g 36 .neq (v 34) (v 35)]) (F (v 36) (Q (R [e' 4 (k (-1))]) .ret) .skip)) (Q (R [a 37 1,g 38 .add (v 37) (k 1),e 1 38]) (Q (R [a 39 0,a 40 5,i 41 39 40 6,f 42 41 3,b' 43 42 1,a 44 1,c 45 169 [v 43,v 44],e 1 45]) (Q (Q (R [a 46 1,g 47 .lss (v 46) (k 0)]) (F (v 47) (Q (R [e' 4 (k (-1))]) .ret) .skip)) (Q (R [a 48 0,a 49 5,i 50 48 49 6,f 51 50 4,b' 52 51 1,a 53 1,c 54 170 [v 52,v 53],e 1 54]) (Q (Q (R [a 55 1,g 56 .lss (v 55) (k 0)]) (F (v 56) (Q (R [e' 4 (k (-1))]) .ret) .skip)) (Q (R [a 57 0,a 58 5,i 59 57 58 6,f 60 59 5,b' 61 60 1,a 62 1,c 63 171 [v 61,v 62],e 1 63]) (Q (R [a 64 1,g 65 .lss (v 64) (k 0)]) (F (v 65) (Q (R [e' 4 (k (-1))]) .ret) .skip)))))))))))))) (R [a 10 5,g 11 .add (v 10) (k 1),e 5 11])))))) (Q (R [a 66 1,e 4 66]) .ret))
def l9:Cmd:=Q (R [n 1 (box 1 (v 0)),z 2 [.int .i64 0,.int .i64 0,.int .i64 0,.sl 1 [],.sl 2 [],.sl 2 []]]) (Q (R [f 3 1 3,b' 4 3 1,c 5 84 [v 4],f 6 1 3,s 6 5 1]) (Q (R [f 7 1 4,b' 8 7 1,c 9 125 [v 8],f 10 1 4,s 10 9 1]) (Q (R [f 11 1 5,b' 12 11 1,c 13 178 [v 12],f 14 1 5,s 14 13 1]) (Q (R [b 15 1 6,s 2 15 6]) .ret))))
def gH:Cmd:=Q (R [e' 2 (.c (.str [])),e' 3 (.c (.str [])),e' 4 k0]) (Q (R [a 9 0,c 10 81 [v 9],a 8 10,x 11 8 0,x 12 8 1,e 5 11,e 6 12]) (Q (Q (R [a 13 6,n 14 (un 14 .not (v 13)),a 15 14,ha 15 false 16 5,h 15 false 17 (len 17 (v 16)),h 15 false 18 (bin 18 .eql (v 17) (k 0)),p 19 15 k1 (v 18)]) (F (v 19) (Q (R [e' 2 (.c (.str [])),e' 3 (.c (.str [])),e' 4 k0]) .ret) .skip)) (Q (R [a 20 5,l 21 20,g 22 .sub (v 21) (k 1),e 7 22]) (Q (D [0,0,3,7,0,0,48,112,15,511,1023] [a 23 5,a 24 7,n 25 (slc 25 (v 23) none (some (v 24)) 1),c 26 179 [v 25],a 27 5,a 28 7,i 29 27 28 1,b' 30 29 1,e 2 26,e 3 30,e' 4 k1]) .ret))))
def d7:Cmd:=Q (R [e' 4 (.c (.own 2 []))]) (Q (R [a 8 0,a 9 1,c 10 132 [v 8,v 9],e 5 10]) (Q (Q (R [a 11 5,g 12 .eql (v 11) (k (-1))]) (F (v 12) (Q (R [a 13 0,e 4 13]) .ret) .skip)) (Q (Q (R [a 14 5,g 15 .add (v 14) (k 1),e 6 15]) (.blk 0 (.loop (Q (Q (R [a 16 6,a 17 0,l 18 17,g 19 .lss (v 16) (v 18)]) (F (v 19) .skip (.exit 0))) (Q (.blk 1 (Q (R [a 22 0,a 23 6,i 24 22 23 2,b 25 24 2,z 7 [.str [],.int .i64 0],s 7 25 2]) (Q (R [a 26 1,b 27 7 2,n 28 (callv (some 28) (v 26) [v 27]),n 29 (un 29 .not (v 28))]) (F (v 29) (Q (R [a 30 0,a 31 5,b 32 7 2,i 33 30 31 2,s 33 32 2]) (R [a 34 5,g 35 .add (v 34) (k 1),e 5 35])) .skip)))) (R [a 20 6,g 21 .add (v 20) (k 1),e 6 21])))))) (Q (R [a 36 0,a 37 5,n 38 (slc 38 (v 36) (some (v 37)) none 2),m (.clr (v 38) 2 [.str [],.int .i64 0])]) (Q (R [a 39 0,a 40 5,n 41 (slc 41 (v 39) none (some (v 40)) 2),e 4 41]) .ret)))))
def iN:Cmd:=Q (R [e' 2 (.c (.own 2 []))]) (Q (Q (R [a 3 0,n 4 (isn 4 false (v 3) (.c (.own 2 [])))]) (F (v 4) (Q (R [e' 2 (.c (.own 2 []))]) .ret) .skip)) (Q (R [o 5 2 [],a 6 0,n 7 (app 7 (v 5) (v 6) 2 24),e 2 7]) .ret))
def iW:Cmd:=Q (R [n 2 (box 2 (v 0)),e' 3 k0]) (Q (R [f 4 2 0,b' 5 4 1,f 6 1 6,b' 7 6 1,g 8 .eql (v 5) (v 7),e 3 8]) .ret)
def f7:Cmd:=Q (R [e' 4 (k 0)]) (Q (Q (R [a 6 0,l 7 6,n 8 (mov 8 (k 0))]) (.blk 0 (.loop (Q (R [g 9 .lss (v 8) (v 7)]) (Q (F (v 9) .skip (.exit 0)) (Q (.blk 1 (Q (R [a 10 8,e 5 10]) (Q (R [a 11 1,a 12 0,a 13 5,i 14 12 13 6,b 15 14 6,n 16 (callv (some 16) (v 11) [v 15])]) (F (v 16) (Q (R [a 17 5,e 4 17]) .ret) .skip)))) (R [g 18 .add (v 8) (k 1),a 8 18]))))))) (Q (R [e' 4 (k (-1))]) .ret))
def hM:Cmd:=Q (R [e' 4 (k 0)]) (Q (Q (R [a 6 0,l 7 6,n 8 (mov 8 (k 0))]) (.blk 0 (.loop (Q (R [g 9 .lss (v 8) (v 7)]) (Q (F (v 9) .skip (.exit 0)) (Q (.blk 1 (Q (R [a 10 8,e 5 10]) (Q (R [a 11 1,a 12 0,a 13 5,i 14 12 13 2,b 15 14 2,n 16 (callv (some 16) (v 11) [v 15])]) (F (v 16) (Q (R [a 17 5,e 4 17]) .ret) .skip)))) (R [g 18 .add (v 8) (k 1),a 8 18]))))))) (Q (R [e' 4 (k (-1))]) .ret))
def iX:Cmd:=Q (R [n 2 (box 2 (v 0)),e' 3 k0]) (Q (R [f 4 2 0,b' 5 4 1,f 6 1 6,b' 7 6 1,g 8 .gtr (v 5) (v 7),e 3 8]) .ret)
def jP:Cmd:=Q (R [e' 2 (.c (.str []))]) (Q (Q (R [a 5 0,l 6 5,g 7 .eql (v 6) (k 0)]) (F (v 7) (Q (R [e' 2 (.c (.str [47]))]) .ret) .skip)) (Q (R [e' 3 (.c (.str []))]) (Q (Q (R [e' 4 (k 0)]) (.blk 0 (.loop (Q (Q (R [a 8 4,a 9 0,l 10 9,g 11 .lss (v 8) (v 10)]) (F (v 11) .skip (.exit 0))) (Q (.blk 1 (Q (Q (R [a 14 0,a 15 4,i 16 14 15 1,b' 17 16 1,c 18 150 [v 17],n 19 (un 19 .not (v 18)),a 20 19,ha 20 false 21 0,h 20 false 22 (len 22 (v 21)),h 20 false 23 (bin 23 .gtr (v 22) (k 30)),p 24 20 k1 (v 23)]) (F (v 24) (Q (R [e' 2 (.c (.str []))]) .ret) .skip)) (R [a 25 3,g 26 .add (v 25) (.c (.str [47])),a 27 0,a 28 4,i 29 27 28 1,b' 30 29 1,g 31 .add (v 26) (v 30),e 3 31]))) (R [a 12 4,g 13 .add (v 12) (k 1),e 4 13])))))) (Q (R [a 32 3,e 2 32]) .ret))))
def tU:Cmd:=Q (R [n 1 (box 1 (v 0)),z 2 [.int .i64 0,.int .i64 0,.int .i64 0,.sl 1 [],.sl 2 [],.sl 2 []]]) (Q (R [b 4 1 6,z 3 [.int .i64 0,.int .i64 0,.int .i64 0,.sl 1 [],.sl 2 [],.sl 2 []],s 3 4 6]) (Q (R [o 5 1 [],f 6 1 3,b' 7 6 1,n 8 (app 8 (v 5) (v 7) 1 1),f 9 3 3,s 9 8 1]) (Q (R [o 10 2 [],f 11 1 4,b' 12 11 1,n 13 (app 13 (v 10) (v 12) 2 24),f 14 3 4,s 14 13 1]) (Q (R [o 15 2 [],f 16 1 5,b' 17 16 1,n 18 (app 18 (v 15) (v 17) 2 32),f 19 3 5,s 19 18 1]) (Q (R [b 20 3 6,s 2 20 6]) .ret)))))
def yW:Cmd:=Q (R [e' 4 (.c (.own 2 []))]) (Q (R [o 7 2 [],e 5 7]) (Q (Q (R [e' 6 (k 0)]) (.blk 0 (.loop (Q (Q (R [a 8 6,a 9 0,l 10 9,g 11 .lss (v 8) (v 10)]) (F (v 11) .skip (.exit 0))) (Q (.blk 1 (Q (R [a 14 0,a 15 6,i 16 14 15 2,f 17 16 0,b' 18 17 1,a 19 1,g 20 .neq (v 18) (v 19)]) (F (v 20) (R [a 21 5,a 22 0,a 23 6,i 24 22 23 2,b 25 24 2,o 26 2 [v 25],n 27 (app 27 (v 21) (v 26) 2 24),e 5 27]) .skip))) (R [a 12 6,g 13 .add (v 12) (k 1),e 6 13])))))) (Q (R [a 28 5,e 4 28]) .ret)))
def yX:Cmd:=Q (R [e' 4 (.c (.own 1 []))]) (Q (R [a 5 0,a 6 1,c 7 184 [v 5,v 6,k 0,k (-1)],e 4 7]) .ret)
def rG:Cmd:=Q (R [e' 2 k0]) (Q (R [a 3 0,l 4 3,g 5 .leq (v 4) (k 30),a 6 5,ha 6 true 7 0,hc 6 true 8 185 [v 7,.c (.fn 186 [])],h 6 true 9 (un 9 .not (v 8)),p 10 6 (v 9) k0,e 2 10]) .ret)
def rH:Cmd:=Q (R [n 1 (box 1 (v 0)),e' 2 k0]) (Q (Q (R [f 5 1 0,b' 6 5 1,c 7 94 [v 6,k 1,k 1000],n 8 (un 8 .not (v 7)),a 9 8,h 9 false 10 (fld 10 (v 1) 3),h 9 false 11 (ld 11 (v 10) 1 false),h 9 false 12 (len 12 (v 11)),h 9 false 13 (bin 13 .gtr (v 12) (k 100)),p 14 9 k1 (v 13),a 15 14,h 15 false 16 (fld 16 (v 1) 4),h 15 false 17 (ld 17 (v 16) 1 false),h 15 false 18 (len 18 (v 17)),h 15 false 19 (bin 19 .gtr (v 18) (k 10)),p 20 15 k1 (v 19),a 21 20,h 21 false 22 (fld 22 (v 1) 5),h 21 false 23 (ld 23 (v 22) 1 false),hc 21 false 24 198 [v 23],h 21 false 25 (un 25 .not (v 24)),p 26 21 k1 (v 25)]) (F (v 26) (Q (R [e' 2 k0]) .ret) .skip)) (Q (Q (R [f 27 1 4,b' 28 27 1,l 29 28,n 30 (mov 30 (k 0))]) (.blk 0 (.loop (Q (R [g 31 .lss (v 30) (v 29)]) (Q (F (v 31) .skip (.exit 0)) (Q (.blk 1 (Q (R [a 32 30,i 33 28 30 2,b 34 33 2,z 4 [.str [],.int .i64 0],e 3 32,s 4 34 2]) (Q (D [0,1,3,7,15,31,63,127,255,511,1023,2047,4095,8191,16383,32767,16383,81919,262143,524287,1048575,16383,2113535,8388607,16777215,33554431] [f 35 4 0,b' 36 35 1,c 37 102 [v 36],n 38 (un 38 .not (v 37)),a 39 38,h 39 false 40 (fld 40 (v 4) 1),h 39 false 41 (ld 41 (v 40) 1 false),hc 39 false 42 94 [v 41,k 2,k 1000],h 39 false 43 (un 43 .not (v 42)),p 44 39 k1 (v 43),a 45 44,ha 45 false 46 3,h 45 false 47 (bin 47 .gtr (v 46) (k 0)),ha 45 false 48 47,h 48 true 49 (fld 49 (v 1) 4),h 48 true 50 (ld 50 (v 49) 1 false),ha 48 true 51 3,h 48 true 52 (bin 52 .sub (v 51) (k 1)),h 48 true 53 (idx 53 (v 50) (v 52) 2),h 48 true 54 (fld 54 (v 53) 0),h 48 true 55 (ld 55 (v 54) 1 false),h 48 true 56 (fld 56 (v 4) 0),h 48 true 57 (ld 57 (v 56) 1 false),h 48 true 58 (bin 58 .geq (v 55) (v 57)),h 45 false 59 (pck 59 (v 48) (v 58) k0),p 60 45 k1 (v 59)]) (F (v 60) (Q (R [e' 2 k0]) .ret) .skip)))) (R [g 61 .add (v 30) (k 1),a 30 61]))))))) (Q (Q (R [f 62 1 2,b' 63 62 1,c 64 94 [v 63,k 0,k 1000],n 65 (un 65 .not (v 64)),a 66 65,h 66 false 67 (fld 67 (v 1) 2),h 66 false 68 (ld 68 (v 67) 1 false),h 66 false 69 (bin 69 .eql (v 68) (k 0)),h 66 false 70 (fld 70 (v 1) 0),h 66 false 71 (ld 71 (v 70) 1 false),h 66 false 72 (bin 72 .eql (v 71) (k 1)),h 66 false 73 (beq 73 true (v 69) (v 72)),p 74 66 k1 (v 73)]) (F (v 74) (Q (R [e' 2 k0]) .ret) .skip)) (Q (Q (R [f 75 1 1,b' 76 75 1]) (.blk 2 (Q (R [g 78 .eql (v 76) (k 1),e 77 78]) (F (v 77) (Q (R [f 79 1 4,b' 80 79 1,l 81 80,g 82 .eql (v 81) (k 0),e 2 82]) .ret) (Q (R [g 84 .eql (v 76) (k 2),e 83 84]) (F (v 83) (Q (R [f 85 1 3,b' 86 85 1,l 87 86,g 88 .eql (v 87) (k 0),a 89 88,h 89 true 90 (fld 90 (v 1) 2),h 89 true 91 (ld 91 (v 90) 1 false),h 89 true 92 (bin 92 .leq (v 91) (k 1)),p 93 89 (v 92) k0,e 2 93]) .ret) .skip)))))) (Q (R [e' 2 k0]) .ret)))))
def mA:Cmd:=Q (R [n 2 (box 2 (v 0)),e' 3 k0]) (Q (R [f 4 2 0,b' 5 4 1,b' 6 1 1,g 7 .eql (v 5) (v 6),e 3 7]) .ret)
def lR:Cmd:=Q (R [n 2 (box 2 (v 0)),z 4 [.int .i64 0,.int .i64 0,.int .i64 0,.sl 1 [],.sl 2 [],.sl 2 []],e' 5 k0]) (Q (R [b 7 2 2,a 8 1,c 9 109 [v 7,v 8],e 6 9]) (Q (Q (R [a 10 6,g 11 .lss (v 10) (k 0)]) (F (v 11) (Q (R [n 12 (bld 12 [.int .i64 0,.int .i64 0,.int .i64 0,.sl 1 [],.sl 2 [],.sl 2 []] []),s 4 12 6,e' 5 k0]) .ret) .skip)) (Q (R [f 13 2 0,b' 14 13 1,a 15 6,i 16 14 15 6,b 17 16 6,c 18 140 [v 17],s 4 18 6,e' 5 k1]) .ret)))
def tV:Cmd:=Q (R [e' 2 k0]) (Q (Q (R [e' 3 (k 0)]) (.blk 0 (.loop (Q (Q (R [a 5 3,a 6 0,n 7 (lens 7 (v 6)),g 8 .lss (v 5) (v 7)]) (F (v 8) .skip (.exit 0))) (Q (.blk 1 (Q (R [a 11 0,a 12 3,n 13 (sidx 13 (v 11) (v 12)),n 14 (conv 14 .i64 (v 13)),e 4 14]) (Q (R [a 15 4,c 16 158 [v 15,k 97,k 122],n 17 (un 17 .not (v 16)),a 18 17,ha 18 true 19 4,hc 18 true 20 158 [v 19,k 48,k 57],h 18 true 21 (un 21 .not (v 20)),p 22 18 (v 21) k0,a 23 22,ha 23 true 24 4,h 23 true 25 (bin 25 .neq (v 24) (k 95)),p 26 23 (v 25) k0,a 27 26,ha 27 true 28 4,h 27 true 29 (bin 29 .neq (v 28) (k 45)),p 30 27 (v 29) k0,a 31 30,ha 31 true 32 4,h 31 true 33 (bin 33 .neq (v 32) (k 46)),p 34 31 (v 33) k0]) (F (v 34) (Q (R [e' 2 k0]) .ret) .skip)))) (R [a 9 3,g 10 .add (v 9) (k 1),e 3 10])))))) (Q (R [a 35 0,n 36 (lens 36 (v 35)),c 37 158 [v 36,k 1,k 14],a 38 37,ha 38 true 39 0,h 38 true 40 (bin 40 .neq (v 39) (.c (.str [46]))),p 41 38 (v 40) k0,a 42 41,ha 42 true 43 0,h 42 true 44 (bin 44 .neq (v 43) (.c (.str [46,46]))),p 45 42 (v 44) k0,e 2 45]) .ret))
def yY:Cmd:=Q (R [n 2 (box 2 (v 0)),e' 4 (k 0)]) (Q (Q (R [e' 5 (k 0)]) (.blk 0 (.loop (Q (Q (R [a 6 5,f 7 2 4,b' 8 7 1,l 9 8,g 10 .lss (v 6) (v 9)]) (F (v 10) .skip (.exit 0))) (Q (.blk 1 (Q (R [f 13 2 4,b' 14 13 1,a 15 5,i 16 14 15 2,f 17 16 0,b' 18 17 1,a 19 1,g 20 .eql (v 18) (v 19)]) (F (v 20) (Q (R [f 21 2 4,b' 22 21 1,a 23 5,i 24 22 23 2,f 25 24 1,b' 26 25 1,e 4 26]) .ret) .skip))) (R [a 11 5,g 12 .add (v 11) (k 1),e 5 12])))))) (Q (R [e' 4 (k 0)]) .ret))
def tW:Cmd:=Q (R [n 2 (box 2 (v 0)),e' 4 (k 0),e' 5 (k 0)]) (Q (R [e' 6 (k 1)]) (Q (Q (R [e' 7 (k 0)]) (.blk 0 (.loop (Q (Q (R [a 9 7,a 10 1,l 11 10,g 12 .lss (v 9) (v 11)]) (F (v 12) .skip (.exit 0))) (Q (.blk 1 (Q (R [b 15 2 2,a 16 6,c 17 109 [v 15,v 16],e 8 17]) (Q (Q (R [a 18 8,g 19 .lss (v 18) (k 0)]) (F (v 19) (Q (R [e' 4 (k 0),e' 5 (k 2)]) .ret) .skip)) (Q (Q (R [f 20 2 0,b' 21 20 1,a 22 8,i 23 21 22 6,f 24 23 1,b' 25 24 1,g 26 .neq (v 25) (k 2)]) (F (v 26) (Q (R [e' 4 (k 0),e' 5 (k 3)]) .ret) .skip)) (Q (D [0,1,0,7,15,0,0,96,224,511,1023] [f 27 2 0,b' 28 27 1,a 29 8,i 30 28 29 6,b 31 30 6,a 32 1,a 33 7,i 34 32 33 1,b' 35 34 1,c 36 151 [v 31,v 35],e 6 36]) (Q (R [a 37 6,g 38 .eql (v 37) (k 0)]) (F (v 38) (Q (R [e' 4 (k 0),e' 5 (k 2)]) .ret) .skip))))))) (R [a 13 7,g 14 .add (v 13) (k 1),e 7 14])))))) (Q (R [a 39 6,e 4 39,e' 5 (k 0)]) .ret)))
def acS:Cmd:=Q (R [e' 6 k0]) (Q (R [a 7 0,a 8 1,g 9 .geq (v 7) (v 8),a 10 9,ha 10 true 11 0,ha 10 true 12 2,h 10 true 13 (bin 13 .leq (v 11) (v 12)),p 14 10 (v 13) k0,e 6 14]) .ret)
def rI:Cmd:=Q (R [n 1 (box 1 (v 0)),e' 2 k0]) (Q (Q (R [f 3 1 0,b' 4 3 1,c 5 158 [v 4,k 1,k 1000],n 6 (un 6 .not (v 5)),a 7 6,h 7 false 8 (fld 8 (v 1) 2),h 7 false 9 (ld 9 (v 8) 1 false),hc 7 false 10 158 [v 9,k 0,k 1000],h 7 false 11 (un 11 .not (v 10)),p 12 7 k1 (v 11),a 13 12,h 13 false 14 (fld 14 (v 1) 2),h 13 false 15 (ld 15 (v 14) 1 false),h 13 false 16 (bin 16 .eql (v 15) (k 0)),h 13 false 17 (fld 17 (v 1) 0),h 13 false 18 (ld 18 (v 17) 1 false),h 13 false 19 (bin 19 .eql (v 18) (k 1)),h 13 false 20 (beq 20 true (v 16) (v 19)),p 21 13 k1 (v 20),a 22 21,h 22 false 23 (fld 23 (v 1) 3),h 22 false 24 (ld 24 (v 23) 1 false),h 22 false 25 (len 25 (v 24)),h 22 false 26 (bin 26 .gtr (v 25) (k 100)),p 27 22 k1 (v 26),a 28 27,h 28 false 29 (fld 29 (v 1) 4),h 28 false 30 (ld 30 (v 29) 1 false),hc 28 false 31 201 [v 30],h 28 false 32 (un 32 .not (v 31)),p 33 28 k1 (v 32),a 34 33,h 34 false 35 (fld 35 (v 1) 5),h 34 false 36 (ld 36 (v 35) 1 false),hc 34 false 37 202 [v 36],h 34 false 38 (un 38 .not (v 37)),p 39 34 k1 (v 38)]) (F (v 39) (Q (R [e' 2 k0]) .ret) .skip)) (Q (Q (R [f 40 1 1,b' 41 40 1]) (.blk 0 (Q (R [g 43 .eql (v 41) (k 1),e 42 43]) (F (v 42) (Q (R [f 44 1 4,b' 45 44 1,l 46 45,g 47 .eql (v 46) (k 0),e 2 47]) .ret) (Q (R [g 49 .eql (v 41) (k 2),e 48 49]) (F (v 48) (Q (R [f 50 1 3,b' 51 50 1,l 52 51,g 53 .eql (v 52) (k 0),a 54 53,h 54 true 55 (fld 55 (v 1) 2),h 54 true 56 (ld 56 (v 55) 1 false),h 54 true 57 (bin 57 .leq (v 56) (k 1)),p 58 54 (v 57) k0,e 2 58]) .ret) .skip)))))) (Q (R [e' 2 k0]) .ret)))
def mB:Cmd:=Q (R [e' 4 (k 0)]) (Q (Q (R [a 6 0,l 7 6,n 8 (mov 8 (k 0))]) (.blk 0 (.loop (Q (R [g 9 .lss (v 8) (v 7)]) (Q (F (v 9) .skip (.exit 0)) (Q (.blk 1 (Q (R [a 10 8,e 5 10]) (Q (R [a 11 1,a 12 0,a 13 5,i 14 12 13 1,b' 15 14 1,g 16 .eql (v 11) (v 15)]) (F (v 16) (Q (R [a 17 5,e 4 17]) .ret) .skip)))) (R [g 18 .add (v 8) (k 1),a 8 18]))))))) (Q (R [e' 4 (k (-1))]) .ret))
def rJ:Cmd:=Q (R [e' 4 (.c (.own 1 []))]) (Q (Q (R [a 7 0,a 8 1,c 9 212 [v 7,v 8]]) (F (v 9) (Q (R [a 10 0,e 4 10]) .ret) .skip)) (Q (R [o 11 1 [],a 12 0,n 13 (app 13 (v 11) (v 12) 1 8),a 14 1,o 15 1 [v 14],n 16 (app 16 (v 13) (v 15) 1 8),e 5 16]) (Q (R [a 17 5,l 18 17,g 19 .sub (v 18) (k 1),e 6 19]) (Q (.blk 0 (.loop (Q (Q (R [a 20 6,g 21 .gtr (v 20) (k 0),a 22 21,ha 22 true 23 5,ha 22 true 24 6,h 22 true 25 (bin 25 .sub (v 24) (k 1)),h 22 true 26 (idx 26 (v 23) (v 25) 1),h 22 true 27 (ld 27 (v 26) 1 false),ha 22 true 28 1,h 22 true 29 (bin 29 .gtr (v 27) (v 28)),p 30 22 (v 29) k0]) (F (v 30) .skip (.exit 0))) (.blk 1 (Q (R [a 31 5,a 32 6,a 33 5,a 34 6,g 35 .sub (v 34) (k 1),i 36 33 35 1,b' 37 36 1,i 38 31 32 1,s 38 37 1]) (R [a 39 6,g 40 .sub (v 39) (k 1),e 6 40])))))) (Q (R [a 41 5,a 42 6,a 43 1,i 44 41 42 1,s 44 43 1]) (Q (R [a 45 5,e 4 45]) .ret))))))
def rK:Cmd:=Q (R [n 2 (box 2 (v 0)),e' 4 (k 0)]) (Q (R [f 5 2 3,b' 6 5 1,a 7 1,c 8 213 [v 6,v 7],e 1 8]) (Q (Q (R [a 9 1,g 10 .lss (v 9) (k 0)]) (F (v 10) (Q (R [e' 4 (k (-1))]) .ret) .skip)) (Q (R [f 11 2 4,b' 12 11 1,a 13 1,c 14 214 [v 12,v 13],e 1 14]) (Q (Q (R [a 15 1,g 16 .lss (v 15) (k 0)]) (F (v 16) (Q (R [e' 4 (k (-1))]) .ret) .skip)) (Q (R [f 17 2 5,b' 18 17 1,a 19 1,c 20 215 [v 18,v 19],e 1 20]) (Q (Q (R [a 21 1,g 22 .lss (v 21) (k 0)]) (F (v 22) (Q (R [e' 4 (k (-1))]) .ret) .skip)) (Q (R [a 23 1,e 4 23]) .ret)))))))
def rL:Cmd:=Q (R [n 1 (box 1 (v 0)),z 2 [.int .i64 0,.int .i64 0,.int .i64 0,.sl 1 [],.sl 2 [],.sl 2 []]]) (Q (R [z 3 [.int .i64 0,.int .i64 0,.int .i64 0,.sl 1 [],.sl 2 [],.sl 2 []]]) (Q (R [f 4 1 0,b' 5 4 1,f 6 3 0,s 6 5 1]) (Q (R [f 7 1 1,b' 8 7 1,f 9 3 1,s 9 8 1]) (Q (R [f 10 1 2,b' 11 10 1,f 12 3 2,s 12 11 1]) (Q (R [f 13 1 3,b' 14 13 1,c 15 216 [v 14],f 16 3 3,s 16 15 1]) (Q (R [f 17 1 4,b' 18 17 1,c 19 217 [v 18],f 20 3 4,s 20 19 1]) (Q (R [f 21 1 5,b' 22 21 1,c 23 218 [v 22],f 24 3 5,s 24 23 1]) (Q (R [b 25 3 6,s 2 25 6]) .ret))))))))
def rM:Cmd:=Q (R [n 2 (box 2 (v 0)),n 3 (box 3 (v 1)),e' 4 k0]) (Q (Q (R [f 5 2 0,b' 6 5 1,f 7 3 0,b' 8 7 1,g 9 .neq (v 6) (v 8)]) (F (v 9) (Q (R [e' 4 k0]) .ret) .skip)) (Q (Q (R [f 10 2 1,b' 11 10 1,f 12 3 1,b' 13 12 1,g 14 .neq (v 11) (v 13)]) (F (v 14) (Q (R [e' 4 k0]) .ret) .skip)) (Q (Q (R [f 15 2 2,b' 16 15 1,f 17 3 2,b' 18 17 1,g 19 .neq (v 16) (v 18)]) (F (v 19) (Q (R [e' 4 k0]) .ret) .skip)) (Q (Q (R [f 20 2 3,b' 21 20 1,f 22 3 3,b' 23 22 1,c 24 219 [v 21,v 23],n 25 (un 25 .not (v 24))]) (F (v 25) (Q (R [e' 4 k0]) .ret) .skip)) (Q (Q (R [f 26 2 4,b' 27 26 1,f 28 3 4,b' 29 28 1,c 30 220 [v 27,v 29],n 31 (un 31 .not (v 30))]) (F (v 31) (Q (R [e' 4 k0]) .ret) .skip)) (Q (Q (R [f 32 2 5,b' 33 32 1,f 34 3 5,b' 35 34 1,c 36 221 [v 33,v 35],n 37 (un 37 .not (v 36))]) (F (v 37) (Q (R [e' 4 k0]) .ret) .skip)) (Q (R [e' 4 k1]) .ret)))))))
def mC:Cmd:=Q (R [e' 4 (k 0)]) (Q (Q (R [e' 5 (k 0)]) (.blk 0 (.loop (Q (Q (R [a 6 5,a 7 0,l 8 7,g 9 .lss (v 6) (v 8)]) (F (v 9) .skip (.exit 0))) (Q (.blk 1 (Q (R [a 12 0,a 13 5,a 14 1,n 15 (conv 15 .u8 (v 14)),i 16 12 13 1,s 16 15 1]) (R [a 17 1,g 18 .add (v 17) (k 1),e 1 18]))) (R [a 10 5,g 11 .add (v 10) (k 1),e 5 11])))))) (Q (R [a 19 1,e 4 19]) .ret))
def oS:Cmd:=Q (R [e' 4 (k 0)]) (Q (Q (R [e' 5 (k 0)]) (.blk 0 (.loop (Q (Q (R [a 6 5,a 7 0,l 8 7,g 9 .lss (v 6) (v 8)]) (F (v 9) .skip (.exit 0))) (Q (.blk 1 (Q (R [a 12 0,a 13 5,a 14 1,c 15 222 [v 14],i 16 12 13 2,f 17 16 0,s 17 15 1]) (Q (R [a 18 1,g 19 .add (v 18) (k 1),e 1 19]) (Q (R [a 20 0,a 21 5,a 22 1,i 23 20 21 2,f 24 23 1,s 24 22 1]) (R [a 25 1,g 26 .add (v 25) (k 1),e 1 26]))))) (R [a 10 5,g 11 .add (v 10) (k 1),e 5 11])))))) (Q (R [a 27 1,e 4 27]) .ret))
def mD:Cmd:=Q (R [e' 4 (k 0)]) (Q (Q (R [e' 5 (k 0)]) (.blk 0 (.loop (Q (Q (R [a 6 5,a 7 0,l 8 7,g 9 .lss (v 6) (v 8)]) (F (v 9) .skip (.exit 0))) (Q (.blk 1 (Q (R [a 12 0,a 13 5,a 14 1,c 15 222 [v 14],i 16 12 13 2,f 17 16 0,s 17 15 1]) (Q (R [a 18 1,g 19 .add (v 18) (k 1),e 1 19]) (Q (R [a 20 0,a 21 5,a 22 1,c 23 222 [v 22],i 24 20 21 2,f 25 24 1,s 25 23 1]) (R [a 26 1,g 27 .add (v 26) (k 1),e 1 27]))))) (R [a 10 5,g 11 .add (v 10) (k 1),e 5 11])))))) (Q (R [a 28 1,e 4 28]) .ret))
def mE:Cmd:=Q (R [e' 4 (k 0)]) (Q (Q (R [e' 5 (k 0)]) (.blk 0 (.loop (Q (Q (R [a 6 5,a 7 0,l 8 7,g 9 .lss (v 6) (v 8)]) (F (v 9) .skip (.exit 0))) (Q (.blk 1 (Q (Q (R [a 12 0,a 13 5,i 14 12 13 1,b' 15 14 1,a 16 1,n 17 (conv 17 .u8 (v 16)),g 18 .neq (v 15) (v 17)]) (F (v 18) (Q (R [e' 4 (k (-1))]) .ret) .skip)) (R [a 19 1,g 20 .add (v 19) (k 1),e 1 20]))) (R [a 10 5,g 11 .add (v 10) (k 1),e 5 11])))))) (Q (R [a 21 1,e 4 21]) .ret))
def oT:Cmd:=Q (R [e' 4 (k 0)]) (Q (Q (R [e' 5 (k 0)]) (.blk 0 (.loop (Q (Q (R [a 6 5,a 7 0,l 8 7,g 9 .lss (v 6) (v 8)]) (F (v 9) .skip (.exit 0))) (Q (.blk 1 (Q (Q (D [0,0,3,7,15,0,32,127] [a 12 0,a 13 5,i 14 12 13 2,f 15 14 0,b' 16 15 1,a 17 1,c 18 222 [v 17],g 19 .neq (v 16) (v 18)]) (F (v 19) (Q (R [e' 4 (k (-1))]) .ret) .skip)) (Q (R [a 20 1,g 21 .add (v 20) (k 1),e 1 21]) (Q (Q (R [a 22 0,a 23 5,i 24 22 23 2,f 25 24 1,b' 26 25 1,a 27 1,g 28 .neq (v 26) (v 27)]) (F (v 28) (Q (R [e' 4 (k (-1))]) .ret) .skip)) (R [a 29 1,g 30 .add (v 29) (k 1),e 1 30]))))) (R [a 10 5,g 11 .add (v 10) (k 1),e 5 11])))))) (Q (R [a 31 1,e 4 31]) .ret))
def mF:Cmd:=Q (R [e' 4 (k 0)]) (Q (Q (R [e' 5 (k 0)]) (.blk 0 (.loop (Q (Q (R [a 6 5,a 7 0,l 8 7,g 9 .lss (v 6) (v 8)]) (F (v 9) .skip (.exit 0))) (Q (.blk 1 (Q (Q (D [0,0,3,7,15,0,32,127] [a 12 0,a 13 5,i 14 12 13 2,f 15 14 0,b' 16 15 1,a 17 1,c 18 222 [v 17],g 19 .neq (v 16) (v 18)]) (F (v 19) (Q (R [e' 4 (k (-1))]) .ret) .skip)) (Q (R [a 20 1,g 21 .add (v 20) (k 1),e 1 21]) (Q (Q (D [0,0,3,7,15,0,32,127] [a 22 0,a 23 5,i 24 22 23 2,f 25 24 1,b' 26 25 1,a 27 1,c 28 222 [v 27],g 29 .neq (v 26) (v 28)]) (F (v 29) (Q (R [e' 4 (k (-1))]) .ret) .skip)) (R [a 30 1,g 31 .add (v 30) (k 1),e 1 31]))))) (R [a 10 5,g 11 .add (v 10) (k 1),e 5 11])))))) (Q (R [a 32 1,e 4 32]) .ret))
def gR:Cmd:=Q (R [e' 2 (.c (.own 2 []))]) (Q (Q (R [a 3 0,n 4 (isn 4 false (v 3) (.c (.own 2 [])))]) (F (v 4) (Q (R [e' 2 (.c (.own 2 []))]) .ret) .skip)) (Q (R [o 5 2 [],a 6 0,n 7 (app 7 (v 5) (v 6) 2 32),e 2 7]) .ret))
def jQ:Cmd:=Q (R [e' 2 (.c (.str []))]) (Q (Q (R [a 3 0,c 4 143 [v 3],n 5 (un 5 .not (v 4))]) (F (v 5) (Q (R [e' 2 (.c (.str []))]) .ret) .skip)) (Q (R [a 6 0,c 7 225 [v 6,.c (.str [47])],g 8 .add (.c (.str [47])) (v 7),e 2 8]) .ret))
def oU:Cmd:=Q (R [e' 8 (.c (.own 1 []))]) (Q (Q (R [a 12 3,g 13 .eql (v 12) (k 0)]) (F (v 13) (Q (R [e' 8 (.c (.own 1 []))]) .ret) .skip)) (Q (Q (R [a 14 1,g 15 .eql (v 14) (.c (.str []))]) (F (v 15) (Q (R [a 16 0,a 17 3,c 18 228 [v 16,v 17],e 8 18]) .ret) .skip)) (Q (Q (R [a 19 3,g 20 .lss (v 19) (k 0)]) (F (v 20) (R [a 21 0,a 22 1,c 23 229 [v 21,v 22],g 24 .add (v 23) (k 1),e 3 24]) .skip)) (Q (R [a 25 3,a 26 0,n 27 (lens 27 (v 26)),g 28 .add (v 27) (k 1),n 29 (mn 29 (v 25) (v 28)),e 3 29]) (Q (R [a 30 3,n 31 (mks 31 (v 30) (v 30) 1 16 [.str []]),e 9 31]) (Q (R [a 32 3,g 33 .sub (v 32) (k 1),e 3 33]) (Q (R [e' 10 (k 0)]) (Q (.blk 0 (.loop (Q (Q (R [a 34 10,a 35 3,g 36 .lss (v 34) (v 35)]) (F (v 36) .skip (.exit 0))) (.blk 1 (Q (R [a 37 0,a 38 1,c 39 230 [v 37,v 38],e 11 39]) (Q (Q (R [a 40 11,g 41 .lss (v 40) (k 0)]) (F (v 41) (.exit 0) .skip)) (Q (R [a 42 9,a 43 10,a 44 0,a 45 11,a 46 2,g 47 .add (v 45) (v 46),n 48 (sls 48 (v 44) none (some (v 47))),i 49 42 43 1,s 49 48 1]) (Q (R [a 50 0,a 51 11,a 52 1,n 53 (lens 53 (v 52)),g 54 .add (v 51) (v 53),n 55 (sls 55 (v 50) (some (v 54)) none),e 0 55]) (R [a 56 10,g 57 .add (v 56) (k 1),e 10 57]))))))))) (Q (R [a 58 9,a 59 10,a 60 0,i 61 58 59 1,s 61 60 1]) (Q (R [a 62 9,a 63 10,g 64 .add (v 63) (k 1),n 65 (slc 65 (v 62) none (some (v 64)) 1),e 8 65]) .ret))))))))))
def cK:Cmd:=Q (R [e' 4 k0]) (Q (R [a 5 0,a 6 1,c 7 231 [v 5,v 6],g 8 .geq (v 7) (k 0),e 4 8]) .ret)
def mG:Cmd:=Q (R [e' 2 k0]) (Q (R [a 3 0,c 4 102 [v 3],n 5 (un 5 .not (v 4)),e 2 5]) .ret)
def rN:Cmd:=Q (R [e' 2 k0]) (Q (Q (R [a 5 0,l 6 5,n 7 (mov 7 (k 0))]) (.blk 0 (.loop (Q (R [g 8 .lss (v 7) (v 6)]) (Q (F (v 8) .skip (.exit 0)) (Q (.blk 1 (Q (R [a 9 7,i 10 5 7 2,b 11 10 2,z 4 [.str [],.str []],e 3 9,s 4 11 2]) (Q (D [0,1,3,7,15,31,63,127,255,511,1023,2047,4095,8191,16383,32767,32767,98303,262143,524287,1048575,32767,2129919,8388607,16777215,33554431] [f 12 4 0,b' 13 12 1,c 14 102 [v 13],n 15 (un 15 .not (v 14)),a 16 15,h 16 false 17 (fld 17 (v 4) 1),h 16 false 18 (ld 18 (v 17) 1 false),h 16 false 19 (lens 19 (v 18)),hc 16 false 20 94 [v 19,k 1,k 16],h 16 false 21 (un 21 .not (v 20)),p 22 16 k1 (v 21),a 23 22,ha 23 false 24 3,h 23 false 25 (bin 25 .gtr (v 24) (k 0)),ha 23 false 26 25,ha 26 true 27 0,ha 26 true 28 3,h 26 true 29 (bin 29 .sub (v 28) (k 1)),h 26 true 30 (idx 30 (v 27) (v 29) 2),h 26 true 31 (fld 31 (v 30) 0),h 26 true 32 (ld 32 (v 31) 1 false),h 26 true 33 (fld 33 (v 4) 0),h 26 true 34 (ld 34 (v 33) 1 false),h 26 true 35 (bin 35 .geq (v 32) (v 34)),h 23 false 36 (pck 36 (v 26) (v 35) k0),p 37 23 k1 (v 36)]) (F (v 37) (Q (R [e' 2 k0]) .ret) .skip)))) (R [g 38 .add (v 7) (k 1),a 7 38]))))))) (Q (R [a 39 0,l 40 39,g 41 .leq (v 40) (k 4),e 2 41]) .ret))
def tX:Cmd:=Q (R [e' 2 k0]) (Q (Q (R [e' 3 (k 0)]) (.blk 0 (.loop (Q (Q (R [a 4 3,a 5 0,l 6 5,g 7 .lss (v 4) (v 6)]) (F (v 7) .skip (.exit 0))) (Q (.blk 1 (Q (D [0,0,3,7,15,31,63,127,255,255,1023,2047,4095,8191,16383,32767,65535,131071,262143,524287,1048575,1048575,3145727,8388607,16777215,33554431,1048575,1048575,202375167,470810623,1007681535,2147483647,4294967295,8589934591] [a 10 0,a 11 3,i 12 10 11 2,f 13 12 0,b' 14 13 1,c 15 150 [v 14],n 16 (un 16 .not (v 15)),a 17 16,ha 17 false 18 0,ha 17 false 19 3,h 17 false 20 (idx 20 (v 18) (v 19) 2),h 17 false 21 (fld 21 (v 20) 1),h 17 false 22 (ld 22 (v 21) 1 false),hc 17 false 23 158 [v 22,k 2,k 1000],h 17 false 24 (un 24 .not (v 23)),p 25 17 k1 (v 24),a 26 25,ha 26 false 27 3,h 26 false 28 (bin 28 .gtr (v 27) (k 0)),ha 26 false 29 28,ha 29 true 30 0,ha 29 true 31 3,h 29 true 32 (bin 32 .sub (v 31) (k 1)),h 29 true 33 (idx 33 (v 30) (v 32) 2),h 29 true 34 (fld 34 (v 33) 0),h 29 true 35 (ld 35 (v 34) 1 false),ha 29 true 36 0,ha 29 true 37 3,h 29 true 38 (idx 38 (v 36) (v 37) 2),h 29 true 39 (fld 39 (v 38) 0),h 29 true 40 (ld 40 (v 39) 1 false),h 29 true 41 (bin 41 .geq (v 35) (v 40)),h 26 false 42 (pck 42 (v 29) (v 41) k0),p 43 26 k1 (v 42)]) (F (v 43) (Q (R [e' 2 k0]) .ret) .skip))) (R [a 8 3,g 9 .add (v 8) (k 1),e 3 9])))))) (Q (R [a 44 0,l 45 44,g 46 .leq (v 45) (k 10),e 2 46]) .ret))
def rO:Cmd:=Q (R [e' 2 k0]) (Q (Q (R [e' 3 (k 0)]) (.blk 0 (.loop (Q (Q (R [a 4 3,a 5 0,l 6 5,g 7 .lss (v 4) (v 6)]) (F (v 7) .skip (.exit 0))) (Q (.blk 1 (Q (D [0,0,3,7,15,31,63,127,255,255,1023,2047,4095,8191,16383,32767,65535,131071,262143,524287,1048575,2097151,2097151,6291455,16777215,33554431,67108863,2097151,2097151,404750335,941621247,2015363071,4294967295,8589934591,17179869183] [a 10 0,a 11 3,i 12 10 11 2,f 13 12 0,b' 14 13 1,c 15 150 [v 14],n 16 (un 16 .not (v 15)),a 17 16,ha 17 false 18 0,ha 17 false 19 3,h 17 false 20 (idx 20 (v 18) (v 19) 2),h 17 false 21 (fld 21 (v 20) 1),h 17 false 22 (ld 22 (v 21) 1 false),h 17 false 23 (lens 23 (v 22)),hc 17 false 24 158 [v 23,k 1,k 16],h 17 false 25 (un 25 .not (v 24)),p 26 17 k1 (v 25),a 27 26,ha 27 false 28 3,h 27 false 29 (bin 29 .gtr (v 28) (k 0)),ha 27 false 30 29,ha 30 true 31 0,ha 30 true 32 3,h 30 true 33 (bin 33 .sub (v 32) (k 1)),h 30 true 34 (idx 34 (v 31) (v 33) 2),h 30 true 35 (fld 35 (v 34) 0),h 30 true 36 (ld 36 (v 35) 1 false),ha 30 true 37 0,ha 30 true 38 3,h 30 true 39 (idx 39 (v 37) (v 38) 2),h 30 true 40 (fld 40 (v 39) 0),h 30 true 41 (ld 41 (v 40) 1 false),h 30 true 42 (bin 42 .geq (v 36) (v 41)),h 27 false 43 (pck 43 (v 30) (v 42) k0),p 44 27 k1 (v 43)]) (F (v 44) (Q (R [e' 2 k0]) .ret) .skip))) (R [a 8 3,g 9 .add (v 8) (k 1),e 3 9])))))) (Q (R [a 45 0,l 46 45,g 47 .leq (v 46) (k 4),e 2 47]) .ret))
def yZ:Cmd:=Q (R [e' 4 k0]) (Q (Q (R [e' 5 (k 0)]) (.blk 0 (.loop (Q (Q (R [a 6 5,a 7 0,l 8 7,g 9 .lss (v 6) (v 8)]) (F (v 9) .skip (.exit 0))) (Q (.blk 1 (Q (R [a 12 0,a 13 5,i 14 12 13 1,b' 15 14 1,a 16 1,g 17 .eql (v 15) (v 16)]) (F (v 17) (Q (R [e' 4 k1]) .ret) .skip))) (R [a 10 5,g 11 .add (v 10) (k 1),e 5 11])))))) (Q (R [e' 4 k0]) .ret))
def rP:Cmd:=Q (R [e' 4 (k 0)]) (Q (R [a 5 1,a 6 0,l 7 6,g 8 .sub (v 5) (v 7),e 1 8]) (Q (Q (R [a 9 1,g 10 .lss (v 9) (k 0)]) (F (v 10) (Q (R [e' 4 (k (-1))]) .ret) .skip)) (Q (R [a 11 1,e 4 11]) .ret)))
def tY:Cmd:=Q (R [e' 4 (k 0)]) (Q (R [a 6 1,a 7 0,l 8 7,g 9 .sub (v 6) (v 8),e 1 9]) (Q (Q (R [a 10 1,g 11 .lss (v 10) (k 0)]) (F (v 11) (Q (R [e' 4 (k (-1))]) .ret) .skip)) (Q (Q (R [e' 5 (k 0)]) (.blk 0 (.loop (Q (Q (R [a 12 5,a 13 0,l 14 13,g 15 .lss (v 12) (v 14)]) (F (v 15) .skip (.exit 0))) (Q (.blk 1 (Q (R [a 18 0,a 19 5,i 20 18 19 2,b 21 20 2,a 22 1,c 23 243 [v 21,v 22],e 1 23]) (Q (R [a 24 1,g 25 .lss (v 24) (k 0)]) (F (v 25) (Q (R [e' 4 (k (-1))]) .ret) .skip)))) (R [a 16 5,g 17 .add (v 16) (k 1),e 5 17])))))) (Q (R [a 26 1,e 4 26]) .ret))))
def rQ:Cmd:=Q (R [e' 4 (k 0)]) (Q (R [a 6 1,a 7 0,l 8 7,g 9 .sub (v 6) (v 8),e 1 9]) (Q (Q (R [a 10 1,g 11 .lss (v 10) (k 0)]) (F (v 11) (Q (R [e' 4 (k (-1))]) .ret) .skip)) (Q (Q (R [e' 5 (k 0)]) (.blk 0 (.loop (Q (Q (R [a 12 5,a 13 0,l 14 13,g 15 .lss (v 12) (v 14)]) (F (v 15) .skip (.exit 0))) (Q (.blk 1 (Q (R [a 18 0,a 19 5,i 20 18 19 2,b 21 20 2,a 22 1,c 23 244 [v 21,v 22],e 1 23]) (Q (R [a 24 1,g 25 .lss (v 24) (k 0)]) (F (v 25) (Q (R [e' 4 (k (-1))]) .ret) .skip)))) (R [a 16 5,g 17 .add (v 16) (k 1),e 5 17])))))) (Q (R [a 26 1,e 4 26]) .ret))))
def rR:Cmd:=Q (R [e' 2 (.c (.own 1 []))]) (Q (R [a 5 0,l 6 5,n 7 (mks 7 (v 6) (v 6) 1 1 [.int .u8 0]),e 3 7]) (Q (Q (R [e' 4 (k 0)]) (.blk 0 (.loop (Q (Q (R [a 8 4,a 9 0,l 10 9,g 11 .lss (v 8) (v 10)]) (F (v 11) .skip (.exit 0))) (Q (.blk 1 (R [a 14 3,a 15 4,a 16 0,a 17 4,i 18 16 17 1,b' 19 18 1,i 20 14 15 1,s 20 19 1])) (R [a 12 4,g 13 .add (v 12) (k 1),e 4 13])))))) (Q (R [a 21 3,e 2 21]) .ret)))
def tZ:Cmd:=Q (R [e' 2 (.c (.own 2 []))]) (Q (R [a 5 0,l 6 5,n 7 (mks 7 (v 6) (v 6) 2 24 [.str [],.int .i64 0]),e 3 7]) (Q (Q (R [e' 4 (k 0)]) (.blk 0 (.loop (Q (Q (R [a 8 4,a 9 0,l 10 9,g 11 .lss (v 8) (v 10)]) (F (v 11) .skip (.exit 0))) (Q (.blk 1 (R [a 14 3,a 15 4,a 16 0,a 17 4,i 18 16 17 2,b 19 18 2,c 20 245 [v 19],i 21 14 15 2,s 21 20 2])) (R [a 12 4,g 13 .add (v 12) (k 1),e 4 13])))))) (Q (R [a 22 3,e 2 22]) .ret)))
def rS:Cmd:=Q (R [e' 2 (.c (.own 2 []))]) (Q (R [a 5 0,l 6 5,n 7 (mks 7 (v 6) (v 6) 2 32 [.str [],.str []]),e 3 7]) (Q (Q (R [e' 4 (k 0)]) (.blk 0 (.loop (Q (Q (R [a 8 4,a 9 0,l 10 9,g 11 .lss (v 8) (v 10)]) (F (v 11) .skip (.exit 0))) (Q (.blk 1 (R [a 14 3,a 15 4,a 16 0,a 17 4,i 18 16 17 2,b 19 18 2,c 20 246 [v 19],i 21 14 15 2,s 21 20 2])) (R [a 12 4,g 13 .add (v 12) (k 1),e 4 13])))))) (Q (R [a 22 3,e 2 22]) .ret)))
def rT:Cmd:=Q (R [e' 4 k0]) (Q (Q (R [a 6 0,l 7 6,a 8 1,l 9 8,g 10 .neq (v 7) (v 9)]) (F (v 10) (Q (R [e' 4 k0]) .ret) .skip)) (Q (Q (R [e' 5 (k 0)]) (.blk 0 (.loop (Q (Q (R [a 11 5,a 12 0,l 13 12,g 14 .lss (v 11) (v 13)]) (F (v 14) .skip (.exit 0))) (Q (.blk 1 (Q (D [0,0,3,7,0,0,48,112,255] [a 17 0,a 18 5,i 19 17 18 1,b' 20 19 1,a 21 1,a 22 5,i 23 21 22 1,b' 24 23 1,g 25 .neq (v 20) (v 24)]) (F (v 25) (Q (R [e' 4 k0]) .ret) .skip))) (R [a 15 5,g 16 .add (v 15) (k 1),e 5 16])))))) (Q (R [e' 4 k1]) .ret)))
def t6:Cmd:=Q (R [e' 4 k0]) (Q (Q (R [a 6 0,l 7 6,a 8 1,l 9 8,g 10 .neq (v 7) (v 9)]) (F (v 10) (Q (R [e' 4 k0]) .ret) .skip)) (Q (Q (R [e' 5 (k 0)]) (.blk 0 (.loop (Q (Q (R [a 11 5,a 12 0,l 13 12,g 14 .lss (v 11) (v 13)]) (F (v 14) .skip (.exit 0))) (Q (.blk 1 (Q (D [0,0,3,7,0,0,48,112,255,511] [a 17 0,a 18 5,i 19 17 18 2,b 20 19 2,a 21 1,a 22 5,i 23 21 22 2,b 24 23 2,c 25 247 [v 20,v 24],n 26 (un 26 .not (v 25))]) (F (v 26) (Q (R [e' 4 k0]) .ret) .skip))) (R [a 15 5,g 16 .add (v 15) (k 1),e 5 16])))))) (Q (R [e' 4 k1]) .ret)))
def rU:Cmd:=Q (R [e' 4 k0]) (Q (Q (R [a 6 0,l 7 6,a 8 1,l 9 8,g 10 .neq (v 7) (v 9)]) (F (v 10) (Q (R [e' 4 k0]) .ret) .skip)) (Q (Q (R [e' 5 (k 0)]) (.blk 0 (.loop (Q (Q (R [a 11 5,a 12 0,l 13 12,g 14 .lss (v 11) (v 13)]) (F (v 14) .skip (.exit 0))) (Q (.blk 1 (Q (D [0,0,3,7,0,0,48,112,255,511] [a 17 0,a 18 5,i 19 17 18 2,b 20 19 2,a 21 1,a 22 5,i 23 21 22 2,b 24 23 2,c 25 248 [v 20,v 24],n 26 (un 26 .not (v 25))]) (F (v 26) (Q (R [e' 4 k0]) .ret) .skip))) (R [a 15 5,g 16 .add (v 15) (k 1),e 5 16])))))) (Q (R [e' 4 k1]) .ret)))
def oV:Cmd:=Q (R [e' 2 (.c (.str []))]) (Q (Q (R [a 4 0,g 5 .leq (v 4) (k 0)]) (F (v 5) (Q (R [e' 2 (.c (.str [109,48]))]) .ret) .skip)) (Q (R [e' 3 (.c (.str []))]) (Q (.blk 0 (.loop (Q (Q (R [a 6 0,g 7 .gtr (v 6) (k 0)]) (F (v 7) .skip (.exit 0))) (.blk 1 (Q (R [a 8 0,g 9 .rem (v 8) (k 10),g 10 .add (k 48) (v 9),n 11 (conv 11 .u8 (v 10)),o 12 1 [v 11],n 13 (b2s 13 (v 12)),a 14 3,g 15 .add (v 13) (v 14),e 3 15]) (R [a 16 0,g 17 .quo (v 16) (k 10),e 0 17])))))) (Q (R [a 18 3,g 19 .add (.c (.str [109])) (v 18),e 2 19]) .ret))))
def fL:Cmd:=Q (R [e' 4 (k 0)]) (Q (Q (R [a 6 0,l 7 6,n 8 (mov 8 (k 0))]) (.blk 0 (.loop (Q (R [g 9 .lss (v 8) (v 7)]) (Q (F (v 9) .skip (.exit 0)) (Q (.blk 1 (Q (R [a 10 8,e 5 10]) (Q (R [a 11 1,a 12 0,a 13 5,i 14 12 13 1,b' 15 14 1,n 16 (callv (some 16) (v 11) [v 15])]) (F (v 16) (Q (R [a 17 5,e 4 17]) .ret) .skip)))) (R [g 18 .add (v 8) (k 1),a 8 18]))))))) (Q (R [e' 4 (k (-1))]) .ret))
def y0:Cmd:=Q (R [n 2 (box 2 (v 0)),e' 4 (k 0)]) (Q (R [a 5 1,f 6 2 0,b' 7 6 1,n 8 (lens 8 (v 7)),g 9 .sub (v 5) (v 8),e 1 9]) (Q (Q (R [a 10 1,g 11 .lss (v 10) (k 0)]) (F (v 11) (Q (R [e' 4 (k (-1))]) .ret) .skip)) (Q (R [a 12 1,e 4 12]) .ret)))
def t7:Cmd:=Q (R [n 2 (box 2 (v 0)),e' 4 (k 0)]) (Q (R [a 5 1,f 6 2 0,b' 7 6 1,n 8 (lens 8 (v 7)),g 9 .sub (v 5) (v 8),e 1 9]) (Q (Q (R [a 10 1,g 11 .lss (v 10) (k 0)]) (F (v 11) (Q (R [e' 4 (k (-1))]) .ret) .skip)) (Q (R [a 12 1,f 13 2 1,b' 14 13 1,n 15 (lens 15 (v 14)),g 16 .sub (v 12) (v 15),e 1 16]) (Q (Q (R [a 17 1,g 18 .lss (v 17) (k 0)]) (F (v 18) (Q (R [e' 4 (k (-1))]) .ret) .skip)) (Q (R [a 19 1,e 4 19]) .ret)))))
def y5:Cmd:=Q (R [n 1 (box 1 (v 0)),z 2 [.str [],.int .i64 0]]) (Q (R [z 3 [.str [],.int .i64 0]]) (Q (R [f 4 1 0,b' 5 4 1,f 6 3 0,s 6 5 1]) (Q (R [f 7 1 1,b' 8 7 1,f 9 3 1,s 9 8 1]) (Q (R [b 10 3 2,s 2 10 2]) .ret))))
def t8:Cmd:=Q (R [n 1 (box 1 (v 0)),z 2 [.str [],.str []]]) (Q (R [z 3 [.str [],.str []]]) (Q (R [f 4 1 0,b' 5 4 1,f 6 3 0,s 6 5 1]) (Q (R [f 7 1 1,b' 8 7 1,f 9 3 1,s 9 8 1]) (Q (R [b 10 3 2,s 2 10 2]) .ret))))
def y6:Cmd:=Q (R [n 2 (box 2 (v 0)),n 3 (box 3 (v 1)),e' 4 k0]) (Q (Q (R [f 5 2 0,b' 6 5 1,f 7 3 0,b' 8 7 1,g 9 .neq (v 6) (v 8)]) (F (v 9) (Q (R [e' 4 k0]) .ret) .skip)) (Q (Q (R [f 10 2 1,b' 11 10 1,f 12 3 1,b' 13 12 1,g 14 .neq (v 11) (v 13)]) (F (v 14) (Q (R [e' 4 k0]) .ret) .skip)) (Q (R [e' 4 k1]) .ret)))
def uA:Cmd:=Q (R [n 2 (box 2 (v 0)),n 3 (box 3 (v 1)),e' 4 k0]) (Q (Q (R [f 5 2 0,b' 6 5 1,f 7 3 0,b' 8 7 1,g 9 .neq (v 6) (v 8)]) (F (v 9) (Q (R [e' 4 k0]) .ret) .skip)) (Q (Q (R [f 10 2 1,b' 11 10 1,f 12 3 1,b' 13 12 1,g 14 .neq (v 11) (v 13)]) (F (v 14) (Q (R [e' 4 k0]) .ret) .skip)) (Q (R [e' 4 k1]) .ret)))
end
section
open Go.Proofs
theorem hmx:Tryz.prog.follows .mixedOrders=true:=by kernel_rfl
theorem c6:aC Tryz.prog 11=some (112,[.t 6],b8):=by kernel_rfl
theorem cO:aC Tryz.prog 18=some (102,[.c 6 2 true,.t 7],b9):=by kernel_rfl
theorem acT:aC Tryz.prog 23=some (46,[.t 4,.t 5],v8):=by kernel_rfl
theorem aeb:aC Tryz.prog 28=some (47,[.t 2],tO):=by kernel_rfl
theorem eN:aC Tryz.prog 42=some (112,[.c 6 2 true,.t 7],dP):=by kernel_rfl
theorem mH:aC Tryz.prog 43=some (38,[.t 4],jN):=by kernel_rfl
theorem aec:aC Tryz.prog 46=some (53,[.t 2],tP):=by kernel_rfl
theorem abr:aC Tryz.prog 49=some (56,[.t 2],q9):=by kernel_rfl
theorem rV:aC Tryz.prog 50=some (24,[.t 2],lP):=by kernel_rfl
theorem agn:aC Tryz.prog 51=some (12,[.t 4],yO):=by kernel_rfl
theorem ago:aC Tryz.prog 52=some (12,[.c 2 2 true],yP):=by kernel_rfl
theorem agp:aC Tryz.prog 53=some (16,[.t 4],yQ):=by kernel_rfl
theorem abs:aC Tryz.prog 54=some (10,[.t 4],rA):=by kernel_rfl
theorem abt:aC Tryz.prog 55=some (12,[.t 4],rB):=by kernel_rfl
theorem abu:aC Tryz.prog 61=some (25,[.c 2 2 true],rC):=by kernel_rfl
theorem agq:aC Tryz.prog 62=some (25,[.t 4],yR):=by kernel_rfl
theorem nG:aC Tryz.prog 64=some (34,[.c 4 7 true,.t 5],kL):=by kernel_rfl
theorem sW:aC Tryz.prog 65=some (17,[.c 4 2 true],lB):=by kernel_rfl
theorem y7:aC Tryz.prog 67=some (40,[.c 4 2 true],oN):=by kernel_rfl
theorem wB:aC Tryz.prog 68=some (30,[.c 4 6 true,.t 5],p8):=by kernel_rfl
theorem agr:aC Tryz.prog 69=some (21,[.t 4],yS):=by kernel_rfl
theorem rW:aC Tryz.prog 70=some (19,[.c 4 6 true,.t 5],lQ):=by kernel_rfl
theorem lE:aC Tryz.prog 71=some (36,[.c 6 2 true],gP):=by kernel_rfl
theorem jR:aC Tryz.prog 75=some (31,[.t 2,.t 3,.t 4],gG):=by kernel_rfl
theorem aed:aC Tryz.prog 76=some (27,[.c 2 2 true],tQ):=by kernel_rfl
theorem aee:aC Tryz.prog 78=some (30,[.c 4 2 true],tR):=by kernel_rfl
theorem y8:aC Tryz.prog 80=some (59,[.c 4 2 true],oO):=by kernel_rfl
theorem d8:aC Tryz.prog 81=some (26,[.t 2,.t 3],c5):=by kernel_rfl
theorem lF:aC Tryz.prog 84=some (8,[.t 2],gQ):=by kernel_rfl
theorem ags:aC Tryz.prog 85=some (63,[.t 2],yT):=by kernel_rfl
theorem abv:aC Tryz.prog 86=some (36,[.t 4],rD):=by kernel_rfl
theorem abw:aC Tryz.prog 87=some (9,[.t 4],rE):=by kernel_rfl
theorem wC:aC Tryz.prog 88=some (30,[.c 4 6 true,.t 5],p9):=by kernel_rfl
theorem mI:aC Tryz.prog 91=some (59,[.t 2,.t 3],iM):=by kernel_rfl
theorem eO:aC Tryz.prog 92=some (59,[.c 6 6 true,.t 7,.t 8],dQ):=by kernel_rfl
theorem agt:aC Tryz.prog 93=some (44,[.t 4],yU):=by kernel_rfl
theorem aiM:aC Tryz.prog 94=some (15,[.t 6],acQ):=by kernel_rfl
theorem acU:aC Tryz.prog 97=some (20,[.t 4,.t 5],wA):=by kernel_rfl
theorem mJ:aC Tryz.prog 98=some (48,[.t 4],jO):=by kernel_rfl
theorem o8:aC Tryz.prog 99=some (26,[.t 4],iV):=by kernel_rfl
theorem aef:aC Tryz.prog 102=some (56,[.t 2],tS):=by kernel_rfl
theorem agu:aC Tryz.prog 107=some (68,[.t 2],yV):=by kernel_rfl
theorem abx:aC Tryz.prog 108=some (50,[.t 4],rF):=by kernel_rfl
theorem aiN:aC Tryz.prog 109=some (22,[.t 4],acR):=by kernel_rfl
theorem iY:aC Tryz.prog 110=some (9,[.t 4],fH):=by kernel_rfl
theorem aeg:aC Tryz.prog 112=some (59,[.t 4],tT):=by kernel_rfl
theorem y9:aC Tryz.prog 113=some (27,[.t 4],oP):=by kernel_rfl
theorem zA:aC Tryz.prog 114=some (23,[.t 2],oQ):=by kernel_rfl
theorem zB:aC Tryz.prog 115=some (27,[.t 4],oR):=by kernel_rfl
theorem sX:aC Tryz.prog 116=some (55,[.t 4],lC):=by kernel_rfl
theorem sY:aC Tryz.prog 117=some (67,[.t 4],lD):=by kernel_rfl
theorem wD:aC Tryz.prog 122=some (16,[.c 2 6 true],l9):=by kernel_rfl
theorem jS:aC Tryz.prog 123=some (31,[.t 2,.t 3,.t 4],gH):=by kernel_rfl
theorem gI:aC Tryz.prog 124=some (42,[.t 4],d7):=by kernel_rfl
theorem mK:aC Tryz.prog 125=some (8,[.t 2],iN):=by kernel_rfl
theorem o9:aC Tryz.prog 126=some (9,[.t 3],iW):=by kernel_rfl
theorem lS:aC Tryz.prog 129=some (19,[.t 4],f7):=by kernel_rfl
theorem nH:aC Tryz.prog 132=some (19,[.t 4],hM):=by kernel_rfl
theorem pA:aC Tryz.prog 133=some (9,[.t 3],iX):=by kernel_rfl
theorem oW:aC Tryz.prog 139=some (33,[.t 2],jP):=by kernel_rfl
theorem aeh:aC Tryz.prog 140=some (21,[.c 2 6 true],tU):=by kernel_rfl
theorem agv:aC Tryz.prog 141=some (29,[.t 4],yW):=by kernel_rfl
theorem agw:aC Tryz.prog 142=some (8,[.t 4],yX):=by kernel_rfl
theorem aby:aC Tryz.prog 143=some (11,[.t 2],rG):=by kernel_rfl
theorem abz:aC Tryz.prog 146=some (94,[.t 2],rH):=by kernel_rfl
theorem wE:aC Tryz.prog 147=some (8,[.t 3],mA):=by kernel_rfl
theorem rX:aC Tryz.prog 148=some (19,[.c 4 6 true,.t 5],lR):=by kernel_rfl
theorem aei:aC Tryz.prog 150=some (46,[.t 2],tV):=by kernel_rfl
theorem agx:aC Tryz.prog 151=some (27,[.t 4],yY):=by kernel_rfl
theorem aej:aC Tryz.prog 152=some (40,[.t 4,.t 5],tW):=by kernel_rfl
theorem aiO:aC Tryz.prog 158=some (15,[.t 6],acS):=by kernel_rfl
theorem abA:aC Tryz.prog 159=some (59,[.t 2],rI):=by kernel_rfl
theorem wF:aC Tryz.prog 160=some (19,[.t 4],mB):=by kernel_rfl
theorem zC:aC Tryz.prog 162=some (46,[.t 4],rJ):=by kernel_rfl
theorem abB:aC Tryz.prog 163=some (24,[.t 4],rK):=by kernel_rfl
theorem abC:aC Tryz.prog 164=some (26,[.c 2 6 true],rL):=by kernel_rfl
theorem abD:aC Tryz.prog 165=some (38,[.t 4],rM):=by kernel_rfl
theorem wG:aC Tryz.prog 166=some (20,[.t 4],mC):=by kernel_rfl
theorem zE:aC Tryz.prog 167=some (28,[.t 4],oS):=by kernel_rfl
theorem wH:aC Tryz.prog 168=some (29,[.t 4],mD):=by kernel_rfl
theorem wI:aC Tryz.prog 169=some (22,[.t 4],mE):=by kernel_rfl
theorem zF:aC Tryz.prog 170=some (32,[.t 4],oT):=by kernel_rfl
theorem wJ:aC Tryz.prog 171=some (33,[.t 4],mF):=by kernel_rfl
theorem lG:aC Tryz.prog 178=some (8,[.t 2],gR):=by kernel_rfl
theorem oX:aC Tryz.prog 179=some (9,[.t 2],jQ):=by kernel_rfl
theorem zG:aC Tryz.prog 184=some (66,[.t 8],oU):=by kernel_rfl
theorem d9:aC Tryz.prog 185=some (9,[.t 4],cK):=by kernel_rfl
theorem wK:aC Tryz.prog 186=some (6,[.t 2],mG):=by kernel_rfl
theorem abE:aC Tryz.prog 198=some (42,[.t 2],rN):=by kernel_rfl
theorem aek:aC Tryz.prog 201=some (47,[.t 2],tX):=by kernel_rfl
theorem abF:aC Tryz.prog 202=some (48,[.t 2],rO):=by kernel_rfl
theorem agy:aC Tryz.prog 212=some (18,[.t 4],yZ):=by kernel_rfl
theorem abG:aC Tryz.prog 213=some (12,[.t 4],rP):=by kernel_rfl
theorem ael:aC Tryz.prog 214=some (27,[.t 4],tY):=by kernel_rfl
theorem abH:aC Tryz.prog 215=some (27,[.t 4],rQ):=by kernel_rfl
theorem abI:aC Tryz.prog 216=some (22,[.t 2],rR):=by kernel_rfl
theorem aem:aC Tryz.prog 217=some (23,[.t 2],tZ):=by kernel_rfl
theorem abJ:aC Tryz.prog 218=some (23,[.t 2],rS):=by kernel_rfl
theorem abK:aC Tryz.prog 219=some (26,[.t 4],rT):=by kernel_rfl
theorem aen:aC Tryz.prog 220=some (27,[.t 4],t6):=by kernel_rfl
theorem abL:aC Tryz.prog 221=some (27,[.t 4],rU):=by kernel_rfl
theorem zH:aC Tryz.prog 222=some (20,[.t 2],oV):=by kernel_rfl
theorem kW:aC Tryz.prog 231=some (19,[.t 4],fL):=by kernel_rfl
theorem agz:aC Tryz.prog 243=some (13,[.t 4],y0):=by kernel_rfl
theorem aeo:aC Tryz.prog 244=some (20,[.t 4],t7):=by kernel_rfl
theorem agA:aC Tryz.prog 245=some (11,[.c 2 2 true],y5):=by kernel_rfl
theorem aep:aC Tryz.prog 246=some (11,[.c 2 2 true],t8):=by kernel_rfl
theorem agB:aC Tryz.prog 247=some (15,[.t 4],y6):=by kernel_rfl
theorem aeq:aC Tryz.prog 248=some (15,[.t 4],uA):=by kernel_rfl
end
section
open Go.Proofs Go.Shelf Go.RowKit Go.Lib
theorem eE {P:Program} (s:Nat) (w:World) (dT sT ty e:TypeId) (b o dLen dCap:Nat) (a:Addr) (sLen sCap:Nat) (cs:List Value) (hu:P.underlying dT=some (.slice e)) (hs:(P.info? e).map (·.size)=some s)
  (hl:cs.length=(sLen.min dLen)*s) (hc:∀ (j:Nat) (v:Value),cs[j]?=some v→w.cell? (a.add j)=some v) (hd:∀ j,j<cs.length→(w.cell? ⟨b,o+j,none⟩).isSome=true) (hf:∀ j,j<cs.length→w.frozen? ⟨b,o+j,none⟩=false)
  (h1:∀ v ∈ cs,v.oneCell'=true) :
  (Builtin.copy_ #[dT,sT] ty #[.slice (some ⟨b,o,none⟩) dLen dCap,.slice (some a) sLen sCap]).run P w=.ok (goInt (sLen.min dLen:Nat)) (w.setCells b o cs):=by
 have hst:=run_storeCells_cells (P:=P) b o cs 0 w (by simpa using hd) (by simpa using hf) h1
 simp only [Nat.add_zero] at hst
 have hfc:(Builtin.firstCells s (Nat.min sLen dLen) (.slice (some a) sLen sCap)).run P w=.ok cs.toArray w:=run_firstCells_some w s (sLen.min dLen) a sLen sCap cs hl hc
 have hrun:=xW (P:=P) (w:=w) (ts:=#[dT,sT]) (ty:=ty) (t:=dT) rfl hu (show kV P e=some s from hs) (some ⟨b,o,none⟩) (some a) dLen dCap sLen sCap cs hfc (w':=w.setCells b o cs) (fun ad had=>by cases had; exact hst) (fun h=>by cases h)
 exact hrun
theorem wL {α:Type} (L:List α) (m:Nat) (l:List α) (h:m+l.length≤L.length) (k:Nat):(lay L m l)[k]?=if m≤k∧k<m+l.length then l[k-m]? else L[k]?:=by
 unfold lay
 rw [List.append_assoc]
 by_cases h1:k<m
 ·rw [List.getElem?_append_left (by rw [List.length_take]; omega),List.getElem?_take,if_pos h1,if_neg (by omega)]
 ·rw [List.getElem?_append_right (by rw [List.length_take]; omega),List.length_take,Nat.min_eq_left (by omega)]
  by_cases h2:k<m+l.length
  ·rw [List.getElem?_append_left (by omega),if_pos ⟨by omega,h2⟩]
  ·rw [List.getElem?_append_right (by omega),List.getElem?_drop,if_neg (by omega)]; congr 1; omega
theorem agC {cs vs:List Value} {a s:Nat} (hv:vs.length=s) (ha:a≤cs.length) (k:Nat):(cs.take a++(vs++cs.drop a))[k]?=if k<a then cs[k]? else if k<a+s then vs[k-a]? else cs[k-s]?:=by
 by_cases h1:k<a
 ·rw [List.getElem?_append_left (by rw [List.length_take]; omega),List.getElem?_take,if_pos h1,if_pos h1]
 ·rw [List.getElem?_append_right (by rw [List.length_take]; omega),List.length_take,Nat.min_eq_left ha,if_neg h1]
  by_cases h2:k<a+s
  ·rw [List.getElem?_append_left (by omega),if_pos h2]
  ·rw [List.getElem?_append_right (by omega),List.getElem?_drop,if_neg h2]; congr 1; omega
structure InsAt (w w':World) (s n:Nat) (T:List Value) (B O cap:Nat):Prop where
 cell:∃ C ty fr,w'.heap[B]?=some (.cells C ty fr)∧thawS s C.size fr∧O+cap*s≤C.size∧∀ k,k<T.length→C[O+k]?=T[k]?
 room:n+1≤cap
 same:∀ b,b<w.heap.size→b≠B→w'.heap[b]?=w.heap[b]?
 grows:Grows w w'
theorem zJ {w w0 w':World} {b off cap n i s:Nat} {C:Array Value} {ty:TypeId} {fr:Nat × Nat} {cs vs:List Value} (h0:w0.heap=w.heap) (h0k:Quiet w w0) (hb:w.heap[b]?=some (.cells C ty fr)) (hfr:thawS s C.size fr)
  (hcap:off+cap*s≤C.size) (hroom:n+1≤cap) (hi:i≤n) (hcs:cs.length=n*s) (hvs:vs.length=s) (hc:∀ k,k<cs.length→C[off+k]?=cs[k]?)
  (hw:w'=(w0.setCells b (off+(i+1)*s) (cs.drop (i*s))).setCells b (off+i*s) vs):InsAt w w' s n (cs.take (i*s)++(vs++cs.drop (i*s))) b off cap:=by
 obtain ⟨m,rfl⟩:∃ m,n=i+m:=⟨n-i,by omega⟩
 have hmul:(i+m+1)*s≤cap*s:=Nat.mul_le_mul_right s hroom
 have hL:(i+m)*s=i*s+m*s:=Nat.add_mul _ _ _
 have hL1:(i+m+1)*s=i*s+m*s+s:=by rw [Nat.add_mul,Nat.one_mul,hL]
 have hJ:(i+1)*s=i*s+s:=by rw [Nat.add_mul,Nat.one_mul]
 have hnl:(cs.drop (i*s)).length=m*s:=by rw [List.length_drop,hcs,hL]; omega
 rw [← h0] at hb
 obtain ⟨C1,hC1,hw1,ho1,hk1⟩:=cJ b (cs.drop (i*s)) (off+(i+1)*s) w0 C ty fr hb (by rw [hnl,hJ]; omega)
 have hl1:off+(i+1)*s+(cs.drop (i*s)).length≤C.toList.length:=by rw [hnl,hJ,Array.length_toList]; omega
 have hs1:C1.size=C.size:=by
  have:C1.toList.length=C.toList.length:=by rw [hC1,dZ _ _ _ hl1]
  simpa using this
 obtain ⟨C2,hC2,hw2,ho2,hk2⟩:=cJ b vs (off+i*s) _ C1 ty fr hw1 (by rw [hs1,hvs]; omega)
 have hl2:off+i*s+vs.length≤C1.toList.length:=by rw [hvs,Array.length_toList,hs1]; omega
 have hs2:C2.size=C.size:=by
  have:C2.toList.length=C1.toList.length:=by rw [hC2,dZ _ _ _ hl2]
  rw [← hs1]; simpa using this
 rw [← hw] at hw2 ho2 hk2
 refine ⟨⟨C2,ty,fr,hw2,by rw [hs2]; exact hfr,by rw [hs2]; exact hcap,fun k hk=>?_⟩,hroom,fun x _ hx=>?_,?_⟩
 ·rw [agC hvs (by rw [hcs,hL]; omega),← Array.getElem?_toList,hC2,wL _ _ _ hl2,hC1,wL _ _ _ hl1,hvs,hnl]
  have hk':k<i*s+m*s+s:=by
   simp only [List.length_append,List.length_take,hvs,hnl,hcs,hL] at hk; omega
  by_cases c1:k<i*s
  ·rw [if_pos c1,if_neg (by omega),if_neg (by omega),Array.getElem?_toList,hc k (by rw [hcs,hL]; omega)]
  ·rw [if_neg c1]
   by_cases c2:k<i*s+s
   ·rw [if_pos c2,if_pos (by omega)]; congr 1; omega
   ·rw [if_neg c2,if_neg (by omega),if_pos (by omega),List.getElem?_drop]; congr 1; omega
 ·rw [ho2 x hx,ho1 x hx,h0]
 ·refine ⟨by rw [hk2.size,hk1.size,h0]; exact Nat.le_refl _,⟨?_,?_⟩⟩
  ·exact hk2.quiet.os.trans (hk1.quiet.os.trans h0k.os)
  ·exact hk2.quiet.out.trans (hk1.quiet.out.trans h0k.out)
theorem oY {w w':World} {n s cap:Nat} {ty:TypeId} {cs vs:List Value} {Z:Array Value} (hcs:cs.length=n*s) (hvs:vs.length=s) (hroom:n+1≤cap) (hZ:(n+1)*s+Z.size=cap*s)
  (hw:w'=w.drew.alloc (.cells ((cs++vs).toArray++Z) ty)):InsAt w w' s n (cs.take (n*s)++(vs++cs.drop (n*s))) w.heap.size 0 cap:=by
 subst hw
 have e:cs.take (n*s)++(vs++cs.drop (n*s))=cs++vs:=by rw [← hcs,List.take_length,List.drop_length,List.append_nil]
 rw [e]
 have hL1:(n+1)*s=n*s+s:=by rw [Nat.add_mul,Nat.one_mul]
 have hp:(w.drew.alloc (.cells ((cs++vs).toArray++Z) ty)).heap=w.heap.push (.cells ((cs++vs).toArray++Z) ty):=rfl
 refine ⟨⟨(cs++vs).toArray++Z,ty,(0,0),by rw [hp]; simp,by intro o _ h; omega,?_,fun k hk=>?_⟩,hroom,fun b hb _=>?_,?_⟩
 ·rw [Array.size_append,List.size_toArray,List.length_append,hcs,hvs]; omega
 ·rw [Nat.zero_add,Array.getElem?_append_left (by simpa using hk)]; simp
 ·exact fO hp hb
 ·refine ⟨by rw [hp,Array.size_push]; omega,⟨rfl,rfl⟩⟩
theorem aiP {w w':World} {n i s cap:Nat} {ty:TypeId} {cs vs:List Value} {Z:Array Value} (hi:i≤n) (hcs:cs.length=n*s) (hvs:vs.length=s) (hroom:n+1≤cap) (hZ:i*s+Z.size=cap*s)
  (hw:w'=(((w.alloc (.cells ((cs.take (i*s)).toArray++Z) ty)).drew.setCells w.heap.size (i*s) vs).drew).setCells w.heap.size ((i+1)*s) (cs.drop (i*s))) :
  InsAt w w' s n (cs.take (i*s)++(vs++cs.drop (i*s))) w.heap.size 0 cap:=by
 obtain ⟨m,rfl⟩:∃ m,n=i+m:=⟨n-i,by omega⟩
 have hmul:(i+m+1)*s≤cap*s:=Nat.mul_le_mul_right s hroom
 have hL:(i+m)*s=i*s+m*s:=Nat.add_mul _ _ _
 have hL1:(i+m+1)*s=i*s+m*s+s:=by rw [Nat.add_mul,Nat.one_mul,hL]
 have hJ:(i+1)*s=i*s+s:=by rw [Nat.add_mul,Nat.one_mul]
 have hnl:(cs.drop (i*s)).length=m*s:=by rw [List.length_drop,hcs,hL]; omega
 obtain ⟨C,hC⟩:∃ C,C=(cs.take (i*s)).toArray++Z:=⟨_,rfl⟩
 have hsz:C.size=cap*s:=by
  rw [hC,Array.size_append,List.size_toArray,List.length_take,hcs,hL,Nat.min_eq_left (by omega)]; exact hZ
 rw [← hC] at hw
 have hp:((w.alloc (.cells C ty)).drew).heap=w.heap.push (.cells C ty):=rfl
 have hb:((w.alloc (.cells C ty)).drew).heap[w.heap.size]?=some (.cells C ty (0,0)):=by rw [hp]; simp
 obtain ⟨C1,hC1,hw1,ho1,hk1⟩:=cJ w.heap.size vs (i*s) _ C ty (0,0) hb (by rw [hsz,hvs]; omega)
 have hl1:i*s+vs.length≤C.toList.length:=by rw [hvs,Array.length_toList,hsz]; omega
 have hs1:C1.size=C.size:=by
  have:C1.toList.length=C.toList.length:=by rw [hC1,dZ _ _ _ hl1]
  simpa using this
 obtain ⟨C2,hC2,hw2,ho2,hk2⟩:=cJ w.heap.size (cs.drop (i*s)) ((i+1)*s) (((w.alloc (.cells C ty)).drew.setCells w.heap.size (i*s) vs).drew) C1 ty (0,0) hw1 (by rw [hs1,hsz,hnl,hJ]; omega)
 have hl2:(i+1)*s+(cs.drop (i*s)).length≤C1.toList.length:=by rw [hnl,hJ,Array.length_toList,hs1,hsz]; omega
 have hs2:C2.size=C.size:=by
  have:C2.toList.length=C1.toList.length:=by rw [hC2,dZ _ _ _ hl2]
  rw [← hs1]; simpa using this
 rw [← hw] at hw2 ho2 hk2
 refine ⟨⟨C2,ty,(0,0),hw2,by intro o _ h; omega,by rw [hs2,hsz]; omega,fun k hk=>?_⟩,hroom,fun x hx hne=>?_,?_⟩
 ·rw [Nat.zero_add,agC hvs (by rw [hcs,hL]; omega),← Array.getElem?_toList,hC2,wL _ _ _ hl2,hC1,wL _ _ _ hl1,hvs,hnl]
  have hk':k<i*s+m*s+s:=by
   simp only [List.length_append,List.length_take,hvs,hnl,hcs,hL] at hk; omega
  by_cases c1:k<i*s
  ·rw [if_pos c1,if_neg (by omega),if_neg (by omega),Array.getElem?_toList,hC,Array.getElem?_append_left (by rw [List.size_toArray,List.length_take,hcs,hL]; omega)]
   rw [List.getElem?_toArray,List.getElem?_take,if_pos c1]
  ·rw [if_neg c1]
   by_cases c2:k<i*s+s
   ·rw [if_pos c2,if_neg (by omega),if_pos (by omega)]
   ·rw [if_neg c2,if_pos (by omega),List.getElem?_drop]; congr 1; omega
 ·rw [ho2 x hne]
  show (((w.alloc (.cells C ty)).drew).setCells w.heap.size (i*s) vs).heap[x]?=_
  rw [ho1 x hne]
  exact fO hp hx
 ·have h1:(((w.alloc (.cells C ty)).drew).setCells w.heap.size (i*s) vs).drew.heap.size=w.heap.size+1:=by
   show (((w.alloc (.cells C ty)).drew).setCells w.heap.size (i*s) vs).heap.size=_
   rw [hk1.size,hp,Array.size_push]
  refine ⟨by rw [hk2.size,h1]; omega,⟨?_,?_⟩⟩
  ·rw [hk2.quiet.os]; show (((w.alloc (.cells C ty)).drew).setCells w.heap.size (i*s) vs).os=_; rw [hk1.quiet.os]; rfl
  ·rw [hk2.quiet.out]; show (((w.alloc (.cells C ty)).drew).setCells w.heap.size (i*s) vs).output=_; rw [hk1.quiet.out]; rfl
theorem aiQ {P:Program} {f s:Nat} {es:List (List TV)} {x:List TV} {i:Nat} (hE:kZ P f) (hs:∀ r ∈ es,r.length=s) (hx:x.length=s) (hk:es.flatten.all cB=true) (hkx:x.all cB=true) (hi:i≤es.length)
  (run:∀ (w:World) (base:Option Addr) (c:Nat) (cs vs:List Value) (vb voff vc:Nat) (Cv:Array Value) (tv:TypeId) (frv:Nat × Nat),cs.length=es.length*s→vs.length=s→es.length≤c→(base=none→es.length=0∧c=0) →
   (∀ a,base=some a→∃ b off C ty fr,a=⟨b,off,none⟩∧b≠vb∧w.heap[b]?=some (.cells C ty fr)∧thawS s C.size fr∧off+c*s≤C.size∧∀ k,k<cs.length→C[off+k]?=cs[k]?) →
   w.heap[vb]?=some (.cells Cv tv frv)→thawS s Cv.size frv→voff+vc*s≤Cv.size→1≤vc→(∀ k,k<vs.length→Cv[voff+k]?=vs[k]?)→(∀ u ∈ cs,u.oneCell'=true)→(∀ u ∈ vs,u.oneCell'=true) →
   Calls P f #[.slice base es.length c,.int .i64 i,.slice (some ⟨vb,voff,none⟩) 1 vc] w fun e w'=>∃ B O cap,e=.returned (.slice (some ⟨B,O,none⟩) (es.length+1) cap) ∧
    InsAt w w' s es.length (cs.take (i*s)++(vs++cs.drop (i*s))) B O cap∧((∃ a,base=some a∧B=a.block)∨B=w.heap.size)) :
  aT P f [.own s es,.int .i64 i,.own s [x]] (.own s (es.take i++x::es.drop i)) [.undef,.undef,.undef]:=by
 refine ⟨hE,rfl,?_⟩
 intro w zs F X r h1 h2 h3
 cases r with
 | own _ F1 F2 _ s es v zs ys hr hn hF=>
 cases hn with
 | int _ _ _ _ zs _ hn=>
 cases hn with
 | own _ H1 H2 _ _ _ v2 zs2 ys2 hr2 hn2 hF2=>
 cases hn2 with
 | nil _ _ hz hX=>
 rcases Row.sl_inv hr2 with ⟨_,he,_⟩ | ⟨Gv,vb,voff,vc,Cv,tv,frv,vs,rfl,hvb,hvfr,hvcap,hvle,hves,hvcs,hvc,hvrow,hvF⟩
 ·exact absurd he (by simp)
 have hvl:vs.length=s:=by simpa using hvcs
 have e1:[x].flatten=x:=by simp
 rw [e1] at hvrow
 have hbase:∃ (base:Option Addr) (c:Nat) (cs:List Value) (Gs:aF),v=.slice base es.length c∧cs.length=es.length*s∧es.length≤c∧(base=none→es.length=0∧c=0)∧Row w true Gs cs es.flatten ∧
   (∀ a,base=some a→∃ b off C ty fr,a=⟨b,off,none⟩∧b≠vb∧w.heap[b]?=some (.cells C ty fr)∧thawS s C.size fr∧off+c*s≤C.size∧∀ k,k<cs.length→C[off+k]?=cs[k]?) ∧
   (∀ b,Gs b≤F1 b)∧(∀ a b,base=some a→b=a.block→Gs b+1≤F1 b):=by
  rcases Row.sl_inv hr with ⟨rfl,rfl,h0⟩ | ⟨G1,b,off,cap,C,ty,fr,cs,rfl,hb,hfr,hcap,hle,hes,hcs,hc,hrow,hG⟩
  ·exact ⟨none,0,[],fun _=>0,rfl,by simp,Nat.le_refl _,fun _=>⟨rfl,rfl⟩,.nil _ _ fun _=>rfl,fun a h=>(by cases h),fun b=>Nat.zero_le _,fun a b h=>(by cases h)⟩
  ·refine ⟨_,cap,cs,G1,rfl,hcs,hle,fun h=>(by cases h),hrow,fun a ha=>?_,fun x=>(by rw [hG]; omega),fun a x ha hx=>?_⟩
   ·injection ha with ha
    refine ⟨b,off,C,ty,fr,ha.symm,?_,hb,hfr,hcap,hc⟩
    intro e
    have a1:=h1 b
    have a2:=hF b
    have a3:=hF2 b
    have a4:=hvF b
    have a5:=hG b
    rw [if_pos e] at a4
    rw [if_pos rfl] at a5
    omega
   ·injection ha with ha
    have hxb:x=b:=by rw [hx,← ha]
    have:=hG x
    rw [if_pos hxb] at this
    show G1 x+1≤F1 x
    omega
 obtain ⟨base,c,cs,Gs,rfl,hcs,hle,hnil,hrow,hsome,hGF,hGb⟩:=hbase
 refine (run w base c cs vs vb voff vc Cv tv frv hcs hvl hle hnil hsome hvb hvfr hvcap (by simpa using hvle) hvc (jJ hrow hk) (jJ hvrow hkx)).mono ?_
 rintro e w' ⟨B,O,cap,rfl,I,hB⟩
 have l1:(es.take i).flatten.length=i*s:=by rw [bJ _ (fun e he=>hs e (List.mem_of_mem_take he)),List.length_take,Nat.min_eq_left hi]
 have hii:i*s≤es.length*s:=Nat.mul_le_mul_right s hi
 have efl:es.flatten=(es.take i).flatten++(es.drop i).flatten:=by rw [← List.flatten_append,List.take_append_drop]
 have ecs:cs=cs.take (i*s)++cs.drop (i*s):=(List.take_append_drop _ _).symm
 have hrow':Row w true Gs (cs.take (i*s)++cs.drop (i*s)) ((es.take i).flatten++(es.drop i).flatten):=by rw [← ecs,← efl]; exact hrow
 obtain ⟨A1,A2,r1,r2,eA⟩:=Row.split (cs.take (i*s)) _ (by rw [l1,List.length_take,hcs]; omega) hrow'
 have rnew:Row w true (fun b=>A1 b+(Gv b+A2 b)) (cs.take (i*s)++(vs++cs.drop (i*s))) (es.take i++x::es.drop i).flatten:=by
  rw [List.flatten_append,List.flatten_cons]
  exact Row.append r1 (Row.append hvrow r2 (fun _=>rfl)) (fun _=>rfl)
 have hlt:=Row.lt rnew rfl
 have hGle:∀ b,A1 b+(Gv b+A2 b)≤F b:=fun b=>by have:=hF b; have:=hF2 b; have:=hvF b; have:=eA b; have:=hGF b; omega
 have hBl:∀ b,(if b=B then 1 else 0)+(A1 b+(Gv b+A2 b))≤1:=by
  intro b
  have f1:=h1 b
  by_cases e:b=B
  ·rw [if_pos e]
   rcases hB with ⟨a,ha,hBa⟩ | hB
   ·have:=hGb a b ha (e.trans hBa)
    have:=hF b; have:=hF2 b; have:=hvF b; have:=eA b
    omega
   ·have:¬ (A1 b+(Gv b+A2 b)≠0):=fun h=>by have:=hlt b h; omega
    omega
  ·rw [if_neg e]; have:=hGle b; omega
 have hsame:gY w w' (fun b=>A1 b+(Gv b+A2 b)):=fun b hb=>by
  refine I.same b (hlt b hb) (fun e=>?_)
  have:=hBl b
  rw [if_pos e] at this
  (try dsimp only at hb); omega
 obtain ⟨C,ty,fr,hC1,hC2,hC3,hC4⟩:=I.cell
 have hTl:(cs.take (i*s)++(vs++cs.drop (i*s))).length=(es.take i++x::es.drop i).length*s:=by
  have g1:(es.take i++x::es.drop i).length=es.length+1:=by simp; omega
  rw [g1]
  simp only [List.length_append,List.length_take,List.length_drop,hvl,hcs,Nat.add_mul,Nat.one_mul]
  omega
 have hnew:Row w' true (fun b=>(if b=B then 1 else 0)+(A1 b+(Gv b+A2 b))) [.slice (some ⟨B,O,none⟩) (es.length+1) cap] [.sl s (es.take i++x::es.drop i)]:=
  Row.of_sl (F1:=fun b=>A1 b+(Gv b+A2 b)) (by simp; omega) hC1 hC2 hC3 (by have:=I.room; simp; omega)
   (fun r hr=>by
    rcases List.mem_append.1 hr with hr | hr
    ·exact hs r (List.mem_of_mem_take hr)
    ·rcases List.mem_cons.1 hr with rfl | hr
     ·exact hx
     ·exact hs r (List.mem_of_mem_drop hr)) hTl hC4 (rnew.same hsame) (fun _=>rfl)
 have hBF:∀ b,b=B→F b≠0∨w.heap.size≤b:=by
  intro b e
  rcases hB with ⟨a,ha,hBa⟩ | hB
  ·left
   have:=hGb a b ha (e.trans hBa)
   have:=hF b
   omega
  ·right; omega
 refine ⟨_,fun b=>(if b=B then 1 else 0)+(A1 b+(Gv b+A2 b)),X,rfl,?_,hBl,fun b=>.inr (hX b),I.grows,fun b hb h0=>?_,fun b hb=>?_,fun b hb=>absurd (hX b) hb⟩
 ·exact .own _ (fun b=>(if b=B then 1 else 0)+(A1 b+(Gv b+A2 b))) (fun _=>0) X s _ _ _ _ hnew (.undef _ _ _ _ _ (.undef _ _ _ _ _ (.undef _ _ _ _ _ (.nil _ _ (fun _=>rfl) hX)))) (fun x=>by simp)
 ·refine I.same b hb fun e=>?_
  rcases hBF b e with h | h
  ·exact h h0
  ·omega
 ·by_cases e:b=B
  ·exact hBF b e
  ·left
   (try dsimp only at hb)
   rw [if_neg e] at hb
   have:=hGle b
   omega
end
section
@[congr] theorem bind_congr_l {α β:Type} {a b:Option α} {f:α→Option β} (h:a=b):a.bind f=b.bind f:=by rw [h]
@[congr] theorem map_congr_l {α β:Type} {a b:Option α} {f:α→β} (h:a=b):a.map f=b.map f:=by rw [h]
def akM (E:Env):List Plc→Bool
 | []=>true
 | (_,_,r,p)::l=>isU (bM (E.f r) p) && akM E l
theorem akN (E:Env):∀ l:List Plc,akM E l=l.all (fun q=>isU (bM (E.f q.2.2.1) q.2.2.2)):=by
 intro l
 induction l with
 | nil=>rfl
 | cons q l ih=>obtain ⟨k,j,r,p⟩:=q; simp [akM,ih]
theorem amr:∀ (E:Env) (q:Plc) (pls:List Plc) (outs:List AV),i8 E none (q::pls) outs=if akM E (q::pls)=true then jF E outs (q::pls) else none:=by
 intro E q pls outs
 rw [akN]; rfl
theorem SAU:(∀ E:Env,akM E []=true)∧(∀ (E:Env) (k:Nat) (j:Option Nat) (r:Nat) (p:aQ) (l:List Plc),akM E ((k,j,r,p)::l)=(isU (bM (E.f r) p) && akM E l)):=⟨fun _=>rfl,fun _ _ _ _ _ _=>rfl⟩
theorem SBK:∀ (E:Env) (outs:List AV),i8 E none [] outs=jF E outs []:=by
 intro E outs
 simp [i8]
theorem SB0:type_of% (And.intro SBK amr):=And.intro SBK amr
abbrev aB:=List UInt8
theorem wM {α:Type} {f:α→Nat} {l:List α} {x:α} (h:x ∈ l):f x≤(l.map f).sum:=by
 induction l with
 | nil=>simp at h
 | cons y l ih=>
  rcases List.mem_cons.1 h with rfl | h
  ·simp
  ·have:=ih h; simp; omega
theorem aN {α:Type} {l:List α} {i:Nat} (h:(i:Int)<(l.length:Nat)):l[i]?=some (l[i]'(by omega)):=by simp
theorem nI {α:Type} (f:α→Nat) {l:List α} {i:Nat} (h:i<l.length):f l[i]≤(l.map f).sum:=wM (List.getElem_mem h)
theorem eG {α:Type} (f:α→Nat) (l:List α) (i:Nat) (h:i<l.length):((l.take (i+1)).map f).sum=((l.take i).map f).sum+f l[i]:=by
 rw [List.take_succ_eq_append_getElem h,List.map_append,List.sum_append]
 simp only [List.map_cons,List.map_nil,List.sum_cons,List.sum_nil,Nat.add_zero]
theorem b5 {α:Type} (f:α→Nat) (l:List α) (i:Nat):((l.take i).map f).sum≤(l.map f).sum:=by
 conv=>rhs; rw [← List.take_append_drop i l,List.map_append,List.sum_append]
 omega
theorem dR {α:Type} {a b:List α} {i:Nat} (h:a.take i=b.take i) (h1:i<a.length) (h2:i<b.length) (e:a[i]=b[i]):a.take (i+1)=b.take (i+1):=by
 rw [List.take_succ_eq_append_getElem h1,List.take_succ_eq_append_getElem h2,h,e]
theorem mL {α:Type} {a b:List α} {i:Nat} (h:a.take i=b.take i) (h1:a.length≤i) (h2:b.length≤i):a=b:=by
 rwa [List.take_of_length_le h1,List.take_of_length_le h2] at h
def abM {α β:Type} (f:α→Int→β) (g:α→β) (c:α→Nat):List α→Int→Nat→List β
 | [],_,_=>[]
 | x::l,_,0=>g x::l.map g
 | x::l,k,i+1=>f x k::abM f g c l (k+c x) i
def dH {α β:Type} (f:α→Int→β) (c:α→Nat):List α→Int→List β
 | [],_=>[]
 | x::l,k=>f x k::dH f c l (k+c x)
section
variable {α β γ:Type} (f:α→Int→β) (g:α→β) (c:α→Nat)
theorem agD (l:List α) (k:Int):abM f g c l k 0=l.map g:=by cases l <;> rfl
theorem acV:∀ (l:List α) (k:Int) (i:Nat),(abM f g c l k i).length=l.length:=by
 intro l
 induction l with
 | nil=>intro k i; rfl
 | cons x l ih=>intro k i; cases i <;> simp [abM,ih]
theorem acW:∀ (l:List α) (k:Int) (i:Nat),l.length≤i→abM f g c l k i=dH f c l k:=by
 intro l
 induction l with
 | nil=>intro k i h; rfl
 | cons x l ih=>
  intro k i h
  cases i with
  | zero=>simp at h
  | succ i=>simp only [abM,dH]; rw [ih _ _ (by simpa using h)]
theorem aiR:∀ (l:List α) (k:Int) (i:Nat),(abM f g c l k i)[i]?=(l[i]?).map g:=by
 intro l
 induction l with
 | nil=>intro k i; simp [abM]
 | cons x l ih=>intro k i; cases i <;> simp [abM,ih]
theorem acX:∀ (l:List α) (k:Int) (i:Nat) (hi:i<l.length) (h:β→β) (e:h (g l[i])=f l[i] (k+((l.take i).map c).sum)),(abM f g c l k i).modify i h=abM f g c l k (i+1):=by
 intro l
 induction l with
 | nil=>intro k i hi; simp at hi
 | cons x l ih=>
  intro k i hi h e
  cases i with
  | zero=>simp only [abM,List.modify_zero_cons]; simp at e; rw [e,agD]
  | succ i=>
   simp only [abM,List.modify_succ_cons]
   rw [ih _ i (by simpa using hi) h]
   simp only [List.getElem_cons_succ,List.take_succ_cons,List.map_cons,List.sum_cons] at e
   rw [e]; congr 1; omega
theorem zK:∀ (l:List α) (k:Int),(dH f c l k).length=l.length:=by
 intro l
 induction l with
 | nil=>intro k; rfl
 | cons x l ih=>intro k; simp [dH,ih]
theorem zL:∀ (l:List α) (k:Int) (i:Nat),(dH f c l k)[i]?=(l[i]?).map fun x=>f x (k+((l.take i).map c).sum):=by
 intro l
 induction l with
 | nil=>intro k i; simp [dH]
 | cons x l ih=>
  intro k i
  cases i with
  | zero=>simp [dH]
  | succ i=>
   simp only [dH,List.getElem?_cons_succ,ih,List.take_succ_cons,List.map_cons,List.sum_cons]
   congr 1; funext y; congr 1; omega
theorem agE (r:β→γ):∀ (l:List α) (k:Int),(dH f c l k).map r=dH (fun x k=>r (f x k)) c l k:=by
 intro l
 induction l with
 | nil=>intro k; rfl
 | cons x l ih=>intro k; simp [dH,ih]
end
def pB {α:Type} (f:α→List TV) (z:List TV) (l:List α) (i:Nat):List (List TV):=abM (fun x _=>f x) (fun _=>z) (fun _=>0) l 0 i
theorem wN {α:Type} (f:α→List TV) (z:List TV) (l:List α):pB f z l 0=List.replicate l.length z:=by
 rw [pB,agD,List.map_const']
theorem mM {α:Type} (f:α→List TV) (z:List TV) (l:List α) (i:Nat) (h:l.length≤i):pB f z l i=l.map f:=by
 rw [pB,acW _ _ _ _ _ _ h]
 generalize (0:Int)=k
 induction l generalizing k i with
 | nil=>rfl
 | cons x l ih=>simp only [dH,List.map_cons]; rw [ih l.length (by omega)]
theorem agF {α:Type} (f:α→List TV) (z:List TV) (l:List α) (i:Nat):(pB f z l i).length=l.length:=acV ..
theorem mN {α:Type} (f:α→List TV) (z:List TV) (l:List α) (i:Nat) (h:i<l.length) (g:List TV→List TV) (hg:g z=f l[i]):(pB f z l i).modify i g=pB f z l (i+1):=
 acX _ _ _ _ _ _ h _ hg
def acY {α:Type} (r:α→List TV) (f:α→Int→α) (c:α→Nat) (l:List α) (k:Int) (i:Nat):List (List TV):=abM (fun x k=>r (f x k)) r c l k i
section
variable {α:Type} (r:α→List TV) (f:α→Int→α) (c:α→Nat)
theorem acZ (l:List α) (k:Int):acY r f c l k 0=l.map r:=agD ..
theorem aiS (l:List α) (k:Int) (i:Nat):(acY r f c l k i).length=l.length:=acV ..
theorem aiT (l:List α) (k:Int) (i:Nat):(acY r f c l k i)[i]?=(l[i]?).map r:=aiR ..
theorem qA (l:List α) (k:Int) (i:Nat) (h:l.length≤i):acY r f c l k i=(dH f c l k).map r:=by rw [acY,acW _ _ _ _ _ _ h,agE]
theorem qB (l:List α) (k:Int) (i:Nat) (hi:i<l.length) (h:List TV→List TV) (e:h (r l[i])=r (f l[i] (k+((l.take i).map c).sum))):(acY r f c l k i).modify i h=acY r f c l k (i+1):=
 acX _ _ _ _ _ _ hi _ e
end
def nJ (x:UInt8):List TV:=[.int .u8 x.toNat]
def iZ (b:aB) (k:Int):aB:=dH (fun _ k=>UInt8.ofInt k) (fun _=>1) b k
theorem agG {α:Type} (l:List α):(l.map fun _=>1).sum=l.length:=by induction l with | nil=>rfl | cons x l ih=>simp [ih]; omega
theorem aer (b:aB) (k:Int):(iZ b k).length=b.length:=zK ..
theorem aes (b:aB) (k:Int) (i:Nat):(iZ b k)[i]?=(b[i]?).map fun _=>UInt8.ofInt (k+i):=by
 rw [iZ,zL]
 by_cases h:i<b.length
 ·simp only [agG,List.length_take,Nat.min_eq_left (Nat.le_of_lt h)]
 ·rw [List.getElem?_eq_none (by omega)]; rfl
theorem uB (k:Int):IntKind.u8.wrap k=((UInt8.ofInt k).toNat:Int):=by
 have e:IntKind.u8.wrap k=k%256:=by
  have h1:((2:Int)^IntKind.u8.bits)=256:=by decide
  unfold IntKind.wrap
  simp only [h1]
  simp [IntKind.signed]
 rw [e]
 simp [UInt8.ofInt]
 omega
theorem uC (b:aB):aL b=b.map nJ:=rfl
theorem aet (b:aB) (k:Int) (i:Nat) (h:b.length≤i):acY nJ (fun _ k=>UInt8.ofInt k) (fun _=>1) b k i=aL (iZ b k):=qA _ _ _ _ _ _ h
theorem SF:(∀ (α:Type) (f:α→List TV) (z:List TV) (l:List α) (i:Nat),(pB f z l i).length=l.length) ∧
  (∀ (α:Type) (r:α→List TV) (f:α→Int→α) (c:α→Nat) (l:List α) (k:Int) (i:Nat),(acY r f c l k i).length=l.length) ∧
  (∀ (α:Type) (r:α→List TV) (f:α→Int→α) (c:α→Nat) (l:List α) (k:Int) (i:Nat),(acY r f c l k i)[i]?=(l[i]?).map r) ∧
  (∀ (α β:Type) (f:α→Int→β) (c:α→Nat) (l:List α) (k:Int),(dH f c l k).length=l.length) ∧
  (∀ (α β:Type) (f:α→Int→β) (c:α→Nat) (l:List α) (k:Int) (i:Nat),(dH f c l k)[i]?=(l[i]?).map fun x=>f x (k+((l.take i).map c).sum)) ∧
  (∀ (b:aB) (k:Int),(iZ b k).length=b.length)∧(∀ (b:aB) (k:Int) (i:Nat),(iZ b k)[i]?=(b[i]?).map fun _=>UInt8.ofInt (k+i)) ∧
  (∀ (α:Type) (l:List α) (i:Nat) (f g:α→α),(l.modify i f).modify i g=l.modify i (fun x=>g (f x)))∧(∀ (α:Type) (l:List α) (i:Nat) (f:α→α),(l.modify i f)[i]?=(l[i]?).map f) ∧
  (∀ (α:Type) (l:List α) (i:Nat) (f:α→α),(l.modify i f).length=l.length):=
 ⟨fun _=>agF,fun _=>aiS,fun _=>aiT,fun _ _=>zK,fun _ _=>zL,aer,aes,
  fun _ l i f g=>List.modify_modify_eq f g i l,fun _ l i f=>by simp,fun _ l i f=>by simp⟩
theorem rY (b:aB):fN (aL b)=true:=by
 simp [fN,aL]
 intros; rfl
theorem zM (b:aB):iT (aL b)=true:=by
 simp [iT,aL]
 intros; rfl
theorem abN (b:aB):bY (aL b)=some b:=by
 induction b with
 | nil=>rfl
 | cons x b ih=>
  simp only [aL,List.map_cons]
  simp only [aL] at ih
  have h1:m6 [.int .u8 x.toNat]=some x:=by
   have:=x.toNat_lt
   simp [m6]
   try omega
  simp [bY,ih,h1]
theorem SK:iT []=true∧(∀ (e:List TV) (l:List (List TV)),iT (e::l)=(e.all cB && iT l))∧(∀ (t:TV) (e:List TV),(t::e).all cB=(cB t && e.all cB))∧([]:List TV).all cB=true ∧
  (∀ b,cB (.bool b)=true)∧(∀ k n,cB (.int k n)=true)∧(∀ s,cB (.str s)=true)∧(∀ s es,cB (.sl s es)=true) ∧
  fN []=true∧(∀ (e:List TV) (l:List (List TV)),fN (e::l)=(e.all i5 && fN l))∧(∀ (t:TV) (e:List TV),(t::e).all i5=(i5 t && e.all i5))∧([]:List TV).all i5=true ∧
  (∀ b,i5 (.bool b)=true)∧(∀ k n,i5 (.int k n)=true)∧(∀ s,i5 (.str s)=true) ∧
  (∀ b:aB,fN (aL b)=true)∧(∀ b:aB,iT (aL b)=true)∧(∀ b:aB,bY (aL b)=some b):=
 ⟨rfl,fun _ _=>rfl,fun _ _=>rfl,rfl,fun _=>rfl,fun _ _=>rfl,fun _=>rfl,fun _ _=>rfl,rfl,fun _ _=>rfl,fun _ _=>rfl,rfl,fun _=>rfl,fun _ _=>rfl,fun _=>rfl,rY,zM,abN⟩
theorem SB:min 1 IntKind.i64.bits=1∧min 7 IntKind.i64.bits=7∧min 8 IntKind.i64.bits=8∧min 14 IntKind.i64.bits=14∧min 16 IntKind.i64.bits=16∧min 24 IntKind.i64.bits=24∧min 33 IntKind.i64.bits=33∧min 47 IntKind.i64.bits=47∧min 1 IntKind.u32.bits=1∧min 8 IntKind.u32.bits=8∧min 16 IntKind.u32.bits=16∧min 24 IntKind.u32.bits=24:=by decide
theorem alk (b:aB):aL b=b.map fun x=>[.int .u8 x.toNat]:=rfl
theorem nK {α:Type} (c:α→Nat) (h:∀ x,1≤c x) (l:List α):l.length≤(l.map c).sum:=by
 induction l with
 | nil=>simp
 | cons x l ih=>have:=h x; simp; omega
def szC (l:Int) (n:Nat):Int:=if l<n then -1 else l-n
theorem dB {l:Int} {n:Nat} (h:l<n):szC l n=-1:=if_pos h
theorem fM {l:Int} {n:Nat} (h:¬ l<n):szC l n=l-n:=if_neg h
def ahH (n:Nat):aB:=if h:n=0 then [] else ahH (n/10)++[UInt8.ofNat (48+n%10)]
termination_by n
def gJ (k:Int):aB:=if k≤0 then [109,48] else 109::ahH k.toNat
def fB {α:Type} (c:α→Nat) (l:List α):Nat:=(l.map c).sum
def szM {α:Type} (c:α→Nat) (l:List α):Nat:=l.length+(l.map c).sum
structure Ent where
 name:aB
 ino:Int
 deriving DecidableEq,Inhabited
def Ent.row (a:Ent):List TV:=[.str a.name,.int .i64 a.ino]
def Ent.x (a:Ent):AV:=.agg [.str a.name,.int .i64 a.ino]
def Ent.o (a:Ent):AV:=.agg [.str a.name,.int .i64 a.ino]
def Ent.sz (a:Ent):Nat:=a.name.length
def Ent.fine (a:Ent):Prop:=(a.name.length<2^48)
def Ent.cnt (a:Ent):Nat:=1+1
def Ent.cntT (a:Ent):Nat:=0
def Ent.marked (a:Ent) (k:Int):Ent:={ name:=gJ (k),ino:=k+1 }
def Ent.markT (a:Ent) (k:Int):Ent:={ name:=a.name,ino:=a.ino }
def Ent.zero:List TV:=[.str [],.int .i64 0]
theorem Ent.eq' {a b:Ent} (h0:a.name=b.name) (h1:a.ino=b.ino):a=b:=by cases a; cases b; simp_all
theorem Ent.cnt1 (a:Ent):1≤a.cnt:=by simp only [Ent.cnt]; omega
structure Attr where
 name:aB
 val:aB
 deriving DecidableEq,Inhabited
def Attr.row (a:Attr):List TV:=[.str a.name,.str a.val]
def Attr.x (a:Attr):AV:=.agg [.str a.name,.str a.val]
def Attr.o (a:Attr):AV:=.agg [.str a.name,.str a.val]
def Attr.sz (a:Attr):Nat:=a.name.length+a.val.length
def Attr.fine (a:Attr):Prop:=(a.name.length<2^48)∧(a.val.length<2^48)
def Attr.cnt (a:Attr):Nat:=1+1
def Attr.cntT (a:Attr):Nat:=0
def Attr.marked (a:Attr) (k:Int):Attr:={ name:=gJ (k),val:=gJ (k+1) }
def Attr.markT (a:Attr) (k:Int):Attr:={ name:=a.name,val:=a.val }
def Attr.zero:List TV:=[.str [],.str []]
theorem Attr.eq' {a b:Attr} (h0:a.name=b.name) (h1:a.val=b.val):a=b:=by cases a; cases b; simp_all
theorem Attr.cnt1 (a:Attr):1≤a.cnt:=by simp only [Attr.cnt]; omega
structure Inode where
 ino:Int
 kind:Int
 links:Int
 data:aB
 ents:List Ent
 attrs:List Attr
 deriving DecidableEq,Inhabited
def Inode.row (a:Inode):List TV:=[.int .i64 a.ino,.int .i64 a.kind,.int .i64 a.links,.sl 1 (aL a.data),.sl 2 (a.ents.map Ent.row),.sl 2 (a.attrs.map Attr.row)]
def Inode.x (a:Inode):AV:=.agg [.int .i64 a.ino,.int .i64 a.kind,.int .i64 a.links,.ext 1 (aL a.data),.ext 2 (a.ents.map Ent.row),.ext 2 (a.attrs.map Attr.row)]
def Inode.o (a:Inode):AV:=.agg [.int .i64 a.ino,.int .i64 a.kind,.int .i64 a.links,.own 1 (aL a.data),.own 2 (a.ents.map Ent.row),.own 2 (a.attrs.map Attr.row)]
def Inode.sz (a:Inode):Nat:=a.data.length+szM Ent.sz a.ents+szM Attr.sz a.attrs
def Inode.fine (a:Inode):Prop:=(a.data.length<2^48)∧(a.ents.length<2^48∧∀ x ∈ a.ents,x.fine)∧(a.attrs.length<2^48∧∀ x ∈ a.attrs,x.fine)
def Inode.cnt (a:Inode):Nat:=1+1+1+a.data.length+fB Ent.cnt a.ents+fB Attr.cnt a.attrs
def Inode.cntT (a:Inode):Nat:=a.data.length+fB Ent.cnt a.ents+fB Attr.cnt a.attrs
def Inode.marked (a:Inode) (k:Int):Inode:={ ino:=k,kind:=k+1,links:=k+1+1,data:=iZ a.data (k+1+1+1),ents:=dH Ent.marked Ent.cnt a.ents (k+1+1+1+(a.data.length:Nat)),attrs:=dH Attr.marked Attr.cnt a.attrs (k+1+1+1+(a.data.length:Nat)+(fB Ent.cnt a.ents:Nat)) }
def Inode.markT (a:Inode) (k:Int):Inode:={ ino:=a.ino,kind:=a.kind,links:=a.links,data:=iZ a.data (k),ents:=dH Ent.marked Ent.cnt a.ents (k+(a.data.length:Nat)),attrs:=dH Attr.marked Attr.cnt a.attrs (k+(a.data.length:Nat)+(fB Ent.cnt a.ents:Nat)) }
def Inode.zero:List TV:=[.int .i64 0,.int .i64 0,.int .i64 0,.sl 1 [],.sl 2 [],.sl 2 []]
theorem Inode.eq' {a b:Inode} (h0:a.ino=b.ino) (h1:a.kind=b.kind) (h2:a.links=b.links) (h3:a.data=b.data) (h4:a.ents=b.ents) (h5:a.attrs=b.attrs):a=b:=by cases a; cases b; simp_all
theorem Inode.cnt1 (a:Inode):1≤a.cnt:=by simp only [Inode.cnt]; omega
structure Tab where
 inodes:List Inode
 next:Int
 deriving DecidableEq,Inhabited
def Tab.row (a:Tab):List TV:=[.sl 6 (a.inodes.map Inode.row),.int .i64 a.next]
def Tab.x (a:Tab):AV:=.agg [.ext 6 (a.inodes.map Inode.row),.int .i64 a.next]
def Tab.o (a:Tab):AV:=.agg [.own 6 (a.inodes.map Inode.row),.int .i64 a.next]
def Tab.sz (a:Tab):Nat:=szM Inode.sz a.inodes
def Tab.fine (a:Tab):Prop:=(a.inodes.length<2^48∧∀ x ∈ a.inodes,x.fine)
def Tab.cnt (a:Tab):Nat:=fB Inode.cnt a.inodes+1
def Tab.cntT (a:Tab):Nat:=fB Inode.cnt a.inodes
def Tab.marked (a:Tab) (k:Int):Tab:={ inodes:=dH Inode.marked Inode.cnt a.inodes (k),next:=k+(fB Inode.cnt a.inodes:Nat) }
def Tab.markT (a:Tab) (k:Int):Tab:={ inodes:=dH Inode.marked Inode.cnt a.inodes (k),next:=a.next }
def Tab.zero:List TV:=[.sl 6 [],.int .i64 0]
theorem Tab.eq' {a b:Tab} (h0:a.inodes=b.inodes) (h1:a.next=b.next):a=b:=by cases a; cases b; simp_all
theorem Tab.cnt1 (a:Tab):1≤a.cnt:=by simp only [Tab.cnt]; omega
structure Vol where
 id:Int
 name:aB
 ro:Bool
 limit:Int
 t:Tab
 deriving DecidableEq,Inhabited
def Vol.row (a:Vol):List TV:=[.int .i64 a.id,.str a.name,.bool a.ro,.int .i64 a.limit,.sl 6 (a.t.inodes.map Inode.row),.int .i64 a.t.next]
def Vol.x (a:Vol):AV:=.agg [.int .i64 a.id,.str a.name,.bool a.ro,.int .i64 a.limit,.ext 6 (a.t.inodes.map Inode.row),.int .i64 a.t.next]
def Vol.o (a:Vol):AV:=.agg [.int .i64 a.id,.str a.name,.bool a.ro,.int .i64 a.limit,.own 6 (a.t.inodes.map Inode.row),.int .i64 a.t.next]
def Vol.sz (a:Vol):Nat:=a.name.length+a.t.sz
def Vol.fine (a:Vol):Prop:=(a.name.length<2^48)∧(a.t.fine)
def Vol.cnt (a:Vol):Nat:=1+1+1+1+fB Inode.cnt a.t.inodes+1
def Vol.cntT (a:Vol):Nat:=a.t.cntT
def Vol.marked (a:Vol) (k:Int):Vol:={ id:=k,name:=gJ (k+1),ro:=decide ((k+1+1).tmod 3=0),limit:=k+1+1+1,t:={ inodes:=dH Inode.marked Inode.cnt a.t.inodes (k+1+1+1+1),next:=k+1+1+1+1+(fB Inode.cnt a.t.inodes:Nat) } }
def Vol.markT (a:Vol) (k:Int):Vol:={ id:=a.id,name:=a.name,ro:=a.ro,limit:=a.limit,t:=a.t.markT (k) }
def Vol.zero:List TV:=[.int .i64 0,.str [],.bool false,.int .i64 0,.sl 6 [],.int .i64 0]
theorem Vol.eq' {a b:Vol} (h0:a.id=b.id) (h1:a.name=b.name) (h2:a.ro=b.ro) (h3:a.limit=b.limit) (h4:a.t=b.t):a=b:=by cases a; cases b; simp_all
theorem Vol.cnt1 (a:Vol):1≤a.cnt:=by simp only [Vol.cnt]; omega
structure Fs where
 vols:List Vol
 next:Int
 deriving DecidableEq,Inhabited
def Fs.row (a:Fs):List TV:=[.sl 6 (a.vols.map Vol.row),.int .i64 a.next]
def Fs.x (a:Fs):AV:=.agg [.ext 6 (a.vols.map Vol.row),.int .i64 a.next]
def Fs.o (a:Fs):AV:=.agg [.own 6 (a.vols.map Vol.row),.int .i64 a.next]
def Fs.sz (a:Fs):Nat:=szM Vol.sz a.vols
def Fs.fine (a:Fs):Prop:=(a.vols.length<2^48∧∀ x ∈ a.vols,x.fine)
def Fs.cnt (a:Fs):Nat:=fB Vol.cnt a.vols+1
def Fs.cntT (a:Fs):Nat:=fB Vol.cnt a.vols
def Fs.marked (a:Fs) (k:Int):Fs:={ vols:=dH Vol.marked Vol.cnt a.vols (k),next:=k+(fB Vol.cnt a.vols:Nat) }
def Fs.markT (a:Fs) (k:Int):Fs:={ vols:=dH Vol.marked Vol.cnt a.vols (k),next:=a.next }
def Fs.zero:List TV:=[.sl 6 [],.int .i64 0]
theorem Fs.eq' {a b:Fs} (h0:a.vols=b.vols) (h1:a.next=b.next):a=b:=by cases a; cases b; simp_all
theorem Fs.cnt1 (a:Fs):1≤a.cnt:=by simp only [Fs.cnt]; omega
structure Op where
 kind:Int
 vol:Int
 path:aB
 to':aB
 off:Int
 data:aB
 deriving DecidableEq,Inhabited
def Op.row (a:Op):List TV:=[.int .i64 a.kind,.int .i64 a.vol,.str a.path,.str a.to',.int .i64 a.off,.sl 1 (aL a.data)]
def Op.x (a:Op):AV:=.agg [.int .i64 a.kind,.int .i64 a.vol,.str a.path,.str a.to',.int .i64 a.off,.ext 1 (aL a.data)]
def Op.o (a:Op):AV:=.agg [.int .i64 a.kind,.int .i64 a.vol,.str a.path,.str a.to',.int .i64 a.off,.own 1 (aL a.data)]
def Op.sz (a:Op):Nat:=a.path.length+a.to'.length+a.data.length
def Op.fine (a:Op):Prop:=(a.path.length<2^48)∧(a.to'.length<2^48)∧(a.data.length<2^48)
def Op.cnt (a:Op):Nat:=1+1+1+1+1+a.data.length
def Op.cntT (a:Op):Nat:=a.data.length
def Op.marked (a:Op) (k:Int):Op:={ kind:=k,vol:=k+1,path:=gJ (k+1+1),to':=gJ (k+1+1+1),off:=k+1+1+1+1,data:=iZ a.data (k+1+1+1+1+1) }
def Op.markT (a:Op) (k:Int):Op:={ kind:=a.kind,vol:=a.vol,path:=a.path,to':=a.to',off:=a.off,data:=iZ a.data (k) }
def Op.zero:List TV:=[.int .i64 0,.int .i64 0,.str [],.str [],.int .i64 0,.sl 1 []]
theorem Op.eq' {a b:Op} (h0:a.kind=b.kind) (h1:a.vol=b.vol) (h2:a.path=b.path) (h3:a.to'=b.to') (h4:a.off=b.off) (h5:a.data=b.data):a=b:=by cases a; cases b; simp_all
theorem Op.cnt1 (a:Op):1≤a.cnt:=by simp only [Op.cnt]; omega
theorem ST :
  (∀ a:Ent,a.row=[.str a.name,.int .i64 a.ino]) ∧
  (∀ a:Ent,a.x=.agg [.str a.name,.int .i64 a.ino]) ∧
  (∀ a:Ent,a.o=.agg [.str a.name,.int .i64 a.ino]) ∧
  (∀ a:Attr,a.row=[.str a.name,.str a.val]) ∧
  (∀ a:Attr,a.x=.agg [.str a.name,.str a.val]) ∧
  (∀ a:Attr,a.o=.agg [.str a.name,.str a.val]) ∧
  (∀ a:Inode,a.row=[.int .i64 a.ino,.int .i64 a.kind,.int .i64 a.links,.sl 1 (aL a.data),.sl 2 (a.ents.map Ent.row),.sl 2 (a.attrs.map Attr.row)]) ∧
  (∀ a:Inode,a.x=.agg [.int .i64 a.ino,.int .i64 a.kind,.int .i64 a.links,.ext 1 (aL a.data),.ext 2 (a.ents.map Ent.row),.ext 2 (a.attrs.map Attr.row)]) ∧
  (∀ a:Inode,a.o=.agg [.int .i64 a.ino,.int .i64 a.kind,.int .i64 a.links,.own 1 (aL a.data),.own 2 (a.ents.map Ent.row),.own 2 (a.attrs.map Attr.row)]) ∧
  (∀ a:Tab,a.row=[.sl 6 (a.inodes.map Inode.row),.int .i64 a.next]) ∧
  (∀ a:Tab,a.x=.agg [.ext 6 (a.inodes.map Inode.row),.int .i64 a.next]) ∧
  (∀ a:Tab,a.o=.agg [.own 6 (a.inodes.map Inode.row),.int .i64 a.next]) ∧
  (∀ a:Vol,a.row=[.int .i64 a.id,.str a.name,.bool a.ro,.int .i64 a.limit,.sl 6 (a.t.inodes.map Inode.row),.int .i64 a.t.next]) ∧
  (∀ a:Vol,a.x=.agg [.int .i64 a.id,.str a.name,.bool a.ro,.int .i64 a.limit,.ext 6 (a.t.inodes.map Inode.row),.int .i64 a.t.next]) ∧
  (∀ a:Vol,a.o=.agg [.int .i64 a.id,.str a.name,.bool a.ro,.int .i64 a.limit,.own 6 (a.t.inodes.map Inode.row),.int .i64 a.t.next]) ∧
  (∀ a:Fs,a.row=[.sl 6 (a.vols.map Vol.row),.int .i64 a.next]) ∧
  (∀ a:Fs,a.x=.agg [.ext 6 (a.vols.map Vol.row),.int .i64 a.next]) ∧
  (∀ a:Fs,a.o=.agg [.own 6 (a.vols.map Vol.row),.int .i64 a.next]) ∧
  (∀ a:Op,a.row=[.int .i64 a.kind,.int .i64 a.vol,.str a.path,.str a.to',.int .i64 a.off,.sl 1 (aL a.data)]) ∧
  (∀ a:Op,a.x=.agg [.int .i64 a.kind,.int .i64 a.vol,.str a.path,.str a.to',.int .i64 a.off,.ext 1 (aL a.data)]) ∧
  (∀ a:Op,a.o=.agg [.int .i64 a.kind,.int .i64 a.vol,.str a.path,.str a.to',.int .i64 a.off,.own 1 (aL a.data)]) ∧
  (∀ (α β:Type) (f:α→β) (l:List α),(l.map f).length=l.length)∧(∀ (α β:Type) (f:α→β) (l:List α) (i:Nat),(l.map f)[i]?=(l[i]?).map f):=by
 refine ⟨?_,?_,?_,?_,?_,?_,?_,?_,?_,?_,?_,?_,?_,?_,?_,?_,?_,?_,?_,?_,?_,?_,?_⟩ <;> intros <;> first | rfl | simp
theorem SX:type_of% (And.intro SAU <| And.intro SU <| And.intro SGs <| And.intro SD <| And.intro S1 <| And.intro S2 <| And.intro S3 <| And.intro SE <| And.intro SC <| And.intro SO <| And.intro ST <| And.intro SF <| And.intro SK <| And.intro @yJ <| And.intro @yK <| And.intro @Bool.beq_eq_decide_eq.{0} <| And.intro @Int.natCast_zero <| And.intro @Int.add_zero <| And.intro @ge_iff_le.{0} <| And.intro @gt_iff_lt.{0} <| And.intro @Option.isNone_none.{0} <| And.intro @Option.isNone_some.{0} <| And.intro @List.nil_append.{0} <| And.intro @List.append_nil.{0} <| And.intro @Bool.and_true <| And.intro @Bool.and_self <| SB):=And.intro SAU <| And.intro SU <| And.intro SGs <| And.intro SD <| And.intro S1 <| And.intro S2 <| And.intro S3 <| And.intro SE <| And.intro SC <| And.intro SO <| And.intro ST <| And.intro SF <| And.intro SK <| And.intro @yJ <| And.intro @yK <| And.intro @Bool.beq_eq_decide_eq.{0} <| And.intro @Int.natCast_zero <| And.intro @Int.add_zero <| And.intro @ge_iff_le.{0} <| And.intro @gt_iff_lt.{0} <| And.intro @Option.isNone_none.{0} <| And.intro @Option.isNone_some.{0} <| And.intro @List.nil_append.{0} <| And.intro @List.append_nil.{0} <| And.intro @Bool.and_true <| And.intro @Bool.and_self <| SB
end
def inR (x a b:Int):Bool:=decide (a≤x∧x≤b)
section
theorem zO {l m:List Int} (h:l.Nodup) (hs:∀ x ∈ l,x ∈ m):l.length≤m.length:=by
 induction l generalizing m with
 | nil=>simp
 | cons x l ih=>
  obtain ⟨hx,hl⟩:=List.nodup_cons.1 h
  have hm:=hs x (by simp)
  have:=ih (m:=m.erase x) hl fun y hy=>(List.mem_erase_of_ne (by rintro rfl; exact hx hy)).2 (hs y (by simp [hy]))
  rw [List.length_erase_of_mem hm] at this
  have:0<m.length:=List.length_pos_of_mem hm
  simp only [List.length_cons]; omega
abbrev Up (l:List Int):Prop:=l.Pairwise (·<·)
theorem wO {l:List Int} (h:Up l):l.Nodup:=h.imp fun h=>by omega
theorem ajK {l m:List Int} (hl:Up l) (hm:Up m) (h:∀ x,x ∈ l↔x ∈ m):l=m:=by
 induction l generalizing m with
 | nil=>
  cases m with
  | nil=>rfl
  | cons y m=>exact absurd ((h y).2 (by simp)) (by simp)
 | cons x l ih=>
  cases m with
  | nil=>exact absurd ((h x).1 (by simp)) (by simp)
  | cons y m=>
   obtain ⟨a1,a2⟩:=List.pairwise_cons.1 hl
   obtain ⟨b1,b2⟩:=List.pairwise_cons.1 hm
   have e:x=y:=by
    have h1:=(h x).1 (by simp)
    have h2:=(h y).2 (by simp)
    simp only [List.mem_cons] at h1 h2
    rcases h1 with h1 | h1
    ·exact h1
    rcases h2 with h2 | h2
    ·exact h2.symm
    have:=a1 y h2; have:=b1 x h1; omega
   subst e
   congr 1
   refine ih a2 b2 fun z=>⟨fun hz=>?_,fun hz=>?_⟩
   ·have:=(h z).1 (by simp [hz])
    simp only [List.mem_cons] at this
    rcases this with rfl | this
    ·exact absurd (a1 _ hz) (by omega)
    ·exact this
   ·have:=(h z).2 (by simp [hz])
    simp only [List.mem_cons] at this
    rcases this with rfl | this
    ·exact absurd (b1 _ hz) (by omega)
    ·exact this
def agH (l:List Int) (n:Int):List Int:=if n ∈ l then l else l.takeWhile (·<n)++n::l.dropWhile (·<n)
theorem aiU (l:List Int) (n x:Int):x ∈ agH l n↔x=n∨x ∈ l:=by
 unfold agH
 split
 ·rename_i h
  constructor
  ·exact .inr
  ·rintro (rfl | h')
   ·exact h
   ·exact h'
 ·have e:x ∈ l↔x ∈ l.takeWhile (·<n)∨x ∈ l.dropWhile (·<n):=by
   rw [← List.mem_append,List.takeWhile_append_dropWhile]
  rw [e]
  simp only [List.mem_append,List.mem_cons]
  constructor
  ·rintro (h | h | h)
   ·exact .inr (.inl h)
   ·exact .inl h
   ·exact .inr (.inr h)
  ·rintro (h | h | h)
   ·exact .inr (.inl h)
   ·exact .inl h
   ·exact .inr (.inr h)
theorem akO {l:List Int} (h:Up l) (n:Int):Up (agH l n):=by
 unfold agH
 split
 ·exact h
 ·rename_i hn
  induction l with
  | nil=>simp [Up]
  | cons x l ih=>
   obtain ⟨a1,a2⟩:=List.pairwise_cons.1 h
   have hnx:n≠x:=fun e=>hn (by simp [e])
   have ih:=ih a2 fun h=>hn (by simp [h])
   by_cases hx:x<n
   ·rw [List.takeWhile_cons_of_pos (by simpa using hx),List.dropWhile_cons_of_pos (by simpa using hx)]
    refine List.pairwise_cons.2 ⟨fun y hy=>?_,ih⟩
    have hy:y ∈ l.takeWhile (·<n)++n::l.dropWhile (·<n):=hy
    rw [List.mem_append,List.mem_cons] at hy
    rcases hy with hy | rfl | hy
    ·exact a1 y (List.takeWhile_sublist _ |>.subset hy)
    ·exact hx
    ·exact a1 y (List.dropWhile_sublist _ |>.subset hy)
   ·rw [List.takeWhile_cons_of_neg (by simpa using hx),List.dropWhile_cons_of_neg (by simpa using hx)]
    refine List.pairwise_cons.2 ⟨fun y hy=>?_,h⟩
    simp only [List.mem_cons] at hy
    rcases hy with rfl | hy
    ·omega
    ·have:=a1 y hy; omega
section
variable (nb:Int→Option (List Int))
inductive Reach:Int→Prop where
 | root (h:(nb 1).isSome=true):Reach 1
 | step (i j:Int) (l:List Int) (hi:Reach i) (hl:nb i=some l) (hj:j ∈ l) (hs:(nb j).isSome=true):Reach j
def ac0 (out:List Int) (j:Int):List Int:=if (nb j).isSome then agH out j else out
def ac1 (out:List Int) (i:Int):List Int:=((nb i).getD []).foldl (ac0 nb) out
def agI (l:List Int):List Int:=l.foldl (ac1 nb) l
def bS:Nat→List Int
 | 0=>[1]
 | k+1=>agI nb (bS k)
def mO (n:Nat):List Int:=if (nb 1).isSome then bS nb n else []
theorem zP (js:List Int):∀ (out:List Int) (x:Int),x ∈ js.foldl (ac0 nb) out↔x ∈ out∨(x ∈ js∧(nb x).isSome=true):=by
 induction js with
 | nil=>intro out x; simp
 | cons j js ih=>
  intro out x
  rw [List.foldl_cons,ih]
  unfold ac0
  split
  ·rename_i hj
   rw [aiU,List.mem_cons]
   constructor
   ·rintro ((rfl | h) | h)
    ·exact .inr ⟨.inl rfl,hj⟩
    ·exact .inl h
    ·exact .inr ⟨.inr h.1,h.2⟩
   ·rintro (h | ⟨rfl | h,hs⟩)
    ·exact .inl (.inr h)
    ·exact .inl (.inl rfl)
    ·exact .inr ⟨h,hs⟩
  ·rename_i hj
   rw [List.mem_cons]
   constructor
   ·rintro (h | h)
    ·exact .inl h
    ·exact .inr ⟨.inr h.1,h.2⟩
   ·rintro (h | ⟨rfl | h,hs⟩)
    ·exact .inl h
    ·exact absurd hs hj
    ·exact .inr ⟨h,hs⟩
theorem ac2 (js:List Int):∀ (out:List Int),Up out→Up (js.foldl (ac0 nb) out):=by
 induction js with
 | nil=>intro out h; exact h
 | cons j js ih=>
  intro out h
  rw [List.foldl_cons]
  refine ih _ ?_
  unfold ac0
  split
  ·exact akO h j
  ·exact h
theorem zQ (l:List Int):∀ (out:List Int) (x:Int),x ∈ l.foldl (ac1 nb) out↔x ∈ out∨(∃ i ∈ l,x ∈ (nb i).getD [])∧(nb x).isSome=true:=by
 induction l with
 | nil=>intro out x; simp
 | cons i l ih=>
  intro out x
  rw [List.foldl_cons,ih]
  unfold ac1
  rw [zP]
  simp only [List.mem_cons,exists_eq_or_imp]
  constructor
  ·rintro ((h | h) | h)
   ·exact .inl h
   ·exact .inr ⟨.inl h.1,h.2⟩
   ·exact .inr ⟨.inr h.1,h.2⟩
  ·rintro (h | ⟨h | h,hs⟩)
   ·exact .inl (.inl h)
   ·exact .inl (.inr ⟨h,hs⟩)
   ·exact .inr ⟨h,hs⟩
theorem ac3 (l:List Int):∀ (out:List Int),Up out→Up (l.foldl (ac1 nb) out):=by
 induction l with
 | nil=>intro out h; exact h
 | cons i l ih=>intro out h; rw [List.foldl_cons]; exact ih _ (ac2 nb _ _ h)
theorem jT (l:List Int) (x:Int):x ∈ agI nb l↔x ∈ l∨(∃ i ∈ l,x ∈ (nb i).getD [])∧(nb x).isSome=true:=zQ nb l l x
theorem aiV {l:List Int} (h:Up l):Up (agI nb l):=ac3 nb l l h
theorem fV (k:Nat):Up (bS nb k):=by
 induction k with
 | zero=>simp [bS,Up]
 | succ k ih=>exact aiV nb ih
theorem agJ (n:Nat):Up (mO nb n):=by
 unfold mO
 split
 ·exact fV nb n
 ·simp [Up]
theorem jU (h1:(nb 1).isSome=true) (k:Nat):∀ x ∈ bS nb k,Reach nb x:=by
 induction k with
 | zero=>intro x hx; simp only [bS,List.mem_singleton] at hx; subst hx; exact .root h1
 | succ k ih=>
  intro x hx
  rcases (jT nb _ _).1 hx with h | ⟨⟨i,hi,hx⟩,hs⟩
  ·exact ih x h
  ·cases hn:nb i with
   | none=>rw [hn] at hx; exact absurd hx (by simp)
   | some l=>rw [hn] at hx; exact .step i x l (ih i hi) hn hx hs
theorem nL {x:Int} (h:Reach nb x):(nb x).isSome=true:=by
 cases h with
 | root h=>exact h
 | step _ _ _ _ _ _ h=>exact h
def akP (l:List Int):Prop:=∀ i ∈ l,∀ x ∈ (nb i).getD [],(nb x).isSome=true→x ∈ l
theorem abO (k:Nat):akP nb (bS nb k)∨k+1≤(bS nb k).length:=by
 induction k with
 | zero=>exact .inr (by simp [bS])
 | succ k ih=>
  by_cases hs:akP nb (bS nb k)
  ·left
   have e:bS nb (k+1)=bS nb k:=by
    refine ajK (fV nb _) (fV nb _) fun x=>?_
    show x ∈ agI nb _↔_
    rw [jT]
    exact ⟨fun h=>h.elim id fun ⟨⟨i,hi,hx⟩,hx'⟩=>hs i hi x hx hx',.inl⟩
   rw [e]; exact hs
  ·right
   have ih:=ih.resolve_left hs
   obtain ⟨x,hx1,hx2⟩:∃ x,x ∈ bS nb (k+1)∧x ∉ bS nb k:=by
    apply Classical.byContradiction
    intro hc
    apply hs
    intro i hi x hx hx'
    apply Classical.byContradiction
    intro hn
    exact hc ⟨x,(jT nb _ _).2 (.inr ⟨⟨i,hi,hx⟩,hx'⟩),hn⟩
   have:=zO (l:=x::bS nb k) (m:=bS nb (k+1)) (List.nodup_cons.2 ⟨hx2,wO (fV nb k)⟩) (by
    intro y hy
    rcases List.mem_cons.1 hy with rfl | hy
    ·exact hx1
    ·exact (jT nb _ _).2 (.inl hy))
   simp only [List.length_cons] at this
   omega
theorem aeu {n:Nat} (hn:∀ l:List Int,l.Nodup→(∀ x ∈ l,(nb x).isSome=true)→l.length≤n) (x:Int):x ∈ mO nb n↔Reach nb x:=by
 by_cases h1:(nb 1).isSome=true
 ·rw [mO,if_pos h1]
  refine ⟨jU nb h1 n x,fun h=>?_⟩
  have hl:=hn _ (wO (fV nb n)) fun y hy=>nL nb (jU nb h1 n y hy)
  have hs:akP nb (bS nb n):=(abO nb n).resolve_right (by omega)
  have hroot:∀ k,1 ∈ bS nb k:=by
   intro k
   induction k with
   | zero=>simp [bS]
   | succ k ih=>exact (jT nb _ _).2 (.inl ih)
  induction h with
  | root _=>exact hroot n
  | step i j l hi hl hj hs' ih=>exact hs i ih j (by rw [hl]; exact hj) hs'
 ·rw [mO,if_neg h1]
  refine ⟨fun h=>absurd h (by simp),fun h=>?_⟩
  exfalso
  apply h1
  clear hn
  induction h with
  | root h=>exact h
  | step _ _ _ _ _ _ _ ih=>exact ih
structure Que (out next:List Int):Prop where
 nodup:out.Nodup
 reach:∀ x ∈ out,Reach nb x
 from':∀ x ∈ next,(nb x).isSome=true→Reach nb x
 shut:∀ i ∈ out,∀ x ∈ (nb i).getD [],(nb x).isSome=true→x ∈ out∨x ∈ next
 root:(nb 1).isSome=true→1 ∈ out∨1 ∈ next
theorem aiW:Que nb [] [1]:=⟨by simp,by simp,fun x hx h=>by simp only [List.mem_singleton] at hx; subst hx; exact .root h,by simp,fun _=>.inr (by simp)⟩
theorem ac4 {out next:List Int} {i:Int} (q:Que nb out (i::next)) (h:nb i=none∨i ∈ out):Que nb out next:=by
 refine ⟨q.nodup,q.reach,fun x hx=>q.from' x (by simp [hx]),fun k hk x hx hs=>?_,fun h1=>?_⟩
 ·rcases q.shut k hk x hx hs with h' | h'
  ·exact .inl h'
  ·rcases List.mem_cons.1 h' with rfl | h'
   ·rcases h with h | h
    ·rw [h] at hs; exact absurd hs (by simp)
    ·exact .inl h
   ·exact .inr h'
 ·rcases q.root h1 with h' | h'
  ·exact .inl h'
  ·rcases List.mem_cons.1 h' with rfl | h'
   ·rcases h with h | h
    ·rw [h] at h1; exact absurd h1 (by simp)
    ·exact .inl h
   ·exact .inr h'
theorem ac5 {out next l:List Int} {i:Int} (q:Que nb out (i::next)) (h:nb i=some l) (hn:i ∉ out):Que nb (out++[i]) (next++l):=by
 have hr:Reach nb i:=q.from' i (by simp) (by rw [h]; rfl)
 refine ⟨?_,fun x hx=>?_,fun x hx hs=>?_,fun k hk x hx hs=>?_,fun h1=>?_⟩
 ·rw [List.nodup_append]
  refine ⟨q.nodup,by simp,fun a ha b hb=>?_⟩
  rw [List.mem_singleton.1 hb]
  rintro rfl
  exact hn ha
 ·rcases List.mem_append.1 hx with hx | hx
  ·exact q.reach x hx
  ·rw [List.mem_singleton.1 hx]; exact hr
 ·rcases List.mem_append.1 hx with hx | hx
  ·exact q.from' x (by simp [hx]) hs
  ·exact .step i x l hr h hx hs
 ·rcases List.mem_append.1 hk with hk | hk
  ·rcases q.shut k hk x hx hs with h' | h'
   ·exact .inl (by simp [h'])
   ·rcases List.mem_cons.1 h' with rfl | h'
    ·exact .inl (by simp)
    ·exact .inr (by simp [h'])
  ·rw [List.mem_singleton.1 hk,h] at hx
   exact .inr (by simpa using .inr hx)
 ·rcases q.root h1 with h' | h'
  ·exact .inl (by simp [h'])
  ·rcases List.mem_cons.1 h' with rfl | h'
   ·exact .inl (by simp)
   ·exact .inr (by simp [h'])
theorem akQ {out:List Int} (q:Que nb out []) (x:Int):x ∈ out↔Reach nb x:=by
 refine ⟨q.reach x,fun h=>?_⟩
 induction h with
 | root h=>exact (q.root h).resolve_right (by simp)
 | step i j l hi hl hj hs ih=>exact (q.shut i ih j (by rw [hl]; exact hj) hs).resolve_right (by simp)
theorem aev {n:Nat} (hn:∀ l:List Int,l.Nodup→(∀ x ∈ l,(nb x).isSome=true)→l.length≤n) {out:List Int} (q:Que nb out []) :
  out.mergeSort (fun x y=>decide (x≤y))=mO nb n:=by
 refine ajK ?_ (agJ nb n) fun x=>?_
 ·have h1:=List.pairwise_mergeSort (le:=fun x y:Int=>decide (x≤y)) (by intro a b c; simp; omega) (by intro a b; simp; omega) out
  have h2:(out.mergeSort (fun x y=>decide (x≤y))).Nodup:=(List.mergeSort_perm out _).nodup_iff.2 q.nodup
  have:Up (out.mergeSort (fun x y=>decide (x≤y))):=(h1.and h2).imp fun ⟨a,b⟩=>by simp at a; omega
  exact this
 ·rw [(List.mergeSort_perm out _).mem_iff,akQ nb q,aeu nb hn]
theorem akR {n:Nat} (hn:∀ l:List Int,l.Nodup→(∀ x ∈ l,(nb x).isSome=true)→l.length≤n) {out next:List Int} (q:Que nb out next):out.length≤n:=
 hn out q.nodup fun x hx=>nL nb (q.reach x hx)
end
end
def okc (c:UInt8):Bool:=(decide (97≤c) && decide (c≤122)) || (decide (48≤c) && decide (c≤57)) || decide (c=95) || decide (c=45) || decide (c=46)
def aY (s:aB):Bool:=s.all okc && decide (1≤s.length) && decide (s.length≤14) && decide (s≠[46]) && decide (s≠[46,46])
def aV:aB→List aB
 | []=>[[]]
 | c::s=>if c=47 then []::aV s else match aV s with
  | []=>[[c]]
  | h::t=>(c::h)::t
def bH (l:List aB):Bool:=decide (l.length≤30) && l.all aY
def sZ:List aB→Option (List aB)
 | []::n::l=>some (n::l)
 | _=>none
def aA (s:aB):List aB × Bool:=if s=[47] then ([],true) else match sZ (aV s) with
 | some l=>if bH l=true then (l,true) else ([],false)
 | none=>([],false)
def dN (l:List aB):aB:=l.flatMap fun n=>47::n
def bK (l:List aB):aB:=if bH l=true then (if l=[] then [47] else dN l) else []
def aG (s:aB):aB × aB × Bool:=if (aA s).2=true∧(aA s).1≠[] then (bK (aA s).1.dropLast,(aA s).1.getLastD [],true) else ([],[],false)
def nM (a b:aB):Bool:=(aA a).2 && ((aA b).2 && (aA a).1.isPrefixOf (aA b).1)
theorem mP (s:aB):aV s≠[]:=by
 cases s with
 | nil=>simp [aV]
 | cons c s=>
  rw [aV]
  split
  ·simp
  ·split <;> simp
theorem iO (c:UInt8) (s:aB) (h:c≠47):∃ a t,aV s=a::t∧aV (c::s)=(c::a)::t:=by
 cases e:aV s with
 | nil=>exact absurd e (mP s)
 | cons a t=>exact ⟨a,t,rfl,by rw [aV,if_neg h,e]⟩
theorem rZ (n s:aB) (h:∀ c ∈ n,c≠47):aV (n++47::s)=n::aV s:=by
 induction n with
 | nil=>rw [List.nil_append,aV,if_pos rfl]
 | cons c n ih=>
  have ih:=ih fun x hx=>h x (by simp [hx])
  rw [List.cons_append,aV,if_neg (h c (by simp)),ih]
theorem r6 (n:aB) (h:∀ c ∈ n,c≠47):aV n=[n]:=by
 induction n with
 | nil=>rfl
 | cons c n ih=>
  have ih:=ih fun x hx=>h x (by simp [hx])
  rw [aV,if_neg (h c (by simp)),ih]
theorem abP (l:List aB) (h:∀ n ∈ l,∀ c ∈ n,c≠47) (s:aB) (hs:∀ c ∈ s,c≠47):aV (s++dN l)=s::l:=by
 induction l generalizing s with
 | nil=>rw [dN]; simpa using r6 s hs
 | cons n l ih=>
  have ih:=ih (fun m hm=>h m (by simp [hm])) n (h n (by simp))
  have e:s++dN (n::l)=s++47::(n++dN l):=by simp [dN]
  rw [e,rZ s _ hs,ih]
theorem abQ (s:aB):∀ a t,aV s=a::t→s=a++dN t∧(∀ n ∈ a::t,∀ c ∈ n,c≠47):=by
 induction s with
 | nil=>
  intro a t h
  rw [aV] at h
  injection h with h1 h2
  subst h1; subst h2
  simp [dN]
 | cons c s ih=>
  intro a t h
  by_cases hc:c=47
  ·rw [aV,if_pos hc] at h
   injection h with h1 h2
   subst h1
   cases e:aV s with
   | nil=>exact absurd e (mP s)
   | cons b u=>
    rw [e] at h2
    subst h2
    obtain ⟨i1,i2⟩:=ih b u e
    refine ⟨?_,fun n hn=>?_⟩
    ·rw [i1,hc]; simp [dN]
    ·rcases List.mem_cons.1 hn with rfl | hn
     ·simp
     ·exact i2 n hn
  ·obtain ⟨b,u,e1,e2⟩:=iO c s hc
   rw [e2] at h
   injection h with h1 h2
   subst h1; subst h2
   obtain ⟨i1,i2⟩:=ih b u e1
   refine ⟨by rw [i1]; rfl,fun n hn x hx=>?_⟩
   rcases List.mem_cons.1 hn with rfl | hn
   ·rcases List.mem_cons.1 hx with rfl | hx
    ·exact hc
    ·exact i2 b (by simp) x hx
   ·exact i2 n (by simp [hn]) x hx
theorem aew {n:aB} (h:aY n=true):∀ c ∈ n,c≠47:=by
 intro c hc
 simp only [aY,Bool.and_eq_true] at h
 have:=List.all_eq_true.1 h.1.1.1.1 c hc
 rintro rfl
 exact absurd this (by decide)
theorem wP {n:aB} (h:aY n=true):1≤n.length∧n.length≤14:=by
 simp only [aY,Bool.and_eq_true,decide_eq_true_eq] at h
 exact ⟨h.1.1.1.2,h.1.1.2⟩
theorem hU {l:List aB} (h:bH l=true):l.length≤30∧∀ n ∈ l,aY n=true:=by
 simp only [bH,Bool.and_eq_true,decide_eq_true_eq,List.all_eq_true] at h
 exact h
theorem kN {l:List aB} (h1:l.length≤30) (h2:∀ n ∈ l,aY n=true):bH l=true:=by
 simp only [bH,Bool.and_eq_true,decide_eq_true_eq,List.all_eq_true]
 exact ⟨h1,h2⟩
theorem abR {l:List aB} (h:bH l=true) (hne:l≠[]):aA (dN l)=(l,true):=by
 obtain ⟨h1,h2⟩:=hU h
 have e:=abP l (fun n hn=>aew (h2 n hn)) [] (by simp)
 rw [List.nil_append] at e
 cases l with
 | nil=>exact absurd rfl hne
 | cons n l=>
  have hn:=wP (h2 n (by simp))
  have hs:dN (n::l)≠[47]:=by
   intro hc
   have h3:(dN (n::l)).length=1:=by rw [hc]; rfl
   have h4:dN (n::l)=47::(n++dN l):=by simp [dN]
   rw [h4] at h3
   simp only [List.length_cons,List.length_append] at h3
   omega
  rw [aA,if_neg hs,e]
  simp only [sZ,h,if_pos]
theorem abS {l:List aB} (h:bH l=true):aA (bK l)=(l,true):=by
 rw [bK,if_pos h]
 split
 ·rename_i e; subst e; rw [aA,if_pos rfl]
 ·rename_i e; exact abR h e
theorem kO {s:aB} (h:(aA s).2=true):bH (aA s).1=true∧bK (aA s).1=s:=by
 unfold aA at h ⊢
 split
 ·rename_i e; subst e; exact ⟨by decide,by decide⟩
 ·rename_i hs
  rw [if_neg hs] at h
  cases e:sZ (aV s) with
  | none=>rw [e] at h; exact absurd h (by simp)
  | some l=>
   rw [e] at h
   simp only at h ⊢
   by_cases hn:bH l=true
   ·rw [if_pos hn]
    refine ⟨hn,?_⟩
    show bK l=s
    cases e2:aV s with
    | nil=>rw [e2] at e; exact absurd e (by simp [sZ])
    | cons a t=>
     obtain ⟨i1,_⟩:=abQ s a t e2
     rw [e2] at e
     cases a with
     | cons c a=>exact absurd e (by simp [sZ])
     | nil=>
      cases t with
      | nil=>exact absurd e (by simp [sZ])
      | cons m t=>
       simp only [sZ,Option.some.injEq] at e
       subst e
       rw [bK,if_pos hn,if_neg (by simp),i1,List.nil_append]
   ·rw [if_neg hn] at h; exact absurd h (by simp)
theorem ac6 {s:aB} (h:(aA s).2=false):aA s=([],false):=by
 unfold aA at h ⊢
 split
 ·rename_i e; rw [if_pos e] at h; exact absurd h (by simp)
 ·rename_i hs
  rw [if_neg hs] at h
  cases e:sZ (aV s) with
  | none=>rfl
  | some l=>
   rw [e] at h
   simp only at h ⊢
   by_cases hn:bH l=true
   ·rw [if_pos hn] at h; exact absurd h (by simp)
   ·rw [if_neg hn]
theorem zR {l:List aB} (h:bH l=true) (n:Nat):bH (l.take n)=true:=by
 obtain ⟨h1,h2⟩:=hU h
 exact kN (by rw [List.length_take]; omega) fun m hm=>h2 m (List.take_subset _ _ hm)
theorem i3 {l:List aB} (h:bH l=true):bH l.dropLast=true:=by
 rw [List.dropLast_eq_take]; exact zR h _
theorem uD {s:aB} (h:(aA s).2=true):(aA s).1=[]↔s=[47]:=by
 constructor
 ·intro e
  have:=(kO h).2
  rw [e] at this
  rw [← this]; decide
 ·intro e; rw [e]; decide
theorem zS (s:aB):(aG s).2.2=true↔(aA s).2=true∧(aA s).1≠[]:=by
 unfold aG
 split
 ·rename_i h; exact ⟨fun _=>h,fun _=>rfl⟩
 ·rename_i h; exact ⟨fun h'=>absurd h' (by simp),fun h'=>absurd h' h⟩
theorem agK {s:aB} (h:(aA s).2=true) (hne:(aA s).1≠[]) :
  aG s=(bK (aA s).1.dropLast,(aA s).1.getLastD [],true)∧aA (bK (aA s).1.dropLast)=((aA s).1.dropLast,true):=by
 refine ⟨by rw [aG,if_pos ⟨h,hne⟩],abS (i3 (kO h).1)⟩
def b3 (x:Inode) (n:aB):Int:=((x.ents.find? fun e=>decide (e.name=n)).map Ent.ino).getD 0
def aP (t:Tab) (i:Int):Option Inode:=t.inodes.find? fun x=>decide (x.ino=i)
def zT (x:Inode):List Int:=if x.kind=2 then x.ents.map Ent.ino else []
def nbT (t:Tab) (i:Int):Option (List Int):=(aP t i).map zT
def eP (t:Tab):List Int:=mO (nbT t) t.inodes.length
def jV (t:Tab) (i:Int):Nat:=(t.inodes.map fun x=>(zT x).count i).sum
def gB (t:Tab):List aB→Int→Int × Int
 | [],i=>(i,0)
 | n::l,i=>match aP t i with
  | none=>(0,2)
  | some x=>if x.kind=2 then (if b3 x n=0 then (0,2) else gB t l (b3 x n)) else (0,3)
def kP (t:Tab) (s:aB):Int × Int:=if (aA s).2=true then gB t (aA s).1 1 else (0,1)
structure EntsOk (l:List Ent):Prop where
 len:l.length≤10
 ok:∀ e ∈ l,aY e.name=true∧2≤e.ino∧e.ino≤1000
 up:l.Pairwise fun a b=>a.name<b.name
structure AttrsOk (l:List Attr):Prop where
 len:l.length≤4
 ok:∀ a ∈ l,aY a.name=true∧1≤a.val.length∧a.val.length≤16
 up:l.Pairwise fun a b=>a.name<b.name
structure InodeOk (x:Inode):Prop where
 ino:1≤x.ino∧x.ino≤1000
 links:0≤x.links∧x.links≤1000
 root:x.links=0↔x.ino=1
 data:x.data.length≤100
 ents:EntsOk x.ents
 attrs:AttrsOk x.attrs
 kind:(x.kind=1∧x.ents=[])∨(x.kind=2∧x.data=[]∧x.links≤1)
structure TabOk (t:Tab):Prop where
 len:t.inodes.length≤30
 next:2≤t.next∧t.next≤1000
 ok:∀ x ∈ t.inodes,InodeOk x∧x.ino<t.next
 up:t.inodes.Pairwise fun a b=>a.ino<b.ino
 root:∃ x,aP t 1=some x∧x.kind=2
structure TreeOk (t:Tab):Prop where
 tab:TabOk t
 reach:(eP t).length=t.inodes.length
 links:∀ x ∈ t.inodes,((jV t x.ino:Nat):Int)=x.links
 there:∀ x ∈ t.inodes,∀ e ∈ x.ents,(aP t e.ino).isSome=true
theorem bN {t:Tab} {i:Int} {x:Inode} (h:aP t i=some x):x ∈ t.inodes∧x.ino=i:=by
 refine ⟨List.mem_of_find?_eq_some h,?_⟩
 have:=List.find?_some h
 simpa using this
theorem agL {t:Tab} (h:t.inodes.Pairwise fun a b=>a.ino<b.ino) {x:Inode} (hx:x ∈ t.inodes):aP t x.ino=some x:=by
 unfold aP
 generalize t.inodes=l at *
 induction l with
 | nil=>exact absurd hx (by simp)
 | cons y l ih=>
  obtain ⟨a1,a2⟩:=List.pairwise_cons.1 h
  rcases List.mem_cons.1 hx with rfl | hx
  ·rw [List.find?_cons_of_pos (by simp)]
  ·rw [List.find?_cons_of_neg (by have:=a1 x hx; simp; omega)]
   exact ih a2 hx
theorem wQ (t:Tab):∀ l:List Int,l.Nodup→(∀ x ∈ l,(nbT t x).isSome=true)→l.length≤t.inodes.length:=by
 intro l hl hs
 have:=zO (m:=t.inodes.map Inode.ino) hl fun x hx=>by
  have:=hs x hx
  cases e:aP t x with
  | none=>rw [nbT,e] at this; exact absurd this (by simp)
  | some y=>obtain ⟨h1,h2⟩:=bN e; exact List.mem_map.2 ⟨y,h1,h2⟩
 simpa using this
abbrev IM:=Int→Option Inode
def c7 (M:IM):List aB→Int→Option Int
 | [],i=>some i
 | n::l,i=>match M i with
  | none=>none
  | some x=>if x.kind=2∧b3 x n≠0 then c7 M l (b3 x n) else none
theorem akS (t:Tab) (l:List aB):∀ i j,gB t l i=(j,0)↔c7 (aP t) l i=some j:=by
 induction l with
 | nil=>intro i j; simp [gB,c7]
 | cons n l ih=>
  intro i j
  rw [gB,c7]
  cases aP t i with
  | none=>simp
  | some x=>
   simp only
   by_cases hk:x.kind=2
   ·by_cases he:b3 x n=0
    ·rw [if_pos hk,if_pos he,if_neg (by simp [he])]; simp
    ·rw [if_pos hk,if_neg he,if_pos ⟨hk,he⟩]; exact ih _ _
   ·rw [if_neg hk,if_neg (by simp [hk])]; simp
theorem oZ (M:IM) (a b:List aB):∀ i,c7 M (a++b) i=(c7 M a i).bind fun j=>c7 M b j:=by
 induction a with
 | nil=>intro i; simp [c7]
 | cons n a ih=>
  intro i
  rw [List.cons_append,c7,c7]
  cases M i with
  | none=>rfl
  | some x=>
   simp only
   split
   ·exact ih _
   ·rfl
theorem zU (M:IM) (n:aB) (i j:Int):c7 M [n] i=some j↔∃ x,M i=some x∧x.kind=2∧b3 x n=j∧j≠0:=by
 rw [c7]
 cases M i with
 | none=>simp
 | some x=>
  simp only [c7]
  constructor
  ·intro h
   split at h
   ·rename_i hc
    injection h with h
    subst h
    exact ⟨x,rfl,hc.1,rfl,hc.2⟩
   ·exact absurd h (by simp)
  ·rintro ⟨y,hy,h1,h2,h3⟩
   injection hy with hy
   subst hy
   subst h2
   rw [if_pos ⟨h1,h3⟩]
theorem agM {x:Inode} {n:aB} (h:b3 x n≠0):∃ e ∈ x.ents,e.name=n∧e.ino=b3 x n:=by
 unfold b3 at h ⊢
 cases e:x.ents.find? fun e=>decide (e.name=n) with
 | none=>rw [e] at h; exact absurd rfl h
 | some y=>exact ⟨y,List.mem_of_find?_eq_some e,by simpa using List.find?_some e,by simp⟩
section
theorem kQ {α:Type} (f:α→Nat) (l:List α) {p:α} (hp:p ∈ l):f p≤(l.map f).sum:=by
 induction l with
 | nil=>exact absurd hp (by simp)
 | cons x l ih=>
  rw [List.map_cons,List.sum_cons]
  rcases List.mem_cons.1 hp with rfl | hp
  ·omega
  ·have:=ih hp; omega
theorem uE {α:Type} (f:α→Nat) (l:List α) {p q:α} (hp:p ∈ l) (hq:q ∈ l) (hne:p≠q):f p+f q≤(l.map f).sum:=by
 induction l with
 | nil=>exact absurd hp (by simp)
 | cons x l ih=>
  rw [List.map_cons,List.sum_cons]
  rcases List.mem_cons.1 hp with rfl | hp'
  ·rcases List.mem_cons.1 hq with rfl | hq'
   ·exact absurd rfl hne
   ·have:=kQ f l hq'; omega
  ·rcases List.mem_cons.1 hq with rfl | hq'
   ·have:=kQ f l hp'; omega
   ·have:=ih hp' hq'; omega
theorem agN (l:List Ent) (i:Int):(l.map Ent.ino).count i=(l.map fun e=>if e.ino=i then 1 else 0).sum:=by
 induction l with
 | nil=>rfl
 | cons e l ih=>
  rw [List.map_cons,List.map_cons,List.sum_cons,List.count_cons,ih]
  by_cases h:e.ino=i <;> simp [h] <;> omega
variable {t:Tab}
theorem wR (h:TreeOk t) {x:Inode} (hx:x ∈ t.inodes):EntsOk x.ents:=(h.tab.ok x hx).1.ents
theorem zV (h:TreeOk t) {x:Inode} (hx:x ∈ t.inodes):aP t x.ino=some x:=agL h.tab.up hx
theorem zW (h:TreeOk t) {x:Inode} (hx:x ∈ t.inodes) (hk:x.kind=2):x.links≤1:=by
 rcases (h.tab.ok x hx).1.kind with ⟨h1,_⟩ | ⟨_,_,h1⟩
 ·omega
 ·exact h1
theorem abT (h:TreeOk t) {x p q:Inode} (hx:x ∈ t.inodes) (hl:x.links≤1) (hp:p ∈ t.inodes) (hq:q ∈ t.inodes) (kp:p.kind=2) (kq:q.kind=2)
  {e f:Ent} (he:e ∈ p.ents) (hf:f ∈ q.ents) (e1:e.ino=x.ino) (f1:f.ino=x.ino):p=q∧e=f:=by
 have hs:jV t x.ino≤1:=by have:=h.links x hx; omega
 have cp:∀ y:Inode,y.kind=2→(zT y).count x.ino=(y.ents.map fun e=>if e.ino=x.ino then 1 else 0).sum:=fun y hy=>by rw [zT,if_pos hy,agN]
 have one:∀ (y:Inode) (g:Ent),y.kind=2→g ∈ y.ents→g.ino=x.ino→1≤(zT y).count x.ino:=fun y g hy hg hi=>by
  rw [cp y hy]
  have:=kQ (fun e:Ent=>if e.ino=x.ino then 1 else 0) y.ents hg
  simpa [hi] using this
 have epq:p=q:=by
  apply Classical.byContradiction
  intro hne
  have:=uE (fun y:Inode=>(zT y).count x.ino) t.inodes hp hq hne
  have a:=one p e kp he e1
  have b:=one q f kq hf f1
  unfold jV at hs
  omega
 subst epq
 refine ⟨rfl,?_⟩
 apply Classical.byContradiction
 intro hne
 have a:=uE (fun e:Ent=>if e.ino=x.ino then 1 else 0) p.ents he hf hne
 have b:=kQ (fun y:Inode=>(zT y).count x.ino) t.inodes hp
 have c:=cp p kp
 simp only [e1,f1,if_true] at a
 unfold jV at hs
 omega
theorem aex (h:TreeOk t):∃ x,aP t 1=some x∧x.kind=2∧x ∈ t.inodes:=by
 obtain ⟨x,h1,h2⟩:=h.tab.root
 exact ⟨x,h1,h2,(bN h1).1⟩
theorem mQ (_:TreeOk t) {a:List aB} {n:aB} {i j:Int} (hw:c7 (aP t) (a++[n]) i=some j) :
  ∃ p y e,c7 (aP t) a i=some p∧aP t p=some y∧y ∈ t.inodes∧y.ino=p∧y.kind=2∧e ∈ y.ents∧e.name=n∧e.ino=j:=by
 rw [oZ] at hw
 cases ha:c7 (aP t) a i with
 | none=>rw [ha] at hw; exact absurd hw (by simp)
 | some p=>
  rw [ha] at hw
  obtain ⟨y,h1,h2,h3,h4⟩:=(zU _ n p j).1 hw
  obtain ⟨hy1,hy2⟩:=bN h1
  obtain ⟨e,he,e1,e2⟩:=agM (x:=y) (n:=n) (by rw [h3]; exact h4)
  exact ⟨p,y,e,rfl,h1,hy1,hy2,h2,he,e1,by rw [e2,h3]⟩
theorem aey (h:TreeOk t) {l:List aB} {i:Int} (hw:c7 (aP t) l 1=some i):∃ x,aP t i=some x∧x ∈ t.inodes∧x.ino=i:=by
 rcases List.eq_nil_or_concat l with rfl | ⟨a,n,rfl⟩
 ·simp only [c7,Option.some.injEq] at hw
  subst hw
  obtain ⟨x,h1,_,h3⟩:=aex h
  exact ⟨x,h1,h3,(bN h1).2⟩
 ·rw [List.concat_eq_append] at hw
  obtain ⟨p,y,e,_,_,hy,_,_,he,_,e2⟩:=mQ h hw
  have:=h.there y hy e he
  rw [e2] at this
  obtain ⟨x,hx⟩:=Option.isSome_iff_exists.1 this
  exact ⟨x,hx,(bN hx).1,(bN hx).2⟩
theorem abU (h:TreeOk t):∀ (l l':List aB) (i:Int) (x:Inode),aP t i=some x→x.links≤1→c7 (aP t) l 1=some i→c7 (aP t) l' 1=some i→l=l':=by
 have noroot:∀ (a:List aB) (n:aB),c7 (aP t) (a++[n]) 1≠some 1:=by
  intro a n hw
  obtain ⟨p,y,e,_,_,hy,_,_,he,_,e2⟩:=mQ h hw
  have:=((wR h hy).ok e he).2.1
  omega
 suffices ∀ (k:Nat) (l l':List aB) (i:Int) (x:Inode),l.length=k→aP t i=some x→x.links≤1→c7 (aP t) l 1=some i→c7 (aP t) l' 1=some i→l=l' from
  fun l l' i x=>this l.length l l' i x rfl
 intro k
 induction k with
 | zero=>
  intro l l' i x hk hx hl h1 h2
  have:l=[]:=List.length_eq_zero_iff.1 hk
  subst this
  simp only [c7,Option.some.injEq] at h1
  subst h1
  rcases List.eq_nil_or_concat l' with rfl | ⟨b,m,rfl⟩
  ·rfl
  ·rw [List.concat_eq_append] at h2; exact absurd h2 (noroot b m)
 | succ k ih=>
  intro l l' i x hk hx hl h1 h2
  rcases List.eq_nil_or_concat l with rfl | ⟨a,n,rfl⟩
  ·exact absurd hk (by simp)
  rw [List.concat_eq_append] at h1 hk ⊢
  rcases List.eq_nil_or_concat l' with rfl | ⟨b,m,rfl⟩
  ·simp only [c7,Option.some.injEq] at h2
   subst h2
   exact absurd h1 (noroot a n)
  rw [List.concat_eq_append] at h2 ⊢
  obtain ⟨p,y,e,w1,y1,y2,y3,y4,e1,e2,e3⟩:=mQ h h1
  obtain ⟨q,z,f,w2,z1,z2,z3,z4,f1,f2,f3⟩:=mQ h h2
  obtain ⟨hx1,hx2⟩:=bN hx
  obtain ⟨r1,r2⟩:=abT h hx1 hl y2 z2 y4 z4 e1 f1 (by rw [e3,hx2]) (by rw [f3,hx2])
  subst r1; subst r2
  rw [← e2,← f2]
  have:=ih a b p y (by simpa using hk) y1 (zW h y2 y4) w1 (by rw [← y3,z3]; exact w2)
  rw [this]
end
section
def lT (s:Int→aB→Option Int):List aB→Int→Option Int
 | [],i=>some i
 | n::l,i=>(s i n).bind (lT s l)
def wS (M:IM) (i:Int) (n:aB):Option Int:=match M i with
 | none=>none
 | some x=>if x.kind=2∧b3 x n≠0 then some (b3 x n) else none
theorem abV (M:IM) (l:List aB):∀ i,c7 M l i=lT (wS M) l i:=by
 induction l with
 | nil=>intro i; rfl
 | cons n l ih=>
  intro i
  rw [c7,lT,wS]
  cases M i with
  | none=>rfl
  | some x=>
   simp only
   split
   ·exact ih _
   ·rfl
section
variable {s s':Int→aB→Option Int}
theorem agO {D:Int} {n:aB} (hs:∀ i m,i≠D∨m≠n→s' i m=s i m):∀ (l:List aB) (i:Int),(∀ a b,l=a++n::b→lT s a i≠some D)→lT s' l i=lT s l i:=by
 intro l
 induction l with
 | nil=>intro i _; rfl
 | cons m l ih=>
  intro i h
  rw [lT,lT]
  have e:s' i m=s i m:=by
   apply hs
   by_cases hm:m=n
   ·left
    rintro rfl
    exact h [] l (by rw [hm]; rfl) rfl
   ·exact .inr hm
  rw [e]
  cases hc:s i m with
  | none=>rfl
  | some j=>
   show lT s' l j=lT s l j
   refine ih j fun a b hl hw=>h (m::a) b (by rw [hl]; rfl) ?_
   rw [lT,hc]; exact hw
theorem abW {D:Int} {n:aB} {d:List aB} (hs:∀ i m,i≠D∨m≠n→s' i m=s i m) (hu:∀ a,lT s a 1=some D→a=d) {l:List aB} (hp:¬ (d++[n]) <+: l) :
  lT s' l 1=lT s l 1:=by
 refine agO hs l 1 fun a b hl hw=>hp ?_
 rw [← hu a hw]
 exact ⟨b,by rw [hl]; simp⟩
end
def dI:List Inode→Inode→List Inode
 | [],x=>[x]
 | y::l,x=>if y.ino=x.ino then x::l else if x.ino<y.ino then x::y::l else y::dI l x
def cC (t:Tab) (x:Inode):Tab:={ inodes:=dI t.inodes x,next:=t.next }
abbrev UpI (l:List Inode):Prop:=l.Pairwise fun a b=>a.ino<b.ino
theorem aez {l:List Inode} {x y:Inode} (h:y ∈ dI l x):y=x∨y ∈ l:=by
 induction l with
 | nil=>simpa [dI] using h
 | cons z l ih=>
  rw [dI] at h
  split at h
  ·rcases List.mem_cons.1 h with h | h
   ·exact .inl h
   ·exact .inr (by simp [h])
  ·split at h
   ·rcases List.mem_cons.1 h with h | h
    ·exact .inl h
    ·exact .inr h
   ·rcases List.mem_cons.1 h with h | h
    ·exact .inr (by simp [h])
    ·rcases ih h with h | h
     ·exact .inl h
     ·exact .inr (by simp [h])
theorem agP {l:List Inode} (h:UpI l) (x:Inode):UpI (dI l x):=by
 induction l with
 | nil=>simp [dI,UpI]
 | cons y l ih=>
  obtain ⟨a1,a2⟩:=List.pairwise_cons.1 h
  rw [dI]
  split
  ·rename_i e
   exact List.pairwise_cons.2 ⟨fun z hz=>by have:=a1 z hz; omega,a2⟩
  ·split
   ·rename_i e1 e2
    refine List.pairwise_cons.2 ⟨fun z hz=>?_,h⟩
    rcases List.mem_cons.1 hz with rfl | hz
    ·exact e2
    ·have:=a1 z hz; omega
   ·rename_i e1 e2
    refine List.pairwise_cons.2 ⟨fun z hz=>?_,ih a2⟩
    rcases aez hz with rfl | hz
    ·omega
    ·exact a1 z hz
theorem abX {l:List Inode} (h:UpI l) (x:Inode) (j:Int) :
  (dI l x).find? (fun y=>decide (y.ino=j))=if x.ino=j then some x else l.find? fun y=>decide (y.ino=j):=by
 induction l with
 | nil=>
  rw [dI]
  by_cases e:x.ino=j <;> simp [e]
 | cons y l ih=>
  obtain ⟨a1,a2⟩:=List.pairwise_cons.1 h
  have nl:∀ k,k≤y.ino→l.find? (fun z=>decide (z.ino=k))=none:=fun k hk=>by
   rw [List.find?_eq_none]
   intro z hz
   have:=a1 z hz
   simp; omega
  rw [dI]
  split
  ·rename_i e
   by_cases hj:x.ino=j
   ·rw [List.find?_cons_of_pos (by simpa using hj),if_pos hj]
   ·rw [List.find?_cons_of_neg (by simpa using hj),if_neg hj,List.find?_cons_of_neg (by simp; omega)]
  ·split
   ·rename_i e1 e2
    by_cases hj:x.ino=j
    ·rw [List.find?_cons_of_pos (by simpa using hj),if_pos hj]
    ·rw [List.find?_cons_of_neg (by simpa using hj),if_neg hj]
   ·rename_i e1 e2
    by_cases hy:y.ino=j
    ·rw [List.find?_cons_of_pos (by simpa using hy),if_neg (by omega),List.find?_cons_of_pos (by simpa using hy)]
    ·rw [List.find?_cons_of_neg (by simpa using hy),ih a2,List.find?_cons_of_neg (by simpa using hy)]
theorem zX {t:Tab} (h:UpI t.inodes) (x:Inode) (j:Int):aP (cC t x) j=if x.ino=j then some x else aP t j:=abX h x j
theorem alU {t:Tab} (h:UpI t.inodes) (x:Inode):UpI (cC t x).inodes:=agP h x
end
section
section
variable {α:Type} (key:α→aB)
def agQ:List α→α→List α
 | [],e=>[e]
 | f::l,e=>if key e<key f then e::f::l else f::agQ l e
def alm (l:List α) (n:aB):List α:=l.filter fun e=>decide (key e≠n)
abbrev UpK (l:List α):Prop:=l.Pairwise fun a b=>key a<key b
variable {key}
theorem ac7 (l:List α) (e:α):(agQ key l e).length=l.length+1:=by
 induction l with
 | nil=>rfl
 | cons f l ih=>
  rw [agQ]
  split
  ·rfl
  ·rw [List.length_cons,ih,List.length_cons]
theorem akT {l:List α} (h:UpK key l) (n:aB):UpK key (alm key l n):=h.filter _
end
def jW (l:List Ent) (e:Ent):List Ent:=agQ Ent.name l e
def dS (l:List Ent) (n:aB):List Ent:=alm Ent.name l n
theorem agR (x:Inode) (n m:aB):b3 { x with ents:=dS x.ents n } m=if m=n then 0 else b3 x m:=by
 unfold b3
 show (Option.map Ent.ino ((dS x.ents n).find? _)).getD 0=_
 generalize x.ents=l
 induction l with
 | nil=>simp [dS,alm]
 | cons f l ih=>
  unfold dS alm at ih ⊢
  rw [List.filter_cons]
  by_cases hf:f.name=n
  ·rw [if_neg (by simp [hf]),ih]
   by_cases hm:m=n
   ·rw [if_pos hm,if_pos hm]
   ·rw [if_neg hm,if_neg hm,List.find?_cons_of_neg (by simp [hf]; exact Ne.symm hm)]
  ·rw [if_pos (by simpa using hf)]
   by_cases hm:f.name=m
   ·rw [List.find?_cons_of_pos (by simpa using hm),if_neg (by rw [← hm]; exact hf),List.find?_cons_of_pos (by simpa using hm)]
   ·rw [List.find?_cons_of_neg (by simpa using hm),ih,List.find?_cons_of_neg (by simpa using hm)]
end
theorem ac8 {M:IM} {i:Int} {x:Inode} (h:M i=some x) (n:aB):wS M i n=if x.kind=2∧b3 x n≠0 then some (b3 x n) else none:=by rw [wS,h]
theorem aiX {M M':IM} {i:Int} (h:M' i=M i) (n:aB):wS M' i n=wS M i n:=by rw [wS,wS,h]
def o0 (D:Inode) (n:aB):Inode:={ D with ents:=dS D.ents n }
def aln (D:Inode) (n:aB) (j:Int):Inode:={ D with ents:=jW D.ents ⟨n,j⟩ }
structure Spot (t:Tab) (D:Inode) (d:List aB):Prop where
 mem:D ∈ t.inodes
 kind:D.kind=2
 at':c7 (aP t) d 1=some D.ino
theorem abY {t:Tab} (h:TreeOk t) {D:Inode} {d:List aB} (s:Spot t D d):∀ a,lT (wS (aP t)) a 1=some D.ino→a=d:=fun a ha=>
 abU h a d D.ino D (zV h s.mem) (zW h s.mem s.kind) (by rw [abV]; exact ha) s.at'

theorem aeA {α:Type} (f:α→Nat) (l:List α) (c:Nat) (h:∀ x ∈ l,f x≤c):(l.map f).sum≤l.length*c:=by
 induction l with
 | nil=>simp
 | cons x l ih=>
  have a:=h x (by simp)
  have b:=ih fun y hy=>h y (by simp [hy])
  rw [List.map_cons,List.sum_cons,List.length_cons,Nat.succ_mul]
  omega
def r7 (D1 D2:Inode) (n1:aB):Inode:=if D1.ino=D2.ino then o0 D1 n1 else D2
def abZ (t:Tab) (D1 D2:Inode) (n1 n2:aB) (j:Int):Tab:=cC (cC t (o0 D1 n1)) (aln (r7 D1 D2 n1) n2 j)



section
open Go.Proofs
theorem fR (a b:aB):strLt a b=decide (a<b):=bytesLess_eq a b
section
variable {α:Type} (p:Nat→α→Bool) (lt:α→α→Bool)
def agS (l:List α) (x:α):Nat→Bool
 | 0=>true
 | k+1=>match l[k]? with
  | none=>true
  | some y=>lt y x
def cD (l:List α) (i:Nat):Bool:=match l[i]? with
 | none=>true
 | some x=>p i x && agS lt l x i
def wT (l:List α):Bool:=(List.range l.length).all (cD p lt l)
variable {p lt}
theorem kR {l:List α} {i:Nat} (h:i<l.length) (e:cD p lt l i=false):wT p lt l=false:=by
 rw [wT,List.all_eq_false]
 exact ⟨i,by simpa using h,by simp [e]⟩
theorem f8 {l:List α} (h:∀ i,i<l.length→cD p lt l i=true):wT p lt l=true:=by
 rw [wT,List.all_eq_true]
 intro k hk
 exact h k (by simpa using hk)
theorem dO {l:List α} (h:0<l.length):cD p lt l 0=p 0 l[0]:=by
 rw [cD,List.getElem?_eq_getElem h]; simp [agS]
theorem bF {l:List α} {i:Nat} (h:i+1<l.length):cD p lt l (i+1)=(p (i+1) l[i+1] && lt l[i] l[i+1]):=by
 rw [cD,List.getElem?_eq_getElem h]
 simp only [agS]
 rw [List.getElem?_eq_getElem (show i<l.length by omega)]
theorem mR (htr:∀ a b c,lt a b=true→lt b c=true→lt a c=true) (l:List α):wT p lt l=true↔(∀ i,(h:i<l.length)→p i l[i]=true)∧l.Pairwise (fun a b=>lt a b=true):=by
 constructor
 ·intro h
  have h':∀ i,i<l.length→cD p lt l i=true:=by
   intro i hi
   rw [wT,List.all_eq_true] at h
   exact h i (by simpa using hi)
  refine ⟨fun i hi=>?_,?_⟩
  ·have:=h' i hi
   rw [cD,List.getElem?_eq_getElem hi] at this
   simp only [Bool.and_eq_true] at this
   exact this.1
  ·rw [List.pairwise_iff_getElem]
   intro i j hi hj hij
   induction j with
   | zero=>omega
   | succ j ih=>
    have hs:=h' (j+1) hj
    rw [bF hj,Bool.and_eq_true] at hs
    by_cases e:i=j
    ·subst e; exact hs.2
    ·exact htr _ _ _ (ih (by omega) (by omega)) hs.2
 ·rintro ⟨h1,h2⟩
  refine f8 fun i hi=>?_
  cases i with
  | zero=>rw [dO hi]; exact h1 0 hi
  | succ i=>
   rw [bF hi,Bool.and_eq_true]
   exact ⟨h1 _ hi,List.pairwise_iff_getElem.1 h2 i (i+1) (by omega) hi (by omega)⟩
end
theorem alV:∀ a b c:aB,decide (a<b)=true→decide (b<c)=true→decide (a<c)=true:=by
 intro a b c h1 h2
 simp only [decide_eq_true_eq] at *
 exact List.lt_trans h1 h2
theorem ab0 {α:Type} {l:List α} {p:α→Prop}:(∀ i,(h:i<l.length)→p l[i])↔∀ x ∈ l,p x:=by
 constructor
 ·intro h x hx
  obtain ⟨i,hi,rfl⟩:=List.getElem_of_mem hx
  exact h i hi
 ·intro h i hi; exact h _ (List.getElem_mem hi)
def mS (a:Attr):Bool:=aY a.name && inR a.val.length 1 16
def jX (a b:Attr):Bool:=decide (a.name<b.name)
def nN (l:List Attr):Bool:=wT (fun _=>mS) jX l
def iA (l:List Attr):Bool:=nN l && decide (l.length≤4)
def ac9 (e:Ent):Bool:=aY e.name && inR e.ino 2 1000
def r8 (a b:Ent):Bool:=decide (a.name<b.name)
def uF (l:List Ent):Bool:=wT (fun _=>ac9) r8 l
def r9 (l:List Ent):Bool:=uF l && decide (l.length≤10)
def nO (x:Inode):Bool:=if x.kind=1 then decide (x.ents.length=0) else if x.kind=2 then decide (x.data.length=0) && decide (x.links≤1) else false
def cE (x:Inode):Bool:=inR x.ino 1 1000 && (inR x.links 0 1000 && (decide (x.links=0) == decide (x.ino=1)) && (decide (x.data.length≤100) && (r9 x.ents && (iA x.attrs && nO x))))
def f9 (t:Tab) (x:Inode):Bool:=cE x && decide (x.ino<t.next)
def eQ (a b:Inode):Bool:=decide (a.ino<b.ino)
def iP (t:Tab):Bool:=wT (fun _=>f9 t) eQ t.inodes
def mT (t:Tab):Bool:=match aP t 1 with
 | none=>false
 | some x=>decide (x.kind=2)
def uG (t:Tab):Bool:=decide (t.inodes.length≤30) && (inR t.next 2 1000 && (iP t && mT t))
def uH (t:Tab) (x:Inode):Bool:=x.ents.all fun e=>(aP t e.ino).isSome
def iB (t:Tab) (x:Inode):Bool:=decide (x.links=(jV t x.ino:Nat)) && uH t x
def gC (t:Tab):Bool:=uG t && (decide ((eP t).length=t.inodes.length) && t.inodes.all (iB t))
theorem iQ (x a b:Int):inR x a b=true↔a≤x∧x≤b:=by simp [inR]
theorem aeB (l:List Attr):iA l=true↔AttrsOk l:=by
 rw [iA,Bool.and_eq_true,nN,mR (lt:=jX) (fun a b c h1 h2=>alV a.name b.name c.name h1 h2)]
 simp only [mS,jX,Bool.and_eq_true,decide_eq_true_eq,iQ]
 rw [ab0 (p:=fun a:Attr=>aY a.name=true∧(1:Int)≤(a.val.length:Int)∧(a.val.length:Int)≤16)]
 constructor
 ·rintro ⟨⟨h1,h2⟩,h3⟩
  exact ⟨h3,fun a ha=>⟨(h1 a ha).1,by have:=(h1 a ha).2.1; omega,by have:=(h1 a ha).2.2; omega⟩,h2⟩
 ·rintro ⟨h3,h1,h2⟩
  exact ⟨⟨fun a ha=>⟨(h1 a ha).1,by have:=(h1 a ha).2.1; omega,by have:=(h1 a ha).2.2; omega⟩,h2⟩,h3⟩
theorem agT (l:List Ent):r9 l=true↔EntsOk l:=by
 rw [r9,Bool.and_eq_true,uF,mR (lt:=r8) (fun a b c h1 h2=>alV a.name b.name c.name h1 h2)]
 simp only [ac9,r8,Bool.and_eq_true,decide_eq_true_eq,iQ]
 rw [ab0 (p:=fun a:Ent=>aY a.name=true∧(2:Int)≤a.ino∧a.ino≤1000)]
 constructor
 ·rintro ⟨⟨h1,h2⟩,h3⟩; exact ⟨h3,h1,h2⟩
 ·rintro ⟨h3,h1,h2⟩; exact ⟨⟨h1,h2⟩,h3⟩
theorem agU (x:Inode):nO x=true↔(x.kind=1∧x.ents=[])∨(x.kind=2∧x.data=[]∧x.links≤1):=by
 unfold nO
 by_cases h1:x.kind=1
 ·rw [if_pos h1]
  simp only [decide_eq_true_eq,List.length_eq_zero_iff]
  constructor
  ·exact fun h=>.inl ⟨h1,h⟩
  ·rintro (⟨_,h⟩ | ⟨h,_⟩)
   ·exact h
   ·omega
 ·rw [if_neg h1]
  by_cases h2:x.kind=2
  ·rw [if_pos h2]
   simp only [Bool.and_eq_true,decide_eq_true_eq,List.length_eq_zero_iff]
   constructor
   ·exact fun h=>.inr ⟨h2,h⟩
   ·rintro (⟨h,_⟩ | ⟨_,h⟩)
    ·exact absurd h h1
    ·exact h
  ·rw [if_neg h2]
   constructor
   ·intro h; cases h
   ·rintro (⟨h,_⟩ | ⟨h,_⟩)
    ·exact absurd h h1
    ·exact absurd h h2
theorem uI (x:Inode):cE x=true↔InodeOk x:=by
 unfold cE
 simp only [Bool.and_eq_true,iQ,decide_eq_true_eq,agT,aeB,agU,beq_iff_eq,decide_eq_decide]
 constructor
 ·rintro ⟨h1,⟨h2,h3⟩,h4,h5,h6,h7⟩; exact ⟨h1,h2,h3,h4,h5,h6,h7⟩
 ·rintro ⟨h1,h2,h3,h4,h5,h6,h7⟩; exact ⟨h1,⟨h2,h3⟩,h4,h5,h6,h7⟩
theorem agV (t:Tab):mT t=true↔∃ x,aP t 1=some x∧x.kind=2:=by
 unfold mT
 cases aP t 1 with
 | none=>simp
 | some x=>simp
theorem aiY (t:Tab):uG t=true↔TabOk t:=by
 unfold uG
 rw [iP]
 simp only [Bool.and_eq_true,decide_eq_true_eq,iQ,agV]
 rw [mR (fun a b c h1 h2=>by simp only [eQ,decide_eq_true_eq] at *; omega)]
 simp only [f9,eQ,Bool.and_eq_true,decide_eq_true_eq,uI]
 rw [ab0 (p:=fun x:Inode=>InodeOk x∧x.ino<t.next)]
 constructor
 ·rintro ⟨h1,h2,⟨h3,h4⟩,h5⟩; exact ⟨h1,h2,h3,h4,h5⟩
 ·rintro ⟨h1,h2,h3,h4,h5⟩; exact ⟨h1,h2,⟨h3,h4⟩,h5⟩
theorem jY (t:Tab):gC t=true↔TreeOk t:=by
 unfold gC
 simp only [Bool.and_eq_true,decide_eq_true_eq,aiY,List.all_eq_true,iB,uH]
 constructor
 ·rintro ⟨h1,h2,h3⟩; exact ⟨h1,h2,fun x hx=>(h3 x hx).1.symm,fun x hx=>(h3 x hx).2⟩
 ·rintro ⟨h1,h2,h3,h4⟩; exact ⟨h1,h2,fun x hx=>⟨(h3 x hx).symm,h4 x hx⟩⟩
def uJ (o:Option Nat):Int:=match o with
 | none=>-1
 | some i=>i
end
section
open Go.Proofs
open Nat (reduceEqDiff reduceAdd reduceMul reduceSub)
open Int (reduceNeg reduceToNat reducePow)
theorem agW (a b:aB) (hl:a.length<2^40):aT Tryz.prog 219 [.ext 1 (aL a),.ext 1 (aL b)] (.bool (decide (a=b))) [.undef,.undef]:=by
 refine U abK [] 51 [] fun w hP hQ=>?_
 unfold rT
 refine N ?_
 (first | with_reducible refine bA _ ?_ ?_ | refine bB _ ?_ ?_) <;> intro h
 ·refine N ?_
  refine d6 (fun i:Nat=>[(5,.int .i64 i)]) (fun i=>i≤a.length∧a.take i=b.take i) (fun i=>a.length-i) (0) hP hQ (rfl) (by simp) ?_
  rintro i ⟨hi,hab⟩ w1 hP1 hQ1
  refine N1 ?_
  (first | with_reducible refine bA _ ?_ ?_ | refine bB _ ?_ ?_) <;> intro h1
  ·have hz:=And.intro (aN h1) (aN (h ▸ h1))
   refine Nz1 ?_
   (first | with_reducible refine bA _ ?_ ?_ | refine bB _ ?_ ?_) <;> intro h2
   ·refine N1 ?_
    exact ⟨i+1,rfl,⟨by omega,dR hab _ _ (UInt8.toNat_inj.1 (by omega))⟩,by omega⟩
   ·refine N1 ?_
    rw [decide_eq_false]
    rintro rfl; exact h2 rfl
  ·refine N1 ?_
   rw [decide_eq_true (mL hab (by omega) (by omega))]
 ·have hz:=hQ
  refine Nz ?_
  rw [decide_eq_false]
  rintro rfl; exact h rfl
theorem zY (a:aB) (left:Int) (hl:a.length<2^48) (h0:0≤left) (h1:left<2^40) :
  aT Tryz.prog 213 [.ext 1 (aL a),.int .i64 left] (.int .i64 (szC left a.length)) [.undef,.undef]:=by
 refine U abG [] 19 [] fun w hP hQ=>?_
 unfold rP
 refine N ?_
 (first | with_reducible refine bA _ ?_ ?_ | refine bB _ ?_ ?_) <;> intro h
 ·refine N ?_
  rw [dB (by omega)]
 ·refine N ?_
  rw [fM (by omega)]
theorem agX (a:aB) (hl:a.length<2^40):aT Tryz.prog 216 [.ext 1 (aL a)] (.own 1 (aL a)) [.undef]:=by
 refine U abI [] 29 [] fun w hP hQ=>?_
 unfold rR
 refine N ?_
 refine d6 (fun i:Nat=>[(3,.own 1 (pB nJ [.int .u8 0] a i)),(4,.int .i64 i)]) (fun i=>i≤a.length) (fun i=>a.length-i) (0) hP hQ (by simp +decide (maxSteps:=9^9) (disch:=omega) only[↓SB0,SX,seval,hQ,wN]) (by omega) ?_
 rintro i hi w1 hP1 hQ1
 refine N1 ?_
 (first | with_reducible refine bA _ ?_ ?_ | refine bB _ ?_ ?_) <;> intro h1
 ·have hz:=(aN h1)
  refine Nz1 ?_
  rw [mN _ _ _ _ (by omega) _ (by rfl)]
  exact ⟨i+1,rfl,by omega,by omega⟩
 ·simp +decide (maxSteps:=9^9) (disch:=omega) only[↓SB0,SX,seval,hQ,hQ1,mM,uC]
theorem ab1 (a:aB) (k:Int) (h0:0≤k) (hl:k+a.length<2^40):aT Tryz.prog 166 [.own 1 (aL a),.int .i64 k] (.int .i64 (k+a.length)) [.own 1 (aL (iZ a k)),.undef]:=by
 refine U wG [] 51 [true,false] fun w hP hQ=>?_
 unfold mC
 refine N ?_
 refine d6 (fun i:Nat=>[(1000,.own 1 (acY nJ (fun _ k=>UInt8.ofInt k) (fun _=>1) a k i)),(1,.int .i64 (k+i)),(5,.int .i64 i)]) (fun i=>i≤a.length) (fun i=>a.length-i) (0) hP hQ (by simp +decide (maxSteps:=9^9) (disch:=omega) only[↓SB0,SX,seval,hQ,acZ,← uC]) (by omega) ?_
 rintro i hi w1 hP1 hQ1
 refine N1 ?_
 (first | with_reducible refine bA _ ?_ ?_ | refine bB _ ?_ ?_) <;> intro h1
 ·refine N1 ?_
  rw [qB _ _ _ _ _ _ (by omega) _ (by simp only [agG,List.length_take,Nat.min_eq_left hi,uB]; rfl)]
  exact ⟨i+1,by simp [Int.add_assoc],by omega,by omega⟩
 ·obtain rfl:i=a.length:=by omega
  have hz:=aet
  exact Nz1 trivial
theorem sA (a:aB) (k:Int) (h0:0≤k) (hl:k+a.length<2^40):aT Tryz.prog 169 [.ext 1 (aL (iZ a k)),.int .i64 k] (.int .i64 (k+a.length)) [.undef,.undef]:=by
 refine U wI [] 51 [] fun w hP hQ=>?_
 unfold mE
 refine N ?_
 refine d6 (fun i:Nat=>[(1,.int .i64 (k+i)),(5,.int .i64 i)]) (fun i=>i≤a.length) (fun i=>a.length-i) (0) hP hQ (by simp +decide (maxSteps:=9^9) (disch:=omega) only[↓SB0,SX,seval,hQ]) (by omega) ?_
 rintro i hi w1 hP1 hQ1
 refine N1 ?_
 (first | with_reducible refine bA _ ?_ ?_ | refine bB _ ?_ ?_) <;> intro h1
 ·have hz:=And.intro (aN h1) uB
  refine Nz1 ?_
  exact ⟨i+1,by simp [Int.add_assoc],by omega,by omega⟩
 ·obtain rfl:i=a.length:=by omega
  exact N1 trivial
end
section
open Go.Proofs
open Nat (reduceEqDiff reduceAdd reduceMul reduceSub)
open Int (reduceNeg reduceToNat reducePow)
theorem akU (a b:Ent) (hl:a.sz<2^40):aT Tryz.prog 247 [a.x,b.x] (.bool (decide (a=b))) [.undef,.undef]:=by
 simp only [Ent.sz] at hl
 refine U agB [] 31 [] fun w hP hQ=>?_
 unfold y6
 refine N ?_
 (first | with_reducible refine bA _ ?_ ?_ | refine bB _ ?_ ?_) <;> intro h0
 rotate_left
 ·refine N ?_
  rw [decide_eq_false (by rintro rfl; exact h0 rfl)]
 refine N ?_
 (first | with_reducible refine bA _ ?_ ?_ | refine bB _ ?_ ?_) <;> intro h1
 rotate_left
 ·refine N ?_
  rw [decide_eq_false (by rintro rfl; exact h1 rfl)]
 refine N ?_
 rw [decide_eq_true (Ent.eq' h0 h1)]
theorem aiZ (a b:List Ent) (hl:szM Ent.sz a<2^40):aT Tryz.prog 220 [.ext 2 (a.map Ent.row),.ext 2 (b.map Ent.row)] (.bool (decide (a=b))) [.undef,.undef]:=by
 simp only [szM] at hl
 refine U aen [] 51 [] fun w hP hQ=>?_
 unfold t6
 refine N ?_
 (first | with_reducible refine bA _ ?_ ?_ | refine bB _ ?_ ?_) <;> intro h
 rotate_left
 ·refine N ?_
  rw [decide_eq_false (by rintro rfl; exact h rfl)]
 refine N ?_
 refine d6 (fun i:Nat=>[(5,.int .i64 i)]) (fun i=>i≤a.length∧a.take i=b.take i) (fun i=>a.length-i) (0) hP hQ (rfl) (by simp) ?_
 rintro i ⟨hi,hab⟩ w1 hP1 hQ1
 refine N1 ?_
 (first | with_reducible refine bA _ ?_ ?_ | refine bB _ ?_ ?_) <;> intro h1
 ·have hz:=And.intro (aN h1) (aN (h ▸ h1))
  refine Nz1 ?_
  refine K1 (akU (a[i]'(by omega)) (b[i]'(by omega)) (Nat.lt_of_le_of_lt (nI Ent.sz _) (by omega))) ?_
  (first | with_reducible refine bA _ ?_ ?_ | refine bB _ ?_ ?_) <;> intro h2
  ·refine N1 ?_
   exact ⟨i+1,rfl,⟨by omega,dR hab _ _ h2⟩,by omega⟩
  ·refine N1 ?_
   rw [decide_eq_false (by rintro rfl; exact h2 rfl)]
 ·refine N1 ?_
  rw [decide_eq_true (mL hab (by omega) (by omega))]
theorem ai0 (a b:Attr) (hl:a.sz<2^40):aT Tryz.prog 248 [a.x,b.x] (.bool (decide (a=b))) [.undef,.undef]:=by
 simp only [Attr.sz] at hl
 refine U aeq [] 31 [] fun w hP hQ=>?_
 unfold uA
 refine N ?_
 (first | with_reducible refine bA _ ?_ ?_ | refine bB _ ?_ ?_) <;> intro h0
 rotate_left
 ·refine N ?_
  rw [decide_eq_false (by rintro rfl; exact h0 rfl)]
 refine N ?_
 (first | with_reducible refine bA _ ?_ ?_ | refine bB _ ?_ ?_) <;> intro h1
 rotate_left
 ·refine N ?_
  rw [decide_eq_false (by rintro rfl; exact h1 rfl)]
 refine N ?_
 rw [decide_eq_true (Attr.eq' h0 h1)]
theorem agY (a b:List Attr) (hl:szM Attr.sz a<2^40):aT Tryz.prog 221 [.ext 2 (a.map Attr.row),.ext 2 (b.map Attr.row)] (.bool (decide (a=b))) [.undef,.undef]:=by
 simp only [szM] at hl
 refine U abL [] 51 [] fun w hP hQ=>?_
 unfold rU
 refine N ?_
 (first | with_reducible refine bA _ ?_ ?_ | refine bB _ ?_ ?_) <;> intro h
 rotate_left
 ·refine N ?_
  rw [decide_eq_false (by rintro rfl; exact h rfl)]
 refine N ?_
 refine d6 (fun i:Nat=>[(5,.int .i64 i)]) (fun i=>i≤a.length∧a.take i=b.take i) (fun i=>a.length-i) (0) hP hQ (rfl) (by simp) ?_
 rintro i ⟨hi,hab⟩ w1 hP1 hQ1
 refine N1 ?_
 (first | with_reducible refine bA _ ?_ ?_ | refine bB _ ?_ ?_) <;> intro h1
 ·have hz:=And.intro (aN h1) (aN (h ▸ h1))
  refine Nz1 ?_
  refine K1 (ai0 (a[i]'(by omega)) (b[i]'(by omega)) (Nat.lt_of_le_of_lt (nI Attr.sz _) (by omega))) ?_
  (first | with_reducible refine bA _ ?_ ?_ | refine bB _ ?_ ?_) <;> intro h2
  ·refine N1 ?_
   exact ⟨i+1,rfl,⟨by omega,dR hab _ _ h2⟩,by omega⟩
  ·refine N1 ?_
   rw [decide_eq_false (by rintro rfl; exact h2 rfl)]
 ·refine N1 ?_
  rw [decide_eq_true (mL hab (by omega) (by omega))]
theorem agZ (a b:Inode) (hl:a.sz<2^40):aT Tryz.prog 165 [a.x,b.x] (.bool (decide (a=b))) [.undef,.undef]:=by
 simp only [Inode.sz] at hl
 refine U abD [] 31 [] fun w hP hQ=>?_
 unfold rM
 refine N ?_
 (first | with_reducible refine bA _ ?_ ?_ | refine bB _ ?_ ?_) <;> intro h0
 rotate_left
 ·refine N ?_
  rw [decide_eq_false (by rintro rfl; exact h0 rfl)]
 refine N ?_
 (first | with_reducible refine bA _ ?_ ?_ | refine bB _ ?_ ?_) <;> intro h1
 rotate_left
 ·refine N ?_
  rw [decide_eq_false (by rintro rfl; exact h1 rfl)]
 refine N ?_
 (first | with_reducible refine bA _ ?_ ?_ | refine bB _ ?_ ?_) <;> intro h2
 rotate_left
 ·refine N ?_
  rw [decide_eq_false (by rintro rfl; exact h2 rfl)]
 refine N ?_
 refine K (agW a.data b.data (by omega)) ?_
 (first | with_reducible refine bA _ ?_ ?_ | refine bB _ ?_ ?_) <;> intro h3
 rotate_left
 ·refine N ?_
  rw [decide_eq_false (by rintro rfl; exact h3 rfl)]
 refine N ?_
 refine K (aiZ a.ents b.ents (by omega)) ?_
 (first | with_reducible refine bA _ ?_ ?_ | refine bB _ ?_ ?_) <;> intro h4
 rotate_left
 ·refine N ?_
  rw [decide_eq_false (by rintro rfl; exact h4 rfl)]
 refine N ?_
 refine K (agY a.attrs b.attrs (by omega)) ?_
 (first | with_reducible refine bA _ ?_ ?_ | refine bB _ ?_ ?_) <;> intro h5
 rotate_left
 ·refine N ?_
  rw [decide_eq_false (by rintro rfl; exact h5 rfl)]
 refine N ?_
 rw [decide_eq_true (Inode.eq' h0 h1 h2 h3 h4 h5)]
theorem aeC (a b:List Inode) (hl:szM Inode.sz a<2^40):aT Tryz.prog 115 [.ext 6 (a.map Inode.row),.ext 6 (b.map Inode.row)] (.bool (decide (a=b))) [.undef,.undef]:=by
 simp only [szM] at hl
 refine U zB [] 51 [] fun w hP hQ=>?_
 unfold oR
 refine N ?_
 (first | with_reducible refine bA _ ?_ ?_ | refine bB _ ?_ ?_) <;> intro h
 rotate_left
 ·refine N ?_
  rw [decide_eq_false (by rintro rfl; exact h rfl)]
 refine N ?_
 refine d6 (fun i:Nat=>[(5,.int .i64 i)]) (fun i=>i≤a.length∧a.take i=b.take i) (fun i=>a.length-i) (0) hP hQ (rfl) (by simp) ?_
 rintro i ⟨hi,hab⟩ w1 hP1 hQ1
 refine N1 ?_
 (first | with_reducible refine bA _ ?_ ?_ | refine bB _ ?_ ?_) <;> intro h1
 ·have hz:=And.intro (aN h1) (aN (h ▸ h1))
  refine Nz1 ?_
  refine K1 (agZ (a[i]'(by omega)) (b[i]'(by omega)) (Nat.lt_of_le_of_lt (nI Inode.sz _) (by omega))) ?_
  (first | with_reducible refine bA _ ?_ ?_ | refine bB _ ?_ ?_) <;> intro h2
  ·refine N1 ?_
   exact ⟨i+1,rfl,⟨by omega,dR hab _ _ h2⟩,by omega⟩
  ·refine N1 ?_
   rw [decide_eq_false (by rintro rfl; exact h2 rfl)]
 ·refine N1 ?_
  rw [decide_eq_true (mL hab (by omega) (by omega))]
theorem akV (a b:Tab) (hl:a.sz<2^40):aT Tryz.prog 53 [a.x,b.x] (.bool (decide (a=b))) [.undef,.undef]:=by
 simp only [Tab.sz] at hl
 refine U agp [] 31 [] fun w hP hQ=>?_
 unfold yQ
 refine N ?_
 refine K (aeC a.inodes b.inodes (by omega)) ?_
 (first | with_reducible refine bA _ ?_ ?_ | refine bB _ ?_ ?_) <;> intro h0
 rotate_left
 ·refine N ?_
  rw [decide_eq_false (by rintro rfl; exact h0 rfl)]
 refine N ?_
 (first | with_reducible refine bA _ ?_ ?_ | refine bB _ ?_ ?_) <;> intro h1
 rotate_left
 ·refine N ?_
  rw [decide_eq_false (by rintro rfl; exact h1 rfl)]
 refine N ?_
 rw [decide_eq_true (Tab.eq' h0 h1)]
end
section
open Go.Proofs
open Nat (reduceEqDiff reduceAdd reduceMul reduceSub)
open Int (reduceNeg reduceToNat reducePow)
theorem akW (a:Ent) (hl:a.sz<2^40):aT Tryz.prog 245 [a.x] a.o [.undef]:=by
 simp only [Ent.sz] at hl
 refine U agA [] 15 [] fun w hP hQ=>?_
 unfold y5
 exact N trivial
theorem ai1 (a:List Ent) (hl:szM Ent.sz a<2^40):aT Tryz.prog 217 [.ext 2 (a.map Ent.row)] (.own 2 (a.map Ent.row)) [.undef]:=by
 simp only [szM] at hl
 refine U aem [] 29 [] fun w hP hQ=>?_
 unfold tZ
 refine N ?_
 refine d6 (fun i:Nat=>[(3,.own 2 (pB Ent.row Ent.zero a i)),(4,.int .i64 i)]) (fun i=>i≤a.length) (fun i=>a.length-i) (0) hP hQ (by simp +decide (maxSteps:=9^9) (disch:=omega) only[↓SB0,SX,seval,hQ,wN]; rfl) (by omega) ?_
 rintro i hi w1 hP1 hQ1
 refine N1 ?_
 (first | with_reducible refine bA _ ?_ ?_ | refine bB _ ?_ ?_) <;> intro h1
 ·have hz:=(aN h1)
  refine Nz1 ?_
  refine K1 (akW (a[i]'(by omega)) (Nat.lt_of_le_of_lt (nI Ent.sz _) (by omega))) ?_
  rw [mN _ _ _ _ (by omega) _ (by rfl)]
  exact ⟨i+1,rfl,by omega,by omega⟩
 ·simp +decide (maxSteps:=9^9) (disch:=omega) only[↓SB0,SX,seval,hQ,hQ1,mM]
theorem ai2 (a:Attr) (hl:a.sz<2^40):aT Tryz.prog 246 [a.x] a.o [.undef]:=by
 simp only [Attr.sz] at hl
 refine U aep [] 15 [] fun w hP hQ=>?_
 unfold t8
 exact N trivial
theorem ag0 (a:List Attr) (hl:szM Attr.sz a<2^40):aT Tryz.prog 218 [.ext 2 (a.map Attr.row)] (.own 2 (a.map Attr.row)) [.undef]:=by
 simp only [szM] at hl
 refine U abJ [] 29 [] fun w hP hQ=>?_
 unfold rS
 refine N ?_
 refine d6 (fun i:Nat=>[(3,.own 2 (pB Attr.row Attr.zero a i)),(4,.int .i64 i)]) (fun i=>i≤a.length) (fun i=>a.length-i) (0) hP hQ (by simp +decide (maxSteps:=9^9) (disch:=omega) only[↓SB0,SX,seval,hQ,wN]; rfl) (by omega) ?_
 rintro i hi w1 hP1 hQ1
 refine N1 ?_
 (first | with_reducible refine bA _ ?_ ?_ | refine bB _ ?_ ?_) <;> intro h1
 ·have hz:=(aN h1)
  refine Nz1 ?_
  refine K1 (ai2 (a[i]'(by omega)) (Nat.lt_of_le_of_lt (nI Attr.sz _) (by omega))) ?_
  rw [mN _ _ _ _ (by omega) _ (by rfl)]
  exact ⟨i+1,rfl,by omega,by omega⟩
 ·simp +decide (maxSteps:=9^9) (disch:=omega) only[↓SB0,SX,seval,hQ,hQ1,mM]
theorem ag1 (a:Inode) (hl:a.sz<2^40):aT Tryz.prog 164 [a.x] a.o [.undef]:=by
 simp only [Inode.sz] at hl
 refine U abC [] 15 [] fun w hP hQ=>?_
 unfold rL
 refine N ?_
 refine K (agX a.data (by omega)) ?_
 refine K (ai1 a.ents (by omega)) ?_
 exact K (ag0 a.attrs (by omega)) trivial
theorem aeD (a:List Inode) (hl:szM Inode.sz a<2^40):aT Tryz.prog 114 [.ext 6 (a.map Inode.row)] (.own 6 (a.map Inode.row)) [.undef]:=by
 simp only [szM] at hl
 refine U zA [] 29 [] fun w hP hQ=>?_
 unfold oQ
 refine N ?_
 refine d6 (fun i:Nat=>[(3,.own 6 (pB Inode.row Inode.zero a i)),(4,.int .i64 i)]) (fun i=>i≤a.length) (fun i=>a.length-i) (0) hP hQ (by simp +decide (maxSteps:=9^9) (disch:=omega) only[↓SB0,SX,seval,hQ,wN]; rfl) (by omega) ?_
 rintro i hi w1 hP1 hQ1
 refine N1 ?_
 (first | with_reducible refine bA _ ?_ ?_ | refine bB _ ?_ ?_) <;> intro h1
 ·have hz:=(aN h1)
  refine Nz1 ?_
  refine K1 (ag1 (a[i]'(by omega)) (Nat.lt_of_le_of_lt (nI Inode.sz _) (by omega))) ?_
  rw [mN _ _ _ _ (by omega) _ (by rfl)]
  exact ⟨i+1,rfl,by omega,by omega⟩
 ·simp +decide (maxSteps:=9^9) (disch:=omega) only[↓SB0,SX,seval,hQ,hQ1,mM]
theorem jZ (a:Tab) (hl:a.sz<2^40):aT Tryz.prog 52 [a.x] a.o [.undef]:=by
 simp only [Tab.sz] at hl
 refine U ago [] 15 [] fun w hP hQ=>?_
 unfold yP
 refine N ?_
 exact K (aeD a.inodes (by omega)) trivial
end
section
open Go.Proofs
open Nat (reduceEqDiff reduceAdd reduceMul reduceSub)
open Int (reduceNeg reduceToNat reducePow)
theorem ag2 (a:Ent) (left:Int) (hf:a.fine) (h0:0≤left) (hl:left<2^40) :
  aT Tryz.prog 243 [a.x,.int .i64 left] (.int .i64 (szC left a.sz)) [.undef,.undef]:=by
 have hsz:a.sz=a.name.length:=rfl
 simp only [Ent.fine] at hf
 have hf0:=hf
 refine U agz [] 23 [] fun w hP hQ=>?_
 unfold y0
 refine N ?_
 (first | with_reducible refine bA _ ?_ ?_ | refine bB _ ?_ ?_) <;> intro g0
 ·refine N ?_
  rw [dB (by omega)]
 refine N ?_
 rw [fM (by omega)]
 simp only [hsz,Int.natCast_add,Int.sub_sub,Int.add_assoc]
theorem ada (a:List Ent) (left:Int) (hf:a.length<2^48) (hf':∀ x ∈ a,x.fine) (h0:0≤left) (hl:left<2^40) :
  aT Tryz.prog 214 [.ext 2 (a.map Ent.row),.int .i64 left] (.int .i64 (szC left (szM Ent.sz a))) [.undef,.undef]:=by
 have hsz:szM Ent.sz a=a.length+(a.map Ent.sz).sum:=rfl
 refine U ael [] 51 [] fun w hP hQ=>?_
 unfold tY
 refine N ?_
 (first | with_reducible refine bA _ ?_ ?_ | refine bB _ ?_ ?_) <;> intro h
 ·refine N ?_
  rw [dB (by omega)]
 refine N ?_
 refine d6 (fun s:Nat × Int=>[(1,.int .i64 s.2),(5,.int .i64 s.1)]) (fun s=>s.1≤a.length∧0≤s.2∧s.2=left-a.length-((a.take s.1).map Ent.sz).sum) (fun s=>a.length-s.1) ((0,left-a.length)) hP hQ (rfl) (by simp; omega) ?_
 rintro ⟨i,c⟩ ⟨hi,h0',hc⟩ w1 hP1 hQ1
 refine N1 ?_
 simp only at hi h0' hc
 (first | with_reducible refine bA _ ?_ ?_ | refine bB _ ?_ ?_) <;> intro h1
 ·have hs:=eG Ent.sz a i (by omega)
  have hs':=b5 Ent.sz a (i+1)
  have hz:=(aN h1)
  refine Nz1 ?_
  by_cases g:c<((a[i].sz:Nat):Int)
  ·have hz:=(dB g)
   refine Kz1 (ag2 a[i] c (hf' _ (List.getElem_mem _)) (by omega) (by omega)) ?_
   rw [dB (by omega)]
  ·have hz:=(fM g)
   refine Kz1 (ag2 a[i] c (hf' _ (List.getElem_mem _)) (by omega) (by omega)) ?_
   (first | with_reducible refine bA _ ?_ ?_ | refine bB _ ?_ ?_) <;> intro k
   ·exfalso; omega
   refine N1 ?_
   exact ⟨(i+1,c-a[i].sz),rfl,⟨by simp only; omega,by simp only; omega,by simp only; omega⟩,by simp only; omega⟩
 ·obtain rfl:i=a.length:=by omega
  rw [List.take_length] at hc
  refine N1 ?_
  rw [fM (by omega)]
  simp only [hsz,hc,Int.natCast_add,Int.sub_sub,Int.add_assoc]
theorem adb (a:Attr) (left:Int) (hf:a.fine) (h0:0≤left) (hl:left<2^40) :
  aT Tryz.prog 244 [a.x,.int .i64 left] (.int .i64 (szC left a.sz)) [.undef,.undef]:=by
 have hsz:a.sz=a.name.length+a.val.length:=rfl
 simp only [Attr.fine] at hf
 obtain ⟨hf0,hf1⟩:=hf
 refine U aeo [] 23 [] fun w hP hQ=>?_
 unfold t7
 refine N ?_
 (first | with_reducible refine bA _ ?_ ?_ | refine bB _ ?_ ?_) <;> intro g0
 ·refine N ?_
  rw [dB (by omega)]
 refine N ?_
 (first | with_reducible refine bA _ ?_ ?_ | refine bB _ ?_ ?_) <;> intro g1
 ·refine N ?_
  rw [dB (by omega)]
 refine N ?_
 rw [fM (by omega)]
 simp only [hsz,Int.natCast_add,Int.sub_sub,Int.add_assoc]
theorem zZ (a:List Attr) (left:Int) (hf:a.length<2^48) (hf':∀ x ∈ a,x.fine) (h0:0≤left) (hl:left<2^40) :
  aT Tryz.prog 215 [.ext 2 (a.map Attr.row),.int .i64 left] (.int .i64 (szC left (szM Attr.sz a))) [.undef,.undef]:=by
 have hsz:szM Attr.sz a=a.length+(a.map Attr.sz).sum:=rfl
 refine U abH [] 51 [] fun w hP hQ=>?_
 unfold rQ
 refine N ?_
 (first | with_reducible refine bA _ ?_ ?_ | refine bB _ ?_ ?_) <;> intro h
 ·refine N ?_
  rw [dB (by omega)]
 refine N ?_
 refine d6 (fun s:Nat × Int=>[(1,.int .i64 s.2),(5,.int .i64 s.1)]) (fun s=>s.1≤a.length∧0≤s.2∧s.2=left-a.length-((a.take s.1).map Attr.sz).sum) (fun s=>a.length-s.1) ((0,left-a.length)) hP hQ (rfl) (by simp; omega) ?_
 rintro ⟨i,c⟩ ⟨hi,h0',hc⟩ w1 hP1 hQ1
 refine N1 ?_
 simp only at hi h0' hc
 (first | with_reducible refine bA _ ?_ ?_ | refine bB _ ?_ ?_) <;> intro h1
 ·have hs:=eG Attr.sz a i (by omega)
  have hs':=b5 Attr.sz a (i+1)
  have hz:=(aN h1)
  refine Nz1 ?_
  by_cases g:c<((a[i].sz:Nat):Int)
  ·have hz:=(dB g)
   refine Kz1 (adb a[i] c (hf' _ (List.getElem_mem _)) (by omega) (by omega)) ?_
   rw [dB (by omega)]
  ·have hz:=(fM g)
   refine Kz1 (adb a[i] c (hf' _ (List.getElem_mem _)) (by omega) (by omega)) ?_
   (first | with_reducible refine bA _ ?_ ?_ | refine bB _ ?_ ?_) <;> intro k
   ·exfalso; omega
   refine N1 ?_
   exact ⟨(i+1,c-a[i].sz),rfl,⟨by simp only; omega,by simp only; omega,by simp only; omega⟩,by simp only; omega⟩
 ·obtain rfl:i=a.length:=by omega
  rw [List.take_length] at hc
  refine N1 ?_
  rw [fM (by omega)]
  simp only [hsz,hc,Int.natCast_add,Int.sub_sub,Int.add_assoc]
theorem z6 (a:Inode) (left:Int) (hf:a.fine) (h0:0≤left) (hl:left<2^40) :
  aT Tryz.prog 163 [a.x,.int .i64 left] (.int .i64 (szC left a.sz)) [.undef,.undef]:=by
 have hsz:a.sz=a.data.length+szM Ent.sz a.ents+szM Attr.sz a.attrs:=rfl
 simp only [Inode.fine] at hf
 obtain ⟨hf0,hf1,hf2⟩:=hf
 refine U abB [] 23 [] fun w hP hQ=>?_
 unfold rK
 refine N ?_
 by_cases g0:left<((a.data.length:Nat):Int)
 ·have hz:=(dB g0)
  refine Kz (zY a.data (left) hf0 (by omega) (by omega)) ?_
  rw [dB (by omega)]
 have hz:=(fM g0)
 refine Kz (zY a.data (left) hf0 (by omega) (by omega)) ?_
 (first | with_reducible refine bA _ ?_ ?_ | refine bB _ ?_ ?_) <;> intro k0
 ·exfalso; omega
 refine N ?_
 by_cases g1:left-((a.data.length:Nat):Int)<((szM Ent.sz a.ents:Nat):Int)
 ·have hz:=(dB g1)
  refine Kz (ada a.ents (left-((a.data.length:Nat):Int)) hf1.1 hf1.2 (by omega) (by omega)) ?_
  rw [dB (by omega)]
 have hz:=(fM g1)
 refine Kz (ada a.ents (left-((a.data.length:Nat):Int)) hf1.1 hf1.2 (by omega) (by omega)) ?_
 (first | with_reducible refine bA _ ?_ ?_ | refine bB _ ?_ ?_) <;> intro k1
 ·exfalso; omega
 refine N ?_
 by_cases g2:left-((a.data.length:Nat):Int)-((szM Ent.sz a.ents:Nat):Int)<((szM Attr.sz a.attrs:Nat):Int)
 ·have hz:=(dB g2)
  refine Kz (zZ a.attrs (left-((a.data.length:Nat):Int)-((szM Ent.sz a.ents:Nat):Int)) hf2.1 hf2.2 (by omega) (by omega)) ?_
  rw [dB (by omega)]
 have hz:=(fM g2)
 refine Kz (zZ a.attrs (left-((a.data.length:Nat):Int)-((szM Ent.sz a.ents:Nat):Int)) hf2.1 hf2.2 (by omega) (by omega)) ?_
 (first | with_reducible refine bA _ ?_ ?_ | refine bB _ ?_ ?_) <;> intro k2
 ·exfalso; omega
 refine N ?_
 rw [fM (by omega)]
 simp only [hsz,Int.natCast_add,Int.sub_sub,Int.add_assoc]
theorem uK (a:List Inode) (left:Int) (hf:a.length<2^48) (hf':∀ x ∈ a,x.fine) (h0:0≤left) (hl:left<2^40) :
  aT Tryz.prog 113 [.ext 6 (a.map Inode.row),.int .i64 left] (.int .i64 (szC left (szM Inode.sz a))) [.undef,.undef]:=by
 have hsz:szM Inode.sz a=a.length+(a.map Inode.sz).sum:=rfl
 refine U y9 [] 51 [] fun w hP hQ=>?_
 unfold oP
 refine N ?_
 (first | with_reducible refine bA _ ?_ ?_ | refine bB _ ?_ ?_) <;> intro h
 ·refine N ?_
  rw [dB (by omega)]
 refine N ?_
 refine d6 (fun s:Nat × Int=>[(1,.int .i64 s.2),(5,.int .i64 s.1)]) (fun s=>s.1≤a.length∧0≤s.2∧s.2=left-a.length-((a.take s.1).map Inode.sz).sum) (fun s=>a.length-s.1) ((0,left-a.length)) hP hQ (rfl) (by simp; omega) ?_
 rintro ⟨i,c⟩ ⟨hi,h0',hc⟩ w1 hP1 hQ1
 refine N1 ?_
 simp only at hi h0' hc
 (first | with_reducible refine bA _ ?_ ?_ | refine bB _ ?_ ?_) <;> intro h1
 ·have hs:=eG Inode.sz a i (by omega)
  have hs':=b5 Inode.sz a (i+1)
  have hz:=(aN h1)
  refine Nz1 ?_
  by_cases g:c<((a[i].sz:Nat):Int)
  ·have hz:=(dB g)
   refine Kz1 (z6 a[i] c (hf' _ (List.getElem_mem _)) (by omega) (by omega)) ?_
   rw [dB (by omega)]
  ·have hz:=(fM g)
   refine Kz1 (z6 a[i] c (hf' _ (List.getElem_mem _)) (by omega) (by omega)) ?_
   (first | with_reducible refine bA _ ?_ ?_ | refine bB _ ?_ ?_) <;> intro k
   ·exfalso; omega
   refine N1 ?_
   exact ⟨(i+1,c-a[i].sz),rfl,⟨by simp only; omega,by simp only; omega,by simp only; omega⟩,by simp only; omega⟩
 ·obtain rfl:i=a.length:=by omega
  rw [List.take_length] at hc
  refine N1 ?_
  rw [fM (by omega)]
  simp only [hsz,hc,Int.natCast_add,Int.sub_sub,Int.add_assoc]
theorem wU (a:Tab) (left:Int) (hf:a.fine) (h0:0≤left) (hl:left<2^40) :
  aT Tryz.prog 51 [a.x,.int .i64 left] (.int .i64 (szC left a.sz)) [.undef,.undef]:=by
 have hsz:a.sz=szM Inode.sz a.inodes:=rfl
 simp only [Tab.fine] at hf
 have hf0:=hf
 refine U agn [] 23 [] fun w hP hQ=>?_
 unfold yO
 refine N ?_
 by_cases g0:left<((szM Inode.sz a.inodes:Nat):Int)
 ·have hz:=(dB g0)
  refine Kz (uK a.inodes (left) hf0.1 hf0.2 (by omega) (by omega)) ?_
  rw [dB (by omega)]
 have hz:=(fM g0)
 refine Kz (uK a.inodes (left) hf0.1 hf0.2 (by omega) (by omega)) ?_
 (first | with_reducible refine bA _ ?_ ?_ | refine bB _ ?_ ?_) <;> intro k0
 ·exfalso; omega
 refine N ?_
 rw [fM (by omega)]
 simp only [hsz,Int.natCast_add,Int.sub_sub,Int.add_assoc]
end
section
open Go.Proofs
open Nat (reduceEqDiff reduceAdd reduceMul reduceSub)
open Int (reduceNeg reduceToNat reducePow)
theorem ajL:ahH 0=[]:=by rw [ahH]; simp
theorem adc {n:Nat} (h:0<n):ahH n=ahH (n/10)++[UInt8.ofNat (48+n%10)]:=by rw [ahH,dif_neg (by omega)]
theorem ai3 (n:Nat):(ahH n).length≤n:=by
 induction n using Nat.strongRecOn with
 | _ n ih=>
  by_cases h:n=0
  ·subst h; rw [ajL]; simp
  ·rw [adc (by omega),List.length_append]
   have:=ih (n/10) (by omega)
   simp only [List.length_cons,List.length_nil]; omega
theorem rb2 (m:Nat):bY [[.int .u8 (48+((m%10:Nat):Int))]]=some [UInt8.ofNat (48+m%10)]:=by
 have:(48+((m%10:Nat):Int)).toNat=48+m%10:=by omega
 simp only [bY,m6,this,Option.bind_some,Option.map_some]
theorem c8 (k:Int) (h0:0≤k) (hl:k<2^40):aT Tryz.prog 222 [.int .i64 k] (.str (gJ k)) [.undef]:=by
 obtain ⟨n,rfl⟩:∃ n:Nat,k=n:=⟨k.toNat,by omega⟩
 have hn:n<2^40:=by omega
 refine cW hmx zH [] 13 [] ⟨Nat.le_of_ble_eq_true rfl,Nat.le_of_ble_eq_true rfl⟩ rfl rfl ?_
 intro w hP hQ
 unfold oV
 simp +decide (maxSteps:=9^9) (disch:=omega) only[↓SB0,SX,seval,hQ]
 (first | with_reducible refine bA _ ?_ ?_ | refine bB _ ?_ ?_) <;> intro h
 ·have:n=0:=by omega
  subst this
  simp +decide (maxSteps:=9^9) (disch:=omega) only[↓SB0,SX,seval,hQ]
  rfl
 ·simp +decide (maxSteps:=9^9) (disch:=omega) only[↓SB0,SX,seval,hQ]
  refine f6 [] ?_
  simp +decide (maxSteps:=9^9) (disch:=omega) only[↓SB0,SX,seval,hQ]
  refine aU [] (fun s:Nat × aB=>[(0,.int .i64 s.1),(3,.str s.2)]) (fun s=>ahH n=ahH s.1++s.2∧s.1<2^40) (fun s=>s.1) ((n,[])) hP hQ (rfl) (by simp; exact hn) ?_
  rintro ⟨m,s⟩ ⟨hd,hm⟩ w1 hP1 hQ1
  simp +decide (maxSteps:=9^9) (disch:=omega) only[↓SB0,SX,seval,hQ,hQ1]
  simp only at hd hm
  have hlen:s.length≤n:=by
   have:=ai3 n
   rw [hd,List.length_append] at this
   omega
  (first | with_reducible refine bA _ ?_ ?_ | refine bB _ ?_ ?_) <;> intro h1
  ·have e1:((m:Int).tmod 10)=((m%10:Nat):Int):=rfl
   have e2:((m:Int).tdiv 10)=((m/10:Nat):Int):=rfl
   simp +decide (maxSteps:=9^9) (disch:=omega) only[↓SB0,SX,seval,hQ,hQ1,e1,e2,rb2]
   exact ⟨(m/10,UInt8.ofNat (48+m%10)::s),rfl,⟨by rw [hd,adc (by omega)]; simp,by simp only; omega⟩,by simp only; omega⟩
  ·obtain rfl:m=0:=by omega
   rw [ajL,List.nil_append] at hd
   simp +decide (maxSteps:=9^9) (disch:=omega) only[↓SB0,SX,seval,hQ,hQ1]
   rw [gJ,if_neg (by omega),Int.toNat_natCast,hd]
end
section
open Go.Proofs
open Nat (reduceEqDiff reduceAdd reduceMul reduceSub)
open Int (reduceNeg reduceToNat reducePow)
theorem aeE (a:List Ent) (k:Int) (h0:0≤k) (hl:k+(fB Ent.cnt a:Nat)<2^40):aT Tryz.prog 167 [.own 2 (a.map Ent.row),.int .i64 k] (.int .i64 (k+(fB Ent.cnt a:Nat))) [.own 2 ((dH Ent.marked Ent.cnt a k).map Ent.row),.undef]:=by
 simp only [fB] at hl
 have hlen:=nK Ent.cnt Ent.cnt1 a
 refine U zE [] 51 [true,false] fun w hP hQ=>?_
 unfold oS
 refine N ?_
 refine d6 (fun s:Nat × Int=>[(1000,.own 2 (acY Ent.row Ent.marked Ent.cnt a k s.1)),(1,.int .i64 s.2),(5,.int .i64 s.1)]) (fun s=>s.1≤a.length∧s.2=k+((a.take s.1).map Ent.cnt).sum) (fun s=>a.length-s.1) ((0,k)) hP hQ (by simp +decide (maxSteps:=9^9) (disch:=omega) only[↓SB0,SX,seval,hQ,acZ]) (by simp) ?_
 rintro ⟨i,c⟩ ⟨hi,hc⟩ w1 hP1 hQ1
 refine N1 ?_
 simp only at hi hc
 (first | with_reducible refine bA _ ?_ ?_ | refine bB _ ?_ ?_) <;> intro h1
 ·have hs:=eG Ent.cnt a i (by omega)
  have hs':=b5 Ent.cnt a (i+1)
  have hn:a[i].cnt=1+1:=rfl
  have hz:=(aN h1)
  refine Nz1 ?_
  have hz:=(aN h1)
  refine Kz1 (c8 (c) (by omega) (by omega)) ?_
  rw [qB _ _ _ _ _ _ (by omega) _ (by subst hc; rfl)]
  exact ⟨(i+1,c+1+1),rfl,⟨by simp only; omega,by simp only; omega⟩,by simp only; omega⟩
 ·obtain rfl:i=a.length:=by omega
  rw [List.take_length] at hc
  simp +decide (maxSteps:=9^9) (disch:=omega) only[↓SB0,SX,seval,hQ,hQ1,qA,hc,fB]
theorem ab2 (a:List Attr) (k:Int) (h0:0≤k) (hl:k+(fB Attr.cnt a:Nat)<2^40):aT Tryz.prog 168 [.own 2 (a.map Attr.row),.int .i64 k] (.int .i64 (k+(fB Attr.cnt a:Nat))) [.own 2 ((dH Attr.marked Attr.cnt a k).map Attr.row),.undef]:=by
 simp only [fB] at hl
 have hlen:=nK Attr.cnt Attr.cnt1 a
 refine U wH [] 51 [true,false] fun w hP hQ=>?_
 unfold mD
 refine N ?_
 refine d6 (fun s:Nat × Int=>[(1000,.own 2 (acY Attr.row Attr.marked Attr.cnt a k s.1)),(1,.int .i64 s.2),(5,.int .i64 s.1)]) (fun s=>s.1≤a.length∧s.2=k+((a.take s.1).map Attr.cnt).sum) (fun s=>a.length-s.1) ((0,k)) hP hQ (by simp +decide (maxSteps:=9^9) (disch:=omega) only[↓SB0,SX,seval,hQ,acZ]) (by simp) ?_
 rintro ⟨i,c⟩ ⟨hi,hc⟩ w1 hP1 hQ1
 refine N1 ?_
 simp only at hi hc
 (first | with_reducible refine bA _ ?_ ?_ | refine bB _ ?_ ?_) <;> intro h1
 ·have hs:=eG Attr.cnt a i (by omega)
  have hs':=b5 Attr.cnt a (i+1)
  have hn:a[i].cnt=1+1:=rfl
  have hz:=(aN h1)
  refine Nz1 ?_
  have hz:=(aN h1)
  refine Kz1 (c8 (c) (by omega) (by omega)) ?_
  have hz:=(aN h1)
  refine Kz1 (c8 (c+1) (by omega) (by omega)) ?_
  rw [qB _ _ _ _ _ _ (by omega) _ (by subst hc; rfl)]
  exact ⟨(i+1,c+1+1),rfl,⟨by simp only; omega,by simp only; omega⟩,by simp only; omega⟩
 ·obtain rfl:i=a.length:=by omega
  rw [List.take_length] at hc
  simp +decide (maxSteps:=9^9) (disch:=omega) only[↓SB0,SX,seval,hQ,hQ1,qA,hc,fB]
theorem z7 (a:List Inode) (k:Int) (h0:0≤k) (hl:k+(fB Inode.cnt a:Nat)<2^40):aT Tryz.prog 116 [.own 6 (a.map Inode.row),.int .i64 k] (.int .i64 (k+(fB Inode.cnt a:Nat))) [.own 6 ((dH Inode.marked Inode.cnt a k).map Inode.row),.undef]:=by
 simp only [fB] at hl
 have hlen:=nK Inode.cnt Inode.cnt1 a
 refine U sX [(166,[.l,.b],[]),(167,[.l,.b],[]),(168,[.l,.b],[])] 51 [true,false] fun w hP hQ=>?_
 unfold lC
 refine N ?_
 refine d6 (fun s:Nat × Int=>[(1000,.own 6 (acY Inode.row Inode.marked Inode.cnt a k s.1)),(1,.int .i64 s.2),(5,.int .i64 s.1)]) (fun s=>s.1≤a.length∧s.2=k+((a.take s.1).map Inode.cnt).sum) (fun s=>a.length-s.1) ((0,k)) hP hQ (by simp +decide (maxSteps:=9^9) (disch:=omega) only[↓SB0,SX,seval,hQ,acZ]) (by simp) ?_
 rintro ⟨i,c⟩ ⟨hi,hc⟩ w1 hP1 hQ1
 refine N1 ?_
 simp only at hi hc
 (first | with_reducible refine bA _ ?_ ?_ | refine bB _ ?_ ?_) <;> intro h1
 ·have hs:=eG Inode.cnt a i (by omega)
  have hs':=b5 Inode.cnt a (i+1)
  have hn:a[i].cnt=1+1+1+a[i].data.length+fB Ent.cnt a[i].ents+fB Attr.cnt a[i].attrs:=rfl
  have hz:=(aN h1)
  refine Nz1 ?_
  have hz:=(aN h1)
  refine Kz1 (ab1 a[i].data (c+1+1+1) (by omega) (by omega)) ?_
  have hz:=(aN h1)
  refine Kz1 (aeE a[i].ents (c+1+1+1+(a[i].data.length:Nat)) (by omega) (by omega)) ?_
  have hz:=(aN h1)
  refine Kz1 (ab2 a[i].attrs (c+1+1+1+(a[i].data.length:Nat)+(fB Ent.cnt a[i].ents:Nat)) (by omega) (by omega)) ?_
  rw [qB _ _ _ _ _ _ (by omega) _ (by subst hc; rfl)]
  exact ⟨(i+1,c+1+1+1+(a[i].data.length:Nat)+(fB Ent.cnt a[i].ents:Nat)+(fB Attr.cnt a[i].attrs:Nat)),rfl,⟨by simp only; omega,by simp only; omega⟩,by simp only; omega⟩
 ·obtain rfl:i=a.length:=by omega
  rw [List.take_length] at hc
  simp +decide (maxSteps:=9^9) (disch:=omega) only[↓SB0,SX,seval,hQ,hQ1,qA,hc,fB]
theorem mU (a:Tab) (k:Int) (h0:0≤k) (hl:k+(a.cntT:Nat)<2^40):aT Tryz.prog 54 [a.o,.int .i64 k] (.int .i64 (k+(a.cntT:Nat))) [(a.markT k).o,.undef]:=by
 simp only [Tab.cntT] at hl
 refine U abs [(116,[.l,.b],[])] 23 [true,false] fun w hP hQ=>?_
 unfold rA
 refine N ?_
 refine K (z7 a.inodes (k) (by omega) (by omega)) ?_
 exact ⟨by simp only [Tab.cntT,Int.natCast_add,Int.add_assoc],rfl⟩
end
section
open Go.Proofs
open Nat (reduceEqDiff reduceAdd reduceMul reduceSub)
open Int (reduceNeg reduceToNat reducePow)
theorem uL (a:List Ent) (k:Int) (h0:0≤k) (hl:k+(fB Ent.cnt a:Nat)<2^40):aT Tryz.prog 170 [.ext 2 ((dH Ent.marked Ent.cnt a k).map Ent.row),.int .i64 k] (.int .i64 (k+(fB Ent.cnt a:Nat))) [.undef,.undef]:=by
 simp only [fB] at hl
 have hlen:=nK Ent.cnt Ent.cnt1 a
 refine U zF [] 51 [] fun w hP hQ=>?_
 unfold oT
 refine N ?_
 refine d6 (fun s:Nat × Int=>[(1,.int .i64 s.2),(5,.int .i64 s.1)]) (fun s=>s.1≤a.length∧s.2=k+((a.take s.1).map Ent.cnt).sum) (fun s=>a.length-s.1) ((0,k)) hP hQ (by simp +decide (maxSteps:=9^9) (disch:=omega) only[↓SB0,SX,seval,hQ]) (by simp) ?_
 rintro ⟨i,c⟩ ⟨hi,hc⟩ w1 hP1 hQ1
 refine N1 ?_
 simp only at hi hc
 (first | with_reducible refine bA _ ?_ ?_ | refine bB _ ?_ ?_) <;> intro h1
 ·have hs:=eG Ent.cnt a i (by omega)
  have hs':=b5 Ent.cnt a (i+1)
  have hn:a[i].cnt=1+1:=rfl
  simp +decide (maxSteps:=9^9) (disch:=omega) only[↓SB0,SX,seval,hQ,hQ1,aN h1,← hc,Ent.marked]
  (first|refine cI hP1 (c8 (c) (by omega) (by omega)) rfl rfl ?_|refine cH hP1 (c8 (c) (by omega) (by omega)) rfl rfl ?_)
  simp +decide (maxSteps:=9^9) (disch:=omega) only[↓SB0,SX,seval,hQ,hQ1,aN h1,← hc,Ent.marked]
  exact ⟨(i+1,c+1+1),rfl,⟨by simp only; omega,by simp only; omega⟩,by simp only; omega⟩
 ·obtain rfl:i=a.length:=by omega
  rw [List.take_length] at hc
  simp +decide (maxSteps:=9^9) (disch:=omega) only[↓SB0,SX,seval,hQ,hQ1,hc,fB]
theorem sB (a:List Attr) (k:Int) (h0:0≤k) (hl:k+(fB Attr.cnt a:Nat)<2^40):aT Tryz.prog 171 [.ext 2 ((dH Attr.marked Attr.cnt a k).map Attr.row),.int .i64 k] (.int .i64 (k+(fB Attr.cnt a:Nat))) [.undef,.undef]:=by
 simp only [fB] at hl
 have hlen:=nK Attr.cnt Attr.cnt1 a
 refine U wJ [] 51 [] fun w hP hQ=>?_
 unfold mF
 refine N ?_
 refine d6 (fun s:Nat × Int=>[(1,.int .i64 s.2),(5,.int .i64 s.1)]) (fun s=>s.1≤a.length∧s.2=k+((a.take s.1).map Attr.cnt).sum) (fun s=>a.length-s.1) ((0,k)) hP hQ (by simp +decide (maxSteps:=9^9) (disch:=omega) only[↓SB0,SX,seval,hQ]) (by simp) ?_
 rintro ⟨i,c⟩ ⟨hi,hc⟩ w1 hP1 hQ1
 refine N1 ?_
 simp only at hi hc
 (first | with_reducible refine bA _ ?_ ?_ | refine bB _ ?_ ?_) <;> intro h1
 ·have hs:=eG Attr.cnt a i (by omega)
  have hs':=b5 Attr.cnt a (i+1)
  have hn:a[i].cnt=1+1:=rfl
  simp +decide (maxSteps:=9^9) (disch:=omega) only[↓SB0,SX,seval,hQ,hQ1,aN h1,← hc,Attr.marked]
  (first|refine cI hP1 (c8 (c) (by omega) (by omega)) rfl rfl ?_|refine cH hP1 (c8 (c) (by omega) (by omega)) rfl rfl ?_)
  simp +decide (maxSteps:=9^9) (disch:=omega) only[↓SB0,SX,seval,hQ,hQ1,aN h1,← hc,Attr.marked]
  (first|refine cI hP1 (c8 (c+1) (by omega) (by omega)) rfl rfl ?_|refine cH hP1 (c8 (c+1) (by omega) (by omega)) rfl rfl ?_)
  simp +decide (maxSteps:=9^9) (disch:=omega) only[↓SB0,SX,seval,hQ,hQ1,aN h1,← hc,Attr.marked]
  exact ⟨(i+1,c+1+1),rfl,⟨by simp only; omega,by simp only; omega⟩,by simp only; omega⟩
 ·obtain rfl:i=a.length:=by omega
  rw [List.take_length] at hc
  simp +decide (maxSteps:=9^9) (disch:=omega) only[↓SB0,SX,seval,hQ,hQ1,hc,fB]
theorem z8 (a:List Inode) (k:Int) (h0:0≤k) (hl:k+(fB Inode.cnt a:Nat)<2^40):aT Tryz.prog 117 [.ext 6 ((dH Inode.marked Inode.cnt a k).map Inode.row),.int .i64 k] (.int .i64 (k+(fB Inode.cnt a:Nat))) [.undef,.undef]:=by
 simp only [fB] at hl
 have hlen:=nK Inode.cnt Inode.cnt1 a
 refine U sY [] 51 [] fun w hP hQ=>?_
 unfold lD
 refine N ?_
 refine d6 (fun s:Nat × Int=>[(1,.int .i64 s.2),(5,.int .i64 s.1)]) (fun s=>s.1≤a.length∧s.2=k+((a.take s.1).map Inode.cnt).sum) (fun s=>a.length-s.1) ((0,k)) hP hQ (by simp +decide (maxSteps:=9^9) (disch:=omega) only[↓SB0,SX,seval,hQ]) (by simp) ?_
 rintro ⟨i,c⟩ ⟨hi,hc⟩ w1 hP1 hQ1
 refine N1 ?_
 simp only at hi hc
 (first | with_reducible refine bA _ ?_ ?_ | refine bB _ ?_ ?_) <;> intro h1
 ·have hs:=eG Inode.cnt a i (by omega)
  have hs':=b5 Inode.cnt a (i+1)
  have hn:a[i].cnt=1+1+1+a[i].data.length+fB Ent.cnt a[i].ents+fB Attr.cnt a[i].attrs:=rfl
  simp +decide (maxSteps:=9^9) (disch:=omega) only[↓SB0,SX,seval,hQ,hQ1,aN h1,← hc,Inode.marked]
  (first|refine cI hP1 (sA a[i].data (c+1+1+1) (by omega) (by omega)) rfl rfl ?_|refine cH hP1 (sA a[i].data (c+1+1+1) (by omega) (by omega)) rfl rfl ?_)
  simp +decide (maxSteps:=9^9) (disch:=omega) only[↓SB0,SX,seval,hQ,hQ1,aN h1,← hc,Inode.marked]
  (first | with_reducible refine bA _ ?_ ?_ | refine bB _ ?_ ?_) <;> intro g
  ·exfalso; omega
  simp +decide (maxSteps:=9^9) (disch:=omega) only[↓SB0,SX,seval,hQ,hQ1,aN h1,← hc,Inode.marked]
  (first|refine cI hP1 (uL a[i].ents (c+1+1+1+(a[i].data.length:Nat)) (by omega) (by omega)) rfl rfl ?_|refine cH hP1 (uL a[i].ents (c+1+1+1+(a[i].data.length:Nat)) (by omega) (by omega)) rfl rfl ?_)
  simp +decide (maxSteps:=9^9) (disch:=omega) only[↓SB0,SX,seval,hQ,hQ1,aN h1,← hc,Inode.marked]
  (first | with_reducible refine bA _ ?_ ?_ | refine bB _ ?_ ?_) <;> intro g
  ·exfalso; omega
  simp +decide (maxSteps:=9^9) (disch:=omega) only[↓SB0,SX,seval,hQ,hQ1,aN h1,← hc,Inode.marked]
  (first|refine cI hP1 (sB a[i].attrs (c+1+1+1+(a[i].data.length:Nat)+(fB Ent.cnt a[i].ents:Nat)) (by omega) (by omega)) rfl rfl ?_|refine cH hP1 (sB a[i].attrs (c+1+1+1+(a[i].data.length:Nat)+(fB Ent.cnt a[i].ents:Nat)) (by omega) (by omega)) rfl rfl ?_)
  simp +decide (maxSteps:=9^9) (disch:=omega) only[↓SB0,SX,seval,hQ,hQ1,aN h1,← hc,Inode.marked]
  (first | with_reducible refine bA _ ?_ ?_ | refine bB _ ?_ ?_) <;> intro g
  ·exfalso; omega
  simp +decide (maxSteps:=9^9) (disch:=omega) only[↓SB0,SX,seval,hQ,hQ1,aN h1,← hc,Inode.marked]
  exact ⟨(i+1,c+1+1+1+(a[i].data.length:Nat)+(fB Ent.cnt a[i].ents:Nat)+(fB Attr.cnt a[i].attrs:Nat)),rfl,⟨by simp only; omega,by simp only; omega⟩,by simp only; omega⟩
 ·obtain rfl:i=a.length:=by omega
  rw [List.take_length] at hc
  simp +decide (maxSteps:=9^9) (disch:=omega) only[↓SB0,SX,seval,hQ,hQ1,hc,fB]
theorem mV (a:Tab) (k:Int) (h0:0≤k) (hl:k+(a.cntT:Nat)<2^40):aT Tryz.prog 55 [(a.markT k).x,.int .i64 k] (.int .i64 (k+(a.cntT:Nat))) [.undef,.undef]:=by
 simp only [Tab.cntT] at hl
 refine U abt [] 23 [] fun w hP hQ=>?_
 unfold rB
 refine N ?_
 refine K (z8 a.inodes (k) (by omega) (by omega)) ?_
 (first | with_reducible refine bA _ ?_ ?_ | refine bB _ ?_ ?_) <;> intro g
 ·exfalso; omega
 refine N ?_
 simp only [Tab.cntT,Int.natCast_add,Int.add_assoc]
end
section
open Go.Proofs
open Nat (reduceEqDiff reduceAdd reduceMul reduceSub)
open Int (reduceNeg reduceToNat reducePow)
theorem cX (x a b:Int):aT Tryz.prog 158 [.int .i64 x,.int .i64 a,.int .i64 b] (.bool (inR x a b)) [.undef,.undef,.undef]:=by
 refine U aiO [] 71 [] fun w hP hQ=>?_
 unfold acS
 refine N ?_
 (first | with_reducible refine vX _ ?_ ?_ | refine vY _ ?_ ?_) <;> intro h1
 ·have hz:=h1
  refine Nz ?_
  simp [inR,h1]
 ·have hz:=h1
  refine Nz ?_
  simp [inR,h1]
theorem gK (x a b:Int):aT Tryz.prog 94 [.int .i64 x,.int .i64 a,.int .i64 b] (.bool (inR x a b)) [.undef,.undef,.undef]:=by
 refine U aiM [] 71 [] fun w hP hQ=>?_
 unfold acQ
 refine N ?_
 (first | with_reducible refine vX _ ?_ ?_ | refine vY _ ?_ ?_) <;> intro h1
 ·have hz:=h1
  refine Nz ?_
  simp [inR,h1]
 ·have hz:=h1
  refine Nz ?_
  simp [inR,h1]
theorem kS {α:Type} {l:List α} {p:α→Bool} {i:Nat} (hk:∀ k,k<i→(h:k<l.length)→p l[k]=false) (h:i<l.length) (hi:p l[i]=true):l.findIdx? p=some i:=by
 rw [List.findIdx?_eq_some_iff_getElem]
 exact ⟨h,hi,fun j hj=>by simp [hk j hj (by omega)]⟩
theorem kT {α:Type} {l:List α} {p:α→Bool} (hk:∀ k,(h:k<l.length)→p l[k]=false):l.findIdx? p=none:=by
 rw [List.findIdx?_eq_none_iff]
 intro x hx
 obtain ⟨k,h,rfl⟩:=List.getElem_of_mem hx
 exact hk k h
theorem j4 {α:Type} {l:List α} {p:α→Bool} {i:Nat} (hk:∀ k,k<i→(h:k<l.length)→p l[k]=false) (h:i<l.length) (hi:p l[i]=false):∀ k,k<i+1→(h:k<l.length)→p l[k]=false:=by
 intro k hlt hl
 by_cases e:k=i
 ·subst e; exact hi
 ·exact hk k (by omega) hl
end
section
open Go.Proofs
open Nat (reduceEqDiff reduceAdd reduceMul reduceSub)
open Int (reduceNeg reduceToNat reducePow)
theorem ade {x a b:Int} (h:inR x a b=false):¬ (a≤x∧x≤b):=fun h'=>by rw [(iQ x a b).2 h'] at h; cases h
theorem ag3 (c:UInt8):okc c=true↔(97≤c.toNat∧c.toNat≤122)∨(48≤c.toNat∧c.toNat≤57)∨c.toNat=95∨c.toNat=45∨c.toNat=46:=by
 unfold okc
 simp only [Bool.or_eq_true,Bool.and_eq_true,decide_eq_true_eq,UInt8.le_iff_toNat_le,← UInt8.toNat_inj]
 simp
 omega
theorem wV {c:UInt8} (h:(97≤c.toNat∧c.toNat≤122)∨(48≤c.toNat∧c.toNat≤57)∨c.toNat=95∨c.toNat=45∨c.toNat=46):okc c=true:=(ag3 c).2 h
theorem ajM {c:UInt8} (h:¬ ((97≤c.toNat∧c.toNat≤122)∨(48≤c.toNat∧c.toNat≤57)∨c.toNat=95∨c.toNat=45∨c.toNat=46)):okc c=false:=by
 cases e:okc c with
 | false=>rfl
 | true=>exact absurd ((ag3 c).1 e) h
theorem adf {s:aB} {i:Nat} (h:i<s.length) (hc:okc s[i]=false):aY s=false:=by
 unfold aY
 have:s.all okc=false:=by
  rw [List.all_eq_false]
  exact ⟨s[i],List.getElem_mem h,by simp [hc]⟩
 simp [this]
theorem alW (n:Nat):n<45∨n=45∨n=46∨n=47∨(48≤n∧n≤57)∨(58≤n∧n≤94)∨n=95∨n=96∨(97≤n∧n≤122)∨122<n:=by omega
theorem adg {s:aB} {i:Nat} (hk:∀ k,k<i→(h:k<s.length)→okc s[k]=true) (h:i<s.length) (hi:okc s[i]=true):∀ k,k<i+1→(h:k<s.length)→okc s[k]=true:=by
 intro k hlt hl
 by_cases e:k=i
 ·subst e; exact hi
 ·exact hk k (by omega) hl
theorem ajN {s:aB} (hk:∀ k,(h:k<s.length)→okc s[k]=true):s.all okc=true:=by
 rw [List.all_eq_true]
 intro x hx
 obtain ⟨k,h,rfl⟩:=List.getElem_of_mem hx
 exact hk k h
theorem cY (s:aB) (hl:s.length<2^48):aT Tryz.prog 102 [.str s] (.bool (aY s)) [.undef]:=by
 refine U aef [] 221 [] fun w hP hQ=>?_
 unfold tS
 refine N ?_
 refine f6 [2,3,4] ?_
 refine N ?_
 refine aU [2,3,4] (fun i:Nat=>[(7,.int .i64 i)]) (fun i=>i≤s.length∧∀ k,k<i→(h:k<s.length)→okc s[k]=true) (fun i=>s.length-i) (0) hP hQ (rfl) (by simp) ?_
 rintro i ⟨hi,hk⟩ w1 hP1 hQ1
 refine N1 ?_
 (first | with_reducible refine bA _ ?_ ?_ | refine bB _ ?_ ?_) <;> intro h1
 ·have hlt:i<s.length:=by omega
  have hbad:okc s[i]=false→aY s=false:=fun h=>adf hlt h
  have hnext:okc s[i]=true→_:=fun h=>adg hk hlt h
  have hz:=(aN h1)
  refine Nz1 ?_
  generalize s[i]=c at *
  rcases alW c.toNat with h | h | h | h | h | h | h | h | h | h
  all_goals (simp +decide (maxSteps:=9^9) (disch:=omega) only[↓SB0,SX,seval,hQ,hQ1,alR,alS])
  all_goals first
   | (rw [hbad (ajM (by omega))]; done)
   | exact ⟨i+1,rfl,⟨by omega,hnext (wV (by omega))⟩,by omega⟩
 ·obtain rfl:i=s.length:=by omega
  have hall:s.all okc=true:=ajN fun k h=>hk k h h
  refine N1 ?_
  (first | with_reducible refine vX _ ?_ ?_ | refine vY _ ?_ ?_) <;> intro g1
  rotate_left
  ·have hz:=g1
   refine Nz ?_
   simp [aY,hall]; omega
  have hz:=g1
  refine Nz ?_
  (first | with_reducible refine vX _ ?_ ?_ | refine vY _ ?_ ?_) <;> intro g2
  rotate_left
  ·have hz:=g2
   refine Nz ?_
   simp [aY,hall]; omega
  have hz:=g2
  refine Nz ?_
  (first | with_reducible refine vX _ ?_ ?_ | refine vY _ ?_ ?_) <;> intro g3
  ·have hz:=g3
   refine Nz ?_
   simp [aY,g3]
  have hz:=g3
  refine Nz ?_
  simp [aY,hall,g3]
  try omega
theorem cN (s:aB) (hl:s.length<2^48):aT Tryz.prog 150 [.str s] (.bool (aY s)) [.undef]:=by
 refine U aei [] 29 [] fun w hP hQ=>?_
 unfold tV
 refine N ?_
 refine f6 [2,4] ?_
 refine N ?_
 refine aU [2,4] (fun i:Nat=>[(3,.int .i64 i)]) (fun i=>i≤s.length∧∀ k,k<i→(h:k<s.length)→okc s[k]=true) (fun i=>s.length-i) (0) hP hQ (rfl) (by simp) ?_
 rintro i ⟨hi,hk⟩ w1 hP1 hQ1
 refine N1 ?_
 (first | with_reducible refine bA _ ?_ ?_ | refine bB _ ?_ ?_) <;> intro h1
 ·have hlt:i<s.length:=by omega
  have hbad:okc s[i]=false→aY s=false:=fun h=>adf hlt h
  have hnext:okc s[i]=true→_:=fun h=>adg hk hlt h
  have hz:=(aN h1)
  refine Nz1 ?_
  generalize s[i]=c at *
  have hc:c.toNat<256:=c.toNat_lt
  cases hA:inR (c.toNat) 97 122 with
  | true=>
   have hA':=(iQ _ _ _).1 hA
   refine N1 ?_
   have hz:=hA
   refine Kz1 (cX (c.toNat) 97 122) ?_
   exact ⟨i+1,rfl,⟨by omega,hnext (wV (by omega))⟩,by omega⟩
  | false=>
   have hA':=ade hA
   cases hB:inR (c.toNat) 48 57 with
   | true=>
    have hB':=(iQ _ _ _).1 hB
    refine N1 ?_
    have hz:=hA
    refine Kz1 (cX (c.toNat) 97 122) ?_
    have hz:=hB
    refine Kz1 (cX (c.toNat) 48 57) ?_
    exact ⟨i+1,rfl,⟨by omega,hnext (wV (by omega))⟩,by omega⟩
   | false=>
    have hB':=ade hB
    have hr:c.toNat=95∨c.toNat=45∨c.toNat=46∨(c.toNat≠95∧c.toNat≠45∧c.toNat≠46):=by omega
    rcases hr with h | h | h | h
    all_goals (simp +decide (maxSteps:=9^9) (disch:=omega) only[↓SB0,SX,seval,hQ,hQ1])
    all_goals (first | refine qY hP1 (cX (c.toNat) 97 122) (.inl ⟨rfl,fun _ hx=>nomatch hx⟩) ?_ | skip)
    all_goals (simp +decide (maxSteps:=9^9) (disch:=omega) only[↓SB0,SX,seval,hQ,hQ1,hA])
    all_goals (first | refine qY hP1 (cX (c.toNat) 48 57) (.inl ⟨rfl,fun _ hx=>nomatch hx⟩) ?_ | skip)
    all_goals (simp +decide (maxSteps:=9^9) (disch:=omega) only[↓SB0,SX,seval,hQ,hQ1,hB,alR,alS])
    all_goals first
     | (rw [hbad (ajM (by omega))]; done)
     | exact ⟨i+1,rfl,⟨by omega,hnext (wV (by omega))⟩,by omega⟩
 ·obtain rfl:i=s.length:=by omega
  have hall:s.all okc=true:=ajN fun k h=>hk k h h
  refine N1 ?_
  cases g1:inR (s.length:Nat) 1 14 with
  | false=>
   have g1':=ade g1
   have hz:=g1
   refine Kz (cX (s.length:Nat) 1 14) ?_
   simp [aY,hall]; omega
  | true=>
   have g1':=(iQ _ _ _).1 g1
   have hz:=g1
   refine Kz (cX (s.length:Nat) 1 14) ?_
   (first | with_reducible refine vX _ ?_ ?_ | refine vY _ ?_ ?_) <;> intro g3
   ·have hz:=g3
    refine Nz ?_
    simp [aY,g3]
   have hz:=g3
   refine Nz ?_
   simp [aY,hall,g3]
   try omega
end
section
open Go.Proofs
open Nat (reduceEqDiff reduceAdd reduceMul reduceSub)
open Int (reduceNeg reduceToNat reducePow)
theorem a8 (m:Nat):((m+1:Nat):Int)-1=(m:Int):=by omega
theorem fI {α:Type} {p:Nat→α→Bool} {lt:α→α→Bool} {l:List α} {i:Nat} (hk:∀ k,k<i→cD p lt l k=true) (hi:cD p lt l i=true):∀ k,k<i+1→cD p lt l k=true:=by
 intro k hlt
 by_cases e:k=i
 ·subst e; exact hi
 ·exact hk k (by omega)
theorem dK {α:Type} {p:Nat→α→Bool} {lt:α→α→Bool} {l:List α} {i:Nat} (h:i<l.length) (hp:p i l[i]=false):cD p lt l i=false:=by
 rw [cD,List.getElem?_eq_getElem h]; simp [hp]
theorem ag4 {l:List Attr} {n:Nat} (h:szM Attr.sz l<n):l.length<n∧∀ x ∈ l,x.name.length<n∧x.val.length<n:=by
 refine ⟨by simp only [szM] at h; omega,fun x hx=>?_⟩
 have:=wM (f:=Attr.sz) hx
 simp only [szM] at h
 simp only [Attr.sz] at this
 omega
theorem ajO {l:List Ent} {n:Nat} (h:szM Ent.sz l<n):l.length<n∧∀ x ∈ l,x.name.length<n:=by
 refine ⟨by simp only [szM] at h; omega,fun x hx=>?_⟩
 have:=wM (f:=Ent.sz) hx
 simp only [szM] at h
 simp only [Ent.sz] at this
 omega
theorem ag5 {p q:Prop} [Decidable p] [Decidable q] (h:p↔q):decide p=decide q:=by simp [h]
theorem uM (l:List Attr) (hs:szM Attr.sz l<2^48):aT Tryz.prog 202 [.ext 2 (l.map Attr.row)] (.bool (iA l)) [.undef]:=by
 obtain ⟨hl,hls⟩:=ag4 hs
 refine U abF [] 13 [] fun w hP hQ=>?_
 unfold rO
 refine N ?_
 refine f6 [2] ?_
 refine N ?_
 refine aU [2] (fun i:Nat=>[(3,.int .i64 i)]) (fun i=>i≤l.length∧∀ k,k<i→cD (fun _=>mS) jX l k=true) (fun i=>l.length-i) (0) hP hQ (rfl) (by simp) ?_
 rintro i ⟨hi,hk⟩ w1 hP1 hQ1
 refine N1 ?_
 (first | with_reducible refine bA _ ?_ ?_ | refine bB _ ?_ ?_) <;> intro h1
 ·have hlt:i<l.length:=by omega
  have hno:cD (fun _=>mS) jX l i=false→iA l=false:=fun e=>(fun e=>by rw [iA,nN,e]; rfl) (kR hlt e)
  obtain hla:=hls _ (List.getElem_mem hlt)
  cases hN:aY (l[i]'hlt).name with
  | false=>
   have hz:=(aN h1)
   refine Nz1 ?_
   have hz:=hN
   refine Kz1 (cN (l[i]'hlt).name (by omega)) ?_
   rw [hno (dK hlt (by simp [mS,hN]))]
  | true=>
   cases hV:inR (((l[i]'hlt).val.length:Nat)) 1 16 with
   | false=>
    have hz:=(aN h1)
    refine Nz1 ?_
    have hz:=And.intro hN (aN h1)
    refine Kz1 (cN (l[i]'hlt).name (by omega)) ?_
    have hz:=hV
    refine Kz1 (cX (((l[i]'hlt).val.length:Nat)) 1 16) ?_
    rw [hno (dK hlt (by simp [mS,hV]))]
   | true=>
    cases i with
    | zero=>
     have hz:=(aN h1)
     refine Nz1 ?_
     have hz:=And.intro hN (aN h1)
     refine Kz1 (cN (l[0]'hlt).name (by omega)) ?_
     have hz:=And.intro hV (aN h1)
     refine Kz1 (cX (((l[0]'hlt).val.length:Nat)) 1 16) ?_
     exact ⟨1,rfl,⟨by omega,fI hk (by rw [dO hlt]; simp [mS,hN,hV])⟩,by omega⟩
    | succ m=>
     have w4:decide ((0:Int)<((m+1:Nat):Int))=true:=decide_eq_true (by omega)
     have hm:=aN (show ((m:Nat):Int)<(l.length:Nat) by omega)
     cases hD:strLt (l[m]'(by omega)).name (l[m+1]'hlt).name with
     | false=>
      have hz:=(aN h1)
      refine Nz1 ?_
      have hz:=And.intro hN (aN h1)
      refine Kz1 (cN (l[m+1]'hlt).name (by omega)) ?_
      have hz:=And.intro hV (And.intro w4 (And.intro a8 (And.intro hm (And.intro (aN h1) hD))))
      refine Kz1 (cX (((l[m+1]'hlt).val.length:Nat)) 1 16) ?_
      rw [hno (by rw [bF hlt,jX,← fR,hD]; simp)]
     | true=>
      have hz:=(aN h1)
      refine Nz1 ?_
      have hz:=And.intro hN (aN h1)
      refine Kz1 (cN (l[m+1]'hlt).name (by omega)) ?_
      have hz:=And.intro hV (And.intro w4 (And.intro a8 (And.intro hm (And.intro (aN h1) hD))))
      refine Kz1 (cX (((l[m+1]'hlt).val.length:Nat)) 1 16) ?_
      exact ⟨m+1+1,rfl,⟨by omega,fI hk (by rw [bF hlt,jX,← fR,hD]; simp [mS,hN,hV])⟩,by omega⟩
 ·obtain rfl:i=l.length:=by omega
  have e:nN l=true:=f8 fun k h=>hk k h
  refine N1 ?_
  rw [iA,e,Bool.true_and]
  rw [ag5 (p:=(l.length:Int)≤4) (q:=l.length≤4) (by omega)]
theorem aaa (l:List Ent) (hs:szM Ent.sz l<2^48):aT Tryz.prog 201 [.ext 2 (l.map Ent.row)] (.bool (r9 l)) [.undef]:=by
 obtain ⟨hl,hls⟩:=ajO hs
 refine U aek [] 13 [] fun w hP hQ=>?_
 unfold tX
 refine N ?_
 refine f6 [2] ?_
 refine N ?_
 refine aU [2] (fun i:Nat=>[(3,.int .i64 i)]) (fun i=>i≤l.length∧∀ k,k<i→cD (fun _=>ac9) r8 l k=true) (fun i=>l.length-i) (0) hP hQ (rfl) (by simp) ?_
 rintro i ⟨hi,hk⟩ w1 hP1 hQ1
 refine N1 ?_
 (first | with_reducible refine bA _ ?_ ?_ | refine bB _ ?_ ?_) <;> intro h1
 ·have hlt:i<l.length:=by omega
  have hno:cD (fun _=>ac9) r8 l i=false→r9 l=false:=fun e=>(fun e=>by rw [r9,uF,e]; rfl) (kR hlt e)
  obtain hla:=hls _ (List.getElem_mem hlt)
  cases hN:aY (l[i]'hlt).name with
  | false=>
   have hz:=(aN h1)
   refine Nz1 ?_
   have hz:=hN
   refine Kz1 (cN (l[i]'hlt).name (by omega)) ?_
   rw [hno (dK hlt (by simp [ac9,hN]))]
  | true=>
   cases hV:inR ((l[i]'hlt).ino) 2 1000 with
   | false=>
    have hz:=(aN h1)
    refine Nz1 ?_
    have hz:=And.intro hN (aN h1)
    refine Kz1 (cN (l[i]'hlt).name (by omega)) ?_
    have hz:=hV
    refine Kz1 (cX ((l[i]'hlt).ino) 2 1000) ?_
    rw [hno (dK hlt (by simp [ac9,hV]))]
   | true=>
    cases i with
    | zero=>
     have hz:=(aN h1)
     refine Nz1 ?_
     have hz:=And.intro hN (aN h1)
     refine Kz1 (cN (l[0]'hlt).name (by omega)) ?_
     have hz:=And.intro hV (aN h1)
     refine Kz1 (cX ((l[0]'hlt).ino) 2 1000) ?_
     exact ⟨1,rfl,⟨by omega,fI hk (by rw [dO hlt]; simp [ac9,hN,hV])⟩,by omega⟩
    | succ m=>
     have w4:decide ((0:Int)<((m+1:Nat):Int))=true:=decide_eq_true (by omega)
     have hm:=aN (show ((m:Nat):Int)<(l.length:Nat) by omega)
     cases hD:strLt (l[m]'(by omega)).name (l[m+1]'hlt).name with
     | false=>
      have hz:=(aN h1)
      refine Nz1 ?_
      have hz:=And.intro hN (aN h1)
      refine Kz1 (cN (l[m+1]'hlt).name (by omega)) ?_
      have hz:=And.intro hV (And.intro w4 (And.intro a8 (And.intro hm (And.intro (aN h1) hD))))
      refine Kz1 (cX ((l[m+1]'hlt).ino) 2 1000) ?_
      rw [hno (by rw [bF hlt,r8,← fR,hD]; simp)]
     | true=>
      have hz:=(aN h1)
      refine Nz1 ?_
      have hz:=And.intro hN (aN h1)
      refine Kz1 (cN (l[m+1]'hlt).name (by omega)) ?_
      have hz:=And.intro hV (And.intro w4 (And.intro a8 (And.intro hm (And.intro (aN h1) hD))))
      refine Kz1 (cX ((l[m+1]'hlt).ino) 2 1000) ?_
      exact ⟨m+1+1,rfl,⟨by omega,fI hk (by rw [bF hlt,r8,← fR,hD]; simp [ac9,hN,hV])⟩,by omega⟩
 ·obtain rfl:i=l.length:=by omega
  have e:uF l=true:=f8 fun k h=>hk k h
  refine N1 ?_
  rw [r9,e,Bool.true_and]
  rw [ag5 (p:=(l.length:Int)≤10) (q:=l.length≤10) (by omega)]
theorem uN (l:List Attr) (hs:szM Attr.sz l<2^48):aT Tryz.prog 198 [.ext 2 (l.map Attr.row)] (.bool (iA l)) [.undef]:=by
 obtain ⟨hl,hls⟩:=ag4 hs
 refine U abE [] 253 [] fun w hP hQ=>?_
 unfold rN
 refine N ?_
 refine f6 [2,3,4,5004] ?_
 refine N ?_
 refine aU [2,3,4,5004] (fun i:Nat=>[(7,.int .i64 i)]) (fun i=>i≤l.length∧∀ k,k<i→cD (fun _=>mS) jX l k=true) (fun i=>l.length-i) (0) hP hQ (rfl) (by simp) ?_
 rintro i ⟨hi,hk⟩ w1 hP1 hQ1
 refine N1 ?_
 (first | with_reducible refine bA _ ?_ ?_ | refine bB _ ?_ ?_) <;> intro h1
 ·have hlt:i<l.length:=by omega
  have hno:cD (fun _=>mS) jX l i=false→iA l=false:=fun e=>(fun e=>by rw [iA,nN,e]; rfl) (kR hlt e)
  obtain hla:=hls _ (List.getElem_mem hlt)
  cases hN:aY (l[i]'hlt).name with
  | false=>
   have hz:=(aN h1)
   refine Nz1 ?_
   have hz:=hN
   refine Kz1 (cY (l[i]'hlt).name (by omega)) ?_
   rw [hno (dK hlt (by simp [mS,hN]))]
  | true=>
   cases hV:inR (((l[i]'hlt).val.length:Nat)) 1 16 with
   | false=>
    have hz:=(aN h1)
    refine Nz1 ?_
    have hz:=And.intro hN (aN h1)
    refine Kz1 (cY (l[i]'hlt).name (by omega)) ?_
    have hz:=hV
    refine Kz1 (gK (((l[i]'hlt).val.length:Nat)) 1 16) ?_
    rw [hno (dK hlt (by simp [mS,hV]))]
   | true=>
    cases i with
    | zero=>
     have hz:=(aN h1)
     refine Nz1 ?_
     have hz:=And.intro hN (aN h1)
     refine Kz1 (cY (l[0]'hlt).name (by omega)) ?_
     have hz:=And.intro hV (aN h1)
     refine Kz1 (gK (((l[0]'hlt).val.length:Nat)) 1 16) ?_
     exact ⟨1,rfl,⟨by omega,fI hk (by rw [dO hlt]; simp [mS,hN,hV])⟩,by omega⟩
    | succ m=>
     have w4:decide ((0:Int)<((m+1:Nat):Int))=true:=decide_eq_true (by omega)
     have hm:=aN (show ((m:Nat):Int)<(l.length:Nat) by omega)
     cases hD:strLt (l[m]'(by omega)).name (l[m+1]'hlt).name with
     | false=>
      have hz:=(aN h1)
      refine Nz1 ?_
      have hz:=And.intro hN (aN h1)
      refine Kz1 (cY (l[m+1]'hlt).name (by omega)) ?_
      have hz:=And.intro hV (And.intro w4 (And.intro a8 (And.intro hm (And.intro (aN h1) hD))))
      refine Kz1 (gK (((l[m+1]'hlt).val.length:Nat)) 1 16) ?_
      rw [hno (by rw [bF hlt,jX,← fR,hD]; simp)]
     | true=>
      have hz:=(aN h1)
      refine Nz1 ?_
      have hz:=And.intro hN (aN h1)
      refine Kz1 (cY (l[m+1]'hlt).name (by omega)) ?_
      have hz:=And.intro hV (And.intro w4 (And.intro a8 (And.intro hm (And.intro (aN h1) hD))))
      refine Kz1 (gK (((l[m+1]'hlt).val.length:Nat)) 1 16) ?_
      exact ⟨m+1+1,rfl,⟨by omega,fI hk (by rw [bF hlt,jX,← fR,hD]; simp [mS,hN,hV])⟩,by omega⟩
 ·obtain rfl:i=l.length:=by omega
  have e:nN l=true:=f8 fun k h=>hk k h
  refine N1 ?_
  rw [iA,e,Bool.true_and]
  rw [ag5 (p:=(l.length:Int)≤4) (q:=l.length≤4) (by omega)]
end
section
open Go.Proofs
open Nat (reduceEqDiff reduceAdd reduceMul reduceSub)
open Int (reduceNeg reduceToNat reducePow)
end
section
open Go.Proofs
open Nat (reduceEqDiff reduceAdd reduceMul reduceSub)
open Int (reduceNeg reduceToNat reducePow)
theorem c9 {x:Inode} {n:Nat} (h:x.sz<n):x.data.length<n∧x.ents.length<n∧x.attrs.length<n:=by
 simp only [Inode.sz,szM] at h; omega
end
section
open Go.Proofs
open Nat (reduceEqDiff reduceAdd reduceMul reduceSub)
open Int (reduceNeg reduceToNat reducePow)
theorem pC (b:Bool):b=false∨b=true:=by cases b <;> simp
theorem aab {x:Inode} (h:x.sz<2^48):x.data.length<2^48∧szM Ent.sz x.ents<2^48∧szM Attr.sz x.attrs<2^48∧x.ents.length<2^48∧x.attrs.length<2^48:=by
 simp only [Inode.sz] at h
 refine ⟨by omega,by omega,by omega,?_,?_⟩
 ·have:szM Ent.sz x.ents=x.ents.length+(x.ents.map Ent.sz).sum:=rfl
  omega
 ·have:szM Attr.sz x.attrs=x.attrs.length+(x.attrs.map Attr.sz).sum:=rfl
  omega
theorem iC (x:Inode) (h:x.sz<2^48):aT Tryz.prog 159 [x.x] (.bool (cE x)) [.undef]:=by
 obtain ⟨h1,h2,h3,h4,h5⟩:=aab h
 refine U abA [] 2199023255559 [] fun w hP hQ=>?_
 unfold rI
 refine N ?_
 rcases pC (inR x.ino 1 1000) with hA | hA
 ·have hz:=hA
  refine Kz (cX x.ino 1 1000) ?_
  simp [cE,hA]
 have hz:=hA
 refine Kz (cX x.ino 1 1000) ?_
 rcases pC (inR x.links 0 1000) with hB | hB
 ·have hz:=hB
  refine Kz (cX x.links 0 1000) ?_
  simp [cE,hB]
 have hz:=hB
 refine Kz (cX x.links 0 1000) ?_
 (first | with_reducible refine vX _ ?_ ?_ | refine vY _ ?_ ?_) <;> intro hC
 rotate_left
 ·have hz:=hC
  refine Nz ?_
  simp [cE,hC]
 have hz:=hC
 refine Nz ?_
 (first | with_reducible refine vX _ ?_ ?_ | refine vY _ ?_ ?_) <;> intro hD
 ·have hz:=hD
  refine Nz ?_
  simp [cE]; omega
 have hz:=hD
 refine Nz ?_
 rcases pC (r9 x.ents) with hE | hE
 ·have hz:=hE
  refine Kz (aaa x.ents h2) ?_
  simp [cE,hE]
 have hz:=hE
 refine Kz (aaa x.ents h2) ?_
 rcases pC (iA x.attrs) with hF | hF
 ·have hz:=hF
  refine Kz (uM x.attrs h3) ?_
  simp [cE,hF]
 have hz:=hF
 refine Kz (uM x.attrs h3) ?_
 have key:cE x=nO x:=by
  simp [cE,hA,hB,hC,hE,hF]; omega
 (first | with_reducible refine bA _ ?_ ?_ | refine bB _ ?_ ?_) <;> intro k1
 ·refine N ?_
  rw [key,nO,if_pos k1,ag5 (p:=(x.ents.length:Int)=0) (q:=x.ents.length=0) (by omega)]
 refine N ?_
 (first | with_reducible refine bA _ ?_ ?_ | refine bB _ ?_ ?_) <;> intro k2
 ·refine N ?_
  (first | with_reducible refine vX _ ?_ ?_ | refine vY _ ?_ ?_) <;> intro k3
  ·have hz:=k3
   refine Nz ?_
   rw [key,nO,if_neg k1,if_pos k2,decide_eq_true (show x.data.length=0 by omega),Bool.true_and]
  ·have hz:=k3
   refine Nz ?_
   rw [key,nO,if_neg k1,if_pos k2,decide_eq_false (show ¬ x.data.length=0 by omega),Bool.false_and]
 ·refine N ?_
  rw [key,nO,if_neg k1,if_neg k2]
theorem ai4 {x:Inode} (e:uF x.ents=false):cE x=false:=by simp [cE,r9,e]
theorem iD (x:Inode) (h:x.sz<2^48):aT Tryz.prog 146 [x.x] (.bool (cE x)) [.undef]:=by
 obtain ⟨h1,h2,h3,h4,h5⟩:=aab h
 obtain ⟨hl,hls⟩:=ajO h2
 refine U abz [] 75557863725916202467359 [] fun w hP hQ=>?_
 unfold rH
 refine N ?_
 rcases pC (inR x.ino 1 1000) with hA | hA
 ·have hz:=hA
  refine Kz (gK x.ino 1 1000) ?_
  simp [cE,hA]
 have hz:=hA
 refine Kz (gK x.ino 1 1000) ?_
 (first | with_reducible refine vX _ ?_ ?_ | refine vY _ ?_ ?_) <;> intro hD
 ·have hz:=hD
  refine Nz ?_
  simp [cE]; omega
 have hz:=hD
 refine Nz ?_
 (first | with_reducible refine vX _ ?_ ?_ | refine vY _ ?_ ?_) <;> intro hG
 ·have hz:=hG
  refine Nz ?_
  simp [cE,r9]; omega
 have hz:=hG
 refine Nz ?_
 rcases pC (iA x.attrs) with hF | hF
 ·have hz:=hF
  refine Kz (uN x.attrs h3) ?_
  simp [cE,hF]
 have hz:=hF
 refine Kz (uN x.attrs h3) ?_
 refine f6 [2,3,4,5004] ?_
 refine N ?_
 refine aU [2,3,4,5004] (fun i:Nat=>[(30,.int .i64 i)]) (fun i=>i≤x.ents.length∧∀ k,k<i→cD (fun _=>ac9) r8 x.ents k=true) (fun i=>x.ents.length-i) (0) hP hQ (rfl) (by simp) ?_
 rintro i ⟨hi,hk⟩ w1 hP1 hQ1
 refine N1 ?_
 (first | with_reducible refine bA _ ?_ ?_ | refine bB _ ?_ ?_) <;> intro h1
 ·have hlt:i<x.ents.length:=by omega
  have hno:cD (fun _=>ac9) r8 x.ents i=false→cE x=false:=fun e=>ai4 (kR hlt e)
  obtain hla:=hls _ (List.getElem_mem hlt)
  cases hN:aY (x.ents[i]'hlt).name with
  | false=>
   have hz:=(aN h1)
   refine Nz1 ?_
   have hz:=hN
   refine Kz1 (cY (x.ents[i]'hlt).name (by omega)) ?_
   rw [hno (dK hlt (by simp [ac9,hN]))]
  | true=>
   cases hV:inR ((x.ents[i]'hlt).ino) 2 1000 with
   | false=>
    have hz:=(aN h1)
    refine Nz1 ?_
    have hz:=And.intro hN (aN h1)
    refine Kz1 (cY (x.ents[i]'hlt).name (by omega)) ?_
    have hz:=hV
    refine Kz1 (gK ((x.ents[i]'hlt).ino) 2 1000) ?_
    rw [hno (dK hlt (by simp [ac9,hV]))]
   | true=>
    cases i with
    | zero=>
     have hz:=(aN h1)
     refine Nz1 ?_
     have hz:=And.intro hN (aN h1)
     refine Kz1 (cY (x.ents[0]'hlt).name (by omega)) ?_
     have hz:=And.intro hV (aN h1)
     refine Kz1 (gK ((x.ents[0]'hlt).ino) 2 1000) ?_
     exact ⟨1,rfl,⟨by omega,fI hk (by rw [dO hlt]; simp [ac9,hN,hV])⟩,by omega⟩
    | succ m=>
     have w4:decide ((0:Int)<((m+1:Nat):Int))=true:=decide_eq_true (by omega)
     have hm:=aN (show ((m:Nat):Int)<(x.ents.length:Nat) by omega)
     cases hD:strLt (x.ents[m]'(by omega)).name (x.ents[m+1]'hlt).name with
     | false=>
      have hz:=(aN h1)
      refine Nz1 ?_
      have hz:=And.intro hN (aN h1)
      refine Kz1 (cY (x.ents[m+1]'hlt).name (by omega)) ?_
      have hz:=And.intro hV (And.intro w4 (And.intro a8 (And.intro hm (And.intro (aN h1) hD))))
      refine Kz1 (gK ((x.ents[m+1]'hlt).ino) 2 1000) ?_
      rw [hno (by rw [bF hlt,r8,← fR,hD]; simp)]
     | true=>
      have hz:=(aN h1)
      refine Nz1 ?_
      have hz:=And.intro hN (aN h1)
      refine Kz1 (cY (x.ents[m+1]'hlt).name (by omega)) ?_
      have hz:=And.intro hV (And.intro w4 (And.intro a8 (And.intro hm (And.intro (aN h1) hD))))
      refine Kz1 (gK ((x.ents[m+1]'hlt).ino) 2 1000) ?_
      exact ⟨m+1+1,rfl,⟨by omega,fI hk (by rw [bF hlt,r8,← fR,hD]; simp [ac9,hN,hV])⟩,by omega⟩
 ·obtain rfl:i=x.ents.length:=by omega
  have hE:uF x.ents=true:=f8 fun k h=>hk k h
  refine N1 ?_
  rcases pC (inR x.links 0 1000) with hB | hB
  ·have hz:=hB
   refine Kz (gK x.links 0 1000) ?_
   simp [cE,hB]
  have hz:=hB
  refine Kz (gK x.links 0 1000) ?_
  (first | with_reducible refine bA _ ?_ ?_ | refine bB _ ?_ ?_) <;> intro hC
  rotate_left
  ·refine N ?_
   simp [cE,hC]
  refine N ?_
  have key:cE x=nO x:=by
   simp [cE,r9,hA,hB,hC,hE,hF,decide_eq_true (show x.data.length≤100 by omega),decide_eq_true (show x.ents.length≤10 by omega)]
  (first | with_reducible refine bA _ ?_ ?_ | refine bB _ ?_ ?_) <;> intro k1
  ·refine N ?_
   rw [key,nO,if_pos k1,ag5 (p:=(x.ents.length:Int)=0) (q:=x.ents.length=0) (by omega)]
  refine N ?_
  (first | with_reducible refine bA _ ?_ ?_ | refine bB _ ?_ ?_) <;> intro k2
  ·refine N ?_
   (first | with_reducible refine vX _ ?_ ?_ | refine vY _ ?_ ?_) <;> intro k3
   ·have hz:=k3
    refine Nz ?_
    rw [key,nO,if_neg k1,if_pos k2,decide_eq_true (show x.data.length=0 by omega),Bool.true_and]
   ·have hz:=k3
    refine Nz ?_
    rw [key,nO,if_neg k1,if_pos k2,decide_eq_false (show ¬ x.data.length=0 by omega),Bool.false_and]
  ·refine N ?_
   rw [key,nO,if_neg k1,if_neg k2]
end
section
open Go.Proofs
open Nat (reduceEqDiff reduceAdd reduceMul reduceSub)
open Int (reduceNeg reduceToNat reducePow)
def bQ (t:Tab) (i:Int):Option Nat:=t.inodes.findIdx? fun x=>decide (x.ino=i)
def zI:Inode:={ ino:=0,kind:=0,links:=0,data:=[],ents:=[],attrs:=[] }
def ab3 (t:Tab) (i:Int):Inode:=(aP t i).getD zI
theorem adh {α:Type} (p:α→Bool) (l:List α):l.find? p=(l.findIdx? p).bind fun k=>l[k]?:=by
 induction l with
 | nil=>rfl
 | cons x l ih=>
  by_cases h:p x=true
  ·rw [List.find?_cons_of_pos h,List.findIdx?_cons,if_pos h]; rfl
  ·rw [List.find?_cons_of_neg h,List.findIdx?_cons,if_neg h,ih]
   cases List.findIdx? p l <;> simp
theorem aac (t:Tab) (i:Int):aP t i=(bQ t i).bind fun k=>t.inodes[k]?:=adh _ _
theorem o3 {t:Tab} {i:Int} {k:Nat} (h:bQ t i=some k):k<t.inodes.length:=(List.findIdx?_eq_some_iff_getElem.1 h).1
theorem mX {t:Tab} {i:Int} {k:Nat} (h:bQ t i=some k):aP t i=some (t.inodes[k]'(o3 h)):=by
 rw [aac,h]; simp [o3 h]
theorem uO {t:Tab} {i:Int} (h:bQ t i=none):aP t i=none:=by rw [aac,h]; rfl
theorem nP (t:Tab) (n:Int) (hl:t.inodes.length<2^48):aT Tryz.prog 109 [t.x,.int .i64 n] (.int .i64 (uJ (bQ t n))) [.undef,.undef]:=by
 refine U aiN [] 55 [] fun w hP hQ=>?_
 unfold acR
 refine N ?_
 refine f6 [4] ?_
 refine N ?_
 refine aU [4] (fun i:Nat=>[(5,.int .i64 i)]) (fun i=>i≤t.inodes.length∧∀ k,k<i→(h:k<t.inodes.length)→decide (t.inodes[k].ino=n)=false) (fun i=>t.inodes.length-i) (0) hP hQ (rfl) (by simp) ?_
 rintro i ⟨hi,hk⟩ w1 hP1 hQ1
 refine N1 ?_
 (first | with_reducible refine bA _ ?_ ?_ | refine bB _ ?_ ?_) <;> intro h1
 ·have hz:=(aN h1)
  refine Nz1 ?_
  (first | with_reducible refine bA _ ?_ ?_ | refine bB _ ?_ ?_) <;> intro h2
  ·refine N1 ?_
   rw [bQ,kS (p:=fun x:Inode=>decide (x.ino=n)) hk (by omega) (decide_eq_true h2)]; rfl
  ·refine N1 ?_
   exact ⟨i+1,rfl,⟨by omega,j4 (p:=fun x:Inode=>decide (x.ino=n)) hk (by omega) (decide_eq_false h2)⟩,by omega⟩
 ·obtain rfl:i=t.inodes.length:=by omega
  refine N1 ?_
  rw [bQ,kT (p:=fun x:Inode=>decide (x.ino=n)) fun k h=>hk k h h]; rfl
theorem nQ {g:Nat} {cs:List TV} {p:Inode→Bool} (hc:∀ v:Inode,aT Tryz.prog g [v.x,.xbox cs] (.bool (p v)) [.undef,.undef]) (l:List Inode) (hl:l.length<2^48) :
  aT Tryz.prog 129 [.ext 6 (l.map Inode.row),.fn g [.xbox cs]] (.int .i64 (uJ (l.findIdx? p))) [.undef,.undef]:=by
 refine U lS [] 435 [] fun w hP hQ=>?_
 unfold f7
 refine N ?_
 refine f6 [4,5] ?_
 refine N ?_
 refine aU [4,5] (fun i:Nat=>[(8,.int .i64 i)]) (fun i=>i≤l.length∧∀ k,k<i→(h:k<l.length)→p l[k]=false) (fun i=>l.length-i) (0) hP hQ (rfl) (by simp) ?_
 rintro i ⟨hi,hk⟩ w1 hP1 hQ1
 refine N1 ?_
 (first | with_reducible refine bA _ ?_ ?_ | refine bB _ ?_ ?_) <;> intro h1
 ·have hz:=(aN h1)
  refine Nz1 ?_
  cases h2:p (l[i]'(by omega)) with
  | true=>
   have hz:=h2
   refine Kz1 (hc (l[i]'(by omega))) ?_
   rw [kS hk (by omega) h2]; rfl
  | false=>
   have hz:=h2
   refine Kz1 (hc (l[i]'(by omega))) ?_
   exact ⟨i+1,rfl,⟨by omega,j4 hk (by omega) h2⟩,by omega⟩
 ·obtain rfl:i=l.length:=by omega
  refine N1 ?_
  rw [kT fun k h=>hk k h h]; rfl
theorem aad (x:Inode) (n:Int):aT Tryz.prog 147 [x.x,.xbox [.int .i64 n]] (.bool (decide (x.ino=n))) [.undef,.undef]:=by
 refine U wE [] 15 [] fun w hP hQ=>?_
 unfold mA
 exact N trivial
theorem nR (t:Tab) (n:Int) (hl:t.inodes.length<2^48):aT Tryz.prog 87 [t.x,.int .i64 n] (.int .i64 (uJ (bQ t n))) [.undef,.undef]:=by
 refine U abw [] 31 [] fun w hP hQ=>?_
 unfold rE
 refine N ?_
 refine K (nQ (fun v=>aad v n) t.inodes hl) ?_
 rfl
theorem sC {α:Type} (f:α→List TV) (h:∀ x,(f x).all i5=true) (l:List α):fN (l.map f)=true:=by
 rw [fN,List.all_eq_true]
 intro r hr
 obtain ⟨x,_,rfl⟩:=List.mem_map.1 hr
 exact h x
theorem ab4 (l:List Ent):fN (l.map Ent.row)=true:=sC Ent.row (fun _=>rfl) l
theorem ag6 (l:List Attr):fN (l.map Attr.row)=true:=sC Attr.row (fun _=>rfl) l
theorem ai5 (b:aB) (hl:b.length<2^40):aT Tryz.prog 84 [.ext 1 (aL b)] (.own 1 (aL b)) [.undef]:=by
 refine q8 fun a len cap ha=>?_
 cases a with
 | none=>
  obtain rfl:b=[]:=by simpa [aL] using ha rfl
  refine U lF [] 5 [] fun w hP hQ=>?_
  unfold gQ
  refine N ?_
  rfl
 | some a=>
  refine U lF [] 5 [] fun w hP hQ=>?_
  unfold gQ
  exact N trivial
theorem wW (l:List Ent) (hl:l.length<2^40):aT Tryz.prog 125 [.ext 2 (l.map Ent.row)] (.own 2 (l.map Ent.row)) [.undef]:=by
 refine q8 fun a len cap ha=>?_
 cases a with
 | none=>
  obtain rfl:l=[]:=by simpa using ha rfl
  refine U mK [] 5 [] fun w hP hQ=>?_
  unfold iN
  exact N trivial
 | some a=>
  refine U mK [] 5 [] fun w hP hQ=>?_
  unfold iN
  refine N ?_
  have hz:=ab4
  exact Nz trivial
theorem ai6 (l:List Attr) (hl:l.length<2^40):aT Tryz.prog 178 [.ext 2 (l.map Attr.row)] (.own 2 (l.map Attr.row)) [.undef]:=by
 refine q8 fun a len cap ha=>?_
 cases a with
 | none=>
  obtain rfl:l=[]:=by simpa using ha rfl
  refine U lG [] 5 [] fun w hP hQ=>?_
  unfold gR
  exact N trivial
 | some a=>
  refine U lG [] 5 [] fun w hP hQ=>?_
  unfold gR
  refine N ?_
  have hz:=ag6
  exact Nz trivial
theorem j5 (x:Inode) (h:x.sz<2^40):aT Tryz.prog 122 [x.x] x.o [.undef]:=by
 obtain ⟨h1,h2,h3⟩:=c9 h
 refine U wD [] 7 [] fun w hP hQ=>?_
 unfold l9
 refine N ?_
 refine K (ai5 x.data (by omega)) ?_
 refine K (wW x.ents (by omega)) ?_
 exact K (ai6 x.attrs (by omega)) trivial
theorem sD (x:Inode) (h:x.sz<2^40):aT Tryz.prog 140 [x.x] x.o [.undef]:=by
 obtain ⟨h1,h2,h3⟩:=c9 h
 refine U aeh [] 15 [] fun w hP hQ=>?_
 unfold tU
 refine N ?_
 have hz:=And.intro rY (And.intro ab4 ag6)
 exact Nz trivial
theorem dU {t:Tab} {n:Nat} (h:t.sz<n):t.inodes.length<n∧∀ x ∈ t.inodes,x.sz<n:=by
 have h':szM Inode.sz t.inodes<n:=h
 refine ⟨by simp only [szM] at h'; omega,fun x hx=>?_⟩
 have:=wM (f:=Inode.sz) hx
 simp only [szM] at h'; omega
theorem iF (t:Tab) (n:Int) (h:t.sz<2^40):aT Tryz.prog 70 [t.x,.int .i64 n] (.tup [(ab3 t n).o,.bool (aP t n).isSome]) [.undef,.undef]:=by
 obtain ⟨h1,h2⟩:=dU h
 have hPl:=nR t n (by omega)
 cases e:bQ t n with
 | none=>
  rw [e] at hPl
  rw [ab3,uO e]
  refine U rW [] 119 [] fun w hP hQ=>?_
  unfold lQ
  refine N ?_
  refine K (hPl) ?_
  rfl
 | some k=>
  have hk:=o3 e
  rw [e,show uJ (some k)=(k:Int) from rfl] at hPl
  rw [ab3,mX e]
  refine U rW [] 119 [] fun w hP hQ=>?_
  unfold lQ
  refine N ?_
  refine K (hPl) ?_
  (first | with_reducible refine bA _ ?_ ?_ | refine bB _ ?_ ?_) <;> intro hx
  ·exfalso; omega
  have hz:=(aN (show ((k:Nat):Int)<(t.inodes.length:Nat) by omega))
  refine Nz ?_
  refine K (j5 (t.inodes[k]'hk) (h2 _ (List.getElem_mem hk))) ?_
  rfl
theorem uP (t:Tab) (n:Int) (h:t.sz<2^40):aT Tryz.prog 148 [t.x,.int .i64 n] (.tup [(ab3 t n).o,.bool (aP t n).isSome]) [.undef,.undef]:=by
 obtain ⟨h1,h2⟩:=dU h
 have hPl:=nP t n (by omega)
 cases e:bQ t n with
 | none=>
  rw [e] at hPl
  rw [ab3,uO e]
  refine U rX [] 119 [] fun w hP hQ=>?_
  unfold lR
  refine N ?_
  refine K (hPl) ?_
  rfl
 | some k=>
  have hk:=o3 e
  rw [e,show uJ (some k)=(k:Int) from rfl] at hPl
  rw [ab3,mX e]
  refine U rX [] 119 [] fun w hP hQ=>?_
  unfold lR
  refine N ?_
  refine K (hPl) ?_
  (first | with_reducible refine bA _ ?_ ?_ | refine bB _ ?_ ?_) <;> intro hx
  ·exfalso; omega
  have hz:=(aN (show ((k:Nat):Int)<(t.inodes.length:Nat) by omega))
  refine Nz ?_
  refine K (sD (t.inodes[k]'hk) (h2 _ (List.getElem_mem hk))) ?_
  rfl
end
section
open Go.Proofs Go.Shelf Go.RowKit Go.Lib
set_option maxHeartbeats 4000000 in
open Nat (reduceEqDiff reduceAdd reduceMul reduceSub)
open Int (reduceNeg reduceToNat reducePow)
set_option maxRecDepth 100000 in
set_option maxHeartbeats 4000000 in
set_option maxRecDepth 100000 in
set_option maxHeartbeats 4000000 in
set_option maxRecDepth 100000 in
set_option maxHeartbeats 4000000 in
set_option maxRecDepth 100000 in
end
section
open Go.Proofs Go.Shelf Go.RowKit Go.Lib
set_option maxHeartbeats 4000000 in
open Nat (reduceEqDiff reduceAdd reduceMul reduceSub)
open Int (reduceNeg reduceToNat reducePow)
set_option maxRecDepth 100000 in
theorem pD (b off n c i vb voff vc:Nat) (cs vs:List Value) (w:World) (hi:i<n) (hroom:n+1≤c) (hc63:n+1≤9223372036854775807) (hvb:vb≠b)
  (hcl:cs.length=n*2) (hvl:vs.length=2)
  (hcs:∀ (j:Nat) (v:Value),cs[j]?=some v→w.cell? ⟨b,off+j,none⟩=some v) (hsp:∀ j,j<(n+1)*2→(w.cell? ⟨b,off+j,none⟩).isSome=true) (hfz:∀ j,j<(n+1)*2→w.frozen? ⟨b,off+j,none⟩=false)
  (hvs:∀ (j:Nat) (v:Value),vs[j]?=some v→w.cell? ⟨vb,voff+j,none⟩=some v) (h1c:∀ v ∈ cs,v.oneCell'=true) (h1v:∀ v ∈ vs,v.oneCell'=true)
  (tA tB:TypeId) (kA kB:Nat) (hsa:w.shape? vb=some (tA,kA)) (hsb:w.shape? b=some (tB,kB)) (hkB:kB≠0) (hfa:w.frozen? ⟨vb,voff,none⟩=false) (hfe:w.frozen? ⟨vb,kA,none⟩=false) :
  Calls Tryz.prog 134 #[.slice (some ⟨b,off,none⟩) n c,.int .i64 i,.slice (some ⟨vb,voff,none⟩) 1 vc] w fun e w'=>
   e=.returned (.slice (some ⟨b,off,none⟩) (n+1) c)∧w'=(w.drew.setCells b (off+(i+1)*2) (cs.drop (i*2))).setCells b (off+i*2) vs:=by
 have mixed:Tryz.prog.follows .mixedOrders=true:=by kernel_rfl
 have t0:=Tryz.underlying0
 have a0:=Tryz.isAgg0
 have z0:=Tryz.sizeOf0
 have v0:=Tryz.zeroValue0
 have t3:=Tryz.underlying3
 have a3:=Tryz.isAgg3
 have z3:=Tryz.sizeOf3
 have v3:=Tryz.zeroValue3
 have t4:=Tryz.underlying4
 have a4:=Tryz.isAgg4
 have z4:=Tryz.sizeOf4
 have v4:=Tryz.zeroValue4
 have t70:=Tryz.underlying70
 have a70:=Tryz.isAgg70
 have z70:=Tryz.sizeOf70
 have v70:=Tryz.zeroValue70
 have v97:=Tryz.zeroValue97
 have u70:=run_underlying t70
 have u3:=run_underlying t3
 have u4:=run_underlying t4
 have hsz:(Tryz.prog.info? 97).map (·.size)=some 2:=by kernel_rfl
 have hov:∀ lb cb,(callFunc 182 #[.slice (some ⟨vb,voff,none⟩) 1 vc,.slice (some ⟨b,off+(i+1)*2,none⟩) lb cb]).run Tryz.prog w=.ok (.value (.bool false)) w:=fun lb cb=>by
  rw [run_callFunc_extern Tryz.func182 (by kernel_rfl) (by kernel_rfl) (by kernel_rfl) (e:=Extern.SlicesOverlaps.overlaps #[70,70] #[4]) (by kernel_rfl),
   Lib.run_overlaps_apart w 70 4 97 t70 2 Tryz.sizeOf97 ⟨vb,voff,none⟩ ⟨b,off+(i+1)*2,none⟩ 1 vc lb cb hvb tA tB kA kB hsa hsb hkB hfa hfe]
  rfl
 have hdl:(cs.drop (i*2)).length=(n-i)*2:=by rw [List.length_drop,hcl]; omega
 have hw1:IntKind.i64.wrap ((i:Int)+1)=(i:Int)+1:=by rw [IntKind.wrap_i64]; omega
 have hb1:(0:Int)≤(i:Int)+1:=by omega
 have hin:i≤n:=by omega
 have htn:((i:Int)+1).toNat=i+1:=by omega
 have hb2:¬ (c=i+1):=by omega
 have hb3:(i:Int)≤(n:Int)+1:=by omega
 have hb4:¬ (c=i):=by omega
 have hz2:¬ ((i:Int)=(n:Int)):=by omega
 have mn1:(n+1-i).min (n-i)=n-i:=by show min _ _=_; omega
 have mn2:(1:Nat).min (n+1-i)=1:=by show min _ _=_; omega
 have hcp1:∀ ty dc sc,(Builtin.copy_ #[70,70] ty #[.slice (some ⟨b,off+(i+1)*2,none⟩) (n-i) dc,.slice (some ⟨b,off+i*2,none⟩) (n+1-i) sc]).run Tryz.prog w.drew=.ok (goInt (n-i:Nat)) (w.drew.setCells b (off+(i+1)*2) (cs.drop (i*2))):=fun ty dc sc=>by
  have:=eE (P:=Tryz.prog) 2 w.drew 70 70 ty 97 b (off+(i+1)*2) (n-i) dc ⟨b,off+i*2,none⟩ (n+1-i) sc (cs.drop (i*2)) t70 hsz (by rw [hdl,mn1])
   (fun j v hj=>by rw [Addr.add_lit,Nat.add_assoc]; exact hcs (i*2+j) v (by rwa [List.getElem?_drop] at hj))
   (fun j hj=>by rw [Nat.add_assoc]; exact hsp _ (by omega)) (fun j hj=>by rw [Nat.add_assoc]; exact hfz _ (by omega)) (fun v hv=>h1c v (List.mem_of_mem_drop hv))
  rw [this,mn1]
 obtain ⟨W1,hW1⟩:∃ W1,W1=w.drew.setCells b (off+(i+1)*2) (cs.drop (i*2)):=⟨_,rfl⟩
 have hsp1:∀ k,k<(n+1)*2→(W1.cell? ⟨b,off+k,none⟩).isSome=true:=fun k hk=>by
  rw [hW1]
  exact World.isSome_setCells _ _ _ _ _ (hsp k hk)
 have hcp2:∀ (W:World),(∀ x,W.cell? x=W1.cell? x)→(∀ x,W.frozen? x=W1.frozen? x)→∀ ty dc,(Builtin.copy_ #[70,70] ty #[.slice (some ⟨b,off+i*2,none⟩) (n+1-i) dc,.slice (some ⟨vb,voff,none⟩) 1 vc]).run Tryz.prog W=.ok (goInt (1:Nat)) (W.setCells b (off+i*2) vs):=fun W hWc hWf ty dc=>by
  have:=eE (P:=Tryz.prog) 2 W 70 70 ty 97 b (off+i*2) (n+1-i) dc ⟨vb,voff,none⟩ 1 vc vs t70 hsz (by rw [hvl,mn2])
   (fun j v hj=>by
    rw [Addr.add_lit,hWc,hW1,World.cell?_setCells_out b _ _ _ _ (fun h _=>absurd h hvb)]
    exact hvs j v hj)
   (fun j hj=>by rw [hWc,Nat.add_assoc]; exact hsp1 _ (by omega)) (fun j hj=>by rw [hWf,hW1,World.frozen?_setCells,Nat.add_assoc]; exact hfz _ (by omega)) h1v
  rw [this,mn2]
 rw [← hW1] at hcp1
 go_enter Tryz.func134,Tryz.ntmps134
 go_wp2_with (simp only [hov])
 go_region_law_o (refine step_copy_runI rfl _ _ 70 70 rfl _ _ (by simp [Act.eval,Act.put]) (by simp [Act.eval,Act.put]) (hcp1 _ _ _) ?_)
 go_wp2_with (at_builtin; refine wpList_copy_runI _ rfl _ _ 70 70 rfl _ _ rfl rfl (hcp2 _ (fun _=>rfl) (fun _=>rfl) _ _) ?_)
 go_ret
 first | exact ⟨rfl,rfl⟩ | exact ⟨rfl,by rw [hW1]⟩
set_option maxHeartbeats 4000000 in
set_option maxRecDepth 100000 in
theorem lU (b off n c vb voff vc:Nat) (vs:List Value) (w:World) (hroom:n+1≤c) (hc63:n+1≤9223372036854775807)
  (hvl:vs.length=2) (hsp:∀ j,j<2→(w.cell? ⟨b,off+n*2+j,none⟩).isSome=true) (hfz:∀ j,j<2→w.frozen? ⟨b,off+n*2+j,none⟩=false)
  (hvs:∀ (j:Nat) (v:Value),vs[j]?=some v→w.cell? ⟨vb,voff+j,none⟩=some v) (h1v:∀ v ∈ vs,v.oneCell'=true) :
  Calls Tryz.prog 134 #[.slice (some ⟨b,off,none⟩) n c,.int .i64 n,.slice (some ⟨vb,voff,none⟩) 1 vc] w fun e w'=>
   e=.returned (.slice (some ⟨b,off,none⟩) (n+1) c)∧w'=w.setCells b (off+n*2) vs:=by
 have mixed:Tryz.prog.follows .mixedOrders=true:=by kernel_rfl
 have t0:=Tryz.underlying0
 have a0:=Tryz.isAgg0
 have z0:=Tryz.sizeOf0
 have v0:=Tryz.zeroValue0
 have t3:=Tryz.underlying3
 have a3:=Tryz.isAgg3
 have z3:=Tryz.sizeOf3
 have v3:=Tryz.zeroValue3
 have t4:=Tryz.underlying4
 have a4:=Tryz.isAgg4
 have z4:=Tryz.sizeOf4
 have v4:=Tryz.zeroValue4
 have t70:=Tryz.underlying70
 have a70:=Tryz.isAgg70
 have z70:=Tryz.sizeOf70
 have v70:=Tryz.zeroValue70
 have v97:=Tryz.zeroValue97
 have iE:(Tryz.prog.info? 97).map (fun i=>(i.zero,i.size,i.bytes))=some (some (.agg #[.string { data:=#[] },.int .i64 0]),2,24):=by kernel_rfl
 obtain ⟨i0,hi0,hz0,hz1,hz2⟩:=info_parts iE
 have hap:∀ ty,(Builtin.append_ #[70,70] ty #[.slice (some ⟨b,off,none⟩) n c,.slice (some ⟨vb,voff,none⟩) 1 vc]).run Tryz.prog w=.ok (.slice (some ⟨b,off,none⟩) (n+1) c) (w.setCells b (off+n*2) vs):=fun ty=>by
  have:=run_append_room_cells w 70 ty 97 i0 t70 hi0 b off n c ⟨vb,voff,none⟩ 1 vc vs (by rw [hvl,hz1]) (fun j u hu=>by rw [Addr.add_lit]; exact hvs j u hu) h1v hroom
   (fun j hj=>by rw [hz1]; exact hsp j (by omega)) (fun j hj=>by rw [hz1]; exact hfz j (by omega))
  rw [hz1] at this; exact this
 go_enter Tryz.func134,Tryz.ntmps134
 go_wp2_with (at_builtin; refine Lib.wpList_append_run _ rfl _ _ _ _ rfl _ _ rfl rfl _ _ (hap _) ?_)
 go_ret
 exact ⟨rfl,rfl⟩
set_option maxHeartbeats 4000000 in
set_option maxRecDepth 100000 in
theorem gA (base:Option Addr) (n c vb voff vc:Nat) (cs vs:List Value) (w:World) (hnc:n≤c) (hroom:c<n+1) (hbig:(n+1)*24≤140737488355328)
  (hcl:cs.length=n*2) (hvl:vs.length=2) (hnil:base=none→n=0)
  (hcs:∀ a,base=some a→∀ (j:Nat) (v:Value),cs[j]?=some v→w.cell? (a.add j)=some v)
  (hvs:∀ (j:Nat) (v:Value),vs[j]?=some v→w.cell? ⟨vb,voff+j,none⟩=some v) (h1v:∀ v ∈ vs,v.oneCell'=true) :
  Calls Tryz.prog 134 #[.slice base n c,.int .i64 n,.slice (some ⟨vb,voff,none⟩) 1 vc] w fun e w'=>
   e=.returned (.slice (some ⟨w.heap.size,0,none⟩) (n+1) (grownCap w (n+1) c 97)) ∧
   w'=w.drew.alloc (.cells ((cs++vs).toArray++Builtin.zeroCells (Value.agg #[.string { data:=#[] },.int .i64 0]).cells (grownCap w (n+1) c 97-(n+1))) 97):=by
 have mixed:Tryz.prog.follows .mixedOrders=true:=by kernel_rfl
 have t0:=Tryz.underlying0
 have a0:=Tryz.isAgg0
 have z0:=Tryz.sizeOf0
 have v0:=Tryz.zeroValue0
 have t3:=Tryz.underlying3
 have a3:=Tryz.isAgg3
 have z3:=Tryz.sizeOf3
 have v3:=Tryz.zeroValue3
 have t4:=Tryz.underlying4
 have a4:=Tryz.isAgg4
 have z4:=Tryz.sizeOf4
 have v4:=Tryz.zeroValue4
 have t70:=Tryz.underlying70
 have a70:=Tryz.isAgg70
 have z70:=Tryz.sizeOf70
 have v70:=Tryz.zeroValue70
 have v97:=Tryz.zeroValue97
 have iE:(Tryz.prog.info? 97).map (fun i=>(i.zero,i.size,i.bytes))=some (some (.agg #[.string { data:=#[] },.int .i64 0]),2,24):=by kernel_rfl
 obtain ⟨i0,hi0,hz0,hz1,hz2⟩:=info_parts iE
 have hsrc:Src Tryz.prog i0.size 70 (.slice (some ⟨vb,voff,none⟩) 1 vc) 1 vs w:=by
  rw [hz1]
  exact Src.ofSlice w t70 ⟨vb,voff,none⟩ 1 vc vs (by omega) (fun j u hj=>by rw [Addr.add_lit]; exact hvs j u hj) h1v
 have hold:(Builtin.firstCells i0.size n (.slice base n c)).run Tryz.prog w.drew=.ok cs.toArray w.drew:=by
  rw [hz1]
  cases base with
  | none=>
   have h0:=hnil rfl
   subst h0
   rw [List.length_eq_zero_iff.1 (by omega:cs.length=0)]
   exact run_firstCells_none w.drew 2 0 0 c
  | some a=>exact run_firstCells_some w.drew 2 n a n c cs (by omega) (fun j v hj=>hcs a rfl j v hj)
 have hrun:∀ ty,(Builtin.append_ #[70,70] ty #[.slice base n c,.slice (some ⟨vb,voff,none⟩) 1 vc]).run Tryz.prog w=_:=fun ty=>
  run_append_grow_src w 70 70 ty 97 i0 _ t70 hi0 hz0 base n c cs hold _ 1 vs hsrc hroom (by omega) (by rw [hz2]; exact growslice_fits hroom hbig)
 go_enter Tryz.func134,Tryz.ntmps134
 cases base with
 | none=>
  have h0:=hnil rfl
  subst h0
  go_wp2_with (at_builtin; refine Lib.wpList_append_run _ rfl _ _ _ _ rfl _ _ rfl rfl _ _ (hrun _) ?_)
  go_ret
  exact ⟨rfl,rfl⟩
 | some a=>
  obtain ⟨ab,ao,asp⟩:=a
  go_wp2_with (at_builtin; refine Lib.wpList_append_run _ rfl _ _ _ _ rfl _ _ rfl rfl _ _ (hrun _) ?_)
  all_goals (go_ret; exact ⟨rfl,rfl⟩)
set_option maxHeartbeats 4000000 in
set_option maxRecDepth 100000 in
theorem sE (b off n c i vb voff vc:Nat) (cs vs:List Value) (w:World) (hi:i<n) (hnc:n≤c) (hroom:c<n+1) (hbig:(n+1)*24≤140737488355328)
  (hcl:cs.length=n*2) (hvl:vs.length=2)
  (hcs:∀ (j:Nat) (v:Value),cs[j]?=some v→w.cell? ⟨b,off+j,none⟩=some v)
  (hvs:∀ (j:Nat) (v:Value),vs[j]?=some v→w.cell? ⟨vb,voff+j,none⟩=some v) (h1c:∀ v ∈ cs,v.oneCell'=true) (h1v:∀ v ∈ vs,v.oneCell'=true) :
  Calls Tryz.prog 134 #[.slice (some ⟨b,off,none⟩) n c,.int .i64 i,.slice (some ⟨vb,voff,none⟩) 1 vc] w fun e w'=>
   e=.returned (.slice (some ⟨w.heap.size,0,none⟩) (n+1) (grownCap w (n+1) c 97)) ∧
   w'=(((w.alloc (.cells ((cs.take (i*2)).toArray++Builtin.zeroCells (Value.agg #[.string { data:=#[] },.int .i64 0]).cells (n+1-i)++Builtin.zeroCells (Value.agg #[.string { data:=#[] },.int .i64 0]).cells (grownCap w (n+1) c 97-(n+1))) 97)).drew.setCells w.heap.size (i*2) vs).drew).setCells w.heap.size ((i+1)*2) (cs.drop (i*2)):=by
 have mixed:Tryz.prog.follows .mixedOrders=true:=by kernel_rfl
 have t0:=Tryz.underlying0
 have a0:=Tryz.isAgg0
 have z0:=Tryz.sizeOf0
 have v0:=Tryz.zeroValue0
 have t3:=Tryz.underlying3
 have a3:=Tryz.isAgg3
 have z3:=Tryz.sizeOf3
 have v3:=Tryz.zeroValue3
 have t4:=Tryz.underlying4
 have a4:=Tryz.isAgg4
 have z4:=Tryz.sizeOf4
 have v4:=Tryz.zeroValue4
 have t70:=Tryz.underlying70
 have a70:=Tryz.isAgg70
 have z70:=Tryz.sizeOf70
 have v70:=Tryz.zeroValue70
 have v97:=Tryz.zeroValue97
 have iE:(Tryz.prog.info? 97).map (fun i=>(i.zero,i.size,i.bytes))=some (some (.agg #[.string { data:=#[] },.int .i64 0]),2,24):=by kernel_rfl
 obtain ⟨i0,hi0,hz0,hzs,hzb⟩:=info_parts iE
 have hz2:¬ ((i:Int)=(n:Int)):=by omega
 have hz3:(c:Int)<(n:Int)+1:=by omega
 have hsz:(Tryz.prog.info? 97).map (·.size)=some 2:=by rw [hi0]; simp [hzs]
 have hbw:b<w.heap.size:=block_lt_of_cell (hcs 0 _ (List.getElem?_eq_getElem (by omega)))
 have hvw:vb<w.heap.size:=block_lt_of_cell (hvs 0 _ (List.getElem?_eq_getElem (by omega)))
 have hkk:(n:Int)+1-(i:Int)=((n+1-i:Nat):Int):=by omega
 have hik:i+(n+1-i)=n+1:=by omega
 have hold:(Builtin.firstCells i0.size i (.slice (some ⟨b,off,none⟩) i c)).run Tryz.prog w.drew=.ok (cs.take (i*2)).toArray w.drew:=by
  rw [hzs]
  exact run_firstCells_some w.drew 2 i ⟨b,off,none⟩ i c (cs.take (i*2)) (by rw [List.length_take]; omega) (fun j v hj=>by
   rw [Addr.add_lit]
   rw [List.getElem?_take] at hj
   split at hj
   ·exact hcs j v hj
   ·cases hj)
 have hrz:∀ ty,(Builtin.append_ #[70,3] ty #[.slice (some ⟨b,off,none⟩) i c,.int .i64 ((n:Int)+1-(i:Int))]).run Tryz.prog w =
   .ok (.slice (some ⟨w.heap.size,0,none⟩) (n+1) (grownCap w (n+1) c 97)) (w.drew.alloc (.cells ((cs.take (i*2)).toArray++Builtin.zeroCells (Value.agg #[.string { data:=#[] },.int .i64 0]).cells (n+1-i)++Builtin.zeroCells (Value.agg #[.string { data:=#[] },.int .i64 0]).cells (grownCap w (n+1) c 97-(n+1))) 97)):=fun ty=>by
  have h:=Lib.run_append_grow_zeros w 70 3 ty 97 i0 _ .i64 .i64 t70 t3 hi0 hz0 (some ⟨b,off,none⟩) i c (cs.take (i*2)) hold (n+1-i) (by omega) (by omega) (by omega) (by omega) (by rw [hzb]; omega) (by rw [hzb,hik]; exact growslice_fits hroom hbig)
  rw [hik] at h
  rw [hkk]
  exact h
 obtain ⟨G,hG⟩:∃ G,G=grownCap w (n+1) c 97:=⟨_,rfl⟩
 obtain ⟨ROW,hROW⟩:∃ ROW:Array Value,ROW=(cs.take (i*2)).toArray++Builtin.zeroCells (Value.agg #[.string { data:=#[] },.int .i64 0]).cells (n+1-i)++Builtin.zeroCells (Value.agg #[.string { data:=#[] },.int .i64 0]).cells (G-(n+1)):=⟨_,rfl⟩
 rw [← hG] at hrz ⊢
 rw [← hROW] at hrz ⊢
 have hRl:(n+1)*2≤ROW.size:=by
  rw [hROW]
  simp [Builtin.zeroCells,Value.cells]
  omega
 obtain ⟨W1,hW1⟩:∃ W1,W1=w.drew.alloc (.cells ROW 97):=⟨_,rfl⟩
 rw [← hW1] at hrz
 have hN:∀ j,j<(n+1)*2→(W1.cell? ⟨w.heap.size,j,none⟩).isSome=true:=fun j hj=>by
  rw [hW1,World.cell?_alloc_at (w:=w.drew) ROW _ w.heap.size j rfl,Array.getElem?_eq_getElem (by omega)]; rfl
 have hNf:∀ j,W1.frozen? ⟨w.heap.size,j,none⟩=false:=fun j=>by rw [hW1]; exact World.frozen?_alloc_at (w:=w.drew) ROW _ w.heap.size j rfl
 have hOb:∀ j v,w.cell? ⟨b,j,none⟩=some v→W1.cell? ⟨b,j,none⟩=some v:=fun j v h=>by rw [hW1,World.cell?_alloc_past (w:=w.drew) _ b j hbw]; exact h
 have hOv:∀ j v,w.cell? ⟨vb,j,none⟩=some v→W1.cell? ⟨vb,j,none⟩=some v:=fun j v h=>by rw [hW1,World.cell?_alloc_past (w:=w.drew) _ vb j hvw]; exact h
 have mn1:(n-i).min (n-i)=n-i:=by show min _ _=_; omega
 have mn2:(1:Nat).min (n+1-i)=1:=by show min _ _=_; omega
 have hcpA:∀ (W:World),(∀ x,W.cell? x=W1.cell? x)→(∀ x,W.frozen? x=W1.frozen? x)→∀ ty dc,(Builtin.copy_ #[70,70] ty #[.slice (some ⟨w.heap.size,i*2,none⟩) (n+1-i) dc,.slice (some ⟨vb,voff,none⟩) 1 vc]).run Tryz.prog W=.ok (goInt (1:Nat)) (W.setCells w.heap.size (i*2) vs):=fun W hWc hWf ty dc=>by
  have:=eE (P:=Tryz.prog) 2 W 70 70 ty 97 w.heap.size (i*2) (n+1-i) dc ⟨vb,voff,none⟩ 1 vc vs t70 hsz (by rw [hvl,mn2])
   (fun j v hj=>by rw [Addr.add_lit,hWc]; exact hOv _ v (hvs j v hj))
   (fun j hj=>by rw [hWc]; exact hN _ (by omega)) (fun j hj=>by rw [hWf]; exact hNf _) h1v
  rw [this,mn2]
 have hGn:n+1≤G:=by rw [hG]; exact grownCap_ge w _ _ _
 have hG63:G≤9223372036854775807:=by
  have:=grownCap_le_maxLen w (n+1) c 97 (by unfold maxLen; omega)
  rw [← hG] at this
  unfold maxLen at this
  omega
 have hGi:¬ (G=i):=by omega
 have hGim:¬ (G=i+1):=by omega
 have hci:¬ (c=i):=by omega
 have hbN:b≠w.heap.size:=by omega
 have hdl:(cs.drop (i*2)).length=(n-i)*2:=by rw [List.length_drop,hcl]; omega
 have hcpB:∀ (W:World),(∀ x,W.cell? x=(W1.setCells w.heap.size (i*2) vs).cell? x)→(∀ x,W.frozen? x=(W1.setCells w.heap.size (i*2) vs).frozen? x)→∀ ty dc sc,(Builtin.copy_ #[70,70] ty #[.slice (some ⟨w.heap.size,(i+1)*2,none⟩) (n-i) dc,.slice (some ⟨b,off+i*2,none⟩) (n-i) sc]).run Tryz.prog W=.ok (goInt (n-i:Nat)) (W.setCells w.heap.size ((i+1)*2) (cs.drop (i*2))):=fun W hWc hWf ty dc sc=>by
  have:=eE (P:=Tryz.prog) 2 W 70 70 ty 97 w.heap.size ((i+1)*2) (n-i) dc ⟨b,off+i*2,none⟩ (n-i) sc (cs.drop (i*2)) t70 hsz (by rw [hdl,mn1])
   (fun j v hj=>by
    rw [Addr.add_lit,hWc,World.cell?_setCells_out _ _ _ _ _ (fun h _=>absurd h hbN),Nat.add_assoc]
    exact hOb _ v (hcs (i*2+j) v (by rwa [List.getElem?_drop] at hj)))
   (fun j hj=>by rw [hWc]; exact isSome_setCells _ _ _ _ (fun t ht=>hN _ (by omega)) _ (hN _ (by omega)))
   (fun j hj=>by rw [hWf,World.frozen?_setCells]; exact hNf _) (fun v hv=>h1c v (List.mem_of_mem_drop hv))
  rw [this,mn1]
 subst hW1
 have hE1:∀ x,((w.alloc (.cells ROW 97)).drew).cell? x=(w.drew.alloc (.cells ROW 97)).cell? x:=fun x=>rfl
 have hE2:∀ x,((w.alloc (.cells ROW 97)).drew).frozen? x=(w.drew.alloc (.cells ROW 97)).frozen? x:=fun x=>rfl
 have hF1:∀ x,(((w.alloc (.cells ROW 97)).drew.setCells w.heap.size (i*2) vs).drew).cell? x=((w.drew.alloc (.cells ROW 97)).setCells w.heap.size (i*2) vs).cell? x:=fun x=>rfl
 have hF2:∀ x,(((w.alloc (.cells ROW 97)).drew.setCells w.heap.size (i*2) vs).drew).frozen? x=((w.drew.alloc (.cells ROW 97)).setCells w.heap.size (i*2) vs).frozen? x:=fun x=>rfl
 have hw1:IntKind.i64.wrap ((i:Int)+1)=(i:Int)+1:=by rw [IntKind.wrap_i64]; omega
 have hb1:(0:Int)≤(i:Int)+1:=by omega
 have hin:i≤n:=by omega
 have htn:((i:Int)+1).toNat=i+1:=by omega
 have hb3:(i:Int)≤(n:Int):=by omega
 clear hkk hik hold hROW hG hRl
 go_enter Tryz.func134,Tryz.ntmps134
 go_wp2_with (first
  | (at_builtin; refine Lib.wpList_append_run _ rfl _ _ _ _ rfl _ _ rfl rfl _ _ (hrz _) ?_)
  | (at_builtin; refine wpList_copy_runI _ rfl _ _ 70 70 rfl _ _ rfl rfl (hcpA _ hE1 hE2 _ _) ?_)
  | (at_builtin; refine wpList_copy_runI _ rfl _ _ 70 70 rfl _ _ rfl rfl (hcpB _ (fun _=>rfl) (fun _=>rfl) _ _ _) ?_))
 go_region_law_o (refine step_copy_runI rfl _ _ 70 70 rfl (.slice (some ⟨w.heap.size,(i+1)*2,none⟩) (n-i) (G-(i+1))) (.slice (some ⟨b,off+i*2,none⟩) (n-i) (c-i)) (by simp [Act.eval,Act.put]) (by simp [Act.eval,Act.put]) (hcpB _ hF1 hF2 3 (G-(i+1)) (c-i)) ?_)
 go_wp2
 go_ret
 exact ⟨rfl,rfl⟩
theorem akX (es:List (List TV)) (x:List TV) (i:Nat) (hs:∀ r ∈ es,r.length=2) (hx:x.length=2) (hk:es.flatten.all cB=true) (hkx:x.all cB=true) (hi:i≤es.length) (hbig:(es.length+1)*24≤140737488355328) :
  aT Tryz.prog 134 [.own 2 es,.int .i64 i,.own 2 [x]] (.own 2 (es.take i++x::es.drop i)) [.undef,.undef,.undef]:=by
 refine aiQ (s:=2) ⟨_,Tryz.func134,by kernel_rfl,by kernel_rfl⟩ hs hx hk hkx hi ?_
 intro w base c cs vs vb voff vc Cv tv frv hcs hvl hle hnil hsome hvb hvfr hvcap hvc1 hvc h1c h1v
 generalize es.length=n at *
 have hvs:∀ (j:Nat) (v:Value),vs[j]?=some v→w.cell? ⟨vb,voff+j,none⟩=some v:=by
  intro j v hj
  have:=hvc j (List.getElem?_eq_some_iff.1 hj).1
  simp [World.cell?,hvb,this,hj]
 have hz6:∀ m,(Builtin.zeroCells (Value.agg #[.string { data:=#[] },.int .i64 0]).cells m).size=m*2:=fun m=>by rw [size_zeroCells]; rfl
 cases base with
 | none=>
  obtain ⟨rfl,rfl⟩:=hnil rfl
  have hi0:i=0:=by omega
  subst hi0
  have hg:=grownCap_ge w (0+1) 0 97
  refine (gA none 0 0 vb voff vc cs vs w (by omega) (by omega) hbig hcs hvl (fun _=>rfl) (fun a h=>by cases h) hvs h1v).mono ?_
  rintro e w' ⟨rfl,hw⟩
  refine ⟨w.heap.size,0,_,rfl,?_,.inr rfl⟩
  exact oY (s:=2) (n:=0) hcs hvl hg (by rw [hz6]; omega) hw
 | some a=>
  obtain ⟨b,off,C,ty,fr,rfl,hne,hb,hfr,hcap,hc⟩:=hsome a rfl
  have hcell:∀ (j:Nat) (v:Value),cs[j]?=some v→w.cell? ⟨b,off+j,none⟩=some v:=by
   intro j v hj
   have:=hc j (List.getElem?_eq_some_iff.1 hj).1
   simp [World.cell?,hb,this,hj]
  have hsp:∀ j,j<c*2→(w.cell? ⟨b,off+j,none⟩).isSome=true:=by
   intro j hj
   have:off+j<C.size:=by omega
   simp [World.cell?,hb,this]
  have hfz:∀ j,j<c*2→w.frozen? ⟨b,off+j,none⟩=false:=by
   intro j hj
   have:=hfr (off+j) (.inl (by omega))
   simp [World.frozen?,hb]
   simpa using this
  have hg:=grownCap_ge w (n+1) c 97
  by_cases hin:i=n
  ·subst hin
   by_cases hroom:i+1≤c
   ·refine (lU b off i c vb voff vc vs w hroom (by omega) hvl (fun j hj=>by rw [Nat.add_assoc]; exact hsp _ (by omega)) (fun j hj=>by rw [Nat.add_assoc]; exact hfz _ (by omega)) hvs h1v).mono ?_
    rintro e w' ⟨rfl,hw⟩
    refine ⟨b,off,_,rfl,?_,.inl ⟨_,rfl,rfl⟩⟩
    refine zJ (s:=2) (w0:=w) rfl ⟨rfl,rfl⟩ hb hfr hcap hroom (Nat.le_refl _) hcs hvl hc ?_
    rw [List.drop_eq_nil_of_le (by omega)]; exact hw
   ·refine (gA (some ⟨b,off,none⟩) i c vb voff vc cs vs w hle (by omega) hbig hcs hvl (fun h=>by cases h) (fun a ha j v hj=>by injection ha with ha; subst ha; rw [Addr.add_lit]; exact hcell j v hj) hvs h1v).mono ?_
    rintro e w' ⟨rfl,hw⟩
    refine ⟨w.heap.size,0,_,rfl,?_,.inr rfl⟩
    exact oY (s:=2) hcs hvl hg (by rw [hz6]; omega) hw
  ·have hlt:i<n:=by omega
   by_cases hroom:n+1≤c
   ·have hfa:w.frozen? ⟨vb,voff,none⟩=false:=by
     have:=hvfr voff (.inl (by omega))
     simp [World.frozen?,hvb]
     simpa using this
    have hfe:w.frozen? ⟨vb,Cv.size,none⟩=false:=by
     have:=hvfr Cv.size (.inr ⟨by decide,rfl⟩)
     simp [World.frozen?,hvb]
     simpa using this
    refine (pD b off n c i vb voff vc cs vs w hlt hroom (by omega) (Ne.symm hne) hcs hvl hcell (fun j hj=>hsp j (by omega)) (fun j hj=>hfz j (by omega)) hvs h1c h1v tv ty Cv.size C.size
     (by simp [World.shape?,hvb]) (by simp [World.shape?,hb]) (by omega) hfa hfe).mono ?_
    rintro e w' ⟨rfl,hw⟩
    refine ⟨b,off,_,rfl,?_,.inl ⟨_,rfl,rfl⟩⟩
    exact zJ (s:=2) (w0:=w.drew) rfl ⟨rfl,rfl⟩ hb hfr hcap hroom (by omega) hcs hvl hc hw
   ·refine (sE b off n c i vb voff vc cs vs w hlt hle (by omega) hbig hcs hvl hcell hvs h1c h1v).mono ?_
    rintro e w' ⟨rfl,hw⟩
    refine ⟨w.heap.size,0,_,rfl,?_,.inr rfl⟩
    rw [Array.append_assoc] at hw
    exact aiP (s:=2) (by omega) hcs hvl hg (by rw [Array.size_append,hz6,hz6]; omega) hw
theorem o4 (l:List Ent) (x:Ent) (i:Nat) (hi:i≤l.length) (hbig:(l.length+1)*24≤140737488355328) :
  aT Tryz.prog 134 [.own 2 (l.map Ent.row),.int .i64 i,.own 2 [Ent.row x]] (.own 2 ((l.take i++x::l.drop i).map Ent.row)) [.undef,.undef,.undef]:=by
 have hr6:∀ r ∈ l.map Ent.row,r.length=2:=fun r hr=>by obtain ⟨x,_,rfl⟩:=List.mem_map.1 hr; rfl
 have hkn:(l.map Ent.row).flatten.all cB=true:=by
  rw [List.all_eq_true]
  intro t ht
  obtain ⟨r,hr,ht⟩:=List.mem_flatten.1 ht
  obtain ⟨x,_,rfl⟩:=List.mem_map.1 hr
  exact List.all_eq_true.1 (show (Ent.row x).all cB=true from rfl) t ht
 have hl:(l.map Ent.row).length=l.length:=List.length_map _
 rw [show (l.take i++x::l.drop i).map Ent.row=(l.map Ent.row).take i++Ent.row x::(l.map Ent.row).drop i by simp]
 exact akX _ _ i hr6 rfl hkn rfl (by omega) (by rw [hl]; exact hbig)
end
section
open Go.Proofs Go.Shelf
open Nat (reduceEqDiff reduceAdd reduceMul reduceSub)
open Int (reduceNeg reduceToNat reducePow)
def pE:Go.Shelf.Ren:=⟨fun | 143=>230 | 219=>257 | 217=>263 | 225=>264 | 224=>265 | 267=>266 | 266=>269 | 314=>270 | n=>n,
 fun | 9=>9 | 3=>3 | 4=>4 | 5=>5 | 46=>141 | 146=>245 | 51=>178 | n=>n,
 fun | 1=>0 | n=>n⟩
theorem aae:Lays.n143 Tryz.prog pE where
 mixed:=by kernel_rfl
 f143:=Tryz.func230.trans (congrArg some (by kernel_rfl))
 f217:=Tryz.func263.trans (congrArg some (by kernel_rfl))
 f219:=Tryz.func257.trans (congrArg some (by kernel_rfl))
 f224:=Tryz.func265.trans (congrArg some (by kernel_rfl))
 f225:=Tryz.func264.trans (congrArg some (by kernel_rfl))
 f266:=Tryz.func269.trans (congrArg some (by kernel_rfl))
 f267:=Tryz.func266.trans (congrArg some (by kernel_rfl))
 f314:=Tryz.func270.trans (congrArg some (by kernel_rfl))
 t3:=Tryz.underlying3
 a3:=Tryz.isAgg3
 z3:=Tryz.sizeOf3
 v3:=Tryz.zeroValue3
 t4:=Tryz.underlying4
 a4:=Tryz.isAgg4
 z4:=Tryz.sizeOf4
 v4:=Tryz.zeroValue4
 t5:=Tryz.underlying5
 a5:=Tryz.isAgg5
 z5:=Tryz.sizeOf5
 v5:=Tryz.zeroValue5
 t9:=Tryz.underlying9
 a9:=Tryz.isAgg9
 z9:=Tryz.sizeOf9
 v9:=Tryz.zeroValue9
 t46:=Tryz.underlying141
 a46:=Tryz.isAgg141
 z46:=Tryz.sizeOf141
 v46:=Tryz.zeroValue141
 t51:=Tryz.underlying178
 a51:=Tryz.isAgg178
 z51:=Tryz.sizeOf178
 v51:=Tryz.zeroValue178
 t146:=Tryz.underlying245
 a146:=Tryz.isAgg245
 z146:=Tryz.sizeOf245
 v146:=Tryz.zeroValue245
 g1:=by kernel_rfl
def pG:Go.Shelf.Ren:=⟨fun | 138=>229 | 195=>254 | 218=>256 | 143=>230 | 219=>257 | 217=>263 | 225=>264 | 224=>265 | 267=>266 | 266=>269 | 314=>270 | n=>n,
 fun | 9=>9 | 3=>3 | 4=>4 | 5=>5 | 0=>0 | 46=>141 | 146=>245 | 51=>178 | n=>n,
 fun | 1=>0 | n=>n⟩
theorem aaf:Lays.n138 Tryz.prog pG where
 mixed:=by kernel_rfl
 f138:=Tryz.func229.trans (congrArg some (by kernel_rfl))
 f143:=Tryz.func230.trans (congrArg some (by kernel_rfl))
 f195:=Tryz.func254.trans (congrArg some (by kernel_rfl))
 f217:=Tryz.func263.trans (congrArg some (by kernel_rfl))
 f218:=Tryz.func256.trans (congrArg some (by kernel_rfl))
 f219:=Tryz.func257.trans (congrArg some (by kernel_rfl))
 f224:=Tryz.func265.trans (congrArg some (by kernel_rfl))
 f225:=Tryz.func264.trans (congrArg some (by kernel_rfl))
 f266:=Tryz.func269.trans (congrArg some (by kernel_rfl))
 f267:=Tryz.func266.trans (congrArg some (by kernel_rfl))
 f314:=Tryz.func270.trans (congrArg some (by kernel_rfl))
 t0:=Tryz.underlying0
 a0:=Tryz.isAgg0
 z0:=Tryz.sizeOf0
 v0:=Tryz.zeroValue0
 t3:=Tryz.underlying3
 a3:=Tryz.isAgg3
 z3:=Tryz.sizeOf3
 v3:=Tryz.zeroValue3
 t4:=Tryz.underlying4
 a4:=Tryz.isAgg4
 z4:=Tryz.sizeOf4
 v4:=Tryz.zeroValue4
 t5:=Tryz.underlying5
 a5:=Tryz.isAgg5
 z5:=Tryz.sizeOf5
 v5:=Tryz.zeroValue5
 t9:=Tryz.underlying9
 a9:=Tryz.isAgg9
 z9:=Tryz.sizeOf9
 v9:=Tryz.zeroValue9
 t46:=Tryz.underlying141
 a46:=Tryz.isAgg141
 z46:=Tryz.sizeOf141
 v46:=Tryz.zeroValue141
 t51:=Tryz.underlying178
 a51:=Tryz.isAgg178
 z51:=Tryz.sizeOf178
 v51:=Tryz.zeroValue178
 t146:=Tryz.underlying245
 a146:=Tryz.isAgg245
 z146:=Tryz.sizeOf245
 v146:=Tryz.zeroValue245
 g1:=by kernel_rfl
def i4:Go.Shelf.Ren:=⟨fun | 156=>225 | 165=>249 | 166=>250 | 169=>251 | 240=>260 | 241=>261 | 276=>267 | 277=>268 | n=>n,
 fun | 31=>37 | 9=>9 | 3=>3 | 4=>4 | 0=>0 | 20=>20 | 72=>220 | 76=>224 | 70=>218 | 37=>22 | 75=>223 | 127=>236 | 164=>238 | 5=>5 | 80=>226 | n=>n,
 fun | n=>n⟩
theorem o5:Lays.n156 Tryz.prog i4 where
 mixed:=by kernel_rfl
 f156:=Tryz.func225.trans (congrArg some (by kernel_rfl))
 f165:=Tryz.func249.trans (congrArg some (by kernel_rfl))
 f166:=Tryz.func250.trans (congrArg some (by kernel_rfl))
 f169:=Tryz.func251.trans (congrArg some (by kernel_rfl))
 f240:=Tryz.func260.trans (congrArg some (by kernel_rfl))
 f241:=Tryz.func261.trans (congrArg some (by kernel_rfl))
 f276:=Tryz.func267.trans (congrArg some (by kernel_rfl))
 f277:=Tryz.func268.trans (congrArg some (by kernel_rfl))
 t0:=Tryz.underlying0
 a0:=Tryz.isAgg0
 z0:=Tryz.sizeOf0
 v0:=Tryz.zeroValue0
 t3:=Tryz.underlying3
 a3:=Tryz.isAgg3
 z3:=Tryz.sizeOf3
 v3:=Tryz.zeroValue3
 t4:=Tryz.underlying4
 a4:=Tryz.isAgg4
 z4:=Tryz.sizeOf4
 v4:=Tryz.zeroValue4
 t9:=Tryz.underlying9
 a9:=Tryz.isAgg9
 z9:=Tryz.sizeOf9
 v9:=Tryz.zeroValue9
 t20:=Tryz.underlying20
 a20:=Tryz.isAgg20
 z20:=Tryz.sizeOf20
 v20:=Tryz.zeroValue20
 t31:=Tryz.underlying37
 a31:=Tryz.isAgg37
 z31:=Tryz.sizeOf37
 v31:=Tryz.zeroValue37
 t37:=Tryz.underlying22
 a37:=Tryz.isAgg22
 z37:=Tryz.sizeOf22
 v37:=Tryz.zeroValue22
 t70:=Tryz.underlying218
 a70:=Tryz.isAgg218
 z70:=Tryz.sizeOf218
 v70:=Tryz.zeroValue218
 t72:=Tryz.underlying220
 a72:=Tryz.isAgg220
 z72:=Tryz.sizeOf220
 v72:=Tryz.zeroValue220
 t75:=Tryz.underlying223
 a75:=Tryz.isAgg223
 z75:=Tryz.sizeOf223
 v75:=Tryz.zeroValue223
 t76:=Tryz.underlying224
 a76:=Tryz.isAgg224
 z76:=Tryz.sizeOf224
 v76:=Tryz.zeroValue224
 t127:=Tryz.underlying236
 a127:=Tryz.isAgg236
 z127:=Tryz.sizeOf236
 v127:=Tryz.zeroValue236
 t164:=Tryz.underlying238
 a164:=Tryz.isAgg238
 z164:=Tryz.sizeOf238
 v164:=Tryz.zeroValue238
end
def zN:Inode:={ ino:=0,kind:=0,links:=0,data:=[],ents:=[],attrs:=[] }
abbrev Rs (α:Type):=Except Int α
def exC {α:Type}:Rs α→Int
 | .ok _=>0
 | .error c=>c
def exI:Rs Inode→Inode
 | .ok x=>x
 | .error _=>zN
def cR (t:Tab) (s:aB):Rs Inode:=if (kP t s).2=0 then (match aP t (kP t s).1 with
 | some x=>.ok x
 | none=>.error 2) else .error (kP t s).2
def dD (t:Tab) (s:aB):Rs Inode:=match cR t (aG s).1 with
 | .ok D=>if D.kind=2 then .ok D else .error 3
 | .error c=>.error c
def wX (t:Tab) (s:aB) (from':Int):Rs Inode:=match dD t s with
 | .ok D=>if b3 D (aG s).2.1=0 then (if D.ents.length<10∨D.ino=from' then .ok D else .error 5) else .error 4
 | .error c=>.error c
def mY (s:aB):Bool:=(aA s).2
def pH (s:aB):Bool:=(aG s).2.2
def aO (s:aB):aB:=(aG s).2.1
def dC (t:Tab) (p q:aB):Tab × Int:=if gC t=true∧pH p=true∧pH q=true then (match cR t p with
 | .ok X=>if nM p q=true then (t,6) else (match wX t q (exI (dD t p)).ino with
  | .ok D=>(abZ t (exI (dD t p)) D (aO p) (aO q) X.ino,0)
  | .error c=>(t,c))
 | .error c=>(t,c)) else (t,1)
theorem aeF (l:List Inode) (x:Inode):(dI l x).length≤l.length+1:=by
 induction l with
 | nil=>simp [dI]
 | cons y l ih=>
  rw [dI]
  split
  ·simp
  ·split <;> simp
   omega
theorem aeG (f:Inode→Nat) (l:List Inode) (x:Inode):((dI l x).map f).sum≤(l.map f).sum+f x:=by
 induction l with
 | nil=>simp [dI]
 | cons y l ih=>
  rw [dI]
  split
  ·simp only [List.map_cons,List.sum_cons]; omega
  ·split <;> simp only [List.map_cons,List.sum_cons] <;> omega
theorem alX (t:Tab):t.sz=t.inodes.length+(t.inodes.map Inode.sz).sum:=rfl
theorem mZ (t:Tab) (x:Inode):(cC t x).sz≤t.sz+x.sz+1:=by
 rw [alX,alX]
 have:=aeF t.inodes x
 have:=aeG Inode.sz t.inodes x
 show (dI t.inodes x).length+((dI t.inodes x).map Inode.sz).sum≤_
 omega
theorem aeH {α:Type} (f:α→Nat) (p:α→Bool) (l:List α):((l.filter p).map f).sum≤(l.map f).sum:=by
 induction l with
 | nil=>simp
 | cons y l ih=>rw [List.filter_cons]; split <;> simp <;> omega
theorem j6 {t:Tab} {s:aB} {x:Inode} (h:cR t s=.ok x):kP t s=(x.ino,0)∧aP t x.ino=some x:=by
 unfold cR at h
 split at h
 ·rename_i e
  cases hx:aP t (kP t s).1 with
  | none=>rw [hx] at h; cases h
  | some y=>
   rw [hx] at h
   cases h
   have:=(bN hx).2
   rw [this]
   exact ⟨by rw [← e],hx⟩
 ·cases h
theorem nS {t:Tab} {s:aB} {x:Inode} (h:dD t s=.ok x):cR t (aG s).1=.ok x∧x.kind=2:=by
 unfold dD at h
 split at h
 ·split at h
  ·cases h; rename_i e k; exact ⟨e,k⟩
  ·cases h
 ·cases h
theorem ajP {t:Tab} {s:aB} {f:Int} {x:Inode} (h:wX t s f=.ok x):dD t s=.ok x∧b3 x (aO s)=0∧(x.ents.length<10∨x.ino=f):=by
 unfold wX at h
 split at h
 ·split at h
  ·split at h
   ·cases h; rename_i e k l; exact ⟨e,k,l⟩
   ·cases h
  ·cases h
 ·cases h
theorem sF {s:aB} (h:pH s=true):(aA s).2=true∧(aA s).1≠[]:=(zS s).1 h
theorem qC {s:aB} (h:pH s=true):(aA s).1=(aA (aG s).1).1++[aO s]∧(aA (aG s).1).2=true∧aY (aO s)=true:=by
 obtain ⟨h1,h2⟩:=sF h
 obtain ⟨e1,e2⟩:=agK h1 h2
 have e3:(aG s).1=bK (aA s).1.dropLast:=by rw [e1]
 have e4:aO s=(aA s).1.getLastD []:=by rw [aO,e1]
 rw [e3,e2,e4]
 have e5:(aA s).1.getLastD []=(aA s).1.getLast h2:=by rw [List.getLastD_eq_getLast?,List.getLast?_eq_some_getLast h2]; rfl
 refine ⟨by rw [e5,List.dropLast_concat_getLast],rfl,?_⟩
 rw [e5]
 exact (hU (kO h1).1).2 _ (List.getLast_mem h2)
theorem adi {t:Tab} {s:aB} (h:(aA s).2=true) {i:Int}:kP t s=(i,0)↔c7 (aP t) (aA s).1 1=some i:=by
 rw [kP,if_pos h]; exact akS t _ 1 i
theorem aag {t:Tab} {s:aB} (h:(kP t s).2=0):(aA s).2=true:=by
 unfold kP at h
 split at h
 ·assumption
 ·cases h
theorem sG {t:Tab} {s:aB} {x:Inode} (h:cR t s=.ok x):(aA s).2=true∧c7 (aP t) (aA s).1 1=some x.ino:=by
 have h1:=(j6 h).1
 have h2:=aag (by rw [h1])
 exact ⟨h2,(adi h2).1 h1⟩
theorem aah {t:Tab} {s:aB} {D:Inode} (h:dD t s=.ok D):Spot t D (aA (aG s).1).1:=by
 obtain ⟨h1,h2⟩:=nS h
 exact ⟨(bN (j6 h1).2).1,h2,(sG h1).2⟩
theorem ag7 {t:Tab} (ht:TreeOk t) {s:aB} (hs:pH s=true) {X:Inode} (h:cR t s=.ok X):∃ D,dD t s=.ok D∧b3 D (aO s)=X.ino∧∃ e ∈ D.ents,e.name=aO s∧e.ino=X.ino:=by
 obtain ⟨h1,h2⟩:=sG h
 obtain ⟨e1,e2,e3⟩:=qC hs
 rw [e1,oZ] at h2
 cases hw:c7 (aP t) (aA (aG s).1).1 1 with
 | none=>rw [hw] at h2; cases h2
 | some j=>
  rw [hw] at h2
  obtain ⟨D,d1,d2,d3,d4⟩:=(zU _ _ _ _).1 h2
  obtain ⟨_,d5⟩:=bN d1
  have hst:cR t (aG s).1=.ok D:=by
   rw [cR,(adi e2).2 hw,if_pos rfl,d1]
  refine ⟨D,by rw [dD,hst]; simp only [d2,if_pos],d3,?_⟩
  obtain ⟨e,he,f1,f2⟩:=agM (x:=D) (n:=aO s) (by rw [d3]; exact d4)
  exact ⟨e,he,f1,by rw [f2,d3]⟩
section
variable {t:Tab}
theorem wY {s:aB} {X:Inode} (h:cR t s=.ok X):X ∈ t.inodes∧aP t X.ino=some X:=⟨(bN (j6 h).2).1,(j6 h).2⟩
theorem wZ {s:aB} {D:Inode} (h:dD t s=.ok D):D ∈ t.inodes:=(wY (nS h).1).1
theorem ag8 {p q:aB} (hp:mY p=true) (hq:mY q=true):nM p q=true↔(aA p).1 <+: (aA q).1:=by
 unfold mY at *
 rw [nM,hp,hq]; simp
theorem akY (ht:TreeOk t) {p q:aB} {X D2:Inode} (hp:pH p=true) (hq:pH q=true) (h1:cR t p=.ok X) (hb:nM p q=false) (h2:wX t q (exI (dD t p)).ino=.ok D2) :
  ∃ D1 e,dD t p=.ok D1∧Spot t D1 (aA (aG p).1).1∧e ∈ D1.ents∧e.name=aO p∧e.ino=X.ino∧Spot t D2 (aA (aG q).1).1∧aY (aO q)=true∧b3 D2 (aO q)=0 ∧
   (D2.ents.length<10∨D1.ino=D2.ino)∧¬ ((aA (aG p).1).1++[e.name]) <+: ((aA (aG q).1).1++[aO q]):=by
 obtain ⟨D1,d1,d2,⟨e,he,d3,d4⟩⟩:=ag7 ht hp h1
 obtain ⟨n1,n2,n3⟩:=ajP h2
 rw [d1] at n3
 refine ⟨D1,e,d1,aah d1,he,d3,d4,aah n1,(qC hq).2.2,n2,?_,?_⟩
 ·rcases n3 with n | n
  ·exact .inl n
  ·exact .inr n.symm
 ·rw [d3,← (qC hp).1,← (qC hq).1,← ag8 (sF hp).1 (sF hq).1,hb]
  simp
end
theorem sH {s:aB} {m:Nat} (h:m<s.length) (h1:s[m]=47) (h2:∀ k,k<m→(hk:k<s.length)→s[k]≠47):aV s=s.take m::aV (s.drop (m+1)):=by
 have e:s=s.take m++47::s.drop (m+1):=by
  rw [← h1,← List.drop_eq_getElem_cons h,List.take_append_drop]
 have h3:∀ c ∈ s.take m,c≠47:=by
  intro c hc
  obtain ⟨k,hk,rfl⟩:=List.getElem_of_mem hc
  rw [List.getElem_take]
  exact h2 k (by simp at hk; omega) _
 have:=rZ (s.take m) (s.drop (m+1)) h3
 rwa [← e] at this
theorem sI {s:aB} (h:∀ k,(hk:k<s.length)→s[k]≠47):aV s=[s]:=r6 s fun c hc=>by
 obtain ⟨k,hk,rfl⟩:=List.getElem_of_mem hc
 exact h k hk
theorem j7 (s:aB):(aV s).length=s.count 47+1:=by
 induction s with
 | nil=>rfl
 | cons c s ih=>
  by_cases hc:c=47
  ·rw [aV,if_pos hc,List.length_cons,ih,hc,List.count_cons_self]
  ·obtain ⟨a,t,e1,e2⟩:=iO c s hc
   rw [e2,List.count_cons_of_ne hc,← ih,e1]; rfl
theorem ag9 {s:aB} {m:Nat} (h:m<s.length) (h1:s[m]=47) (h2:∀ k,k<m→(hk:k<s.length)→s[k]≠47):s.count 47=(s.drop (m+1)).count 47+1:=by
 have:=j7 s
 rw [sH h h1 h2,List.length_cons,j7] at this
 omega
theorem nT {s:aB} (h:s.head?≠some 47):aA s=([],false):=by
 have hs:s≠[47]:=fun e=>h (by rw [e]; rfl)
 rw [aA,if_neg hs]
 cases s with
 | nil=>rfl
 | cons c s=>
  have hc:c≠47:=fun e=>h (by rw [e]; rfl)
  obtain ⟨a,t,e1,e2⟩:=iO c s hc
  rw [e2]; rfl
theorem aai {s:aB} {l:List aB} (h:aV s=[]::l) (hb:bH l=false) (hs:s≠[47]):aA s=([],false):=by
 rw [aA,if_neg hs,h]
 cases l with
 | nil=>rfl
 | cons n l=>simp only [sZ,hb]; rfl
theorem uQ {s:aB} {l:List aB} (h:aV s=[]::l) (hl:l≠[]) (hb:bH l=true) (hs:s≠[47]):aA s=(l,true):=by
 rw [aA,if_neg hs,h]
 cases l with
 | nil=>exact absurd rfl hl
 | cons n l=>simp only [sZ,hb]; rfl
theorem aaj {l:List aB} {n:aB} (h:n ∈ l) (hn:aY n=false):bH l=false:=by
 have:l.all aY=false:=by rw [List.all_eq_false]; exact ⟨n,h,by simp [hn]⟩
 simp [bH,this]
theorem uR {l:List aB} (h:30<l.length):bH l=false:=by rw [bH,decide_eq_false (by omega),Bool.false_and]
structure Cut (s:aB) (i j:Nat) (out:List aB):Prop where
 le:j≤i
 end':i≤s.length+1
 no:∀ k,j≤k→k<i→(h:k<s.length)→s[k]≠47
 len:out.length≤30
 ok:∀ n ∈ out,aY n=true
 z:i=0→out=[]
 cut:s.head?=some 47→(i=0∧j=0∧out=[])∨(0<i∧aV s=[]::(out++if i≤s.length then aV (s.drop j) else []))
theorem Cut.zero (s:aB):Cut s 0 0 []:=⟨Nat.le_refl _,Nat.zero_le _,fun _ _ h=>absurd h (Nat.not_lt_zero _),Nat.zero_le _,by simp,fun _=>rfl,fun _=>.inl ⟨rfl,rfl,rfl⟩⟩
theorem Cut.skip {s:aB} {i j:Nat} {out:List aB} (h:Cut s i j out) (hi:i<s.length) (hc:s[i]≠47):Cut s (i+1) j out:=by
 obtain ⟨a1,a2,a3,a4,a5,_,a6⟩:=h
 refine ⟨by omega,by omega,fun k h1 h2 h3=>?_,a4,a5,fun h=>absurd h (Nat.succ_ne_zero _),fun h0=>?_⟩
 ·by_cases e:k=i
  ·subst e; exact hc
  ·exact a3 k h1 (by omega) h3
 ·rcases a6 h0 with ⟨e1,e2,e3⟩ | ⟨e1,e2⟩
  ·subst e1
   exfalso
   rw [List.head?_eq_getElem?,List.getElem?_eq_getElem hi] at h0
   exact hc (Option.some.inj h0)
  ·refine .inr ⟨by omega,?_⟩
   rw [if_pos (by omega)] at e2
   rw [if_pos (by omega)]
   exact e2
theorem Cut.first {s:aB} (h:s.length=0∨∃ h:0<s.length,s[0]=47):Cut s 1 1 []:=by
 refine ⟨Nat.le_refl _,by omega,fun k h1 h2=>by omega,Nat.zero_le _,by simp,fun h=>rfl,fun h0=>.inr ⟨by omega,?_⟩⟩
 cases s with
 | nil=>cases h0
 | cons c s=>
  injection h0 with h0
  subst h0
  rw [aV,if_pos rfl,if_pos (by simp)]
  rfl
theorem Cut.name {s:aB} {i j:Nat} {out:List aB} (h:Cut s i j out) (h0:0<i) (hi:i≤s.length) (hc:i=s.length∨∃ h:i<s.length,s[i]=47) (hh:s.head?=some 47) :
  aV s=[]::(out++(s.drop j).take (i-j)::if i+1≤s.length then aV (s.drop (i+1)) else []):=by
 obtain ⟨a1,a2,a3,a4,a5,_,a6⟩:=h
 rcases a6 hh with ⟨e1,_⟩ | ⟨_,e2⟩
 ·omega
 ·rw [if_pos hi] at e2
  rw [e2]
  congr 2
  have no:∀ k,k<i-j→(hk:k<(s.drop j).length)→(s.drop j)[k]≠47:=fun k h1 h2=>by
   rw [List.getElem_drop]
   exact a3 _ (by omega) (by omega) _
  rcases hc with rfl | ⟨hc,hx⟩
  ·rw [if_neg (by omega),sI (fun k hk=>no k (by simpa using hk) hk),List.take_of_length_le (by simp)]
  ·rw [if_pos (by omega),sH (m:=i-j) (by simp; omega) (by rw [List.getElem_drop]; simpa [show j+(i-j)=i by omega] using hx) no,List.drop_drop,show j+(i-j+1)=i+1 by omega]
theorem Cut.next {s:aB} {i j:Nat} {out:List aB} (h:Cut s i j out) (h0:0<i) (hi:i≤s.length) (hc:i=s.length∨∃ h:i<s.length,s[i]=47) (hn:aY ((s.drop j).take (i-j))=true) (hl:out.length<30) :
  Cut s (i+1) (i+1) (out++[(s.drop j).take (i-j)]):=by
 refine ⟨Nat.le_refl _,by omega,fun k h1 h2=>by omega,by simp; omega,fun n hm=>?_,fun h=>absurd h (Nat.succ_ne_zero _),fun hh=>.inr ⟨by omega,?_⟩⟩
 ·rcases List.mem_append.1 hm with hm | hm
  ·exact h.ok n hm
  ·simp at hm; subst hm; exact hn
 ·rw [h.name h0 hi hc hh,List.append_assoc]; rfl
theorem Cut.bad {s:aB} {i j:Nat} {out:List aB} (h:Cut s i j out) (h0:0<i) (hi:i≤s.length) (hc:i=s.length∨∃ h:i<s.length,s[i]=47) (hn:aY ((s.drop j).take (i-j))=false∨out.length=30) (hs:s≠[47]) :
  aA s=([],false):=by
 by_cases hh:s.head?=some 47
 ·refine aai (h.name h0 hi hc hh) ?_ hs
  rcases hn with hn | hn
  ·exact aaj (by simp) hn
  ·exact uR (by simp; omega)
 ·exact nT hh
theorem Cut.done {s:aB} {j:Nat} {out:List aB} (h:Cut s (s.length+1) j out) (hh:s.head?=some 47) (hs:s≠[47]):aA s=(out,true):=by
 obtain ⟨a1,a2,a3,a4,a5,_,a6⟩:=h
 rcases a6 hh with ⟨e1,_⟩ | ⟨_,e2⟩
 ·omega
 ·rw [if_neg (by omega),List.append_nil] at e2
  refine uQ e2 (fun e=>?_) (kN a4 a5) hs
  rw [e] at e2
  cases s with
  | nil=>cases hh
  | cons c s=>
   injection hh with hh
   subst hh
   rw [aV,if_pos rfl] at e2
   injection e2 with _ e2
   exact mP _ e2
theorem aeI (n:aB) (l:List aB):dN (n::l)=47::(n++dN l):=by simp [dN]
theorem aeJ (l:List aB) (n:aB):dN (l++[n])=dN l++47::n:=by simp [dN]
theorem sJ {l:List aB} (h:bH l=true):(dN l).length≤450:=by
 obtain ⟨h1,h2⟩:=hU h
 have:=aeA (fun n:aB=>n.length+1) l 15 fun n hn=>by have:=(wP (h2 n hn)).2; omega
 have e:(dN l).length=(l.map fun n:aB=>n.length+1).sum:=by rw [dN,List.length_flatMap]; rfl
 rw [e]
 have:l.length*15≤30*15:=Nat.mul_le_mul_right _ h1
 omega
section
open Go.Proofs Go.RowKit
open Nat (reduceEqDiff reduceAdd reduceMul reduceSub)
open Int (reduceNeg reduceToNat reducePow)
def eH (s:aB):List TV:=[.str s]
theorem aak {P:Program} {f:Nat} {a b:aB} {r:Int} (hE:kZ P f) (run:∀ w,Calls P f #[bR a,bR b] w fun e w'=>e=.returned (.int .i64 r)∧w'=w):aT P f [.str a,.str b] (.int .i64 r) [.undef,.undef]:=by
 refine ⟨hE,rfl,?_⟩
 intro w vs F X h h1 h2 h3
 cases h with
 | str _ _ _ vs _ h=>
  cases h with
  | str _ _ _ vs _ h=>
   cases h with
   | nil _ _ hF hX=>
    refine (run w).mono ?_
    rintro e w' ⟨rfl,rfl⟩
    exact ⟨_,F,X,rfl,.int _ _ _ _ _ _ (.undef _ _ _ _ _ (.undef _ _ _ _ _ (.nil _ _ hF hX))),h1,h2,⟨Nat.le_refl _,.refl _⟩,fun b _ _=>rfl,fun b hb=>.inl hb,fun b hb=>⟨.inl hb,h3 b hb⟩⟩
theorem ai7 (s:aB):aT Tryz.prog 230 [.str s,.str [47]] (.int .i64 (Lib.indexByte s 47)) [.undef,.undef]:=
 aak ⟨_,Tryz.func230,by kernel_rfl,by kernel_rfl⟩ fun w=>Any.strings_Index_one aae ⟨s.toArray⟩ 47 w
theorem ai8 (s:aB):aT Tryz.prog 229 [.str s,.str [47]] (.int .i64 (s.count 47:Nat)) [.undef,.undef]:=
 aak ⟨_,Tryz.func229,by kernel_rfl,by kernel_rfl⟩ fun w=>Any.strings_Count_one aaf ⟨s.toArray⟩ 47 w
theorem amn (s:aB):(Lib.indexByte s 47=-1∧∀ k,(h:k<s.length)→s[k]≠47)∨∃ m,∃ h:m<s.length,Lib.indexByte s 47=(m:Nat)∧s[m]=47∧∀ k,k<m→(h:k<s.length)→s[k]≠47:=by
 induction s with
 | nil=>exact .inl ⟨rfl,fun k h=>by simp at h⟩
 | cons c s ih=>
  by_cases hc:c=47
  ·exact .inr ⟨0,by simp,by simp [Lib.indexByte,hc],by simpa using hc,fun k hk=>absurd hk (Nat.not_lt_zero _)⟩
  ·have hb:(c == 47)=false:=by simpa using hc
   rcases ih with ⟨h1,h2⟩ | ⟨m,h1,h2,h3,h4⟩
   ·refine .inl ⟨by simp [Lib.indexByte,hb,h1],fun k hk=>?_⟩
    cases k with
    | zero=>simpa using hc
    | succ k=>simpa using h2 k (by simpa using hk)
   ·refine .inr ⟨m+1,by simpa using h1,?_,by simpa using h3,fun k hk hl=>?_⟩
    ·have:((m:Int) == -1)=false:=by simp
     simp [Lib.indexByte,hb,h2,this]
    ·cases k with
     | zero=>simpa using hc
     | succ k=>simpa using h4 k (by omega) (by simpa using hl)
theorem aal:Builder.Extra Tryz.prog i4 where
 sizeBuilder:=by kernel_rfl
 liesBuilder:=by kernel_rfl
 t5:=Tryz.underlying5
 a5:=Tryz.isAgg5
 z5:=Tryz.sizeOf5
 v5:=Tryz.zeroValue5
 infoByte:=by kernel_rfl
 cellsByte:=by kernel_rfl
 sizeByte:=by kernel_rfl
 neB5:=by decide
theorem ai9 {w:World} {o:Bool} {F:aF}:∀ (l:List aB) {cs:List Value},Row w o F cs (l.map eH).flatten→cs=l.map bR∧∀ b,F b=0:=by
 intro l
 induction l generalizing F with
 | nil=>
  intro cs h
  cases h with
  | nil _ _ hF=>exact ⟨rfl,hF⟩
 | cons n l ih=>
  intro cs h
  have e:((n::l).map eH).flatten=.str n::(l.map eH).flatten:=by simp [eH]
  rw [e] at h
  cases h with
  | str _ _ _ vs _ h=>
   obtain ⟨e1,e2⟩:=ih h
   exact ⟨by rw [e1]; rfl,e2⟩
theorem alY (l:List aB) (hl:l.length<2^40) (hn:(Lib.join l [47]).length<2^47):aT Tryz.prog 225 [.ext 1 (l.map eH),.str [47]] (.str (Lib.join l [47])) [.undef,.undef]:=by
 refine ⟨⟨_,Tryz.func225,by kernel_rfl,by kernel_rfl⟩,rfl,?_⟩
 intro w vs F X h h1 h2 h3
 have fin:∀ {e:Ending} {w':World} (h0:∀ b,F b=0),e=.returned (.string ⟨(Lib.join l [47]).toArray⟩)→Below w.heap.size w w'→∃ v F' X',e=.returned v∧RepA w' lk0 F' X' (v::vs) [.str (Lib.join l [47]),.undef,.undef]∧(∀ b,F' b≤1)∧(∀ b,F' b=0∨X' b=0) ∧
   Grows w w'∧(∀ b,b<w.heap.size→F b=0→w'.heap[b]?=w.heap[b]?)∧(∀ b,F' b≠0→F b≠0∨w.heap.size≤b)∧(∀ b,X' b≠0→(X b≠0∨F b≠0∨w.heap.size≤b)∧b<w'.heap.size):=by
  intro e w' h0 he hb
  have hlen:=h.length
  match vs,hlen with
  | [v1,v2],_=>exact ⟨_,fun _=>0,fun _=>0,he,.str _ _ _ _ _ (.undef _ _ _ _ _ (.undef _ _ _ _ _ (.nil _ _ (fun _=>rfl) (fun _=>rfl)))),fun b=>Nat.zero_le _,fun b=>.inl rfl,⟨hb.size,⟨hb.os,hb.output⟩⟩,fun b hlt _=>hb.block b hlt,fun b hb=>absurd rfl hb,fun b hb=>absurd rfl hb⟩
 cases h with
 | ext _ _ X1 X2 _ _ v vs _ hr hn' hX=>
  cases hn' with
  | str _ _ _ vs _ h0=>
   cases h0 with
   | nil _ _ hF hX2=>
    by_cases he:l=[]
    ·subst he
     have hv:∃ a c,v=.slice a 0 c:=by
      cases hr with
      | ext0 _ _ a cap _ _ _=>exact ⟨a,cap,rfl⟩
      | ext _ _ _ _ _ a cap _ _ _ _ _ _ _ _ _ _=>exact ⟨some a,cap,rfl⟩
     obtain ⟨a,c,rfl⟩:=hv
     refine (Any.strings_Join_none o5 aal a c ⟨#[47]⟩ w).mono ?_
     rintro e w' ⟨he,rfl⟩
     exact fin hF he (Below.refl _ _)
    ·generalize hes:l.map eH=es at hr
     cases hr with
     | ext0 _ _ a cap _ _ _=>simp at hes; exact absurd hes he
     | ext _ F1 F2 _ _ a cap cs _ _ hle hs hcs hc g1 g2 hFF=>
      subst hes
      obtain ⟨e1,_⟩:=ai9 l g1
      have hcl:cs.length=l.length:=by rw [e1,List.length_map]
      have hpos:0<l.length:=List.length_pos_iff.2 he
      have hc0:=hc 0 (by omega)
      rw [show a.add 0=a from rfl,List.getElem?_eq_getElem (by omega)] at hc0
      have hsp:a.spot=none:=by
       unfold World.cell? at hc0
       split at hc0
       ·split at hc0
        ·cases hc0
        ·rename_i h; simpa using h
       ·cases hc0
      obtain ⟨ab,ao,asp⟩:=a
      simp only at hsp
      subst hsp
      have hbl:ab<w.heap.size:=World.block_lt_of_cell? _ _ hc0
      have hml:(l.map eH).length=l.length:=List.length_map _
      rw [hml] at hle
      have hxs:(l.map fun s=>(⟨s.toArray⟩:ByteArray)).map (fun x=>x.data.toList)=l:=by rw [List.map_map]; simp [Function.comp_def]
      have:=Any.strings_Join o5 aal ab ao cap (l.map fun s=>(⟨s.toArray⟩:ByteArray)) ⟨#[47]⟩ w (fun j x hx=>by
       rw [List.getElem?_map] at hx
       cases hj:l[j]? with
       | none=>rw [hj] at hx; cases hx
       | some s=>
        rw [hj] at hx
        have hjl:j<l.length:=(List.getElem?_eq_some_iff.1 hj).1
        have:=hc j (by omega)
        rw [e1,List.getElem?_map,hj] at this
        simp only [Option.map_some,Option.some.injEq] at hx
        subst hx
        rw [← Addr.add_lit]; exact this) hbl (by rw [List.length_map]; omega) (by rw [List.length_map]; exact hle) (by rw [hxs]; show (Lib.join l [47]).length≤_; omega)
      rw [hxs,List.length_map,← hml] at this
      refine this.mono ?_
      rintro e w' ⟨he,hb⟩
      exact fin hF he hb
end
end Go.Proofs.YtnfngemnghiehaaGreatDoor.Awp
