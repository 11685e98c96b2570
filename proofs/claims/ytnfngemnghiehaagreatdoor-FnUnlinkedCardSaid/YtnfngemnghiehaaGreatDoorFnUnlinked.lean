/- The law FnUnlinked (a path of a drawn tree that is unlinked is there no more; other paths of the same file are) holds for every argument: the given statement is proved. Condition: none. -/
import Derived.Test.YtnfngemnghiehaaGreatDoorBase2
import Derived.Test.YtnfngemnghiehaaGreatDoorAwp3
import Derived.Test.YtnfngemnghiehaaGreatDoorRows
import Derived.Test.YtnfngemnghiehaaGreatDoorCards
import Derived.Test.YtnfngemnghiehaaGreatDoorTie
import Derived.Shelf.Lays
import Derived.Sort.Walk0
import Derived.Shelf.Strings.Search3
import Derived.Shelf.Strings.Count
import Derived.Shelf.Strings.OnBuilder
import Derived.Shelf.Sort.Plain
import Derived.Shelf.Slices.In.SortNone
import Derived.Shelf.Spec.SlicesInsert
import Derived.Shelf.Spec.SlicesInsertGrow
import Derived.Deep.MidRow
import Derived.ArgAppend
import Derived.OpenShut
import Derived.SevenTiedAt
import Derived.KernelRfl
set_option linter.unusedVariables false
set_option linter.unusedSimpArgs false
set_option maxRecDepth 100000
set_option maxHeartbeats 20000000
open Nat (reduceEqDiff reduceAdd reduceMul reduceSub)
open Int (reduceNeg reduceToNat reducePow)
namespace Go.Proofs.YtnfngemnghiehaaGreatDoor.Awp
section
namespace W
end W
open I W
def kE:Cmd:=Q (R [e' 2 k0]) (Q (Q (R [a 18 0,c 19 12 [v 18]]) (F (v 19) (Q (R [e' 2 k1]) .ret) .skip)) (Q (R [a 21 0,c 22 21 [v 21],a 20 22,x 23 20 0,x 24 20 1,z 3 [.sl 6 [],.int .i64 0],s 3 23 2,e 4 24]) (Q (R [b 26 3 2,a 27 4,c 28 16 [v 26,v 27],a 25 28,x 29 25 0,x 30 25 1,z 5 [.sl 6 [],.int .i64 0],s 5 29 2,e 6 30]) (Q (R [b 32 3 2,a 33 4,c 34 22 [v 32,v 33],a 31 34,x 35 31 0,x 36 31 1,z 7 [.sl 6 [],.int .i64 0],s 7 35 2,e 8 36]) (Q (Q (R [a 37 6,a 38 8,g 39 .neq (v 37) (v 38),a 40 39,ha 40 false 41 6,h 40 false 42 (bin 42 .neq (v 41) (k 0)),p 43 40 k1 (v 42)]) (F (v 43) (Q (R [a 44 6,a 45 8,g 46 .eql (v 44) (v 45),a 47 46,hb 47 true 48 5 2,hb 47 true 49 3 2,hc 47 true 50 20 [v 48,v 49],p 51 47 (v 50) k0,e 2 51]) .ret) .skip)) (Q (R [b 53 5 2,a 54 4,c 55 23 [v 53,v 54],a 52 55,x 56 52 0,x 57 52 1,e 9 56,e 10 57]) (Q (R [b 58 3 2,c 59 24 [v 58],e 11 59]) (Q (R [b 60 5 2,c 61 24 [v 60],e 12 61]) (Q (Q (R [e' 13 (k 0)]) (.blk 0 (.loop (Q (Q (R [a 62 13,a 63 11,l 64 63,g 65 .lss (v 62) (v 64)]) (F (v 65) .skip (.exit 0))) (Q (.blk 1 (Q (D [0,0,0,6,14,31,63,127,255,255,1023] [b 69 3 2,a 70 11,a 71 13,i 72 70 71 1,b' 73 72 1,c 74 25 [v 69,v 73,k 0,k 1000],a 68 74,x 75 68 0,x 76 68 1,e 14 75,e 15 76]) (Q (D [0,0,0,6,14,31,63,127,255,255,1023] [b 78 5 2,a 79 11,a 80 13,i 81 79 80 1,b' 82 81 1,c 83 25 [v 78,v 82,k 0,k 1000],a 77 83,x 84 77 0,x 85 77 1,e 16 84,e 17 85]) (Q (R [a 86 11,a 87 13,i 88 86 87 1,b' 89 88 1,a 90 4,g 91 .neq (v 89) (v 90),a 92 91,ha 92 true 93 12,ha 92 true 94 11,ha 92 true 95 13,h 92 true 96 (idx 96 (v 94) (v 95) 1),h 92 true 97 (ld 97 (v 96) 1 false),hc 92 true 98 26 [v 93,v 97],h 92 true 99 (un 99 .not (v 98)),ha 92 true 100 99,ha 100 false 101 17,h 100 false 102 (bin 102 .neq (v 101) (k 3)),ha 100 false 103 102,ha 103 true 104 14,ha 103 true 105 16,hc 103 true 106 27 [v 104,v 105],h 103 true 107 (un 107 .not (v 106)),h 100 false 108 (pck 108 (v 103) (v 107) k0),h 92 true 109 (pck 109 (v 100) k1 (v 108)),p 110 92 (v 109) k0]) (F (v 110) (Q (R [e' 2 k0]) .ret) .skip))))) (R [a 66 13,g 67 .add (v 66) (k 1),e 13 67])))))) (Q (R [a 111 10,g 112 .eql (v 111) (k 2),a 113 112,ha 113 true 114 12,h 113 true 115 (len 115 (v 114)),ha 113 true 116 11,h 113 true 117 (len 117 (v 116)),h 113 true 118 (bin 118 .sub (v 117) (k 1)),h 113 true 119 (bin 119 .eql (v 115) (v 118)),p 120 113 (v 119) k0,a 121 120,hb 121 true 122 5 2,hc 121 true 123 28 [v 122],p 124 121 (v 123) k0,e 2 124]) .ret))))))))))
def kU:Cmd:=Q (R [n 2 (box 2 (v 0)),z 4 [.sl 6 [],.int .i64 0],e' 5 (k 0)]) (Q (R [b 10 2 2,c 11 61 [v 10],s 2 11 2]) (Q (Q (R [b 12 2 2,a 13 1,o 14 1 [v 13],c 15 62 [v 12,v 14],n 16 (un 16 .not (v 15)),a 17 16,ha 17 false 18 1,h 17 false 19 (bin 19 .eql (v 18) (.c (.str [47]))),p 20 17 k1 (v 19)]) (F (v 20) (Q (R [b 21 2 2,s 4 21 2,e' 5 (k 1)]) .ret) .skip)) (Q (R [b 23 2 2,a 24 1,c 25 63 [v 23,v 24],a 22 25,x 26 22 0,x 27 22 1,z 6 [.int .i64 0,.int .i64 0,.int .i64 0,.sl 1 [],.sl 2 [],.sl 2 []],s 6 26 6,e 7 27]) (Q (Q (R [a 28 7,g 29 .neq (v 28) (k 0)]) (F (v 29) (Q (R [b 30 2 2,a 31 7,s 4 30 2,e 5 31]) .ret) .skip)) (Q (R [b 33 2 2,a 34 1,c 35 64 [v 33,v 34],a 32 35,x 36 32 0,x 37 32 1,z 8 [.int .i64 0,.int .i64 0,.int .i64 0,.sl 1 [],.sl 2 [],.sl 2 [],.str []],s 8 36 7,e 9 37]) (Q (R [b 38 8 7,b 39 2 2,c 40 65 [v 38,v 39],s 2 40 2]) (Q (R [f 41 6 2,b' 42 41 1,g 43 .sub (v 42) (k 1),f 44 6 2,s 44 43 1]) (Q (Q (R [f 45 6 2,b' 46 45 1,g 47 .eql (v 46) (k 0)]) (F (v 47) (Q (R [b 48 2 2,f 49 6 0,b' 50 49 1,c 51 66 [v 48,v 50],s 4 51 2,e' 5 (k 0)]) .ret) .skip)) (Q (R [b 52 2 2,b 53 6 6,c 54 67 [v 52,v 53],s 4 54 2,e' 5 (k 0)]) .ret)))))))))
def aoY:Cmd:=Q (R [z 2 [.sl 6 [],.int .i64 0],e' 3 (.c (.str []))]) (Q (R [a 6 0,c 7 56 [v 6],e 4 7]) (Q (R [a 8 4,c 9 74 [v 8],z 5 [.sl 6 [],.int .i64 0],s 5 9 2]) (Q (D [0,0,0,6,15,31] [b 10 5 2,a 11 4,b 12 5 2,c 13 58 [v 11,v 12],s 2 10 2,e 3 13]) .ret)))
def ao1:Cmd:=Q (R [n 1 (box 1 (v 0)),e' 2 (.c (.own 1 []))]) (Q (Q (R [b 6 1 2,c 7 28 [v 6],n 8 (un 8 .not (v 7))]) (F (v 8) (Q (R [e' 2 (.c (.own 1 []))]) .ret) .skip)) (Q (R [b 10 1 2,c 11 70 [v 10,k 1],a 9 11,x 12 9 0,x 13 9 1,z 3 [.int .i64 0,.int .i64 0,.int .i64 0,.sl 1 [],.sl 2 [],.sl 2 []],s 3 12 6,e 4 13]) (Q (R [b 14 1 2,b 15 3 6,c 16 82 [v 14,v 15,.c (.str [])],e 5 16]) (Q (R [a 17 5,c 18 83 [v 17]]) (Q (R [a 19 5,e 2 19]) .ret)))))
def i0:Cmd:=Q (R [n 4 (box 4 (v 0)),e' 8 (.c (.own 1 [])),e' 9 (k 0)]) (Q (Q (R [a 13 2,g 14 .lss (v 13) (k 0),a 15 14,ha 15 false 16 3,h 15 false 17 (bin 17 .lss (v 16) (k 0)),p 18 15 k1 (v 17)]) (F (v 18) (Q (R [e' 8 (.c (.own 1 [])),e' 9 (k 1)]) .ret) .skip)) (Q (R [b 20 4 2,a 21 1,c 22 68 [v 20,v 21],a 19 22,x 23 19 0,x 24 19 1,z 10 [.int .i64 0,.int .i64 0,.int .i64 0,.sl 1 [],.sl 2 [],.sl 2 []],s 10 23 6,e 11 24]) (Q (Q (R [a 25 11,g 26 .neq (v 25) (k 0)]) (F (v 26) (Q (R [a 27 11,e' 8 (.c (.own 1 [])),e 9 27]) .ret) .skip)) (Q (Q (R [f 28 10 1,b' 29 28 1,g 30 .neq (v 29) (k 1)]) (F (v 30) (Q (R [e' 8 (.c (.own 1 [])),e' 9 (k 3)]) .ret) .skip)) (Q (R [f 31 10 3,b' 32 31 1,a 33 2,f 34 10 3,b' 35 34 1,l 36 35,n 37 (mn 37 (v 33) (v 36)),n 38 (slc 38 (v 32) (some (v 37)) none 1),e 12 38]) (Q (R [a 39 12,a 40 3,a 41 12,l 42 41,n 43 (mn 43 (v 40) (v 42)),n 44 (slc 44 (v 39) none (some (v 43)) 1),c 45 84 [v 44],e 8 45,e' 9 (k 0)]) .ret))))))
def apg:Cmd:=Q (R [e' 4 k0]) (Q (Q (R [e' 5 (k 0)]) (.blk 0 (.loop (Q (Q (R [a 6 5,a 7 0,l 8 7,g 9 .lss (v 6) (v 8)]) (F (v 9) .skip (.exit 0))) (Q (.blk 1 (Q (R [a 12 0,a 13 5,i 14 12 13 1,b' 15 14 1,a 16 1,g 17 .eql (v 15) (v 16)]) (F (v 17) (Q (R [e' 4 k1]) .ret) .skip))) (R [a 10 5,g 11 .add (v 10) (k 1),e 5 11])))))) (Q (R [e' 4 k0]) .ret))
def ao3:Cmd:=Q (R [e' 4 k0]) (Q (Q (R [a 6 0,l 7 6,a 8 1,l 9 8,g 10 .neq (v 7) (v 9)]) (F (v 10) (Q (R [e' 4 k0]) .ret) .skip)) (Q (Q (R [e' 5 (k 0)]) (.blk 0 (.loop (Q (Q (R [a 11 5,a 12 0,l 13 12,g 14 .lss (v 11) (v 13)]) (F (v 14) .skip (.exit 0))) (Q (.blk 1 (Q (D [0,0,3,7,0,0,48,112,255] [a 17 0,a 18 5,i 19 17 18 1,b' 20 19 1,a 21 1,a 22 5,i 23 21 22 1,b' 24 23 1,g 25 .neq (v 20) (v 24)]) (F (v 25) (Q (R [e' 4 k0]) .ret) .skip))) (R [a 15 5,g 16 .add (v 15) (k 1),e 5 16])))))) (Q (R [e' 4 k1]) .ret)))
def aoX:Cmd:=Q (R [n 2 (box 2 (v 0)),z 4 [.int .i64 0,.int .i64 0,.int .i64 0,.sl 1 [],.sl 2 [],.sl 2 []],e' 5 (k 0)]) (Q (R [b 9 2 2,a 10 1,c 11 68 [v 9,v 10],a 8 11,x 12 8 0,x 13 8 1,z 6 [.int .i64 0,.int .i64 0,.int .i64 0,.sl 1 [],.sl 2 [],.sl 2 []],s 6 12 6,e 7 13]) (Q (Q (R [a 14 7,g 15 .eql (v 14) (k 0),a 16 15,h 16 true 17 (fld 17 (v 6) 1),h 16 true 18 (ld 18 (v 17) 1 false),h 16 true 19 (bin 19 .neq (v 18) (k 1)),p 20 16 (v 19) k0]) (F (v 20) (R [e' 7 (k 3)]) .skip)) (Q (R [b 21 6 6,a 22 7,s 4 21 6,e 5 22]) .ret)))
def aoZ:Cmd:=Q (R [n 2 (box 2 (v 0)),n 3 (box 3 (v 1)),z 4 [.sl 6 [],.int .i64 0]]) (Q (R [f 5 2 0,f 6 5 4,b' 7 6 1,c 8 125 [v 7],n 9 (mkf 9 126 [v 2]),c 10 124 [v 8,v 9],f 11 2 0,f 12 11 4,s 12 10 1]) (Q (R [b 13 3 2,f 14 2 0,b 15 14 6,c 16 67 [v 13,v 15],s 4 16 2]) .ret))
def ao4:Cmd:=Q (R [n 2 (box 2 (v 0)),n 3 (box 3 (v 1)),z 4 [.sl 6 [],.int .i64 0]]) (Q (R [b 5 2 2,c 6 61 [v 5],s 2 6 2]) (Q (R [f 7 2 0,b' 8 7 1,n 9 (mkf 9 128 [v 3]),c 10 127 [v 8,v 9],f 11 2 0,s 11 10 1]) (Q (R [b 12 2 2,s 4 12 2]) .ret)))
def ao5:Cmd:=Q (R [z 2 [.sl 6 [],.int .i64 0]]) (Q (Q (R [a 3 0,c 4 101 [v 3,k 16]]) (.blk 0 (Q (R [g 6 .eql (v 4) (k 0),e 5 6]) (F (v 5) (Q (R [a 7 0,c 8 100 [v 7],s 2 8 2]) .ret) (Q (R [g 10 .eql (v 4) (k 1),e 9 10]) (F (v 9) (Q (R [a 11 0,c 12 138 [v 11],s 2 12 2]) .ret) .skip)))))) (Q (R [a 13 0,c 14 57 [v 13,k 10],s 2 14 2]) .ret))
def ao0:Cmd:=Q (R [n 3 (box 3 (v 0)),n 4 (box 4 (v 1)),e' 6 (.c (.own 1 []))]) (Q (R [o 13 1 [],e 7 13]) (Q (Q (R [f 14 4 4,b' 15 14 1,l 16 15,n 17 (mov 17 (k 0))]) (.blk 0 (.loop (Q (R [g 18 .lss (v 17) (v 16)]) (Q (F (v 18) .skip (.exit 0)) (Q (.blk 1 (Q (R [i 19 15 17 2,b 20 19 2,z 9 [.str [],.int .i64 0],s 9 20 2]) (Q (R [a 21 2,g 22 .add (v 21) (.c (.str [47])),f 23 9 0,b' 24 23 1,g 25 .add (v 22) (v 24),e 10 25]) (Q (R [a 26 7,a 27 10,o 28 1 [v 27],n 29 (app 29 (v 26) (v 28) 1 16),e 7 29]) (Q (R [b 31 3 2,f 32 9 1,b' 33 32 1,c 34 70 [v 31,v 33],a 30 34,x 35 30 0,x 36 30 1,z 11 [.int .i64 0,.int .i64 0,.int .i64 0,.sl 1 [],.sl 2 [],.sl 2 []],s 11 35 6,e 12 36]) (R [a 37 7,b 38 3 2,b 39 11 6,a 40 10,c 41 82 [v 38,v 39,v 40],n 42 (app 42 (v 37) (v 41) 1 16),e 7 42])))))) (R [g 43 .add (v 17) (k 1),a 17 43]))))))) (Q (R [a 44 7,e 6 44]) .ret)))
def r7:Cmd:=Q (R [z 2 [.sl 6 [],.int .i64 0]]) (Q (R [a 4 0,c 5 57 [v 4,k 8],z 3 [.sl 6 [],.int .i64 0],s 3 5 2]) (Q (Q (R [a 6 0,c 7 101 [v 6,k 12]]) (.blk 0 (Q (R [g 9 .eql (v 7) (k 0),e 8 9]) (F (v 8) (R [a 10 0,o 11 1 [k 1,k 2,k 1000,k 1001],c 12 153 [v 10,v 11],f 13 3 1,s 13 12 1]) (Q (R [g 15 .eql (v 7) (k 1),e 14 15]) (F (v 14) (D [0,1,0,4,12,31,63,127] [f 16 3 0,b' 17 16 1,a 18 0,c 19 154 [v 18],o 20 6 [v 19],n 21 (app 21 (v 17) (v 20) 6 96),f 22 3 0,s 22 21 1]) (Q (R [g 24 .eql (v 7) (k 2),e 23 24]) (F (v 23) (D [0,1,0,0,8,24,60,0,252,511,1023] [f 25 3 0,b' 26 25 1,a 27 0,f 28 3 0,b' 29 28 1,l 30 29,c 31 101 [v 27,v 30],a 32 0,c 33 154 [v 32],i 34 26 31 6,s 34 33 6]) (Q (R [g 36 .eql (v 7) (k 3),e 35 36]) (F (v 35) (D [0,1,0,0,8,24,56,124,255,511,1023] [f 37 3 0,b' 38 37 1,a 39 0,f 40 3 0,b' 41 40 1,l 42 41,g 43 .add (v 42) (k 1),c 44 101 [v 39,v 43],n 45 (slc 45 (v 38) none (some (v 44)) 6),f 46 3 0,s 46 45 1]) .skip)))))))))) (Q (R [b 47 3 2,s 2 47 2]) .ret)))
def kC:Cmd:=Q (R [e' 4 (.c (.own 2 []))]) (Q (R [a 8 0,a 9 1,c 10 132 [v 8,v 9],e 5 10]) (Q (Q (R [a 11 5,g 12 .eql (v 11) (k (-1))]) (F (v 12) (Q (R [a 13 0,e 4 13]) .ret) .skip)) (Q (Q (R [a 14 5,g 15 .add (v 14) (k 1),e 6 15]) (.blk 0 (.loop (Q (Q (R [a 16 6,a 17 0,l 18 17,g 19 .lss (v 16) (v 18)]) (F (v 19) .skip (.exit 0))) (Q (.blk 1 (Q (R [a 22 0,a 23 6,i 24 22 23 2,b 25 24 2,z 7 [.str [],.int .i64 0],s 7 25 2]) (Q (R [a 26 1,b 27 7 2,n 28 (callv (some 28) (v 26) [v 27]),n 29 (un 29 .not (v 28))]) (F (v 29) (Q (R [a 30 0,a 31 5,b 32 7 2,i 33 30 31 2,s 33 32 2]) (R [a 34 5,g 35 .add (v 34) (k 1),e 5 35])) .skip)))) (R [a 20 6,g 21 .add (v 20) (k 1),e 6 21])))))) (Q (R [a 36 0,a 37 5,n 38 (slc 38 (v 36) (some (v 37)) none 2),m (.clr (v 38) 2 [.str [],.int .i64 0])]) (Q (R [a 39 0,a 40 5,n 41 (slc 41 (v 39) none (some (v 40)) 2),e 4 41]) .ret)))))
def tA:Cmd:=Q (R [n 2 (box 2 (v 0)),e' 3 k0]) (Q (R [f 4 2 0,b' 5 4 1,f 6 1 6,b' 7 6 1,g 8 .eql (v 5) (v 7),e 3 8]) .ret)
def iE:Cmd:=Q (R [e' 4 (.c (.own 6 []))]) (Q (R [a 8 0,a 9 1,c 10 129 [v 8,v 9],e 5 10]) (Q (Q (R [a 11 5,g 12 .eql (v 11) (k (-1))]) (F (v 12) (Q (R [a 13 0,e 4 13]) .ret) .skip)) (Q (Q (R [a 14 5,g 15 .add (v 14) (k 1),e 6 15]) (.blk 0 (.loop (Q (Q (R [a 16 6,a 17 0,l 18 17,g 19 .lss (v 16) (v 18)]) (F (v 19) .skip (.exit 0))) (Q (.blk 1 (Q (R [a 22 0,a 23 6,i 24 22 23 6,b 25 24 6,z 7 [.int .i64 0,.int .i64 0,.int .i64 0,.sl 1 [],.sl 2 [],.sl 2 []],s 7 25 6]) (Q (R [a 26 1,b 27 7 6,n 28 (callv (some 28) (v 26) [v 27]),n 29 (un 29 .not (v 28))]) (F (v 29) (Q (R [a 30 0,a 31 5,b 32 7 6,i 33 30 31 6,s 33 32 6]) (R [a 34 5,g 35 .add (v 34) (k 1),e 5 35])) .skip)))) (R [a 20 6,g 21 .add (v 20) (k 1),e 6 21])))))) (Q (R [a 36 0,a 37 5,n 38 (slc 38 (v 36) (some (v 37)) none 6),m (.clr (v 38) 6 [.int .i64 0,.int .i64 0,.int .i64 0,.sl 1 [],.sl 2 [],.sl 2 []])]) (Q (R [a 39 0,a 40 5,n 41 (slc 41 (v 39) none (some (v 40)) 6),e 4 41]) .ret)))))
def aoV:Cmd:=Q (R [n 2 (box 2 (v 0)),e' 3 k0]) (Q (R [f 4 2 0,b' 5 4 1,b' 6 1 1,g 7 .eql (v 5) (v 6),e 3 7]) .ret)
def apM:Cmd:=Q (R [z 2 [.sl 6 [],.int .i64 0]]) (Q (R [c 7 118 [],z 3 [.sl 6 [],.int .i64 0],s 3 7 2]) (Q (Q (R [e' 4 (k 0)]) (.blk 0 (.loop (Q (Q (R [a 8 4,g 9 .lss (v 8) (k 4)]) (F (v 9) .skip (.exit 0))) (Q (.blk 1 (Q (R [a 12 4,g 13 .add (k 97) (v 12),n 14 (conv 14 .u8 (v 13)),o 15 1 [v 14],n 16 (b2s 16 (v 15)),g 17 .add (.c (.str [47])) (v 16),e 5 17]) (Q (R [b 19 3 2,a 20 5,c 21 37 [v 19,v 20],a 18 21,x 22 18 0,x 23 18 1,s 3 22 2]) (Q (R [e' 6 (k 0)]) (.blk 2 (.loop (Q (Q (R [a 24 6,g 25 .lss (v 24) (k 7)]) (F (v 25) .skip (.exit 2))) (Q (.blk 3 (R [b 29 3 2,a 30 5,g 31 .add (v 30) (.c (.str [47])),a 32 6,g 33 .add (k 97) (v 32),n 34 (conv 34 .u8 (v 33)),o 35 1 [v 34],n 36 (b2s 36 (v 35)),g 37 .add (v 31) (v 36),c 38 33 [v 29,v 37],a 28 38,x 39 28 0,x 40 28 1,s 3 39 2])) (R [a 26 6,g 27 .add (v 26) (k 1),e 6 27]))))))))) (R [a 10 4,g 11 .add (v 10) (k 1),e 4 11])))))) (Q (Q (R [a 41 0,c 42 96 [v 41,k 2]]) (F (v 42) (R [b 44 3 2,c 45 22 [v 44,.c (.str [47,97,47,97])],a 43 45,x 46 43 0,x 47 43 1,s 3 46 2]) .skip)) (Q (Q (R [a 48 0,c 49 96 [v 48,k 4]]) (F (v 49) (R [f 50 3 1,m (st (v 50) (k 1000) 1)]) .skip)) (Q (R [b 51 3 2,s 2 51 2]) .ret)))))
def kG:Cmd:=Q (R [z 2 [.int .i64 0,.int .i64 0,.int .i64 0,.sl 1 [],.sl 2 [],.sl 2 []]]) (Q (R [a 4 0,c 5 199 [v 4],z 3 [.int .i64 0,.int .i64 0,.int .i64 0,.sl 1 [],.sl 2 [],.sl 2 []],s 3 5 6]) (Q (Q (R [a 6 0,c 7 101 [v 6,k 14]]) (.blk 0 (Q (R [g 9 .eql (v 7) (k 0),e 8 9]) (F (v 8) (R [a 10 0,o 11 1 [k 0,k 1,k 1000,k 1001],c 12 153 [v 10,v 11],f 13 3 0,s 13 12 1]) (Q (R [g 15 .eql (v 7) (k 1),e 14 15]) (F (v 14) (R [a 16 0,c 17 101 [v 16,k 4],f 18 3 1,s 18 17 1]) (Q (R [g 20 .eql (v 7) (k 2),e 19 20]) (F (v 19) (R [a 21 0,o 22 1 [k (-1),k 0,k 2,k 1001],c 23 153 [v 21,v 22],f 24 3 2,s 24 23 1]) (Q (R [g 26 .eql (v 7) (k 3),e 25 26]) (F (v 25) (R [f 27 3 3,b' 28 27 1,o 29 1 [.c (.int .u8 1)],n 30 (app 30 (v 28) (v 29) 1 1),f 31 3 3,s 31 30 1]) (Q (R [g 33 .eql (v 7) (k 4),e 32 33]) (F (v 32) (D [0,1,0,0,12,0,0,124,252,508,1023,2047,4095] [f 34 3 4,b' 35 34 1,a 36 0,o 37 1 [.c (.str [97]),.c (.str [122]),.c (.str []),.c (.str [90])],c 38 149 [v 36,v 37],a 39 0,o 40 1 [k 1,k 2,k 1000,k 1001],c 41 153 [v 39,v 40],n 42 (bld 42 [.str [],.int .i64 0] [(0,1,v 38),(1,1,v 41)]),o 43 2 [v 42],n 44 (app 44 (v 35) (v 43) 2 24),f 45 3 4,s 45 44 1]) (Q (R [g 47 .eql (v 7) (k 5),e 46 47]) (F (v 46) (D [0,1,0,0,12,0,60,124,252,508,1020,2044,4095,8191,16383] [f 48 3 5,b' 49 48 1,a 50 0,o 51 1 [.c (.str [97]),.c (.str [122]),.c (.str [])],c 52 149 [v 50,v 51],a 53 0,c 54 101 [v 53,k 3],g 55 .add (k 15) (v 54),n 56 (mks 56 (v 55) (v 55) 1 1 [.int .u8 0]),n 57 (b2s 57 (v 56)),n 58 (bld 58 [.str [],.str []] [(0,1,v 52),(1,1,v 57)]),o 59 2 [v 58],n 60 (app 60 (v 49) (v 59) 2 32),f 61 3 5,s 61 60 1]) .skip)))))))))))))) (Q (R [b 62 3 6,s 2 62 6]) .ret)))
def ao7:Cmd:=Q (R [z 2 [.int .i64 0,.int .i64 0,.int .i64 0,.sl 1 [],.sl 2 [],.sl 2 []]]) (Q (R [a 7 0,c 8 101 [v 7,k 6],g 9 .add (k 2) (v 8),a 10 0,c 11 101 [v 10,k 2],g 12 .add (k 1) (v 11),n 13 (bld 13 [.int .i64 0,.int .i64 0,.int .i64 0,.sl 1 [],.sl 2 [],.sl 2 []] [(0,1,v 9),(1,1,v 12),(2,1,k 1)]),z 3 [.int .i64 0,.int .i64 0,.int .i64 0,.sl 1 [],.sl 2 [],.sl 2 []],s 3 13 6]) (Q (R [o 14 1 [.c (.str [97]),.c (.str [98]),.c (.str [99]),.c (.str [100,46,116,120,116])],e 4 14]) (Q (Q (R [f 15 3 1,b' 16 15 1,g 17 .eql (v 16) (k 1)]) (F (v 17) (Q (R [a 18 0,a 19 0,o 20 1 [k 0,k 1,k 5,k 20,k 100],c 21 153 [v 19,v 20],c 22 223 [v 18,v 21],f 23 3 3,s 23 22 1]) (R [a 24 0,c 25 101 [v 24,k 2],g 26 .add (k 1) (v 25),f 27 3 2,s 27 26 1])) (Q (R [e' 5 (k 0)]) (.blk 0 (.loop (Q (Q (R [a 28 5,g 29 .lss (v 28) (k 4)]) (F (v 29) .skip (.exit 0))) (Q (.blk 1 (Q (R [a 32 0,c 33 96 [v 32,k 2]]) (F (v 33) (D [0,1,0,0,12,28,0,64,192,508,1020,2047,4095,8191] [f 34 3 4,b' 35 34 1,a 36 4,a 37 5,i 38 36 37 1,b' 39 38 1,a 40 0,c 41 101 [v 40,k 8],g 42 .add (k 2) (v 41),n 43 (bld 43 [.str [],.int .i64 0] [(0,1,v 39),(1,1,v 42)]),o 44 2 [v 43],n 45 (app 45 (v 35) (v 44) 2 24),f 46 3 4,s 46 45 1]) .skip))) (R [a 30 5,g 31 .add (v 30) (k 1),e 5 31])))))))) (Q (Q (R [e' 6 (k 0)]) (.blk 2 (.loop (Q (Q (R [a 47 6,g 48 .lss (v 47) (k 2)]) (F (v 48) .skip (.exit 2))) (Q (.blk 3 (Q (R [a 51 0,c 52 96 [v 51,k 3]]) (F (v 52) (D [0,1,0,0,12,28,0,0,192,508,1020,2047,4095,8191] [f 53 3 5,b' 54 53 1,a 55 4,a 56 6,i 57 55 56 1,b' 58 57 1,a 59 0,o 60 1 [.c (.str [120]),.c (.str [118,97,108,117,101]),.c (.str [115,105,120,116,101,101,110,98,121,116,101,115,120,120,120,120])],c 61 149 [v 59,v 60],n 62 (bld 62 [.str [],.str []] [(0,1,v 58),(1,1,v 61)]),o 63 2 [v 62],n 64 (app 64 (v 54) (v 63) 2 32),f 65 3 5,s 65 64 1]) .skip))) (R [a 49 6,g 50 .add (v 49) (k 1),e 6 50])))))) (Q (R [b 66 3 6,s 2 66 6]) .ret)))))
end
theorem m5:aD Tryz.prog 4=some (125,[.t 2],kE):=by kernel_rfl
theorem r8:aD Tryz.prog 16=some (55,[.c 4 2 true,.t 5],kU):=by kernel_rfl
theorem apq:aD Tryz.prog 21=some (14,[.c 2 2 true,.t 3],aoY):=by kernel_rfl
theorem aph:aD Tryz.prog 24=some (20,[.t 2],ao1):=by kernel_rfl
theorem kL:aD Tryz.prog 25=some (46,[.t 8,.t 9],i0):=by kernel_rfl
theorem aqa:aD Tryz.prog 26=some (18,[.t 4],apg):=by kernel_rfl
theorem apQ:aD Tryz.prog 27=some (26,[.t 4],ao3):=by kernel_rfl
theorem ao8:aD Tryz.prog 63=some (23,[.c 4 6 true,.t 5],aoX):=by kernel_rfl
theorem apr:aD Tryz.prog 65=some (17,[.c 4 2 true],aoZ):=by kernel_rfl
theorem apR:aD Tryz.prog 66=some (13,[.c 4 2 true],ao4):=by kernel_rfl
theorem api:aD Tryz.prog 74=some (15,[.c 2 2 true],ao5):=by kernel_rfl
theorem aps:aD Tryz.prog 82=some (45,[.t 6],ao0):=by kernel_rfl
theorem aoW:aD Tryz.prog 100=some (48,[.c 2 2 true],r7):=by kernel_rfl
theorem m4:aD Tryz.prog 124=some (42,[.t 4],kC):=by kernel_rfl
theorem apc:aD Tryz.prog 126=some (9,[.t 3],tA):=by kernel_rfl
theorem kN:aD Tryz.prog 127=some (42,[.t 4],iE):=by kernel_rfl
theorem apj:aD Tryz.prog 128=some (8,[.t 3],aoV):=by kernel_rfl
theorem aqi:aD Tryz.prog 138=some (52,[.c 2 2 true],apM):=by kernel_rfl
theorem kV:aD Tryz.prog 154=some (63,[.c 2 6 true],kG):=by kernel_rfl
theorem apN:aD Tryz.prog 199=some (67,[.c 2 6 true],ao7):=by kernel_rfl
theorem apk {l m:List aA} (hl:∀ n ∈ l,aZ n=true) (hm:∀ n ∈ m,aZ n=true) (h:dS l=dS m):l=m:=by
 have e1:=adz l (fun n hn=>agq (hl n hn)) [] (by simp)
 have e2:=adz m (fun n hn=>agq (hm n hn)) [] (by simp)
 rw [lF1] at e1 e2
 rw [h,e2] at e1
 injection e1 with _ e1
 exact e1.symm
section
variable {t:Tab}
theorem ap4 (h:TreeOk t) {l:List aA} {i:Int} (hw:aQ (aC t) l 1=some i):bX l=true:=by
 obtain ⟨h1,h2⟩:=rW h hw
 exact oP (by have:=h.tab.len; omega) h2
end
theorem ap5 {t:Tab} (h:TreeOk t):(yB t).Nodup:=by
 obtain ⟨r,r1,_,r3⟩:=eM h
 have r4:=(aM r1).2
 rw [yB,r1]
 simp only [lC,lY]
 rw [List.Nodup,List.pairwise_map]
 refine List.Pairwise.imp_of_mem ?_ (abO h 30 r r3)
 intro a b ha hb hne hj
 have nm:∀ l,l ∈ iV t 30 r→∀ n ∈ l,aZ n=true:=by
  intro l hl
  obtain ⟨i,hi⟩:=lB1.1 ((oU h 30 r r3 l).1 hl).2.2
  rw [r4] at hi
  exact (rW h hi).2
 exact hne (apk (nm a ha) (nm b hb) hj)
def dT (t:Tab):List aA:=(yB t).mergeSort fun x y=>decide (x≤y)
theorem sT {t:Tab} (h:TreeOk t) (s:aA):s ∈ dT t↔∃ l,l≠[]∧s=dS l∧(aQ (aC t) l 1).isSome=true:=by
 rw [dT,(List.mergeSort_perm _ _).mem_iff,agv h]
theorem ao9 {t:Tab} (h:TreeOk t):(dT t).Pairwise fun a b=>a<b:=by
 have h1:=List.pairwise_mergeSort (le:=fun x y:aA=>decide (x≤y)) (by intro a b c; simp only [decide_eq_true_eq]; exact fun h1 h2=>List.le_trans h1 h2) (by intro a b; simp only [lL4,decide_eq_true_eq]; exact List.le_total a b) (yB t)
 have h2:(dT t).Nodup:=(List.mergeSort_perm _ _).nodup_iff.2 (ap5 h)
 exact (h1.and h2).imp fun ⟨a,b⟩=>by
  simp only [decide_eq_true_eq] at a
  rcases List.le_iff_lt_or_eq.1 a with h' | h'
  ·exact h'
  ·exact absurd h' b
theorem apa {t:Tab} (h:TreeOk t) {l:List aA} (hw:(aQ (aC t) l 1).isSome=true):∀ n ∈ l,aZ n=true:=by
 obtain ⟨i,hi⟩:=lB1.1 hw
 exact (rW h hi).2
theorem tB {t:Tab} (h:TreeOk t) {l:List aA} (hl:∀ n ∈ l,aZ n=true) (hne:l≠[]):dS l ∈ dT t↔(aQ (aC t) l 1).isSome=true:=by
 rw [sT h]
 constructor
 ·rintro ⟨m,_,e,hw⟩
  rw [apk hl (apa h hw) e]; exact hw
 ·exact fun hw=>⟨l,hne,rfl,hw⟩
theorem aqb {t u:Tab} (ht:TreeOk t) (hu:TreeOk u) {p:List aA} (hp:p≠[]) (hw:(aQ (aC t) p 1).isSome=true)
  (h:∀ l,aQ (aC u) l 1=if l=p then none else aQ (aC t) l 1):dT u=aiI (fun s:aA=>s) (dT t) (dS p)∧(dT u).length+1=(dT t).length∧dS p ∉ dT u:=by
 have hn:=apa ht hw
 have e:dT u=aiI (fun s:aA=>s) (dT t) (dS p):=by
  refine amQ (key:=fun s:aA=>s) (ao9 hu) (rX (ao9 ht) _) fun s=>?_
  rw [sT hu,mem_cutK,sT ht]
  constructor
  ·rintro ⟨l,a,rfl,c⟩
   rw [h] at c
   by_cases hl:l=p
   ·rw [lG hl] at c; exact absurd c (by simp)
   ·rw [lJ hl] at c
    exact ⟨⟨l,a,rfl,c⟩,fun hj=>hl (apk (apa ht c) hn hj)⟩
  ·rintro ⟨⟨l,a,rfl,c⟩,hj⟩
   refine ⟨l,a,rfl,?_⟩
   rw [h,lJ (by rintro rfl; exact hj rfl)]; exact c
 refine ⟨e,?_,?_⟩
 ·rw [e]
  exact akM (key:=fun s:aA=>s) (ao9 ht) ((tB ht hn hp).2 hw)
 ·rw [e,mem_cutK]; exact fun hc=>hc.2 rfl
section
variable {t:Tab}
theorem aql (ht:TreeOk t) {s:aA} {X:Inode} (h:mN t s=.ok X):X.ents=[]:=(nY ht (aR (c9 h).1).1 (by have:=(c9 h).2; omega)).1
end
theorem aqc (a b:aA) (hl:a.length<2^40):bC Tryz.prog 27 [.ext 1 (aO a),.ext 1 (aO b)] (.bool (decide (a=b))) [.undef,.undef]:=by
 refine U apQ [] 51 [] fun w hP hQ=>?_
 unfold ao3
 refine N ?_
 (first | with_reducible refine cQ _ ?_ ?_ | refine cR _ ?_ ?_) <;> intro h
 ·refine N ?_
  refine aoI (fun i:Nat=>[(5,.int .i64 i)]) (fun i=>i≤a.length∧a.take i=b.take i) (fun i=>a.length-i) (0) hP hQ (rfl) (by simp) ?_
  rintro i ⟨hi,hab⟩ w1 hP1 hQ1
  refine N1 ?_
  (first | with_reducible refine cQ _ ?_ ?_ | refine cR _ ?_ ?_) <;> intro h1
  ·have hz:=And.intro (bG h1) (bG (h ▸ h1))
   refine Nz1 ?_
   (first | with_reducible refine cQ _ ?_ ?_ | refine cR _ ?_ ?_) <;> intro h2
   ·refine N1 ?_
    exact ⟨i+1,rfl,⟨by omega,gR hab _ _ (UInt8.toNat_inj.1 (by omega))⟩,by omega⟩
   ·refine N1 ?_
    rw [lB]
    rintro rfl; exact h2 rfl
  ·refine N1 ?_
   rw [lE (tJ hab (by omega) (by omega))]
 ·have hz:=hQ
  refine Nz ?_
  rw [lB]
  rintro rfl; exact h rfl
section
variable {t:Tab}
def ao2 (t:Tab) (s:aA) (o n:Int):Rs aA:=if o<0∨n<0 then .error 1 else match cJ t s with
 | .ok x=>if x.kind=1 then .ok ((x.data.drop o.toNat).take n.toNat) else .error 3
 | .error c=>.error c
def exB:Rs aA→aA
 | .ok b=>b
 | .error _=>[]
theorem aqd {s:aA} (h:(fV t s).2≠0):(fV t s).1=t:=by
 unfold fV at *
 split <;> rename_i e
 ·rw [lG e] at h
  split <;> rename_i e2
  ·rw [e2] at h; exact absurd rfl h
  ·rfl
 ·rfl
theorem ap6 (t:Tab) (a b:List aA):∀ {i j:Int},jB t a i=(j,0)→jB t (a++b) i=jB t b j:=by
 induction a with
 | nil=>intro i j h; simp only [jB] at h; injection h with h _; subst h; rfl
 | cons n a ih=>
  intro i j h
  rw [lS1,jB]
  rw [jB] at h
  cases hx:aC t i with
  | none=>rw [hx] at h; simp at h
  | some x=>
   rw [hx] at h
   simp only at h ⊢
   split at h
   ·rename_i hk
    rw [lG hk]
    split at h
    ·simp at h
    ·rename_i he
     rw [lJ he]
     exact ih h
   ·simp at h
theorem aqm {s:aA} (hs:jA s=true) {D:Inode} (h:eN t s=.ok D) (hn:bB D (aW s)=0):oR t s=(0,2):=by
 obtain ⟨h1,h2⟩:=i7 h
 obtain ⟨w1,w2⟩:=vS h1
 obtain ⟨e1,e2,e3⟩:=iG hs
 rw [oR,lG (vR hs).1,e1,ap6 t _ _ ((amM t _ _ _).2 w2)]
 rw [jB,(pV h1).2]
 simp only [h2,hn,lG]
end
theorem aqn (t:Tab) (s:aA) (h:t.sz<2^40) (hs:s.length<2^40):bC Tryz.prog 63 [t.x,.str s] (.tup [(exI (cJ t s)).o,.int .i64 (exC (mN t s))]) [.undef,.undef]:=by
 have hS:=am2 t s h hs
 unfold mN
 cases e:cJ t s with
 | error c=>
  have hc:decide (c=0)=false:=lB (mP e)
  rw [e] at hS
  simp only [exI,exC] at hS ⊢
  refine U ao8 [] 247 [] fun w hP hQ=>?_
  unfold aoX
  refine N ?_
  have hz:=hc
  exact Kz (hS) trivial
 | ok x=>
  rw [e] at hS
  simp only [exI,exC] at hS ⊢
  by_cases hk:x.kind=1
  ·have hk':decide (x.kind=1)=true:=lE hk
   simp only [lG hk]
   refine U ao8 [] 247 [] fun w hP hQ=>?_
   unfold aoX
   refine N ?_
   have hz:=hk'
   exact Kz (hS) trivial
  ·have hk':decide (x.kind=1)=false:=lB hk
   simp only [lJ hk]
   refine U ao8 [] 247 [] fun w hP hQ=>?_
   unfold aoX
   refine N ?_
   have hz:=hk'
   exact Kz (hS) trivial
section
section
variable {α:Type} {s:Nat} {row:α→List TV} {p:α→Bool} {l:List α} {i j:Nat} {R:List (List TV)}
theorem Kept'.skip (h:Kept' s row p l i j R) (hj:j<l.length) (hp:p l[j]=true):Kept' s row p l i (j+1) R:=by
 obtain ⟨a1,a2,a3,a4,a5,a6,a7⟩:=h
 have e:(l.take (j+1)).filter (fun x=>!p x)=(l.take j).filter fun x=>!p x:=by
  rw [lU hj,lH4]; simp [hp]
 refine ⟨by omega,by omega,a3,by rw [e,a4],by rw [e,a5],?_,a7⟩
 rw [← lJ2,a6,← List.map_drop,lJ2]
theorem Kept'.turn (h:Kept' s row p l i (j+1) R) {k:Nat} (h1:i≤k) (h2:k≤j) {f:List TV→List TV} (hf:∀ x,x.length=s→(f x).length=s):Kept' s row p l i (j+1) (R.modify k f):=by
 obtain ⟨a1,a2,a3,a4,a5,a6,a7⟩:=h
 refine ⟨a1,a2,by simp [a3],?_,a5,?_,fun x hx=>?_⟩
 ·rw [← a4]
  apply lW2
  intro m
  rw [lP1,lP1,lX1]
  split
  ·have hm':k≠m:=by omega
   simp [hm']
  ·rfl
 ·rw [← a6]
  apply lW2
  intro m
  have hm':k≠j+1+m:=by omega
  rw [lH2,lH2,lX1]
  simp [hm']
 ·obtain ⟨m,hm,rfl⟩:=lU1 hx
  rw [List.getElem_modify]
  split
  ·exact hf _ (a7 _ (lO _))
  ·exact a7 _ (lO _)
theorem Kept'.keep (h:Kept' s row p l i j R) (hj:j<l.length) (hp:p l[j]=false) {R':List (List TV)} (hl:R'.length=l.length) (hw:∀ x ∈ R',x.length=s) (h1:R'.take i=R.take i) (h2:R'.drop (j+1)=R.drop (j+1)) {f:List TV→List TV} (hf:∀ x,x.length=s→f x=row l[j]) (hr:(row l[j]).length=s) :
  Kept' s row p l (i+1) (j+1) (R'.modify i f):=by
 obtain ⟨a1,a2,a3,a4,a5,a6,a7⟩:=h
 have e:(l.take (j+1)).filter (fun x=>!p x)=(l.take j).filter (fun x=>!p x)++[l[j]]:=by
  rw [lU hj,lH4]; simp [hp]
 have hi:i<R'.length:=by omega
 refine ⟨by omega,by omega,by simp [hl],?_,by rw [e]; simp; omega,?_,fun x hx=>?_⟩
 ·rw [e,lM2,← a4,← h1,lU (by simpa using hi),List.getElem_modify_eq,hf _ (hw _ (lO _))]
  congr 1
  apply lW2
  intro m
  rw [lP1,lP1,lX1]
  split
  ·rename_i hm
   have hm':i≠m:=by omega
   simp [hm']
  ·rfl
 ·have e2:(R'.modify i f).drop (j+1)=R'.drop (j+1):=by
   apply lW2
   intro m
   have hm':i≠j+1+m:=by omega
   rw [lH2,lH2,lX1]
   simp [hm']
  rw [e2,h2,← lJ2,a6,← List.map_drop,lJ2]
 ·obtain ⟨m,hm,rfl⟩:=lU1 hx
  rw [List.getElem_modify]
  split
  ·rw [hf _ (hw _ (lO _))]; exact hr
  ·exact hw _ (lO _)
theorem Kept'.done (h:Kept' s row p l i l.length R):R.take i=(l.filter fun x=>!p x).map row:=by
 have:=h.low
 rwa [lZ1] at this
end
theorem apd {g:Nat} {cs:List TV} {p:Ent→Bool} (hc:∀ v:Ent,bC Tryz.prog g [v.x,.xbox cs] (.bool (p v)) [.undef,.undef]) (l:List Ent) (hl:l.length<2^40) :
  bC Tryz.prog 124 [.own 2 (l.map Ent.row),.fn g [.xbox cs]] (.own 2 ((l.filter fun x=>!p x).map Ent.row)) [.undef,.undef]:=by
 have hI:=aje hc l (by omega)
 cases e:l.findIdx? p with
 | none=>
  have ef:(l.filter fun x=>!p x)=l:=agM (by rw [lU3] at e; exact e)
  rw [e] at hI
  rw [ef]
  refine U m4 [] 243 [] fun w hP hQ=>?_
  unfold kC
  refine N ?_
  exact K (hI) trivial
 | some k=>
  obtain ⟨k1,_⟩:=lO2.1 e
  rw [e,show abP (some k)=(k:Int) from rfl] at hI
  have hz:decide (((k:Nat):Int)=-1)=false:=lB (by omega)
  refine U m4 [] 243 [] fun w hP hQ=>?_
  unfold kC
  refine N ?_
  have hz:=hz
  refine Kz (hI) ?_
  refine fH [7,5007] ?_
  refine N ?_
  refine aT [7,5007] (fun x:Nat × Nat × List (List TV)=>[(0,.own 2 x.2.2),(5,.int .i64 (x.1:Nat)),(6,.int .i64 (x.2.1:Nat))]) (fun x=>Kept' 2 Ent.row p l x.1 x.2.1 x.2.2) (fun x=>l.length-x.2.1) ((k,k+1,l.map Ent.row)) hP hQ (rfl) (Kept'.start (fun _=>rfl) e) ?_
  rintro ⟨i,j,R⟩ hK w1 hP1 hQ1
  refine N1 ?_
  simp only at hK
  have hlen:=hK.len
  have hlt:=hK.lt
  have hle:=hK.le
  (first | with_reducible refine cQ _ ?_ ?_ | refine cR _ ?_ ?_) <;> intro h1
  ·have hj:j<l.length:=by omega
   have hat:=hK.at hj
   have hji:((j:Nat):Int)<(R.length:Nat):=by omega
   cases hp:p l[j] with
   | true=>
    have hz:=hat
    refine Nz1 ?_
    have hz:=hp
    refine Kz1 (hc l[j]) ?_
    exact ⟨(i,j+1,R),rfl,hK.skip hj hp,by simp only; omega⟩
   | false=>
    have hii:i<R.length:=by omega
    have hz:=hat
    refine Nz1 ?_
    have hz:=hp
    refine Kz1 (hc l[j]) ?_
    exact ⟨(i+1,j+1,_),rfl,hK.keep hj hp hlen hK.wid rfl rfl (fun x hx=>by rw [lF4 (Nat.le_of_eq hx)]; rfl) rfl,by simp only; omega⟩
  ·obtain rfl:j=l.length:=by omega
   have e1:(((l.length:Nat):Int)-(i:Nat)).toNat=l.length-i:=by omega
   have e2:R.drop (i+(l.length-i))=[]:=lG4 (by omega)
   have e3:(R.take i++List.replicate (l.length-i) [TV.str [],TV.int .i64 0]).length=l.length:=by simp; omega
   have e4:(((i:Nat):Int)-0).toNat=i:=by omega
   have e5:0+i≤l.length:=by omega
   have e6:(R.take i++List.replicate (l.length-i) [TV.str [],TV.int .i64 0]).take i=(l.filter fun x=>!p x).map Ent.row:=by
    rw [List.take_append_of_le_length (by simp; omega),List.take_take,Nat.min_self,hK.done]
   have hz:=And.intro hlen (And.intro e1 (And.intro e2 (And.intro e3 (And.intro e4 (And.intro e5 e6)))))
   exact Nz1 trivial
theorem aqu {R:List (List TV)} {i k:Nat} (h:i≤k) (f:List TV→List TV):(R.modify k f).take i=R.take i:=by
 apply lW2
 intro m
 rw [lP1,lP1,lX1]
 split
 ·have hm':k≠m:=by omega
  simp [hm']
 ·rfl
theorem aqv {R:List (List TV)} {i k:Nat} (h:k<i) (f:List TV→List TV):(R.modify k f).drop i=R.drop i:=by
 apply lW2
 intro m
 have hm':k≠i+m:=by omega
 rw [lH2,lH2,lX1]
 simp [hm']
theorem aqD {R:List (List TV)} {s k:Nat} {f:List TV→List TV} (hf:∀ x,x.length=s→(f x).length=s) (h:∀ x ∈ R,x.length=s):∀ x ∈ R.modify k f,x.length=s:=by
 intro x hx
 obtain ⟨m,hm,rfl⟩:=lU1 hx
 rw [List.getElem_modify]
 split
 ·exact hf _ (h _ (lO _))
 ·exact h _ (lO _)
theorem aqo (x:List TV) (h:x.length=6):(((x.modify 3 fun x=>TV.undef).modify 4 fun x=>TV.undef).modify 5 fun x=>TV.undef).length=6:=by simp [h]
theorem ao6 {g:Nat} {cs:List TV} {p:Inode→Bool} (hc:∀ v:Inode,bC Tryz.prog g [v.x,.xbox cs] (.bool (p v)) [.undef,.undef]) (l:List Inode) (hl:l.length<2^40) :
  bC Tryz.prog 127 [.own 6 (l.map Inode.row),.fn g [.xbox cs]] (.own 6 ((l.filter fun x=>!p x).map Inode.row)) [.undef,.undef]:=by
 have hI:=sC hc l (by omega)
 cases e:l.findIdx? p with
 | none=>
  have ef:(l.filter fun x=>!p x)=l:=agM (by rw [lU3] at e; exact e)
  rw [e] at hI
  rw [ef]
  refine U kN [] 243 [] fun w hP hQ=>?_
  unfold iE
  refine N ?_
  exact K (hI) trivial
 | some k=>
  obtain ⟨k1,_⟩:=lO2.1 e
  rw [e,show abP (some k)=(k:Int) from rfl] at hI
  have hz:decide (((k:Nat):Int)=-1)=false:=lB (by omega)
  refine U kN [] 243 [] fun w hP hQ=>?_
  unfold iE
  refine N ?_
  have hz:=hz
  refine Kz (hI) ?_
  refine fH [7,5007] ?_
  refine N ?_
  refine aT [7,5007] (fun x:Nat × Nat × List (List TV)=>[(0,.own 6 x.2.2),(5,.int .i64 (x.1:Nat)),(6,.int .i64 (x.2.1:Nat))]) (fun x=>Kept' 6 Inode.row p l x.1 x.2.1 x.2.2) (fun x=>l.length-x.2.1) ((k,k+1,l.map Inode.row)) hP hQ (rfl) (Kept'.start (fun _=>rfl) e) ?_
  rintro ⟨i,j,R⟩ hK w1 hP1 hQ1
  refine N1 ?_
  simp only at hK
  have hlen:=hK.len
  have hlt:=hK.lt
  have hle:=hK.le
  (first | with_reducible refine cQ _ ?_ ?_ | refine cR _ ?_ ?_) <;> intro h1
  ·have hj:j<l.length:=by omega
   have hat:=hK.at hj
   have hji:((j:Nat):Int)<(R.length:Nat):=by omega
   cases hp:p l[j] with
   | true=>
    have hz:=hat
    refine Nz1 ?_
    have hz:=hp
    refine Kz1 (hc l[j]) ?_
    exact ⟨(i,j+1,_),rfl,(hK.skip hj hp).turn (k:=j) (by omega) (lR1 _) aqo,by simp only; omega⟩
   | false=>
    have hii:i<R.length:=by omega
    have hz:=hat
    refine Nz1 ?_
    have hz:=hp
    refine Kz1 (hc l[j]) ?_
    exact ⟨(i+1,j+1,_),rfl,hK.keep hj hp (by simp [hlen]) (aqD aqo hK.wid) (aqu (by omega) _) (aqv (by omega) _) (fun x hx=>by rw [lF4 (Nat.le_of_eq hx)]; rfl) rfl,by simp only; omega⟩
  ·obtain rfl:j=l.length:=by omega
   have e1:(((l.length:Nat):Int)-(i:Nat)).toNat=l.length-i:=by omega
   have e2:R.drop (i+(l.length-i))=[]:=lG4 (by omega)
   have e3:(R.take i++List.replicate (l.length-i) [TV.int .i64 0,TV.int .i64 0,TV.int .i64 0,TV.sl 1 [],TV.sl 2 [],TV.sl 2 []]).length=l.length:=by simp; omega
   have e4:(((i:Nat):Int)-0).toNat=i:=by omega
   have e5:0+i≤l.length:=by omega
   have e6:(R.take i++List.replicate (l.length-i) [TV.int .i64 0,TV.int .i64 0,TV.int .i64 0,TV.sl 1 [],TV.sl 2 [],TV.sl 2 []]).take i=(l.filter fun x=>!p x).map Inode.row:=by
    rw [List.take_append_of_le_length (by simp; omega),List.take_take,Nat.min_self,hK.done]
   have hz:=And.intro hlen (And.intro e1 (And.intro e2 (And.intro e3 (And.intro e4 (And.intro e5 e6)))))
   exact Nz1 trivial
theorem apt (x:Inode) (n:Int):bC Tryz.prog 128 [x.x,.xbox [.int .i64 n]] (.bool (decide (x.ino=n))) [.undef,.undef]:=by
 refine U apj [] 15 [] fun w hP hQ=>?_
 unfold aoV
 exact N trivial
theorem ap7 (t:Tab) (n:Int) (h:t.sz<2^40):bC Tryz.prog 66 [t.x,.int .i64 n] (jP t n).o [.undef,.undef]:=by
 obtain ⟨h1,h2⟩:=cZ h
 have hD:=ao6 (fun v=>apt v n) t.inodes (by omega)
 have e:(t.inodes.filter fun x=>!decide (x.ino=n))=(jP t n).inodes:=by
  unfold jP
  congr 1
  funext x
  by_cases hx:x.ino=n <;> simp [hx]
 rw [e] at hD
 refine U apR [(127,[.m,.b],[])] 31 [] fun w hP hQ=>?_
 unfold ao4
 refine N ?_
 refine K (agL t h) ?_
 refine K (hD) ?_
 rfl
end
theorem aqj (e:Ent) (D:Inode) (n:aA):bC Tryz.prog 126 [e.x,.xbox (aoT D n)] (.bool (decide (e.name=n))) [.undef,.undef]:=by
 unfold aoT
 refine U apc [] 15 [] fun w hP hQ=>?_
 unfold tA
 exact N trivial
theorem aqw (l:List Ent) (n:aA):(l.filter fun e=>!decide (e.name=n))=cY l n:=by
 unfold cY aiI
 congr 1
 funext e
 by_cases h:e.name=n <;> simp [h]
theorem aqx (t:Tab) (D:Inode) (n:aA) {k:Nat} (h:t.sz<2^40) (hD:D.sz<2^40) (hu:UpI t.inodes) (hk:b9 t D.ino=some k) :
  bC Tryz.prog 65 [aoS D n,t.x] (aG t (cF D n)).o [.undef,.undef]:=by
 obtain ⟨h1,h2,h3⟩:=dU hD
 have hF:=apd (fun v=>aqj v D n) D.ents (by omega)
 rw [aqw] at hF
 have hS:=ajf t (cF D n) h (lI4 (v6 D n) hD) hu hk
 unfold aoS
 refine U apr [(124,[.m,.b],[])] 31 [] fun w hP hQ=>?_
 unfold aoZ
 refine N ?_
 refine K (akZ D.ents (by omega)) ?_
 refine K (hF) ?_
 exact K (hS) trivial
theorem aqp (t:Tab) (s:aA) (h:t.sz<2^30) (hs:s.length<2^40):bC Tryz.prog 16 [t.x,.str s] (.tup [(fV t s).1.o,.int .i64 (fV t s).2]) [.undef,.undef]:=by
 have h':t.sz<2^40:=by omega
 have hC:=agL t h'
 have hR:=aoh t [s] h' (by simp) (by simpa using hs)
 have hS:=aow s
 simp only [lO4,List.all_nil,Bool.and_true,lP,lA2,dB] at hR
 by_cases hc:bJ t=true∧jA s=true
 ·obtain ⟨hB,hsb⟩:=hc
  rw [hsb] at hS
  have hp:gT s=true:=by cases e:gT s <;> simp_all
  have hne:decide (s=[47])=false:=by cases e:decide (s=[47]) <;> simp_all
  rw [hp,hB] at hR
  have hF:=aqn t s h' hs
  cases hX:mN t s with
  | error c=>
   have hc:decide (c=0)=false:=lB (tL hX)
   have e:fV t s=(t,c):=by rw [fV,lG ⟨hB,hsb⟩,hX]
   rw [hX] at hF
   rw [e]
   simp only [exC] at hF
   refine U r8 [] 503 [] fun w hP hQ=>?_
   unfold kU
   refine N ?_
   refine K (hC) ?_
   have hz:=hne
   refine Kz (hR) ?_
   (first|refine cI hP (hF) rfl rfl ?_|refine cH hP (hF) rfl rfl ?_)
   have hz:=hc
   refine Nz ?_
   first|exact trivial|rfl
  | ok X=>
   obtain ⟨D,kD,kX,d1,d2,d3,d4,d5,d6⟩:=ajg hB hsb hX
   obtain ⟨f1,f2⟩:=c9 hX
   have zX:=yX h' (aR f1).2
   have zD:=(aR (i7 d1).1).2
   have hSp:=an9 t s h' hs
   have zt:(aG t (cF D (aW s))).sz<2^40:=by
    have:=n8 t (cF D (aW s))
    have:=v6 D (aW s)
    have:=(cZ h).2 D (aM zD).1
    omega
   have hL:=aqx t D (aW s) h' (yX h' zD) (g9 hB) d3
   have hD:=ap7 (aG t (cF D (aW s))) X.ino zt
   have hI:=ajf (aG t (cF D (aW s))) (pU X) zt zX (f4 (g9 hB) _) d4
   rw [hX] at hF
   rw [d1] at hSp
   have e:fV t s=(bZ t D (aW s) X,0):=by rw [fV,lG ⟨hB,hsb⟩,hX,d1]; rfl
   rw [f1] at hF
   simp only [exC,exI,exN] at hF hSp
   unfold aov at hSp
   unfold aoS at hL
   rw [e,bZ]
   by_cases h1:X.links=1
   ·have h1':decide (X.links-1=0)=true:=lE (by omega)
    rw [lG h1]
    refine U r8 [] 503 [] fun w hP hQ=>?_
    unfold kU
    refine N ?_
    refine K (hC) ?_
    have hz:=hne
    refine Kz (hR) ?_
    refine K (hF) ?_
    refine K (hSp) ?_
    have hz:=h1'
    refine Kz (hL) ?_
    exact K (hD) trivial
   ·have h1':decide (X.links-1=0)=false:=lB (by omega)
    rw [lJ h1]
    refine U r8 [] 503 [] fun w hP hQ=>?_
    unfold kU
    refine N ?_
    refine K (hC) ?_
    have hz:=hne
    refine Kz (hR) ?_
    refine K (hF) ?_
    refine K (hSp) ?_
    have hz:=h1'
    refine Kz (hL) ?_
    exact K (hI) trivial
 ·have e:fV t s=(t,1):=by rw [fV,lJ hc]
  rw [e]
  cases hp:(gT s && bJ t) with
  | false=>
   rw [hp] at hR
   refine U r8 [] 503 [] fun w hP hQ=>?_
   unfold kU
   refine N ?_
   refine K (hC) ?_
   (first|refine cI hP (hR) rfl rfl ?_|refine cH hP (hR) rfl rfl ?_)
   refine N ?_
   first|exact trivial|rfl
  | true=>
   have hne:decide (s=[47])=true:=by
    cases e:decide (s=[47]) with
    | true=>rfl
    | false=>
     simp only [lM] at hp
     rw [hp.1,e] at hS
     exact absurd ⟨hp.2,hS⟩ hc
   rw [hp] at hR
   refine U r8 [] 503 [] fun w hP hQ=>?_
   unfold kU
   refine N ?_
   refine K (hC) ?_
   (first|refine cI hP (hR) rfl rfl ?_|refine cH hP (hR) rfl rfl ?_)
   have hz:=hne
   refine Nz ?_
   first|exact trivial|rfl
theorem aqk (b:aA) (n:Nat):List.drop n (aO b)=aO (b.drop n):=by simp [aO,List.map_drop]
theorem apl (t:Tab) (s:aA) (o n:Int) (h:t.sz<2^40) (hs:s.length<2^40):bC Tryz.prog 25 [t.x,.str s,.int .i64 o,.int .i64 n] (.tup [.own 1 (aO (exB (ao2 t s o n))),.int .i64 (exC (ao2 t s o n))]) [.undef,.undef,.undef,.undef]:=by
 have hF:=am2 t s h hs
 unfold ao2
 by_cases h1:o<0
 ·have h1':decide (o<0)=true:=lE h1
  simp only [lG (show o<0∨n<0 from .inl h1),exB,exC]
  refine U kL [] 7967 [] fun w hP hQ=>?_
  unfold i0
  refine N ?_
  have hz:=h1'
  refine Nz ?_
  all_goals first | rfl | exact ⟨rfl,rfl⟩
 have h1':decide (o<0)=false:=lB h1
 by_cases h2:n<0
 ·have h2':decide (n<0)=true:=lE h2
  simp only [lG (show o<0∨n<0 from .inr h2),exB,exC]
  refine U kL [] 7967 [] fun w hP hQ=>?_
  unfold i0
  refine N ?_
  have hz:=And.intro h1' h2'
  refine Nz ?_
  all_goals first | rfl | exact ⟨rfl,rfl⟩
 have h2':decide (n<0)=false:=lB h2
 simp only [lJ (show ¬ (o<0∨n<0) by omega)]
 cases hX:cJ t s with
 | error c=>
  have hc:decide (c=0)=false:=lB (mP hX)
  rw [hX] at hF
  simp only [exI,exC,exB] at hF ⊢
  refine U kL [] 7967 [] fun w hP hQ=>?_
  unfold i0
  refine N ?_
  have hz:=And.intro h1' h2'
  refine Nz ?_
  have hz:=hc
  refine Kz (hF) ?_
  all_goals first | rfl | exact ⟨rfl,rfl⟩
 | ok X=>
  rw [hX] at hF
  simp only [exI,exC] at hF
  have zX:=yX h (aR hX).2
  have zd:=(dU zX).1
  by_cases g1:X.kind=1
  ·have g1':decide (X.kind=1)=true:=lE g1
   simp only [lG g1,exB,exC]
   obtain ⟨k,rfl⟩:=Int.eq_ofNat_of_zero_le (show 0≤o by omega)
   obtain ⟨m,rfl⟩:=Int.eq_ofNat_of_zero_le (show 0≤n by omega)
   simp only [Int.toNat_natCast]
   obtain ⟨a,ha,ha2,ha3⟩:∃ a:Nat,(if ((X.data.length:Nat):Int)<(k:Nat) then ((X.data.length:Nat):Int) else (k:Nat))=(a:Nat)∧a≤X.data.length∧X.data.drop a=X.data.drop k:=by
    by_cases g:((X.data.length:Nat):Int)<(k:Nat)
    ·exact ⟨X.data.length,by rw [lG g],lR1 _,by rw [List.drop_length,lG4 (by omega)]⟩
    ·exact ⟨k,by rw [lJ g],by omega,rfl⟩
   have z1:(((X.data.length:Nat):Int)-(a:Nat)).toNat=X.data.length-a:=by omega
   have z2:(X.data.drop a).take (X.data.length-a)=X.data.drop k:=by rw [ha3]; exact lD2 (by rw [← ha3]; simp)
   have z3:(X.data.drop k).length≤X.data.length:=by simp
   have z4:a+(X.data.length-a)≤X.data.length:=by omega
   have z5:(X.data.drop k).length=X.data.length-a:=by rw [← ha3]; simp
   generalize X.data.drop k=Y at *
   have z7:Y.take (X.data.length-a)=Y:=lD2 (by omega)
   obtain ⟨c,hc,hc2,hc3⟩:∃ c:Nat,(if ((Y.length:Nat):Int)<(m:Nat) then ((Y.length:Nat):Int) else (m:Nat))=(c:Nat)∧c≤Y.length∧Y.take c=Y.take m:=by
    by_cases g:((Y.length:Nat):Int)<(m:Nat)
    ·exact ⟨Y.length,by rw [lG g],lR1 _,by rw [lZ1,lD2 (by omega)]⟩
    ·exact ⟨m,by rw [lJ g],by omega,rfl⟩
   have z8:a+c≤X.data.length:=by omega
   have z6:((c:Nat):Int)≤((X.data.length-a:Nat):Int):=by omega
   have hK:=akY (Y.take m) (by rw [lR]; omega)
   refine U kL [] 7967 [] fun w hP hQ=>?_
   unfold i0
   refine N ?_
   have hz:=And.intro h1' h2'
   refine Nz ?_
   have hz:=And.intro g1' (And.intro ha (And.intro z1 (And.intro z4 (And.intro ha3 (And.intro z7 (And.intro z6 (And.intro z8 (And.intro lM3 (And.intro aqk (And.intro agO (And.intro jY (And.intro hc (And.intro hc2 (And.intro hc3 (And.intro Int.sub_zero Int.toNat_natCast)))))))))))))))
   refine Kz (hF) ?_
   (first|refine cI hP (hK) rfl rfl ?_|refine cH hP (hK) rfl rfl ?_)
   simp +decide (maxSteps:=9^9) (disch:=omega) only[↓SB0,SX,seval,hQ]
   all_goals first | rfl | exact ⟨rfl,rfl⟩
  ·have g1':decide (X.kind=1)=false:=lB g1
   simp only [lJ g1,exB,exC]
   refine U kL [] 7967 [] fun w hP hQ=>?_
   unfold i0
   refine N ?_
   have hz:=And.intro h1' h2'
   refine Nz ?_
   have hz:=g1'
   refine Kz (hF) ?_
   all_goals first | rfl | exact ⟨rfl,rfl⟩
section
variable {t:Tab}
theorem apm {s:aA} (h:(aB s).2=true) (hne:(aB s).1≠[]):dS (aB s).1=s:=by
 obtain ⟨h1,h2⟩:=oQ h
 rw [b8,lG h1,lJ hne] at h2
 exact h2
theorem aqq (ht:TreeOk t) {r:aA} (hr:r ∈ dT t):∃ x,(aB r).2=true∧(aB r).1≠[]∧aQ (aC t) (aB r).1 1=some x.ino∧x ∈ t.inodes∧cJ t r=.ok x:=by
 obtain ⟨l,h1,rfl,h2⟩:=(sT ht r).1 hr
 obtain ⟨i,hi⟩:=lB1.1 h2
 have e:=adB (ap4 ht hi) h1
 obtain ⟨x,x1,x2,x3⟩:=x9 ht hi
 have e1:(aB (dS l)).1=l:=by rw [e]
 have e2:(aB (dS l)).2=true:=by rw [e]
 refine ⟨x,e2,by rw [e1]; exact h1,by rw [e1,x3]; exact hi,x2,?_⟩
 rw [amX e2 (by rw [e1]; exact hi),x1]
theorem aqE (ht:TreeOk t) {r:aA} (h1:(aB r).2=true) (h2:(aB r).1≠[]) (h3:(aQ (aC t) (aB r).1 1).isSome=true):r ∈ dT t:=by
 rw [← apm h1 h2]
 exact (tB ht (j6 (oQ h1).1).2 h2).2 h3
theorem aqy {s:aA} (h:(fV t s).2=0):(oR (fV t s).1 s).2=2∧(dT (fV t s).1).length+1=(dT t).length∧bJ t=true∧bJ (fV t s).1=true ∧
  ∀ r ∈ dT t,r≠s→r ∈ dT (fV t s).1∧(exC (ao2 (fV t s).1 r 0 1000)=3∨exB (ao2 t r 0 1000)=exB (ao2 (fV t s).1 r 0 1000)):=by
 by_cases hc:bJ t=true∧jA s=true
 case neg=>rw [fV,lJ hc] at h; exact absurd h (by simp)
 obtain ⟨hB,hs⟩:=hc
 have ht:=(aV t).1 hB
 cases hX:mN t s with
 | error c=>rw [fV,lG ⟨hB,hs⟩,hX] at h; exact absurd h (tL hX)
 | ok X=>
  have hE:=aql ht hX
  obtain ⟨f1,f2⟩:=c9 hX
  obtain ⟨D,d1,d2,d3,hu,hw,hi⟩:=abR ht hs f1 hE
  obtain ⟨s1,s2⟩:=vR hs
  have e:(fV t s).1=bZ t D (aW s) X:=by rw [fV,lG ⟨hB,hs⟩,hX,d1]; rfl
  rw [e]
  generalize bZ t D (aW s) X=u at *
  have hDX:D.ino≠X.ino:=by
   intro e1
   have h1:=(aR f1).2
   have h2:=(aR (i7 d1).1).2
   rw [e1,h1] at h2
   injection h2 with h2
   have:=(i7 d1).2
   rw [← h2] at this; omega
  obtain ⟨p1,p2,p3⟩:=aqb ht hu (p:=(aB s).1) s2 (by rw [(vS f1).2]; rfl) hw
  refine ⟨?_,p2,hB,(aV _).2 hu,fun r hr hne=>?_⟩
  ·have hdw:aQ (aC u) (aB (aJ s).1).1 1=some D.ino:=by
    rw [hw,lJ ?_]; exact d2.at'
    rw [(iG hs).1]
    intro e1
    have:=congrArg List.length e1
    simp at this
   have hst:cJ u (aJ s).1=.ok (cF D (aW s)):=by
    rw [amX (iG hs).2.1 hdw,hi,lJ hDX,lG rfl]
   have hsp:eN u s=.ok (cF D (aW s)):=by
    rw [eN,hst]
    simp only [show (cF D (aW s)).kind=2 from d2.kind,lG]
   rw [aqm hs hsp (by rw [show cF D (aW s)={ D with ents:=cY D.ents (aW s) } from rfl,nZ,lG rfl])]
  ·obtain ⟨x,x1,x2,x3,x4,x5⟩:=aqq ht hr
   have hl:(aB r).1≠(aB s).1:=fun e1=>hne (by rw [← apm x1 x2,e1,apm s1 s2])
   have hwr:aQ (aC u) (aB r).1 1=some x.ino:=by rw [hw,lJ hl]; exact x3
   refine ⟨aqE hu x1 x2 (by rw [hwr]; rfl),.inr ?_⟩
   obtain ⟨y,y1,y2,y3⟩:=x9 hu hwr
   have hy:aC u x.ino=some y:=y1
   have hst:cJ u r=.ok y:=by rw [amX x1 hwr,hy]
   have hxx:=(aR x5).2
   have hdat:y.kind=x.kind∧y.data=x.data:=by
    rw [hi] at hy
    split at hy
    ·rename_i e1
     split at hy
     ·cases hy
     ·injection hy with hy
      rw [e1,(aR f1).2] at hxx
      injection hxx with hxx
      rw [← hy,← hxx]; exact ⟨rfl,rfl⟩
    ·split at hy
     ·rename_i e1
      injection hy with hy
      rw [e1,(aR (i7 d1).1).2] at hxx
      injection hxx with hxx
      rw [← hy,← hxx]; exact ⟨rfl,rfl⟩
     ·rw [hxx] at hy
      injection hy with hy
      rw [hy]; exact ⟨rfl,rfl⟩
   rw [ao2,ao2,x5,hst]
   simp only [hdat.1,hdat.2]
end
theorem aqr (l:List aA) (n:aA) (hl:l.length<2^48):bC Tryz.prog 26 [.ext 1 (l.map dB),.str n] (.bool (decide (n ∈ l))) [.undef,.undef]:=by
 refine U aqa [] 51 [] fun w hP hQ=>?_
 unfold apg
 refine N ?_
 refine fH [4] ?_
 refine N ?_
 refine aT [4] (fun i:Nat=>[(5,.int .i64 i)]) (fun i=>i≤l.length∧∀ k,k<i→(h:k<l.length)→decide (l[k]=n)=false) (fun i=>l.length-i) (0) hP hQ (rfl) (by simp) ?_
 rintro i ⟨hi,hk⟩ w1 hP1 hQ1
 refine N1 ?_
 (first | with_reducible refine cQ _ ?_ ?_ | refine cR _ ?_ ?_) <;> intro h1
 ·simp +decide (maxSteps:=9^9) (disch:=omega) only[↓SB0,SX,seval,hQ,hQ1,bG h1,dB]
  (first | with_reducible refine cQ _ ?_ ?_ | refine cR _ ?_ ?_) <;> intro h2
  ·refine N1 ?_
   rw [lE (by rw [← h2]; exact lO _)]
  ·refine N1 ?_
   exact ⟨i+1,rfl,⟨by omega,oB (p:=fun x:aA=>decide (x=n)) hk (by omega) (lB h2)⟩,by omega⟩
 ·obtain rfl:i=l.length:=by omega
  refine N1 ?_
  rw [lB (fun hm=>by
   obtain ⟨k,h,e⟩:=lU1 hm
   have:=hk k h h
   simp [e] at this)]
theorem aqz (l:List aA):jC (l.map dB)=true:=by
 rw [jC,lW]
 intro r hr
 obtain ⟨x,_,rfl⟩:=lV1.1 hr
 rfl
theorem apS (t:Tab) (hB:bJ t=true) (h:t.sz<2^40) (k:Nat):∀ (x:Inode) (s:aA),x ∈ t.inodes→(∃ l,aQ (aC t) l 1=some x.ino∧t.inodes.length≤l.length+k)→s.length+k*15<2^30 →
  bC Tryz.prog 82 [t.x,x.x,.str s] (.own 1 ((oF t k x s).map dB)) [.undef,.undef,.undef]:=by
 have ht:=(aV t).1 hB
 induction k with
 | zero=>
  rintro x s hx ⟨l,hl,hle⟩
  have:=(rW ht hl).1
  omega
 | succ k ih=>
  rintro x s hx ⟨l,hl,hle⟩ hs
  have few:(oF t (k+1) x s).length≤300:=by rw [wD ht _ x hx,lJ1]; exact aco ht hx _
  rw [oF] at few ⊢
  generalize hf:(fun e:Ent=>(s++[47]++e.name)::oF t k ((aC t e.ino).getD zN) (s++[47]++e.name))=f at *
  have zx:=yX h (f0 ht hx)
  have ze:=(dU zx).2.1
  refine U aps [] 233183 [] fun w hP hQ=>?_
  unfold ao0
  refine N ?_
  refine fH [9,10,11,5009,5011] ?_
  refine N ?_
  refine aT [9,10,11,5009,5011] (fun i:Nat=>[(7,.own 1 (((x.ents.take i).flatMap f).map dB)),(17,.int .i64 i)]) (fun i=>i≤x.ents.length) (fun i=>x.ents.length-i) (0) hP hQ (rfl) (by simp) ?_
  rintro i hi w1 hP1 hQ1
  refine N1 ?_
  have fi:=rE f x.ents i
  have fj:=rE f x.ents (i+1)
  (first | with_reducible refine cQ _ ?_ ?_ | refine cR _ ?_ ?_) <;> intro g
  ·have hlt:i<x.ents.length:=by omega
   have hm:x.ents[i] ∈ x.ents:=lO hlt
   have ek:=(bQ ht hx).ok _ hm
   have nl:=mI ek.1
   obtain ⟨y,hy⟩:=lB1.1 (ht.there x hx _ hm)
   obtain ⟨y1,y2⟩:=aM hy
   have kx:x.kind=2:=by
    apply Classical.byContradiction
    intro hk
    have h0:=(nY ht hx hk).1
    rw [h0] at hlt
    exact absurd hlt (by simp)
   have hA:=oY t x.ents[i].ino h
   rw [adU,hy] at hA
   simp only [lY,lQ2] at hA
   have hw:aQ (aC t) (l++[x.ents[i].name]) 1=some y.ino:=by
    rw [cG,hl]
    exact (gS _ _ _ _).2 ⟨x,f0 ht hx,kx,by rw [eL (bQ ht hx).up hm,y2],by rw [y2]; omega⟩
   have hI:=ih y (s++[47]++x.ents[i].name) y1 ⟨_,hw,by simp; omega⟩ (by simp; omega)
   have ff:f x.ents[i]=(s++[47]++x.ents[i].name)::oF t k y (s++[47]++x.ents[i].name):=by rw [← hf]; simp only [hy]; rfl
   rw [acp f hlt,ff] at fj
   simp only [lT,lV] at fj
   have hb1:(((x.ents.take i).flatMap f).length+1)*16≤140737488355328:=by omega
   have hb2:(((x.ents.take i).flatMap f).length+1+(oF t k y (s++[47]++x.ents[i].name)).length)*16≤140737488355328:=by omega
   have hb3:(s++[47]).length+x.ents[i].name.length≤4611686018427387904:=by simp; omega
   have hb4:s.length+1≤4611686018427387904:=by omega
   have hz:=And.intro (bG g) (And.intro hb1 (And.intro hb3 hb4))
   refine Nz1 ?_
   refine K1 (hA) ?_
   (first|refine cI hP1 (hI) rfl rfl ?_|refine cH hP1 (hI) rfl rfl ?_)
   simp +decide (maxSteps:=9^9) (disch:=omega) only[↓SB0,SX,seval,hQ,hQ1,hb2,aqz,lT,lJ1,List.length_singleton]
   exact ⟨i+1,by rw [acp f hlt,ff]; simp [dB],by omega,by omega⟩
  ·obtain rfl:i=x.ents.length:=by omega
   simp +decide (maxSteps:=9^9) (disch:=omega) only[↓SB0,SX,seval,hQ,hQ1,lZ1]
   all_goals first | rfl | exact ⟨rfl,rfl⟩
section
open Go.Proofs Go.Shelf
def ape:Go.Shelf.Ren:=⟨fun | 190=>83 | 125=>145 | 258=>144 | 128=>196 | 129=>197 | 302=>187 | 303=>188 | 304=>189 | 305=>190 | 306=>191 | 307=>192 | 308=>193 | 309=>194 | 310=>195 | 333=>232 | 329=>233 | 330=>234 | 334=>235 | 335=>236 | 336=>237 | 344=>258 | n=>n,
 fun | 31=>37 | 9=>9 | 3=>3 | 46=>141 | 0=>0 | 51=>178 | 53=>180 | 4=>4 | 183=>171 | 182=>170 | 131=>175 | 5=>5 | 218=>200 | 222=>204 | 228=>233 | 229=>35 | n=>n,
 fun | n=>n⟩
theorem apb:Lays.n190 Tryz.prog ape where
 mixed:=by kernel_rfl
 f125:=Tryz.func145.trans (congrArg some (by kernel_rfl))
 f128:=Tryz.func196.trans (congrArg some (by kernel_rfl))
 f129:=Tryz.func197.trans (congrArg some (by kernel_rfl))
 f190:=Tryz.func83.trans (congrArg some (by kernel_rfl))
 f258:=Tryz.func144.trans (congrArg some (by kernel_rfl))
 f302:=Tryz.func187.trans (congrArg some (by kernel_rfl))
 f303:=Tryz.func188.trans (congrArg some (by kernel_rfl))
 f304:=Tryz.func189.trans (congrArg some (by kernel_rfl))
 f305:=Tryz.func190.trans (congrArg some (by kernel_rfl))
 f306:=Tryz.func191.trans (congrArg some (by kernel_rfl))
 f307:=Tryz.func192.trans (congrArg some (by kernel_rfl))
 f308:=Tryz.func193.trans (congrArg some (by kernel_rfl))
 f309:=Tryz.func194.trans (congrArg some (by kernel_rfl))
 f310:=Tryz.func195.trans (congrArg some (by kernel_rfl))
 f329:=Tryz.func233.trans (congrArg some (by kernel_rfl))
 f330:=Tryz.func234.trans (congrArg some (by kernel_rfl))
 f333:=Tryz.func232.trans (congrArg some (by kernel_rfl))
 f334:=Tryz.func235.trans (congrArg some (by kernel_rfl))
 f335:=Tryz.func236.trans (congrArg some (by kernel_rfl))
 f336:=Tryz.func237.trans (congrArg some (by kernel_rfl))
 f344:=Tryz.func258.trans (congrArg some (by kernel_rfl))
 t0:=Tryz.underlying0
 a0:=Tryz.isAgg0
 z0:=Tryz.sizeOf0
 v0:=Tryz.zeroValue0
 t3:=Tryz.underlying3
 a3:=Tryz.isAgg3
 z3:=Tryz.sizeOf3
 v3:=Tryz.zeroValue3
 t4:=Tryz.underlying4
 a4:=Tryz.isAgg4
 z4:=Tryz.sizeOf4
 v4:=Tryz.zeroValue4
 t5:=Tryz.underlying5
 a5:=Tryz.isAgg5
 z5:=Tryz.sizeOf5
 v5:=Tryz.zeroValue5
 t9:=Tryz.underlying9
 a9:=Tryz.isAgg9
 z9:=Tryz.sizeOf9
 v9:=Tryz.zeroValue9
 t31:=Tryz.underlying37
 a31:=Tryz.isAgg37
 z31:=Tryz.sizeOf37
 v31:=Tryz.zeroValue37
 t46:=Tryz.underlying141
 a46:=Tryz.isAgg141
 z46:=Tryz.sizeOf141
 v46:=Tryz.zeroValue141
 t51:=Tryz.underlying178
 a51:=Tryz.isAgg178
 z51:=Tryz.sizeOf178
 v51:=Tryz.zeroValue178
 t53:=Tryz.underlying180
 a53:=Tryz.isAgg180
 z53:=Tryz.sizeOf180
 v53:=Tryz.zeroValue180
 t131:=Tryz.underlying175
 a131:=Tryz.isAgg175
 z131:=Tryz.sizeOf175
 v131:=Tryz.zeroValue175
 t182:=Tryz.underlying170
 a182:=Tryz.isAgg170
 z182:=Tryz.sizeOf170
 v182:=Tryz.zeroValue170
 t183:=Tryz.underlying171
 a183:=Tryz.isAgg171
 z183:=Tryz.sizeOf171
 v183:=Tryz.zeroValue171
 t218:=Tryz.underlying200
 a218:=Tryz.isAgg200
 z218:=Tryz.sizeOf200
 v218:=Tryz.zeroValue200
 t222:=Tryz.underlying204
 a222:=Tryz.isAgg204
 z222:=Tryz.sizeOf204
 v222:=Tryz.zeroValue204
 t228:=Tryz.underlying233
 a228:=Tryz.isAgg233
 z228:=Tryz.sizeOf233
 v228:=Tryz.zeroValue233
 t229:=Tryz.underlying35
 a229:=Tryz.isAgg35
 z229:=Tryz.sizeOf35
 v229:=Tryz.zeroValue35
end
theorem aqA {w:World} {o:Bool} (l:List aA):Row w o (fun _=>0) (l.map cK) (l.map dB).flatten:=by
 induction l with
 | nil=>exact .nil _ _ fun _=>rfl
 | cons n l ih=>
  have e:((n::l).map dB).flatten=.str n::(l.map dB).flatten:=by simp [dB]
  rw [e]
  exact .str _ _ _ _ _ ih
abbrev apf (l:List aA):List aA:=l.mergeSort fun x y=>decide (x≤y)
theorem aqF (l:List aA) (hl:l.length<2^40):bC Tryz.prog 83 [.own 1 (l.map dB)] (.tup []) [.own 1 ((apf l).map dB)]:=by
 refine ⟨⟨_,Tryz.func83,by kernel_rfl,by kernel_rfl⟩,rfl,?_⟩
 intro w vs F X r h1 h2 h3
 have hlen:(apf l).length=l.length:=List.length_mergeSort l
 cases r with
 | own _ F1 F2 _ s es v vs ys hr hn hF=>
  cases hn with
  | nil _ _ hF2 hX=>
   rcases Row.sl_inv hr with ⟨rfl,he,h0⟩ | ⟨G1,b,off,cap,C,ty,fr,cs,rfl,hb,hfr,hcap,hle,hes,hcs,hc,hrow,hG⟩
   ·have hl0:l=[]:=by simpa using he
    subst hl0
    refine (Any.slices_Sort_string_none apb none 0 w).mono ?_
    rintro e w' ⟨rfl,rfl⟩
    refine ⟨.tuple #[],F,X,rfl,?_,h1,h2,⟨lR1 _,.refl _⟩,fun b _ _=>rfl,fun b hb=>.inl hb,fun b hb=>⟨.inl hb,h3 b hb⟩⟩
    refine .tup F (fun _=>0) F X (fun _=>0) X [] [] _ _ RepA.znil ?_ (fun x=>by omega) (fun x=>by omega)
    exact .own F F1 F2 X 1 _ _ _ _ (by simpa [apf] using hr) (.nil _ _ hF2 hX) hF
   ·obtain ⟨hce,hG1⟩:=akU l hrow
    have hrl:(l.map dB).length=l.length:=lJ1 _
    have hcsl:cs.length=l.length:=by rw [hce,lJ1]
    rw [hrl] at hle ⊢
    have hsz:off+l.length≤C.size:=by omega
    have hbl:b<w.heap.size:=(Array.getElem?_eq_some_iff.1 hb).1
    have hH:Go.Sort.Holds cK w b off l.toArray:=by
     intro j hj
     have hj':j<l.length:=by simpa using hj
     have e1:=hc j (by omega)
     rw [hce,lI1,lK hj'] at e1
     refine ⟨?_,?_⟩
     ·simp only [World.cell?,hb,lD,e1,lC]
      simp [getElem!_pos,hj']
     ·have:=hfr (off+j) (by omega)
      simp [World.frozen?,hb]
      simpa using this
    refine (Any.slices_Sort_string apb b off cap l w hH hbl (by omega)).mono ?_
    rintro e w' ⟨rfl,n,os,rfl⟩
    have hw:∀ x,x≠b→x<w.heap.size→(Go.Sort.grow (Go.Sort.putRow cK (Go.Sort.ahead w n) b off (apf l).toArray) os).heap[x]?=w.heap[x]?:=by
     intro x hx hxl
     simp only [Go.Sort.grow,Go.Sort.putRow,Go.Sort.mapBlock,Go.Sort.ahead]
     rw [Array.getElem?_append_left (by simpa using hxl),lM4,lJ (Ne.symm hx)]
    have hwb:(Go.Sort.grow (Go.Sort.putRow cK (Go.Sort.ahead w n) b off (apf l).toArray) os).heap[b]?=some (.cells (Go.Sort.putCells cK off (apf l).toArray C) ty fr):=by
     simp only [Go.Sort.grow,Go.Sort.putRow,Go.Sort.mapBlock,Go.Sort.ahead]
     rw [Array.getElem?_append_left (by simpa using hbl),lM4,lG rfl,hb]; rfl
    have hsz2:(Go.Sort.putCells cK off (apf l).toArray C).size=C.size:=by simp [Go.Sort.putCells]
    have hrow2:Row (Go.Sort.grow (Go.Sort.putRow cK (Go.Sort.ahead w n) b off (apf l).toArray) os) true F1 [.slice (some ⟨b,off,none⟩) l.length cap] [.sl 1 ((apf l).map dB)]:=by
     refine Row.of_sl (F1:=fun _=>0) (cs:=(apf l).map cK) (by rw [lJ1,hlen]) hwb (by rw [hsz2]; exact hfr) (by rw [hsz2]; exact hcap) (by rw [lJ1,hlen]; exact hle) ?_ ?_ ?_ (aqA _) (fun x=>by have:=hG x; have:=hG1 x; omega)
     ·intro e he
      obtain ⟨x,_,rfl⟩:=lV1.1 he
      rfl
     ·simp
     ·intro k hk
      rw [lJ1,hlen] at hk
      rw [lI1,lK (by rw [hlen]; exact hk)]
      have hin:off≤off+k∧off+k<off+(apf l).length:=by omega
      simp only [Go.Sort.putCells,Array.getElem?_mapIdx,List.size_toArray]
      rw [lE1 (by omega),lC,lG hin,lC]
      simp [Nat.add_sub_cancel_left,getElem!_pos,hlen,hk]
    refine ⟨.tuple #[],F,X,rfl,?_,h1,h2,⟨?_,⟨rfl,rfl⟩⟩,fun x hx h0=>hw x (fun e=>?_) hx,fun x hx=>.inl hx,fun x hx=>⟨.inl hx,?_⟩⟩
    ·refine .tup F (fun _=>0) F X (fun _=>0) X [] [] _ _ RepA.znil ?_ (fun x=>by omega) (fun x=>by omega)
     exact .own F F1 F2 X 1 _ _ _ _ hrow2 (.nil _ _ hF2 hX) hF
    ·simp only [Go.Sort.grow,Go.Sort.putRow,Go.Sort.mapBlock,Go.Sort.ahead,Array.size_append,Array.size_modify]; omega
    ·subst e
     have:=hF x; have:=hG x
     simp at *; omega
    ·have:=h3 x hx
     simp only [Go.Sort.grow,Go.Sort.putRow,Go.Sort.mapBlock,Go.Sort.ahead,Array.size_append,Array.size_modify]; omega
def aqf (t:Tab):List aA:=if bJ t=true then dT t else []
theorem apO (t:Tab) (h:t.sz<2^40):bC Tryz.prog 24 [t.x] (.own 1 ((aqf t).map dB)) [.undef]:=by
 have hT:=ajc t h
 unfold aqf
 cases hB:bJ t with
 | false=>
  rw [hB] at hT
  rw [lJ (by simp)]
  refine U aph [] 47 [] fun w hP hQ=>?_
  unfold ao1
  refine N ?_
  (first|refine cI hP (hT) rfl rfl ?_|refine cH hP (hT) rfl rfl ?_)
  simp +decide (maxSteps:=9^9) (disch:=omega) only[↓SB0,SX,seval,hQ]
  all_goals first | rfl | exact ⟨rfl,rfl⟩
 | true=>
  rw [hB] at hT
  rw [lG rfl]
  have ht:=(aV t).1 hB
  obtain ⟨r,r1,r2,r3⟩:=eM ht
  have r4:=(aM r1).2
  have hA:=oY t 1 h
  rw [adU,r1] at hA
  simp only [lY,lQ2] at hA
  have hl:t.inodes.length≤30:=ht.tab.len
  have hPb:=apS t hB h 30 r [] r3 ⟨[],by rw [r4]; rfl,by simpa using hl⟩ (by simp)
  rw [afq ht r1] at hPb
  have few:(yB t).length≤300:=by rw [← afq ht r1,wD ht _ r r3,lJ1]; exact aco ht r3 _
  have hS:=aqF (yB t) (by omega)
  rw [show apf (yB t)=dT t from rfl] at hS
  refine U aph [(83,[.l],[])] 47 [] fun w hP hQ=>?_
  unfold ao1
  refine N ?_
  refine K (hT) ?_
  refine K (hA) ?_
  refine K (hPb) ?_
  (first|refine cI hP (hS) rfl rfl ?_|refine cH hP (hS) rfl rfl ?_)
  simp +decide (maxSteps:=9^9) (disch:=omega) only[↓SB0,SX,seval,hQ]
  all_goals first | rfl | exact ⟨rfl,rfl⟩
theorem aqg (m:Nat) (h:m<100):dN [[TV.int .u8 (97+(m:Int))]]=some [UInt8.ofNat (97+m)]:=by
 have e:[[TV.int .u8 (97+(m:Int))]]=aO [UInt8.ofNat (97+m)]:=by simp [aO]; omega
 rw [e,adx]
theorem aqB (v:Value) (b:aA) (i:Nat) (h:Int) (hl:b.length<2^48) (hi:i≤b.length):∃ (t':Tab) (i':Nat) (h':Int),t'.sz<2^28∧i'≤b.length ∧
  bC Tryz.prog 138 [cur v b i h] t'.o [cur v b i' h']:=by
 obtain ⟨c,i1,h1,hi1,k1⟩:=aaz v b i h 2 hl hi (by omega)
 obtain ⟨e,i2,h2,hi2,k2⟩:=aaz v b i1 h1 4 hl hi1 (by omega)
 have key:∃ ret outs,(∃ (t':Tab) (i':Nat) (h':Int),t'.sz<2^28∧i'≤b.length∧ret=t'.o∧outs=[cur v b i' h'])∧bC Tryz.prog 138 [cur v b i h] ret outs:=by
  unfold cur at *
  refine mD hmx aqi [(96,[.l,.b],[])] 125 rfl [true] ⟨lO1 rfl,lO1 rfl⟩ rfl ?_
  intro w hP hQ
  unfold apM
  refine N ?_
  (first | refine aI hP (aci) (.inl ⟨rfl,fun _ hx=>hx⟩) ?_ | refine aF hP (aci) (.inl ⟨rfl,fun _ hx=>hx⟩) ?_)
  refine N ?_
  refine fH [5,6] ?_
  refine N ?_
  refine aT [5,6] (fun s:Nat × Tab=>[(5003,.box [.own 6 (s.2.inodes.map Inode.row),.int .i64 s.2.next]),(4,.int .i64 (s.1:Nat))]) (fun s=>bJ s.2=true∧s.1≤4) (fun s=>4-s.1) ((0,tab1)) hP hQ (rfl) (⟨aju,by simp⟩) ?_
  rintro ⟨m,t⟩ ⟨ht,hm⟩ w1 hP1 hQ1
  refine N1 ?_
  simp only at ht hm
  have hz:=agz ht
  (first | with_reducible refine cQ _ ?_ ?_ | refine cR _ ?_ ?_) <;> intro g1
  ·have e1:=aqg m (by omega)
   generalize UInt8.ofNat (97+m)=y at e1
   have hz:=e1
   refine Nz1 ?_
   (first | refine aI hP1 (oZ t [47,y] (by omega) (by simp)) (.inl ⟨rfl,fun _ hx=>hx⟩) ?_ | refine aF hP1 (oZ t [47,y] (by omega) (by simp)) (.inl ⟨rfl,fun _ hx=>hx⟩) ?_)
   refine N1 ?_
   generalize htt:(fM t [47,y] 2).1=t1
   have ht1:bJ t1=true:=by rw [← htt]; exact mO ht _ (.inr rfl)
   refine fH [] ?_
   refine N1 ?_
   refine aT [] (fun s:Nat × Tab=>[(5003,.box [.own 6 (s.2.inodes.map Inode.row),.int .i64 s.2.next]),(6,.int .i64 (s.1:Nat))]) (fun s=>bJ s.2=true∧s.1≤7) (fun s=>7-s.1) ((0,t1)) hP1 hQ1 (rfl) (⟨ht1,by simp⟩) ?_
   rintro ⟨k,t2⟩ ⟨ht2,hk⟩ w2 hP2 hQ2
   refine N2 ?_
   simp only at ht2 hk
   have hz2:=agz ht2
   (first | with_reducible refine cQ _ ?_ ?_ | refine cR _ ?_ ?_) <;> intro g2
   ·have e2:=aqg k (by omega)
    generalize UInt8.ofNat (97+k)=z at e2
    have hz:=e2
    refine Nz2 ?_
    (first | refine aI hP2 (mR t2 [47,y,47,z] (by omega) (by simp)) (.inl ⟨rfl,fun _ hx=>hx⟩) ?_ | refine aF hP2 (mR t2 [47,y,47,z] (by omega) (by simp)) (.inl ⟨rfl,fun _ hx=>hx⟩) ?_)
    refine N2 ?_
    exact ⟨(k+1,(fM t2 [47,y,47,z] 1).1),rfl,⟨mO ht2 _ (.inl rfl),by simp only; omega⟩,by simp only; omega⟩
   ·refine N2 ?_
    exact ⟨(m+1,t2),rfl,⟨ht2,by simp only; omega⟩,by simp only; omega⟩
  ·refine N1 ?_
   (first | refine aI hP (k1) (.inl ⟨rfl,fun _ hx=>hx⟩) ?_ | refine aF hP (k1) (.inl ⟨rfl,fun _ hx=>hx⟩) ?_)
   refine N ?_
   have hu:=aar ht [47,97,47,97]
   have hz3:=agz hu
   cases c with
   | true=>
    refine N ?_
    (first | refine aI hP (acj t [47,97,47,97] (by omega) (by simp)) (.inl ⟨rfl,fun _ hx=>hx⟩) ?_ | refine aF hP (acj t [47,97,47,97] (by omega) (by simp)) (.inl ⟨rfl,fun _ hx=>hx⟩) ?_)
    refine N ?_
    (first | refine aI hP (k2) (.inl ⟨rfl,fun _ hx=>hx⟩) ?_ | refine aF hP (k2) (.inl ⟨rfl,fun _ hx=>hx⟩) ?_)
    refine N ?_
    cases e with
    | true=>
     refine N ?_
     exact ⟨{ (fV t [47,97,47,97]).1 with next:=1000 },i2,h2,by show (fV t [47,97,47,97]).1.sz<_; omega,hi2,rfl,rfl⟩
    | false=>
     refine N ?_
     exact ⟨(fV t [47,97,47,97]).1,i2,h2,by omega,hi2,rfl,rfl⟩
   | false=>
    refine N ?_
    (first | refine aI hP (k2) (.inl ⟨rfl,fun _ hx=>hx⟩) ?_ | refine aF hP (k2) (.inl ⟨rfl,fun _ hx=>hx⟩) ?_)
    refine N ?_
    cases e with
    | true=>
     refine N ?_
     exact ⟨{ t with next:=1000 },i2,h2,by show t.sz<_; omega,hi2,rfl,rfl⟩
    | false=>
     refine N ?_
     exact ⟨t,i2,h2,by omega,hi2,rfl,rfl⟩
 obtain ⟨_,_,⟨t',i',h',ht',hi',rfl,rfl⟩,hS⟩:=key
 exact ⟨t',i',h',ht',hi',hS⟩
theorem aqe (k:Nat) (h:k<4):∃ s:aA,s.length≤5∧([[TV.str [97]],[TV.str [98]],[TV.str [99]],[TV.str [100,46,116,120,116]]]:List (List TV))[k]?=some [TV.str s]:=by
 match k,h with
 | 0,_=>exact ⟨_,by decide,rfl⟩
 | 1,_=>exact ⟨_,by decide,rfl⟩
 | 2,_=>exact ⟨_,by decide,rfl⟩
 | 3,_=>exact ⟨_,by decide,rfl⟩
theorem aqC (v:Value) (b:aA) (i:Nat) (h:Int) (hl:b.length<2^48) (hi:i≤b.length):∃ (x:Inode) (i':Nat) (h':Int),x.sz<1000∧i'≤b.length ∧
  bC Tryz.prog 199 [cur v b i h] x.o [cur v b i' h']:=by
 obtain ⟨n,i1,h1,hn,hi1,k1⟩:=i9 v b i h 6 hl hi (by omega)
 obtain ⟨m,i2,h2,hm,hi2,k2⟩:=i9 v b i1 h1 2 hl hi1 (by omega)
 have hn':(n:Int)<6:=by rw [wS,lG (by omega)] at hn; exact hn
 have hm':(m:Int)<2:=by rw [wS,lG (by omega)] at hm; exact hm
 have key:∃ ret outs,(∃ (x:Inode) (i':Nat) (h':Int),x.sz<1000∧i'≤b.length∧ret=x.o∧outs=[cur v b i' h'])∧bC Tryz.prog 199 [cur v b i h] ret outs:=by
  unfold cur at *
  by_cases g:m=0
  ·subst g
   obtain ⟨r,i3,h3,hr,hi3,k3⟩:=wE v b i2 h2 [0,1,5,20,100] hl hi2 (by simp) (by simp)
   have hr':0≤r∧r≤100:=by simp at hr; omega
   obtain ⟨y,i4,h4,hy,hi4,k4⟩:=ajr v b i3 h3 r hl hi3 (by omega)
   unfold cur at *
   simp only [eO,lP,lA2] at k3
   refine mD hmx apN [(101,[.l,.b],[]),(153,[.l,.b],[]),(223,[.l,.b],[]),(96,[.l,.b],[]),(149,[.l,.b],[])] 125 rfl [true] ⟨lO1 rfl,lO1 rfl⟩ rfl ?_
   intro w hP hQ
   unfold ao7
   refine N ?_
   (first | refine aI hP (k1) (.inl ⟨rfl,fun _ hx=>hx⟩) ?_ | refine aF hP (k1) (.inl ⟨rfl,fun _ hx=>hx⟩) ?_)
   refine N ?_
   (first | refine aI hP (k2) (.inl ⟨rfl,fun _ hx=>hx⟩) ?_ | refine aF hP (k2) (.inl ⟨rfl,fun _ hx=>hx⟩) ?_)
   refine N ?_
   obtain ⟨q,i5,h5,hq,hi5,k5⟩:=i9 v b i4 h4 2 hl hi4 (by omega)
   have hq':(q:Int)<2:=by rw [wS,lG (by omega)] at hq; exact hq
   unfold cur at k5
   (first | refine aI hP (k3) (.inl ⟨rfl,fun _ hx=>hx⟩) ?_ | refine aF hP (k3) (.inl ⟨rfl,fun _ hx=>hx⟩) ?_)
   refine N ?_
   (first | refine aI hP (k4) (.inl ⟨rfl,fun _ hx=>hx⟩) ?_ | refine aF hP (k4) (.inl ⟨rfl,fun _ hx=>hx⟩) ?_)
   refine N ?_
   (first | refine aI hP (k5) (.inl ⟨rfl,fun _ hx=>hx⟩) ?_ | refine aF hP (k5) (.inl ⟨rfl,fun _ hx=>hx⟩) ?_)
   refine N ?_
   refine fH [] ?_
   refine N ?_
   refine aT [] (fun s:Nat × List Attr × Nat × Int=>[(1000,.box [.extv v 1 (aO b),.int .i64 (s.2.2.1:Nat),.int .i64 s.2.2.2]),(5003,.box [.int .i64 (2+(n:Int)),.int .i64 1,.int .i64 (1+(q:Int)),.own 1 (aO y),.own 2 [],.own 2 (s.2.1.map Attr.row)]),(6,.int .i64 (s.1:Nat))]) (fun s=>s.1≤2∧szM Attr.sz s.2.1≤s.1*40∧s.2.2.1≤b.length) (fun s=>2-s.1) ((0,[],i5,h5)) hP hQ (rfl) (⟨by simp,by simp [szM],hi5⟩) ?_
   rintro ⟨k,at',j,g⟩ ⟨hk,hz,hj⟩ w1 hP1 hQ1
   refine N1 ?_
   simp only at hk hz hj
   (first | with_reducible refine cQ _ ?_ ?_ | refine cR _ ?_ ?_) <;> intro g1
   ·obtain ⟨c,j1,g2,hj1,k6⟩:=aaz v b j g 3 hl hj (by omega)
    cases c with
    | false=>
     unfold cur at k6
     refine N1 ?_
     (first | refine aI hP1 (k6) (.inl ⟨rfl,fun _ hx=>hx⟩) ?_ | refine aF hP1 (k6) (.inl ⟨rfl,fun _ hx=>hx⟩) ?_)
     refine N1 ?_
     exact ⟨(k+1,at',j1,g2),rfl,⟨by simp only; omega,by simp only; omega,hj1⟩,by simp only; omega⟩
    | true=>
     obtain ⟨nm,hnm,hget⟩:=aqe k (by omega)
     have hg2:(k:Int)<4:=by omega
     obtain ⟨z,j2,g3,hz2,hj2,k7⟩:=ad7 v b j1 g2 [[120],[118,97,108,117,101],[115,105,120,116,101,101,110,98,121,116,101,115,120,120,120,120]] hl hj1 (by simp) (by simp)
     have hz3:z.length≤16:=by
      simp only [lF,List.not_mem_nil,or_false] at hz2
      rcases hz2 with rfl | rfl | rfl <;> simp
     have hal:at'.length≤k*40:=by simp only [szM] at hz; omega
     have hb:(at'.length+1)*32≤140737488355328:=by omega
     have ha:szM Attr.sz (at'++[⟨nm,z⟩])=szM Attr.sz at' + 1+(nm.length+z.length):=by simp [szM,Attr.sz]; omega
     unfold cur at k6 k7
     simp only [dB,lP,lA2] at k7
     refine N1 ?_
     (first | refine aI hP1 (k6) (.inl ⟨rfl,fun _ hx=>hx⟩) ?_ | refine aF hP1 (k6) (.inl ⟨rfl,fun _ hx=>hx⟩) ?_)
     have hz:=And.intro hget hg2
     refine Nz1 ?_
     (first | refine aI hP1 (k7) (.inl ⟨rfl,fun _ hx=>hx⟩) ?_ | refine aF hP1 (k7) (.inl ⟨rfl,fun _ hx=>hx⟩) ?_)
     have hz:=And.intro hget (And.intro hg2 hb)
     refine Nz1 ?_
     exact ⟨(k+1,at'++[⟨nm,z⟩],j2,g3),by simp [Attr.row],⟨by simp only; omega,by simp only; omega,hj2⟩,by simp only; omega⟩
   ·refine N1 ?_
    exact ⟨{ ino:=2+n,kind:=1,links:=1+q,data:=y,ents:=[],attrs:=at' },j,g,by show y.length+szM Ent.sz []+szM Attr.sz at'<1000; simp [szM] at *; omega,hj,rfl,rfl⟩
  ·obtain rfl:m=1:=by omega
   refine mD hmx apN [(101,[.l,.b],[]),(153,[.l,.b],[]),(223,[.l,.b],[]),(96,[.l,.b],[]),(149,[.l,.b],[])] 125 rfl [true] ⟨lO1 rfl,lO1 rfl⟩ rfl ?_
   intro w hP hQ
   unfold ao7
   refine N ?_
   (first | refine aI hP (k1) (.inl ⟨rfl,fun _ hx=>hx⟩) ?_ | refine aF hP (k1) (.inl ⟨rfl,fun _ hx=>hx⟩) ?_)
   refine N ?_
   (first | refine aI hP (k2) (.inl ⟨rfl,fun _ hx=>hx⟩) ?_ | refine aF hP (k2) (.inl ⟨rfl,fun _ hx=>hx⟩) ?_)
   refine N ?_
   refine fH [] ?_
   refine N ?_
   refine aT [] (fun s:Nat × List Ent × Nat × Int=>[(1000,.box [.extv v 1 (aO b),.int .i64 (s.2.2.1:Nat),.int .i64 s.2.2.2]),(5003,.box [.int .i64 (2+(n:Int)),.int .i64 2,.int .i64 1,.own 1 [],.own 2 (s.2.1.map Ent.row),.own 2 []]),(5,.int .i64 (s.1:Nat))]) (fun s=>s.1≤4∧szM Ent.sz s.2.1≤s.1*40∧s.2.2.1≤b.length) (fun s=>4-s.1) ((0,[],i2,h2)) hP hQ (rfl) (⟨by simp,by simp [szM],hi2⟩) ?_
   rintro ⟨k,es,ie,he⟩ ⟨hk0,hze,hie⟩ w1 hP1 hQ1
   refine N1 ?_
   simp only at hk0 hze hie
   (first | with_reducible refine cQ _ ?_ ?_ | refine cR _ ?_ ?_) <;> intro g0
   ·obtain ⟨c,j1,g2,hj1,k6⟩:=aaz v b ie he 2 hl hie (by omega)
    cases c with
    | false=>
     unfold cur at k6
     refine N1 ?_
     (first | refine aI hP1 (k6) (.inl ⟨rfl,fun _ hx=>hx⟩) ?_ | refine aF hP1 (k6) (.inl ⟨rfl,fun _ hx=>hx⟩) ?_)
     refine N1 ?_
     exact ⟨(k+1,es,j1,g2),rfl,⟨by simp only; omega,by simp only; omega,hj1⟩,by simp only; omega⟩
    | true=>
     obtain ⟨nm,hnm,hget⟩:=aqe k (by omega)
     obtain ⟨z,j2,g3,hz2,hj2,k7⟩:=i9 v b j1 g2 8 hl hj1 (by omega)
     have hal:es.length≤k*40:=by simp only [szM] at hze; omega
     have hb:(es.length+1)*24≤140737488355328:=by omega
     have ha:szM Ent.sz (es++[⟨nm,2+(z:Int)⟩])=szM Ent.sz es+1+nm.length:=by simp [szM,Ent.sz]; omega
     have hzz:(z:Int)<8:=by rw [wS,lG (by omega)] at hz2; exact hz2
     unfold cur at k6 k7
     refine N1 ?_
     (first | refine aI hP1 (k6) (.inl ⟨rfl,fun _ hx=>hx⟩) ?_ | refine aF hP1 (k6) (.inl ⟨rfl,fun _ hx=>hx⟩) ?_)
     have hz:=And.intro hget g0
     refine Nz1 ?_
     (first | refine aI hP1 (k7) (.inl ⟨rfl,fun _ hx=>hx⟩) ?_ | refine aF hP1 (k7) (.inl ⟨rfl,fun _ hx=>hx⟩) ?_)
     have hz:=And.intro hget (And.intro g0 hb)
     refine Nz1 ?_
     exact ⟨(k+1,es++[⟨nm,2+(z:Int)⟩],j2,g3),by simp [Ent.row],⟨by simp only; omega,by simp only; omega,hj2⟩,by simp only; omega⟩
   ·refine N1 ?_
    refine fH [] ?_
    refine N ?_
    refine aT [] (fun s:Nat × List Attr × Nat × Int=>[(1000,.box [.extv v 1 (aO b),.int .i64 (s.2.2.1:Nat),.int .i64 s.2.2.2]),(5003,.box [.int .i64 (2+(n:Int)),.int .i64 2,.int .i64 1,.own 1 [],.own 2 (es.map Ent.row),.own 2 (s.2.1.map Attr.row)]),(6,.int .i64 (s.1:Nat))]) (fun s=>s.1≤2∧szM Attr.sz s.2.1≤s.1*40∧s.2.2.1≤b.length) (fun s=>2-s.1) ((0,[],ie,he)) hP hQ (rfl) (⟨by simp,by simp [szM],hie⟩) ?_
    rintro ⟨k,at',j,g⟩ ⟨hk,hz,hj⟩ w1 hP1 hQ1
    refine N1 ?_
    simp only at hk hz hj
    (first | with_reducible refine cQ _ ?_ ?_ | refine cR _ ?_ ?_) <;> intro g1
    ·obtain ⟨c,j1,g2,hj1,k6⟩:=aaz v b j g 3 hl hj (by omega)
     cases c with
     | false=>
      unfold cur at k6
      refine N1 ?_
      (first | refine aI hP1 (k6) (.inl ⟨rfl,fun _ hx=>hx⟩) ?_ | refine aF hP1 (k6) (.inl ⟨rfl,fun _ hx=>hx⟩) ?_)
      refine N1 ?_
      exact ⟨(k+1,at',j1,g2),rfl,⟨by simp only; omega,by simp only; omega,hj1⟩,by simp only; omega⟩
     | true=>
      obtain ⟨nm,hnm,hget⟩:=aqe k (by omega)
      have hg2:(k:Int)<4:=by omega
      obtain ⟨z,j2,g3,hz2,hj2,k7⟩:=ad7 v b j1 g2 [[120],[118,97,108,117,101],[115,105,120,116,101,101,110,98,121,116,101,115,120,120,120,120]] hl hj1 (by simp) (by simp)
      have hz3:z.length≤16:=by
       simp only [lF,List.not_mem_nil,or_false] at hz2
       rcases hz2 with rfl | rfl | rfl <;> simp
      have hal:at'.length≤k*40:=by simp only [szM] at hz; omega
      have hb:(at'.length+1)*32≤140737488355328:=by omega
      have ha:szM Attr.sz (at'++[⟨nm,z⟩])=szM Attr.sz at' + 1+(nm.length+z.length):=by simp [szM,Attr.sz]; omega
      unfold cur at k6 k7
      simp only [dB,lP,lA2] at k7
      refine N1 ?_
      (first | refine aI hP1 (k6) (.inl ⟨rfl,fun _ hx=>hx⟩) ?_ | refine aF hP1 (k6) (.inl ⟨rfl,fun _ hx=>hx⟩) ?_)
      have hz:=And.intro hget hg2
      refine Nz1 ?_
      (first | refine aI hP1 (k7) (.inl ⟨rfl,fun _ hx=>hx⟩) ?_ | refine aF hP1 (k7) (.inl ⟨rfl,fun _ hx=>hx⟩) ?_)
      have hz:=And.intro hget (And.intro hg2 hb)
      refine Nz1 ?_
      exact ⟨(k+1,at'++[⟨nm,z⟩],j2,g3),by simp [Attr.row],⟨by simp only; omega,by simp only; omega,hj2⟩,by simp only; omega⟩
    ·refine N1 ?_
     exact ⟨{ ino:=2+n,kind:=2,links:=1,data:=[],ents:=es,attrs:=at' },j,g,by show ([]:aA).length+szM Ent.sz es+szM Attr.sz at'<1000; simp only [List.length_nil]; omega,hj,rfl,rfl⟩
 obtain ⟨_,_,⟨t',i',h',ht',hi',rfl,rfl⟩,hS⟩:=key
 exact ⟨t',i',h',ht',hi',hS⟩
theorem aqs (v:Value) (b:aA) (i:Nat) (h:Int) (hl:b.length<2^48) (hi:i≤b.length):∃ (x:Inode) (i':Nat) (h':Int),x.sz<2000∧i'≤b.length ∧
  bC Tryz.prog 154 [cur v b i h] x.o [cur v b i' h']:=by
 obtain ⟨x,i1,h1,hx,hi1,k1⟩:=aqC v b i h hl hi
 obtain ⟨n,i2,h2,hn,hi2,k2⟩:=i9 v b i1 h1 14 hl hi1 (by omega)
 obtain ⟨z1,z2,z3⟩:=dU hx
 have zD:x.sz=x.data.length+szM Ent.sz x.ents+szM Attr.sz x.attrs:=rfl
 have hn':n<14:=by rw [wS,lG (by omega)] at hn; omega
 have key:∃ ret outs,(∃ (y:Inode) (i':Nat) (h':Int),y.sz<2000∧i'≤b.length∧ret=y.o∧outs=[cur v b i' h'])∧bC Tryz.prog 154 [cur v b i h] ret outs:=by
  unfold cur at *
  by_cases g0:n=0
  ·subst g0
   obtain ⟨r,i3,h3,hr,hi3,k3⟩:=wE v b i2 h2 [0,1,1000,1001] hl hi2 (by simp) (by simp)
   unfold cur at k3
   simp only [eO,lP,lA2] at k3
   refine mD hmx kV [(101,[.l,.b],[]),(153,[.l,.b],[]),(199,[.l],[]),(149,[.l,.b],[])] 141 rfl [true] ⟨lO1 rfl,lO1 rfl⟩ rfl ?_
   intro w hP hQ
   unfold kG
   refine N ?_
   (first | refine aI hP (k1) (.inl ⟨rfl,fun _ hx=>hx⟩) ?_ | refine aF hP (k1) (.inl ⟨rfl,fun _ hx=>hx⟩) ?_)
   refine N ?_
   (first | refine aI hP (k2) (.inl ⟨rfl,fun _ hx=>hx⟩) ?_ | refine aF hP (k2) (.inl ⟨rfl,fun _ hx=>hx⟩) ?_)
   refine N ?_
   (first | refine aI hP (k3) (.inl ⟨rfl,fun _ hx=>hx⟩) ?_ | refine aF hP (k3) (.inl ⟨rfl,fun _ hx=>hx⟩) ?_)
   refine N ?_
   exact ⟨{ x with ino:=r },i3,h3,by show x.sz<2000; omega,hi3,rfl,rfl⟩
  by_cases g1:n=1
  ·subst g1
   obtain ⟨r,i3,h3,hr,hi3,k3⟩:=i9 v b i2 h2 4 hl hi2 (by omega)
   unfold cur at k3
   refine mD hmx kV [(101,[.l,.b],[]),(153,[.l,.b],[]),(199,[.l],[]),(149,[.l,.b],[])] 141 rfl [true] ⟨lO1 rfl,lO1 rfl⟩ rfl ?_
   intro w hP hQ
   unfold kG
   refine N ?_
   (first | refine aI hP (k1) (.inl ⟨rfl,fun _ hx=>hx⟩) ?_ | refine aF hP (k1) (.inl ⟨rfl,fun _ hx=>hx⟩) ?_)
   refine N ?_
   (first | refine aI hP (k2) (.inl ⟨rfl,fun _ hx=>hx⟩) ?_ | refine aF hP (k2) (.inl ⟨rfl,fun _ hx=>hx⟩) ?_)
   refine N ?_
   (first | refine aI hP (k3) (.inl ⟨rfl,fun _ hx=>hx⟩) ?_ | refine aF hP (k3) (.inl ⟨rfl,fun _ hx=>hx⟩) ?_)
   refine N ?_
   exact ⟨{ x with kind:=r },i3,h3,by show x.sz<2000; omega,hi3,rfl,rfl⟩
  by_cases g2:n=2
  ·subst g2
   obtain ⟨r,i3,h3,hr,hi3,k3⟩:=wE v b i2 h2 [-1,0,2,1001] hl hi2 (by simp) (by simp)
   unfold cur at k3
   simp only [eO,lP,lA2] at k3
   refine mD hmx kV [(101,[.l,.b],[]),(153,[.l,.b],[]),(199,[.l],[]),(149,[.l,.b],[])] 141 rfl [true] ⟨lO1 rfl,lO1 rfl⟩ rfl ?_
   intro w hP hQ
   unfold kG
   refine N ?_
   (first | refine aI hP (k1) (.inl ⟨rfl,fun _ hx=>hx⟩) ?_ | refine aF hP (k1) (.inl ⟨rfl,fun _ hx=>hx⟩) ?_)
   refine N ?_
   (first | refine aI hP (k2) (.inl ⟨rfl,fun _ hx=>hx⟩) ?_ | refine aF hP (k2) (.inl ⟨rfl,fun _ hx=>hx⟩) ?_)
   refine N ?_
   (first | refine aI hP (k3) (.inl ⟨rfl,fun _ hx=>hx⟩) ?_ | refine aF hP (k3) (.inl ⟨rfl,fun _ hx=>hx⟩) ?_)
   refine N ?_
   exact ⟨{ x with links:=r },i3,h3,by show x.sz<2000; omega,hi3,rfl,rfl⟩
  by_cases g3:n=3
  ·subst g3
   have hb1:(x.data.length+1)*1≤140737488355328:=by omega
   have hb2:x.data.length+1≤140737488355328:=by omega
   refine mD hmx kV [(101,[.l,.b],[]),(153,[.l,.b],[]),(199,[.l],[]),(149,[.l,.b],[])] 141 rfl [true] ⟨lO1 rfl,lO1 rfl⟩ rfl ?_
   intro w hP hQ
   unfold kG
   refine N ?_
   (first | refine aI hP (k1) (.inl ⟨rfl,fun _ hx=>hx⟩) ?_ | refine aF hP (k1) (.inl ⟨rfl,fun _ hx=>hx⟩) ?_)
   refine N ?_
   (first | refine aI hP (k2) (.inl ⟨rfl,fun _ hx=>hx⟩) ?_ | refine aF hP (k2) (.inl ⟨rfl,fun _ hx=>hx⟩) ?_)
   have hz:=And.intro hb1 hb2
   refine Nz ?_
   exact ⟨{ x with data:=x.data++[1] },i2,h2,by show (x.data++[1]).length+szM Ent.sz x.ents+szM Attr.sz x.attrs<2000; simp; omega,hi2,by simp [aO],rfl⟩
  by_cases g4:n=4
  ·subst g4
   obtain ⟨s,i3,h3,hs,hi3,k3⟩:=ad7 v b i2 h2 [[97],[122],[],[90]] hl hi2 (by simp) (by simp)
   obtain ⟨r,i4,h4,hr,hi4,k4⟩:=wE v b i3 h3 [1,2,1000,1001] hl hi3 (by simp) (by simp)
   have hsl:s.length≤1:=by simp at hs; rcases hs with rfl | rfl | rfl | rfl <;> simp
   have hb1:(x.ents.length+1)*24≤140737488355328:=by omega
   unfold cur at k3 k4
   simp only [eO,dB,lP,lA2] at k3 k4
   refine mD hmx kV [(101,[.l,.b],[]),(153,[.l,.b],[]),(199,[.l],[]),(149,[.l,.b],[])] 141 rfl [true] ⟨lO1 rfl,lO1 rfl⟩ rfl ?_
   intro w hP hQ
   unfold kG
   refine N ?_
   (first | refine aI hP (k1) (.inl ⟨rfl,fun _ hx=>hx⟩) ?_ | refine aF hP (k1) (.inl ⟨rfl,fun _ hx=>hx⟩) ?_)
   refine N ?_
   (first | refine aI hP (k2) (.inl ⟨rfl,fun _ hx=>hx⟩) ?_ | refine aF hP (k2) (.inl ⟨rfl,fun _ hx=>hx⟩) ?_)
   refine N ?_
   (first | refine aI hP (k3) (.inl ⟨rfl,fun _ hx=>hx⟩) ?_ | refine aF hP (k3) (.inl ⟨rfl,fun _ hx=>hx⟩) ?_)
   refine N ?_
   (first | refine aI hP (k4) (.inl ⟨rfl,fun _ hx=>hx⟩) ?_ | refine aF hP (k4) (.inl ⟨rfl,fun _ hx=>hx⟩) ?_)
   have hz:=hb1
   refine Nz ?_
   exact ⟨{ x with ents:=x.ents++[⟨s,r⟩] },i4,h4,by
    have:szM Ent.sz (x.ents++[⟨s,r⟩])=szM Ent.sz x.ents+1+s.length:=by simp [szM,Ent.sz]; omega
    show x.data.length+szM Ent.sz (x.ents++[⟨s,r⟩])+szM Attr.sz x.attrs<2000; omega,hi4,by simp [Ent.row],rfl⟩
  by_cases g5:n=5
  ·subst g5
   obtain ⟨s,i3,h3,hs,hi3,k3⟩:=ad7 v b i2 h2 [[97],[122],[]] hl hi2 (by simp) (by simp)
   obtain ⟨m,i4,h4,hm,hi4,k4⟩:=i9 v b i3 h3 3 hl hi3 (by omega)
   have hm':m<3:=by rw [wS,lG (by omega)] at hm; omega
   have hsl:s.length≤1:=by simp at hs; rcases hs with rfl | rfl | rfl <;> simp
   have hrb:dN (List.replicate (15+(m:Int)).toNat [TV.int .u8 0])=some (List.replicate (15+m) 0):=by
    rw [show (15+(m:Int)).toNat=15+m by omega,show List.replicate (15+m) [TV.int .u8 0]=aO (List.replicate (15+m) 0) by simp [aO],adx]
   have hb1:(x.attrs.length+1)*32≤140737488355328:=by omega
   unfold cur at k3 k4
   simp only [eO,dB,lP,lA2] at k3 k4
   refine mD hmx kV [(101,[.l,.b],[]),(153,[.l,.b],[]),(199,[.l],[]),(149,[.l,.b],[])] 141 rfl [true] ⟨lO1 rfl,lO1 rfl⟩ rfl ?_
   intro w hP hQ
   unfold kG
   refine N ?_
   (first | refine aI hP (k1) (.inl ⟨rfl,fun _ hx=>hx⟩) ?_ | refine aF hP (k1) (.inl ⟨rfl,fun _ hx=>hx⟩) ?_)
   refine N ?_
   (first | refine aI hP (k2) (.inl ⟨rfl,fun _ hx=>hx⟩) ?_ | refine aF hP (k2) (.inl ⟨rfl,fun _ hx=>hx⟩) ?_)
   refine N ?_
   (first | refine aI hP (k3) (.inl ⟨rfl,fun _ hx=>hx⟩) ?_ | refine aF hP (k3) (.inl ⟨rfl,fun _ hx=>hx⟩) ?_)
   refine N ?_
   (first | refine aI hP (k4) (.inl ⟨rfl,fun _ hx=>hx⟩) ?_ | refine aF hP (k4) (.inl ⟨rfl,fun _ hx=>hx⟩) ?_)
   have hz:=And.intro hb1 hrb
   refine Nz ?_
   exact ⟨{ x with attrs:=x.attrs++[⟨s,List.replicate (15+m) 0⟩] },i4,h4,by
    have:szM Attr.sz (x.attrs++[⟨s,List.replicate (15+m) 0⟩])=szM Attr.sz x.attrs+1+s.length+(15+m):=by simp [szM,Attr.sz]; omega
    show x.data.length+szM Ent.sz x.ents+szM Attr.sz (x.attrs++[⟨s,List.replicate (15+m) 0⟩])<2000; omega,hi4,by simp [Attr.row],rfl⟩
  ·have w0:decide ((n:Int)=0)=false:=lB (by omega)
   have w1:decide ((n:Int)=1)=false:=lB (by omega)
   have w2:decide ((n:Int)=2)=false:=lB (by omega)
   have w3:decide ((n:Int)=3)=false:=lB (by omega)
   have w4:decide ((n:Int)=4)=false:=lB (by omega)
   have w5:decide ((n:Int)=5)=false:=lB (by omega)
   refine mD hmx kV [(101,[.l,.b],[]),(153,[.l,.b],[]),(199,[.l],[]),(149,[.l,.b],[])] 141 rfl [true] ⟨lO1 rfl,lO1 rfl⟩ rfl ?_
   intro w hP hQ
   unfold kG
   refine N ?_
   (first | refine aI hP (k1) (.inl ⟨rfl,fun _ hx=>hx⟩) ?_ | refine aF hP (k1) (.inl ⟨rfl,fun _ hx=>hx⟩) ?_)
   refine N ?_
   (first | refine aI hP (k2) (.inl ⟨rfl,fun _ hx=>hx⟩) ?_ | refine aF hP (k2) (.inl ⟨rfl,fun _ hx=>hx⟩) ?_)
   have hz:=And.intro w0 (And.intro w1 (And.intro w2 (And.intro w3 (And.intro w4 w5))))
   refine Nz ?_
   exact ⟨x,i2,h2,by omega,hi2,rfl,rfl⟩
 obtain ⟨_,_,⟨t',i',h',ht',hi',rfl,rfl⟩,hS⟩:=key
 exact ⟨t',i',h',ht',hi',hS⟩
theorem apP {α:Type} (f:α→Nat):∀ (l:List α) (k:Nat) (x:α),((l.set k x).map f).sum≤(l.map f).sum+f x
 | [],_,_=>by simp
 | a::l,0,x=>by simp; omega
 | a::l,k+1,x=>by
  have:=apP f l k x
  simp only [List.set_cons_succ,lP,lB2]; omega
theorem apn {α:Type} (f:α→Nat):∀ (l:List α) (k:Nat),((l.take k).map f).sum≤(l.map f).sum
 | [],_=>by simp
 | a::l,0=>by simp
 | a::l,k+1=>by
  have:=apn f l k
  simp only [List.take_succ_cons,lP,lB2]; omega
theorem aqG (v:Value) (b:aA) (i:Nat) (h:Int) (hl:b.length<2^48) (hi:i≤b.length):∃ (t:Tab) (i':Nat) (h':Int),t.sz<2^20∧i'≤b.length ∧
  bC Tryz.prog 100 [cur v b i h] t.o [cur v b i' h']:=by
 obtain ⟨t,i1,h1,ht,hi1,k1⟩:=aoi v b i h 8 hl hi (by omega)
 obtain ⟨n,i2,h2,hn,hi2,k2⟩:=i9 v b i1 h1 12 hl hi1 (by omega)
 have hz:=agz ht
 have htl:=((aV t).1 ht).tab.len
 have hn':n<12:=by rw [wS,lG (by omega)] at hn; omega
 have hpos:0<t.inodes.length:=by
  obtain ⟨r,_,_,r3⟩:=eM ((aV t).1 ht)
  exact List.length_pos_of_mem r3
 have key:∃ ret outs,(∃ (t':Tab) (i':Nat) (h':Int),t'.sz<2^20∧i'≤b.length∧ret=t'.o∧outs=[cur v b i' h'])∧bC Tryz.prog 100 [cur v b i h] ret outs:=by
  unfold cur at *
  by_cases g0:n=0
  ·subst g0
   obtain ⟨r,i3,h3,hr,hi3,k3⟩:=wE v b i2 h2 [1,2,1000,1001] hl hi2 (by simp) (by simp)
   unfold cur at k3
   simp only [eO,lP,lA2] at k3
   refine mD hmx aoW [(101,[.l,.b],[]),(153,[.l,.b],[]),(57,[.l,.b],[]),(154,[.l],[])] 141 rfl [true] ⟨lO1 rfl,lO1 rfl⟩ rfl ?_
   intro w hP hQ
   unfold r7
   refine N ?_
   (first | refine aI hP (k1) (.inl ⟨rfl,fun _ hx=>hx⟩) ?_ | refine aF hP (k1) (.inl ⟨rfl,fun _ hx=>hx⟩) ?_)
   refine N ?_
   (first | refine aI hP (k2) (.inl ⟨rfl,fun _ hx=>hx⟩) ?_ | refine aF hP (k2) (.inl ⟨rfl,fun _ hx=>hx⟩) ?_)
   refine N ?_
   (first | refine aI hP (k3) (.inl ⟨rfl,fun _ hx=>hx⟩) ?_ | refine aF hP (k3) (.inl ⟨rfl,fun _ hx=>hx⟩) ?_)
   refine N ?_
   exact ⟨{ t with next:=r },i3,h3,by show t.sz<2^20; omega,hi3,rfl,rfl⟩
  by_cases g1:n=1
  ·subst g1
   obtain ⟨x,i3,h3,hx,hi3,k3⟩:=aqs v b i2 h2 hl hi2
   unfold cur at k3
   have hb1:(t.inodes.length+1)*96≤140737488355328:=by omega
   refine mD hmx aoW [(101,[.l,.b],[]),(153,[.l,.b],[]),(57,[.l,.b],[]),(154,[.l],[])] 141 rfl [true] ⟨lO1 rfl,lO1 rfl⟩ rfl ?_
   intro w hP hQ
   unfold r7
   refine N ?_
   (first | refine aI hP (k1) (.inl ⟨rfl,fun _ hx=>hx⟩) ?_ | refine aF hP (k1) (.inl ⟨rfl,fun _ hx=>hx⟩) ?_)
   refine N ?_
   (first | refine aI hP (k2) (.inl ⟨rfl,fun _ hx=>hx⟩) ?_ | refine aF hP (k2) (.inl ⟨rfl,fun _ hx=>hx⟩) ?_)
   refine N ?_
   (first | refine aI hP (k3) (.inl ⟨rfl,fun _ hx=>hx⟩) ?_ | refine aF hP (k3) (.inl ⟨rfl,fun _ hx=>hx⟩) ?_)
   have hz:=hb1
   refine Nz ?_
   exact ⟨{ t with inodes:=t.inodes++[x] },i3,h3,by
    have:szM Inode.sz (t.inodes++[x])=szM Inode.sz t.inodes+1+x.sz:=by simp [szM]; omega
    have e:t.sz=szM Inode.sz t.inodes:=rfl
    show szM Inode.sz (t.inodes++[x])<2^20; omega,hi3,by simp [Inode.row],rfl⟩
  by_cases g2:n=2
  ·subst g2
   obtain ⟨m,i3,h3,hm,hi3,k3⟩:=i9 v b i2 h2 t.inodes.length hl hi2 (by omega)
   obtain ⟨x,i4,h4,hx,hi4,k4⟩:=aqs v b i3 h3 hl hi3
   have hm':(m:Int)<(t.inodes.length:Nat):=by rw [wS,lG (by omega)] at hm; omega
   unfold cur at k3 k4
   refine mD hmx aoW [(101,[.l,.b],[]),(153,[.l,.b],[]),(57,[.l,.b],[]),(154,[.l],[])] 141 rfl [true] ⟨lO1 rfl,lO1 rfl⟩ rfl ?_
   intro w hP hQ
   unfold r7
   refine N ?_
   (first | refine aI hP (k1) (.inl ⟨rfl,fun _ hx=>hx⟩) ?_ | refine aF hP (k1) (.inl ⟨rfl,fun _ hx=>hx⟩) ?_)
   refine N ?_
   (first | refine aI hP (k2) (.inl ⟨rfl,fun _ hx=>hx⟩) ?_ | refine aF hP (k2) (.inl ⟨rfl,fun _ hx=>hx⟩) ?_)
   refine N ?_
   (first | refine aI hP (k3) (.inl ⟨rfl,fun _ hx=>hx⟩) ?_ | refine aF hP (k3) (.inl ⟨rfl,fun _ hx=>hx⟩) ?_)
   refine N ?_
   (first | refine aI hP (k4) (.inl ⟨rfl,fun _ hx=>hx⟩) ?_ | refine aF hP (k4) (.inl ⟨rfl,fun _ hx=>hx⟩) ?_)
   have hz:=hm'
   refine Nz ?_
   exact ⟨{ t with inodes:=t.inodes.set m x },i4,h4,by
    have:szM Inode.sz (t.inodes.set m x)≤szM Inode.sz t.inodes+x.sz:=by
     have:=apP Inode.sz t.inodes m x
     simp only [szM,List.length_set]; omega
    have e:t.sz=szM Inode.sz t.inodes:=rfl
    show szM Inode.sz (t.inodes.set m x)<2^20; omega,hi4,by rw [sH Inode.row t.inodes m x _ fun y _=>rfl],rfl⟩
  by_cases g3:n=3
  ·subst g3
   obtain ⟨m,i3,h3,hm,hi3,k3⟩:=i9 v b i2 h2 (t.inodes.length+1) hl hi2 (by omega)
   have hm':(m:Int)≤(t.inodes.length:Nat):=by rw [wS,lG (by omega)] at hm; omega
   unfold cur at k3
   refine mD hmx aoW [(101,[.l,.b],[]),(153,[.l,.b],[]),(57,[.l,.b],[]),(154,[.l],[])] 141 rfl [true] ⟨lO1 rfl,lO1 rfl⟩ rfl ?_
   intro w hP hQ
   unfold r7
   refine N ?_
   (first | refine aI hP (k1) (.inl ⟨rfl,fun _ hx=>hx⟩) ?_ | refine aF hP (k1) (.inl ⟨rfl,fun _ hx=>hx⟩) ?_)
   refine N ?_
   (first | refine aI hP (k2) (.inl ⟨rfl,fun _ hx=>hx⟩) ?_ | refine aF hP (k2) (.inl ⟨rfl,fun _ hx=>hx⟩) ?_)
   refine N ?_
   (first | refine aI hP (k3) (.inl ⟨rfl,fun _ hx=>hx⟩) ?_ | refine aF hP (k3) (.inl ⟨rfl,fun _ hx=>hx⟩) ?_)
   have hz:=hm'
   refine Nz ?_
   exact ⟨{ t with inodes:=t.inodes.take m },i3,h3,by
    have:szM Inode.sz (t.inodes.take m)≤szM Inode.sz t.inodes:=by
     have:=apn Inode.sz t.inodes m
     have:=List.length_take_le m t.inodes
     simp only [szM]; omega
    have e:t.sz=szM Inode.sz t.inodes:=rfl
    show szM Inode.sz (t.inodes.take m)<2^20; omega,hi3,by simp [Tab.o,Int.sub_zero],rfl⟩
  ·have w0:decide ((n:Int)=0)=false:=lB (by omega)
   have w1:decide ((n:Int)=1)=false:=lB (by omega)
   have w2:decide ((n:Int)=2)=false:=lB (by omega)
   have w3:decide ((n:Int)=3)=false:=lB (by omega)
   refine mD hmx aoW [(101,[.l,.b],[]),(153,[.l,.b],[]),(57,[.l,.b],[]),(154,[.l],[])] 141 rfl [true] ⟨lO1 rfl,lO1 rfl⟩ rfl ?_
   intro w hP hQ
   unfold r7
   refine N ?_
   (first | refine aI hP (k1) (.inl ⟨rfl,fun _ hx=>hx⟩) ?_ | refine aF hP (k1) (.inl ⟨rfl,fun _ hx=>hx⟩) ?_)
   refine N ?_
   (first | refine aI hP (k2) (.inl ⟨rfl,fun _ hx=>hx⟩) ?_ | refine aF hP (k2) (.inl ⟨rfl,fun _ hx=>hx⟩) ?_)
   have hz:=And.intro w0 (And.intro w1 (And.intro w2 w3))
   refine Nz ?_
   exact ⟨t,i2,h2,by omega,hi2,rfl,rfl⟩
 obtain ⟨_,_,⟨t',i',h',ht',hi',rfl,rfl⟩,hS⟩:=key
 exact ⟨t',i',h',ht',hi',hS⟩
theorem aqH (v:Value) (b:aA) (i:Nat) (h:Int) (hl:b.length<2^48) (hi:i≤b.length):∃ (t:Tab) (i':Nat) (h':Int),t.sz<2^28∧i'≤b.length ∧
  bC Tryz.prog 74 [cur v b i h] t.o [cur v b i' h']:=by
 obtain ⟨n,i1,h1,hn,hi1,k1⟩:=i9 v b i h 16 hl hi (by omega)
 by_cases g0:n=0
 ·subst g0
  obtain ⟨t,i2,h2,ht,hi2,k2⟩:=aqG v b i1 h1 hl hi1
  refine ⟨t,i2,h2,by omega,hi2,?_⟩
  unfold cur at *
  refine U api [(101,[.l,.b],[]),(100,[.l],[]),(138,[.l],[]),(57,[.l,.b],[])] 21 [true] fun w hP hQ=>?_
  unfold ao5
  refine N ?_
  (first | refine aI hP (k1) (.inl ⟨rfl,fun _ hx=>hx⟩) ?_ | refine aF hP (k1) (.inl ⟨rfl,fun _ hx=>hx⟩) ?_)
  refine N ?_
  (first | refine aI hP (k2) (.inl ⟨rfl,fun _ hx=>hx⟩) ?_ | refine aF hP (k2) (.inl ⟨rfl,fun _ hx=>hx⟩) ?_)
  simp +decide (maxSteps:=9^9) (disch:=omega) only[↓SB0,SX,seval,hQ]
  all_goals first | rfl | exact ⟨rfl,rfl⟩
 by_cases g1:n=1
 ·subst g1
  obtain ⟨t,i2,h2,ht,hi2,k2⟩:=aqB v b i1 h1 hl hi1
  refine ⟨t,i2,h2,by omega,hi2,?_⟩
  unfold cur at *
  refine U api [(101,[.l,.b],[]),(100,[.l],[]),(138,[.l],[]),(57,[.l,.b],[])] 21 [true] fun w hP hQ=>?_
  unfold ao5
  refine N ?_
  (first | refine aI hP (k1) (.inl ⟨rfl,fun _ hx=>hx⟩) ?_ | refine aF hP (k1) (.inl ⟨rfl,fun _ hx=>hx⟩) ?_)
  refine N ?_
  (first | refine aI hP (k2) (.inl ⟨rfl,fun _ hx=>hx⟩) ?_ | refine aF hP (k2) (.inl ⟨rfl,fun _ hx=>hx⟩) ?_)
  simp +decide (maxSteps:=9^9) (disch:=omega) only[↓SB0,SX,seval,hQ]
  all_goals first | rfl | exact ⟨rfl,rfl⟩
 ·obtain ⟨t,i2,h2,ht,hi2,k2⟩:=aoi v b i1 h1 10 hl hi1 (by omega)
  have hz:=agz ht
  have w0:decide ((n:Int)=0)=false:=lB (by omega)
  have w1:decide ((n:Int)=1)=false:=lB (by omega)
  refine ⟨t,i2,h2,by omega,hi2,?_⟩
  unfold cur at *
  refine U api [(101,[.l,.b],[]),(100,[.l],[]),(138,[.l],[]),(57,[.l,.b],[])] 21 [true] fun w hP hQ=>?_
  unfold ao5
  refine N ?_
  (first | refine aI hP (k1) (.inl ⟨rfl,fun _ hx=>hx⟩) ?_ | refine aF hP (k1) (.inl ⟨rfl,fun _ hx=>hx⟩) ?_)
  have hz:=And.intro w0 w1
  refine Nz ?_
  (first | refine aI hP (k2) (.inl ⟨rfl,fun _ hx=>hx⟩) ?_ | refine aF hP (k2) (.inl ⟨rfl,fun _ hx=>hx⟩) ?_)
  simp +decide (maxSteps:=9^9) (disch:=omega) only[↓SB0,SX,seval,hQ]
  all_goals first | rfl | exact ⟨rfl,rfl⟩
theorem ap8 (v:Value) (b:aA) (hl:b.length<2^48):∃ (t:Tab) (p:aA),t.sz<2^28∧p.length≤450∧bC Tryz.prog 21 [.extv v 1 (aO b)] (.tup [t.o,.str p]) [.undef]:=by
 obtain ⟨h0,k0⟩:=aox v b hl
 obtain ⟨t,i1,h1,ht,hi1,k1⟩:=aqH v b 0 h0 hl (by omega)
 obtain ⟨p,i2,h2,hp,hi2,k2⟩:=ali v b i1 h1 t hl hi1 (by omega)
 refine ⟨t,p,ht,hp,?_⟩
 unfold cur at *
 refine U apq [(999999,[],[(4,0)]),(74,[.l],[]),(58,[.l,.b],[])] 61 [] fun w hP hQ=>?_
 unfold aoY
 refine N ?_
 (first | refine aI hP (k0) (.inl ⟨rfl,fun _ hx=>hx⟩) ?_ | refine aF hP (k0) (.inl ⟨rfl,fun _ hx=>hx⟩) ?_)
 refine N ?_
 (first | refine aI hP (k1) (.inl ⟨rfl,fun _ hx=>hx⟩) ?_ | refine aF hP (k1) (.inl ⟨rfl,fun _ hx=>hx⟩) ?_)
 refine N ?_
 (first | refine aI hP (k2) (.inl ⟨rfl,fun _ hx=>hx⟩) ?_ | refine aF hP (k2) (.inl ⟨rfl,fun _ hx=>hx⟩) ?_)
 exact N trivial
theorem aqh {t:Tab} (h:bJ t=true):(dT t).length≤300:=by
 have ht:=(aV t).1 h
 obtain ⟨r,r1,r2,r3⟩:=eM ht
 have few:(oF t 30 r []).length≤300:=by rw [wD ht _ r r3,lJ1]; exact aco ht r3 _
 rw [afq ht r1] at few
 rw [dT,List.length_mergeSort]; exact few
theorem aqI {t:Tab} (h:bJ t=true) {s:aA} (hs:s ∈ dT t):s.length≤450:=by
 have ht:=(aV t).1 h
 refine ajt ht ?_
 rw [dT,(List.mergeSort_perm _ _).mem_iff] at hs
 exact hs
theorem aqt (t:Tab) (s:aA) (o n:Int):(exB (ao2 t s o n)).length≤n.toNat:=by
 unfold ao2
 split
 ·simp [exB]
 ·split
  ·split
   ·simp only [exB,lR]; omega
   ·simp [exB]
  ·simp [exB]
theorem ap9 (b:aA) (hf:b.length<2^48):bC Tryz.prog 4 [.ext 1 (aO b)] (.bool true) [.undef]:=by
 refine uM fun a len cap ha=>?_
 generalize hv:Value.slice a len cap=v
 have hB:=aoj (v:=v) (aoU b hf)
 cases hz:decide ((1048576:Int)<(b.length:Nat)) with
 | true=>
  rw [hz] at hB
  refine U m5 [] 228733 [] fun w hP hQ=>?_
  unfold kE
  refine N ?_
  exact K (hB) trivial
 | false=>
  rw [hz] at hB
  obtain ⟨t,p,ht,hp,k1⟩:=ap8 v b hf
  have kA:=aqp t p (by omega) (by omega)
  have kB:=acj t p (by omega) (by omega)
  by_cases h0:(fV t p).2=0
  ·obtain ⟨r1,r2,r3,r4,r5⟩:=aqy h0
   have z1:=agz r3
   have z2:=agz r4
   have l1:=aqh r3
   have l2:=aqh r4
   have kW:=am1 (fV t p).1 p (by omega) (by omega)
   rw [r1] at kW
   have kP:=apO t (by omega)
   have kQ:=apO (fV t p).1 (by omega)
   rw [aqf,lG r3] at kP
   rw [aqf,lG r4] at kQ
   have kT:=ajc (fV t p).1 (by omega)
   rw [r4] at kT
   rw [h0] at kA kB
   generalize (oR (fV t p).1 p).1=wi at *
   generalize (fV t p).1=x at *
   have hpl:∀ s ∈ dT t,s.length≤450:=fun s hs=>aqI r3 hs
   generalize hL:dT t=L at *
   generalize hM:dT x=M at *
   have d1:decide ((M.length:Int)=(L.length:Int)-1)=true:=lE (by omega)
   refine U m5 [] 228733 [] fun w hP hQ=>?_
   unfold kE
   refine N ?_
   refine K (hB) ?_
   refine K (k1) ?_
   refine K (kA) ?_
   refine K (kB) ?_
   refine K (kW) ?_
   refine K (kP) ?_
   refine K (kQ) ?_
   refine fH [2,14,16,17] ?_
   refine N ?_
   refine aT [2,14,16,17] (fun i:Nat=>[(13,.int .i64 i)]) (fun i=>i≤L.length) (fun i=>L.length-i) (0) hP hQ (rfl) (by simp) ?_
   rintro i hi w1 hP1 hQ1
   refine N1 ?_
   (first | with_reducible refine cQ _ ?_ ?_ | refine cR _ ?_ ?_) <;> intro g
   ·have hlt:i<L.length:=by omega
    have hmem:L[i] ∈ L:=lO hlt
    have kR:=apl t L[i] 0 1000 (by omega) (by have:=hpl _ hmem; omega)
    have kS:=apl x L[i] 0 1000 (by omega) (by have:=hpl _ hmem; omega)
    have kH:=aqr M L[i] (by omega)
    have r6:=r5 _ hmem
    have gE:=bG g
    generalize L[i]=r at *
    by_cases hrp:r=p
    ·have e1:decide (r=p)=true:=lE hrp
     simp +decide (maxSteps:=9^9) (disch:=omega) only[↓SB0,SX,seval,hQ,hQ1,gE,dB]
     (first | refine aI hP1 (kR) (.inl ⟨rfl,fun _ hx=>hx⟩) ?_ | refine aF hP1 (kR) (.inl ⟨rfl,fun _ hx=>hx⟩) ?_)
     simp +decide (maxSteps:=9^9) (disch:=omega) only[↓SB0,SX,seval,hQ,hQ1,gE,dB]
     (first | refine aI hP1 (kS) (.inl ⟨rfl,fun _ hx=>hx⟩) ?_ | refine aF hP1 (kS) (.inl ⟨rfl,fun _ hx=>hx⟩) ?_)
     simp +decide (maxSteps:=9^9) (disch:=omega) only[↓SB0,SX,seval,hQ,hQ1,gE,dB,e1]
     exact ⟨i+1,rfl,by omega,by omega⟩
    ·have e1:decide (r=p)=false:=lB hrp
     obtain ⟨m1,m2⟩:=r6 hrp
     rw [lE m1] at kH
     by_cases h3:exC (ao2 x r 0 1000)=3
     ·have e2:decide (exC (ao2 x r 0 1000)=3)=true:=lE h3
      simp +decide (maxSteps:=9^9) (disch:=omega) only[↓SB0,SX,seval,hQ,hQ1,gE,dB]
      (first | refine aI hP1 (kR) (.inl ⟨rfl,fun _ hx=>hx⟩) ?_ | refine aF hP1 (kR) (.inl ⟨rfl,fun _ hx=>hx⟩) ?_)
      simp +decide (maxSteps:=9^9) (disch:=omega) only[↓SB0,SX,seval,hQ,hQ1,gE,dB]
      (first | refine aI hP1 (kS) (.inl ⟨rfl,fun _ hx=>hx⟩) ?_ | refine aF hP1 (kS) (.inl ⟨rfl,fun _ hx=>hx⟩) ?_)
      simp +decide (maxSteps:=9^9) (disch:=omega) only[↓SB0,SX,seval,hQ,hQ1,gE,dB,e1]
      (first | refine aI hP1 (kH) (.inl ⟨rfl,fun _ hx=>hx⟩) ?_ | refine aF hP1 (kH) (.inl ⟨rfl,fun _ hx=>hx⟩) ?_)
      have hz:=e2
      refine Nz1 ?_
      exact ⟨i+1,rfl,by omega,by omega⟩
     ·have e2:decide (exC (ao2 x r 0 1000)=3)=false:=lB h3
      have m3:=m2.resolve_left h3
      have kB2:=aqc (exB (ao2 t r 0 1000)) (exB (ao2 x r 0 1000)) (by have:=aqt t r 0 1000; omega)
      rw [lE m3] at kB2
      simp +decide (maxSteps:=9^9) (disch:=omega) only[↓SB0,SX,seval,hQ,hQ1,gE,dB]
      (first | refine aI hP1 (kR) (.inl ⟨rfl,fun _ hx=>hx⟩) ?_ | refine aF hP1 (kR) (.inl ⟨rfl,fun _ hx=>hx⟩) ?_)
      simp +decide (maxSteps:=9^9) (disch:=omega) only[↓SB0,SX,seval,hQ,hQ1,gE,dB]
      (first | refine aI hP1 (kS) (.inl ⟨rfl,fun _ hx=>hx⟩) ?_ | refine aF hP1 (kS) (.inl ⟨rfl,fun _ hx=>hx⟩) ?_)
      simp +decide (maxSteps:=9^9) (disch:=omega) only[↓SB0,SX,seval,hQ,hQ1,gE,dB,e1]
      (first | refine aI hP1 (kH) (.inl ⟨rfl,fun _ hx=>hx⟩) ?_ | refine aF hP1 (kH) (.inl ⟨rfl,fun _ hx=>hx⟩) ?_)
      have hz:=e2
      refine Nz1 ?_
      (first | refine aI hP1 (kB2) (.inl ⟨rfl,fun _ hx=>hx⟩) ?_ | refine aF hP1 (kB2) (.inl ⟨rfl,fun _ hx=>hx⟩) ?_)
      refine N1 ?_
      exact ⟨i+1,rfl,by omega,by omega⟩
   ·have hz:=d1
    refine Nz1 ?_
    exact K (kT) trivial
  ·have hs:=aqd h0
   rw [hs] at kA kB
   have kS:=aok t (by omega)
   have d0:decide ((fV t p).2=0)=false:=lB h0
   generalize (fV t p).2=c at *
   refine U m5 [] 228733 [] fun w hP hQ=>?_
   unfold kE
   refine N ?_
   refine K (hB) ?_
   refine K (k1) ?_
   refine K (kA) ?_
   have hz:=d0
   refine Kz (kB) ?_
   exact K (kS) trivial
section
open Go.Proofs Go.Proofs.YtnfngemnghiehaaGreatDoor
theorem apT:(Rows.fnUnlinkedRow.wf (OpenSpec.ofChange Rows.fnUnlinkedSpec))=true:=by kernel_rfl
theorem apU:(Tryz.f4.params.all (Tryz.prog.readableRec ·))=true:=by kernel_rfl
theorem apV:(namedTie Tryz.prog Rows.fnUnlinkedRow.named Rows.fnUnlinkedSpec.vars)=true:=by kernel_rfl
theorem apW:((Rows.fnUnlinkedRow.stops == []))=true:=by kernel_rfl
theorem apX:((Rows.fnUnlinkedRow.knobs == []))=true:=by kernel_rfl
theorem apY:((Rows.fnUnlinkedRow.inPlace == Tryz.prog.inPlace 4))=true:=by kernel_rfl
theorem apu:((Rows.fnUnlinkedRow.unfollowed == Tryz.prog.unfollowed 4))=true:=by kernel_rfl
theorem apv:((Rows.fnUnlinkedRow.recurses == Tryz.prog.recurses 4))=true:=by kernel_rfl
theorem apw:((Rows.fnUnlinkedRow.named == Tryz.prog.varsNamed 4))=true:=by kernel_rfl
theorem apx:((Rows.fnUnlinkedRow.maps == (Tryz.f4.params.toList++Rows.fnUnlinkedSpec.plain.varTypes Tryz.prog).any (Tryz.prog.mapsRec ·)))=true:=by kernel_rfl
theorem apy:((Rows.fnUnlinkedRow.ifaces == (Tryz.f4.params.toList++Rows.fnUnlinkedSpec.plain.varTypes Tryz.prog).any (Tryz.prog.ifacesRec ·)))=true:=by kernel_rfl
theorem apz:((Rows.fnUnlinkedRow.mapsOut == Tryz.prog.mapsAmong Tryz.f4.resultTypes.toList))=true:=by kernel_rfl
theorem apA:((Rows.fnUnlinkedRow.loops == (Tryz.f4.params.toList++Rows.fnUnlinkedSpec.plain.varTypes Tryz.prog).any (Tryz.prog.loopsFrom ·)))=true:=by kernel_rfl
theorem apB:((Rows.fnUnlinkedRow.wideKeys == (Tryz.f4.params.toList++Rows.fnUnlinkedSpec.plain.varTypes Tryz.prog++Tryz.f4.resultTypes.toList).any (Tryz.prog.wideKeysFrom ·)))=true:=by kernel_rfl
theorem apC:(Rows.fnUnlinkedSpec.vars.all (Tryz.prog.varReadable ·))=true:=by kernel_rfl
theorem apD:(Tryz.f4.resultTypes.all (fun t=>Tryz.prog.readableRec t && decide (t<Tryz.prog.types.size)))=true:=by kernel_rfl
theorem apE:((Rows.fnUnlinkedRow.ifacesOut == Tryz.f4.resultTypes.toList.any (Tryz.prog.ifacesRec ·)))=true:=by kernel_rfl
theorem apF:((Rows.fnUnlinkedRow.loopsOut == Tryz.f4.resultTypes.toList.any (Tryz.prog.loopsFrom ·)))=true:=by kernel_rfl
theorem apG:((Rows.fnUnlinkedRow.plainKeys == Tryz.prog.plainKeys))=true:=by kernel_rfl
theorem apH:(Rows.fnUnlinkedRow.shortTexts.isNone)=true:=by kernel_rfl
theorem apI:((Rows.fnUnlinkedRow.kinds == (if Rows.fnUnlinkedRow.domain.isEmpty then [] else Tryz.f4.params.toList.map fun t=>match Tryz.prog.underlying t with | some (.int k)=>some k | _=>none)))=true:=by kernel_rfl
theorem apJ:((Rows.fnUnlinkedRow.pinned == Rows.fnUnlinkedRow.pinnedBy))=true:=by kernel_rfl
theorem apK:((Rows.fnUnlinkedRow.veiled == (Tryz.f4.params.toList++Rows.fnUnlinkedSpec.plain.varTypes Tryz.prog++Tryz.f4.resultTypes.toList).any (Tryz.prog.veiledRec ·)))=true:=by kernel_rfl
theorem apL:(Rows.fnUnlinkedRow.veiledFits Tryz.prog Tryz.f4.params.toList (Tryz.f4.params.toList++Rows.fnUnlinkedSpec.plain.varTypes Tryz.prog++Tryz.f4.resultTypes.toList))=true:=by kernel_rfl
theorem apZ:joinedFacts Tryz.prog 4 Tryz.f4 Rows.fnUnlinkedSpec Rows.fnUnlinkedRow=true:=
 anX apT aoL aoM apU apV apW aoB apX aoC apY apu apv apw apx apy apz apA apB apC apD apE apF apG apH aoD aoE aoF aoN apI apJ apK apL
theorem apo (os:Os) (started:os.Started) (H:Type) (enc:TypeId × Value→H) :
  ReturnsInHanded {} Tryz.checked os 4 .any (fun w args=>(Rows.fnUnlinkedSpec.pre enc Tryz.prog Tryz.f4 [] false w args∧laidMetH Tryz.prog Rows.fnUnlinkedRow.laid w)∧sizedMet enc Tryz.prog Tryz.f4 (OpenSpec.ofChange Rows.fnUnlinkedSpec) false w args) (Rows.fnUnlinkedSpec.post enc Tryz.prog Tryz.f4 false true false false):=by
 refine law_laid (X:=fun w _=>laidMetH Tryz.prog Rows.fnUnlinkedRow.laid w) (fun _ _ _ hh h=>h.of_heap hh) (C:=Tryz.checked) (pars:=[(false,[.sl 1 [.int .u8]])]) own started (by kernel_rfl) Tryz.func4
  (ChangeSpec.witness_shaped (enc:=enc) (C:=Tryz.checked) (os:=os) (X:=fun w _=>laidMetH Tryz.prog Rows.fnUnlinkedRow.laid w) false (World.laidAll Tryz.prog os Rows.fnUnlinkedRow.laid) #[.slice none 0 0] 8 (World.laidAll_os _ _ _) (World.shaped_of_RefB (by kernel_rfl) (by kernel_rfl)) (by kernel_rfl) (by kernel_rfl) (by kernel_rfl) (aof _ (by kernel_rfl) (by kernel_rfl) (by kernel_rfl)))
  rfl (by kernel_rfl) rfl (by kernel_rfl) ?_ ?_
 ·intro ds hd
  match ds,hd with
  | [d0],_=>rfl
 ·intro tss h
  match tss,h with
  | [t0],⟨h0,_⟩=>
   obtain ⟨r0,u0,rfl,l0,e0,k0⟩:=Shp.sl_inv h0
   obtain rfl:=Shp.nil_inv k0
   obtain ⟨x0,rfl⟩:=ani e0
   exact ⟨_,ap9 x0 (aoy l0)⟩
theorem ap0:Tryz.f4.isWrapper Tryz.prog Rows.fnUnlinkedRow.wrapper Rows.fnUnlinkedRow.mainSum:=by
 unfold Func.isWrapper; first | (rw [if_pos (by decide +kernel)]; kernel_rfl) | (rw [if_neg (by decide +kernel)]; exact ⟨rfl,rfl⟩)
theorem law_FnUnlinked:Rows.FnUnlinkedSaid:=
 OpenClaim.holds_of_wide 4 Tryz.f4 rfl rfl rfl rfl rfl rfl rfl ⟨rfl,rfl,rfl,rfl,rfl⟩ rfl rfl rfl rfl rfl (by kernel_rfl) Tryz.func4 apZ
  (of_decide_eq_true (by kernel_rfl)) ap0
  (fun os started H enc _=>apo os started H enc)
theorem ap1:Rows.fnUnlinkedRow.wfByText (OpenSpec.ofChange Rows.fnUnlinkedSpec)=true:=by kernel_rfl
theorem k2_FnUnlinked:Tryz.prog.funcNamed "loop.example/g00285/laws.FnUnlinked"=some 4:=by kernel_rfl
theorem ap2:(Tryz.f4.params.toList.all fun u=>!Tryz.prog.wantsStandIn u)=true:=by kernel_rfl
theorem ap3:false=Rows.fnUnlinkedRow.goesBy Tryz.prog:=by kernel_rfl
theorem card_FnUnlinked:Rows.FnUnlinkedCardSaid:=
 Claim7.holds_tied_plain_at .later [] [.data,.pinned] true (true, "a471463198dfccefd4549d2ca3dea33ce4024f0ca831b63ca506e736f471de25") false
  law_FnUnlinked (fun _ h=>by cases h) ap1 (fun _ h=>by cases h) fnUnlinked_row_tie rfl ⟨rfl,rfl⟩ aoK rfl
  (fun f fn hf hfn=>by
   obtain rfl:f=4:=Option.some.inj (k2_FnUnlinked.symm.trans hf) |>.symm
   obtain rfl:fn=Tryz.f4:=(Option.some.inj (Tryz.func4.symm.trans hfn)).symm
   exact ⟨aoA,fun j t ht=>by
    have:=lW.1 ap2 t (by simpa using Array.mem_of_getElem? ht)
    exact show Tryz.prog.wantsStandIn t=false by simpa using this⟩)
  ap3
end
end Go.Proofs.YtnfngemnghiehaaGreatDoor.Awp

namespace Go.Proofs.YtnfngemnghiehaaGreatDoor
/-- the given statement -/
theorem provedFnUnlinked : Rows.FnUnlinkedCardSaid := Awp.card_FnUnlinked
end Go.Proofs.YtnfngemnghiehaaGreatDoor
#print axioms Go.Proofs.YtnfngemnghiehaaGreatDoor.provedFnUnlinked
