/- The law FnMoved (what is moved is there, with all that is below it, and no more where it was; moved back all is as it was) holds for every argument: the given statement is proved. Condition: none. -/
import Derived.Test.YtnfngemnghiehaaGreatDoorBase2
import Derived.Test.YtnfngemnghiehaaGreatDoorAwp3
import Derived.Test.YtnfngemnghiehaaGreatDoorRows
import Derived.Test.YtnfngemnghiehaaGreatDoorCards
import Derived.Test.YtnfngemnghiehaaGreatDoorTie
import Derived.Shelf.Lays
import Derived.Sort.Walk0
import Derived.Shelf.Strings.Search3
import Derived.Shelf.Strings.Count
import Derived.Shelf.Strings.OnBuilder
import Derived.Shelf.Sort.Plain
import Derived.Shelf.Slices.In.SortNone
import Derived.Shelf.Spec.SlicesInsert
import Derived.Shelf.Spec.SlicesInsertGrow
import Derived.Deep.MidRow
import Derived.ArgAppend
import Derived.OpenShut
import Derived.SevenTiedAt
import Derived.KernelRfl
set_option linter.unusedVariables false
set_option linter.unusedSimpArgs false
set_option maxRecDepth 100000
set_option maxHeartbeats 20000000
open Nat (reduceEqDiff reduceAdd reduceMul reduceSub)
open Int (reduceNeg reduceToNat reducePow)
namespace Go.Proofs.YtnfngemnghiehaaGreatDoor.Awp
theorem uA1:type_of% @Array.getElem?_append_left:=@Array.getElem?_append_left
theorem uB1:type_of% @List.getElem?_append_right:=@List.getElem?_append_right
theorem uC1:type_of% @Nat.add_assoc:=@Nat.add_assoc
theorem uD1:type_of% @Array.size_append:=@Array.size_append
section
namespace W
end W
open I W
def aoV:Cmd:=Q (R [e' 2 k0]) (Q (Q (R [a 16 0,c 17 12 [v 16]]) (F (v 17) (Q (R [e' 2 k1]) .ret) .skip)) (Q (R [a 19 0,c 20 41 [v 19],a 18 20,x 21 18 0,x 22 18 1,x 23 18 2,z 3 [.sl 6 [],.int .i64 0],s 3 21 2,e 4 22,e 5 23]) (Q (R [b 25 3 2,a 26 4,a 27 5,c 28 18 [v 25,v 26,v 27],a 24 28,x 29 24 0,x 30 24 1,z 6 [.sl 6 [],.int .i64 0],s 6 29 2,e 7 30]) (Q (R [b 32 3 2,a 33 4,a 34 5,c 35 42 [v 32,v 33,v 34],a 31 35,x 36 31 0,x 37 31 1,z 8 [.sl 6 [],.int .i64 0],s 8 36 2,e 9 37]) (Q (Q (R [a 38 7,a 39 9,g 40 .neq (v 38) (v 39),a 41 40,ha 41 false 42 7,h 41 false 43 (bin 43 .neq (v 42) (k 0)),p 44 41 k1 (v 43)]) (F (v 44) (Q (R [a 45 7,a 46 9,g 47 .eql (v 45) (v 46),a 48 47,hb 48 true 49 6 2,hb 48 true 50 3 2,hc 48 true 51 20 [v 49,v 50],p 52 48 (v 51) k0,e 2 52]) .ret) .skip)) (Q (R [b 53 3 2,c 54 24 [v 53],e 10 54]) (Q (R [b 55 6 2,c 56 24 [v 55],e 11 56]) (Q (Q (R [e' 12 (k 0)]) (.blk 0 (.loop (Q (Q (R [a 57 12,a 58 10,l 59 58,g 60 .lss (v 57) (v 59)]) (F (v 60) .skip (.exit 0))) (Q (.blk 1 (Q (R [a 63 10,a 64 12,i 65 63 64 1,b' 66 65 1,e 13 66]) (Q (Q (R [a 67 4,a 68 13,c 69 43 [v 67,v 68]]) (F (v 69) (R [a 70 5,a 71 13,a 72 4,n 73 (lens 73 (v 72)),n 74 (sls 74 (v 71) (some (v 73)) none),g 75 .add (v 70) (v 74),e 13 75]) .skip)) (Q (R [a 76 11,a 77 13,c 78 26 [v 76,v 77],n 79 (un 79 .not (v 78))]) (F (v 79) (Q (R [e' 2 k0]) .ret) .skip))))) (R [a 61 12,g 62 .add (v 61) (k 1),e 12 62])))))) (Q (R [b 81 6 2,a 82 5,a 83 4,c 84 18 [v 81,v 82,v 83],a 80 84,x 85 80 0,x 86 80 1,z 14 [.sl 6 [],.int .i64 0],s 14 85 2,e 15 86]) (Q (R [a 87 11,a 88 4,c 89 26 [v 87,v 88],n 90 (un 90 .not (v 89)),a 91 90,ha 91 true 92 11,h 91 true 93 (len 93 (v 92)),ha 91 true 94 10,h 91 true 95 (len 95 (v 94)),h 91 true 96 (bin 96 .eql (v 93) (v 95)),p 97 91 (v 96) k0,a 98 97,ha 98 true 99 15,h 98 true 100 (bin 100 .eql (v 99) (k 0)),p 101 98 (v 100) k0,a 102 101,hb 102 true 103 14 2,hb 102 true 104 3 2,hc 102 true 105 20 [v 103,v 104],p 106 102 (v 105) k0,a 107 106,hb 107 true 108 6 2,hc 107 true 109 28 [v 108],p 110 107 (v 109) k0,e 2 110]) .ret))))))))))
def kE:Cmd:=Q (R [n 3 (box 3 (v 0)),z 6 [.sl 6 [],.int .i64 0],e' 7 (k 0)]) (Q (R [b 13 3 2,c 14 61 [v 13],s 3 14 2]) (Q (Q (R [b 15 3 2,a 16 1,a 17 2,o 18 1 [v 16,v 17],c 19 62 [v 15,v 18],n 20 (un 20 .not (v 19)),a 21 20,ha 21 false 22 1,h 21 false 23 (bin 23 .eql (v 22) (.c (.str [47]))),p 24 21 k1 (v 23),a 25 24,ha 25 false 26 2,h 25 false 27 (bin 27 .eql (v 26) (.c (.str [47]))),p 28 25 k1 (v 27)]) (F (v 28) (Q (R [b 29 3 2,s 6 29 2,e' 7 (k 1)]) .ret) .skip)) (Q (R [b 31 3 2,a 32 1,c 33 68 [v 31,v 32],a 30 33,x 34 30 0,x 35 30 1,z 8 [.int .i64 0,.int .i64 0,.int .i64 0,.sl 1 [],.sl 2 [],.sl 2 []],s 8 34 6,e 9 35]) (Q (Q (R [a 36 9,g 37 .neq (v 36) (k 0)]) (F (v 37) (Q (R [b 38 3 2,a 39 9,s 6 38 2,e 7 39]) .ret) .skip)) (Q (Q (R [a 40 1,a 41 2,c 42 43 [v 40,v 41]]) (F (v 42) (Q (R [b 43 3 2,s 6 43 2,e' 7 (k 6)]) .ret) .skip)) (Q (R [b 45 3 2,a 46 1,c 47 64 [v 45,v 46],a 44 47,x 48 44 0,x 49 44 1,z 10 [.int .i64 0,.int .i64 0,.int .i64 0,.sl 1 [],.sl 2 [],.sl 2 [],.str []],s 10 48 7,e 11 49]) (Q (R [b 51 3 2,a 52 2,c 53 64 [v 51,v 52],a 50 53,x 54 50 0,x 55 50 1,z 12 [.int .i64 0,.int .i64 0,.int .i64 0,.sl 1 [],.sl 2 [],.sl 2 [],.str []],s 12 54 7,e 9 55]) (Q (.blk 0 (Q (R [a 57 9,g 58 .neq (v 57) (k 0),e 56 58]) (F (v 56) (Q (R [b 59 3 2,a 60 9,s 6 59 2,e 7 60]) .ret) (Q (R [f 62 12 0,b 63 62 6,f 64 12 6,b' 65 64 1,c 66 69 [v 63,v 65],g 67 .neq (v 66) (k 0),e 61 67]) (F (v 61) (Q (R [b 68 3 2,s 6 68 2,e' 7 (k 4)]) .ret) (Q (R [f 70 12 0,f 71 70 4,b' 72 71 1,l 73 72,g 74 .eql (v 73) (k 10),a 75 74,h 75 true 76 (fld 76 (v 12) 0),h 75 true 77 (fld 77 (v 76) 0),h 75 true 78 (ld 78 (v 77) 1 false),h 75 true 79 (fld 79 (v 10) 0),h 75 true 80 (fld 80 (v 79) 0),h 75 true 81 (ld 81 (v 80) 1 false),h 75 true 82 (bin 82 .neq (v 78) (v 81)),p 83 75 (v 82) k0,e 69 83]) (F (v 69) (Q (R [b 84 3 2,s 6 84 2,e' 7 (k 5)]) .ret) .skip))))))) (Q (R [b 85 10 7,b 86 3 2,c 87 65 [v 85,v 86],s 3 87 2]) (Q (R [b 89 3 2,f 90 12 0,f 91 90 0,b' 92 91 1,c 93 70 [v 89,v 92],a 88 93,x 94 88 0,x 95 88 1,f 96 12 0,s 96 94 6]) (Q (R [b 97 12 7,b 98 3 2,f 99 8 0,b' 100 99 1,c 101 71 [v 97,v 98,v 100],s 6 101 2,e' 7 (k 0)]) .ret)))))))))))
def ao7:Cmd:=Q (R [n 1 (box 1 (v 0)),e' 2 (.c (.own 1 []))]) (Q (Q (R [b 6 1 2,c 7 28 [v 6],n 8 (un 8 .not (v 7))]) (F (v 8) (Q (R [e' 2 (.c (.own 1 []))]) .ret) .skip)) (Q (R [b 10 1 2,c 11 70 [v 10,k 1],a 9 11,x 12 9 0,x 13 9 1,z 3 [.int .i64 0,.int .i64 0,.int .i64 0,.sl 1 [],.sl 2 [],.sl 2 []],s 3 12 6,e 4 13]) (Q (R [b 14 1 2,b 15 3 6,c 16 82 [v 14,v 15,.c (.str [])],e 5 16]) (Q (R [a 17 5,c 18 83 [v 17]]) (Q (R [a 19 5,e 2 19]) .ret)))))
def apr:Cmd:=Q (R [e' 4 k0]) (Q (Q (R [e' 5 (k 0)]) (.blk 0 (.loop (Q (Q (R [a 6 5,a 7 0,l 8 7,g 9 .lss (v 6) (v 8)]) (F (v 9) .skip (.exit 0))) (Q (.blk 1 (Q (R [a 12 0,a 13 5,i 14 12 13 1,b' 15 14 1,a 16 1,g 17 .eql (v 15) (v 16)]) (F (v 17) (Q (R [e' 4 k1]) .ret) .skip))) (R [a 10 5,g 11 .add (v 10) (k 1),e 5 11])))))) (Q (R [e' 4 k0]) .ret))
def z6:Cmd:=Q (R [z 2 [.sl 6 [],.int .i64 0],e' 3 (.c (.str [])),e' 4 (.c (.str []))]) (Q (R [a 8 0,c 9 56 [v 8],e 5 9]) (Q (R [a 10 5,c 11 74 [v 10],z 6 [.sl 6 [],.int .i64 0],s 6 11 2]) (Q (R [a 12 5,b 13 6 2,c 14 58 [v 12,v 13],e 7 14]) (Q (Q (R [a 15 5,c 16 96 [v 15,k 6]]) (F (v 16) (Q (R [b 17 6 2,a 18 7,a 19 7,g 20 .add (v 19) (.c (.str [47,97])),s 2 17 2,e 3 18,e 4 20]) .ret) .skip)) (Q (D [0,0,0,4,13,31,63] [b 21 6 2,a 22 7,a 23 5,c 24 90 [v 23],s 2 21 2,e 3 22,e 4 24]) .ret)))))
def aoZ:Cmd:=Q (R [e' 4 k0]) (Q (R [a 10 0,c 11 81 [v 10],a 9 11,x 12 9 0,x 13 9 1,e 5 12,e 6 13]) (Q (R [a 15 1,c 16 81 [v 15],a 14 16,x 17 14 0,x 18 14 1,e 7 17,e 8 18]) (Q (R [a 19 6,a 20 19,ha 20 true 21 8,p 22 20 (v 21) k0,a 23 22,ha 23 true 24 5,h 23 true 25 (len 25 (v 24)),ha 23 true 26 7,h 23 true 27 (len 27 (v 26)),h 23 true 28 (bin 28 .leq (v 25) (v 27)),p 29 23 (v 28) k0,a 30 29,ha 30 true 31 5,ha 30 true 32 7,ha 30 true 33 5,h 30 true 34 (len 34 (v 33)),h 30 true 35 (slc 35 (v 32) none (some (v 34)) 1),hc 30 true 36 99 [v 31,v 35],p 37 30 (v 36) k0,e 4 37]) .ret)))
def ao3:Cmd:=Q (R [n 2 (box 2 (v 0)),n 3 (box 3 (v 1)),z 4 [.sl 6 [],.int .i64 0]]) (Q (R [f 5 2 0,f 6 5 4,b' 7 6 1,c 8 125 [v 7],n 9 (mkf 9 126 [v 2]),c 10 124 [v 8,v 9],f 11 2 0,f 12 11 4,s 12 10 1]) (Q (R [b 13 3 2,f 14 2 0,b 15 14 6,c 16 67 [v 13,v 15],s 4 16 2]) .ret))
def z7:Cmd:=Q (R [n 3 (box 3 (v 0)),n 4 (box 4 (v 1)),z 6 [.sl 6 [],.int .i64 0]]) (Q (R [f 8 3 0,f 9 8 4,b' 10 9 1,n 11 (mkf 11 133 [v 3]),c 12 132 [v 10,v 11],e 7 12]) (Q (Q (R [a 13 7,g 14 .lss (v 13) (k 0)]) (F (v 14) (R [f 15 3 0,f 16 15 4,b' 17 16 1,l 18 17,e 7 18]) .skip)) (Q (D [0,1,3,7,0,0,32,0,224,480,1023,2047,4095,8191] [f 19 3 0,f 20 19 4,b' 21 20 1,c 22 125 [v 21],a 23 7,f 24 3 6,b' 25 24 1,a 26 2,n 27 (bld 27 [.str [],.int .i64 0] [(0,1,v 25),(1,1,v 26)]),o 28 2 [v 27],c 29 134 [v 22,v 23,v 28],f 30 3 0,f 31 30 4,s 31 29 1]) (Q (R [b 32 4 2,f 33 3 0,b 34 33 6,c 35 67 [v 32,v 34],s 6 35 2]) .ret))))
def apb:Cmd:=Q (R [z 2 [.sl 6 [],.int .i64 0]]) (Q (Q (R [a 3 0,c 4 101 [v 3,k 16]]) (.blk 0 (Q (R [g 6 .eql (v 4) (k 0),e 5 6]) (F (v 5) (Q (R [a 7 0,c 8 100 [v 7],s 2 8 2]) .ret) (Q (R [g 10 .eql (v 4) (k 1),e 9 10]) (F (v 9) (Q (R [a 11 0,c 12 138 [v 11],s 2 12 2]) .ret) .skip)))))) (Q (R [a 13 0,c 14 57 [v 13,k 10],s 2 14 2]) .ret))
def ao4:Cmd:=Q (R [n 3 (box 3 (v 0)),n 4 (box 4 (v 1)),e' 6 (.c (.own 1 []))]) (Q (R [o 13 1 [],e 7 13]) (Q (Q (R [f 14 4 4,b' 15 14 1,l 16 15,n 17 (mov 17 (k 0))]) (.blk 0 (.loop (Q (R [g 18 .lss (v 17) (v 16)]) (Q (F (v 18) .skip (.exit 0)) (Q (.blk 1 (Q (R [i 19 15 17 2,b 20 19 2,z 9 [.str [],.int .i64 0],s 9 20 2]) (Q (R [a 21 2,g 22 .add (v 21) (.c (.str [47])),f 23 9 0,b' 24 23 1,g 25 .add (v 22) (v 24),e 10 25]) (Q (R [a 26 7,a 27 10,o 28 1 [v 27],n 29 (app 29 (v 26) (v 28) 1 16),e 7 29]) (Q (R [b 31 3 2,f 32 9 1,b' 33 32 1,c 34 70 [v 31,v 33],a 30 34,x 35 30 0,x 36 30 1,z 11 [.int .i64 0,.int .i64 0,.int .i64 0,.sl 1 [],.sl 2 [],.sl 2 []],s 11 35 6,e 12 36]) (R [a 37 7,b 38 3 2,b 39 11 6,a 40 10,c 41 82 [v 38,v 39,v 40],n 42 (app 42 (v 37) (v 41) 1 16),e 7 42])))))) (R [g 43 .add (v 17) (k 1),a 17 43]))))))) (Q (R [a 44 7,e 6 44]) .ret)))
def aoW:Cmd:=Q (R [e' 4 k0]) (Q (Q (R [a 6 0,l 7 6,a 8 1,l 9 8,g 10 .neq (v 7) (v 9)]) (F (v 10) (Q (R [e' 4 k0]) .ret) .skip)) (Q (Q (R [a 11 0,l 12 11,n 13 (mov 13 (k 0))]) (.blk 0 (.loop (Q (R [g 14 .lss (v 13) (v 12)]) (Q (F (v 14) .skip (.exit 0)) (Q (.blk 1 (Q (R [a 15 13,e 5 15]) (Q (D [0,0,3,7,0,0,48,112,255] [a 16 0,a 17 5,i 18 16 17 1,b' 19 18 1,a 20 1,a 21 5,i 22 20 21 1,b' 23 22 1,g 24 .neq (v 19) (v 23)]) (F (v 24) (Q (R [e' 4 k0]) .ret) .skip)))) (R [g 25 .add (v 13) (k 1),a 13 25]))))))) (Q (R [e' 4 k1]) .ret)))
def z8:Cmd:=Q (R [z 2 [.sl 6 [],.int .i64 0]]) (Q (R [a 4 0,c 5 57 [v 4,k 8],z 3 [.sl 6 [],.int .i64 0],s 3 5 2]) (Q (Q (R [a 6 0,c 7 101 [v 6,k 12]]) (.blk 0 (Q (R [g 9 .eql (v 7) (k 0),e 8 9]) (F (v 8) (R [a 10 0,o 11 1 [k 1,k 2,k 1000,k 1001],c 12 153 [v 10,v 11],f 13 3 1,s 13 12 1]) (Q (R [g 15 .eql (v 7) (k 1),e 14 15]) (F (v 14) (D [0,1,0,4,12,31,63,127] [f 16 3 0,b' 17 16 1,a 18 0,c 19 154 [v 18],o 20 6 [v 19],n 21 (app 21 (v 17) (v 20) 6 96),f 22 3 0,s 22 21 1]) (Q (R [g 24 .eql (v 7) (k 2),e 23 24]) (F (v 23) (D [0,1,0,0,8,24,60,0,252,511,1023] [f 25 3 0,b' 26 25 1,a 27 0,f 28 3 0,b' 29 28 1,l 30 29,c 31 101 [v 27,v 30],a 32 0,c 33 154 [v 32],i 34 26 31 6,s 34 33 6]) (Q (R [g 36 .eql (v 7) (k 3),e 35 36]) (F (v 35) (D [0,1,0,0,8,24,56,124,255,511,1023] [f 37 3 0,b' 38 37 1,a 39 0,f 40 3 0,b' 41 40 1,l 42 41,g 43 .add (v 42) (k 1),c 44 101 [v 39,v 43],n 45 (slc 45 (v 38) none (some (v 44)) 6),f 46 3 0,s 46 45 1]) .skip)))))))))) (Q (R [b 47 3 2,s 2 47 2]) .ret)))
def kL:Cmd:=Q (R [e' 4 (.c (.own 2 []))]) (Q (R [a 8 0,a 9 1,c 10 132 [v 8,v 9],e 5 10]) (Q (Q (R [a 11 5,g 12 .eql (v 11) (k (-1))]) (F (v 12) (Q (R [a 13 0,e 4 13]) .ret) .skip)) (Q (Q (R [a 14 5,g 15 .add (v 14) (k 1),e 6 15]) (.blk 0 (.loop (Q (Q (R [a 16 6,a 17 0,l 18 17,g 19 .lss (v 16) (v 18)]) (F (v 19) .skip (.exit 0))) (Q (.blk 1 (Q (R [a 22 0,a 23 6,i 24 22 23 2,b 25 24 2,z 7 [.str [],.int .i64 0],s 7 25 2]) (Q (R [a 26 1,b 27 7 2,n 28 (callv (some 28) (v 26) [v 27]),n 29 (un 29 .not (v 28))]) (F (v 29) (Q (R [a 30 0,a 31 5,b 32 7 2,i 33 30 31 2,s 33 32 2]) (R [a 34 5,g 35 .add (v 34) (k 1),e 5 35])) .skip)))) (R [a 20 6,g 21 .add (v 20) (k 1),e 6 21])))))) (Q (R [a 36 0,a 37 5,n 38 (slc 38 (v 36) (some (v 37)) none 2),m (.clr (v 38) 2 [.str [],.int .i64 0])]) (Q (R [a 39 0,a 40 5,n 41 (slc 41 (v 39) none (some (v 40)) 2),e 4 41]) .ret)))))
def aoX:Cmd:=Q (R [n 2 (box 2 (v 0)),e' 3 k0]) (Q (R [f 4 2 0,b' 5 4 1,f 6 1 6,b' 7 6 1,g 8 .eql (v 5) (v 7),e 3 8]) .ret)
def aoY:Cmd:=Q (R [n 2 (box 2 (v 0)),e' 3 k0]) (Q (R [f 4 2 0,b' 5 4 1,f 6 1 6,b' 7 6 1,g 8 .gtr (v 5) (v 7),e 3 8]) .ret)
def apB:Cmd:=Q (R [z 2 [.sl 6 [],.int .i64 0]]) (Q (R [c 7 118 [],z 3 [.sl 6 [],.int .i64 0],s 3 7 2]) (Q (Q (R [e' 4 (k 0)]) (.blk 0 (.loop (Q (Q (R [a 8 4,g 9 .lss (v 8) (k 4)]) (F (v 9) .skip (.exit 0))) (Q (.blk 1 (Q (R [a 12 4,g 13 .add (k 97) (v 12),n 14 (conv 14 .u8 (v 13)),o 15 1 [v 14],n 16 (b2s 16 (v 15)),g 17 .add (.c (.str [47])) (v 16),e 5 17]) (Q (R [b 19 3 2,a 20 5,c 21 37 [v 19,v 20],a 18 21,x 22 18 0,x 23 18 1,s 3 22 2]) (Q (R [e' 6 (k 0)]) (.blk 2 (.loop (Q (Q (R [a 24 6,g 25 .lss (v 24) (k 7)]) (F (v 25) .skip (.exit 2))) (Q (.blk 3 (R [b 29 3 2,a 30 5,g 31 .add (v 30) (.c (.str [47])),a 32 6,g 33 .add (k 97) (v 32),n 34 (conv 34 .u8 (v 33)),o 35 1 [v 34],n 36 (b2s 36 (v 35)),g 37 .add (v 31) (v 36),c 38 33 [v 29,v 37],a 28 38,x 39 28 0,x 40 28 1,s 3 39 2])) (R [a 26 6,g 27 .add (v 26) (k 1),e 6 27]))))))))) (R [a 10 4,g 11 .add (v 10) (k 1),e 4 11])))))) (Q (Q (R [a 41 0,c 42 96 [v 41,k 2]]) (F (v 42) (R [b 44 3 2,c 45 22 [v 44,.c (.str [47,97,47,97])],a 43 45,x 46 43 0,x 47 43 1,s 3 46 2]) .skip)) (Q (Q (R [a 48 0,c 49 96 [v 48,k 4]]) (F (v 49) (R [f 50 3 1,m (st (v 50) (k 1000) 1)]) .skip)) (Q (R [b 51 3 2,s 2 51 2]) .ret)))))
def kU:Cmd:=Q (R [z 2 [.int .i64 0,.int .i64 0,.int .i64 0,.sl 1 [],.sl 2 [],.sl 2 []]]) (Q (R [a 4 0,c 5 199 [v 4],z 3 [.int .i64 0,.int .i64 0,.int .i64 0,.sl 1 [],.sl 2 [],.sl 2 []],s 3 5 6]) (Q (Q (R [a 6 0,c 7 101 [v 6,k 14]]) (.blk 0 (Q (R [g 9 .eql (v 7) (k 0),e 8 9]) (F (v 8) (R [a 10 0,o 11 1 [k 0,k 1,k 1000,k 1001],c 12 153 [v 10,v 11],f 13 3 0,s 13 12 1]) (Q (R [g 15 .eql (v 7) (k 1),e 14 15]) (F (v 14) (R [a 16 0,c 17 101 [v 16,k 4],f 18 3 1,s 18 17 1]) (Q (R [g 20 .eql (v 7) (k 2),e 19 20]) (F (v 19) (R [a 21 0,o 22 1 [k (-1),k 0,k 2,k 1001],c 23 153 [v 21,v 22],f 24 3 2,s 24 23 1]) (Q (R [g 26 .eql (v 7) (k 3),e 25 26]) (F (v 25) (R [f 27 3 3,b' 28 27 1,o 29 1 [.c (.int .u8 1)],n 30 (app 30 (v 28) (v 29) 1 1),f 31 3 3,s 31 30 1]) (Q (R [g 33 .eql (v 7) (k 4),e 32 33]) (F (v 32) (D [0,1,0,0,12,0,0,124,252,508,1023,2047,4095] [f 34 3 4,b' 35 34 1,a 36 0,o 37 1 [.c (.str [97]),.c (.str [122]),.c (.str []),.c (.str [90])],c 38 149 [v 36,v 37],a 39 0,o 40 1 [k 1,k 2,k 1000,k 1001],c 41 153 [v 39,v 40],n 42 (bld 42 [.str [],.int .i64 0] [(0,1,v 38),(1,1,v 41)]),o 43 2 [v 42],n 44 (app 44 (v 35) (v 43) 2 24),f 45 3 4,s 45 44 1]) (Q (R [g 47 .eql (v 7) (k 5),e 46 47]) (F (v 46) (D [0,1,0,0,12,0,60,124,252,508,1020,2044,4095,8191,16383] [f 48 3 5,b' 49 48 1,a 50 0,o 51 1 [.c (.str [97]),.c (.str [122]),.c (.str [])],c 52 149 [v 50,v 51],a 53 0,c 54 101 [v 53,k 3],g 55 .add (k 15) (v 54),n 56 (mks 56 (v 55) (v 55) 1 1 [.int .u8 0]),n 57 (b2s 57 (v 56)),n 58 (bld 58 [.str [],.str []] [(0,1,v 52),(1,1,v 57)]),o 59 2 [v 58],n 60 (app 60 (v 49) (v 59) 2 32),f 61 3 5,s 61 60 1]) .skip)))))))))))))) (Q (R [b 62 3 6,s 2 62 6]) .ret)))
def ape:Cmd:=Q (R [z 2 [.int .i64 0,.int .i64 0,.int .i64 0,.sl 1 [],.sl 2 [],.sl 2 []]]) (Q (R [a 7 0,c 8 101 [v 7,k 6],g 9 .add (k 2) (v 8),a 10 0,c 11 101 [v 10,k 2],g 12 .add (k 1) (v 11),n 13 (bld 13 [.int .i64 0,.int .i64 0,.int .i64 0,.sl 1 [],.sl 2 [],.sl 2 []] [(0,1,v 9),(1,1,v 12),(2,1,k 1)]),z 3 [.int .i64 0,.int .i64 0,.int .i64 0,.sl 1 [],.sl 2 [],.sl 2 []],s 3 13 6]) (Q (R [o 14 1 [.c (.str [97]),.c (.str [98]),.c (.str [99]),.c (.str [100,46,116,120,116])],e 4 14]) (Q (Q (R [f 15 3 1,b' 16 15 1,g 17 .eql (v 16) (k 1)]) (F (v 17) (Q (R [a 18 0,a 19 0,o 20 1 [k 0,k 1,k 5,k 20,k 100],c 21 153 [v 19,v 20],c 22 223 [v 18,v 21],f 23 3 3,s 23 22 1]) (R [a 24 0,c 25 101 [v 24,k 2],g 26 .add (k 1) (v 25),f 27 3 2,s 27 26 1])) (Q (R [e' 5 (k 0)]) (.blk 0 (.loop (Q (Q (R [a 28 5,g 29 .lss (v 28) (k 4)]) (F (v 29) .skip (.exit 0))) (Q (.blk 1 (Q (R [a 32 0,c 33 96 [v 32,k 2]]) (F (v 33) (D [0,1,0,0,12,28,0,64,192,508,1020,2047,4095,8191] [f 34 3 4,b' 35 34 1,a 36 4,a 37 5,i 38 36 37 1,b' 39 38 1,a 40 0,c 41 101 [v 40,k 8],g 42 .add (k 2) (v 41),n 43 (bld 43 [.str [],.int .i64 0] [(0,1,v 39),(1,1,v 42)]),o 44 2 [v 43],n 45 (app 45 (v 35) (v 44) 2 24),f 46 3 4,s 46 45 1]) .skip))) (R [a 30 5,g 31 .add (v 30) (k 1),e 5 31])))))))) (Q (Q (R [e' 6 (k 0)]) (.blk 2 (.loop (Q (Q (R [a 47 6,g 48 .lss (v 47) (k 2)]) (F (v 48) .skip (.exit 2))) (Q (.blk 3 (Q (R [a 51 0,c 52 96 [v 51,k 3]]) (F (v 52) (D [0,1,0,0,12,28,0,0,192,508,1020,2047,4095,8191] [f 53 3 5,b' 54 53 1,a 55 4,a 56 6,i 57 55 56 1,b' 58 57 1,a 59 0,o 60 1 [.c (.str [120]),.c (.str [118,97,108,117,101]),.c (.str [115,105,120,116,101,101,110,98,121,116,101,115,120,120,120,120])],c 61 149 [v 59,v 60],n 62 (bld 62 [.str [],.str []] [(0,1,v 58),(1,1,v 61)]),o 63 2 [v 62],n 64 (app 64 (v 54) (v 63) 2 32),f 65 3 5,s 65 64 1]) .skip))) (R [a 49 6,g 50 .add (v 49) (k 1),e 6 50])))))) (Q (R [b 66 3 6,s 2 66 6]) .ret)))))
end
theorem ao8:aD Tryz.prog 9=some (111,[.t 2],aoV):=by kernel_rfl
theorem kG:aD Tryz.prog 18=some (102,[.c 6 2 true,.t 7],kE):=by kernel_rfl
theorem aps:aD Tryz.prog 24=some (20,[.t 2],ao7):=by kernel_rfl
theorem apT:aD Tryz.prog 26=some (18,[.t 4],apr):=by kernel_rfl
theorem ao5:aD Tryz.prog 41=some (25,[.c 2 2 true,.t 3,.t 4],z6):=by kernel_rfl
theorem apc:aD Tryz.prog 43=some (38,[.t 4],aoZ):=by kernel_rfl
theorem apy:aD Tryz.prog 65=some (17,[.c 4 2 true],ao3):=by kernel_rfl
theorem ao6:aD Tryz.prog 71=some (36,[.c 6 2 true],z7):=by kernel_rfl
theorem apt:aD Tryz.prog 74=some (15,[.c 2 2 true],apb):=by kernel_rfl
theorem apz:aD Tryz.prog 82=some (45,[.t 6],ao4):=by kernel_rfl
theorem api:aD Tryz.prog 99=some (26,[.t 4],aoW):=by kernel_rfl
theorem ao0:aD Tryz.prog 100=some (48,[.c 2 2 true],z8):=by kernel_rfl
theorem r8:aD Tryz.prog 124=some (42,[.t 4],kL):=by kernel_rfl
theorem apj:aD Tryz.prog 126=some (9,[.t 3],aoX):=by kernel_rfl
theorem apk:aD Tryz.prog 133=some (9,[.t 3],aoY):=by kernel_rfl
theorem aqg:aD Tryz.prog 138=some (52,[.c 2 2 true],apB):=by kernel_rfl
theorem kW:aD Tryz.prog 154=some (63,[.c 2 6 true],kU):=by kernel_rfl
theorem apC:aD Tryz.prog 199=some (67,[.c 2 6 true],ape):=by kernel_rfl
theorem apK {l m:List aA} (hl:∀ n ∈ l,aZ n=true) (hm:∀ n ∈ m,aZ n=true) (h:dS l=dS m):l=m:=by
 have e1:=adz l (fun n hn=>agq (hl n hn)) [] (by simp)
 have e2:=adz m (fun n hn=>agq (hm n hn)) [] (by simp)
 rw [lF1] at e1 e2
 rw [h,e2] at e1
 injection e1 with _ e1
 exact e1.symm
theorem ao1 (l m:List aA):dS (l++m)=dS l++dS m:=by simp [dS]
def aqx (t:Tab):Nat:=(t.inodes.map fun x=>32+x.data.length+(x.attrs.map fun a=>a.name.length+a.val.length).sum).sum
section
variable {t:Tab}
theorem apL (h:TreeOk t) {l:List aA} {i:Int} (hw:aQ (aC t) l 1=some i):bX l=true:=by
 obtain ⟨h1,h2⟩:=rW h hw
 exact oP (by have:=h.tab.len; omega) h2
end
section
section
variable {α:Type} (key:α→aA)
variable {key}
theorem aqQ {l:List α} {e:α} (hn:∀ x ∈ l,key x≠key e):aiI key (vJ key l e) (key e)=l:=by
 induction l with
 | nil=>simp [vJ,aiI]
 | cons f l ih=>
  have ih:=ih fun x hx=>hn x (by simp [hx])
  have hf:=hn f (by simp)
  have all:aiI key (f::l) (key e)=f::l:=by
   rw [aiI,List.filter_eq_self]
   intro x hx
   simpa using hn x hx
  rw [vJ]
  split
  ·rw [aiI,lC4,lJ (by simp)]; exact all
  ·rw [aiI,lC4,lG (by simpa using hf)]
   exact congrArg (f::·) ih
end
end
theorem apM {t:Tab} (h:TreeOk t):(yB t).Nodup:=by
 obtain ⟨r,r1,_,r3⟩:=eM h
 have r4:=(aM r1).2
 rw [yB,r1]
 simp only [lC,lY]
 rw [List.Nodup,List.pairwise_map]
 refine List.Pairwise.imp_of_mem ?_ (abO h 30 r r3)
 intro a b ha hb hne hj
 have nm:∀ l,l ∈ iV t 30 r→∀ n ∈ l,aZ n=true:=by
  intro l hl
  obtain ⟨i,hi⟩:=lB1.1 ((oU h 30 r r3 l).1 hl).2.2
  rw [r4] at hi
  exact (rW h hi).2
 exact hne (apK (nm a ha) (nm b hb) hj)
def kC (t:Tab):List aA:=(yB t).mergeSort fun x y=>decide (x≤y)
theorem p3 {t:Tab} (h:TreeOk t) (s:aA):s ∈ kC t↔∃ l,l≠[]∧s=dS l∧(aQ (aC t) l 1).isSome=true:=by
 rw [kC,(List.mergeSort_perm _ _).mem_iff,agv h]
theorem aqh {t:Tab} (h:TreeOk t):(kC t).Pairwise fun a b=>a<b:=by
 have h1:=List.pairwise_mergeSort (le:=fun x y:aA=>decide (x≤y)) (by intro a b c; simp only [decide_eq_true_eq]; exact fun h1 h2=>List.le_trans h1 h2) (by intro a b; simp only [lL4,decide_eq_true_eq]; exact List.le_total a b) (yB t)
 have h2:(kC t).Nodup:=(List.mergeSort_perm _ _).nodup_iff.2 (apM h)
 exact (h1.and h2).imp fun ⟨a,b⟩=>by
  simp only [decide_eq_true_eq] at a
  rcases List.le_iff_lt_or_eq.1 a with h' | h'
  ·exact h'
  ·exact absurd h' b
theorem aqi {α:Type} [DecidableEq α] {l m:List α} (h:l.Nodup) (hs:∀ x ∈ l,x ∈ m):l.length≤m.length:=by
 induction l generalizing m with
 | nil=>simp
 | cons x l ih=>
  obtain ⟨hx,hl⟩:=lU4.1 h
  have hm:=hs x (by simp)
  have:=ih (m:=m.erase x) hl fun y hy=>(List.mem_erase_of_ne (by rintro rfl; exact hx hy)).2 (hs y (by simp [hy]))
  rw [List.length_erase_of_mem hm] at this
  have:0<m.length:=List.length_pos_of_mem hm
  simp only [lV]; omega
theorem apD {t:Tab} (h:TreeOk t) {l:List aA} (hw:(aQ (aC t) l 1).isSome=true):∀ n ∈ l,aZ n=true:=by
 obtain ⟨i,hi⟩:=lB1.1 hw
 exact (rW h hi).2
theorem apu {t u:Tab} (ht:TreeOk t) (hu:TreeOk u) {f:List aA→List aA} (h:∀ l,l≠[]→(aQ (aC t) l 1).isSome=true→f l≠[]∧(aQ (aC u) (f l) 1).isSome=true)
  (hi:∀ l m,(aQ (aC t) l 1).isSome=true→(aQ (aC t) m 1).isSome=true→f l=f m→l=m):(kC t).length≤(kC u).length:=by
 have pre:∀ s,∃ l,s ∈ kC t→l≠[]∧s=dS l∧(aQ (aC t) l 1).isSome=true:=by
  intro s
  by_cases hs:s ∈ kC t
  ·obtain ⟨l,hl⟩:=(p3 ht s).1 hs
   exact ⟨l,fun _=>hl⟩
  ·exact ⟨[],fun h=>absurd h hs⟩
 obtain ⟨g,hg⟩:=Classical.axiomOfChoice pre
 have nd:((kC t).map fun s=>dS (f (g s))).Nodup:=by
  rw [List.Nodup,List.pairwise_map]
  have h0:(kC t).Nodup:=(aqh ht).imp fun hab e=>by rw [e] at hab; exact absurd hab (lT3 _)
  refine List.Pairwise.imp_of_mem ?_ h0
  intro a b ha hb hne hj
  obtain ⟨a1,a2,a3⟩:=hg a ha
  obtain ⟨b1,b2,b3⟩:=hg b hb
  apply hne
  rw [a2,b2]
  have e1:=apK (apD hu (h _ a1 a3).2) (apD hu (h _ b1 b3).2) hj
  rw [hi _ _ a3 b3 e1]
 have:=aqi (m:=kC u) nd fun s hs=>by
  obtain ⟨r,hr,rfl⟩:=lV1.1 hs
  obtain ⟨a1,a2,a3⟩:=hg r hr
  obtain ⟨c1,c2⟩:=h _ a1 a3
  exact (p3 hu _).2 ⟨_,c1,rfl,c2⟩
 simpa using this
theorem apA (l m:List aA) (hl:l.length<2^40) (hm:m.length<2^40):bC Tryz.prog 99 [.ext 1 (l.map dB),.ext 1 (m.map dB)] (.bool (decide (l=m))) [.undef,.undef]:=by
 refine U api [] 12339 [] fun w hP hQ=>?_
 unfold aoW
 refine N ?_
 (first | with_reducible refine cQ _ ?_ ?_ | refine cR _ ?_ ?_) <;> intro h
 ·refine N ?_
  refine fH [4,5] ?_
  refine N ?_
  refine aT [4,5] (fun i:Nat=>[(13,.int .i64 i)]) (fun i=>i≤l.length∧l.take i=m.take i) (fun i=>l.length-i) (0) hP hQ (rfl) (by simp) ?_
  rintro i ⟨hi,hab⟩ w1 hP1 hQ1
  refine N1 ?_
  (first | with_reducible refine cQ _ ?_ ?_ | refine cR _ ?_ ?_) <;> intro h1
  ·simp +decide (maxSteps:=9^9) (disch:=omega) only[↓SB0,SX,seval,hQ,hQ1,bG h1,bG (h ▸ h1),dB]
   (first | with_reducible refine cQ _ ?_ ?_ | refine cR _ ?_ ?_) <;> intro h2
   ·refine N1 ?_
    exact ⟨i+1,rfl,⟨by omega,gR hab _ _ h2⟩,by omega⟩
   ·refine N1 ?_
    rw [lB (show ¬ l=m from fun e=>by subst e; exact h2 rfl)]
  ·refine N1 ?_
   rw [lE (tJ hab (by omega) (by omega))]
 ·refine N ?_
  rw [lB (show ¬ l=m from fun e=>h (by rw [e]))]
theorem aqd (a b:aA) (ha:a.length<2^40) (hb:b.length<2^40):bC Tryz.prog 43 [.str a,.str b] (.bool (aam a b)) [.undef,.undef]:=by
 have hS:=oD a ha
 have hT:=oD b hb
 have hf:=kY a
 have hg:=kY b
 unfold aam
 generalize aB a=x at *
 generalize aB b=y at *
 obtain ⟨l,u⟩:=x
 obtain ⟨m,v⟩:=y
 simp only at *
 cases u with
 | false=>
  refine U apc [] 499 [] fun w hP hQ=>?_
  unfold aoZ
  refine N ?_
  refine K (hS) ?_
  exact K (hT) trivial
 | true=>
  cases v with
  | false=>
   refine U apc [] 499 [] fun w hP hQ=>?_
   unfold aoZ
   refine N ?_
   refine K (hS) ?_
   exact K (hT) trivial
  | true=>
   by_cases hn:l.length≤m.length
   ·have hE:=apA l (m.take l.length) (by omega) (by simp; omega)
    rw [← adR hn,lP4] at hE
    have h0:decide (((l.length:Nat):Int)≤(m.length:Nat))=true:=lE (by omega)
    have h2:(((l.length:Nat):Int)-0).toNat=l.length:=by omega
    have h3:0+l.length≤m.length:=by omega
    refine U apc [] 499 [] fun w hP hQ=>?_
    unfold aoZ
    refine N ?_
    refine K (hS) ?_
    have hz:=And.intro h0 (And.intro h2 h3)
    refine Kz (hT) ?_
    exact K (hE) trivial
   ·rw [adS (by omega)]
    have h0:decide (((l.length:Nat):Int)≤(m.length:Nat))=false:=lB (by omega)
    refine U apc [] 499 [] fun w hP hQ=>?_
    unfold aoZ
    refine N ?_
    refine K (hS) ?_
    have hz:=h0
    exact Kz (hT) trivial
section
section
variable {α:Type} {key:α→aA}
theorem aqC {l:List α} {e:α} {k:Nat} (h:l.findIdx? (fun x=>decide (key e<key x))=some k):k<l.length∧vJ key l e=l.take k++e::l.drop k:=by
 obtain ⟨h1,h2,h3⟩:=lO2.1 h
 refine ⟨h1,agE (by omega) (fun j hj hl=>?_) (fun _=>by simpa using h2)⟩
 simpa using h3 j hj
theorem aqD {l:List α} {e:α} (h:l.findIdx? (fun x=>decide (key e<key x))=none):vJ key l e=l.take l.length++e::l.drop l.length:=by
 rw [lU3] at h
 exact agE (lR1 _) (fun j hj hl=>by simpa using h _ (lO hl)) (fun h=>absurd h (Nat.lt_irrefl _))
end
end
section
variable {t:Tab}
theorem aqy {p q:aA} (h:(n6 t p q).2≠0):(n6 t p q).1=t:=by
 unfold n6 at *
 split <;> rename_i e
 ·rw [lG e] at h
  split <;> rename_i e2
  ·rw [e2] at h
   simp only at h
   split <;> rename_i e4
   ·rfl
   ·rw [lJ e4] at h
    split <;> rename_i e3
    ·rw [e3] at h; exact absurd rfl h
    ·rfl
  ·rfl
 ·rfl
end
section
section
variable {α:Type} {s:Nat} {row:α→List TV} {p:α→Bool} {l:List α} {i j:Nat} {R:List (List TV)}
theorem Kept'.skip (h:Kept' s row p l i j R) (hj:j<l.length) (hp:p l[j]=true):Kept' s row p l i (j+1) R:=by
 obtain ⟨a1,a2,a3,a4,a5,a6,a7⟩:=h
 have e:(l.take (j+1)).filter (fun x=>!p x)=(l.take j).filter fun x=>!p x:=by
  rw [lU hj,lH4]; simp [hp]
 refine ⟨by omega,by omega,a3,by rw [e,a4],by rw [e,a5],?_,a7⟩
 rw [← lJ2,a6,← List.map_drop,lJ2]
theorem Kept'.keep (h:Kept' s row p l i j R) (hj:j<l.length) (hp:p l[j]=false) {R':List (List TV)} (hl:R'.length=l.length) (hw:∀ x ∈ R',x.length=s) (h1:R'.take i=R.take i) (h2:R'.drop (j+1)=R.drop (j+1)) {f:List TV→List TV} (hf:∀ x,x.length=s→f x=row l[j]) (hr:(row l[j]).length=s) :
  Kept' s row p l (i+1) (j+1) (R'.modify i f):=by
 obtain ⟨a1,a2,a3,a4,a5,a6,a7⟩:=h
 have e:(l.take (j+1)).filter (fun x=>!p x)=(l.take j).filter (fun x=>!p x)++[l[j]]:=by
  rw [lU hj,lH4]; simp [hp]
 have hi:i<R'.length:=by omega
 refine ⟨by omega,by omega,by simp [hl],?_,by rw [e]; simp; omega,?_,fun x hx=>?_⟩
 ·rw [e,lM2,← a4,← h1,lU (by simpa using hi),List.getElem_modify_eq,hf _ (hw _ (lO _))]
  congr 1
  apply lW2
  intro m
  rw [lP1,lP1,lX1]
  split
  ·rename_i hm
   have hm':i≠m:=by omega
   simp [hm']
  ·rfl
 ·have e2:(R'.modify i f).drop (j+1)=R'.drop (j+1):=by
   apply lW2
   intro m
   have hm':i≠j+1+m:=by omega
   rw [lH2,lH2,lX1]
   simp [hm']
  rw [e2,h2,← lJ2,a6,← List.map_drop,lJ2]
 ·obtain ⟨m,hm,rfl⟩:=lU1 hx
  rw [List.getElem_modify]
  split
  ·rw [hf _ (hw _ (lO _))]; exact hr
  ·exact hw _ (lO _)
theorem Kept'.done (h:Kept' s row p l i l.length R):R.take i=(l.filter fun x=>!p x).map row:=by
 have:=h.low
 rwa [lZ1] at this
end
theorem apl {g:Nat} {cs:List TV} {p:Ent→Bool} (hc:∀ v:Ent,bC Tryz.prog g [v.x,.xbox cs] (.bool (p v)) [.undef,.undef]) (l:List Ent) (hl:l.length<2^40) :
  bC Tryz.prog 124 [.own 2 (l.map Ent.row),.fn g [.xbox cs]] (.own 2 ((l.filter fun x=>!p x).map Ent.row)) [.undef,.undef]:=by
 have hI:=aje hc l (by omega)
 cases e:l.findIdx? p with
 | none=>
  have ef:(l.filter fun x=>!p x)=l:=agM (by rw [lU3] at e; exact e)
  rw [e] at hI
  rw [ef]
  refine U r8 [] 243 [] fun w hP hQ=>?_
  unfold kL
  refine N ?_
  exact K (hI) trivial
 | some k=>
  obtain ⟨k1,_⟩:=lO2.1 e
  rw [e,show abP (some k)=(k:Int) from rfl] at hI
  have hz:decide (((k:Nat):Int)=-1)=false:=lB (by omega)
  refine U r8 [] 243 [] fun w hP hQ=>?_
  unfold kL
  refine N ?_
  have hz:=hz
  refine Kz (hI) ?_
  refine fH [7,5007] ?_
  refine N ?_
  refine aT [7,5007] (fun x:Nat × Nat × List (List TV)=>[(0,.own 2 x.2.2),(5,.int .i64 (x.1:Nat)),(6,.int .i64 (x.2.1:Nat))]) (fun x=>Kept' 2 Ent.row p l x.1 x.2.1 x.2.2) (fun x=>l.length-x.2.1) ((k,k+1,l.map Ent.row)) hP hQ (rfl) (Kept'.start (fun _=>rfl) e) ?_
  rintro ⟨i,j,R⟩ hK w1 hP1 hQ1
  refine N1 ?_
  simp only at hK
  have hlen:=hK.len
  have hlt:=hK.lt
  have hle:=hK.le
  (first | with_reducible refine cQ _ ?_ ?_ | refine cR _ ?_ ?_) <;> intro h1
  ·have hj:j<l.length:=by omega
   have hat:=hK.at hj
   have hji:((j:Nat):Int)<(R.length:Nat):=by omega
   cases hp:p l[j] with
   | true=>
    have hz:=hat
    refine Nz1 ?_
    have hz:=hp
    refine Kz1 (hc l[j]) ?_
    exact ⟨(i,j+1,R),rfl,hK.skip hj hp,by simp only; omega⟩
   | false=>
    have hii:i<R.length:=by omega
    have hz:=hat
    refine Nz1 ?_
    have hz:=hp
    refine Kz1 (hc l[j]) ?_
    exact ⟨(i+1,j+1,_),rfl,hK.keep hj hp hlen hK.wid rfl rfl (fun x hx=>by rw [lF4 (Nat.le_of_eq hx)]; rfl) rfl,by simp only; omega⟩
  ·obtain rfl:j=l.length:=by omega
   have e1:(((l.length:Nat):Int)-(i:Nat)).toNat=l.length-i:=by omega
   have e2:R.drop (i+(l.length-i))=[]:=lG4 (by omega)
   have e3:(R.take i++List.replicate (l.length-i) [TV.str [],TV.int .i64 0]).length=l.length:=by simp; omega
   have e4:(((i:Nat):Int)-0).toNat=i:=by omega
   have e5:0+i≤l.length:=by omega
   have e6:(R.take i++List.replicate (l.length-i) [TV.str [],TV.int .i64 0]).take i=(l.filter fun x=>!p x).map Ent.row:=by
    rw [List.take_append_of_le_length (by simp; omega),List.take_take,Nat.min_self,hK.done]
   have hz:=And.intro hlen (And.intro e1 (And.intro e2 (And.intro e3 (And.intro e4 (And.intro e5 e6)))))
   exact Nz1 trivial
end
theorem aqj (e:Ent) (D:Inode) (n:aA):bC Tryz.prog 126 [e.x,.xbox (aoT D n)] (.bool (decide (e.name=n))) [.undef,.undef]:=by
 unfold aoT
 refine U apj [] 15 [] fun w hP hQ=>?_
 unfold aoX
 exact N trivial
theorem aqE (l:List Ent) (n:aA):(l.filter fun e=>!decide (e.name=n))=cY l n:=by
 unfold cY aiI
 congr 1
 funext e
 by_cases h:e.name=n <;> simp [h]
theorem aqF (t:Tab) (D:Inode) (n:aA) {k:Nat} (h:t.sz<2^40) (hD:D.sz<2^40) (hu:UpI t.inodes) (hk:b9 t D.ino=some k) :
  bC Tryz.prog 65 [aoS D n,t.x] (aG t (cF D n)).o [.undef,.undef]:=by
 obtain ⟨h1,h2,h3⟩:=dU hD
 have hF:=apl (fun v=>aqj v D n) D.ents (by omega)
 rw [aqE] at hF
 have hS:=ajf t (cF D n) h (lI4 (v6 D n) hD) hu hk
 unfold aoS
 refine U apy [(124,[.m,.b],[])] 31 [] fun w hP hQ=>?_
 unfold ao3
 refine N ?_
 refine K (akZ D.ents (by omega)) ?_
 refine K (hF) ?_
 exact K (hS) trivial
section
variable {t:Tab}
theorem ao2 {s:aA} (h:(aB s).2=true) (hne:(aB s).1≠[]):dS (aB s).1=s:=by
 obtain ⟨h1,h2⟩:=oQ h
 rw [b8,lG h1,lJ hne] at h2
 exact h2
theorem apN (ht:TreeOk t) {r:aA} (hr:r ∈ kC t):∃ x,(aB r).2=true∧(aB r).1≠[]∧aQ (aC t) (aB r).1 1=some x.ino∧x ∈ t.inodes∧cJ t r=.ok x:=by
 obtain ⟨l,h1,rfl,h2⟩:=(p3 ht r).1 hr
 obtain ⟨i,hi⟩:=lB1.1 h2
 have e:=adB (apL ht hi) h1
 obtain ⟨x,x1,x2,x3⟩:=x9 ht hi
 have e1:(aB (dS l)).1=l:=by rw [e]
 have e2:(aB (dS l)).2=true:=by rw [e]
 refine ⟨x,e2,by rw [e1]; exact h1,by rw [e1,x3]; exact hi,x2,?_⟩
 rw [amX e2 (by rw [e1]; exact hi),x1]
end
theorem apv (l:List aA) (n:aA) (hl:l.length<2^48):bC Tryz.prog 26 [.ext 1 (l.map dB),.str n] (.bool (decide (n ∈ l))) [.undef,.undef]:=by
 refine U apT [] 51 [] fun w hP hQ=>?_
 unfold apr
 refine N ?_
 refine fH [4] ?_
 refine N ?_
 refine aT [4] (fun i:Nat=>[(5,.int .i64 i)]) (fun i=>i≤l.length∧∀ k,k<i→(h:k<l.length)→decide (l[k]=n)=false) (fun i=>l.length-i) (0) hP hQ (rfl) (by simp) ?_
 rintro i ⟨hi,hk⟩ w1 hP1 hQ1
 refine N1 ?_
 (first | with_reducible refine cQ _ ?_ ?_ | refine cR _ ?_ ?_) <;> intro h1
 ·simp +decide (maxSteps:=9^9) (disch:=omega) only[↓SB0,SX,seval,hQ,hQ1,bG h1,dB]
  (first | with_reducible refine cQ _ ?_ ?_ | refine cR _ ?_ ?_) <;> intro h2
  ·refine N1 ?_
   rw [lE (by rw [← h2]; exact lO _)]
  ·refine N1 ?_
   exact ⟨i+1,rfl,⟨by omega,oB (p:=fun x:aA=>decide (x=n)) hk (by omega) (lB h2)⟩,by omega⟩
 ·obtain rfl:i=l.length:=by omega
  refine N1 ?_
  rw [lB (fun hm=>by
   obtain ⟨k,h,e⟩:=lU1 hm
   have:=hk k h h
   simp [e] at this)]
theorem aqG (l:List aA):jC (l.map dB)=true:=by
 rw [jC,lW]
 intro r hr
 obtain ⟨x,_,rfl⟩:=lV1.1 hr
 rfl
theorem apG (t:Tab) (hB:bJ t=true) (h:t.sz<2^40) (k:Nat):∀ (x:Inode) (s:aA),x ∈ t.inodes→(∃ l,aQ (aC t) l 1=some x.ino∧t.inodes.length≤l.length+k)→s.length+k*15<2^30 →
  bC Tryz.prog 82 [t.x,x.x,.str s] (.own 1 ((oF t k x s).map dB)) [.undef,.undef,.undef]:=by
 have ht:=(aV t).1 hB
 induction k with
 | zero=>
  rintro x s hx ⟨l,hl,hle⟩
  have:=(rW ht hl).1
  omega
 | succ k ih=>
  rintro x s hx ⟨l,hl,hle⟩ hs
  have few:(oF t (k+1) x s).length≤300:=by rw [wD ht _ x hx,lJ1]; exact aco ht hx _
  rw [oF] at few ⊢
  generalize hf:(fun e:Ent=>(s++[47]++e.name)::oF t k ((aC t e.ino).getD zN) (s++[47]++e.name))=f at *
  have zx:=yX h (f0 ht hx)
  have ze:=(dU zx).2.1
  refine U apz [] 233183 [] fun w hP hQ=>?_
  unfold ao4
  refine N ?_
  refine fH [9,10,11,5009,5011] ?_
  refine N ?_
  refine aT [9,10,11,5009,5011] (fun i:Nat=>[(7,.own 1 (((x.ents.take i).flatMap f).map dB)),(17,.int .i64 i)]) (fun i=>i≤x.ents.length) (fun i=>x.ents.length-i) (0) hP hQ (rfl) (by simp) ?_
  rintro i hi w1 hP1 hQ1
  refine N1 ?_
  have fi:=rE f x.ents i
  have fj:=rE f x.ents (i+1)
  (first | with_reducible refine cQ _ ?_ ?_ | refine cR _ ?_ ?_) <;> intro g
  ·have hlt:i<x.ents.length:=by omega
   have hm:x.ents[i] ∈ x.ents:=lO hlt
   have ek:=(bQ ht hx).ok _ hm
   have nl:=mI ek.1
   obtain ⟨y,hy⟩:=lB1.1 (ht.there x hx _ hm)
   obtain ⟨y1,y2⟩:=aM hy
   have kx:x.kind=2:=by
    apply Classical.byContradiction
    intro hk
    have h0:=(nY ht hx hk).1
    rw [h0] at hlt
    exact absurd hlt (by simp)
   have hA:=oY t x.ents[i].ino h
   rw [adU,hy] at hA
   simp only [lY,lQ2] at hA
   have hw:aQ (aC t) (l++[x.ents[i].name]) 1=some y.ino:=by
    rw [cG,hl]
    exact (gS _ _ _ _).2 ⟨x,f0 ht hx,kx,by rw [eL (bQ ht hx).up hm,y2],by rw [y2]; omega⟩
   have hI:=ih y (s++[47]++x.ents[i].name) y1 ⟨_,hw,by simp; omega⟩ (by simp; omega)
   have ff:f x.ents[i]=(s++[47]++x.ents[i].name)::oF t k y (s++[47]++x.ents[i].name):=by rw [← hf]; simp only [hy]; rfl
   rw [acp f hlt,ff] at fj
   simp only [lT,lV] at fj
   have hb1:(((x.ents.take i).flatMap f).length+1)*16≤140737488355328:=by omega
   have hb2:(((x.ents.take i).flatMap f).length+1+(oF t k y (s++[47]++x.ents[i].name)).length)*16≤140737488355328:=by omega
   have hb3:(s++[47]).length+x.ents[i].name.length≤4611686018427387904:=by simp; omega
   have hb4:s.length+1≤4611686018427387904:=by omega
   have hz:=And.intro (bG g) (And.intro hb1 (And.intro hb3 hb4))
   refine Nz1 ?_
   refine K1 (hA) ?_
   (first|refine cI hP1 (hI) rfl rfl ?_|refine cH hP1 (hI) rfl rfl ?_)
   simp +decide (maxSteps:=9^9) (disch:=omega) only[↓SB0,SX,seval,hQ,hQ1,hb2,aqG,lT,lJ1,List.length_singleton]
   exact ⟨i+1,by rw [acp f hlt,ff]; simp [dB],by omega,by omega⟩
  ·obtain rfl:i=x.ents.length:=by omega
   simp +decide (maxSteps:=9^9) (disch:=omega) only[↓SB0,SX,seval,hQ,hQ1,lZ1]
   all_goals first | rfl | exact ⟨rfl,rfl⟩
section
open Go.Proofs Go.Shelf
def apm:Go.Shelf.Ren:=⟨fun | 190=>83 | 125=>145 | 258=>144 | 128=>196 | 129=>197 | 302=>187 | 303=>188 | 304=>189 | 305=>190 | 306=>191 | 307=>192 | 308=>193 | 309=>194 | 310=>195 | 333=>232 | 329=>233 | 330=>234 | 334=>235 | 335=>236 | 336=>237 | 344=>258 | n=>n,
 fun | 31=>37 | 9=>9 | 3=>3 | 46=>141 | 0=>0 | 51=>178 | 53=>180 | 4=>4 | 183=>171 | 182=>170 | 131=>175 | 5=>5 | 218=>200 | 222=>204 | 228=>233 | 229=>35 | n=>n,
 fun | n=>n⟩
theorem apf:Lays.n190 Tryz.prog apm where
 mixed:=by kernel_rfl
 f125:=Tryz.func145.trans (congrArg some (by kernel_rfl))
 f128:=Tryz.func196.trans (congrArg some (by kernel_rfl))
 f129:=Tryz.func197.trans (congrArg some (by kernel_rfl))
 f190:=Tryz.func83.trans (congrArg some (by kernel_rfl))
 f258:=Tryz.func144.trans (congrArg some (by kernel_rfl))
 f302:=Tryz.func187.trans (congrArg some (by kernel_rfl))
 f303:=Tryz.func188.trans (congrArg some (by kernel_rfl))
 f304:=Tryz.func189.trans (congrArg some (by kernel_rfl))
 f305:=Tryz.func190.trans (congrArg some (by kernel_rfl))
 f306:=Tryz.func191.trans (congrArg some (by kernel_rfl))
 f307:=Tryz.func192.trans (congrArg some (by kernel_rfl))
 f308:=Tryz.func193.trans (congrArg some (by kernel_rfl))
 f309:=Tryz.func194.trans (congrArg some (by kernel_rfl))
 f310:=Tryz.func195.trans (congrArg some (by kernel_rfl))
 f329:=Tryz.func233.trans (congrArg some (by kernel_rfl))
 f330:=Tryz.func234.trans (congrArg some (by kernel_rfl))
 f333:=Tryz.func232.trans (congrArg some (by kernel_rfl))
 f334:=Tryz.func235.trans (congrArg some (by kernel_rfl))
 f335:=Tryz.func236.trans (congrArg some (by kernel_rfl))
 f336:=Tryz.func237.trans (congrArg some (by kernel_rfl))
 f344:=Tryz.func258.trans (congrArg some (by kernel_rfl))
 t0:=Tryz.underlying0
 a0:=Tryz.isAgg0
 z0:=Tryz.sizeOf0
 v0:=Tryz.zeroValue0
 t3:=Tryz.underlying3
 a3:=Tryz.isAgg3
 z3:=Tryz.sizeOf3
 v3:=Tryz.zeroValue3
 t4:=Tryz.underlying4
 a4:=Tryz.isAgg4
 z4:=Tryz.sizeOf4
 v4:=Tryz.zeroValue4
 t5:=Tryz.underlying5
 a5:=Tryz.isAgg5
 z5:=Tryz.sizeOf5
 v5:=Tryz.zeroValue5
 t9:=Tryz.underlying9
 a9:=Tryz.isAgg9
 z9:=Tryz.sizeOf9
 v9:=Tryz.zeroValue9
 t31:=Tryz.underlying37
 a31:=Tryz.isAgg37
 z31:=Tryz.sizeOf37
 v31:=Tryz.zeroValue37
 t46:=Tryz.underlying141
 a46:=Tryz.isAgg141
 z46:=Tryz.sizeOf141
 v46:=Tryz.zeroValue141
 t51:=Tryz.underlying178
 a51:=Tryz.isAgg178
 z51:=Tryz.sizeOf178
 v51:=Tryz.zeroValue178
 t53:=Tryz.underlying180
 a53:=Tryz.isAgg180
 z53:=Tryz.sizeOf180
 v53:=Tryz.zeroValue180
 t131:=Tryz.underlying175
 a131:=Tryz.isAgg175
 z131:=Tryz.sizeOf175
 v131:=Tryz.zeroValue175
 t182:=Tryz.underlying170
 a182:=Tryz.isAgg170
 z182:=Tryz.sizeOf170
 v182:=Tryz.zeroValue170
 t183:=Tryz.underlying171
 a183:=Tryz.isAgg171
 z183:=Tryz.sizeOf171
 v183:=Tryz.zeroValue171
 t218:=Tryz.underlying200
 a218:=Tryz.isAgg200
 z218:=Tryz.sizeOf200
 v218:=Tryz.zeroValue200
 t222:=Tryz.underlying204
 a222:=Tryz.isAgg204
 z222:=Tryz.sizeOf204
 v222:=Tryz.zeroValue204
 t228:=Tryz.underlying233
 a228:=Tryz.isAgg233
 z228:=Tryz.sizeOf233
 v228:=Tryz.zeroValue233
 t229:=Tryz.underlying35
 a229:=Tryz.isAgg35
 z229:=Tryz.sizeOf35
 v229:=Tryz.zeroValue35
end
theorem aqH {w:World} {o:Bool} (l:List aA):Row w o (fun _=>0) (l.map cK) (l.map dB).flatten:=by
 induction l with
 | nil=>exact .nil _ _ fun _=>rfl
 | cons n l ih=>
  have e:((n::l).map dB).flatten=.str n::(l.map dB).flatten:=by simp [dB]
  rw [e]
  exact .str _ _ _ _ _ ih
abbrev apn (l:List aA):List aA:=l.mergeSort fun x y=>decide (x≤y)
theorem aqR (l:List aA) (hl:l.length<2^40):bC Tryz.prog 83 [.own 1 (l.map dB)] (.tup []) [.own 1 ((apn l).map dB)]:=by
 refine ⟨⟨_,Tryz.func83,by kernel_rfl,by kernel_rfl⟩,rfl,?_⟩
 intro w vs F X r h1 h2 h3
 have hlen:(apn l).length=l.length:=List.length_mergeSort l
 cases r with
 | own _ F1 F2 _ s es v vs ys hr hn hF=>
  cases hn with
  | nil _ _ hF2 hX=>
   rcases Row.sl_inv hr with ⟨rfl,he,h0⟩ | ⟨G1,b,off,cap,C,ty,fr,cs,rfl,hb,hfr,hcap,hle,hes,hcs,hc,hrow,hG⟩
   ·have hl0:l=[]:=by simpa using he
    subst hl0
    refine (Any.slices_Sort_string_none apf none 0 w).mono ?_
    rintro e w' ⟨rfl,rfl⟩
    refine ⟨.tuple #[],F,X,rfl,?_,h1,h2,⟨lR1 _,.refl _⟩,fun b _ _=>rfl,fun b hb=>.inl hb,fun b hb=>⟨.inl hb,h3 b hb⟩⟩
    refine .tup F (fun _=>0) F X (fun _=>0) X [] [] _ _ RepA.znil ?_ (fun x=>by omega) (fun x=>by omega)
    exact .own F F1 F2 X 1 _ _ _ _ (by simpa [apn] using hr) (.nil _ _ hF2 hX) hF
   ·obtain ⟨hce,hG1⟩:=akU l hrow
    have hrl:(l.map dB).length=l.length:=lJ1 _
    have hcsl:cs.length=l.length:=by rw [hce,lJ1]
    rw [hrl] at hle ⊢
    have hsz:off+l.length≤C.size:=by omega
    have hbl:b<w.heap.size:=(Array.getElem?_eq_some_iff.1 hb).1
    have hH:Go.Sort.Holds cK w b off l.toArray:=by
     intro j hj
     have hj':j<l.length:=by simpa using hj
     have e1:=hc j (by omega)
     rw [hce,lI1,lK hj'] at e1
     refine ⟨?_,?_⟩
     ·simp only [World.cell?,hb,lD,e1,lC]
      simp [getElem!_pos,hj']
     ·have:=hfr (off+j) (by omega)
      simp [World.frozen?,hb]
      simpa using this
    refine (Any.slices_Sort_string apf b off cap l w hH hbl (by omega)).mono ?_
    rintro e w' ⟨rfl,n,os,rfl⟩
    have hw:∀ x,x≠b→x<w.heap.size→(Go.Sort.grow (Go.Sort.putRow cK (Go.Sort.ahead w n) b off (apn l).toArray) os).heap[x]?=w.heap[x]?:=by
     intro x hx hxl
     simp only [Go.Sort.grow,Go.Sort.putRow,Go.Sort.mapBlock,Go.Sort.ahead]
     rw [uA1 (by simpa using hxl),lM4,lJ (Ne.symm hx)]
    have hwb:(Go.Sort.grow (Go.Sort.putRow cK (Go.Sort.ahead w n) b off (apn l).toArray) os).heap[b]?=some (.cells (Go.Sort.putCells cK off (apn l).toArray C) ty fr):=by
     simp only [Go.Sort.grow,Go.Sort.putRow,Go.Sort.mapBlock,Go.Sort.ahead]
     rw [uA1 (by simpa using hbl),lM4,lG rfl,hb]; rfl
    have hsz2:(Go.Sort.putCells cK off (apn l).toArray C).size=C.size:=by simp [Go.Sort.putCells]
    have hrow2:Row (Go.Sort.grow (Go.Sort.putRow cK (Go.Sort.ahead w n) b off (apn l).toArray) os) true F1 [.slice (some ⟨b,off,none⟩) l.length cap] [.sl 1 ((apn l).map dB)]:=by
     refine Row.of_sl (F1:=fun _=>0) (cs:=(apn l).map cK) (by rw [lJ1,hlen]) hwb (by rw [hsz2]; exact hfr) (by rw [hsz2]; exact hcap) (by rw [lJ1,hlen]; exact hle) ?_ ?_ ?_ (aqH _) (fun x=>by have:=hG x; have:=hG1 x; omega)
     ·intro e he
      obtain ⟨x,_,rfl⟩:=lV1.1 he
      rfl
     ·simp
     ·intro k hk
      rw [lJ1,hlen] at hk
      rw [lI1,lK (by rw [hlen]; exact hk)]
      have hin:off≤off+k∧off+k<off+(apn l).length:=by omega
      simp only [Go.Sort.putCells,Array.getElem?_mapIdx,List.size_toArray]
      rw [lE1 (by omega),lC,lG hin,lC]
      simp [Nat.add_sub_cancel_left,getElem!_pos,hlen,hk]
    refine ⟨.tuple #[],F,X,rfl,?_,h1,h2,⟨?_,⟨rfl,rfl⟩⟩,fun x hx h0=>hw x (fun e=>?_) hx,fun x hx=>.inl hx,fun x hx=>⟨.inl hx,?_⟩⟩
    ·refine .tup F (fun _=>0) F X (fun _=>0) X [] [] _ _ RepA.znil ?_ (fun x=>by omega) (fun x=>by omega)
     exact .own F F1 F2 X 1 _ _ _ _ hrow2 (.nil _ _ hF2 hX) hF
    ·simp only [Go.Sort.grow,Go.Sort.putRow,Go.Sort.mapBlock,Go.Sort.ahead,uD1,Array.size_modify]; omega
    ·subst e
     have:=hF x; have:=hG x
     simp at *; omega
    ·have:=h3 x hx
     simp only [Go.Sort.grow,Go.Sort.putRow,Go.Sort.mapBlock,Go.Sort.ahead,uD1,Array.size_modify]; omega
def aqe (t:Tab):List aA:=if bJ t=true then kC t else []
theorem apE (t:Tab) (h:t.sz<2^40):bC Tryz.prog 24 [t.x] (.own 1 ((aqe t).map dB)) [.undef]:=by
 have hT:=ajc t h
 unfold aqe
 cases hB:bJ t with
 | false=>
  rw [hB] at hT
  rw [lJ (by simp)]
  refine U aps [] 47 [] fun w hP hQ=>?_
  unfold ao7
  refine N ?_
  (first|refine cI hP (hT) rfl rfl ?_|refine cH hP (hT) rfl rfl ?_)
  simp +decide (maxSteps:=9^9) (disch:=omega) only[↓SB0,SX,seval,hQ]
  all_goals first | rfl | exact ⟨rfl,rfl⟩
 | true=>
  rw [hB] at hT
  rw [lG rfl]
  have ht:=(aV t).1 hB
  obtain ⟨r,r1,r2,r3⟩:=eM ht
  have r4:=(aM r1).2
  have hA:=oY t 1 h
  rw [adU,r1] at hA
  simp only [lY,lQ2] at hA
  have hl:t.inodes.length≤30:=ht.tab.len
  have hPb:=apG t hB h 30 r [] r3 ⟨[],by rw [r4]; rfl,by simpa using hl⟩ (by simp)
  rw [afq ht r1] at hPb
  have few:(yB t).length≤300:=by rw [← afq ht r1,wD ht _ r r3,lJ1]; exact aco ht r3 _
  have hS:=aqR (yB t) (by omega)
  rw [show apn (yB t)=kC t from rfl] at hS
  refine U aps [(83,[.l],[])] 47 [] fun w hP hQ=>?_
  unfold ao7
  refine N ?_
  refine K (hT) ?_
  refine K (hA) ?_
  refine K (hPb) ?_
  (first|refine cI hP (hS) rfl rfl ?_|refine cH hP (hS) rfl rfl ?_)
  simp +decide (maxSteps:=9^9) (disch:=omega) only[↓SB0,SX,seval,hQ]
  all_goals first | rfl | exact ⟨rfl,rfl⟩
theorem aqf (m:Nat) (h:m<100):dN [[TV.int .u8 (97+(m:Int))]]=some [UInt8.ofNat (97+m)]:=by
 have e:[[TV.int .u8 (97+(m:Int))]]=aO [UInt8.ofNat (97+m)]:=by simp [aO]; omega
 rw [e,adx]
theorem aqI (v:Value) (b:aA) (i:Nat) (h:Int) (hl:b.length<2^48) (hi:i≤b.length):∃ (t':Tab) (i':Nat) (h':Int),t'.sz<2^28∧i'≤b.length ∧
  bC Tryz.prog 138 [cur v b i h] t'.o [cur v b i' h']:=by
 obtain ⟨c,i1,h1,hi1,k1⟩:=aaz v b i h 2 hl hi (by omega)
 obtain ⟨e,i2,h2,hi2,k2⟩:=aaz v b i1 h1 4 hl hi1 (by omega)
 have key:∃ ret outs,(∃ (t':Tab) (i':Nat) (h':Int),t'.sz<2^28∧i'≤b.length∧ret=t'.o∧outs=[cur v b i' h'])∧bC Tryz.prog 138 [cur v b i h] ret outs:=by
  unfold cur at *
  refine mD hmx aqg [(96,[.l,.b],[])] 125 rfl [true] ⟨lO1 rfl,lO1 rfl⟩ rfl ?_
  intro w hP hQ
  unfold apB
  refine N ?_
  (first | refine aI hP (aci) (.inl ⟨rfl,fun _ hx=>hx⟩) ?_ | refine aF hP (aci) (.inl ⟨rfl,fun _ hx=>hx⟩) ?_)
  refine N ?_
  refine fH [5,6] ?_
  refine N ?_
  refine aT [5,6] (fun s:Nat × Tab=>[(5003,.box [.own 6 (s.2.inodes.map Inode.row),.int .i64 s.2.next]),(4,.int .i64 (s.1:Nat))]) (fun s=>bJ s.2=true∧s.1≤4) (fun s=>4-s.1) ((0,tab1)) hP hQ (rfl) (⟨aju,by simp⟩) ?_
  rintro ⟨m,t⟩ ⟨ht,hm⟩ w1 hP1 hQ1
  refine N1 ?_
  simp only at ht hm
  have hz:=agz ht
  (first | with_reducible refine cQ _ ?_ ?_ | refine cR _ ?_ ?_) <;> intro g1
  ·have e1:=aqf m (by omega)
   generalize UInt8.ofNat (97+m)=y at e1
   have hz:=e1
   refine Nz1 ?_
   (first | refine aI hP1 (oZ t [47,y] (by omega) (by simp)) (.inl ⟨rfl,fun _ hx=>hx⟩) ?_ | refine aF hP1 (oZ t [47,y] (by omega) (by simp)) (.inl ⟨rfl,fun _ hx=>hx⟩) ?_)
   refine N1 ?_
   generalize htt:(fM t [47,y] 2).1=t1
   have ht1:bJ t1=true:=by rw [← htt]; exact mO ht _ (.inr rfl)
   refine fH [] ?_
   refine N1 ?_
   refine aT [] (fun s:Nat × Tab=>[(5003,.box [.own 6 (s.2.inodes.map Inode.row),.int .i64 s.2.next]),(6,.int .i64 (s.1:Nat))]) (fun s=>bJ s.2=true∧s.1≤7) (fun s=>7-s.1) ((0,t1)) hP1 hQ1 (rfl) (⟨ht1,by simp⟩) ?_
   rintro ⟨k,t2⟩ ⟨ht2,hk⟩ w2 hP2 hQ2
   refine N2 ?_
   simp only at ht2 hk
   have hz2:=agz ht2
   (first | with_reducible refine cQ _ ?_ ?_ | refine cR _ ?_ ?_) <;> intro g2
   ·have e2:=aqf k (by omega)
    generalize UInt8.ofNat (97+k)=z at e2
    have hz:=e2
    refine Nz2 ?_
    (first | refine aI hP2 (mR t2 [47,y,47,z] (by omega) (by simp)) (.inl ⟨rfl,fun _ hx=>hx⟩) ?_ | refine aF hP2 (mR t2 [47,y,47,z] (by omega) (by simp)) (.inl ⟨rfl,fun _ hx=>hx⟩) ?_)
    refine N2 ?_
    exact ⟨(k+1,(fM t2 [47,y,47,z] 1).1),rfl,⟨mO ht2 _ (.inl rfl),by simp only; omega⟩,by simp only; omega⟩
   ·refine N2 ?_
    exact ⟨(m+1,t2),rfl,⟨ht2,by simp only; omega⟩,by simp only; omega⟩
  ·refine N1 ?_
   (first | refine aI hP (k1) (.inl ⟨rfl,fun _ hx=>hx⟩) ?_ | refine aF hP (k1) (.inl ⟨rfl,fun _ hx=>hx⟩) ?_)
   refine N ?_
   have hu:=aar ht [47,97,47,97]
   have hz3:=agz hu
   cases c with
   | true=>
    refine N ?_
    (first | refine aI hP (acj t [47,97,47,97] (by omega) (by simp)) (.inl ⟨rfl,fun _ hx=>hx⟩) ?_ | refine aF hP (acj t [47,97,47,97] (by omega) (by simp)) (.inl ⟨rfl,fun _ hx=>hx⟩) ?_)
    refine N ?_
    (first | refine aI hP (k2) (.inl ⟨rfl,fun _ hx=>hx⟩) ?_ | refine aF hP (k2) (.inl ⟨rfl,fun _ hx=>hx⟩) ?_)
    refine N ?_
    cases e with
    | true=>
     refine N ?_
     exact ⟨{ (fV t [47,97,47,97]).1 with next:=1000 },i2,h2,by show (fV t [47,97,47,97]).1.sz<_; omega,hi2,rfl,rfl⟩
    | false=>
     refine N ?_
     exact ⟨(fV t [47,97,47,97]).1,i2,h2,by omega,hi2,rfl,rfl⟩
   | false=>
    refine N ?_
    (first | refine aI hP (k2) (.inl ⟨rfl,fun _ hx=>hx⟩) ?_ | refine aF hP (k2) (.inl ⟨rfl,fun _ hx=>hx⟩) ?_)
    refine N ?_
    cases e with
    | true=>
     refine N ?_
     exact ⟨{ t with next:=1000 },i2,h2,by show t.sz<_; omega,hi2,rfl,rfl⟩
    | false=>
     refine N ?_
     exact ⟨t,i2,h2,by omega,hi2,rfl,rfl⟩
 obtain ⟨_,_,⟨t',i',h',ht',hi',rfl,rfl⟩,hS⟩:=key
 exact ⟨t',i',h',ht',hi',hS⟩
theorem apU (k:Nat) (h:k<4):∃ s:aA,s.length≤5∧([[TV.str [97]],[TV.str [98]],[TV.str [99]],[TV.str [100,46,116,120,116]]]:List (List TV))[k]?=some [TV.str s]:=by
 match k,h with
 | 0,_=>exact ⟨_,by decide,rfl⟩
 | 1,_=>exact ⟨_,by decide,rfl⟩
 | 2,_=>exact ⟨_,by decide,rfl⟩
 | 3,_=>exact ⟨_,by decide,rfl⟩
theorem aqJ (v:Value) (b:aA) (i:Nat) (h:Int) (hl:b.length<2^48) (hi:i≤b.length):∃ (x:Inode) (i':Nat) (h':Int),x.sz<1000∧i'≤b.length ∧
  bC Tryz.prog 199 [cur v b i h] x.o [cur v b i' h']:=by
 obtain ⟨n,i1,h1,hn,hi1,k1⟩:=i9 v b i h 6 hl hi (by omega)
 obtain ⟨m,i2,h2,hm,hi2,k2⟩:=i9 v b i1 h1 2 hl hi1 (by omega)
 have hn':(n:Int)<6:=by rw [wS,lG (by omega)] at hn; exact hn
 have hm':(m:Int)<2:=by rw [wS,lG (by omega)] at hm; exact hm
 have key:∃ ret outs,(∃ (x:Inode) (i':Nat) (h':Int),x.sz<1000∧i'≤b.length∧ret=x.o∧outs=[cur v b i' h'])∧bC Tryz.prog 199 [cur v b i h] ret outs:=by
  unfold cur at *
  by_cases g:m=0
  ·subst g
   obtain ⟨r,i3,h3,hr,hi3,k3⟩:=wE v b i2 h2 [0,1,5,20,100] hl hi2 (by simp) (by simp)
   have hr':0≤r∧r≤100:=by simp at hr; omega
   obtain ⟨y,i4,h4,hy,hi4,k4⟩:=ajr v b i3 h3 r hl hi3 (by omega)
   unfold cur at *
   simp only [eO,lP,lA2] at k3
   refine mD hmx apC [(101,[.l,.b],[]),(153,[.l,.b],[]),(223,[.l,.b],[]),(96,[.l,.b],[]),(149,[.l,.b],[])] 125 rfl [true] ⟨lO1 rfl,lO1 rfl⟩ rfl ?_
   intro w hP hQ
   unfold ape
   refine N ?_
   (first | refine aI hP (k1) (.inl ⟨rfl,fun _ hx=>hx⟩) ?_ | refine aF hP (k1) (.inl ⟨rfl,fun _ hx=>hx⟩) ?_)
   refine N ?_
   (first | refine aI hP (k2) (.inl ⟨rfl,fun _ hx=>hx⟩) ?_ | refine aF hP (k2) (.inl ⟨rfl,fun _ hx=>hx⟩) ?_)
   refine N ?_
   obtain ⟨q,i5,h5,hq,hi5,k5⟩:=i9 v b i4 h4 2 hl hi4 (by omega)
   have hq':(q:Int)<2:=by rw [wS,lG (by omega)] at hq; exact hq
   unfold cur at k5
   (first | refine aI hP (k3) (.inl ⟨rfl,fun _ hx=>hx⟩) ?_ | refine aF hP (k3) (.inl ⟨rfl,fun _ hx=>hx⟩) ?_)
   refine N ?_
   (first | refine aI hP (k4) (.inl ⟨rfl,fun _ hx=>hx⟩) ?_ | refine aF hP (k4) (.inl ⟨rfl,fun _ hx=>hx⟩) ?_)
   refine N ?_
   (first | refine aI hP (k5) (.inl ⟨rfl,fun _ hx=>hx⟩) ?_ | refine aF hP (k5) (.inl ⟨rfl,fun _ hx=>hx⟩) ?_)
   refine N ?_
   refine fH [] ?_
   refine N ?_
   refine aT [] (fun s:Nat × List Attr × Nat × Int=>[(1000,.box [.extv v 1 (aO b),.int .i64 (s.2.2.1:Nat),.int .i64 s.2.2.2]),(5003,.box [.int .i64 (2+(n:Int)),.int .i64 1,.int .i64 (1+(q:Int)),.own 1 (aO y),.own 2 [],.own 2 (s.2.1.map Attr.row)]),(6,.int .i64 (s.1:Nat))]) (fun s=>s.1≤2∧szM Attr.sz s.2.1≤s.1*40∧s.2.2.1≤b.length) (fun s=>2-s.1) ((0,[],i5,h5)) hP hQ (rfl) (⟨by simp,by simp [szM],hi5⟩) ?_
   rintro ⟨k,at',j,g⟩ ⟨hk,hz,hj⟩ w1 hP1 hQ1
   refine N1 ?_
   simp only at hk hz hj
   (first | with_reducible refine cQ _ ?_ ?_ | refine cR _ ?_ ?_) <;> intro g1
   ·obtain ⟨c,j1,g2,hj1,k6⟩:=aaz v b j g 3 hl hj (by omega)
    cases c with
    | false=>
     unfold cur at k6
     refine N1 ?_
     (first | refine aI hP1 (k6) (.inl ⟨rfl,fun _ hx=>hx⟩) ?_ | refine aF hP1 (k6) (.inl ⟨rfl,fun _ hx=>hx⟩) ?_)
     refine N1 ?_
     exact ⟨(k+1,at',j1,g2),rfl,⟨by simp only; omega,by simp only; omega,hj1⟩,by simp only; omega⟩
    | true=>
     obtain ⟨nm,hnm,hget⟩:=apU k (by omega)
     have hg2:(k:Int)<4:=by omega
     obtain ⟨z,j2,g3,hz2,hj2,k7⟩:=ad7 v b j1 g2 [[120],[118,97,108,117,101],[115,105,120,116,101,101,110,98,121,116,101,115,120,120,120,120]] hl hj1 (by simp) (by simp)
     have hz3:z.length≤16:=by
      simp only [lF,List.not_mem_nil,or_false] at hz2
      rcases hz2 with rfl | rfl | rfl <;> simp
     have hal:at'.length≤k*40:=by simp only [szM] at hz; omega
     have hb:(at'.length+1)*32≤140737488355328:=by omega
     have ha:szM Attr.sz (at'++[⟨nm,z⟩])=szM Attr.sz at' + 1+(nm.length+z.length):=by simp [szM,Attr.sz]; omega
     unfold cur at k6 k7
     simp only [dB,lP,lA2] at k7
     refine N1 ?_
     (first | refine aI hP1 (k6) (.inl ⟨rfl,fun _ hx=>hx⟩) ?_ | refine aF hP1 (k6) (.inl ⟨rfl,fun _ hx=>hx⟩) ?_)
     have hz:=And.intro hget hg2
     refine Nz1 ?_
     (first | refine aI hP1 (k7) (.inl ⟨rfl,fun _ hx=>hx⟩) ?_ | refine aF hP1 (k7) (.inl ⟨rfl,fun _ hx=>hx⟩) ?_)
     have hz:=And.intro hget (And.intro hg2 hb)
     refine Nz1 ?_
     exact ⟨(k+1,at'++[⟨nm,z⟩],j2,g3),by simp [Attr.row],⟨by simp only; omega,by simp only; omega,hj2⟩,by simp only; omega⟩
   ·refine N1 ?_
    exact ⟨{ ino:=2+n,kind:=1,links:=1+q,data:=y,ents:=[],attrs:=at' },j,g,by show y.length+szM Ent.sz []+szM Attr.sz at'<1000; simp [szM] at *; omega,hj,rfl,rfl⟩
  ·obtain rfl:m=1:=by omega
   refine mD hmx apC [(101,[.l,.b],[]),(153,[.l,.b],[]),(223,[.l,.b],[]),(96,[.l,.b],[]),(149,[.l,.b],[])] 125 rfl [true] ⟨lO1 rfl,lO1 rfl⟩ rfl ?_
   intro w hP hQ
   unfold ape
   refine N ?_
   (first | refine aI hP (k1) (.inl ⟨rfl,fun _ hx=>hx⟩) ?_ | refine aF hP (k1) (.inl ⟨rfl,fun _ hx=>hx⟩) ?_)
   refine N ?_
   (first | refine aI hP (k2) (.inl ⟨rfl,fun _ hx=>hx⟩) ?_ | refine aF hP (k2) (.inl ⟨rfl,fun _ hx=>hx⟩) ?_)
   refine N ?_
   refine fH [] ?_
   refine N ?_
   refine aT [] (fun s:Nat × List Ent × Nat × Int=>[(1000,.box [.extv v 1 (aO b),.int .i64 (s.2.2.1:Nat),.int .i64 s.2.2.2]),(5003,.box [.int .i64 (2+(n:Int)),.int .i64 2,.int .i64 1,.own 1 [],.own 2 (s.2.1.map Ent.row),.own 2 []]),(5,.int .i64 (s.1:Nat))]) (fun s=>s.1≤4∧szM Ent.sz s.2.1≤s.1*40∧s.2.2.1≤b.length) (fun s=>4-s.1) ((0,[],i2,h2)) hP hQ (rfl) (⟨by simp,by simp [szM],hi2⟩) ?_
   rintro ⟨k,es,ie,he⟩ ⟨hk0,hze,hie⟩ w1 hP1 hQ1
   refine N1 ?_
   simp only at hk0 hze hie
   (first | with_reducible refine cQ _ ?_ ?_ | refine cR _ ?_ ?_) <;> intro g0
   ·obtain ⟨c,j1,g2,hj1,k6⟩:=aaz v b ie he 2 hl hie (by omega)
    cases c with
    | false=>
     unfold cur at k6
     refine N1 ?_
     (first | refine aI hP1 (k6) (.inl ⟨rfl,fun _ hx=>hx⟩) ?_ | refine aF hP1 (k6) (.inl ⟨rfl,fun _ hx=>hx⟩) ?_)
     refine N1 ?_
     exact ⟨(k+1,es,j1,g2),rfl,⟨by simp only; omega,by simp only; omega,hj1⟩,by simp only; omega⟩
    | true=>
     obtain ⟨nm,hnm,hget⟩:=apU k (by omega)
     obtain ⟨z,j2,g3,hz2,hj2,k7⟩:=i9 v b j1 g2 8 hl hj1 (by omega)
     have hal:es.length≤k*40:=by simp only [szM] at hze; omega
     have hb:(es.length+1)*24≤140737488355328:=by omega
     have ha:szM Ent.sz (es++[⟨nm,2+(z:Int)⟩])=szM Ent.sz es+1+nm.length:=by simp [szM,Ent.sz]; omega
     have hzz:(z:Int)<8:=by rw [wS,lG (by omega)] at hz2; exact hz2
     unfold cur at k6 k7
     refine N1 ?_
     (first | refine aI hP1 (k6) (.inl ⟨rfl,fun _ hx=>hx⟩) ?_ | refine aF hP1 (k6) (.inl ⟨rfl,fun _ hx=>hx⟩) ?_)
     have hz:=And.intro hget g0
     refine Nz1 ?_
     (first | refine aI hP1 (k7) (.inl ⟨rfl,fun _ hx=>hx⟩) ?_ | refine aF hP1 (k7) (.inl ⟨rfl,fun _ hx=>hx⟩) ?_)
     have hz:=And.intro hget (And.intro g0 hb)
     refine Nz1 ?_
     exact ⟨(k+1,es++[⟨nm,2+(z:Int)⟩],j2,g3),by simp [Ent.row],⟨by simp only; omega,by simp only; omega,hj2⟩,by simp only; omega⟩
   ·refine N1 ?_
    refine fH [] ?_
    refine N ?_
    refine aT [] (fun s:Nat × List Attr × Nat × Int=>[(1000,.box [.extv v 1 (aO b),.int .i64 (s.2.2.1:Nat),.int .i64 s.2.2.2]),(5003,.box [.int .i64 (2+(n:Int)),.int .i64 2,.int .i64 1,.own 1 [],.own 2 (es.map Ent.row),.own 2 (s.2.1.map Attr.row)]),(6,.int .i64 (s.1:Nat))]) (fun s=>s.1≤2∧szM Attr.sz s.2.1≤s.1*40∧s.2.2.1≤b.length) (fun s=>2-s.1) ((0,[],ie,he)) hP hQ (rfl) (⟨by simp,by simp [szM],hie⟩) ?_
    rintro ⟨k,at',j,g⟩ ⟨hk,hz,hj⟩ w1 hP1 hQ1
    refine N1 ?_
    simp only at hk hz hj
    (first | with_reducible refine cQ _ ?_ ?_ | refine cR _ ?_ ?_) <;> intro g1
    ·obtain ⟨c,j1,g2,hj1,k6⟩:=aaz v b j g 3 hl hj (by omega)
     cases c with
     | false=>
      unfold cur at k6
      refine N1 ?_
      (first | refine aI hP1 (k6) (.inl ⟨rfl,fun _ hx=>hx⟩) ?_ | refine aF hP1 (k6) (.inl ⟨rfl,fun _ hx=>hx⟩) ?_)
      refine N1 ?_
      exact ⟨(k+1,at',j1,g2),rfl,⟨by simp only; omega,by simp only; omega,hj1⟩,by simp only; omega⟩
     | true=>
      obtain ⟨nm,hnm,hget⟩:=apU k (by omega)
      have hg2:(k:Int)<4:=by omega
      obtain ⟨z,j2,g3,hz2,hj2,k7⟩:=ad7 v b j1 g2 [[120],[118,97,108,117,101],[115,105,120,116,101,101,110,98,121,116,101,115,120,120,120,120]] hl hj1 (by simp) (by simp)
      have hz3:z.length≤16:=by
       simp only [lF,List.not_mem_nil,or_false] at hz2
       rcases hz2 with rfl | rfl | rfl <;> simp
      have hal:at'.length≤k*40:=by simp only [szM] at hz; omega
      have hb:(at'.length+1)*32≤140737488355328:=by omega
      have ha:szM Attr.sz (at'++[⟨nm,z⟩])=szM Attr.sz at' + 1+(nm.length+z.length):=by simp [szM,Attr.sz]; omega
      unfold cur at k6 k7
      simp only [dB,lP,lA2] at k7
      refine N1 ?_
      (first | refine aI hP1 (k6) (.inl ⟨rfl,fun _ hx=>hx⟩) ?_ | refine aF hP1 (k6) (.inl ⟨rfl,fun _ hx=>hx⟩) ?_)
      have hz:=And.intro hget hg2
      refine Nz1 ?_
      (first | refine aI hP1 (k7) (.inl ⟨rfl,fun _ hx=>hx⟩) ?_ | refine aF hP1 (k7) (.inl ⟨rfl,fun _ hx=>hx⟩) ?_)
      have hz:=And.intro hget (And.intro hg2 hb)
      refine Nz1 ?_
      exact ⟨(k+1,at'++[⟨nm,z⟩],j2,g3),by simp [Attr.row],⟨by simp only; omega,by simp only; omega,hj2⟩,by simp only; omega⟩
    ·refine N1 ?_
     exact ⟨{ ino:=2+n,kind:=2,links:=1,data:=[],ents:=es,attrs:=at' },j,g,by show ([]:aA).length+szM Ent.sz es+szM Attr.sz at'<1000; simp only [List.length_nil]; omega,hj,rfl,rfl⟩
 obtain ⟨_,_,⟨t',i',h',ht',hi',rfl,rfl⟩,hS⟩:=key
 exact ⟨t',i',h',ht',hi',hS⟩
theorem aqz (v:Value) (b:aA) (i:Nat) (h:Int) (hl:b.length<2^48) (hi:i≤b.length):∃ (x:Inode) (i':Nat) (h':Int),x.sz<2000∧i'≤b.length ∧
  bC Tryz.prog 154 [cur v b i h] x.o [cur v b i' h']:=by
 obtain ⟨x,i1,h1,hx,hi1,k1⟩:=aqJ v b i h hl hi
 obtain ⟨n,i2,h2,hn,hi2,k2⟩:=i9 v b i1 h1 14 hl hi1 (by omega)
 obtain ⟨z1,z2,z3⟩:=dU hx
 have zD:x.sz=x.data.length+szM Ent.sz x.ents+szM Attr.sz x.attrs:=rfl
 have hn':n<14:=by rw [wS,lG (by omega)] at hn; omega
 have key:∃ ret outs,(∃ (y:Inode) (i':Nat) (h':Int),y.sz<2000∧i'≤b.length∧ret=y.o∧outs=[cur v b i' h'])∧bC Tryz.prog 154 [cur v b i h] ret outs:=by
  unfold cur at *
  by_cases g0:n=0
  ·subst g0
   obtain ⟨r,i3,h3,hr,hi3,k3⟩:=wE v b i2 h2 [0,1,1000,1001] hl hi2 (by simp) (by simp)
   unfold cur at k3
   simp only [eO,lP,lA2] at k3
   refine mD hmx kW [(101,[.l,.b],[]),(153,[.l,.b],[]),(199,[.l],[]),(149,[.l,.b],[])] 141 rfl [true] ⟨lO1 rfl,lO1 rfl⟩ rfl ?_
   intro w hP hQ
   unfold kU
   refine N ?_
   (first | refine aI hP (k1) (.inl ⟨rfl,fun _ hx=>hx⟩) ?_ | refine aF hP (k1) (.inl ⟨rfl,fun _ hx=>hx⟩) ?_)
   refine N ?_
   (first | refine aI hP (k2) (.inl ⟨rfl,fun _ hx=>hx⟩) ?_ | refine aF hP (k2) (.inl ⟨rfl,fun _ hx=>hx⟩) ?_)
   refine N ?_
   (first | refine aI hP (k3) (.inl ⟨rfl,fun _ hx=>hx⟩) ?_ | refine aF hP (k3) (.inl ⟨rfl,fun _ hx=>hx⟩) ?_)
   refine N ?_
   exact ⟨{ x with ino:=r },i3,h3,by show x.sz<2000; omega,hi3,rfl,rfl⟩
  by_cases g1:n=1
  ·subst g1
   obtain ⟨r,i3,h3,hr,hi3,k3⟩:=i9 v b i2 h2 4 hl hi2 (by omega)
   unfold cur at k3
   refine mD hmx kW [(101,[.l,.b],[]),(153,[.l,.b],[]),(199,[.l],[]),(149,[.l,.b],[])] 141 rfl [true] ⟨lO1 rfl,lO1 rfl⟩ rfl ?_
   intro w hP hQ
   unfold kU
   refine N ?_
   (first | refine aI hP (k1) (.inl ⟨rfl,fun _ hx=>hx⟩) ?_ | refine aF hP (k1) (.inl ⟨rfl,fun _ hx=>hx⟩) ?_)
   refine N ?_
   (first | refine aI hP (k2) (.inl ⟨rfl,fun _ hx=>hx⟩) ?_ | refine aF hP (k2) (.inl ⟨rfl,fun _ hx=>hx⟩) ?_)
   refine N ?_
   (first | refine aI hP (k3) (.inl ⟨rfl,fun _ hx=>hx⟩) ?_ | refine aF hP (k3) (.inl ⟨rfl,fun _ hx=>hx⟩) ?_)
   refine N ?_
   exact ⟨{ x with kind:=r },i3,h3,by show x.sz<2000; omega,hi3,rfl,rfl⟩
  by_cases g2:n=2
  ·subst g2
   obtain ⟨r,i3,h3,hr,hi3,k3⟩:=wE v b i2 h2 [-1,0,2,1001] hl hi2 (by simp) (by simp)
   unfold cur at k3
   simp only [eO,lP,lA2] at k3
   refine mD hmx kW [(101,[.l,.b],[]),(153,[.l,.b],[]),(199,[.l],[]),(149,[.l,.b],[])] 141 rfl [true] ⟨lO1 rfl,lO1 rfl⟩ rfl ?_
   intro w hP hQ
   unfold kU
   refine N ?_
   (first | refine aI hP (k1) (.inl ⟨rfl,fun _ hx=>hx⟩) ?_ | refine aF hP (k1) (.inl ⟨rfl,fun _ hx=>hx⟩) ?_)
   refine N ?_
   (first | refine aI hP (k2) (.inl ⟨rfl,fun _ hx=>hx⟩) ?_ | refine aF hP (k2) (.inl ⟨rfl,fun _ hx=>hx⟩) ?_)
   refine N ?_
   (first | refine aI hP (k3) (.inl ⟨rfl,fun _ hx=>hx⟩) ?_ | refine aF hP (k3) (.inl ⟨rfl,fun _ hx=>hx⟩) ?_)
   refine N ?_
   exact ⟨{ x with links:=r },i3,h3,by show x.sz<2000; omega,hi3,rfl,rfl⟩
  by_cases g3:n=3
  ·subst g3
   have hb1:(x.data.length+1)*1≤140737488355328:=by omega
   have hb2:x.data.length+1≤140737488355328:=by omega
   refine mD hmx kW [(101,[.l,.b],[]),(153,[.l,.b],[]),(199,[.l],[]),(149,[.l,.b],[])] 141 rfl [true] ⟨lO1 rfl,lO1 rfl⟩ rfl ?_
   intro w hP hQ
   unfold kU
   refine N ?_
   (first | refine aI hP (k1) (.inl ⟨rfl,fun _ hx=>hx⟩) ?_ | refine aF hP (k1) (.inl ⟨rfl,fun _ hx=>hx⟩) ?_)
   refine N ?_
   (first | refine aI hP (k2) (.inl ⟨rfl,fun _ hx=>hx⟩) ?_ | refine aF hP (k2) (.inl ⟨rfl,fun _ hx=>hx⟩) ?_)
   have hz:=And.intro hb1 hb2
   refine Nz ?_
   exact ⟨{ x with data:=x.data++[1] },i2,h2,by show (x.data++[1]).length+szM Ent.sz x.ents+szM Attr.sz x.attrs<2000; simp; omega,hi2,by simp [aO],rfl⟩
  by_cases g4:n=4
  ·subst g4
   obtain ⟨s,i3,h3,hs,hi3,k3⟩:=ad7 v b i2 h2 [[97],[122],[],[90]] hl hi2 (by simp) (by simp)
   obtain ⟨r,i4,h4,hr,hi4,k4⟩:=wE v b i3 h3 [1,2,1000,1001] hl hi3 (by simp) (by simp)
   have hsl:s.length≤1:=by simp at hs; rcases hs with rfl | rfl | rfl | rfl <;> simp
   have hb1:(x.ents.length+1)*24≤140737488355328:=by omega
   unfold cur at k3 k4
   simp only [eO,dB,lP,lA2] at k3 k4
   refine mD hmx kW [(101,[.l,.b],[]),(153,[.l,.b],[]),(199,[.l],[]),(149,[.l,.b],[])] 141 rfl [true] ⟨lO1 rfl,lO1 rfl⟩ rfl ?_
   intro w hP hQ
   unfold kU
   refine N ?_
   (first | refine aI hP (k1) (.inl ⟨rfl,fun _ hx=>hx⟩) ?_ | refine aF hP (k1) (.inl ⟨rfl,fun _ hx=>hx⟩) ?_)
   refine N ?_
   (first | refine aI hP (k2) (.inl ⟨rfl,fun _ hx=>hx⟩) ?_ | refine aF hP (k2) (.inl ⟨rfl,fun _ hx=>hx⟩) ?_)
   refine N ?_
   (first | refine aI hP (k3) (.inl ⟨rfl,fun _ hx=>hx⟩) ?_ | refine aF hP (k3) (.inl ⟨rfl,fun _ hx=>hx⟩) ?_)
   refine N ?_
   (first | refine aI hP (k4) (.inl ⟨rfl,fun _ hx=>hx⟩) ?_ | refine aF hP (k4) (.inl ⟨rfl,fun _ hx=>hx⟩) ?_)
   have hz:=hb1
   refine Nz ?_
   exact ⟨{ x with ents:=x.ents++[⟨s,r⟩] },i4,h4,by
    have:szM Ent.sz (x.ents++[⟨s,r⟩])=szM Ent.sz x.ents+1+s.length:=by simp [szM,Ent.sz]; omega
    show x.data.length+szM Ent.sz (x.ents++[⟨s,r⟩])+szM Attr.sz x.attrs<2000; omega,hi4,by simp [Ent.row],rfl⟩
  by_cases g5:n=5
  ·subst g5
   obtain ⟨s,i3,h3,hs,hi3,k3⟩:=ad7 v b i2 h2 [[97],[122],[]] hl hi2 (by simp) (by simp)
   obtain ⟨m,i4,h4,hm,hi4,k4⟩:=i9 v b i3 h3 3 hl hi3 (by omega)
   have hm':m<3:=by rw [wS,lG (by omega)] at hm; omega
   have hsl:s.length≤1:=by simp at hs; rcases hs with rfl | rfl | rfl <;> simp
   have hrb:dN (List.replicate (15+(m:Int)).toNat [TV.int .u8 0])=some (List.replicate (15+m) 0):=by
    rw [show (15+(m:Int)).toNat=15+m by omega,show List.replicate (15+m) [TV.int .u8 0]=aO (List.replicate (15+m) 0) by simp [aO],adx]
   have hb1:(x.attrs.length+1)*32≤140737488355328:=by omega
   unfold cur at k3 k4
   simp only [eO,dB,lP,lA2] at k3 k4
   refine mD hmx kW [(101,[.l,.b],[]),(153,[.l,.b],[]),(199,[.l],[]),(149,[.l,.b],[])] 141 rfl [true] ⟨lO1 rfl,lO1 rfl⟩ rfl ?_
   intro w hP hQ
   unfold kU
   refine N ?_
   (first | refine aI hP (k1) (.inl ⟨rfl,fun _ hx=>hx⟩) ?_ | refine aF hP (k1) (.inl ⟨rfl,fun _ hx=>hx⟩) ?_)
   refine N ?_
   (first | refine aI hP (k2) (.inl ⟨rfl,fun _ hx=>hx⟩) ?_ | refine aF hP (k2) (.inl ⟨rfl,fun _ hx=>hx⟩) ?_)
   refine N ?_
   (first | refine aI hP (k3) (.inl ⟨rfl,fun _ hx=>hx⟩) ?_ | refine aF hP (k3) (.inl ⟨rfl,fun _ hx=>hx⟩) ?_)
   refine N ?_
   (first | refine aI hP (k4) (.inl ⟨rfl,fun _ hx=>hx⟩) ?_ | refine aF hP (k4) (.inl ⟨rfl,fun _ hx=>hx⟩) ?_)
   have hz:=And.intro hb1 hrb
   refine Nz ?_
   exact ⟨{ x with attrs:=x.attrs++[⟨s,List.replicate (15+m) 0⟩] },i4,h4,by
    have:szM Attr.sz (x.attrs++[⟨s,List.replicate (15+m) 0⟩])=szM Attr.sz x.attrs+1+s.length+(15+m):=by simp [szM,Attr.sz]; omega
    show x.data.length+szM Ent.sz x.ents+szM Attr.sz (x.attrs++[⟨s,List.replicate (15+m) 0⟩])<2000; omega,hi4,by simp [Attr.row],rfl⟩
  ·have w0:decide ((n:Int)=0)=false:=lB (by omega)
   have w1:decide ((n:Int)=1)=false:=lB (by omega)
   have w2:decide ((n:Int)=2)=false:=lB (by omega)
   have w3:decide ((n:Int)=3)=false:=lB (by omega)
   have w4:decide ((n:Int)=4)=false:=lB (by omega)
   have w5:decide ((n:Int)=5)=false:=lB (by omega)
   refine mD hmx kW [(101,[.l,.b],[]),(153,[.l,.b],[]),(199,[.l],[]),(149,[.l,.b],[])] 141 rfl [true] ⟨lO1 rfl,lO1 rfl⟩ rfl ?_
   intro w hP hQ
   unfold kU
   refine N ?_
   (first | refine aI hP (k1) (.inl ⟨rfl,fun _ hx=>hx⟩) ?_ | refine aF hP (k1) (.inl ⟨rfl,fun _ hx=>hx⟩) ?_)
   refine N ?_
   (first | refine aI hP (k2) (.inl ⟨rfl,fun _ hx=>hx⟩) ?_ | refine aF hP (k2) (.inl ⟨rfl,fun _ hx=>hx⟩) ?_)
   have hz:=And.intro w0 (And.intro w1 (And.intro w2 (And.intro w3 (And.intro w4 w5))))
   refine Nz ?_
   exact ⟨x,i2,h2,by omega,hi2,rfl,rfl⟩
 obtain ⟨_,_,⟨t',i',h',ht',hi',rfl,rfl⟩,hS⟩:=key
 exact ⟨t',i',h',ht',hi',hS⟩
theorem apF {α:Type} (f:α→Nat):∀ (l:List α) (k:Nat) (x:α),((l.set k x).map f).sum≤(l.map f).sum+f x
 | [],_,_=>by simp
 | a::l,0,x=>by simp; omega
 | a::l,k+1,x=>by
  have:=apF f l k x
  simp only [List.set_cons_succ,lP,lB2]; omega
theorem apw {α:Type} (f:α→Nat):∀ (l:List α) (k:Nat),((l.take k).map f).sum≤(l.map f).sum
 | [],_=>by simp
 | a::l,0=>by simp
 | a::l,k+1=>by
  have:=apw f l k
  simp only [List.take_succ_cons,lP,lB2]; omega
theorem aqS (v:Value) (b:aA) (i:Nat) (h:Int) (hl:b.length<2^48) (hi:i≤b.length):∃ (t:Tab) (i':Nat) (h':Int),t.sz<2^20∧i'≤b.length ∧
  bC Tryz.prog 100 [cur v b i h] t.o [cur v b i' h']:=by
 obtain ⟨t,i1,h1,ht,hi1,k1⟩:=aoi v b i h 8 hl hi (by omega)
 obtain ⟨n,i2,h2,hn,hi2,k2⟩:=i9 v b i1 h1 12 hl hi1 (by omega)
 have hz:=agz ht
 have htl:=((aV t).1 ht).tab.len
 have hn':n<12:=by rw [wS,lG (by omega)] at hn; omega
 have hpos:0<t.inodes.length:=by
  obtain ⟨r,_,_,r3⟩:=eM ((aV t).1 ht)
  exact List.length_pos_of_mem r3
 have key:∃ ret outs,(∃ (t':Tab) (i':Nat) (h':Int),t'.sz<2^20∧i'≤b.length∧ret=t'.o∧outs=[cur v b i' h'])∧bC Tryz.prog 100 [cur v b i h] ret outs:=by
  unfold cur at *
  by_cases g0:n=0
  ·subst g0
   obtain ⟨r,i3,h3,hr,hi3,k3⟩:=wE v b i2 h2 [1,2,1000,1001] hl hi2 (by simp) (by simp)
   unfold cur at k3
   simp only [eO,lP,lA2] at k3
   refine mD hmx ao0 [(101,[.l,.b],[]),(153,[.l,.b],[]),(57,[.l,.b],[]),(154,[.l],[])] 141 rfl [true] ⟨lO1 rfl,lO1 rfl⟩ rfl ?_
   intro w hP hQ
   unfold z8
   refine N ?_
   (first | refine aI hP (k1) (.inl ⟨rfl,fun _ hx=>hx⟩) ?_ | refine aF hP (k1) (.inl ⟨rfl,fun _ hx=>hx⟩) ?_)
   refine N ?_
   (first | refine aI hP (k2) (.inl ⟨rfl,fun _ hx=>hx⟩) ?_ | refine aF hP (k2) (.inl ⟨rfl,fun _ hx=>hx⟩) ?_)
   refine N ?_
   (first | refine aI hP (k3) (.inl ⟨rfl,fun _ hx=>hx⟩) ?_ | refine aF hP (k3) (.inl ⟨rfl,fun _ hx=>hx⟩) ?_)
   refine N ?_
   exact ⟨{ t with next:=r },i3,h3,by show t.sz<2^20; omega,hi3,rfl,rfl⟩
  by_cases g1:n=1
  ·subst g1
   obtain ⟨x,i3,h3,hx,hi3,k3⟩:=aqz v b i2 h2 hl hi2
   unfold cur at k3
   have hb1:(t.inodes.length+1)*96≤140737488355328:=by omega
   refine mD hmx ao0 [(101,[.l,.b],[]),(153,[.l,.b],[]),(57,[.l,.b],[]),(154,[.l],[])] 141 rfl [true] ⟨lO1 rfl,lO1 rfl⟩ rfl ?_
   intro w hP hQ
   unfold z8
   refine N ?_
   (first | refine aI hP (k1) (.inl ⟨rfl,fun _ hx=>hx⟩) ?_ | refine aF hP (k1) (.inl ⟨rfl,fun _ hx=>hx⟩) ?_)
   refine N ?_
   (first | refine aI hP (k2) (.inl ⟨rfl,fun _ hx=>hx⟩) ?_ | refine aF hP (k2) (.inl ⟨rfl,fun _ hx=>hx⟩) ?_)
   refine N ?_
   (first | refine aI hP (k3) (.inl ⟨rfl,fun _ hx=>hx⟩) ?_ | refine aF hP (k3) (.inl ⟨rfl,fun _ hx=>hx⟩) ?_)
   have hz:=hb1
   refine Nz ?_
   exact ⟨{ t with inodes:=t.inodes++[x] },i3,h3,by
    have:szM Inode.sz (t.inodes++[x])=szM Inode.sz t.inodes+1+x.sz:=by simp [szM]; omega
    have e:t.sz=szM Inode.sz t.inodes:=rfl
    show szM Inode.sz (t.inodes++[x])<2^20; omega,hi3,by simp [Inode.row],rfl⟩
  by_cases g2:n=2
  ·subst g2
   obtain ⟨m,i3,h3,hm,hi3,k3⟩:=i9 v b i2 h2 t.inodes.length hl hi2 (by omega)
   obtain ⟨x,i4,h4,hx,hi4,k4⟩:=aqz v b i3 h3 hl hi3
   have hm':(m:Int)<(t.inodes.length:Nat):=by rw [wS,lG (by omega)] at hm; omega
   unfold cur at k3 k4
   refine mD hmx ao0 [(101,[.l,.b],[]),(153,[.l,.b],[]),(57,[.l,.b],[]),(154,[.l],[])] 141 rfl [true] ⟨lO1 rfl,lO1 rfl⟩ rfl ?_
   intro w hP hQ
   unfold z8
   refine N ?_
   (first | refine aI hP (k1) (.inl ⟨rfl,fun _ hx=>hx⟩) ?_ | refine aF hP (k1) (.inl ⟨rfl,fun _ hx=>hx⟩) ?_)
   refine N ?_
   (first | refine aI hP (k2) (.inl ⟨rfl,fun _ hx=>hx⟩) ?_ | refine aF hP (k2) (.inl ⟨rfl,fun _ hx=>hx⟩) ?_)
   refine N ?_
   (first | refine aI hP (k3) (.inl ⟨rfl,fun _ hx=>hx⟩) ?_ | refine aF hP (k3) (.inl ⟨rfl,fun _ hx=>hx⟩) ?_)
   refine N ?_
   (first | refine aI hP (k4) (.inl ⟨rfl,fun _ hx=>hx⟩) ?_ | refine aF hP (k4) (.inl ⟨rfl,fun _ hx=>hx⟩) ?_)
   have hz:=hm'
   refine Nz ?_
   exact ⟨{ t with inodes:=t.inodes.set m x },i4,h4,by
    have:szM Inode.sz (t.inodes.set m x)≤szM Inode.sz t.inodes+x.sz:=by
     have:=apF Inode.sz t.inodes m x
     simp only [szM,List.length_set]; omega
    have e:t.sz=szM Inode.sz t.inodes:=rfl
    show szM Inode.sz (t.inodes.set m x)<2^20; omega,hi4,by rw [sH Inode.row t.inodes m x _ fun y _=>rfl],rfl⟩
  by_cases g3:n=3
  ·subst g3
   obtain ⟨m,i3,h3,hm,hi3,k3⟩:=i9 v b i2 h2 (t.inodes.length+1) hl hi2 (by omega)
   have hm':(m:Int)≤(t.inodes.length:Nat):=by rw [wS,lG (by omega)] at hm; omega
   unfold cur at k3
   refine mD hmx ao0 [(101,[.l,.b],[]),(153,[.l,.b],[]),(57,[.l,.b],[]),(154,[.l],[])] 141 rfl [true] ⟨lO1 rfl,lO1 rfl⟩ rfl ?_
   intro w hP hQ
   unfold z8
   refine N ?_
   (first | refine aI hP (k1) (.inl ⟨rfl,fun _ hx=>hx⟩) ?_ | refine aF hP (k1) (.inl ⟨rfl,fun _ hx=>hx⟩) ?_)
   refine N ?_
   (first | refine aI hP (k2) (.inl ⟨rfl,fun _ hx=>hx⟩) ?_ | refine aF hP (k2) (.inl ⟨rfl,fun _ hx=>hx⟩) ?_)
   refine N ?_
   (first | refine aI hP (k3) (.inl ⟨rfl,fun _ hx=>hx⟩) ?_ | refine aF hP (k3) (.inl ⟨rfl,fun _ hx=>hx⟩) ?_)
   have hz:=hm'
   refine Nz ?_
   exact ⟨{ t with inodes:=t.inodes.take m },i3,h3,by
    have:szM Inode.sz (t.inodes.take m)≤szM Inode.sz t.inodes:=by
     have:=apw Inode.sz t.inodes m
     have:=List.length_take_le m t.inodes
     simp only [szM]; omega
    have e:t.sz=szM Inode.sz t.inodes:=rfl
    show szM Inode.sz (t.inodes.take m)<2^20; omega,hi3,by simp [Tab.o,Int.sub_zero],rfl⟩
  ·have w0:decide ((n:Int)=0)=false:=lB (by omega)
   have w1:decide ((n:Int)=1)=false:=lB (by omega)
   have w2:decide ((n:Int)=2)=false:=lB (by omega)
   have w3:decide ((n:Int)=3)=false:=lB (by omega)
   refine mD hmx ao0 [(101,[.l,.b],[]),(153,[.l,.b],[]),(57,[.l,.b],[]),(154,[.l],[])] 141 rfl [true] ⟨lO1 rfl,lO1 rfl⟩ rfl ?_
   intro w hP hQ
   unfold z8
   refine N ?_
   (first | refine aI hP (k1) (.inl ⟨rfl,fun _ hx=>hx⟩) ?_ | refine aF hP (k1) (.inl ⟨rfl,fun _ hx=>hx⟩) ?_)
   refine N ?_
   (first | refine aI hP (k2) (.inl ⟨rfl,fun _ hx=>hx⟩) ?_ | refine aF hP (k2) (.inl ⟨rfl,fun _ hx=>hx⟩) ?_)
   have hz:=And.intro w0 (And.intro w1 (And.intro w2 w3))
   refine Nz ?_
   exact ⟨t,i2,h2,by omega,hi2,rfl,rfl⟩
 obtain ⟨_,_,⟨t',i',h',ht',hi',rfl,rfl⟩,hS⟩:=key
 exact ⟨t',i',h',ht',hi',hS⟩
theorem aqT (v:Value) (b:aA) (i:Nat) (h:Int) (hl:b.length<2^48) (hi:i≤b.length):∃ (t:Tab) (i':Nat) (h':Int),t.sz<2^28∧i'≤b.length ∧
  bC Tryz.prog 74 [cur v b i h] t.o [cur v b i' h']:=by
 obtain ⟨n,i1,h1,hn,hi1,k1⟩:=i9 v b i h 16 hl hi (by omega)
 by_cases g0:n=0
 ·subst g0
  obtain ⟨t,i2,h2,ht,hi2,k2⟩:=aqS v b i1 h1 hl hi1
  refine ⟨t,i2,h2,by omega,hi2,?_⟩
  unfold cur at *
  refine U apt [(101,[.l,.b],[]),(100,[.l],[]),(138,[.l],[]),(57,[.l,.b],[])] 21 [true] fun w hP hQ=>?_
  unfold apb
  refine N ?_
  (first | refine aI hP (k1) (.inl ⟨rfl,fun _ hx=>hx⟩) ?_ | refine aF hP (k1) (.inl ⟨rfl,fun _ hx=>hx⟩) ?_)
  refine N ?_
  (first | refine aI hP (k2) (.inl ⟨rfl,fun _ hx=>hx⟩) ?_ | refine aF hP (k2) (.inl ⟨rfl,fun _ hx=>hx⟩) ?_)
  simp +decide (maxSteps:=9^9) (disch:=omega) only[↓SB0,SX,seval,hQ]
  all_goals first | rfl | exact ⟨rfl,rfl⟩
 by_cases g1:n=1
 ·subst g1
  obtain ⟨t,i2,h2,ht,hi2,k2⟩:=aqI v b i1 h1 hl hi1
  refine ⟨t,i2,h2,by omega,hi2,?_⟩
  unfold cur at *
  refine U apt [(101,[.l,.b],[]),(100,[.l],[]),(138,[.l],[]),(57,[.l,.b],[])] 21 [true] fun w hP hQ=>?_
  unfold apb
  refine N ?_
  (first | refine aI hP (k1) (.inl ⟨rfl,fun _ hx=>hx⟩) ?_ | refine aF hP (k1) (.inl ⟨rfl,fun _ hx=>hx⟩) ?_)
  refine N ?_
  (first | refine aI hP (k2) (.inl ⟨rfl,fun _ hx=>hx⟩) ?_ | refine aF hP (k2) (.inl ⟨rfl,fun _ hx=>hx⟩) ?_)
  simp +decide (maxSteps:=9^9) (disch:=omega) only[↓SB0,SX,seval,hQ]
  all_goals first | rfl | exact ⟨rfl,rfl⟩
 ·obtain ⟨t,i2,h2,ht,hi2,k2⟩:=aoi v b i1 h1 10 hl hi1 (by omega)
  have hz:=agz ht
  have w0:decide ((n:Int)=0)=false:=lB (by omega)
  have w1:decide ((n:Int)=1)=false:=lB (by omega)
  refine ⟨t,i2,h2,by omega,hi2,?_⟩
  unfold cur at *
  refine U apt [(101,[.l,.b],[]),(100,[.l],[]),(138,[.l],[]),(57,[.l,.b],[])] 21 [true] fun w hP hQ=>?_
  unfold apb
  refine N ?_
  (first | refine aI hP (k1) (.inl ⟨rfl,fun _ hx=>hx⟩) ?_ | refine aF hP (k1) (.inl ⟨rfl,fun _ hx=>hx⟩) ?_)
  have hz:=And.intro w0 w1
  refine Nz ?_
  (first | refine aI hP (k2) (.inl ⟨rfl,fun _ hx=>hx⟩) ?_ | refine aF hP (k2) (.inl ⟨rfl,fun _ hx=>hx⟩) ?_)
  simp +decide (maxSteps:=9^9) (disch:=omega) only[↓SB0,SX,seval,hQ]
  all_goals first | rfl | exact ⟨rfl,rfl⟩
section
open Go.Proofs Go.Shelf Go.RowKit Go.Lib
theorem kR {P:Program} (s:Nat) (w:World) (dT sT ty e:TypeId) (b o dLen dCap:Nat) (a:Addr) (sLen sCap:Nat) (cs:List Value) (hu:P.underlying dT=some (.slice e)) (hs:(P.info? e).map (·.size)=some s)
  (hl:cs.length=(sLen.min dLen)*s) (hc:∀ (j:Nat) (v:Value),cs[j]?=some v→w.cell? (a.add j)=some v) (hd:∀ j,j<cs.length→(w.cell? ⟨b,o+j,none⟩).isSome=true) (hf:∀ j,j<cs.length→w.frozen? ⟨b,o+j,none⟩=false)
  (h1:∀ v ∈ cs,v.oneCell'=true) :
  (Builtin.copy_ #[dT,sT] ty #[.slice (some ⟨b,o,none⟩) dLen dCap,.slice (some a) sLen sCap]).run P w=.ok (goInt (sLen.min dLen:Nat)) (w.setCells b o cs):=by
 have hst:=run_storeCells_cells (P:=P) b o cs 0 w (by simpa using hd) (by simpa using hf) h1
 simp only [lM3] at hst
 have hfc:(Builtin.firstCells s (Nat.min sLen dLen) (.slice (some a) sLen sCap)).run P w=.ok cs.toArray w:=run_firstCells_some w s (sLen.min dLen) a sLen sCap cs hl hc
 have hrun:=ahB (P:=P) (w:=w) (ts:=#[dT,sT]) (ty:=ty) (t:=dT) rfl hu (show o6 P e=some s from hs) (some ⟨b,o,none⟩) (some a) dLen dCap sLen sCap cs hfc (w':=w.setCells b o cs) (fun ad had=>by cases had; exact hst) (fun h=>by cases h)
 exact hrun
abbrev kV (w:World) (b off:Nat) (cs:List Value):Prop:=∀ (j:Nat) (v:Value),cs[j]?=some v→w.cell? ⟨b,off+j,none⟩=some v
abbrev aqw (cs:List Value):Prop:=∀ v ∈ cs,v.oneCell'=true
theorem apH {α:Type} (L:List α) (m:Nat) (l:List α) (h:m+l.length≤L.length) (k:Nat):(lay L m l)[k]?=if m≤k∧k<m+l.length then l[k-m]? else L[k]?:=by
 unfold lay
 rw [lG2]
 by_cases h1:k<m
 ·rw [lF3 (by rw [lR]; omega),lP1,lG h1,lJ (by omega)]
 ·rw [uB1 (by rw [lR]; omega),lR,lL1 (by omega)]
  by_cases h2:k<m+l.length
  ·rw [lF3 (by omega),lG ⟨by omega,h2⟩]
  ·rw [uB1 (by omega),lH2,lJ (by omega)]; congr 1; omega
theorem aqA {cs vs:List Value} {a s:Nat} (hv:vs.length=s) (ha:a≤cs.length) (k:Nat):(cs.take a++(vs++cs.drop a))[k]?=if k<a then cs[k]? else if k<a+s then vs[k-a]? else cs[k-s]?:=by
 by_cases h1:k<a
 ·rw [lF3 (by rw [lR]; omega),lP1,lG h1,lG h1]
 ·rw [uB1 (by rw [lR]; omega),lR,lL1 ha,lJ h1]
  by_cases h2:k<a+s
  ·rw [lF3 (by omega),lG h2]
  ·rw [uB1 (by omega),lH2,lJ h2]; congr 1; omega
structure InsAt (w w':World) (s n:Nat) (T:List Value) (B O cap:Nat):Prop where
 cell:∃ C ty fr,w'.heap[B]?=some (.cells C ty fr)∧thawS s C.size fr∧O+cap*s≤C.size∧∀ k,k<T.length→C[O+k]?=T[k]?
 room:n+1≤cap
 same:∀ b,b<w.heap.size→b≠B→w'.heap[b]?=w.heap[b]?
 grows:Grows w w'
theorem apO {w w0 w':World} {b off cap n i s:Nat} {C:Array Value} {ty:TypeId} {fr:Nat × Nat} {cs vs:List Value} (h0:w0.heap=w.heap) (h0k:Quiet w w0) (hb:w.heap[b]?=some (.cells C ty fr)) (hfr:thawS s C.size fr)
  (hcap:off+cap*s≤C.size) (hroom:n+1≤cap) (hi:i≤n) (hcs:cs.length=n*s) (hvs:vs.length=s) (hc:∀ k,k<cs.length→C[off+k]?=cs[k]?)
  (hw:w'=(w0.setCells b (off+(i+1)*s) (cs.drop (i*s))).setCells b (off+i*s) vs):InsAt w w' s n (cs.take (i*s)++(vs++cs.drop (i*s))) b off cap:=by
 obtain ⟨m,rfl⟩:∃ m,n=i+m:=⟨n-i,by omega⟩
 have hmul:(i+m+1)*s≤cap*s:=lH1 s hroom
 have hL:(i+m)*s=i*s+m*s:=lU2 _ _ _
 have hL1:(i+m+1)*s=i*s+m*s+s:=by rw [lU2,Nat.one_mul,hL]
 have hJ:(i+1)*s=i*s+s:=by rw [lU2,Nat.one_mul]
 have hnl:(cs.drop (i*s)).length=m*s:=by rw [lE2,hcs,hL]; omega
 rw [← h0] at hb
 obtain ⟨C1,hC1,hw1,ho1,hk1⟩:=mB b (cs.drop (i*s)) (off+(i+1)*s) w0 C ty fr hb (by rw [hnl,hJ]; omega)
 have hl1:off+(i+1)*s+(cs.drop (i*s)).length≤C.toList.length:=by rw [hnl,hJ,lN1]; omega
 have hs1:C1.size=C.size:=by
  have:C1.toList.length=C.toList.length:=by rw [hC1,jL _ _ _ hl1]
  simpa using this
 obtain ⟨C2,hC2,hw2,ho2,hk2⟩:=mB b vs (off+i*s) _ C1 ty fr hw1 (by rw [hs1,hvs]; omega)
 have hl2:off+i*s+vs.length≤C1.toList.length:=by rw [hvs,lN1,hs1]; omega
 have hs2:C2.size=C.size:=by
  have:C2.toList.length=C1.toList.length:=by rw [hC2,jL _ _ _ hl2]
  rw [← hs1]; simpa using this
 rw [← hw] at hw2 ho2 hk2
 refine ⟨⟨C2,ty,fr,hw2,by rw [hs2]; exact hfr,by rw [hs2]; exact hcap,fun k hk=>?_⟩,hroom,fun x _ hx=>?_,?_⟩
 ·rw [aqA hvs (by rw [hcs,hL]; omega),← lK2,hC2,apH _ _ _ hl2,hC1,apH _ _ _ hl1,hvs,hnl]
  have hk':k<i*s+m*s+s:=by
   simp only [lT,lR,hvs,hnl,hcs,hL] at hk; omega
  by_cases c1:k<i*s
  ·rw [lG c1,lJ (by omega),lJ (by omega),lK2,hc k (by rw [hcs,hL]; omega)]
  ·rw [lJ c1]
   by_cases c2:k<i*s+s
   ·rw [lG c2,lG (by omega)]; congr 1; omega
   ·rw [lJ c2,lJ (by omega),lG (by omega),lH2]; congr 1; omega
 ·rw [ho2 x hx,ho1 x hx,h0]
 ·refine ⟨by rw [hk2.size,hk1.size,h0]; exact lR1 _,⟨?_,?_⟩⟩
  ·exact hk2.quiet.os.trans (hk1.quiet.os.trans h0k.os)
  ·exact hk2.quiet.out.trans (hk1.quiet.out.trans h0k.out)
theorem apg {w w':World} {n s cap:Nat} {ty:TypeId} {cs vs:List Value} {Z:Array Value} (hcs:cs.length=n*s) (hvs:vs.length=s) (hroom:n+1≤cap) (hZ:(n+1)*s+Z.size=cap*s)
  (hw:w'=w.drew.alloc (.cells ((cs++vs).toArray++Z) ty)):InsAt w w' s n (cs.take (n*s)++(vs++cs.drop (n*s))) w.heap.size 0 cap:=by
 subst hw
 have e:cs.take (n*s)++(vs++cs.drop (n*s))=cs++vs:=by rw [← hcs,lZ1,List.drop_length,lP2]
 rw [e]
 have hL1:(n+1)*s=n*s+s:=by rw [lU2,Nat.one_mul]
 have hp:(w.drew.alloc (.cells ((cs++vs).toArray++Z) ty)).heap=w.heap.push (.cells ((cs++vs).toArray++Z) ty):=rfl
 refine ⟨⟨(cs++vs).toArray++Z,ty,(0,0),by rw [hp]; simp,by intro o _ h; omega,?_,fun k hk=>?_⟩,hroom,fun b hb _=>?_,?_⟩
 ·rw [uD1,List.size_toArray,lT,hcs,hvs]; omega
 ·rw [lI2,uA1 (by simpa using hk)]; simp
 ·exact mA hp hb
 ·refine ⟨by rw [hp,Array.size_push]; omega,⟨rfl,rfl⟩⟩
theorem aqK {w w':World} {n i s cap:Nat} {ty:TypeId} {cs vs:List Value} {Z:Array Value} (hi:i≤n) (hcs:cs.length=n*s) (hvs:vs.length=s) (hroom:n+1≤cap) (hZ:i*s+Z.size=cap*s)
  (hw:w'=(((w.alloc (.cells ((cs.take (i*s)).toArray++Z) ty)).drew.setCells w.heap.size (i*s) vs).drew).setCells w.heap.size ((i+1)*s) (cs.drop (i*s))) :
  InsAt w w' s n (cs.take (i*s)++(vs++cs.drop (i*s))) w.heap.size 0 cap:=by
 obtain ⟨m,rfl⟩:∃ m,n=i+m:=⟨n-i,by omega⟩
 have hmul:(i+m+1)*s≤cap*s:=lH1 s hroom
 have hL:(i+m)*s=i*s+m*s:=lU2 _ _ _
 have hL1:(i+m+1)*s=i*s+m*s+s:=by rw [lU2,Nat.one_mul,hL]
 have hJ:(i+1)*s=i*s+s:=by rw [lU2,Nat.one_mul]
 have hnl:(cs.drop (i*s)).length=m*s:=by rw [lE2,hcs,hL]; omega
 obtain ⟨C,hC⟩:∃ C,C=(cs.take (i*s)).toArray++Z:=⟨_,rfl⟩
 have hsz:C.size=cap*s:=by
  rw [hC,uD1,List.size_toArray,lR,hcs,hL,lL1 (by omega)]; exact hZ
 rw [← hC] at hw
 have hp:((w.alloc (.cells C ty)).drew).heap=w.heap.push (.cells C ty):=rfl
 have hb:((w.alloc (.cells C ty)).drew).heap[w.heap.size]?=some (.cells C ty (0,0)):=by rw [hp]; simp
 obtain ⟨C1,hC1,hw1,ho1,hk1⟩:=mB w.heap.size vs (i*s) _ C ty (0,0) hb (by rw [hsz,hvs]; omega)
 have hl1:i*s+vs.length≤C.toList.length:=by rw [hvs,lN1,hsz]; omega
 have hs1:C1.size=C.size:=by
  have:C1.toList.length=C.toList.length:=by rw [hC1,jL _ _ _ hl1]
  simpa using this
 obtain ⟨C2,hC2,hw2,ho2,hk2⟩:=mB w.heap.size (cs.drop (i*s)) ((i+1)*s) (((w.alloc (.cells C ty)).drew.setCells w.heap.size (i*s) vs).drew) C1 ty (0,0) hw1 (by rw [hs1,hsz,hnl,hJ]; omega)
 have hl2:(i+1)*s+(cs.drop (i*s)).length≤C1.toList.length:=by rw [hnl,hJ,lN1,hs1,hsz]; omega
 have hs2:C2.size=C.size:=by
  have:C2.toList.length=C1.toList.length:=by rw [hC2,jL _ _ _ hl2]
  rw [← hs1]; simpa using this
 rw [← hw] at hw2 ho2 hk2
 refine ⟨⟨C2,ty,(0,0),hw2,by intro o _ h; omega,by rw [hs2,hsz]; omega,fun k hk=>?_⟩,hroom,fun x hx hne=>?_,?_⟩
 ·rw [lI2,aqA hvs (by rw [hcs,hL]; omega),← lK2,hC2,apH _ _ _ hl2,hC1,apH _ _ _ hl1,hvs,hnl]
  have hk':k<i*s+m*s+s:=by
   simp only [lT,lR,hvs,hnl,hcs,hL] at hk; omega
  by_cases c1:k<i*s
  ·rw [lG c1,lJ (by omega),lJ (by omega),lK2,hC,uA1 (by rw [List.size_toArray,lR,hcs,hL]; omega)]
   rw [List.getElem?_toArray,lP1,lG c1]
  ·rw [lJ c1]
   by_cases c2:k<i*s+s
   ·rw [lG c2,lJ (by omega),lG (by omega)]
   ·rw [lJ c2,lG (by omega),lH2]; congr 1; omega
 ·rw [ho2 x hne]
  show (((w.alloc (.cells C ty)).drew).setCells w.heap.size (i*s) vs).heap[x]?=_
  rw [ho1 x hne]
  exact mA hp hx
 ·have h1:(((w.alloc (.cells C ty)).drew).setCells w.heap.size (i*s) vs).drew.heap.size=w.heap.size+1:=by
   show (((w.alloc (.cells C ty)).drew).setCells w.heap.size (i*s) vs).heap.size=_
   rw [hk1.size,hp,Array.size_push]
  refine ⟨by rw [hk2.size,h1]; omega,⟨?_,?_⟩⟩
  ·rw [hk2.quiet.os]; show (((w.alloc (.cells C ty)).drew).setCells w.heap.size (i*s) vs).os=_; rw [hk1.quiet.os]; rfl
  ·rw [hk2.quiet.out]; show (((w.alloc (.cells C ty)).drew).setCells w.heap.size (i*s) vs).output=_; rw [hk1.quiet.out]; rfl
theorem aqL {P:Program} {f s:Nat} {es:List (List TV)} {x:List TV} {i:Nat} (hE:p9 P f) (hs:∀ r ∈ es,r.length=s) (hx:x.length=s) (hk:es.flatten.all fG=true) (hkx:x.all fG=true) (hi:i≤es.length)
  (run:∀ (w:World) (base:Option Addr) (c:Nat) (cs vs:List Value) (vb voff vc:Nat) (Cv:Array Value) (tv:TypeId) (frv:Nat × Nat),cs.length=es.length*s→vs.length=s→es.length≤c→(base=none→es.length=0∧c=0) →
   (∀ a,base=some a→∃ b off C ty fr,a=⟨b,off,none⟩∧b≠vb∧w.heap[b]?=some (.cells C ty fr)∧thawS s C.size fr∧off+c*s≤C.size∧∀ k,k<cs.length→C[off+k]?=cs[k]?) →
   w.heap[vb]?=some (.cells Cv tv frv)→thawS s Cv.size frv→voff+vc*s≤Cv.size→1≤vc→(∀ k,k<vs.length→Cv[voff+k]?=vs[k]?)→(∀ u ∈ cs,u.oneCell'=true)→(∀ u ∈ vs,u.oneCell'=true) →
   Calls P f #[.slice base es.length c,.int .i64 i,.slice (some ⟨vb,voff,none⟩) 1 vc] w fun e w'=>∃ B O cap,e=.returned (.slice (some ⟨B,O,none⟩) (es.length+1) cap) ∧
    InsAt w w' s es.length (cs.take (i*s)++(vs++cs.drop (i*s))) B O cap∧((∃ a,base=some a∧B=a.block)∨B=w.heap.size)) :
  bC P f [.own s es,.int .i64 i,.own s [x]] (.own s (es.take i++x::es.drop i)) [.undef,.undef,.undef]:=by
 refine ⟨hE,rfl,?_⟩
 intro w zs F X r h1 h2 h3
 cases r with
 | own _ F1 F2 _ s es v zs ys hr hn hF=>
 cases hn with
 | int _ _ _ _ zs _ hn=>
 cases hn with
 | own _ H1 H2 _ _ _ v2 zs2 ys2 hr2 hn2 hF2=>
 cases hn2 with
 | nil _ _ hz hX=>
 rcases Row.sl_inv hr2 with ⟨_,he,_⟩ | ⟨Gv,vb,voff,vc,Cv,tv,frv,vs,rfl,hvb,hvfr,hvcap,hvle,hves,hvcs,hvc,hvrow,hvF⟩
 ·exact absurd he (by simp)
 have hvl:vs.length=s:=by simpa using hvcs
 have e1:[x].flatten=x:=by simp
 rw [e1] at hvrow
 have hbase:∃ (base:Option Addr) (c:Nat) (cs:List Value) (Gs:aK),v=.slice base es.length c∧cs.length=es.length*s∧es.length≤c∧(base=none→es.length=0∧c=0)∧Row w true Gs cs es.flatten ∧
   (∀ a,base=some a→∃ b off C ty fr,a=⟨b,off,none⟩∧b≠vb∧w.heap[b]?=some (.cells C ty fr)∧thawS s C.size fr∧off+c*s≤C.size∧∀ k,k<cs.length→C[off+k]?=cs[k]?) ∧
   (∀ b,Gs b≤F1 b)∧(∀ a b,base=some a→b=a.block→Gs b+1≤F1 b):=by
  rcases Row.sl_inv hr with ⟨rfl,rfl,h0⟩ | ⟨G1,b,off,cap,C,ty,fr,cs,rfl,hb,hfr,hcap,hle,hes,hcs,hc,hrow,hG⟩
  ·exact ⟨none,0,[],fun _=>0,rfl,by simp,lR1 _,fun _=>⟨rfl,rfl⟩,.nil _ _ fun _=>rfl,fun a h=>(by cases h),fun b=>lD3 _,fun a b h=>(by cases h)⟩
  ·refine ⟨_,cap,cs,G1,rfl,hcs,hle,fun h=>(by cases h),hrow,fun a ha=>?_,fun x=>(by rw [hG]; omega),fun a x ha hx=>?_⟩
   ·injection ha with ha
    refine ⟨b,off,C,ty,fr,ha.symm,?_,hb,hfr,hcap,hc⟩
    intro e
    have a1:=h1 b
    have a2:=hF b
    have a3:=hF2 b
    have a4:=hvF b
    have a5:=hG b
    rw [lG e] at a4
    rw [lG rfl] at a5
    omega
   ·injection ha with ha
    have hxb:x=b:=by rw [hx,← ha]
    have:=hG x
    rw [lG hxb] at this
    show G1 x+1≤F1 x
    omega
 obtain ⟨base,c,cs,Gs,rfl,hcs,hle,hnil,hrow,hsome,hGF,hGb⟩:=hbase
 refine (run w base c cs vs vb voff vc Cv tv frv hcs hvl hle hnil hsome hvb hvfr hvcap (by simpa using hvle) hvc (t7 hrow hk) (t7 hvrow hkx)).mono ?_
 rintro e w' ⟨B,O,cap,rfl,I,hB⟩
 have l1:(es.take i).flatten.length=i*s:=by rw [cA _ (fun e he=>hs e (lY1 he)),lR,lL1 hi]
 have hii:i*s≤es.length*s:=lH1 s hi
 have efl:es.flatten=(es.take i).flatten++(es.drop i).flatten:=by rw [← lW1,lH]
 have ecs:cs=cs.take (i*s)++cs.drop (i*s):=(lH _ _).symm
 have hrow':Row w true Gs (cs.take (i*s)++cs.drop (i*s)) ((es.take i).flatten++(es.drop i).flatten):=by rw [← ecs,← efl]; exact hrow
 obtain ⟨A1,A2,r1,r2,eA⟩:=Row.split (cs.take (i*s)) _ (by rw [l1,lR,hcs]; omega) hrow'
 have rnew:Row w true (fun b=>A1 b+(Gv b+A2 b)) (cs.take (i*s)++(vs++cs.drop (i*s))) (es.take i++x::es.drop i).flatten:=by
  rw [lW1,lV2]
  exact Row.append r1 (Row.append hvrow r2 (fun _=>rfl)) (fun _=>rfl)
 have hlt:=Row.lt rnew rfl
 have hGle:∀ b,A1 b+(Gv b+A2 b)≤F b:=fun b=>by have:=hF b; have:=hF2 b; have:=hvF b; have:=eA b; have:=hGF b; omega
 have hBl:∀ b,(if b=B then 1 else 0)+(A1 b+(Gv b+A2 b))≤1:=by
  intro b
  have f1:=h1 b
  by_cases e:b=B
  ·rw [lG e]
   rcases hB with ⟨a,ha,hBa⟩ | hB
   ·have:=hGb a b ha (e.trans hBa)
    have:=hF b; have:=hF2 b; have:=hvF b; have:=eA b
    omega
   ·have:¬ (A1 b+(Gv b+A2 b)≠0):=fun h=>by have:=hlt b h; omega
    omega
  ·rw [lJ e]; have:=hGle b; omega
 have hsame:l4 w w' (fun b=>A1 b+(Gv b+A2 b)):=fun b hb=>by
  refine I.same b (hlt b hb) (fun e=>?_)
  have:=hBl b
  rw [lG e] at this
  (try dsimp only at hb); omega
 obtain ⟨C,ty,fr,hC1,hC2,hC3,hC4⟩:=I.cell
 have hTl:(cs.take (i*s)++(vs++cs.drop (i*s))).length=(es.take i++x::es.drop i).length*s:=by
  have g1:(es.take i++x::es.drop i).length=es.length+1:=by simp; omega
  rw [g1]
  simp only [lT,lR,lE2,hvl,hcs,lU2,Nat.one_mul]
  omega
 have hnew:Row w' true (fun b=>(if b=B then 1 else 0)+(A1 b+(Gv b+A2 b))) [.slice (some ⟨B,O,none⟩) (es.length+1) cap] [.sl s (es.take i++x::es.drop i)]:=
  Row.of_sl (F1:=fun b=>A1 b+(Gv b+A2 b)) (by simp; omega) hC1 hC2 hC3 (by have:=I.room; simp; omega)
   (fun r hr=>by
    rcases lI.1 hr with hr | hr
    ·exact hs r (lY1 hr)
    ·rcases lF.1 hr with rfl | hr
     ·exact hx
     ·exact hs r (lB3 hr)) hTl hC4 (rnew.same hsame) (fun _=>rfl)
 have hBF:∀ b,b=B→F b≠0∨w.heap.size≤b:=by
  intro b e
  rcases hB with ⟨a,ha,hBa⟩ | hB
  ·left
   have:=hGb a b ha (e.trans hBa)
   have:=hF b
   omega
  ·right; omega
 refine ⟨_,fun b=>(if b=B then 1 else 0)+(A1 b+(Gv b+A2 b)),X,rfl,?_,hBl,fun b=>.inr (hX b),I.grows,fun b hb h0=>?_,fun b hb=>?_,fun b hb=>absurd (hX b) hb⟩
 ·exact .own _ (fun b=>(if b=B then 1 else 0)+(A1 b+(Gv b+A2 b))) (fun _=>0) X s _ _ _ _ hnew (.undef _ _ _ _ _ (.undef _ _ _ _ _ (.undef _ _ _ _ _ (.nil _ _ (fun _=>rfl) hX)))) (fun x=>by simp)
 ·refine I.same b hb fun e=>?_
  rcases hBF b e with h | h
  ·exact h h0
  ·omega
 ·by_cases e:b=B
  ·exact hBF b e
  ·left
   (try dsimp only at hb)
   rw [lJ e] at hb
   have:=hGle b
   omega
theorem aqX {P:Program} {f s B el:Nat} {Z:Value} (hE:p9 P f) (h26:s=2∨s=6) (hB:0<B) (hZ:Z.cells.size=s)
  (shift:∀ (b off n c i vb voff vc:Nat) (cs vs:List Value) (w:World) (hi:i<n) (hroom:n+1≤c) (hc63:n+1≤9223372036854775807) (hvb:vb≠b) (hcl:cs.length=n*s) (hvl:vs.length=s) (hcs:kV w b off cs) (hsp:∀ j,j<(n+1)*s→(w.cell? ⟨b,off+j,none⟩).isSome=true) (hfz:∀ j,j<(n+1)*s→w.frozen? ⟨b,off+j,none⟩=false) (hvs:kV w vb voff vs) (h1c:aqw cs) (h1v:aqw vs) (tA tB:TypeId) (kA kB:Nat) (hsa:w.shape? vb=some (tA,kA)) (hsb:w.shape? b=some (tB,kB)) (hkB:kB≠0) (hfa:w.frozen? ⟨vb,voff,none⟩=false) (hfe:w.frozen? ⟨vb,kA,none⟩=false),Calls P f #[.slice (some ⟨b,off,none⟩) n c,.int .i64 i,.slice (some ⟨vb,voff,none⟩) 1 vc] w fun e w'=>e=.returned (.slice (some ⟨b,off,none⟩) (n+1) c)∧w'=(w.drew.setCells b (off+(i+1)*s) (cs.drop (i*s))).setCells b (off+i*s) vs)
  (room:∀ (b off n c vb voff vc:Nat) (vs:List Value) (w:World) (hroom:n+1≤c) (hc63:n+1≤9223372036854775807) (hvl:vs.length=s) (hsp:∀ j,j<s→(w.cell? ⟨b,off+n*s+j,none⟩).isSome=true) (hfz:∀ j,j<s→w.frozen? ⟨b,off+n*s+j,none⟩=false) (hvs:kV w vb voff vs) (h1v:aqw vs),Calls P f #[.slice (some ⟨b,off,none⟩) n c,.int .i64 n,.slice (some ⟨vb,voff,none⟩) 1 vc] w fun e w'=>e=.returned (.slice (some ⟨b,off,none⟩) (n+1) c)∧w'=w.setCells b (off+n*s) vs)
  (egrow:∀ (base:Option Addr) (n c vb voff vc:Nat) (cs vs:List Value) (w:World) (hnc:n≤c) (hroom:c<n+1) (hbig:(n+1)*B≤140737488355328) (hcl:cs.length=n*s) (hvl:vs.length=s) (hnil:base=none→n=0) (hcs:∀ a,base=some a→∀ (j:Nat) (v:Value),cs[j]?=some v→w.cell? (a.add j)=some v) (hvs:kV w vb voff vs) (h1v:aqw vs),Calls P f #[.slice base n c,.int .i64 n,.slice (some ⟨vb,voff,none⟩) 1 vc] w fun e w'=>e=.returned (.slice (some ⟨w.heap.size,0,none⟩) (n+1) (grownCap w (n+1) c el))∧w'=w.drew.alloc (.cells ((cs++vs).toArray++Builtin.zeroCells Z.cells (grownCap w (n+1) c el-(n+1))) el))
  (grow:∀ (b off n c i vb voff vc:Nat) (cs vs:List Value) (w:World) (hi:i<n) (hnc:n≤c) (hroom:c<n+1) (hbig:(n+1)*B≤140737488355328) (hcl:cs.length=n*s) (hvl:vs.length=s) (hcs:kV w b off cs) (hvs:kV w vb voff vs) (h1c:aqw cs) (h1v:aqw vs),Calls P f #[.slice (some ⟨b,off,none⟩) n c,.int .i64 i,.slice (some ⟨vb,voff,none⟩) 1 vc] w fun e w'=>e=.returned (.slice (some ⟨w.heap.size,0,none⟩) (n+1) (grownCap w (n+1) c el))∧w'=(((w.alloc (.cells ((cs.take (i*s)).toArray++Builtin.zeroCells Z.cells (n+1-i)++Builtin.zeroCells Z.cells (grownCap w (n+1) c el-(n+1))) el)).drew.setCells w.heap.size (i*s) vs).drew).setCells w.heap.size ((i+1)*s) (cs.drop (i*s)))
  (es:List (List TV)) (x:List TV) (i:Nat) (hs:∀ r ∈ es,r.length=s) (hx:x.length=s) (hk:es.flatten.all fG=true) (hkx:x.all fG=true) (hi:i≤es.length) (hbig:(es.length+1)*B≤140737488355328) :
  bC P f [.own s es,.int .i64 i,.own s [x]] (.own s (es.take i++x::es.drop i)) [.undef,.undef,.undef]:=by
 have hn1:es.length+1≤140737488355328:=lA4 (Nat.le_mul_of_pos_right _ hB) hbig
 refine aqL (s:=s) hE hs hx hk hkx hi ?_
 intro w base c cs vs vb voff vc Cv tv frv hcs hvl hle hnil hsome hvb hvfr hvcap hvc1 hvc h1c h1v
 clear hs hx hk hkx
 generalize es.length=n at *
 obtain ⟨c6,hc6⟩:∃ c6,c6=c*s:=⟨_,rfl⟩
 rcases h26 with rfl | rfl
 all_goals
  have hvs:∀ (j:Nat) (v:Value),vs[j]?=some v→w.cell? ⟨vb,voff+j,none⟩=some v:=by
   intro j v hj
   have:=hvc j (lL.1 hj).1
   simp [World.cell?,hvb,this,hj]
  have hz6:∀ m,(Builtin.zeroCells Z.cells m).size=m*Z.cells.size:=fun m=>size_zeroCells _ _
  cases base with
  | none=>
   obtain ⟨rfl,rfl⟩:=hnil rfl
   have hi0:i=0:=by omega
   subst hi0
   have hg:=grownCap_ge w (0+1) 0 el
   refine (egrow none 0 0 vb voff vc cs vs w (by omega) (by omega) hbig hcs hvl (fun _=>rfl) (fun a h=>by cases h) hvs h1v).mono ?_
   rintro e w' ⟨rfl,hw⟩
   refine ⟨w.heap.size,0,_,rfl,?_,.inr rfl⟩
   exact apg  (n:=0) hcs hvl hg (by rw [hz6,hZ]; omega) hw
  | some a=>
   obtain ⟨b,off,C,ty,fr,rfl,hne,hb,hfr,hcap,hc⟩:=hsome a rfl
   have hcell:∀ (j:Nat) (v:Value),cs[j]?=some v→w.cell? ⟨b,off+j,none⟩=some v:=by
    intro j v hj
    have:=hc j (lL.1 hj).1
    simp [World.cell?,hb,this,hj]
   have hsp:∀ j,j<c6→(w.cell? ⟨b,off+j,none⟩).isSome=true:=by
    intro j hj
    have:off+j<C.size:=by omega
    simp [World.cell?,hb,this]
   have hfz:∀ j,j<c6→w.frozen? ⟨b,off+j,none⟩=false:=by
    intro j hj
    have:=hfr (off+j) (.inl (by omega))
    simp [World.frozen?,hb]
    simpa using this
   have hg:=grownCap_ge w (n+1) c el
   by_cases hin:i=n
   ·subst hin
    by_cases hroom:i+1≤c
    ·refine (room b off i c vb voff vc vs w hroom (by omega) hvl (fun j hj=>by rw [uC1]; exact hsp _ (by omega)) (fun j hj=>by rw [uC1]; exact hfz _ (by omega)) hvs h1v).mono ?_
     rintro e w' ⟨rfl,hw⟩
     refine ⟨b,off,_,rfl,?_,.inl ⟨_,rfl,rfl⟩⟩
     refine apO  (w0:=w) rfl ⟨rfl,rfl⟩ hb hfr hcap hroom (lR1 _) hcs hvl hc ?_
     rw [lG4 (by omega)]; exact hw
    ·refine (egrow (some ⟨b,off,none⟩) i c vb voff vc cs vs w hle (by omega) hbig hcs hvl (fun h=>by cases h) (fun a ha j v hj=>by injection ha with ha; subst ha; rw [Addr.add_lit]; exact hcell j v hj) hvs h1v).mono ?_
     rintro e w' ⟨rfl,hw⟩
     refine ⟨w.heap.size,0,_,rfl,?_,.inr rfl⟩
     exact apg  hcs hvl hg (by rw [hz6,hZ]; omega) hw
   ·have hlt:i<n:=by omega
    by_cases hroom:n+1≤c
    ·have hfa:w.frozen? ⟨vb,voff,none⟩=false:=by
      have:=hvfr voff (.inl (by omega))
      simp [World.frozen?,hvb]
      simpa using this
     have hfe:w.frozen? ⟨vb,Cv.size,none⟩=false:=by
      have:=hvfr Cv.size (.inr ⟨by decide,rfl⟩)
      simp [World.frozen?,hvb]
      simpa using this
     refine (shift b off n c i vb voff vc cs vs w hlt hroom (by omega) (Ne.symm hne) hcs hvl hcell (fun j hj=>hsp j (by omega)) (fun j hj=>hfz j (by omega)) hvs h1c h1v tv ty Cv.size C.size
      (by simp [World.shape?,hvb]) (by simp [World.shape?,hb]) (by omega) hfa hfe).mono ?_
     rintro e w' ⟨rfl,hw⟩
     refine ⟨b,off,_,rfl,?_,.inl ⟨_,rfl,rfl⟩⟩
     exact apO  (w0:=w.drew) rfl ⟨rfl,rfl⟩ hb hfr hcap hroom (by omega) hcs hvl hc hw
    ·refine (grow b off n c i vb voff vc cs vs w hlt hle (by omega) hbig hcs hvl hcell hvs h1c h1v).mono ?_
     rintro e w' ⟨rfl,hw⟩
     refine ⟨w.heap.size,0,_,rfl,?_,.inr rfl⟩
     rw [Array.append_assoc] at hw
     exact aqK  (by omega) hcs hvl hg (by rw [uD1,hz6,hz6,hZ]; omega) hw
end
section
open Go.Proofs Go.Shelf Go.RowKit Go.Lib
theorem aqM:type_of% (And.intro (by kernel_rfl:Tryz.prog.follows .mixedOrders=true) (And.intro Tryz.underlying0 (And.intro Tryz.isAgg0 (And.intro Tryz.sizeOf0 (And.intro Tryz.zeroValue0 (And.intro Tryz.underlying3 (And.intro Tryz.isAgg3 (And.intro Tryz.sizeOf3 (And.intro Tryz.zeroValue3 (And.intro Tryz.underlying4 (And.intro Tryz.isAgg4 (And.intro Tryz.sizeOf4 (And.intro Tryz.zeroValue4 (And.intro Tryz.underlying70 (And.intro Tryz.isAgg70 (And.intro Tryz.sizeOf70 (And.intro Tryz.zeroValue70 (Tryz.zeroValue97)))))))))))))))))):=And.intro (by kernel_rfl:Tryz.prog.follows .mixedOrders=true) (And.intro Tryz.underlying0 (And.intro Tryz.isAgg0 (And.intro Tryz.sizeOf0 (And.intro Tryz.zeroValue0 (And.intro Tryz.underlying3 (And.intro Tryz.isAgg3 (And.intro Tryz.sizeOf3 (And.intro Tryz.zeroValue3 (And.intro Tryz.underlying4 (And.intro Tryz.isAgg4 (And.intro Tryz.sizeOf4 (And.intro Tryz.zeroValue4 (And.intro Tryz.underlying70 (And.intro Tryz.isAgg70 (And.intro Tryz.sizeOf70 (And.intro Tryz.zeroValue70 (Tryz.zeroValue97)))))))))))))))))
theorem apo (b off n c i vb voff vc:Nat) (cs vs:List Value) (w:World) (hi:i<n) (hroom:n+1≤c) (hc63:n+1≤9223372036854775807) (hvb:vb≠b)
  (hcl:cs.length=n*2) (hvl:vs.length=2)
  (hcs:kV w b off cs) (hsp:∀ j,j<(n+1)*2→(w.cell? ⟨b,off+j,none⟩).isSome=true) (hfz:∀ j,j<(n+1)*2→w.frozen? ⟨b,off+j,none⟩=false)
  (hvs:kV w vb voff vs) (h1c:aqw cs) (h1v:aqw vs)
  (tA tB:TypeId) (kA kB:Nat) (hsa:w.shape? vb=some (tA,kA)) (hsb:w.shape? b=some (tB,kB)) (hkB:kB≠0) (hfa:w.frozen? ⟨vb,voff,none⟩=false) (hfe:w.frozen? ⟨vb,kA,none⟩=false) :
  Calls Tryz.prog 134 #[.slice (some ⟨b,off,none⟩) n c,.int .i64 i,.slice (some ⟨vb,voff,none⟩) 1 vc] w fun e w'=>
   e=.returned (.slice (some ⟨b,off,none⟩) (n+1) c)∧w'=(w.drew.setCells b (off+(i+1)*2) (cs.drop (i*2))).setCells b (off+i*2) vs:=by
 obtain ⟨mixed,t0,a0,z0,v0,t3,a3,z3,v3,t4,a4,z4,v4,t70,a70,z70,v70,v97⟩:=aqM
 have u70:=run_underlying t70
 have u3:=run_underlying t3
 have u4:=run_underlying t4
 have hsz:(Tryz.prog.info? 97).map (·.size)=some 2:=by kernel_rfl
 have hov:∀ lb cb,(callFunc 182 #[.slice (some ⟨vb,voff,none⟩) 1 vc,.slice (some ⟨b,off+(i+1)*2,none⟩) lb cb]).run Tryz.prog w=.ok (.value (.bool false)) w:=fun lb cb=>by
  rw [run_callFunc_extern Tryz.func182 (by kernel_rfl) (by kernel_rfl) (by kernel_rfl) (e:=Extern.SlicesOverlaps.overlaps #[70,70] #[4]) (by kernel_rfl),
   Lib.run_overlaps_apart w 70 4 97 t70 2 Tryz.sizeOf97 ⟨vb,voff,none⟩ ⟨b,off+(i+1)*2,none⟩ 1 vc lb cb hvb tA tB kA kB hsa hsb hkB hfa hfe]
  rfl
 have hdl:(cs.drop (i*2)).length=(n-i)*2:=by rw [lE2,hcl]; omega
 have hw1:IntKind.i64.wrap ((i:Int)+1)=(i:Int)+1:=by rw [IntKind.wrap_i64]; omega
 have hb1:(0:Int)≤(i:Int)+1:=by omega
 have hin:i≤n:=by omega
 have htn:((i:Int)+1).toNat=i+1:=by omega
 have hb2:¬ (c=i+1):=by omega
 have hb3:(i:Int)≤(n:Int)+1:=by omega
 have hb4:¬ (c=i):=by omega
 have hz2:¬ ((i:Int)=(n:Int)):=by omega
 have mn1:(n+1-i).min (n-i)=n-i:=by show min _ _=_; omega
 have mn2:(1:Nat).min (n+1-i)=1:=by show min _ _=_; omega
 have hcp1:∀ ty dc sc,(Builtin.copy_ #[70,70] ty #[.slice (some ⟨b,off+(i+1)*2,none⟩) (n-i) dc,.slice (some ⟨b,off+i*2,none⟩) (n+1-i) sc]).run Tryz.prog w.drew=.ok (goInt (n-i:Nat)) (w.drew.setCells b (off+(i+1)*2) (cs.drop (i*2))):=fun ty dc sc=>by
  have:=kR (P:=Tryz.prog) 2 w.drew 70 70 ty 97 b (off+(i+1)*2) (n-i) dc ⟨b,off+i*2,none⟩ (n+1-i) sc (cs.drop (i*2)) t70 hsz (by rw [hdl,mn1])
   (fun j v hj=>by rw [Addr.add_lit,uC1]; exact hcs (i*2+j) v (by rwa [lH2] at hj))
   (fun j hj=>by rw [uC1]; exact hsp _ (by omega)) (fun j hj=>by rw [uC1]; exact hfz _ (by omega)) (fun v hv=>h1c v (lB3 hv))
  rw [this,mn1]
 obtain ⟨W1,hW1⟩:∃ W1,W1=w.drew.setCells b (off+(i+1)*2) (cs.drop (i*2)):=⟨_,rfl⟩
 have hsp1:∀ k,k<(n+1)*2→(W1.cell? ⟨b,off+k,none⟩).isSome=true:=fun k hk=>by
  rw [hW1]
  exact World.isSome_setCells _ _ _ _ _ (hsp k hk)
 have hcp2:∀ (W:World),(∀ x,W.cell? x=W1.cell? x)→(∀ x,W.frozen? x=W1.frozen? x)→∀ ty dc,(Builtin.copy_ #[70,70] ty #[.slice (some ⟨b,off+i*2,none⟩) (n+1-i) dc,.slice (some ⟨vb,voff,none⟩) 1 vc]).run Tryz.prog W=.ok (goInt (1:Nat)) (W.setCells b (off+i*2) vs):=fun W hWc hWf ty dc=>by
  have:=kR (P:=Tryz.prog) 2 W 70 70 ty 97 b (off+i*2) (n+1-i) dc ⟨vb,voff,none⟩ 1 vc vs t70 hsz (by rw [hvl,mn2])
   (fun j v hj=>by
    rw [Addr.add_lit,hWc,hW1,World.cell?_setCells_out b _ _ _ _ (fun h _=>absurd h hvb)]
    exact hvs j v hj)
   (fun j hj=>by rw [hWc,uC1]; exact hsp1 _ (by omega)) (fun j hj=>by rw [hWf,hW1,World.frozen?_setCells,uC1]; exact hfz _ (by omega)) h1v
  rw [this,mn2]
 rw [← hW1] at hcp1
 go_enter Tryz.func134,Tryz.ntmps134
 go_wp2_with (simp only [hov])
 go_region_law_o (refine step_copy_runI rfl _ _ 70 70 rfl _ _ (by simp [Act.eval,Act.put]) (by simp [Act.eval,Act.put]) (hcp1 _ _ _) ?_)
 go_wp2_with (at_builtin; refine wpList_copy_runI _ rfl _ _ 70 70 rfl _ _ rfl rfl (hcp2 _ (fun _=>rfl) (fun _=>rfl) _ _) ?_)
 go_ret
 first | exact ⟨rfl,rfl⟩ | exact ⟨rfl,by rw [hW1]⟩
theorem ao9 (b off n c vb voff vc:Nat) (vs:List Value) (w:World) (hroom:n+1≤c) (hc63:n+1≤9223372036854775807)
  (hvl:vs.length=2) (hsp:∀ j,j<2→(w.cell? ⟨b,off+n*2+j,none⟩).isSome=true) (hfz:∀ j,j<2→w.frozen? ⟨b,off+n*2+j,none⟩=false)
  (hvs:kV w vb voff vs) (h1v:aqw vs) :
  Calls Tryz.prog 134 #[.slice (some ⟨b,off,none⟩) n c,.int .i64 n,.slice (some ⟨vb,voff,none⟩) 1 vc] w fun e w'=>
   e=.returned (.slice (some ⟨b,off,none⟩) (n+1) c)∧w'=w.setCells b (off+n*2) vs:=by
 obtain ⟨mixed,t0,a0,z0,v0,t3,a3,z3,v3,t4,a4,z4,v4,t70,a70,z70,v70,v97⟩:=aqM
 have iE:(Tryz.prog.info? 97).map (fun i=>(i.zero,i.size,i.bytes))=some (some (.agg #[.string { data:=#[] },.int .i64 0]),2,24):=by kernel_rfl
 obtain ⟨i0,hi0,hz0,hz1,hz2⟩:=info_parts iE
 have hap:∀ ty,(Builtin.append_ #[70,70] ty #[.slice (some ⟨b,off,none⟩) n c,.slice (some ⟨vb,voff,none⟩) 1 vc]).run Tryz.prog w=.ok (.slice (some ⟨b,off,none⟩) (n+1) c) (w.setCells b (off+n*2) vs):=fun ty=>by
  have:=run_append_room_cells w 70 ty 97 i0 t70 hi0 b off n c ⟨vb,voff,none⟩ 1 vc vs (by rw [hvl,hz1]) (fun j u hu=>by rw [Addr.add_lit]; exact hvs j u hu) h1v hroom
   (fun j hj=>by rw [hz1]; exact hsp j (by omega)) (fun j hj=>by rw [hz1]; exact hfz j (by omega))
  rw [hz1] at this; exact this
 go_enter Tryz.func134,Tryz.ntmps134
 go_wp2_with (at_builtin; refine Lib.wpList_append_run _ rfl _ _ _ _ rfl _ _ rfl rfl _ _ (hap _) ?_)
 go_ret
 exact ⟨rfl,rfl⟩
theorem apa (base:Option Addr) (n c vb voff vc:Nat) (cs vs:List Value) (w:World) (hnc:n≤c) (hroom:c<n+1) (hbig:(n+1)*24≤140737488355328)
  (hcl:cs.length=n*2) (hvl:vs.length=2) (hnil:base=none→n=0)
  (hcs:∀ a,base=some a→∀ (j:Nat) (v:Value),cs[j]?=some v→w.cell? (a.add j)=some v)
  (hvs:kV w vb voff vs) (h1v:aqw vs) :
  Calls Tryz.prog 134 #[.slice base n c,.int .i64 n,.slice (some ⟨vb,voff,none⟩) 1 vc] w fun e w'=>
   e=.returned (.slice (some ⟨w.heap.size,0,none⟩) (n+1) (grownCap w (n+1) c 97)) ∧
   w'=w.drew.alloc (.cells ((cs++vs).toArray++Builtin.zeroCells (Value.agg #[.string { data:=#[] },.int .i64 0]).cells (grownCap w (n+1) c 97-(n+1))) 97):=by
 obtain ⟨mixed,t0,a0,z0,v0,t3,a3,z3,v3,t4,a4,z4,v4,t70,a70,z70,v70,v97⟩:=aqM
 have iE:(Tryz.prog.info? 97).map (fun i=>(i.zero,i.size,i.bytes))=some (some (.agg #[.string { data:=#[] },.int .i64 0]),2,24):=by kernel_rfl
 obtain ⟨i0,hi0,hz0,hz1,hz2⟩:=info_parts iE
 have hsrc:Src Tryz.prog i0.size 70 (.slice (some ⟨vb,voff,none⟩) 1 vc) 1 vs w:=by
  rw [hz1]
  exact Src.ofSlice w t70 ⟨vb,voff,none⟩ 1 vc vs (by omega) (fun j u hj=>by rw [Addr.add_lit]; exact hvs j u hj) h1v
 have hold:(Builtin.firstCells i0.size n (.slice base n c)).run Tryz.prog w.drew=.ok cs.toArray w.drew:=by
  rw [hz1]
  cases base with
  | none=>
   have h0:=hnil rfl
   subst h0
   rw [lM1.1 (by omega:cs.length=0)]
   exact run_firstCells_none w.drew 2 0 0 c
  | some a=>exact run_firstCells_some w.drew 2 n a n c cs (by omega) (fun j v hj=>hcs a rfl j v hj)
 have hrun:∀ ty,(Builtin.append_ #[70,70] ty #[.slice base n c,.slice (some ⟨vb,voff,none⟩) 1 vc]).run Tryz.prog w=_:=fun ty=>
  run_append_grow_src w 70 70 ty 97 i0 _ t70 hi0 hz0 base n c cs hold _ 1 vs hsrc hroom (by omega) (by rw [hz2]; exact growslice_fits hroom hbig)
 go_enter Tryz.func134,Tryz.ntmps134
 cases base with
 | none=>
  have h0:=hnil rfl
  subst h0
  go_wp2_with (at_builtin; refine Lib.wpList_append_run _ rfl _ _ _ _ rfl _ _ rfl rfl _ _ (hrun _) ?_)
  go_ret
  exact ⟨rfl,rfl⟩
 | some a=>
  obtain ⟨ab,ao,asp⟩:=a
  go_wp2_with (at_builtin; refine Lib.wpList_append_run _ rfl _ _ _ _ rfl _ _ rfl rfl _ _ (hrun _) ?_)
  all_goals (go_ret; exact ⟨rfl,rfl⟩)
theorem apx (b off n c i vb voff vc:Nat) (cs vs:List Value) (w:World) (hi:i<n) (hnc:n≤c) (hroom:c<n+1) (hbig:(n+1)*24≤140737488355328)
  (hcl:cs.length=n*2) (hvl:vs.length=2)
  (hcs:kV w b off cs)
  (hvs:kV w vb voff vs) (h1c:aqw cs) (h1v:aqw vs) :
  Calls Tryz.prog 134 #[.slice (some ⟨b,off,none⟩) n c,.int .i64 i,.slice (some ⟨vb,voff,none⟩) 1 vc] w fun e w'=>
   e=.returned (.slice (some ⟨w.heap.size,0,none⟩) (n+1) (grownCap w (n+1) c 97)) ∧
   w'=(((w.alloc (.cells ((cs.take (i*2)).toArray++Builtin.zeroCells (Value.agg #[.string { data:=#[] },.int .i64 0]).cells (n+1-i)++Builtin.zeroCells (Value.agg #[.string { data:=#[] },.int .i64 0]).cells (grownCap w (n+1) c 97-(n+1))) 97)).drew.setCells w.heap.size (i*2) vs).drew).setCells w.heap.size ((i+1)*2) (cs.drop (i*2)):=by
 obtain ⟨mixed,t0,a0,z0,v0,t3,a3,z3,v3,t4,a4,z4,v4,t70,a70,z70,v70,v97⟩:=aqM
 have iE:(Tryz.prog.info? 97).map (fun i=>(i.zero,i.size,i.bytes))=some (some (.agg #[.string { data:=#[] },.int .i64 0]),2,24):=by kernel_rfl
 obtain ⟨i0,hi0,hz0,hzs,hzb⟩:=info_parts iE
 have hz2:¬ ((i:Int)=(n:Int)):=by omega
 have hz3:(c:Int)<(n:Int)+1:=by omega
 have hsz:(Tryz.prog.info? 97).map (·.size)=some 2:=by rw [hi0]; simp [hzs]
 have hbw:b<w.heap.size:=block_lt_of_cell (hcs 0 _ (lK (by omega)))
 have hvw:vb<w.heap.size:=block_lt_of_cell (hvs 0 _ (lK (by omega)))
 have hkk:(n:Int)+1-(i:Int)=((n+1-i:Nat):Int):=by omega
 have hik:i+(n+1-i)=n+1:=by omega
 have hold:(Builtin.firstCells i0.size i (.slice (some ⟨b,off,none⟩) i c)).run Tryz.prog w.drew=.ok (cs.take (i*2)).toArray w.drew:=by
  rw [hzs]
  exact run_firstCells_some w.drew 2 i ⟨b,off,none⟩ i c (cs.take (i*2)) (by rw [lR]; omega) (fun j v hj=>by
   rw [Addr.add_lit]
   rw [lP1] at hj
   split at hj
   ·exact hcs j v hj
   ·cases hj)
 have hrz:∀ ty,(Builtin.append_ #[70,3] ty #[.slice (some ⟨b,off,none⟩) i c,.int .i64 ((n:Int)+1-(i:Int))]).run Tryz.prog w =
   .ok (.slice (some ⟨w.heap.size,0,none⟩) (n+1) (grownCap w (n+1) c 97)) (w.drew.alloc (.cells ((cs.take (i*2)).toArray++Builtin.zeroCells (Value.agg #[.string { data:=#[] },.int .i64 0]).cells (n+1-i)++Builtin.zeroCells (Value.agg #[.string { data:=#[] },.int .i64 0]).cells (grownCap w (n+1) c 97-(n+1))) 97)):=fun ty=>by
  have h:=Lib.run_append_grow_zeros w 70 3 ty 97 i0 _ .i64 .i64 t70 t3 hi0 hz0 (some ⟨b,off,none⟩) i c (cs.take (i*2)) hold (n+1-i) (by omega) (by omega) (by omega) (by omega) (by rw [hzb]; omega) (by rw [hzb,hik]; exact growslice_fits hroom hbig)
  rw [hik] at h
  rw [hkk]
  exact h
 obtain ⟨G,hG⟩:∃ G,G=grownCap w (n+1) c 97:=⟨_,rfl⟩
 obtain ⟨ROW,hROW⟩:∃ ROW:Array Value,ROW=(cs.take (i*2)).toArray++Builtin.zeroCells (Value.agg #[.string { data:=#[] },.int .i64 0]).cells (n+1-i)++Builtin.zeroCells (Value.agg #[.string { data:=#[] },.int .i64 0]).cells (G-(n+1)):=⟨_,rfl⟩
 rw [← hG] at hrz ⊢
 rw [← hROW] at hrz ⊢
 have hRl:(n+1)*2≤ROW.size:=by
  rw [hROW]
  simp [Builtin.zeroCells,Value.cells]
  omega
 obtain ⟨W1,hW1⟩:∃ W1,W1=w.drew.alloc (.cells ROW 97):=⟨_,rfl⟩
 rw [← hW1] at hrz
 have hN:∀ j,j<(n+1)*2→(W1.cell? ⟨w.heap.size,j,none⟩).isSome=true:=fun j hj=>by
  rw [hW1,World.cell?_alloc_at (w:=w.drew) ROW _ w.heap.size j rfl,lE1 (by omega)]; rfl
 have hNf:∀ j,W1.frozen? ⟨w.heap.size,j,none⟩=false:=fun j=>by rw [hW1]; exact World.frozen?_alloc_at (w:=w.drew) ROW _ w.heap.size j rfl
 have hOb:∀ j v,w.cell? ⟨b,j,none⟩=some v→W1.cell? ⟨b,j,none⟩=some v:=fun j v h=>by rw [hW1,World.cell?_alloc_past (w:=w.drew) _ b j hbw]; exact h
 have hOv:∀ j v,w.cell? ⟨vb,j,none⟩=some v→W1.cell? ⟨vb,j,none⟩=some v:=fun j v h=>by rw [hW1,World.cell?_alloc_past (w:=w.drew) _ vb j hvw]; exact h
 have mn1:(n-i).min (n-i)=n-i:=by show min _ _=_; omega
 have mn2:(1:Nat).min (n+1-i)=1:=by show min _ _=_; omega
 have hcpA:∀ (W:World),(∀ x,W.cell? x=W1.cell? x)→(∀ x,W.frozen? x=W1.frozen? x)→∀ ty dc,(Builtin.copy_ #[70,70] ty #[.slice (some ⟨w.heap.size,i*2,none⟩) (n+1-i) dc,.slice (some ⟨vb,voff,none⟩) 1 vc]).run Tryz.prog W=.ok (goInt (1:Nat)) (W.setCells w.heap.size (i*2) vs):=fun W hWc hWf ty dc=>by
  have:=kR (P:=Tryz.prog) 2 W 70 70 ty 97 w.heap.size (i*2) (n+1-i) dc ⟨vb,voff,none⟩ 1 vc vs t70 hsz (by rw [hvl,mn2])
   (fun j v hj=>by rw [Addr.add_lit,hWc]; exact hOv _ v (hvs j v hj))
   (fun j hj=>by rw [hWc]; exact hN _ (by omega)) (fun j hj=>by rw [hWf]; exact hNf _) h1v
  rw [this,mn2]
 have hGn:n+1≤G:=by rw [hG]; exact grownCap_ge w _ _ _
 have hG63:G≤9223372036854775807:=by
  have:=grownCap_le_maxLen w (n+1) c 97 (by unfold maxLen; omega)
  rw [← hG] at this
  unfold maxLen at this
  omega
 have hGi:¬ (G=i):=by omega
 have hGim:¬ (G=i+1):=by omega
 have hci:¬ (c=i):=by omega
 have hbN:b≠w.heap.size:=by omega
 have hdl:(cs.drop (i*2)).length=(n-i)*2:=by rw [lE2,hcl]; omega
 have hcpB:∀ (W:World),(∀ x,W.cell? x=(W1.setCells w.heap.size (i*2) vs).cell? x)→(∀ x,W.frozen? x=(W1.setCells w.heap.size (i*2) vs).frozen? x)→∀ ty dc sc,(Builtin.copy_ #[70,70] ty #[.slice (some ⟨w.heap.size,(i+1)*2,none⟩) (n-i) dc,.slice (some ⟨b,off+i*2,none⟩) (n-i) sc]).run Tryz.prog W=.ok (goInt (n-i:Nat)) (W.setCells w.heap.size ((i+1)*2) (cs.drop (i*2))):=fun W hWc hWf ty dc sc=>by
  have:=kR (P:=Tryz.prog) 2 W 70 70 ty 97 w.heap.size ((i+1)*2) (n-i) dc ⟨b,off+i*2,none⟩ (n-i) sc (cs.drop (i*2)) t70 hsz (by rw [hdl,mn1])
   (fun j v hj=>by
    rw [Addr.add_lit,hWc,World.cell?_setCells_out _ _ _ _ _ (fun h _=>absurd h hbN),uC1]
    exact hOb _ v (hcs (i*2+j) v (by rwa [lH2] at hj)))
   (fun j hj=>by rw [hWc]; exact isSome_setCells _ _ _ _ (fun t ht=>hN _ (by omega)) _ (hN _ (by omega)))
   (fun j hj=>by rw [hWf,World.frozen?_setCells]; exact hNf _) (fun v hv=>h1c v (lB3 hv))
  rw [this,mn1]
 subst hW1
 have hE1:∀ x,((w.alloc (.cells ROW 97)).drew).cell? x=(w.drew.alloc (.cells ROW 97)).cell? x:=fun x=>rfl
 have hE2:∀ x,((w.alloc (.cells ROW 97)).drew).frozen? x=(w.drew.alloc (.cells ROW 97)).frozen? x:=fun x=>rfl
 have hF1:∀ x,(((w.alloc (.cells ROW 97)).drew.setCells w.heap.size (i*2) vs).drew).cell? x=((w.drew.alloc (.cells ROW 97)).setCells w.heap.size (i*2) vs).cell? x:=fun x=>rfl
 have hF2:∀ x,(((w.alloc (.cells ROW 97)).drew.setCells w.heap.size (i*2) vs).drew).frozen? x=((w.drew.alloc (.cells ROW 97)).setCells w.heap.size (i*2) vs).frozen? x:=fun x=>rfl
 have hw1:IntKind.i64.wrap ((i:Int)+1)=(i:Int)+1:=by rw [IntKind.wrap_i64]; omega
 have hb1:(0:Int)≤(i:Int)+1:=by omega
 have hin:i≤n:=by omega
 have htn:((i:Int)+1).toNat=i+1:=by omega
 have hb3:(i:Int)≤(n:Int):=by omega
 clear hkk hik hold hROW hG hRl
 go_enter Tryz.func134,Tryz.ntmps134
 go_wp2_with (first
  | (at_builtin; refine Lib.wpList_append_run _ rfl _ _ _ _ rfl _ _ rfl rfl _ _ (hrz _) ?_)
  | (at_builtin; refine wpList_copy_runI _ rfl _ _ 70 70 rfl _ _ rfl rfl (hcpA _ hE1 hE2 _ _) ?_)
  | (at_builtin; refine wpList_copy_runI _ rfl _ _ 70 70 rfl _ _ rfl rfl (hcpB _ (fun _=>rfl) (fun _=>rfl) _ _ _) ?_))
 go_region_law_o (refine step_copy_runI rfl _ _ 70 70 rfl (.slice (some ⟨w.heap.size,(i+1)*2,none⟩) (n-i) (G-(i+1))) (.slice (some ⟨b,off+i*2,none⟩) (n-i) (c-i)) (by simp [Act.eval,Act.put]) (by simp [Act.eval,Act.put]) (hcpB _ hF1 hF2 3 (G-(i+1)) (c-i)) ?_)
 go_wp2
 go_ret
 exact ⟨rfl,rfl⟩
theorem aph (l:List Ent) (x:Ent) (i:Nat) (hi:i≤l.length) (hbig:(l.length+1)*24≤140737488355328) :
  bC Tryz.prog 134 [.own 2 (l.map Ent.row),.int .i64 i,.own 2 [Ent.row x]] (.own 2 ((l.take i++x::l.drop i).map Ent.row)) [.undef,.undef,.undef]:=by
 have hr6:∀ r ∈ l.map Ent.row,r.length=2:=fun r hr=>by obtain ⟨x,_,rfl⟩:=lV1.1 hr; rfl
 have hkn:(l.map Ent.row).flatten.all fG=true:=by
  rw [lW]
  intro t ht
  obtain ⟨r,hr,ht⟩:=List.mem_flatten.1 ht
  obtain ⟨x,_,rfl⟩:=lV1.1 hr
  exact lW.1 (show (Ent.row x).all fG=true from rfl) t ht
 have hl:(l.map Ent.row).length=l.length:=lJ1 _
 rw [show (l.take i++x::l.drop i).map Ent.row=(l.map Ent.row).take i++Ent.row x::(l.map Ent.row).drop i by simp]
 exact aqX (s:=2) (B:=24) (el:=97) (Z:=.agg #[.string { data:=#[] },.int .i64 0]) ⟨_,Tryz.func134,by kernel_rfl,by kernel_rfl⟩ (by decide) (by decide) rfl apo ao9 apa apx _ _ i hr6 rfl hkn rfl (by omega) (by rw [hl]; exact hbig)
end
theorem aqk (e:Ent) (D:Inode) (n:aA):bC Tryz.prog 133 [e.x,.xbox (aoT D n)] (.bool (decide (n<e.name))) [.undef,.undef]:=by
 unfold aoT
 refine U apk [] 15 [] fun w hP hQ=>?_
 unfold aoY
 refine N ?_
 have hz:=ad1
 refine Nz ?_
 rw [ajh,Bool.not_not]
theorem aqN (t:Tab) (D:Inode) (n:aA) (j:Int) {k:Nat} (h:t.sz<2^30) (hD:D.sz<2^30) (hn:n.length<2^30) (hu:UpI t.inodes) (hk:b9 t D.ino=some k) :
  bC Tryz.prog 71 [aoS D n,t.x,.int .i64 j] (aG t (c5 D n j)).o [.undef,.undef,.undef]:=by
 obtain ⟨h1,h2,h3⟩:=dU hD
 have hz:=ad3 D n j
 have hS:=ajf t (c5 D n j) (by omega) (by omega) hu hk
 have hI:=aje (fun v=>aqk v D n) D.ents (by omega)
 have hC:=akZ D.ents (by omega)
 unfold aoS
 cases e:D.ents.findIdx? (fun e=>decide (n<e.name)) with
 | none=>
  have hPP:dD D.ents ⟨n,j⟩=D.ents.take D.ents.length++⟨n,j⟩::D.ents.drop D.ents.length:=aqD (key:=Ent.name) (e:=⟨n,j⟩) e
  have hIn:=aph D.ents ⟨n,j⟩ D.ents.length (lR1 _) (by omega)
  rw [← hPP] at hIn
  rw [e,show abP none=(-1:Int) from rfl] at hI
  refine U ao6 [(134,[.m,.b,.m],[])] 223 [] fun w hP hQ=>?_
  unfold z7
  refine N ?_
  refine K (hI) ?_
  refine K (hC) ?_
  refine K (hIn) ?_
  exact K (hS) trivial
 | some i=>
  have hPP:i<D.ents.length∧dD D.ents ⟨n,j⟩=D.ents.take i++⟨n,j⟩::D.ents.drop i:=aqC (key:=Ent.name) (e:=⟨n,j⟩) e
  have hIn:=aph D.ents ⟨n,j⟩ i (by omega) (by omega)
  rw [← hPP.2] at hIn
  rw [e,show abP (some i)=(i:Int) from rfl] at hI
  have g:decide (((i:Nat):Int)<0)=false:=lB (by omega)
  refine U ao6 [(134,[.m,.b,.m],[])] 223 [] fun w hP hQ=>?_
  unfold z7
  refine N ?_
  have hz:=g
  refine Kz (hI) ?_
  refine K (hC) ?_
  refine K (hIn) ?_
  exact K (hS) trivial
theorem aqU {t:Tab} {s:aA} {c:Int} (h:eN t s=.error c):c≠0:=by
 unfold eN at h
 split at h
 ·split at h
  ·cases h
  ·cases h; decide
 ·rename_i e3; cases h; exact mP e3
theorem apP {s:aA} (h:jA s=true):gT s=true∧decide (s=[47])=false:=by
 rw [aow] at h
 cases h1:gT s <;> cases h2:decide (s=[47]) <;> rw [h1,h2] at h <;> first | exact ⟨rfl,rfl⟩ | cases h
theorem apQ (t:Tab) (p q:aA) (h:t.sz<2^28) (hp:p.length<2^40) (hq:q.length<2^40):bC Tryz.prog 18 [t.x,.str p,.str q] (.tup [(n6 t p q).1.o,.int .i64 (n6 t p q).2]) [.undef,.undef,.undef]:=by
 have h':t.sz<2^40:=by omega
 have hC:=agL t h'
 have hR:=aoh t [p,q] h' (by simp) (by simp; omega)
 have hSp:=aow p
 have hSq:=aow q
 simp only [lO4,List.all_nil,Bool.and_true,lP,lA2,dB] at hR
 by_cases hc:bJ t=true∧jA p=true∧jA q=true
 ·obtain ⟨hB,hpb,hqb⟩:=hc
  obtain ⟨hpp,hnp⟩:=apP hpb
  obtain ⟨hqp,hnq⟩:=apP hqb
  rw [hpp,hqp,hB] at hR
  have hW:=am2 t p h' hp
  cases hX:cJ t p with
  | error c=>
   have hc:decide (c=0)=false:=lB (mP hX)
   have e:n6 t p q=(t,c):=by rw [n6,lG ⟨hB,hpb,hqb⟩,hX]
   rw [hX] at hW
   rw [e]
   simp only [exI,exC] at hW
   refine U kG [] 6095 [] fun w hP hQ=>?_
   unfold kE
   refine N ?_
   refine K (hC) ?_
   have hz:=And.intro hnp hnq
   refine Kz (hR) ?_
   (first|refine cI hP (hW) rfl rfl ?_|refine cH hP (hW) rfl rfl ?_)
   have hz:=hc
   refine Nz ?_
   all_goals first|exact trivial|rfl|exact ⟨rfl,rfl⟩
  | ok X=>
   have e0:n6 t p q=if aam p q=true then (t,6) else (match wO t q (exI (eN t p)).ino with
    | .ok D=>(kI t (exI (eN t p)) D (aW p) (aW q) X.ino,0)
    | .error c=>(t,c)):=by rw [n6,lG ⟨hB,hpb,hqb⟩,hX]; rfl
   have hL:=aqd p q hp hq
   rw [hX] at hW
   simp only [exI,exC] at hW
   rw [e0]
   cases hb:aam p q with
   | true=>
    rw [hb] at hL
    rw [lG rfl]
    refine U kG [] 6095 [] fun w hP hQ=>?_
    unfold kE
    refine N ?_
    refine K (hC) ?_
    have hz:=And.intro hnp hnq
    refine Kz (hR) ?_
    refine K (hW) ?_
    (first|refine cI hP (hL) rfl rfl ?_|refine cH hP (hL) rfl rfl ?_)
    refine N ?_
    all_goals first|exact trivial|rfl|exact ⟨rfl,rfl⟩
   | false=>
    rw [hb] at hL
    rw [lJ (by simp)]
    obtain ⟨D1,d1⟩:=afo hB hpb hX
    have hO:=an9 t p h' hp
    rw [d1] at hO
    simp only [exI,exC,exN] at hO
    unfold aov at hO
    have hN:=an9 t q h' hq
    have ht:=(aV t).1 hB
    have zD1:=(cZ h).2 D1 (q7 d1)
    rw [d1]
    simp only [exI]
    cases hD:eN t q with
    | error c=>
     have hc:decide (c=0)=false:=lB (aqU hD)
     rw [hD] at hN
     simp only [exI,exC,exN] at hN
     unfold aov at hN
     rw [wO,hD]
     refine U kG [] 6095 [] fun w hP hQ=>?_
     unfold kE
     refine N ?_
     refine K (hC) ?_
     have hz:=And.intro hnp hnq
     refine Kz (hR) ?_
     refine K (hW) ?_
     refine K (hL) ?_
     refine K (hO) ?_
     (first|refine cI hP (hN) rfl rfl ?_|refine cH hP (hN) rfl rfl ?_)
     have hz:=hc
     refine Nz ?_
     all_goals first|exact trivial|rfl|exact ⟨rfl,rfl⟩
    | ok D2=>
     have hm:=q7 hD
     have zD:=(cZ h).2 D2 hm
     have hE:=ak7 D2 (aW q) (by omega)
     have hel:=(bQ ht hm).len
     rw [hD] at hN
     simp only [exI,exC,exN] at hN
     unfold aov at hN
     by_cases g0:bB D2 (aW q)=0
     ·have g0':bB D2 (aJ q).2.1=0:=g0
      rw [g0] at hE
      by_cases g1:D2.ents.length<10∨D2.ino=D1.ino
      ·have hNew:wO t q D1.ino=.ok D2:=by rw [wO,hD]; simp only; rw [lG g0',lG g1]
       obtain ⟨D1',k,k1,k2,k3,k4,k5,k6,k7,k8,k9⟩:=anb hB hpb hqb hX hb (by rw [d1]; exact hNew)
       rw [d1] at k1
       cases k1
       rw [hNew]
       simp only
       rw [kI]
       have z1:=v6 D1 (aW p)
       have z2:=n8 t (cF D1 (aW p))
       have z3:=ad3 (fZ D1 D2 (aW p)) (aW q) X.ino
       have z4:=(fN q).2
       have z5:=(fN q).1
       obtain ⟨kD1,hkD1⟩:=pB (f0 ht (q7 d1))
       have hL1:=aqF t D1 (aW p) h' (by omega) (g9 hB) hkD1
       have hI:=oY (aG t (cF D1 (aW p))) D2.ino (by omega)
       have e2:aC (aG t (cF D1 (aW p))) D2.ino=some (fZ D1 D2 (aW p)):=by
        have:=(pV k3).2
        have e3:(fZ D1 D2 (aW p)).ino=D2.ino:=by
         unfold fZ; split
         ·rename_i e; exact e
         ·rfl
        rw [e3] at this; exact this
       rw [adU,e2] at hI
       simp only [lY,lQ2] at hI
       have hL2:=aqN (aG t (cF D1 (aW p))) (fZ D1 D2 (aW p)) (aW q) X.ino (by omega) (by omega) (by omega) k5 k4
       unfold aoS at hL1 hL2
       by_cases g2:D2.ents.length<10
       ·have g2':decide (((D2.ents.length:Nat):Int)=10)=false:=lB (by omega)
        refine U kG [] 6095 [] fun w hP hQ=>?_
        unfold kE
        refine N ?_
        refine K (hC) ?_
        have hz:=And.intro hnp hnq
        refine Kz (hR) ?_
        refine K (hW) ?_
        refine K (hL) ?_
        refine K (hO) ?_
        refine K (hN) ?_
        have hz:=g2'
        refine Kz (hE) ?_
        refine K (hL1) ?_
        refine K (hI) ?_
        (first|refine cI hP (hL2) rfl rfl ?_|refine cH hP (hL2) rfl rfl ?_)
        refine N ?_
        all_goals first|exact trivial|rfl|exact ⟨rfl,rfl⟩
       ·have g2':decide (((D2.ents.length:Nat):Int)=10)=true:=lE (by omega)
        have g3':decide (D2.ino=D1.ino)=true:=lE (g1.resolve_left g2)
        refine U kG [] 6095 [] fun w hP hQ=>?_
        unfold kE
        refine N ?_
        refine K (hC) ?_
        have hz:=And.intro hnp hnq
        refine Kz (hR) ?_
        refine K (hW) ?_
        refine K (hL) ?_
        refine K (hO) ?_
        refine K (hN) ?_
        have hz:=And.intro g2' g3'
        refine Kz (hE) ?_
        refine K (hL1) ?_
        refine K (hI) ?_
        (first|refine cI hP (hL2) rfl rfl ?_|refine cH hP (hL2) rfl rfl ?_)
        refine N ?_
        all_goals first|exact trivial|rfl|exact ⟨rfl,rfl⟩
      ·have g2':decide (((D2.ents.length:Nat):Int)=10)=true:=lE (by have:¬ D2.ents.length<10:=fun e=>g1 (.inl e); omega)
       have g3':decide (D2.ino=D1.ino)=false:=lB fun e=>g1 (.inr e)
       have hNew:wO t q D1.ino=.error 5:=by rw [wO,hD]; simp only; rw [lG g0',lJ g1]
       rw [hNew]
       simp only
       refine U kG [] 6095 [] fun w hP hQ=>?_
       unfold kE
       refine N ?_
       refine K (hC) ?_
       have hz:=And.intro hnp hnq
       refine Kz (hR) ?_
       refine K (hW) ?_
       refine K (hL) ?_
       refine K (hO) ?_
       refine K (hN) ?_
       (first|refine cI hP (hE) rfl rfl ?_|refine cH hP (hE) rfl rfl ?_)
       have hz:=And.intro g2' g3'
       refine Nz ?_
       all_goals first|exact trivial|rfl|exact ⟨rfl,rfl⟩
     ·have g0':decide (bB D2 (aW q)=0)=false:=lB g0
      have hNew:wO t q D1.ino=.error 4:=by rw [wO,hD]; simp only; rw [lJ (show ¬ bB D2 (aJ q).2.1=0 from g0)]
      rw [hNew]
      simp only
      refine U kG [] 6095 [] fun w hP hQ=>?_
      unfold kE
      refine N ?_
      refine K (hC) ?_
      have hz:=And.intro hnp hnq
      refine Kz (hR) ?_
      refine K (hW) ?_
      refine K (hL) ?_
      refine K (hO) ?_
      refine K (hN) ?_
      (first|refine cI hP (hE) rfl rfl ?_|refine cH hP (hE) rfl rfl ?_)
      have hz:=g0'
      refine Nz ?_
      all_goals first|exact trivial|rfl|exact ⟨rfl,rfl⟩
 ·have e:n6 t p q=(t,1):=by rw [n6,lJ hc]
  rw [e]
  cases hpq:(gT p && gT q && bJ t) with
  | false=>
   rw [hpq] at hR
   refine U kG [] 6095 [] fun w hP hQ=>?_
   unfold kE
   refine N ?_
   refine K (hC) ?_
   (first|refine cI hP (hR) rfl rfl ?_|refine cH hP (hR) rfl rfl ?_)
   refine N ?_
   all_goals first|exact trivial|rfl|exact ⟨rfl,rfl⟩
  | true=>
   rw [hpq] at hR
   simp only [lM] at hpq
   rw [hpq.1.1] at hSp
   rw [hpq.1.2] at hSq
   cases hnp:decide (p=[47]) with
   | true=>
    refine U kG [] 6095 [] fun w hP hQ=>?_
    unfold kE
    refine N ?_
    refine K (hC) ?_
    (first|refine cI hP (hR) rfl rfl ?_|refine cH hP (hR) rfl rfl ?_)
    have hz:=hnp
    refine Nz ?_
    all_goals first|exact trivial|rfl|exact ⟨rfl,rfl⟩
   | false=>
    have hnq:decide (q=[47])=true:=by
     cases e:decide (q=[47]) with
     | true=>rfl
     | false=>
      rw [e] at hSq
      rw [hnp] at hSp
      exact absurd ⟨hpq.2,hSp,hSq⟩ hc
    refine U kG [] 6095 [] fun w hP hQ=>?_
    unfold kE
    refine N ?_
    refine K (hC) ?_
    (first|refine cI hP (hR) rfl rfl ?_|refine cH hP (hR) rfl rfl ?_)
    have hz:=And.intro hnp hnq
    refine Nz ?_
    all_goals first|exact trivial|rfl|exact ⟨rfl,rfl⟩
theorem aqO {t:Tab} (h:bJ t=true):(kC t).length≤300:=by
 have ht:=(aV t).1 h
 obtain ⟨r,r1,r2,r3⟩:=eM ht
 have few:(oF t 30 r []).length≤300:=by rw [wD ht _ r r3,lJ1]; exact aco ht r3 _
 rw [afq ht r1] at few
 rw [kC,List.length_mergeSort]; exact few
theorem aqV {t:Tab} (h:bJ t=true) {s:aA} (hs:s ∈ kC t):s.length≤450:=by
 have ht:=(aV t).1 h
 refine ajt ht ?_
 rw [kC,(List.mergeSort_perm _ _).mem_iff] at hs
 exact hs
section
variable {t:Tab}
structure Made (t:Tab) (s:aA) (k:Int) (D:Inode) (u:Tab):Prop where
 tr:TreeOk t
 tree:TreeOk u
 sub:jA s=true
 new:wO t s 0=.ok D
 next:u.next=t.next+1
 walk':∀ l,aQ (aC u) l 1=if l=(aB s).1 then some t.next else aQ (aC t) l 1
 ino':∀ i,aC u i=if i=t.next then some (aap t.next k) else if i=D.ino then some (c5 D (aW s) t.next) else aC t i
 none':aC t t.next=none
 usage':aqx u=aqx t+32
variable {s:aA} {k:Int} {D:Inode} {u:Tab}
theorem Made.ne (m:Made t s k D u):D.ino≠t.next:=by
 have hDm:=aR (i7 (i8 m.new).1).1
 have:=(m.tr.tab.ok D hDm.1).2
 omega
theorem Made.path (m:Made t s k D u):(aB s).2=true∧(aB s).1≠[]:=vR m.sub
theorem Made.stat (m:Made t s k D u):cJ u s=.ok (aap t.next k):=by
 have hw:aQ (aC u) (aB s).1 1=some t.next:=by rw [m.walk',lG rfl]
 rw [amX m.path.1 hw,m.ino',lG rfl]
end
section
variable {t:Tab}
theorem aqW {s:aA} {f:Int} {c:Int} (h:wO t s f=.error c):c≠0:=by
 unfold wO at h
 split at h
 ·split at h
  ·split at h
   ·cases h
   ·cases h; decide
  ·cases h; decide
 ·rename_i e2
  cases h
  unfold eN at e2
  split at e2
  ·split at e2
   ·cases e2
   ·cases e2; decide
  ·rename_i e3; cases e2; exact mP e3
end
section
variable {t:Tab}
structure Mv (t:Tab) (p q:aA) (X D1 D2:Inode) (u:Tab):Prop where
 tr:TreeOk t
 tree:TreeOk u
 sp:jA p=true
 sq:jA q=true
 stat:cJ t p=.ok X
 spot1:eN t p=.ok D1
 ent:(⟨aW p,X.ino⟩:Ent) ∈ D1.ents
 spot2:eN t q=.ok D2
 free:bB D2 (aW q)=0
 bel:¬ (aB p).1 <+: (aB q).1
 w1:∀ b,aQ (aC u) ((aB q).1++b) 1=aQ (aC t) ((aB p).1++b) 1
 w2:∀ l,¬ (aB q).1 <+: l→aQ (aC u) l 1=if (aB p).1.isPrefixOf l then none else aQ (aC t) l 1
 w3:∀ b,aQ (aC t) ((aB q).1++b) 1=none
 ino':∀ i,aC u i=if i=D2.ino then some (c5 (fZ D1 D2 (aW p)) (aW q) X.ino) else if i=D1.ino then some (cF D1 (aW p)) else aC t i
 next:u.next=t.next
theorem apI {p q:aA} (h:(n6 t p q).2=0):∃ X D1 D2,Mv t p q X D1 D2 (n6 t p q).1:=by
 by_cases hc:bJ t=true∧jA p=true∧jA q=true
 case neg=>rw [n6,lJ hc] at h; exact absurd h (by simp)
 obtain ⟨hB,hp,hq⟩:=hc
 have ht:=(aV t).1 hB
 cases hX:cJ t p with
 | error c=>rw [n6,lG ⟨hB,hp,hq⟩,hX] at h; exact absurd h (mP hX)
 | ok X=>
  by_cases hb:aam p q=true
  ·rw [n6,lG ⟨hB,hp,hq⟩,hX] at h
   simp only at h
   rw [lG hb] at h; exact absurd h (by simp)
  ·have hb':aam p q=false:=by simpa using hb
   cases hD:wO t q (exI (eN t p)).ino with
   | error c=>
    rw [n6,lG ⟨hB,hp,hq⟩,hX] at h
    simp only at h
    rw [lJ hb,hD] at h
    exact absurd h (aqW hD)
   | ok D2=>
    have e:(n6 t p q).1=kI t (exI (eN t p)) D2 (aW p) (aW q) X.ino:=by
     rw [n6,lG ⟨hB,hp,hq⟩,hX]
     simp only
     rw [lJ hb,hD]
    obtain ⟨D1,e1,d1,s1,he,n1,n2,s2,hn,hf,hl,hbb⟩:=aiU ht hp hq hX hb' hD
    obtain ⟨m1,m2,m3,m4,m5⟩:=aiL ht s1 s2 he hn hf hl hbb
    rw [n1] at hbb
    rw [n1,n2] at m1 m2 m3 m5
    rw [d1] at e
    rw [e]
    have p1:=(iG hp).1
    have q1:=(iG hq).1
    rw [← p1,← q1] at hbb
    rw [← p1,← q1] at m3
    refine ⟨X,D1,D2,ht,m1,hp,hq,hX,d1,?_,(i8 hD).1,hf,hbb,fun b=>?_,m3,fun b=>?_,m5,rfl⟩
    ·rw [← n1,← n2]; exact he
    ·have:=m2 b
     rw [p1,q1,lG2,lG2]
     exact this
    ·have:=m4 b
     rw [q1,lG2]
     exact this
variable {p q:aA} {X D1 D2:Inode} {u:Tab}
theorem Mv.wX (m:Mv t p q X D1 D2 u):aQ (aC t) (aB p).1 1=some X.ino:=(vS m.stat).2
theorem Mv.bel' (m:Mv t p q X D1 D2 u) {l:List aA} (h:(aQ (aC t) l 1).isSome=true):¬ (aB q).1 <+: l:=by
 rintro ⟨b,rfl⟩
 rw [m.w3] at h
 cases h
theorem Mv.le (m:Mv t p q X D1 D2 u):(kC t).length≤(kC u).length:=by
 obtain ⟨p1,p2⟩:=vR m.sp
 obtain ⟨q1,q2⟩:=vR m.sq
 refine apu m.tr m.tree (f:=fun l=>if (aB p).1.isPrefixOf l=true then (aB q).1++l.drop (aB p).1.length else l) (fun l hl hw=>?_) (fun l k hl hk h=>?_)
 ·skip
  split
  ·rename_i e
   obtain ⟨b,rfl⟩:=lT2.1 e
   rw [List.drop_left,m.w1]
   exact ⟨by simp [q2],hw⟩
  ·rename_i e
   rw [m.w2 _ (m.bel' hw),lJ e]
   exact ⟨hl,hw⟩
 ·skip
  split at h <;> rename_i e1
  ·obtain ⟨b,rfl⟩:=lT2.1 e1
   rw [List.drop_left] at h
   split at h <;> rename_i e2
   ·obtain ⟨c,rfl⟩:=lT2.1 e2
    rw [List.drop_left] at h
    rw [List.append_cancel_left h]
   ·exact absurd ⟨b,h⟩ (m.bel' hk)
  ·split at h <;> rename_i e2
   ·obtain ⟨c,rfl⟩:=lT2.1 e2
    rw [List.drop_left] at h
    exact absurd ⟨c,h.symm⟩ (m.bel' hl)
   ·exact h
theorem Mv.path (m:Mv t p q X D1 D2 u) {s:aA} (hs:s ∈ kC t):(if aam p s=true then q++s.drop p.length else s) ∈ kC u:=by
 obtain ⟨p1,p2⟩:=vR m.sp
 obtain ⟨q1,q2⟩:=vR m.sq
 obtain ⟨x,x1,x2,x3,x4,x5⟩:=apN m.tr hs
 have hw:(aQ (aC t) (aB s).1 1).isSome=true:=by rw [x3]; rfl
 have es:=ao2 x1 x2
 have hb:=aiT (p:=p) (q:=s) p1 x1
 split <;> rename_i e
 ·obtain ⟨b,hb2⟩:=hb.1 e
  rw [p3 m.tree]
  refine ⟨(aB q).1++b,by simp [q2],?_,?_⟩
  ·rw [ao1,ao2 q1 q2,← es,← hb2,ao1,ao2 p1 p2,List.drop_left]
  ·rw [m.w1,hb2]; exact hw
 ·rw [p3 m.tree]
  refine ⟨(aB s).1,x2,es.symm,?_⟩
  rw [m.w2 _ (m.bel' hw),lJ]
  ·exact hw
  ·intro e2
   exact e (hb.2 (lT2.1 e2))
theorem Mv.gone (m:Mv t p q X D1 D2 u):p ∉ kC u:=by
 intro h
 obtain ⟨x,x1,x2,x3,x4,x5⟩:=apN m.tree h
 rw [m.w2 _ (m.bel' (by rw [m.wX]; rfl)),lG (lT2.2 (List.prefix_refl _))] at x3
 cases x3
theorem Mv.ne (m:Mv t p q X D1 D2 u):X.ino≠D1.ino∧X.ino≠D2.ino:=by
 have s1:=gU m.spot1
 have s2:=gU m.spot2
 constructor
 ·intro e
  have:=pT m.tr _ _ _ D1 (f0 m.tr s1.mem) (nW m.tr s1.mem s1.kind) s1.at' (by rw [← e]; exact m.wX)
  rw [(iG m.sp).1] at this
  have:=congrArg List.length this
  simp at this
 ·intro e
  have:=pT m.tr _ _ _ D2 (f0 m.tr s2.mem) (nW m.tr s2.mem s2.kind) s2.at' (by rw [← e]; exact m.wX)
  refine m.bel ?_
  rw [← this,(iG m.sq).1]
  exact ⟨_,rfl⟩
theorem Mv.statq (m:Mv t p q X D1 D2 u):cJ u q=.ok X:=by
 have:=m.w1 []
 rw [lP2,lP2,m.wX] at this
 rw [amX (vR m.sq).1 this,m.ino',lJ m.ne.2,lJ m.ne.1,(aR m.stat).2]
theorem apd (D1 D2:Inode) (n:aA):(fZ D1 D2 n).ino=D2.ino:=by
 unfold fZ; split
 ·rename_i e; exact e
 ·rfl
theorem Mv.kinds (m:Mv t p q X D1 D2 u):D1.kind=2∧D2.kind=2∧(fZ D1 D2 (aW p)).kind=2:=by
 have k1:=(i7 m.spot1).2
 have k2:=(i7 m.spot2).2
 refine ⟨k1,k2,?_⟩
 unfold fZ; split
 ·exact k1
 ·exact k2
theorem Mv.spotq (m:Mv t p q X D1 D2 u):eN u q=.ok (c5 (fZ D1 D2 (aW p)) (aW q) X.ino):=by
 have s2:=gU m.spot2
 have hq:¬ (aB q).1 <+: (aB (aJ q).1).1:=by
  rw [(iG m.sq).1]
  intro e
  have:=e.length_le
  simp at this
  omega
 have hp:¬ (aB p).1.isPrefixOf (aB (aJ q).1).1=true:=by
  intro e
  refine m.bel ?_
  rw [(iG m.sq).1]
  exact List.IsPrefix.trans (lT2.1 e) ⟨_,rfl⟩
 have hw:aQ (aC u) (aB (aJ q).1).1 1=some D2.ino:=by rw [m.w2 _ hq,lJ hp]; exact s2.at'
 rw [eN,amX (iG m.sq).2.1 hw,m.ino',lG rfl]
 simp only
 rw [lG (by exact m.kinds.2.2)]
def apJ (D1 D2:Inode) (n1 n2:aA) (j:Int):Inode:=if D1.ino=D2.ino then c5 (cF D1 n1) n2 j else cF D1 n1
theorem apq (D1 D2:Inode) (n1 n2:aA) (j:Int):(apJ D1 D2 n1 n2 j).ino=D1.ino:=by
 unfold apJ; split <;> rfl
theorem Mv.spotp (m:Mv t p q X D1 D2 u):eN u p=.ok (apJ D1 D2 (aW p) (aW q) X.ino):=by
 have s1:=gU m.spot1
 have hq:¬ (aB q).1 <+: (aB (aJ p).1).1:=m.bel' (by rw [s1.at']; rfl)
 have hp:¬ (aB p).1.isPrefixOf (aB (aJ p).1).1=true:=by
  intro e
  have:=(lT2.1 e).length_le
  rw [(iG m.sp).1] at this
  simp at this
  omega
 have hw:aQ (aC u) (aB (aJ p).1).1 1=some D1.ino:=by rw [m.w2 _ hq,lJ hp]; exact s1.at'
 have hb:aC u D1.ino=some (apJ D1 D2 (aW p) (aW q) X.ino):=by
  rw [m.ino',apJ]
  by_cases e:D1.ino=D2.ino
  ·rw [lG e,lG e,fZ,lG e]
  ·rw [lJ e,lJ e,lG rfl]
 rw [eN,amX (iG m.sp).2.1 hw,hb]
 simp only
 have:(apJ D1 D2 (aW p) (aW q) X.ino).kind=2:=by
  unfold apJ; split <;> exact m.kinds.1
 rw [lG (by exact this)]
theorem Mv.same (m:Mv t p q X D1 D2 u) (e:D1.ino=D2.ino):D1=D2:=by
 have h1:=(aR (i7 m.spot1).1).2
 have h2:=(aR (i7 m.spot2).1).2
 rw [e,h2] at h1
 injection h1 with h1
 exact h1.symm
theorem Mv.up1 (m:Mv t p q X D1 D2 u):UpK Ent.name D1.ents:=(bQ m.tr (aR (i7 m.spot1).1).1).up
theorem Mv.noq (m:Mv t p q X D1 D2 u):∀ e ∈ D2.ents,e.name≠aW q:=(adE (pS m.tr (aR (i7 m.spot2).1).1)).1 m.free
theorem Mv.back (m:Mv t p q X D1 D2 u):n6 u q p=(t,0):=by
 have hBu:=(aV u).2 m.tree
 have d1m:=aR (i7 m.spot1).1
 have d2m:=aR (i7 m.spot2).1
 have hnb:¬ aam q p=true:=by
  intro e
  exact m.bel' (by rw [m.wX]; rfl) ((aiT (vR m.sq).1 (vR m.sp).1).1 e)
 have hnew:wO u p (exI (eN u q)).ino=.ok (apJ D1 D2 (aW p) (aW q) X.ino):=by
  rw [wO,m.spotp,m.spotq]
  have e0:(aJ p).2.1=aW p:=rfl
  simp only
  have c1:bB (cF D1 (aW p)) (aW p)=0:=by
   rw [show cF D1 (aW p)={ D1 with ents:=cY D1.ents (aW p) } from rfl,nZ,lG rfl]
  have h1:bB (apJ D1 D2 (aW p) (aW q) X.ino) (aW p)=0:=by
   unfold apJ
   split
   ·rename_i e
    have e2:=m.same e
    have hnn:aW p≠aW q:=fun e3=>by
     have:=m.noq _ (by rw [← e2]; exact m.ent)
     exact this e3
    have:=j9 (x:=cF D1 (aW p)) (rX m.up1 _) (n:=aW q) (j:=X.ino) (fun f hf=>m.noq f (by rw [← e2]; exact (mem_cutK.1 hf).1)) (aW p)
    rw [lJ hnn,c1] at this
    exact this
   ·exact c1
  rw [e0,lG h1]
  rw [lG]
  rw [apq]
  by_cases e:D1.ino=D2.ino
  ·right
   show D1.ino=(fZ D1 D2 (aW p)).ino
   rw [apd]; exact e
  ·left
   rw [apJ,lJ e]
   have:(aiI Ent.name D1.ents (aW p)).length+1=D1.ents.length:=akM m.up1 m.ent
   have:=(bQ m.tr d1m.1).len
   show (aiI Ent.name D1.ents (aW p)).length<10
   omega
 have hop:n6 u q p=(kI u (c5 (fZ D1 D2 (aW p)) (aW q) X.ino) (apJ D1 D2 (aW p) (aW q) X.ino) (aW q) (aW p) X.ino,0):=by
  rw [n6,lG ⟨hBu,m.sq,m.sp⟩,m.statq]
  simp only
  rw [lJ hnb,hnew,m.spotq]
  rfl
 have hT:=adL hBu q p
 rw [hop] at hT ⊢
 have hup:=((aV _).1 hT).tab.up
 have e1:c5 (cF D1 (aW p)) (aW p) X.ino=D1:=by
  have:dD (cY D1.ents (aW p)) ⟨aW p,X.ino⟩=D1.ents:=aiJ (key:=Ent.name) m.up1 (e:=⟨aW p,X.ino⟩) m.ent
  show ({ D1 with ents:=dD (cY D1.ents (aW p)) ⟨aW p,X.ino⟩ }:Inode)=D1
  rw [this]
 have e2:∀ D:Inode,(∀ e ∈ D.ents,e.name≠aW q)→cF (c5 D (aW q) X.ino) (aW q)=D:=by
  intro D h
  have:cY (dD D.ents ⟨aW q,X.ino⟩) (aW q)=D.ents:=aqQ (key:=Ent.name) (e:=⟨aW q,X.ino⟩) h
  show ({ D with ents:=cY (dD D.ents ⟨aW q,X.ino⟩) (aW q) }:Inode)=D
  rw [this]
 have key:kI u (c5 (fZ D1 D2 (aW p)) (aW q) X.ino) (apJ D1 D2 (aW p) (aW q) X.ino) (aW q) (aW p) X.ino=t:=by
  refine amP hup m.tr.tab.up m.next fun i=>?_
  rw [kI,cC (f4 m.tree.tab.up _),cC m.tree.tab.up]
  have i1:(cF (c5 (fZ D1 D2 (aW p)) (aW q) X.ino) (aW q)).ino=D2.ino:=apd D1 D2 (aW p)
  have i2:(c5 (fZ (c5 (fZ D1 D2 (aW p)) (aW q) X.ino) (apJ D1 D2 (aW p) (aW q) X.ino) (aW q)) (aW p) X.ino).ino=D1.ino:=by
   show (fZ _ (apJ D1 D2 (aW p) (aW q) X.ino) (aW q)).ino=_
   rw [apd,apq]
  rw [i1,i2]
  by_cases e:D1.ino=D2.ino
  ·have e3:=m.same e
   have f1:fZ D1 D2 (aW p)=cF D1 (aW p):=by rw [fZ,lG e]
   have f2:fZ (c5 (fZ D1 D2 (aW p)) (aW q) X.ino) (apJ D1 D2 (aW p) (aW q) X.ino) (aW q)=cF D1 (aW p):=by
    rw [fZ,lG (by rw [apq]; exact (apd D1 D2 (aW p)).trans e.symm),f1]
    exact e2 _ fun g hg=>m.noq g (by rw [← e3]; exact (mem_cutK.1 hg).1)
   rw [f2,e1]
   by_cases c1:D1.ino=i
   ·rw [lG c1,← c1,d1m.2]
   ·rw [lJ c1,lJ (by rw [← e]; exact c1),m.ino',lJ (by rw [← e]; exact fun h=>c1 h.symm),lJ (fun h=>c1 h.symm)]
  ·have f1:fZ D1 D2 (aW p)=D2:=by rw [fZ,lJ e]
   have f2:fZ (c5 (fZ D1 D2 (aW p)) (aW q) X.ino) (apJ D1 D2 (aW p) (aW q) X.ino) (aW q)=cF D1 (aW p):=by
    rw [fZ,lJ (by rw [apq]; exact fun h=>e (((apd D1 D2 (aW p)).symm.trans h).symm)),apJ,lJ e]
   rw [f2,e1,f1,e2 _ m.noq]
   by_cases c1:D1.ino=i
   ·rw [lG c1,← c1,d1m.2]
   ·rw [lJ c1]
    by_cases c2:D2.ino=i
    ·rw [lG c2,← c2,d2m.2]
    ·rw [lJ c2,m.ino',lJ (fun h=>c2 h.symm),lJ (fun h=>c1 h.symm)]
 rw [key]
theorem aqY {p q:aA} (h:(n6 t p q).2=0):bJ t=true∧bJ (n6 t p q).1=true∧(∀ s ∈ kC t,(if aam p s=true then q++s.drop p.length else s) ∈ kC (n6 t p q).1) ∧
  p ∉ kC (n6 t p q).1∧(kC (n6 t p q).1).length=(kC t).length∧n6 (n6 t p q).1 q p=(t,0):=by
 obtain ⟨X,D1,D2,m⟩:=apI h
 generalize (n6 t p q).1=u at *
 have hb:=m.back
 refine ⟨(aV t).2 m.tr,(aV u).2 m.tree,fun s hs=>m.path hs,m.gone,?_,hb⟩
 have h1:=m.le
 obtain ⟨X',E1,E2,m'⟩:=apI (t:=u) (p:=q) (q:=p) (by rw [hb])
 rw [hb] at m'
 have h2:(kC u).length≤(kC t).length:=m'.le
 omega
end
theorem apR (v:Value) (b:aA) (hl:b.length<2^48):∃ (t:Tab) (p q:aA),t.sz<2^28∧p.length≤460∧q.length≤460∧bC Tryz.prog 41 [.extv v 1 (aO b)] (.tup [t.o,.str p,.str q]) [.undef]:=by
 obtain ⟨h0,k0⟩:=aox v b hl
 obtain ⟨t,i1,h1,ht,hi1,k1⟩:=aqT v b 0 h0 hl (by omega)
 obtain ⟨p,i2,h2,hp,hi2,k2⟩:=ali v b i1 h1 t hl hi1 (by omega)
 obtain ⟨c,i3,h3,hi3,k3⟩:=aaz v b i2 h2 6 hl hi2 (by omega)
 cases c with
 | true=>
  refine ⟨t,p,p++[47,97],ht,by omega,by simp; omega,?_⟩
  unfold cur at *
  refine U ao5 [(999999,[],[(5,0)]),(74,[.l],[]),(58,[.l,.b],[]),(96,[.l,.b],[]),(90,[.l],[])] 253 [] fun w hP hQ=>?_
  unfold z6
  refine N ?_
  (first | refine aI hP (k0) (.inl ⟨rfl,fun _ hx=>hx⟩) ?_ | refine aF hP (k0) (.inl ⟨rfl,fun _ hx=>hx⟩) ?_)
  refine N ?_
  (first | refine aI hP (k1) (.inl ⟨rfl,fun _ hx=>hx⟩) ?_ | refine aF hP (k1) (.inl ⟨rfl,fun _ hx=>hx⟩) ?_)
  refine N ?_
  (first | refine aI hP (k2) (.inl ⟨rfl,fun _ hx=>hx⟩) ?_ | refine aF hP (k2) (.inl ⟨rfl,fun _ hx=>hx⟩) ?_)
  refine N ?_
  (first | refine aI hP (k3) (.inl ⟨rfl,fun _ hx=>hx⟩) ?_ | refine aF hP (k3) (.inl ⟨rfl,fun _ hx=>hx⟩) ?_)
  exact N trivial
 | false=>
  obtain ⟨q,i4,h4,hq,hi4,k4⟩:=ajs v b i3 h3 hl hi3
  refine ⟨t,p,q,ht,by omega,by omega,?_⟩
  unfold cur at *
  refine U ao5 [(999999,[],[(5,0)]),(74,[.l],[]),(58,[.l,.b],[]),(96,[.l,.b],[]),(90,[.l],[])] 253 [] fun w hP hQ=>?_
  unfold z6
  refine N ?_
  (first | refine aI hP (k0) (.inl ⟨rfl,fun _ hx=>hx⟩) ?_ | refine aF hP (k0) (.inl ⟨rfl,fun _ hx=>hx⟩) ?_)
  refine N ?_
  (first | refine aI hP (k1) (.inl ⟨rfl,fun _ hx=>hx⟩) ?_ | refine aF hP (k1) (.inl ⟨rfl,fun _ hx=>hx⟩) ?_)
  refine N ?_
  (first | refine aI hP (k2) (.inl ⟨rfl,fun _ hx=>hx⟩) ?_ | refine aF hP (k2) (.inl ⟨rfl,fun _ hx=>hx⟩) ?_)
  refine N ?_
  (first | refine aI hP (k3) (.inl ⟨rfl,fun _ hx=>hx⟩) ?_ | refine aF hP (k3) (.inl ⟨rfl,fun _ hx=>hx⟩) ?_)
  refine N ?_
  (first | refine aI hP (k4) (.inl ⟨rfl,fun _ hx=>hx⟩) ?_ | refine aF hP (k4) (.inl ⟨rfl,fun _ hx=>hx⟩) ?_)
  exact N trivial
theorem aqP {p r:aA} (hp:jA p=true) (hb:aam p r=true):p.length≤r.length:=by
 obtain ⟨p1,p2⟩:=vR hp
 have r1:(aB r).2=true:=by
  unfold aam at hb
  simp only [lM] at hb
  exact hb.2.1
 obtain ⟨c,hc⟩:=(aiT p1 r1).1 hb
 have r2:(aB r).1≠[]:=by rw [← hc]; simp [p2]
 rw [← ao2 r1 r2,← hc,ao1,ao2 p1 p2,lT]
 omega
theorem aqB (b:aA) (hf:b.length<2^48):bC Tryz.prog 9 [.ext 1 (aO b)] (.bool true) [.undef]:=by
 refine uM fun a len cap ha=>?_
 generalize hv:Value.slice a len cap=v
 have hB:=aoj (v:=v) (aoU b hf)
 cases hz:decide ((1048576:Int)<(b.length:Nat)) with
 | true=>
  rw [hz] at hB
  refine U ao8 [] 65277 [] fun w hP hQ=>?_
  unfold aoV
  refine N ?_
  exact K (hB) trivial
 | false=>
  rw [hz] at hB
  obtain ⟨t,p,q,ht,hp,hq,k1⟩:=apR v b hf
  have kA:=apQ t p q (by omega) (by omega) (by omega)
  have kB:=acl t p q (by omega) (by omega) (by omega)
  by_cases h0:(n6 t p q).2=0
  ·obtain ⟨r1,r2,r3,r4,r5,r6⟩:=aqY h0
   obtain ⟨_,_,_,mm⟩:=apI h0
   have hsp:=mm.sp
   clear mm
   have z1:=agz r1
   have z2:=agz r2
   have l1:=aqO r1
   have kP:=apE t (by omega)
   have kQ:=apE (n6 t p q).1 (by omega)
   rw [aqe,lG r1] at kP
   rw [aqe,lG r2] at kQ
   have kT:=ajc (n6 t p q).1 (by omega)
   rw [r2] at kT
   have kM:=apQ (n6 t p q).1 q p (by omega) (by omega) (by omega)
   rw [r6] at kM
   have kS:=aok t (by omega)
   rw [h0] at kA kB
   generalize (n6 t p q).1=x at *
   have hpl:∀ s ∈ kC t,s.length≤450:=fun s hs=>aqV r1 hs
   generalize hL:kC t=L at *
   generalize hM:kC x=M at *
   have kN:=apv M p (by omega)
   rw [lB r4] at kN
   have d1:decide ((M.length:Int)=(L.length:Int))=true:=lE (by omega)
   refine U ao8 [] 65277 [] fun w hP hQ=>?_
   unfold aoV
   refine N ?_
   refine K (hB) ?_
   refine K (k1) ?_
   refine K (kA) ?_
   refine K (kB) ?_
   refine K (kP) ?_
   refine K (kQ) ?_
   refine fH [2,13] ?_
   refine N ?_
   refine aT [2,13] (fun i:Nat=>[(12,.int .i64 i)]) (fun i=>i≤L.length) (fun i=>L.length-i) (0) hP hQ (rfl) (by simp) ?_
   rintro i hi w1 hP1 hQ1
   refine N1 ?_
   (first | with_reducible refine cQ _ ?_ ?_ | refine cR _ ?_ ?_) <;> intro g
   ·have hlt:i<L.length:=by omega
    have hmem:L[i] ∈ L:=lO hlt
    have hlen:=hpl _ hmem
    have kBl:=aqd p L[i] (by omega) (by omega)
    have r7:=r3 _ hmem
    have gE:=bG g
    generalize L[i]=r at *
    cases hbl:aam p r with
    | true=>
     have hle:=aqP hsp hbl
     rw [hbl] at kBl r7
     rw [lG rfl] at r7
     have kH:=apv M (q++r.drop p.length) (by omega)
     rw [lE r7] at kH
     have hsl:List.take (((r.length:Nat):Int)-((p.length:Nat):Int)).toNat (List.drop p.length r)=List.drop p.length r:=lD2 (by rw [lE2]; omega)
     have hcat:q.length+(List.drop p.length r).length≤4611686018427387904:=by rw [lE2]; omega
     simp +decide (maxSteps:=9^9) (disch:=omega) only[↓SB0,SX,seval,hQ,hQ1,gE,dB]
     have hz:=And.intro hsl hcat
     refine Kz1 (kBl) ?_
     refine K1 (kH) ?_
     exact ⟨i+1,rfl,by omega,by omega⟩
    | false=>
     rw [hbl] at kBl r7
     rw [lJ (by simp)] at r7
     have kH:=apv M r (by omega)
     rw [lE r7] at kH
     simp +decide (maxSteps:=9^9) (disch:=omega) only[↓SB0,SX,seval,hQ,hQ1,gE,dB]
     refine K1 (kBl) ?_
     refine K1 (kH) ?_
     exact ⟨i+1,rfl,by omega,by omega⟩
   ·refine N1 ?_
    refine K (kM) ?_
    have hz:=d1
    refine Kz (kN) ?_
    refine K (kS) ?_
    exact K (kT) trivial
  ·have hs:=aqy h0
   rw [hs] at kA kB
   have kS:=aok t (by omega)
   have d0:decide ((n6 t p q).2=0)=false:=lB h0
   generalize (n6 t p q).2=c at *
   refine U ao8 [] 65277 [] fun w hP hQ=>?_
   unfold aoV
   refine N ?_
   refine K (hB) ?_
   refine K (k1) ?_
   refine K (kA) ?_
   have hz:=d0
   refine Kz (kB) ?_
   exact K (kS) trivial
section
open Go.Proofs Go.Proofs.YtnfngemnghiehaaGreatDoor
theorem aql:(Rows.fnMovedRow.wf (OpenSpec.ofChange Rows.fnMovedSpec))=true:=by kernel_rfl
theorem aqm:(Tryz.f9.params.all (Tryz.prog.readableRec ·))=true:=by kernel_rfl
theorem aqn:(namedTie Tryz.prog Rows.fnMovedRow.named Rows.fnMovedSpec.vars)=true:=by kernel_rfl
theorem aqo:((Rows.fnMovedRow.stops == []))=true:=by kernel_rfl
theorem aqp:((Rows.fnMovedRow.knobs == []))=true:=by kernel_rfl
theorem aqq:((Rows.fnMovedRow.inPlace == Tryz.prog.inPlace 9))=true:=by kernel_rfl
theorem apV:((Rows.fnMovedRow.unfollowed == Tryz.prog.unfollowed 9))=true:=by kernel_rfl
theorem apW:((Rows.fnMovedRow.recurses == Tryz.prog.recurses 9))=true:=by kernel_rfl
theorem apX:((Rows.fnMovedRow.named == Tryz.prog.varsNamed 9))=true:=by kernel_rfl
theorem apY:((Rows.fnMovedRow.maps == (Tryz.f9.params.toList++Rows.fnMovedSpec.plain.varTypes Tryz.prog).any (Tryz.prog.mapsRec ·)))=true:=by kernel_rfl
theorem apZ:((Rows.fnMovedRow.ifaces == (Tryz.f9.params.toList++Rows.fnMovedSpec.plain.varTypes Tryz.prog).any (Tryz.prog.ifacesRec ·)))=true:=by kernel_rfl
theorem ap0:((Rows.fnMovedRow.mapsOut == Tryz.prog.mapsAmong Tryz.f9.resultTypes.toList))=true:=by kernel_rfl
theorem ap1:((Rows.fnMovedRow.loops == (Tryz.f9.params.toList++Rows.fnMovedSpec.plain.varTypes Tryz.prog).any (Tryz.prog.loopsFrom ·)))=true:=by kernel_rfl
theorem ap2:((Rows.fnMovedRow.wideKeys == (Tryz.f9.params.toList++Rows.fnMovedSpec.plain.varTypes Tryz.prog++Tryz.f9.resultTypes.toList).any (Tryz.prog.wideKeysFrom ·)))=true:=by kernel_rfl
theorem ap3:(Rows.fnMovedSpec.vars.all (Tryz.prog.varReadable ·))=true:=by kernel_rfl
theorem ap4:(Tryz.f9.resultTypes.all (fun t=>Tryz.prog.readableRec t && decide (t<Tryz.prog.types.size)))=true:=by kernel_rfl
theorem ap5:((Rows.fnMovedRow.ifacesOut == Tryz.f9.resultTypes.toList.any (Tryz.prog.ifacesRec ·)))=true:=by kernel_rfl
theorem ap6:((Rows.fnMovedRow.loopsOut == Tryz.f9.resultTypes.toList.any (Tryz.prog.loopsFrom ·)))=true:=by kernel_rfl
theorem ap7:((Rows.fnMovedRow.plainKeys == Tryz.prog.plainKeys))=true:=by kernel_rfl
theorem ap8:(Rows.fnMovedRow.shortTexts.isNone)=true:=by kernel_rfl
theorem ap9:((Rows.fnMovedRow.kinds == (if Rows.fnMovedRow.domain.isEmpty then [] else Tryz.f9.params.toList.map fun t=>match Tryz.prog.underlying t with | some (.int k)=>some k | _=>none)))=true:=by kernel_rfl
theorem aqa:((Rows.fnMovedRow.pinned == Rows.fnMovedRow.pinnedBy))=true:=by kernel_rfl
theorem aqb:((Rows.fnMovedRow.veiled == (Tryz.f9.params.toList++Rows.fnMovedSpec.plain.varTypes Tryz.prog++Tryz.f9.resultTypes.toList).any (Tryz.prog.veiledRec ·)))=true:=by kernel_rfl
theorem aqc:(Rows.fnMovedRow.veiledFits Tryz.prog Tryz.f9.params.toList (Tryz.f9.params.toList++Rows.fnMovedSpec.plain.varTypes Tryz.prog++Tryz.f9.resultTypes.toList))=true:=by kernel_rfl
theorem aqr:joinedFacts Tryz.prog 9 Tryz.f9 Rows.fnMovedSpec Rows.fnMovedRow=true:=
 anX aql aoL aoM aqm aqn aqo aoB aqp aoC aqq apV apW apX apY apZ ap0 ap1 ap2 ap3 ap4 ap5 ap6 ap7 ap8 aoD aoE aoF aoN ap9 aqa aqb aqc
theorem apS (os:Os) (started:os.Started) (H:Type) (enc:TypeId × Value→H) :
  ReturnsInHanded {} Tryz.checked os 9 .any (fun w args=>(Rows.fnMovedSpec.pre enc Tryz.prog Tryz.f9 [] false w args∧laidMetH Tryz.prog Rows.fnMovedRow.laid w)∧sizedMet enc Tryz.prog Tryz.f9 (OpenSpec.ofChange Rows.fnMovedSpec) false w args) (Rows.fnMovedSpec.post enc Tryz.prog Tryz.f9 false true false false):=by
 refine law_laid (X:=fun w _=>laidMetH Tryz.prog Rows.fnMovedRow.laid w) (fun _ _ _ hh h=>h.of_heap hh) (C:=Tryz.checked) (pars:=[(false,[.sl 1 [.int .u8]])]) own started (by kernel_rfl) Tryz.func9
  (ChangeSpec.witness_shaped (enc:=enc) (C:=Tryz.checked) (os:=os) (X:=fun w _=>laidMetH Tryz.prog Rows.fnMovedRow.laid w) false (World.laidAll Tryz.prog os Rows.fnMovedRow.laid) #[.slice none 0 0] 8 (World.laidAll_os _ _ _) (World.shaped_of_RefB (by kernel_rfl) (by kernel_rfl)) (by kernel_rfl) (by kernel_rfl) (by kernel_rfl) (aof _ (by kernel_rfl) (by kernel_rfl) (by kernel_rfl)))
  rfl (by kernel_rfl) rfl (by kernel_rfl) ?_ ?_
 ·intro ds hd
  match ds,hd with
  | [d0],_=>rfl
 ·intro tss h
  match tss,h with
  | [t0],⟨h0,_⟩=>
   obtain ⟨r0,u0,rfl,l0,e0,k0⟩:=Shp.sl_inv h0
   obtain rfl:=Shp.nil_inv k0
   obtain ⟨x0,rfl⟩:=ani e0
   exact ⟨_,aqB x0 (aoy l0)⟩
theorem aqs:Tryz.f9.isWrapper Tryz.prog Rows.fnMovedRow.wrapper Rows.fnMovedRow.mainSum:=by
 unfold Func.isWrapper; first | (rw [if_pos (by decide +kernel)]; kernel_rfl) | (rw [if_neg (by decide +kernel)]; exact ⟨rfl,rfl⟩)
theorem law_FnMoved:Rows.FnMovedSaid:=
 OpenClaim.holds_of_wide 9 Tryz.f9 rfl rfl rfl rfl rfl rfl rfl ⟨rfl,rfl,rfl,rfl,rfl⟩ rfl rfl rfl rfl rfl (by kernel_rfl) Tryz.func9 aqr
  (of_decide_eq_true (by kernel_rfl)) aqs
  (fun os started H enc _=>apS os started H enc)
theorem aqt:Rows.fnMovedRow.wfByText (OpenSpec.ofChange Rows.fnMovedSpec)=true:=by kernel_rfl
theorem k2_FnMoved:Tryz.prog.funcNamed "loop.example/g00285/laws.FnMoved"=some 9:=by kernel_rfl
theorem aqu:(Tryz.f9.params.toList.all fun u=>!Tryz.prog.wantsStandIn u)=true:=by kernel_rfl
theorem aqv:false=Rows.fnMovedRow.goesBy Tryz.prog:=by kernel_rfl
theorem card_FnMoved:Rows.FnMovedCardSaid:=
 Claim7.holds_tied_plain_at .later [] [.data,.pinned] true (true, "a471463198dfccefd4549d2ca3dea33ce4024f0ca831b63ca506e736f471de25") false
  law_FnMoved (fun _ h=>by cases h) aqt (fun _ h=>by cases h) fnMoved_row_tie rfl ⟨rfl,rfl⟩ aoK rfl
  (fun f fn hf hfn=>by
   obtain rfl:f=9:=Option.some.inj (k2_FnMoved.symm.trans hf) |>.symm
   obtain rfl:fn=Tryz.f9:=(Option.some.inj (Tryz.func9.symm.trans hfn)).symm
   exact ⟨aoA,fun j t ht=>by
    have:=lW.1 aqu t (by simpa using Array.mem_of_getElem? ht)
    exact show Tryz.prog.wantsStandIn t=false by simpa using this⟩)
  aqv
end
end Go.Proofs.YtnfngemnghiehaaGreatDoor.Awp

namespace Go.Proofs.YtnfngemnghiehaaGreatDoor
/-- the given statement -/
theorem provedFnMoved : Rows.FnMovedCardSaid := Awp.card_FnMoved
end Go.Proofs.YtnfngemnghiehaaGreatDoor
#print axioms Go.Proofs.YtnfngemnghiehaaGreatDoor.provedFnMoved
