/- The law FnRootStays (what has no name is not made, moved, linked to, unlinked or removed) holds for every argument: the given statement is proved. Condition: none. -/
import Derived.Test.YtnfngemnghiehaaGreatDoorBase2
import Derived.Test.YtnfngemnghiehaaGreatDoorAwp3
import Derived.Test.YtnfngemnghiehaaGreatDoorRows
import Derived.Test.YtnfngemnghiehaaGreatDoorCards
import Derived.Test.YtnfngemnghiehaaGreatDoorTie
import Derived.Shelf.Lays
import Derived.Sort.Walk0
import Derived.Shelf.Strings.Search3
import Derived.Shelf.Strings.Count
import Derived.Shelf.Strings.OnBuilder
import Derived.Shelf.Sort.Plain
import Derived.Shelf.Slices.In.SortNone
import Derived.Shelf.Spec.SlicesInsert
import Derived.Shelf.Spec.SlicesInsertGrow
import Derived.Deep.MidRow
import Derived.ArgAppend
import Derived.OpenShut
import Derived.SevenTiedAt
import Derived.KernelRfl
set_option linter.unusedVariables false
set_option linter.unusedSimpArgs false
set_option maxRecDepth 100000
set_option maxHeartbeats 20000000
open Nat (reduceEqDiff reduceAdd reduceMul reduceSub)
open Int (reduceNeg reduceToNat reducePow)
namespace Go.Proofs.YtnfngemnghiehaaGreatDoor.Awp
theorem uA1:type_of% @Nat.add_assoc:=@Nat.add_assoc
theorem uB1:type_of% @List.getElem?_append_right:=@List.getElem?_append_right
section
namespace W
end W
open I W
def p3:Cmd:=Q (R [e' 2 k0]) (Q (Q (R [a 20 0,c 21 12 [v 20]]) (F (v 21) (Q (R [e' 2 k1]) .ret) .skip)) (Q (R [a 23 0,c 24 13 [v 23],a 22 24,x 25 22 0,x 26 22 1,x 27 22 2,z 3 [.sl 6 [],.int .i64 0],s 3 25 2,e 4 26,e 5 27]) (Q (R [b 29 3 2,c 30 14 [v 29,.c (.str [47])],a 28 30,x 31 28 0,x 32 28 1,z 6 [.sl 6 [],.int .i64 0],s 6 31 2,e 7 32]) (Q (R [b 34 3 2,c 35 15 [v 34,.c (.str [47])],a 33 35,x 36 33 0,x 37 33 1,z 8 [.sl 6 [],.int .i64 0],s 8 36 2,e 9 37]) (Q (R [b 39 3 2,c 40 16 [v 39,.c (.str [47])],a 38 40,x 41 38 0,x 42 38 1,z 10 [.sl 6 [],.int .i64 0],s 10 41 2,e 11 42]) (Q (R [b 44 3 2,c 45 17 [v 44,.c (.str [47])],a 43 45,x 46 43 0,x 47 43 1,z 12 [.sl 6 [],.int .i64 0],s 12 46 2,e 13 47]) (Q (R [b 49 3 2,a 50 4,c 51 18 [v 49,.c (.str [47]),v 50],a 48 51,x 52 48 0,x 53 48 1,z 14 [.sl 6 [],.int .i64 0],s 14 52 2,e 15 53]) (Q (R [b 55 3 2,a 56 4,c 57 18 [v 55,v 56,.c (.str [47])],a 54 57,x 58 54 0,x 59 54 1,z 16 [.sl 6 [],.int .i64 0],s 16 58 2,e 17 59]) (Q (R [b 61 3 2,a 62 4,c 63 19 [v 61,v 62,.c (.str [47])],a 60 63,x 64 60 0,x 65 60 1,z 18 [.sl 6 [],.int .i64 0],s 18 64 2,e 19 65]) (Q (R [a 66 7,g 67 .eql (v 66) (k 1),a 68 67,ha 68 true 69 9,h 68 true 70 (bin 70 .eql (v 69) (k 1)),p 71 68 (v 70) k0,a 72 71,ha 72 true 73 11,h 72 true 74 (bin 74 .eql (v 73) (k 1)),p 75 72 (v 74) k0,a 76 75,ha 76 true 77 13,h 76 true 78 (bin 78 .eql (v 77) (k 1)),p 79 76 (v 78) k0,a 80 79,ha 80 true 81 15,h 80 true 82 (bin 82 .eql (v 81) (k 1)),p 83 80 (v 82) k0,a 84 83,ha 84 true 85 17,h 84 true 86 (bin 86 .eql (v 85) (k 1)),p 87 84 (v 86) k0,a 88 87,ha 88 true 89 19,h 88 true 90 (bin 90 .eql (v 89) (k 1)),p 91 88 (v 90) k0,a 92 91,hb 92 true 93 18 2,hb 92 true 94 3 2,hc 92 true 95 20 [v 93,v 94],p 96 92 (v 95) k0,e 2 96]) .ret))))))))))
def aph:Cmd:=Q (R [z 2 [.sl 6 [],.int .i64 0],e' 3 (.c (.str [])),e' 4 (.c (.str []))]) (Q (R [a 7 0,c 8 56 [v 7],e 5 8]) (Q (R [a 9 5,c 10 57 [v 9,k 16],z 6 [.sl 6 [],.int .i64 0],s 6 10 2]) (Q (D [0,0,0,6,0,30,63,127,255] [b 11 6 2,a 12 5,b 13 6 2,c 14 58 [v 12,v 13],a 15 5,c 16 59 [v 15],s 2 11 2,e 3 14,e 4 16]) .ret)))
def api:Cmd:=Q (R [n 2 (box 2 (v 0)),z 4 [.sl 6 [],.int .i64 0],e' 5 (k 0)]) (Q (R [b 6 2 2,a 7 1,c 8 60 [v 6,v 7,k 2],x 9 8 0,x 10 8 1,s 4 9 2,e 5 10]) .ret)
def ao8:Cmd:=Q (R [n 2 (box 2 (v 0)),z 4 [.sl 6 [],.int .i64 0],e' 5 (k 0)]) (Q (R [b 6 2 2,a 7 1,c 8 60 [v 6,v 7,k 1],x 9 8 0,x 10 8 1,s 4 9 2,e 5 10]) .ret)
def m5:Cmd:=Q (R [n 2 (box 2 (v 0)),z 4 [.sl 6 [],.int .i64 0],e' 5 (k 0)]) (Q (R [b 10 2 2,c 11 61 [v 10],s 2 11 2]) (Q (Q (R [b 12 2 2,a 13 1,o 14 1 [v 13],c 15 62 [v 12,v 14],n 16 (un 16 .not (v 15)),a 17 16,ha 17 false 18 1,h 17 false 19 (bin 19 .eql (v 18) (.c (.str [47]))),p 20 17 k1 (v 19)]) (F (v 20) (Q (R [b 21 2 2,s 4 21 2,e' 5 (k 1)]) .ret) .skip)) (Q (R [b 23 2 2,a 24 1,c 25 63 [v 23,v 24],a 22 25,x 26 22 0,x 27 22 1,z 6 [.int .i64 0,.int .i64 0,.int .i64 0,.sl 1 [],.sl 2 [],.sl 2 []],s 6 26 6,e 7 27]) (Q (Q (R [a 28 7,g 29 .neq (v 28) (k 0)]) (F (v 29) (Q (R [b 30 2 2,a 31 7,s 4 30 2,e 5 31]) .ret) .skip)) (Q (R [b 33 2 2,a 34 1,c 35 64 [v 33,v 34],a 32 35,x 36 32 0,x 37 32 1,z 8 [.int .i64 0,.int .i64 0,.int .i64 0,.sl 1 [],.sl 2 [],.sl 2 [],.str []],s 8 36 7,e 9 37]) (Q (R [b 38 8 7,b 39 2 2,c 40 65 [v 38,v 39],s 2 40 2]) (Q (R [f 41 6 2,b' 42 41 1,g 43 .sub (v 42) (k 1),f 44 6 2,s 44 43 1]) (Q (Q (R [f 45 6 2,b' 46 45 1,g 47 .eql (v 46) (k 0)]) (F (v 47) (Q (R [b 48 2 2,f 49 6 0,b' 50 49 1,c 51 66 [v 48,v 50],s 4 51 2,e' 5 (k 0)]) .ret) .skip)) (Q (R [b 52 2 2,b 53 6 6,c 54 67 [v 52,v 53],s 4 54 2,e' 5 (k 0)]) .ret)))))))))
def kN:Cmd:=Q (R [n 2 (box 2 (v 0)),z 4 [.sl 6 [],.int .i64 0],e' 5 (k 0)]) (Q (R [b 10 2 2,c 11 61 [v 10],s 2 11 2]) (Q (Q (R [b 12 2 2,a 13 1,o 14 1 [v 13],c 15 62 [v 12,v 14],n 16 (un 16 .not (v 15)),a 17 16,ha 17 false 18 1,h 17 false 19 (bin 19 .eql (v 18) (.c (.str [47]))),p 20 17 k1 (v 19)]) (F (v 20) (Q (R [b 21 2 2,s 4 21 2,e' 5 (k 1)]) .ret) .skip)) (Q (R [b 23 2 2,a 24 1,c 25 68 [v 23,v 24],a 22 25,x 26 22 0,x 27 22 1,z 6 [.int .i64 0,.int .i64 0,.int .i64 0,.sl 1 [],.sl 2 [],.sl 2 []],s 6 26 6,e 7 27]) (Q (.blk 0 (Q (R [a 29 7,g 30 .neq (v 29) (k 0),e 28 30]) (F (v 28) (Q (R [b 31 2 2,a 32 7,s 4 31 2,e 5 32]) .ret) (Q (R [f 34 6 1,b' 35 34 1,g 36 .neq (v 35) (k 2),e 33 36]) (F (v 33) (Q (R [b 37 2 2,s 4 37 2,e' 5 (k 3)]) .ret) (Q (R [f 39 6 4,b' 40 39 1,l 41 40,g 42 .gtr (v 41) (k 0),e 38 42]) (F (v 38) (Q (R [b 43 2 2,s 4 43 2,e' 5 (k 6)]) .ret) .skip))))))) (Q (R [b 45 2 2,a 46 1,c 47 64 [v 45,v 46],a 44 47,x 48 44 0,x 49 44 1,z 8 [.int .i64 0,.int .i64 0,.int .i64 0,.sl 1 [],.sl 2 [],.sl 2 [],.str []],s 8 48 7,e 9 49]) (Q (D [0,0,3,0,8,31,63,127] [b 50 8 7,b 51 2 2,c 52 65 [v 50,v 51],f 53 6 0,b' 54 53 1,c 55 66 [v 52,v 54],s 4 55 2,e' 5 (k 0)]) .ret))))))
def kH:Cmd:=Q (R [n 3 (box 3 (v 0)),z 6 [.sl 6 [],.int .i64 0],e' 7 (k 0)]) (Q (R [b 13 3 2,c 14 61 [v 13],s 3 14 2]) (Q (Q (R [b 15 3 2,a 16 1,a 17 2,o 18 1 [v 16,v 17],c 19 62 [v 15,v 18],n 20 (un 20 .not (v 19)),a 21 20,ha 21 false 22 1,h 21 false 23 (bin 23 .eql (v 22) (.c (.str [47]))),p 24 21 k1 (v 23),a 25 24,ha 25 false 26 2,h 25 false 27 (bin 27 .eql (v 26) (.c (.str [47]))),p 28 25 k1 (v 27)]) (F (v 28) (Q (R [b 29 3 2,s 6 29 2,e' 7 (k 1)]) .ret) .skip)) (Q (R [b 31 3 2,a 32 1,c 33 68 [v 31,v 32],a 30 33,x 34 30 0,x 35 30 1,z 8 [.int .i64 0,.int .i64 0,.int .i64 0,.sl 1 [],.sl 2 [],.sl 2 []],s 8 34 6,e 9 35]) (Q (Q (R [a 36 9,g 37 .neq (v 36) (k 0)]) (F (v 37) (Q (R [b 38 3 2,a 39 9,s 6 38 2,e 7 39]) .ret) .skip)) (Q (Q (R [a 40 1,a 41 2,c 42 43 [v 40,v 41]]) (F (v 42) (Q (R [b 43 3 2,s 6 43 2,e' 7 (k 6)]) .ret) .skip)) (Q (R [b 45 3 2,a 46 1,c 47 64 [v 45,v 46],a 44 47,x 48 44 0,x 49 44 1,z 10 [.int .i64 0,.int .i64 0,.int .i64 0,.sl 1 [],.sl 2 [],.sl 2 [],.str []],s 10 48 7,e 11 49]) (Q (R [b 51 3 2,a 52 2,c 53 64 [v 51,v 52],a 50 53,x 54 50 0,x 55 50 1,z 12 [.int .i64 0,.int .i64 0,.int .i64 0,.sl 1 [],.sl 2 [],.sl 2 [],.str []],s 12 54 7,e 9 55]) (Q (.blk 0 (Q (R [a 57 9,g 58 .neq (v 57) (k 0),e 56 58]) (F (v 56) (Q (R [b 59 3 2,a 60 9,s 6 59 2,e 7 60]) .ret) (Q (R [f 62 12 0,b 63 62 6,f 64 12 6,b' 65 64 1,c 66 69 [v 63,v 65],g 67 .neq (v 66) (k 0),e 61 67]) (F (v 61) (Q (R [b 68 3 2,s 6 68 2,e' 7 (k 4)]) .ret) (Q (R [f 70 12 0,f 71 70 4,b' 72 71 1,l 73 72,g 74 .eql (v 73) (k 10),a 75 74,h 75 true 76 (fld 76 (v 12) 0),h 75 true 77 (fld 77 (v 76) 0),h 75 true 78 (ld 78 (v 77) 1 false),h 75 true 79 (fld 79 (v 10) 0),h 75 true 80 (fld 80 (v 79) 0),h 75 true 81 (ld 81 (v 80) 1 false),h 75 true 82 (bin 82 .neq (v 78) (v 81)),p 83 75 (v 82) k0,e 69 83]) (F (v 69) (Q (R [b 84 3 2,s 6 84 2,e' 7 (k 5)]) .ret) .skip))))))) (Q (R [b 85 10 7,b 86 3 2,c 87 65 [v 85,v 86],s 3 87 2]) (Q (R [b 89 3 2,f 90 12 0,f 91 90 0,b' 92 91 1,c 93 70 [v 89,v 92],a 88 93,x 94 88 0,x 95 88 1,f 96 12 0,s 96 94 6]) (Q (R [b 97 12 7,b 98 3 2,f 99 8 0,b' 100 99 1,c 101 71 [v 97,v 98,v 100],s 6 101 2,e' 7 (k 0)]) .ret)))))))))))
def kL:Cmd:=Q (R [n 3 (box 3 (v 0)),z 6 [.sl 6 [],.int .i64 0],e' 7 (k 0)]) (Q (R [b 11 3 2,c 12 61 [v 11],s 3 12 2]) (Q (Q (R [b 13 3 2,a 14 1,a 15 2,o 16 1 [v 14,v 15],c 17 62 [v 13,v 16],n 18 (un 18 .not (v 17)),a 19 18,ha 19 false 20 2,h 19 false 21 (bin 21 .eql (v 20) (.c (.str [47]))),p 22 19 k1 (v 21)]) (F (v 22) (Q (R [b 23 3 2,s 6 23 2,e' 7 (k 1)]) .ret) .skip)) (Q (R [b 25 3 2,a 26 1,c 27 63 [v 25,v 26],a 24 27,x 28 24 0,x 29 24 1,z 8 [.int .i64 0,.int .i64 0,.int .i64 0,.sl 1 [],.sl 2 [],.sl 2 []],s 8 28 6,e 9 29]) (Q (Q (R [a 30 9,g 31 .neq (v 30) (k 0)]) (F (v 31) (Q (R [b 32 3 2,a 33 9,s 6 32 2,e 7 33]) .ret) .skip)) (Q (R [b 35 3 2,a 36 2,c 37 64 [v 35,v 36],a 34 37,x 38 34 0,x 39 34 1,z 10 [.int .i64 0,.int .i64 0,.int .i64 0,.sl 1 [],.sl 2 [],.sl 2 [],.str []],s 10 38 7,e 9 39]) (Q (.blk 0 (Q (R [a 41 9,g 42 .neq (v 41) (k 0),e 40 42]) (F (v 40) (Q (R [b 43 3 2,a 44 9,s 6 43 2,e 7 44]) .ret) (Q (R [f 46 10 0,b 47 46 6,f 48 10 6,b' 49 48 1,c 50 69 [v 47,v 49],g 51 .neq (v 50) (k 0),e 45 51]) (F (v 45) (Q (R [b 52 3 2,s 6 52 2,e' 7 (k 4)]) .ret) (Q (R [f 54 10 0,f 55 54 4,b' 56 55 1,l 57 56,g 58 .eql (v 57) (k 10),e 53 58]) (F (v 53) (Q (R [b 59 3 2,s 6 59 2,e' 7 (k 5)]) .ret) .skip))))))) (Q (R [f 60 8 2,b' 61 60 1,g 62 .add (v 61) (k 1),f 63 8 2,s 63 62 1]) (Q (D [0,0,0,4,15,0,63,127,255] [b 64 10 7,b 65 3 2,f 66 8 0,b' 67 66 1,c 68 71 [v 64,v 65,v 67],b 69 8 6,c 70 67 [v 68,v 69],s 6 70 2,e' 7 (k 0)]) .ret))))))))
def z6:Cmd:=Q (R [e' 4 k0]) (Q (R [a 10 0,c 11 81 [v 10],a 9 11,x 12 9 0,x 13 9 1,e 5 12,e 6 13]) (Q (R [a 15 1,c 16 81 [v 15],a 14 16,x 17 14 0,x 18 14 1,e 7 17,e 8 18]) (Q (R [a 19 6,a 20 19,ha 20 true 21 8,p 22 20 (v 21) k0,a 23 22,ha 23 true 24 5,h 23 true 25 (len 25 (v 24)),ha 23 true 26 7,h 23 true 27 (len 27 (v 26)),h 23 true 28 (bin 28 .leq (v 25) (v 27)),p 29 23 (v 28) k0,a 30 29,ha 30 true 31 5,ha 30 true 32 7,ha 30 true 33 5,h 30 true 34 (len 34 (v 33)),h 30 true 35 (slc 35 (v 32) none (some (v 34)) 1),hc 30 true 36 99 [v 31,v 35],p 37 30 (v 36) k0,e 4 37]) .ret)))
def kR:Cmd:=Q (R [n 3 (box 3 (v 0)),z 6 [.sl 6 [],.int .i64 0],e' 7 (k 0)]) (Q (R [b 11 3 2,c 12 61 [v 11],s 3 12 2]) (Q (Q (R [b 13 3 2,a 14 1,o 15 1 [v 14],c 16 62 [v 13,v 15],n 17 (un 17 .not (v 16)),a 18 17,ha 18 false 19 1,h 18 false 20 (bin 20 .eql (v 19) (.c (.str [47]))),p 21 18 k1 (v 20)]) (F (v 21) (Q (R [b 22 3 2,s 6 22 2,e' 7 (k 1)]) .ret) .skip)) (Q (R [b 24 3 2,a 25 1,c 26 64 [v 24,v 25],a 23 26,x 27 23 0,x 28 23 1,z 8 [.int .i64 0,.int .i64 0,.int .i64 0,.sl 1 [],.sl 2 [],.sl 2 [],.str []],s 8 27 7,e 9 28]) (Q (.blk 0 (Q (R [a 30 9,g 31 .neq (v 30) (k 0),e 29 31]) (F (v 29) (Q (R [b 32 3 2,a 33 9,s 6 32 2,e 7 33]) .ret) (Q (R [f 35 8 0,b 36 35 6,f 37 8 6,b' 38 37 1,c 39 69 [v 36,v 38],g 40 .neq (v 39) (k 0),e 34 40]) (F (v 34) (Q (R [b 41 3 2,s 6 41 2,e' 7 (k 4)]) .ret) (Q (R [f 43 8 0,f 44 43 4,b' 45 44 1,l 46 45,g 47 .eql (v 46) (k 10),a 48 47,h 48 false 49 (fld 49 (v 3) 0),h 48 false 50 (ld 50 (v 49) 1 false),h 48 false 51 (len 51 (v 50)),h 48 false 52 (bin 52 .eql (v 51) (k 30)),p 53 48 k1 (v 52),a 54 53,h 54 false 55 (fld 55 (v 3) 1),h 54 false 56 (ld 56 (v 55) 1 false),h 54 false 57 (bin 57 .eql (v 56) (k 1000)),p 58 54 k1 (v 57),e 42 58]) (F (v 42) (Q (R [b 59 3 2,s 6 59 2,e' 7 (k 5)]) .ret) .skip))))))) (Q (R [f 60 3 1,b' 61 60 1,a 62 2,n 63 (bld 63 [.int .i64 0,.int .i64 0,.int .i64 0,.sl 1 [],.sl 2 [],.sl 2 []] [(0,1,v 61),(1,1,v 62),(2,1,k 1)]),z 10 [.int .i64 0,.int .i64 0,.int .i64 0,.sl 1 [],.sl 2 [],.sl 2 []],s 10 63 6]) (Q (R [f 64 3 1,b' 65 64 1,g 66 .add (v 65) (k 1),f 67 3 1,s 67 66 1]) (Q (D [0,0,0,4,15,0,63,127,255] [b 68 8 7,b 69 3 2,f 70 10 0,b' 71 70 1,c 72 71 [v 68,v 69,v 71],b 73 10 6,c 74 67 [v 72,v 73],s 6 74 2,e' 7 (k 0)]) .ret)))))))
def aoW:Cmd:=Q (R [n 2 (box 2 (v 0)),z 4 [.int .i64 0,.int .i64 0,.int .i64 0,.sl 1 [],.sl 2 [],.sl 2 []],e' 5 (k 0)]) (Q (R [b 9 2 2,a 10 1,c 11 68 [v 9,v 10],a 8 11,x 12 8 0,x 13 8 1,z 6 [.int .i64 0,.int .i64 0,.int .i64 0,.sl 1 [],.sl 2 [],.sl 2 []],s 6 12 6,e 7 13]) (Q (Q (R [a 14 7,g 15 .eql (v 14) (k 0),a 16 15,h 16 true 17 (fld 17 (v 6) 1),h 16 true 18 (ld 18 (v 17) 1 false),h 16 true 19 (bin 19 .neq (v 18) (k 1)),p 20 16 (v 19) k0]) (F (v 20) (R [e' 7 (k 3)]) .skip)) (Q (R [b 21 6 6,a 22 7,s 4 21 6,e 5 22]) .ret)))
def aoX:Cmd:=Q (R [n 2 (box 2 (v 0)),n 3 (box 3 (v 1)),z 4 [.sl 6 [],.int .i64 0]]) (Q (R [f 5 2 0,f 6 5 4,b' 7 6 1,c 8 125 [v 7],n 9 (mkf 9 126 [v 2]),c 10 124 [v 8,v 9],f 11 2 0,f 12 11 4,s 12 10 1]) (Q (R [b 13 3 2,f 14 2 0,b 15 14 6,c 16 67 [v 13,v 15],s 4 16 2]) .ret))
def ao1:Cmd:=Q (R [n 2 (box 2 (v 0)),n 3 (box 3 (v 1)),z 4 [.sl 6 [],.int .i64 0]]) (Q (R [b 5 2 2,c 6 61 [v 5],s 2 6 2]) (Q (R [f 7 2 0,b' 8 7 1,n 9 (mkf 9 128 [v 3]),c 10 127 [v 8,v 9],f 11 2 0,s 11 10 1]) (Q (R [b 12 2 2,s 4 12 2]) .ret)))
def r8:Cmd:=Q (R [n 3 (box 3 (v 0)),n 4 (box 4 (v 1)),z 6 [.sl 6 [],.int .i64 0]]) (Q (R [f 8 3 0,f 9 8 4,b' 10 9 1,n 11 (mkf 11 133 [v 3]),c 12 132 [v 10,v 11],e 7 12]) (Q (Q (R [a 13 7,g 14 .lss (v 13) (k 0)]) (F (v 14) (R [f 15 3 0,f 16 15 4,b' 17 16 1,l 18 17,e 7 18]) .skip)) (Q (D [0,1,3,7,0,0,32,0,224,480,1023,2047,4095,8191] [f 19 3 0,f 20 19 4,b' 21 20 1,c 22 125 [v 21],a 23 7,f 24 3 6,b' 25 24 1,a 26 2,n 27 (bld 27 [.str [],.int .i64 0] [(0,1,v 25),(1,1,v 26)]),o 28 2 [v 27],c 29 134 [v 22,v 23,v 28],f 30 3 0,f 31 30 4,s 31 29 1]) (Q (R [b 32 4 2,f 33 3 0,b 34 33 6,c 35 67 [v 32,v 34],s 6 35 2]) .ret))))
def x3:Cmd:=Q (R [e' 4 k0]) (Q (Q (R [a 6 0,l 7 6,a 8 1,l 9 8,g 10 .neq (v 7) (v 9)]) (F (v 10) (Q (R [e' 4 k0]) .ret) .skip)) (Q (Q (R [a 11 0,l 12 11,n 13 (mov 13 (k 0))]) (.blk 0 (.loop (Q (R [g 14 .lss (v 13) (v 12)]) (Q (F (v 14) .skip (.exit 0)) (Q (.blk 1 (Q (R [a 15 13,e 5 15]) (Q (D [0,0,3,7,0,0,48,112,255] [a 16 0,a 17 5,i 18 16 17 1,b' 19 18 1,a 20 1,a 21 5,i 22 20 21 1,b' 23 22 1,g 24 .neq (v 19) (v 23)]) (F (v 24) (Q (R [e' 4 k0]) .ret) .skip)))) (R [g 25 .add (v 13) (k 1),a 13 25]))))))) (Q (R [e' 4 k1]) .ret)))
def kW:Cmd:=Q (R [e' 4 (.c (.own 2 []))]) (Q (R [a 8 0,a 9 1,c 10 132 [v 8,v 9],e 5 10]) (Q (Q (R [a 11 5,g 12 .eql (v 11) (k (-1))]) (F (v 12) (Q (R [a 13 0,e 4 13]) .ret) .skip)) (Q (Q (R [a 14 5,g 15 .add (v 14) (k 1),e 6 15]) (.blk 0 (.loop (Q (Q (R [a 16 6,a 17 0,l 18 17,g 19 .lss (v 16) (v 18)]) (F (v 19) .skip (.exit 0))) (Q (.blk 1 (Q (R [a 22 0,a 23 6,i 24 22 23 2,b 25 24 2,z 7 [.str [],.int .i64 0],s 7 25 2]) (Q (R [a 26 1,b 27 7 2,n 28 (callv (some 28) (v 26) [v 27]),n 29 (un 29 .not (v 28))]) (F (v 29) (Q (R [a 30 0,a 31 5,b 32 7 2,i 33 30 31 2,s 33 32 2]) (R [a 34 5,g 35 .add (v 34) (k 1),e 5 35])) .skip)))) (R [a 20 6,g 21 .add (v 20) (k 1),e 6 21])))))) (Q (R [a 36 0,a 37 5,n 38 (slc 38 (v 36) (some (v 37)) none 2),m (.clr (v 38) 2 [.str [],.int .i64 0])]) (Q (R [a 39 0,a 40 5,n 41 (slc 41 (v 39) none (some (v 40)) 2),e 4 41]) .ret)))))
def x4:Cmd:=Q (R [n 2 (box 2 (v 0)),e' 3 k0]) (Q (R [f 4 2 0,b' 5 4 1,f 6 1 6,b' 7 6 1,g 8 .eql (v 5) (v 7),e 3 8]) .ret)
def kU:Cmd:=Q (R [e' 4 (.c (.own 6 []))]) (Q (R [a 8 0,a 9 1,c 10 129 [v 8,v 9],e 5 10]) (Q (Q (R [a 11 5,g 12 .eql (v 11) (k (-1))]) (F (v 12) (Q (R [a 13 0,e 4 13]) .ret) .skip)) (Q (Q (R [a 14 5,g 15 .add (v 14) (k 1),e 6 15]) (.blk 0 (.loop (Q (Q (R [a 16 6,a 17 0,l 18 17,g 19 .lss (v 16) (v 18)]) (F (v 19) .skip (.exit 0))) (Q (.blk 1 (Q (R [a 22 0,a 23 6,i 24 22 23 6,b 25 24 6,z 7 [.int .i64 0,.int .i64 0,.int .i64 0,.sl 1 [],.sl 2 [],.sl 2 []],s 7 25 6]) (Q (R [a 26 1,b 27 7 6,n 28 (callv (some 28) (v 26) [v 27]),n 29 (un 29 .not (v 28))]) (F (v 29) (Q (R [a 30 0,a 31 5,b 32 7 6,i 33 30 31 6,s 33 32 6]) (R [a 34 5,g 35 .add (v 34) (k 1),e 5 35])) .skip)))) (R [a 20 6,g 21 .add (v 20) (k 1),e 6 21])))))) (Q (R [a 36 0,a 37 5,n 38 (slc 38 (v 36) (some (v 37)) none 6),m (.clr (v 38) 6 [.int .i64 0,.int .i64 0,.int .i64 0,.sl 1 [],.sl 2 [],.sl 2 []])]) (Q (R [a 39 0,a 40 5,n 41 (slc 41 (v 39) none (some (v 40)) 6),e 4 41]) .ret)))))
def z7:Cmd:=Q (R [n 2 (box 2 (v 0)),e' 3 k0]) (Q (R [f 4 2 0,b' 5 4 1,b' 6 1 1,g 7 .eql (v 5) (v 6),e 3 7]) .ret)
def aoY:Cmd:=Q (R [n 2 (box 2 (v 0)),e' 3 k0]) (Q (R [f 4 2 0,b' 5 4 1,f 6 1 0,b' 7 6 1,g 8 .gtr (v 5) (v 7),e 3 8]) .ret)
def x5:Cmd:=Q (R [n 2 (box 2 (v 0)),e' 3 k0]) (Q (R [f 4 2 0,b' 5 4 1,f 6 1 6,b' 7 6 1,g 8 .gtr (v 5) (v 7),e 3 8]) .ret)
end
theorem z8:aD Tryz.prog 3=some (97,[.t 2],p3):=by kernel_rfl
theorem ap7:aD Tryz.prog 13=some (17,[.c 2 2 true,.t 3,.t 4],aph):=by kernel_rfl
theorem ap8:aD Tryz.prog 14=some (11,[.c 4 2 true,.t 5],api):=by kernel_rfl
theorem ap1:aD Tryz.prog 15=some (11,[.c 4 2 true,.t 5],ao8):=by kernel_rfl
theorem x1:aD Tryz.prog 16=some (55,[.c 4 2 true,.t 5],m5):=by kernel_rfl
theorem kT:aD Tryz.prog 17=some (56,[.c 4 2 true,.t 5],kN):=by kernel_rfl
theorem kP:aD Tryz.prog 18=some (102,[.c 6 2 true,.t 7],kH):=by kernel_rfl
theorem kQ:aD Tryz.prog 19=some (71,[.c 6 2 true,.t 7],kL):=by kernel_rfl
theorem ao2:aD Tryz.prog 43=some (38,[.t 4],z6):=by kernel_rfl
theorem kV:aD Tryz.prog 60=some (75,[.c 6 2 true,.t 7],kR):=by kernel_rfl
theorem ao6:aD Tryz.prog 63=some (23,[.c 4 6 true,.t 5],aoW):=by kernel_rfl
theorem apF:aD Tryz.prog 65=some (17,[.c 4 2 true],aoX):=by kernel_rfl
theorem apV:aD Tryz.prog 66=some (13,[.c 4 2 true],ao1):=by kernel_rfl
theorem aoZ:aD Tryz.prog 71=some (36,[.c 6 2 true],r8):=by kernel_rfl
theorem apb:aD Tryz.prog 99=some (26,[.t 4],x3):=by kernel_rfl
theorem r6:aD Tryz.prog 124=some (42,[.t 4],kW):=by kernel_rfl
theorem apc:aD Tryz.prog 126=some (9,[.t 3],x4):=by kernel_rfl
theorem m4:aD Tryz.prog 127=some (42,[.t 4],kU):=by kernel_rfl
theorem apj:aD Tryz.prog 128=some (8,[.t 3],z7):=by kernel_rfl
theorem apG:aD Tryz.prog 130=some (9,[.t 3],aoY):=by kernel_rfl
theorem apd:aD Tryz.prog 133=some (9,[.t 3],x5):=by kernel_rfl
theorem apH (l m:List aA) (hl:l.length<2^40) (hm:m.length<2^40):bC Tryz.prog 99 [.ext 1 (l.map dB),.ext 1 (m.map dB)] (.bool (decide (l=m))) [.undef,.undef]:=by
 refine U apb [] 12339 [] fun w hP hQ=>?_
 unfold x3
 refine N ?_
 (first | with_reducible refine cQ _ ?_ ?_ | refine cR _ ?_ ?_) <;> intro h
 ·refine N ?_
  refine fH [4,5] ?_
  refine N ?_
  refine aT [4,5] (fun i:Nat=>[(13,.int .i64 i)]) (fun i=>i≤l.length∧l.take i=m.take i) (fun i=>l.length-i) (0) hP hQ (rfl) (by simp) ?_
  rintro i ⟨hi,hab⟩ w1 hP1 hQ1
  refine N1 ?_
  (first | with_reducible refine cQ _ ?_ ?_ | refine cR _ ?_ ?_) <;> intro h1
  ·simp +decide (maxSteps:=9^9) (disch:=omega) only[↓SB0,SX,seval,hQ,hQ1,bG h1,bG (h ▸ h1),dB]
   (first | with_reducible refine cQ _ ?_ ?_ | refine cR _ ?_ ?_) <;> intro h2
   ·refine N1 ?_
    exact ⟨i+1,rfl,⟨by omega,gR hab _ _ h2⟩,by omega⟩
   ·refine N1 ?_
    rw [lB (show ¬ l=m from fun e=>by subst e; exact h2 rfl)]
  ·refine N1 ?_
   rw [lE (tJ hab (by omega) (by omega))]
 ·refine N ?_
  rw [lB (show ¬ l=m from fun e=>h (by rw [e]))]
theorem aqm (a b:aA) (ha:a.length<2^40) (hb:b.length<2^40):bC Tryz.prog 43 [.str a,.str b] (.bool (aam a b)) [.undef,.undef]:=by
 have hS:=oD a ha
 have hT:=oD b hb
 have hf:=kY a
 have hg:=kY b
 unfold aam
 generalize aB a=x at *
 generalize aB b=y at *
 obtain ⟨l,u⟩:=x
 obtain ⟨m,v⟩:=y
 simp only at *
 cases u with
 | false=>
  refine U ao2 [] 499 [] fun w hP hQ=>?_
  unfold z6
  refine N ?_
  refine K (hS) ?_
  exact K (hT) trivial
 | true=>
  cases v with
  | false=>
   refine U ao2 [] 499 [] fun w hP hQ=>?_
   unfold z6
   refine N ?_
   refine K (hS) ?_
   exact K (hT) trivial
  | true=>
   by_cases hn:l.length≤m.length
   ·have hE:=apH l (m.take l.length) (by omega) (by simp; omega)
    rw [← adR hn,lP4] at hE
    have h0:decide (((l.length:Nat):Int)≤(m.length:Nat))=true:=lE (by omega)
    have h2:(((l.length:Nat):Int)-0).toNat=l.length:=by omega
    have h3:0+l.length≤m.length:=by omega
    refine U ao2 [] 499 [] fun w hP hQ=>?_
    unfold z6
    refine N ?_
    refine K (hS) ?_
    have hz:=And.intro h0 (And.intro h2 h3)
    refine Kz (hT) ?_
    exact K (hE) trivial
   ·rw [adS (by omega)]
    have h0:decide (((l.length:Nat):Int)≤(m.length:Nat))=false:=lB (by omega)
    refine U ao2 [] 499 [] fun w hP hQ=>?_
    unfold z6
    refine N ?_
    refine K (hS) ?_
    have hz:=h0
    exact Kz (hT) trivial
section
section
variable {α:Type} {key:α→aA}
theorem aqn {l:List α} {e:α} {k:Nat} (h:l.findIdx? (fun x=>decide (key e<key x))=some k):k<l.length∧vJ key l e=l.take k++e::l.drop k:=by
 obtain ⟨h1,h2,h3⟩:=lO2.1 h
 refine ⟨h1,agE (by omega) (fun j hj hl=>?_) (fun _=>by simpa using h2)⟩
 simpa using h3 j hj
theorem aqo {l:List α} {e:α} (h:l.findIdx? (fun x=>decide (key e<key x))=none):vJ key l e=l.take l.length++e::l.drop l.length:=by
 rw [lU3] at h
 exact agE (lR1 _) (fun j hj hl=>by simpa using h _ (lO hl)) (fun h=>absurd h (Nat.lt_irrefl _))
end
end
theorem ap2 (t:Tab) (s:aA) (h:t.sz<2^40) (hs:s.length<2^40):bC Tryz.prog 63 [t.x,.str s] (.tup [(exI (cJ t s)).o,.int .i64 (exC (mN t s))]) [.undef,.undef]:=by
 have hS:=am2 t s h hs
 unfold mN
 cases e:cJ t s with
 | error c=>
  have hc:decide (c=0)=false:=lB (mP e)
  rw [e] at hS
  simp only [exI,exC] at hS ⊢
  refine U ao6 [] 247 [] fun w hP hQ=>?_
  unfold aoW
  refine N ?_
  have hz:=hc
  exact Kz (hS) trivial
 | ok x=>
  rw [e] at hS
  simp only [exI,exC] at hS ⊢
  by_cases hk:x.kind=1
  ·have hk':decide (x.kind=1)=true:=lE hk
   simp only [lG hk]
   refine U ao6 [] 247 [] fun w hP hQ=>?_
   unfold aoW
   refine N ?_
   have hz:=hk'
   exact Kz (hS) trivial
  ·have hk':decide (x.kind=1)=false:=lB hk
   simp only [lJ hk]
   refine U ao6 [] 247 [] fun w hP hQ=>?_
   unfold aoW
   refine N ?_
   have hz:=hk'
   exact Kz (hS) trivial
section
section
variable {α:Type} {s:Nat} {row:α→List TV} {p:α→Bool} {l:List α} {i j:Nat} {R:List (List TV)}
theorem Kept'.skip (h:Kept' s row p l i j R) (hj:j<l.length) (hp:p l[j]=true):Kept' s row p l i (j+1) R:=by
 obtain ⟨a1,a2,a3,a4,a5,a6,a7⟩:=h
 have e:(l.take (j+1)).filter (fun x=>!p x)=(l.take j).filter fun x=>!p x:=by
  rw [lU hj,lH4]; simp [hp]
 refine ⟨by omega,by omega,a3,by rw [e,a4],by rw [e,a5],?_,a7⟩
 rw [← lJ2,a6,← List.map_drop,lJ2]
theorem Kept'.turn (h:Kept' s row p l i (j+1) R) {k:Nat} (h1:i≤k) (h2:k≤j) {f:List TV→List TV} (hf:∀ x,x.length=s→(f x).length=s):Kept' s row p l i (j+1) (R.modify k f):=by
 obtain ⟨a1,a2,a3,a4,a5,a6,a7⟩:=h
 refine ⟨a1,a2,by simp [a3],?_,a5,?_,fun x hx=>?_⟩
 ·rw [← a4]
  apply lW2
  intro m
  rw [lP1,lP1,lX1]
  split
  ·have hm':k≠m:=by omega
   simp [hm']
  ·rfl
 ·rw [← a6]
  apply lW2
  intro m
  have hm':k≠j+1+m:=by omega
  rw [lH2,lH2,lX1]
  simp [hm']
 ·obtain ⟨m,hm,rfl⟩:=lU1 hx
  rw [List.getElem_modify]
  split
  ·exact hf _ (a7 _ (lO _))
  ·exact a7 _ (lO _)
theorem Kept'.keep (h:Kept' s row p l i j R) (hj:j<l.length) (hp:p l[j]=false) {R':List (List TV)} (hl:R'.length=l.length) (hw:∀ x ∈ R',x.length=s) (h1:R'.take i=R.take i) (h2:R'.drop (j+1)=R.drop (j+1)) {f:List TV→List TV} (hf:∀ x,x.length=s→f x=row l[j]) (hr:(row l[j]).length=s) :
  Kept' s row p l (i+1) (j+1) (R'.modify i f):=by
 obtain ⟨a1,a2,a3,a4,a5,a6,a7⟩:=h
 have e:(l.take (j+1)).filter (fun x=>!p x)=(l.take j).filter (fun x=>!p x)++[l[j]]:=by
  rw [lU hj,lH4]; simp [hp]
 have hi:i<R'.length:=by omega
 refine ⟨by omega,by omega,by simp [hl],?_,by rw [e]; simp; omega,?_,fun x hx=>?_⟩
 ·rw [e,lM2,← a4,← h1,lU (by simpa using hi),List.getElem_modify_eq,hf _ (hw _ (lO _))]
  congr 1
  apply lW2
  intro m
  rw [lP1,lP1,lX1]
  split
  ·rename_i hm
   have hm':i≠m:=by omega
   simp [hm']
  ·rfl
 ·have e2:(R'.modify i f).drop (j+1)=R'.drop (j+1):=by
   apply lW2
   intro m
   have hm':i≠j+1+m:=by omega
   rw [lH2,lH2,lX1]
   simp [hm']
  rw [e2,h2,← lJ2,a6,← List.map_drop,lJ2]
 ·obtain ⟨m,hm,rfl⟩:=lU1 hx
  rw [List.getElem_modify]
  split
  ·rw [hf _ (hw _ (lO _))]; exact hr
  ·exact hw _ (lO _)
theorem Kept'.done (h:Kept' s row p l i l.length R):R.take i=(l.filter fun x=>!p x).map row:=by
 have:=h.low
 rwa [lZ1] at this
end
theorem ape {g:Nat} {cs:List TV} {p:Ent→Bool} (hc:∀ v:Ent,bC Tryz.prog g [v.x,.xbox cs] (.bool (p v)) [.undef,.undef]) (l:List Ent) (hl:l.length<2^40) :
  bC Tryz.prog 124 [.own 2 (l.map Ent.row),.fn g [.xbox cs]] (.own 2 ((l.filter fun x=>!p x).map Ent.row)) [.undef,.undef]:=by
 have hI:=aje hc l (by omega)
 cases e:l.findIdx? p with
 | none=>
  have ef:(l.filter fun x=>!p x)=l:=agM (by rw [lU3] at e; exact e)
  rw [e] at hI
  rw [ef]
  refine U r6 [] 243 [] fun w hP hQ=>?_
  unfold kW
  refine N ?_
  exact K (hI) trivial
 | some k=>
  obtain ⟨k1,_⟩:=lO2.1 e
  rw [e,show abP (some k)=(k:Int) from rfl] at hI
  have hz:decide (((k:Nat):Int)=-1)=false:=lB (by omega)
  refine U r6 [] 243 [] fun w hP hQ=>?_
  unfold kW
  refine N ?_
  have hz:=hz
  refine Kz (hI) ?_
  refine fH [7,5007] ?_
  refine N ?_
  refine aT [7,5007] (fun x:Nat × Nat × List (List TV)=>[(0,.own 2 x.2.2),(5,.int .i64 (x.1:Nat)),(6,.int .i64 (x.2.1:Nat))]) (fun x=>Kept' 2 Ent.row p l x.1 x.2.1 x.2.2) (fun x=>l.length-x.2.1) ((k,k+1,l.map Ent.row)) hP hQ (rfl) (Kept'.start (fun _=>rfl) e) ?_
  rintro ⟨i,j,R⟩ hK w1 hP1 hQ1
  refine N1 ?_
  simp only at hK
  have hlen:=hK.len
  have hlt:=hK.lt
  have hle:=hK.le
  (first | with_reducible refine cQ _ ?_ ?_ | refine cR _ ?_ ?_) <;> intro h1
  ·have hj:j<l.length:=by omega
   have hat:=hK.at hj
   have hji:((j:Nat):Int)<(R.length:Nat):=by omega
   cases hp:p l[j] with
   | true=>
    have hz:=hat
    refine Nz1 ?_
    have hz:=hp
    refine Kz1 (hc l[j]) ?_
    exact ⟨(i,j+1,R),rfl,hK.skip hj hp,by simp only; omega⟩
   | false=>
    have hii:i<R.length:=by omega
    have hz:=hat
    refine Nz1 ?_
    have hz:=hp
    refine Kz1 (hc l[j]) ?_
    exact ⟨(i+1,j+1,_),rfl,hK.keep hj hp hlen hK.wid rfl rfl (fun x hx=>by rw [lF4 (Nat.le_of_eq hx)]; rfl) rfl,by simp only; omega⟩
  ·obtain rfl:j=l.length:=by omega
   have e1:(((l.length:Nat):Int)-(i:Nat)).toNat=l.length-i:=by omega
   have e2:R.drop (i+(l.length-i))=[]:=lG4 (by omega)
   have e3:(R.take i++List.replicate (l.length-i) [TV.str [],TV.int .i64 0]).length=l.length:=by simp; omega
   have e4:(((i:Nat):Int)-0).toNat=i:=by omega
   have e5:0+i≤l.length:=by omega
   have e6:(R.take i++List.replicate (l.length-i) [TV.str [],TV.int .i64 0]).take i=(l.filter fun x=>!p x).map Ent.row:=by
    rw [List.take_append_of_le_length (by simp; omega),List.take_take,Nat.min_self,hK.done]
   have hz:=And.intro hlen (And.intro e1 (And.intro e2 (And.intro e3 (And.intro e4 (And.intro e5 e6)))))
   exact Nz1 trivial
theorem aqp {R:List (List TV)} {i k:Nat} (h:i≤k) (f:List TV→List TV):(R.modify k f).take i=R.take i:=by
 apply lW2
 intro m
 rw [lP1,lP1,lX1]
 split
 ·have hm':k≠m:=by omega
  simp [hm']
 ·rfl
theorem aqq {R:List (List TV)} {i k:Nat} (h:k<i) (f:List TV→List TV):(R.modify k f).drop i=R.drop i:=by
 apply lW2
 intro m
 have hm':k≠i+m:=by omega
 rw [lH2,lH2,lX1]
 simp [hm']
theorem aqt {R:List (List TV)} {s k:Nat} {f:List TV→List TV} (hf:∀ x,x.length=s→(f x).length=s) (h:∀ x ∈ R,x.length=s):∀ x ∈ R.modify k f,x.length=s:=by
 intro x hx
 obtain ⟨m,hm,rfl⟩:=lU1 hx
 rw [List.getElem_modify]
 split
 ·exact hf _ (h _ (lO _))
 ·exact h _ (lO _)
theorem aqg (x:List TV) (h:x.length=6):(((x.modify 3 fun x=>TV.undef).modify 4 fun x=>TV.undef).modify 5 fun x=>TV.undef).length=6:=by simp [h]
theorem ao3 {g:Nat} {cs:List TV} {p:Inode→Bool} (hc:∀ v:Inode,bC Tryz.prog g [v.x,.xbox cs] (.bool (p v)) [.undef,.undef]) (l:List Inode) (hl:l.length<2^40) :
  bC Tryz.prog 127 [.own 6 (l.map Inode.row),.fn g [.xbox cs]] (.own 6 ((l.filter fun x=>!p x).map Inode.row)) [.undef,.undef]:=by
 have hI:=sC hc l (by omega)
 cases e:l.findIdx? p with
 | none=>
  have ef:(l.filter fun x=>!p x)=l:=agM (by rw [lU3] at e; exact e)
  rw [e] at hI
  rw [ef]
  refine U m4 [] 243 [] fun w hP hQ=>?_
  unfold kU
  refine N ?_
  exact K (hI) trivial
 | some k=>
  obtain ⟨k1,_⟩:=lO2.1 e
  rw [e,show abP (some k)=(k:Int) from rfl] at hI
  have hz:decide (((k:Nat):Int)=-1)=false:=lB (by omega)
  refine U m4 [] 243 [] fun w hP hQ=>?_
  unfold kU
  refine N ?_
  have hz:=hz
  refine Kz (hI) ?_
  refine fH [7,5007] ?_
  refine N ?_
  refine aT [7,5007] (fun x:Nat × Nat × List (List TV)=>[(0,.own 6 x.2.2),(5,.int .i64 (x.1:Nat)),(6,.int .i64 (x.2.1:Nat))]) (fun x=>Kept' 6 Inode.row p l x.1 x.2.1 x.2.2) (fun x=>l.length-x.2.1) ((k,k+1,l.map Inode.row)) hP hQ (rfl) (Kept'.start (fun _=>rfl) e) ?_
  rintro ⟨i,j,R⟩ hK w1 hP1 hQ1
  refine N1 ?_
  simp only at hK
  have hlen:=hK.len
  have hlt:=hK.lt
  have hle:=hK.le
  (first | with_reducible refine cQ _ ?_ ?_ | refine cR _ ?_ ?_) <;> intro h1
  ·have hj:j<l.length:=by omega
   have hat:=hK.at hj
   have hji:((j:Nat):Int)<(R.length:Nat):=by omega
   cases hp:p l[j] with
   | true=>
    have hz:=hat
    refine Nz1 ?_
    have hz:=hp
    refine Kz1 (hc l[j]) ?_
    exact ⟨(i,j+1,_),rfl,(hK.skip hj hp).turn (k:=j) (by omega) (lR1 _) aqg,by simp only; omega⟩
   | false=>
    have hii:i<R.length:=by omega
    have hz:=hat
    refine Nz1 ?_
    have hz:=hp
    refine Kz1 (hc l[j]) ?_
    exact ⟨(i+1,j+1,_),rfl,hK.keep hj hp (by simp [hlen]) (aqt aqg hK.wid) (aqp (by omega) _) (aqq (by omega) _) (fun x hx=>by rw [lF4 (Nat.le_of_eq hx)]; rfl) rfl,by simp only; omega⟩
  ·obtain rfl:j=l.length:=by omega
   have e1:(((l.length:Nat):Int)-(i:Nat)).toNat=l.length-i:=by omega
   have e2:R.drop (i+(l.length-i))=[]:=lG4 (by omega)
   have e3:(R.take i++List.replicate (l.length-i) [TV.int .i64 0,TV.int .i64 0,TV.int .i64 0,TV.sl 1 [],TV.sl 2 [],TV.sl 2 []]).length=l.length:=by simp; omega
   have e4:(((i:Nat):Int)-0).toNat=i:=by omega
   have e5:0+i≤l.length:=by omega
   have e6:(R.take i++List.replicate (l.length-i) [TV.int .i64 0,TV.int .i64 0,TV.int .i64 0,TV.sl 1 [],TV.sl 2 [],TV.sl 2 []]).take i=(l.filter fun x=>!p x).map Inode.row:=by
    rw [List.take_append_of_le_length (by simp; omega),List.take_take,Nat.min_self,hK.done]
   have hz:=And.intro hlen (And.intro e1 (And.intro e2 (And.intro e3 (And.intro e4 (And.intro e5 e6)))))
   exact Nz1 trivial
theorem apI (x:Inode) (n:Int):bC Tryz.prog 128 [x.x,.xbox [.int .i64 n]] (.bool (decide (x.ino=n))) [.undef,.undef]:=by
 refine U apj [] 15 [] fun w hP hQ=>?_
 unfold z7
 exact N trivial
theorem ao9 (t:Tab) (n:Int) (h:t.sz<2^40):bC Tryz.prog 66 [t.x,.int .i64 n] (jP t n).o [.undef,.undef]:=by
 obtain ⟨h1,h2⟩:=cZ h
 have hD:=ao3 (fun v=>apI v n) t.inodes (by omega)
 have e:(t.inodes.filter fun x=>!decide (x.ino=n))=(jP t n).inodes:=by
  unfold jP
  congr 1
  funext x
  by_cases hx:x.ino=n <;> simp [hx]
 rw [e] at hD
 refine U apV [(127,[.m,.b],[])] 31 [] fun w hP hQ=>?_
 unfold ao1
 refine N ?_
 refine K (agL t h) ?_
 refine K (hD) ?_
 rfl
end
theorem aqd (e:Ent) (D:Inode) (n:aA):bC Tryz.prog 126 [e.x,.xbox (aoT D n)] (.bool (decide (e.name=n))) [.undef,.undef]:=by
 unfold aoT
 refine U apc [] 15 [] fun w hP hQ=>?_
 unfold x4
 exact N trivial
theorem aqr (l:List Ent) (n:aA):(l.filter fun e=>!decide (e.name=n))=cY l n:=by
 unfold cY aiI
 congr 1
 funext e
 by_cases h:e.name=n <;> simp [h]
theorem apW (t:Tab) (D:Inode) (n:aA) {k:Nat} (h:t.sz<2^40) (hD:D.sz<2^40) (hu:UpI t.inodes) (hk:b9 t D.ino=some k) :
  bC Tryz.prog 65 [aoS D n,t.x] (aG t (cF D n)).o [.undef,.undef]:=by
 obtain ⟨h1,h2,h3⟩:=dU hD
 have hF:=ape (fun v=>aqd v D n) D.ents (by omega)
 rw [aqr] at hF
 have hS:=ajf t (cF D n) h (lI4 (v6 D n) hD) hu hk
 unfold aoS
 refine U apF [(124,[.m,.b],[])] 31 [] fun w hP hQ=>?_
 unfold aoX
 refine N ?_
 refine K (akZ D.ents (by omega)) ?_
 refine K (hF) ?_
 exact K (hS) trivial
theorem aqh (t:Tab) (s:aA) (h:t.sz<2^30) (hs:s.length<2^40):bC Tryz.prog 16 [t.x,.str s] (.tup [(fV t s).1.o,.int .i64 (fV t s).2]) [.undef,.undef]:=by
 have h':t.sz<2^40:=by omega
 have hC:=agL t h'
 have hR:=aoh t [s] h' (by simp) (by simpa using hs)
 have hS:=aow s
 simp only [lO4,List.all_nil,Bool.and_true,lP,lA2,dB] at hR
 by_cases hc:bJ t=true∧jA s=true
 ·obtain ⟨hB,hsb⟩:=hc
  rw [hsb] at hS
  have hp:gT s=true:=by cases e:gT s <;> simp_all
  have hne:decide (s=[47])=false:=by cases e:decide (s=[47]) <;> simp_all
  rw [hp,hB] at hR
  have hF:=ap2 t s h' hs
  cases hX:mN t s with
  | error c=>
   have hc:decide (c=0)=false:=lB (tL hX)
   have e:fV t s=(t,c):=by rw [fV,lG ⟨hB,hsb⟩,hX]
   rw [hX] at hF
   rw [e]
   simp only [exC] at hF
   refine U x1 [] 503 [] fun w hP hQ=>?_
   unfold m5
   refine N ?_
   refine K (hC) ?_
   have hz:=hne
   refine Kz (hR) ?_
   (first|refine cI hP (hF) rfl rfl ?_|refine cH hP (hF) rfl rfl ?_)
   have hz:=hc
   refine Nz ?_
   first|exact trivial|rfl
  | ok X=>
   obtain ⟨D,kD,kX,d1,d2,d3,d4,d5,d6⟩:=ajg hB hsb hX
   obtain ⟨f1,f2⟩:=c9 hX
   have zX:=yX h' (aR f1).2
   have zD:=(aR (i7 d1).1).2
   have hSp:=an9 t s h' hs
   have zt:(aG t (cF D (aW s))).sz<2^40:=by
    have:=n8 t (cF D (aW s))
    have:=v6 D (aW s)
    have:=(cZ h).2 D (aM zD).1
    omega
   have hL:=apW t D (aW s) h' (yX h' zD) (g9 hB) d3
   have hD:=ao9 (aG t (cF D (aW s))) X.ino zt
   have hI:=ajf (aG t (cF D (aW s))) (pU X) zt zX (f4 (g9 hB) _) d4
   rw [hX] at hF
   rw [d1] at hSp
   have e:fV t s=(bZ t D (aW s) X,0):=by rw [fV,lG ⟨hB,hsb⟩,hX,d1]; rfl
   rw [f1] at hF
   simp only [exC,exI,exN] at hF hSp
   unfold aov at hSp
   unfold aoS at hL
   rw [e,bZ]
   by_cases h1:X.links=1
   ·have h1':decide (X.links-1=0)=true:=lE (by omega)
    rw [lG h1]
    refine U x1 [] 503 [] fun w hP hQ=>?_
    unfold m5
    refine N ?_
    refine K (hC) ?_
    have hz:=hne
    refine Kz (hR) ?_
    refine K (hF) ?_
    refine K (hSp) ?_
    have hz:=h1'
    refine Kz (hL) ?_
    exact K (hD) trivial
   ·have h1':decide (X.links-1=0)=false:=lB (by omega)
    rw [lJ h1]
    refine U x1 [] 503 [] fun w hP hQ=>?_
    unfold m5
    refine N ?_
    refine K (hC) ?_
    have hz:=hne
    refine Kz (hR) ?_
    refine K (hF) ?_
    refine K (hSp) ?_
    have hz:=h1'
    refine Kz (hL) ?_
    exact K (hI) trivial
 ·have e:fV t s=(t,1):=by rw [fV,lJ hc]
  rw [e]
  cases hp:(gT s && bJ t) with
  | false=>
   rw [hp] at hR
   refine U x1 [] 503 [] fun w hP hQ=>?_
   unfold m5
   refine N ?_
   refine K (hC) ?_
   (first|refine cI hP (hR) rfl rfl ?_|refine cH hP (hR) rfl rfl ?_)
   refine N ?_
   first|exact trivial|rfl
  | true=>
   have hne:decide (s=[47])=true:=by
    cases e:decide (s=[47]) with
    | true=>rfl
    | false=>
     simp only [lM] at hp
     rw [hp.1,e] at hS
     exact absurd ⟨hp.2,hS⟩ hc
   rw [hp] at hR
   refine U x1 [] 503 [] fun w hP hQ=>?_
   unfold m5
   refine N ?_
   refine K (hC) ?_
   (first|refine cI hP (hR) rfl rfl ?_|refine cH hP (hR) rfl rfl ?_)
   have hz:=hne
   refine Nz ?_
   first|exact trivial|rfl
theorem ap3 (t:Tab) (s:aA) (h:t.sz<2^30) (hs:s.length<2^40):bC Tryz.prog 17 [t.x,.str s] (.tup [(iZ t s).1.o,.int .i64 (iZ t s).2]) [.undef,.undef]:=by
 have h':t.sz<2^40:=by omega
 have hC:=agL t h'
 have hR:=aoh t [s] h' (by simp) (by simpa using hs)
 have hS:=aow s
 simp only [lO4,List.all_nil,Bool.and_true,lP,lA2,dB] at hR
 by_cases hc:bJ t=true∧jA s=true
 ·obtain ⟨hB,hsb⟩:=hc
  rw [hsb] at hS
  have hp:gT s=true:=by cases e:gT s <;> simp_all
  have hne:decide (s=[47])=false:=by cases e:decide (s=[47]) <;> simp_all
  rw [hp,hB] at hR
  have hF:=am2 t s h' hs
  cases hX:cJ t s with
  | error c=>
   have hc:decide (c=0)=false:=lB (mP hX)
   have e:iZ t s=(t,c):=by rw [iZ,lG ⟨hB,hsb⟩,hX]
   rw [hX] at hF
   rw [e]
   simp only [exI,exC] at hF
   refine U kT [] 503 [] fun w hP hQ=>?_
   unfold kN
   refine N ?_
   refine K (hC) ?_
   have hz:=hne
   refine Kz (hR) ?_
   (first|refine cI hP (hF) rfl rfl ?_|refine cH hP (hF) rfl rfl ?_)
   have hz:=hc
   refine Nz ?_
   all_goals first|exact trivial|rfl|exact ⟨rfl,rfl⟩
  | ok X=>
   have e0:iZ t s=if X.kind=2 then (if X.ents=[] then (jP (aG t (cF (exI (eN t s)) (aW s))) X.ino,0) else (t,6)) else (t,3):=by rw [iZ,lG ⟨hB,hsb⟩,hX]
   rw [hX] at hF
   rw [e0]
   simp only [exI,exC] at hF
   by_cases g1:X.kind=2
   ·have g1':decide (X.kind=2)=true:=lE g1
    rw [lG g1]
    by_cases g2:X.ents=[]
    ·have g2':decide ((0:Int)<(X.ents.length:Nat))=false:=lB (by rw [g2]; simp)
     obtain ⟨D,d1⟩:=afo hB hsb hX
     rw [lG g2,d1]
     simp only [exI]
     have zD:=(aR (i7 d1).1).2
     obtain ⟨kD,d3⟩:=pB zD
     have zt:(aG t (cF D (aW s))).sz<2^40:=by
      have:=n8 t (cF D (aW s))
      have:=v6 D (aW s)
      have:=(cZ h).2 D (aM zD).1
      omega
     have hSp:=an9 t s h' hs
     have hL:=apW t D (aW s) h' (yX h' zD) (g9 hB) d3
     have hD:=ao9 (aG t (cF D (aW s))) X.ino zt
     rw [d1] at hSp
     simp only [exC,exI,exN] at hSp
     unfold aov at hSp
     unfold aoS at hL
     refine U kT [] 503 [] fun w hP hQ=>?_
     unfold kN
     refine N ?_
     refine K (hC) ?_
     have hz:=hne
     refine Kz (hR) ?_
     have hz:=And.intro g1' g2'
     refine Kz (hF) ?_
     refine K (hSp) ?_
     refine K (hL) ?_
     (first|refine cI hP (hD) rfl rfl ?_|refine cH hP (hD) rfl rfl ?_)
     refine N ?_
     all_goals first|exact trivial|rfl|exact ⟨rfl,rfl⟩
    ·have g2':decide ((0:Int)<(X.ents.length:Nat))=true:=lE (by have:=lE3.2 g2; omega)
     rw [lJ g2]
     refine U kT [] 503 [] fun w hP hQ=>?_
     unfold kN
     refine N ?_
     refine K (hC) ?_
     have hz:=hne
     refine Kz (hR) ?_
     (first|refine cI hP (hF) rfl rfl ?_|refine cH hP (hF) rfl rfl ?_)
     have hz:=And.intro g1' g2'
     refine Nz ?_
     all_goals first|exact trivial|rfl|exact ⟨rfl,rfl⟩
   ·have g1':decide (X.kind=2)=false:=lB g1
    rw [lJ g1]
    refine U kT [] 503 [] fun w hP hQ=>?_
    unfold kN
    refine N ?_
    refine K (hC) ?_
    have hz:=hne
    refine Kz (hR) ?_
    (first|refine cI hP (hF) rfl rfl ?_|refine cH hP (hF) rfl rfl ?_)
    have hz:=g1'
    refine Nz ?_
    all_goals first|exact trivial|rfl|exact ⟨rfl,rfl⟩
 ·have e:iZ t s=(t,1):=by rw [iZ,lJ hc]
  rw [e]
  cases hp:(gT s && bJ t) with
  | false=>
   rw [hp] at hR
   refine U kT [] 503 [] fun w hP hQ=>?_
   unfold kN
   refine N ?_
   refine K (hC) ?_
   (first|refine cI hP (hR) rfl rfl ?_|refine cH hP (hR) rfl rfl ?_)
   refine N ?_
   all_goals first|exact trivial|rfl|exact ⟨rfl,rfl⟩
  | true=>
   have hne:decide (s=[47])=true:=by
    cases e:decide (s=[47]) with
    | true=>rfl
    | false=>
     simp only [lM] at hp
     rw [hp.1,e] at hS
     exact absurd ⟨hp.2,hS⟩ hc
   rw [hp] at hR
   refine U kT [] 503 [] fun w hP hQ=>?_
   unfold kN
   refine N ?_
   refine K (hC) ?_
   (first|refine cI hP (hR) rfl rfl ?_|refine cH hP (hR) rfl rfl ?_)
   have hz:=hne
   refine Nz ?_
   all_goals first|exact trivial|rfl|exact ⟨rfl,rfl⟩
theorem aqi (v:Value) (b:aA) (hl:b.length<2^48):∃ (t:Tab) (p q:aA),bJ t=true∧p.length≤450∧q.length≤30∧bC Tryz.prog 13 [.extv v 1 (aO b)] (.tup [t.o,.str p,.str q]) [.undef]:=by
 obtain ⟨h0,k0⟩:=aox v b hl
 obtain ⟨t,i1,h1,ht,hi1,k1⟩:=aoi v b 0 h0 16 hl (by omega) (by omega)
 have hz:=agz ht
 obtain ⟨p,i2,h2,hp,hi2,k2⟩:=ali v b i1 h1 t hl hi1 (by omega)
 obtain ⟨q,i3,h3,hq,hi3,k3⟩:=aft v b i2 h2 hl hi2
 refine ⟨t,p,q,ht,hp,hq,?_⟩
 unfold cur at *
 refine U ap7 [(999999,[],[(5,0)]),(57,[.l,.b],[]),(58,[.l,.b],[]),(59,[.l],[])] 125 [] fun w hP hQ=>?_
 unfold aph
 refine N ?_
 (first | refine aI hP (k0) (.inl ⟨rfl,fun _ hx=>hx⟩) ?_ | refine aF hP (k0) (.inl ⟨rfl,fun _ hx=>hx⟩) ?_)
 refine N ?_
 (first | refine aI hP (k1) (.inl ⟨rfl,fun _ hx=>hx⟩) ?_ | refine aF hP (k1) (.inl ⟨rfl,fun _ hx=>hx⟩) ?_)
 refine N ?_
 (first | refine aI hP (k2) (.inl ⟨rfl,fun _ hx=>hx⟩) ?_ | refine aF hP (k2) (.inl ⟨rfl,fun _ hx=>hx⟩) ?_)
 refine N ?_
 (first | refine aI hP (k3) (.inl ⟨rfl,fun _ hx=>hx⟩) ?_ | refine aF hP (k3) (.inl ⟨rfl,fun _ hx=>hx⟩) ?_)
 exact N trivial
section
open Go.Proofs Go.Shelf Go.RowKit Go.Lib
theorem gE {P:Program} (s:Nat) (w:World) (dT sT ty e:TypeId) (b o dLen dCap:Nat) (a:Addr) (sLen sCap:Nat) (cs:List Value) (hu:P.underlying dT=some (.slice e)) (hs:(P.info? e).map (·.size)=some s)
  (hl:cs.length=(sLen.min dLen)*s) (hc:∀ (j:Nat) (v:Value),cs[j]?=some v→w.cell? (a.add j)=some v) (hd:∀ j,j<cs.length→(w.cell? ⟨b,o+j,none⟩).isSome=true) (hf:∀ j,j<cs.length→w.frozen? ⟨b,o+j,none⟩=false)
  (h1:∀ v ∈ cs,v.oneCell'=true) :
  (Builtin.copy_ #[dT,sT] ty #[.slice (some ⟨b,o,none⟩) dLen dCap,.slice (some a) sLen sCap]).run P w=.ok (goInt (sLen.min dLen:Nat)) (w.setCells b o cs):=by
 have hst:=run_storeCells_cells (P:=P) b o cs 0 w (by simpa using hd) (by simpa using hf) h1
 simp only [lM3] at hst
 have hfc:(Builtin.firstCells s (Nat.min sLen dLen) (.slice (some a) sLen sCap)).run P w=.ok cs.toArray w:=run_firstCells_some w s (sLen.min dLen) a sLen sCap cs hl hc
 have hrun:=ahB (P:=P) (w:=w) (ts:=#[dT,sT]) (ty:=ty) (t:=dT) rfl hu (show o6 P e=some s from hs) (some ⟨b,o,none⟩) (some a) dLen dCap sLen sCap cs hfc (w':=w.setCells b o cs) (fun ad had=>by cases had; exact hst) (fun h=>by cases h)
 exact hrun
theorem apX {α:Type} (L:List α) (m:Nat) (l:List α) (h:m+l.length≤L.length) (k:Nat):(lay L m l)[k]?=if m≤k∧k<m+l.length then l[k-m]? else L[k]?:=by
 unfold lay
 rw [lG2]
 by_cases h1:k<m
 ·rw [lF3 (by rw [lR]; omega),lP1,lG h1,lJ (by omega)]
 ·rw [uB1 (by rw [lR]; omega),lR,lL1 (by omega)]
  by_cases h2:k<m+l.length
  ·rw [lF3 (by omega),lG ⟨by omega,h2⟩]
  ·rw [uB1 (by omega),lH2,lJ (by omega)]; congr 1; omega
theorem aqj {cs vs:List Value} {a s:Nat} (hv:vs.length=s) (ha:a≤cs.length) (k:Nat):(cs.take a++(vs++cs.drop a))[k]?=if k<a then cs[k]? else if k<a+s then vs[k-a]? else cs[k-s]?:=by
 by_cases h1:k<a
 ·rw [lF3 (by rw [lR]; omega),lP1,lG h1,lG h1]
 ·rw [uB1 (by rw [lR]; omega),lR,lL1 ha,lJ h1]
  by_cases h2:k<a+s
  ·rw [lF3 (by omega),lG h2]
  ·rw [uB1 (by omega),lH2,lJ h2]; congr 1; omega
structure InsAt (w w':World) (s n:Nat) (T:List Value) (B O cap:Nat):Prop where
 cell:∃ C ty fr,w'.heap[B]?=some (.cells C ty fr)∧thawS s C.size fr∧O+cap*s≤C.size∧∀ k,k<T.length→C[O+k]?=T[k]?
 room:n+1≤cap
 same:∀ b,b<w.heap.size→b≠B→w'.heap[b]?=w.heap[b]?
 grows:Grows w w'
theorem ao4 {w w0 w':World} {b off cap n i s:Nat} {C:Array Value} {ty:TypeId} {fr:Nat × Nat} {cs vs:List Value} (h0:w0.heap=w.heap) (h0k:Quiet w w0) (hb:w.heap[b]?=some (.cells C ty fr)) (hfr:thawS s C.size fr)
  (hcap:off+cap*s≤C.size) (hroom:n+1≤cap) (hi:i≤n) (hcs:cs.length=n*s) (hvs:vs.length=s) (hc:∀ k,k<cs.length→C[off+k]?=cs[k]?)
  (hw:w'=(w0.setCells b (off+(i+1)*s) (cs.drop (i*s))).setCells b (off+i*s) vs):InsAt w w' s n (cs.take (i*s)++(vs++cs.drop (i*s))) b off cap:=by
 obtain ⟨m,rfl⟩:∃ m,n=i+m:=⟨n-i,by omega⟩
 have hmul:(i+m+1)*s≤cap*s:=lH1 s hroom
 have hL:(i+m)*s=i*s+m*s:=lU2 _ _ _
 have hL1:(i+m+1)*s=i*s+m*s+s:=by rw [lU2,Nat.one_mul,hL]
 have hJ:(i+1)*s=i*s+s:=by rw [lU2,Nat.one_mul]
 have hnl:(cs.drop (i*s)).length=m*s:=by rw [lE2,hcs,hL]; omega
 rw [← h0] at hb
 obtain ⟨C1,hC1,hw1,ho1,hk1⟩:=mB b (cs.drop (i*s)) (off+(i+1)*s) w0 C ty fr hb (by rw [hnl,hJ]; omega)
 have hl1:off+(i+1)*s+(cs.drop (i*s)).length≤C.toList.length:=by rw [hnl,hJ,lN1]; omega
 have hs1:C1.size=C.size:=by
  have:C1.toList.length=C.toList.length:=by rw [hC1,jL _ _ _ hl1]
  simpa using this
 obtain ⟨C2,hC2,hw2,ho2,hk2⟩:=mB b vs (off+i*s) _ C1 ty fr hw1 (by rw [hs1,hvs]; omega)
 have hl2:off+i*s+vs.length≤C1.toList.length:=by rw [hvs,lN1,hs1]; omega
 have hs2:C2.size=C.size:=by
  have:C2.toList.length=C1.toList.length:=by rw [hC2,jL _ _ _ hl2]
  rw [← hs1]; simpa using this
 rw [← hw] at hw2 ho2 hk2
 refine ⟨⟨C2,ty,fr,hw2,by rw [hs2]; exact hfr,by rw [hs2]; exact hcap,fun k hk=>?_⟩,hroom,fun x _ hx=>?_,?_⟩
 ·rw [aqj hvs (by rw [hcs,hL]; omega),← lK2,hC2,apX _ _ _ hl2,hC1,apX _ _ _ hl1,hvs,hnl]
  have hk':k<i*s+m*s+s:=by
   simp only [lT,lR,hvs,hnl,hcs,hL] at hk; omega
  by_cases c1:k<i*s
  ·rw [lG c1,lJ (by omega),lJ (by omega),lK2,hc k (by rw [hcs,hL]; omega)]
  ·rw [lJ c1]
   by_cases c2:k<i*s+s
   ·rw [lG c2,lG (by omega)]; congr 1; omega
   ·rw [lJ c2,lJ (by omega),lG (by omega),lH2]; congr 1; omega
 ·rw [ho2 x hx,ho1 x hx,h0]
 ·refine ⟨by rw [hk2.size,hk1.size,h0]; exact lR1 _,⟨?_,?_⟩⟩
  ·exact hk2.quiet.os.trans (hk1.quiet.os.trans h0k.os)
  ·exact hk2.quiet.out.trans (hk1.quiet.out.trans h0k.out)
theorem r7 {w w':World} {n s cap:Nat} {ty:TypeId} {cs vs:List Value} {Z:Array Value} (hcs:cs.length=n*s) (hvs:vs.length=s) (hroom:n+1≤cap) (hZ:(n+1)*s+Z.size=cap*s)
  (hw:w'=w.drew.alloc (.cells ((cs++vs).toArray++Z) ty)):InsAt w w' s n (cs.take (n*s)++(vs++cs.drop (n*s))) w.heap.size 0 cap:=by
 subst hw
 have e:cs.take (n*s)++(vs++cs.drop (n*s))=cs++vs:=by rw [← hcs,lZ1,List.drop_length,lP2]
 rw [e]
 have hL1:(n+1)*s=n*s+s:=by rw [lU2,Nat.one_mul]
 have hp:(w.drew.alloc (.cells ((cs++vs).toArray++Z) ty)).heap=w.heap.push (.cells ((cs++vs).toArray++Z) ty):=rfl
 refine ⟨⟨(cs++vs).toArray++Z,ty,(0,0),by rw [hp]; simp,by intro o _ h; omega,?_,fun k hk=>?_⟩,hroom,fun b hb _=>?_,?_⟩
 ·rw [Array.size_append,List.size_toArray,lT,hcs,hvs]; omega
 ·rw [lI2,Array.getElem?_append_left (by simpa using hk)]; simp
 ·exact mA hp hb
 ·refine ⟨by rw [hp,Array.size_push]; omega,⟨rfl,rfl⟩⟩
theorem aqb {w w':World} {n i s cap:Nat} {ty:TypeId} {cs vs:List Value} {Z:Array Value} (hi:i≤n) (hcs:cs.length=n*s) (hvs:vs.length=s) (hroom:n+1≤cap) (hZ:i*s+Z.size=cap*s)
  (hw:w'=(((w.alloc (.cells ((cs.take (i*s)).toArray++Z) ty)).drew.setCells w.heap.size (i*s) vs).drew).setCells w.heap.size ((i+1)*s) (cs.drop (i*s))) :
  InsAt w w' s n (cs.take (i*s)++(vs++cs.drop (i*s))) w.heap.size 0 cap:=by
 obtain ⟨m,rfl⟩:∃ m,n=i+m:=⟨n-i,by omega⟩
 have hmul:(i+m+1)*s≤cap*s:=lH1 s hroom
 have hL:(i+m)*s=i*s+m*s:=lU2 _ _ _
 have hL1:(i+m+1)*s=i*s+m*s+s:=by rw [lU2,Nat.one_mul,hL]
 have hJ:(i+1)*s=i*s+s:=by rw [lU2,Nat.one_mul]
 have hnl:(cs.drop (i*s)).length=m*s:=by rw [lE2,hcs,hL]; omega
 obtain ⟨C,hC⟩:∃ C,C=(cs.take (i*s)).toArray++Z:=⟨_,rfl⟩
 have hsz:C.size=cap*s:=by
  rw [hC,Array.size_append,List.size_toArray,lR,hcs,hL,lL1 (by omega)]; exact hZ
 rw [← hC] at hw
 have hp:((w.alloc (.cells C ty)).drew).heap=w.heap.push (.cells C ty):=rfl
 have hb:((w.alloc (.cells C ty)).drew).heap[w.heap.size]?=some (.cells C ty (0,0)):=by rw [hp]; simp
 obtain ⟨C1,hC1,hw1,ho1,hk1⟩:=mB w.heap.size vs (i*s) _ C ty (0,0) hb (by rw [hsz,hvs]; omega)
 have hl1:i*s+vs.length≤C.toList.length:=by rw [hvs,lN1,hsz]; omega
 have hs1:C1.size=C.size:=by
  have:C1.toList.length=C.toList.length:=by rw [hC1,jL _ _ _ hl1]
  simpa using this
 obtain ⟨C2,hC2,hw2,ho2,hk2⟩:=mB w.heap.size (cs.drop (i*s)) ((i+1)*s) (((w.alloc (.cells C ty)).drew.setCells w.heap.size (i*s) vs).drew) C1 ty (0,0) hw1 (by rw [hs1,hsz,hnl,hJ]; omega)
 have hl2:(i+1)*s+(cs.drop (i*s)).length≤C1.toList.length:=by rw [hnl,hJ,lN1,hs1,hsz]; omega
 have hs2:C2.size=C.size:=by
  have:C2.toList.length=C1.toList.length:=by rw [hC2,jL _ _ _ hl2]
  rw [← hs1]; simpa using this
 rw [← hw] at hw2 ho2 hk2
 refine ⟨⟨C2,ty,(0,0),hw2,by intro o _ h; omega,by rw [hs2,hsz]; omega,fun k hk=>?_⟩,hroom,fun x hx hne=>?_,?_⟩
 ·rw [lI2,aqj hvs (by rw [hcs,hL]; omega),← lK2,hC2,apX _ _ _ hl2,hC1,apX _ _ _ hl1,hvs,hnl]
  have hk':k<i*s+m*s+s:=by
   simp only [lT,lR,hvs,hnl,hcs,hL] at hk; omega
  by_cases c1:k<i*s
  ·rw [lG c1,lJ (by omega),lJ (by omega),lK2,hC,Array.getElem?_append_left (by rw [List.size_toArray,lR,hcs,hL]; omega)]
   rw [List.getElem?_toArray,lP1,lG c1]
  ·rw [lJ c1]
   by_cases c2:k<i*s+s
   ·rw [lG c2,lJ (by omega),lG (by omega)]
   ·rw [lJ c2,lG (by omega),lH2]; congr 1; omega
 ·rw [ho2 x hne]
  show (((w.alloc (.cells C ty)).drew).setCells w.heap.size (i*s) vs).heap[x]?=_
  rw [ho1 x hne]
  exact mA hp hx
 ·have h1:(((w.alloc (.cells C ty)).drew).setCells w.heap.size (i*s) vs).drew.heap.size=w.heap.size+1:=by
   show (((w.alloc (.cells C ty)).drew).setCells w.heap.size (i*s) vs).heap.size=_
   rw [hk1.size,hp,Array.size_push]
  refine ⟨by rw [hk2.size,h1]; omega,⟨?_,?_⟩⟩
  ·rw [hk2.quiet.os]; show (((w.alloc (.cells C ty)).drew).setCells w.heap.size (i*s) vs).os=_; rw [hk1.quiet.os]; rfl
  ·rw [hk2.quiet.out]; show (((w.alloc (.cells C ty)).drew).setCells w.heap.size (i*s) vs).output=_; rw [hk1.quiet.out]; rfl
theorem aqc {P:Program} {f s:Nat} {es:List (List TV)} {x:List TV} {i:Nat} (hE:p9 P f) (hs:∀ r ∈ es,r.length=s) (hx:x.length=s) (hk:es.flatten.all fG=true) (hkx:x.all fG=true) (hi:i≤es.length)
  (run:∀ (w:World) (base:Option Addr) (c:Nat) (cs vs:List Value) (vb voff vc:Nat) (Cv:Array Value) (tv:TypeId) (frv:Nat × Nat),cs.length=es.length*s→vs.length=s→es.length≤c→(base=none→es.length=0∧c=0) →
   (∀ a,base=some a→∃ b off C ty fr,a=⟨b,off,none⟩∧b≠vb∧w.heap[b]?=some (.cells C ty fr)∧thawS s C.size fr∧off+c*s≤C.size∧∀ k,k<cs.length→C[off+k]?=cs[k]?) →
   w.heap[vb]?=some (.cells Cv tv frv)→thawS s Cv.size frv→voff+vc*s≤Cv.size→1≤vc→(∀ k,k<vs.length→Cv[voff+k]?=vs[k]?)→(∀ u ∈ cs,u.oneCell'=true)→(∀ u ∈ vs,u.oneCell'=true) →
   Calls P f #[.slice base es.length c,.int .i64 i,.slice (some ⟨vb,voff,none⟩) 1 vc] w fun e w'=>∃ B O cap,e=.returned (.slice (some ⟨B,O,none⟩) (es.length+1) cap) ∧
    InsAt w w' s es.length (cs.take (i*s)++(vs++cs.drop (i*s))) B O cap∧((∃ a,base=some a∧B=a.block)∨B=w.heap.size)) :
  bC P f [.own s es,.int .i64 i,.own s [x]] (.own s (es.take i++x::es.drop i)) [.undef,.undef,.undef]:=by
 refine ⟨hE,rfl,?_⟩
 intro w zs F X r h1 h2 h3
 cases r with
 | own _ F1 F2 _ s es v zs ys hr hn hF=>
 cases hn with
 | int _ _ _ _ zs _ hn=>
 cases hn with
 | own _ H1 H2 _ _ _ v2 zs2 ys2 hr2 hn2 hF2=>
 cases hn2 with
 | nil _ _ hz hX=>
 rcases Row.sl_inv hr2 with ⟨_,he,_⟩ | ⟨Gv,vb,voff,vc,Cv,tv,frv,vs,rfl,hvb,hvfr,hvcap,hvle,hves,hvcs,hvc,hvrow,hvF⟩
 ·exact absurd he (by simp)
 have hvl:vs.length=s:=by simpa using hvcs
 have e1:[x].flatten=x:=by simp
 rw [e1] at hvrow
 have hbase:∃ (base:Option Addr) (c:Nat) (cs:List Value) (Gs:aK),v=.slice base es.length c∧cs.length=es.length*s∧es.length≤c∧(base=none→es.length=0∧c=0)∧Row w true Gs cs es.flatten ∧
   (∀ a,base=some a→∃ b off C ty fr,a=⟨b,off,none⟩∧b≠vb∧w.heap[b]?=some (.cells C ty fr)∧thawS s C.size fr∧off+c*s≤C.size∧∀ k,k<cs.length→C[off+k]?=cs[k]?) ∧
   (∀ b,Gs b≤F1 b)∧(∀ a b,base=some a→b=a.block→Gs b+1≤F1 b):=by
  rcases Row.sl_inv hr with ⟨rfl,rfl,h0⟩ | ⟨G1,b,off,cap,C,ty,fr,cs,rfl,hb,hfr,hcap,hle,hes,hcs,hc,hrow,hG⟩
  ·exact ⟨none,0,[],fun _=>0,rfl,by simp,lR1 _,fun _=>⟨rfl,rfl⟩,.nil _ _ fun _=>rfl,fun a h=>(by cases h),fun b=>lD3 _,fun a b h=>(by cases h)⟩
  ·refine ⟨_,cap,cs,G1,rfl,hcs,hle,fun h=>(by cases h),hrow,fun a ha=>?_,fun x=>(by rw [hG]; omega),fun a x ha hx=>?_⟩
   ·injection ha with ha
    refine ⟨b,off,C,ty,fr,ha.symm,?_,hb,hfr,hcap,hc⟩
    intro e
    have a1:=h1 b
    have a2:=hF b
    have a3:=hF2 b
    have a4:=hvF b
    have a5:=hG b
    rw [lG e] at a4
    rw [lG rfl] at a5
    omega
   ·injection ha with ha
    have hxb:x=b:=by rw [hx,← ha]
    have:=hG x
    rw [lG hxb] at this
    show G1 x+1≤F1 x
    omega
 obtain ⟨base,c,cs,Gs,rfl,hcs,hle,hnil,hrow,hsome,hGF,hGb⟩:=hbase
 refine (run w base c cs vs vb voff vc Cv tv frv hcs hvl hle hnil hsome hvb hvfr hvcap (by simpa using hvle) hvc (t7 hrow hk) (t7 hvrow hkx)).mono ?_
 rintro e w' ⟨B,O,cap,rfl,I,hB⟩
 have l1:(es.take i).flatten.length=i*s:=by rw [cA _ (fun e he=>hs e (lY1 he)),lR,lL1 hi]
 have hii:i*s≤es.length*s:=lH1 s hi
 have efl:es.flatten=(es.take i).flatten++(es.drop i).flatten:=by rw [← lW1,lH]
 have ecs:cs=cs.take (i*s)++cs.drop (i*s):=(lH _ _).symm
 have hrow':Row w true Gs (cs.take (i*s)++cs.drop (i*s)) ((es.take i).flatten++(es.drop i).flatten):=by rw [← ecs,← efl]; exact hrow
 obtain ⟨A1,A2,r1,r2,eA⟩:=Row.split (cs.take (i*s)) _ (by rw [l1,lR,hcs]; omega) hrow'
 have rnew:Row w true (fun b=>A1 b+(Gv b+A2 b)) (cs.take (i*s)++(vs++cs.drop (i*s))) (es.take i++x::es.drop i).flatten:=by
  rw [lW1,lV2]
  exact Row.append r1 (Row.append hvrow r2 (fun _=>rfl)) (fun _=>rfl)
 have hlt:=Row.lt rnew rfl
 have hGle:∀ b,A1 b+(Gv b+A2 b)≤F b:=fun b=>by have:=hF b; have:=hF2 b; have:=hvF b; have:=eA b; have:=hGF b; omega
 have hBl:∀ b,(if b=B then 1 else 0)+(A1 b+(Gv b+A2 b))≤1:=by
  intro b
  have f1:=h1 b
  by_cases e:b=B
  ·rw [lG e]
   rcases hB with ⟨a,ha,hBa⟩ | hB
   ·have:=hGb a b ha (e.trans hBa)
    have:=hF b; have:=hF2 b; have:=hvF b; have:=eA b
    omega
   ·have:¬ (A1 b+(Gv b+A2 b)≠0):=fun h=>by have:=hlt b h; omega
    omega
  ·rw [lJ e]; have:=hGle b; omega
 have hsame:l4 w w' (fun b=>A1 b+(Gv b+A2 b)):=fun b hb=>by
  refine I.same b (hlt b hb) (fun e=>?_)
  have:=hBl b
  rw [lG e] at this
  (try dsimp only at hb); omega
 obtain ⟨C,ty,fr,hC1,hC2,hC3,hC4⟩:=I.cell
 have hTl:(cs.take (i*s)++(vs++cs.drop (i*s))).length=(es.take i++x::es.drop i).length*s:=by
  have g1:(es.take i++x::es.drop i).length=es.length+1:=by simp; omega
  rw [g1]
  simp only [lT,lR,lE2,hvl,hcs,lU2,Nat.one_mul]
  omega
 have hnew:Row w' true (fun b=>(if b=B then 1 else 0)+(A1 b+(Gv b+A2 b))) [.slice (some ⟨B,O,none⟩) (es.length+1) cap] [.sl s (es.take i++x::es.drop i)]:=
  Row.of_sl (F1:=fun b=>A1 b+(Gv b+A2 b)) (by simp; omega) hC1 hC2 hC3 (by have:=I.room; simp; omega)
   (fun r hr=>by
    rcases lI.1 hr with hr | hr
    ·exact hs r (lY1 hr)
    ·rcases lF.1 hr with rfl | hr
     ·exact hx
     ·exact hs r (lB3 hr)) hTl hC4 (rnew.same hsame) (fun _=>rfl)
 have hBF:∀ b,b=B→F b≠0∨w.heap.size≤b:=by
  intro b e
  rcases hB with ⟨a,ha,hBa⟩ | hB
  ·left
   have:=hGb a b ha (e.trans hBa)
   have:=hF b
   omega
  ·right; omega
 refine ⟨_,fun b=>(if b=B then 1 else 0)+(A1 b+(Gv b+A2 b)),X,rfl,?_,hBl,fun b=>.inr (hX b),I.grows,fun b hb h0=>?_,fun b hb=>?_,fun b hb=>absurd (hX b) hb⟩
 ·exact .own _ (fun b=>(if b=B then 1 else 0)+(A1 b+(Gv b+A2 b))) (fun _=>0) X s _ _ _ _ hnew (.undef _ _ _ _ _ (.undef _ _ _ _ _ (.undef _ _ _ _ _ (.nil _ _ (fun _=>rfl) hX)))) (fun x=>by simp)
 ·refine I.same b hb fun e=>?_
  rcases hBF b e with h | h
  ·exact h h0
  ·omega
 ·by_cases e:b=B
  ·exact hBF b e
  ·left
   (try dsimp only at hb)
   rw [lJ e] at hb
   have:=hGle b
   omega
end
section
open Go.Proofs Go.Shelf Go.RowKit Go.Lib
set_option maxHeartbeats 4000000 in
set_option maxRecDepth 100000 in
theorem ao5 (b off n c i vb voff vc:Nat) (cs vs:List Value) (w:World) (hi:i<n) (hroom:n+1≤c) (hc63:n+1≤9223372036854775807) (hvb:vb≠b)
  (hcl:cs.length=n*6) (hvl:vs.length=6)
  (hcs:∀ (j:Nat) (v:Value),cs[j]?=some v→w.cell? ⟨b,off+j,none⟩=some v) (hsp:∀ j,j<(n+1)*6→(w.cell? ⟨b,off+j,none⟩).isSome=true) (hfz:∀ j,j<(n+1)*6→w.frozen? ⟨b,off+j,none⟩=false)
  (hvs:∀ (j:Nat) (v:Value),vs[j]?=some v→w.cell? ⟨vb,voff+j,none⟩=some v) (h1c:∀ v ∈ cs,v.oneCell'=true) (h1v:∀ v ∈ vs,v.oneCell'=true)
  (tA tB:TypeId) (kA kB:Nat) (hsa:w.shape? vb=some (tA,kA)) (hsb:w.shape? b=some (tB,kB)) (hkB:kB≠0) (hfa:w.frozen? ⟨vb,voff,none⟩=false) (hfe:w.frozen? ⟨vb,kA,none⟩=false) :
  Calls Tryz.prog 131 #[.slice (some ⟨b,off,none⟩) n c,.int .i64 i,.slice (some ⟨vb,voff,none⟩) 1 vc] w fun e w'=>
   e=.returned (.slice (some ⟨b,off,none⟩) (n+1) c)∧w'=(w.drew.setCells b (off+(i+1)*6) (cs.drop (i*6))).setCells b (off+i*6) vs:=by
 have mixed:Tryz.prog.follows .mixedOrders=true:=by kernel_rfl
 have t0:=Tryz.underlying0
 have a0:=Tryz.isAgg0
 have z0:=Tryz.sizeOf0
 have v0:=Tryz.zeroValue0
 have t3:=Tryz.underlying3
 have a3:=Tryz.isAgg3
 have z3:=Tryz.sizeOf3
 have v3:=Tryz.zeroValue3
 have t4:=Tryz.underlying4
 have a4:=Tryz.isAgg4
 have z4:=Tryz.sizeOf4
 have v4:=Tryz.zeroValue4
 have t24:=Tryz.underlying24
 have a24:=Tryz.isAgg24
 have z24:=Tryz.sizeOf24
 have v24:=Tryz.zeroValue24
 have v73:=Tryz.zeroValue73
 have u24:=run_underlying t24
 have u3:=run_underlying t3
 have u4:=run_underlying t4
 have hsz:(Tryz.prog.info? 73).map (·.size)=some 6:=by kernel_rfl
 have hov:∀ lb cb,(callFunc 180 #[.slice (some ⟨vb,voff,none⟩) 1 vc,.slice (some ⟨b,off+(i+1)*6,none⟩) lb cb]).run Tryz.prog w=.ok (.value (.bool false)) w:=fun lb cb=>by
  rw [run_callFunc_extern Tryz.func180 (by kernel_rfl) (by kernel_rfl) (by kernel_rfl) (e:=Extern.SlicesOverlaps.overlaps #[24,24] #[4]) (by kernel_rfl),
   Lib.run_overlaps_apart w 24 4 73 t24 6 Tryz.sizeOf73 ⟨vb,voff,none⟩ ⟨b,off+(i+1)*6,none⟩ 1 vc lb cb hvb tA tB kA kB hsa hsb hkB hfa hfe]
  rfl
 have hdl:(cs.drop (i*6)).length=(n-i)*6:=by rw [lE2,hcl]; omega
 have hw1:IntKind.i64.wrap ((i:Int)+1)=(i:Int)+1:=by rw [IntKind.wrap_i64]; omega
 have hb1:(0:Int)≤(i:Int)+1:=by omega
 have hin:i≤n:=by omega
 have htn:((i:Int)+1).toNat=i+1:=by omega
 have hb2:¬ (c=i+1):=by omega
 have hb3:(i:Int)≤(n:Int)+1:=by omega
 have hb4:¬ (c=i):=by omega
 have hz2:¬ ((i:Int)=(n:Int)):=by omega
 have mn1:(n+1-i).min (n-i)=n-i:=by show min _ _=_; omega
 have mn2:(1:Nat).min (n+1-i)=1:=by show min _ _=_; omega
 have hcp1:∀ ty dc sc,(Builtin.copy_ #[24,24] ty #[.slice (some ⟨b,off+(i+1)*6,none⟩) (n-i) dc,.slice (some ⟨b,off+i*6,none⟩) (n+1-i) sc]).run Tryz.prog w.drew=.ok (goInt (n-i:Nat)) (w.drew.setCells b (off+(i+1)*6) (cs.drop (i*6))):=fun ty dc sc=>by
  have:=gE (P:=Tryz.prog) 6 w.drew 24 24 ty 73 b (off+(i+1)*6) (n-i) dc ⟨b,off+i*6,none⟩ (n+1-i) sc (cs.drop (i*6)) t24 hsz (by rw [hdl,mn1])
   (fun j v hj=>by rw [Addr.add_lit,uA1]; exact hcs (i*6+j) v (by rwa [lH2] at hj))
   (fun j hj=>by rw [uA1]; exact hsp _ (by omega)) (fun j hj=>by rw [uA1]; exact hfz _ (by omega)) (fun v hv=>h1c v (lB3 hv))
  rw [this,mn1]
 obtain ⟨W1,hW1⟩:∃ W1,W1=w.drew.setCells b (off+(i+1)*6) (cs.drop (i*6)):=⟨_,rfl⟩
 have hsp1:∀ k,k<(n+1)*6→(W1.cell? ⟨b,off+k,none⟩).isSome=true:=fun k hk=>by
  rw [hW1]
  exact World.isSome_setCells _ _ _ _ _ (hsp k hk)
 have hcp2:∀ (W:World),(∀ x,W.cell? x=W1.cell? x)→(∀ x,W.frozen? x=W1.frozen? x)→∀ ty dc,(Builtin.copy_ #[24,24] ty #[.slice (some ⟨b,off+i*6,none⟩) (n+1-i) dc,.slice (some ⟨vb,voff,none⟩) 1 vc]).run Tryz.prog W=.ok (goInt (1:Nat)) (W.setCells b (off+i*6) vs):=fun W hWc hWf ty dc=>by
  have:=gE (P:=Tryz.prog) 6 W 24 24 ty 73 b (off+i*6) (n+1-i) dc ⟨vb,voff,none⟩ 1 vc vs t24 hsz (by rw [hvl,mn2])
   (fun j v hj=>by
    rw [Addr.add_lit,hWc,hW1,World.cell?_setCells_out b _ _ _ _ (fun h _=>absurd h hvb)]
    exact hvs j v hj)
   (fun j hj=>by rw [hWc,uA1]; exact hsp1 _ (by omega)) (fun j hj=>by rw [hWf,hW1,World.frozen?_setCells,uA1]; exact hfz _ (by omega)) h1v
  rw [this,mn2]
 rw [← hW1] at hcp1
 go_enter Tryz.func131,Tryz.ntmps131
 go_wp2_with (simp only [hov])
 go_region_law_o (refine step_copy_runI rfl _ _ 24 24 rfl _ _ (by simp [Act.eval,Act.put]) (by simp [Act.eval,Act.put]) (hcp1 _ _ _) ?_)
 go_wp2_with (at_builtin; refine wpList_copy_runI _ rfl _ _ 24 24 rfl _ _ rfl rfl (hcp2 _ (fun _=>rfl) (fun _=>rfl) _ _) ?_)
 go_ret
 first | exact ⟨rfl,rfl⟩ | exact ⟨rfl,by rw [hW1]⟩
set_option maxHeartbeats 4000000 in
set_option maxRecDepth 100000 in
theorem aoV (b off n c vb voff vc:Nat) (vs:List Value) (w:World) (hroom:n+1≤c) (hc63:n+1≤9223372036854775807)
  (hvl:vs.length=6) (hsp:∀ j,j<6→(w.cell? ⟨b,off+n*6+j,none⟩).isSome=true) (hfz:∀ j,j<6→w.frozen? ⟨b,off+n*6+j,none⟩=false)
  (hvs:∀ (j:Nat) (v:Value),vs[j]?=some v→w.cell? ⟨vb,voff+j,none⟩=some v) (h1v:∀ v ∈ vs,v.oneCell'=true) :
  Calls Tryz.prog 131 #[.slice (some ⟨b,off,none⟩) n c,.int .i64 n,.slice (some ⟨vb,voff,none⟩) 1 vc] w fun e w'=>
   e=.returned (.slice (some ⟨b,off,none⟩) (n+1) c)∧w'=w.setCells b (off+n*6) vs:=by
 have mixed:Tryz.prog.follows .mixedOrders=true:=by kernel_rfl
 have t0:=Tryz.underlying0
 have a0:=Tryz.isAgg0
 have z0:=Tryz.sizeOf0
 have v0:=Tryz.zeroValue0
 have t3:=Tryz.underlying3
 have a3:=Tryz.isAgg3
 have z3:=Tryz.sizeOf3
 have v3:=Tryz.zeroValue3
 have t4:=Tryz.underlying4
 have a4:=Tryz.isAgg4
 have z4:=Tryz.sizeOf4
 have v4:=Tryz.zeroValue4
 have t24:=Tryz.underlying24
 have a24:=Tryz.isAgg24
 have z24:=Tryz.sizeOf24
 have v24:=Tryz.zeroValue24
 have v73:=Tryz.zeroValue73
 have iE:(Tryz.prog.info? 73).map (fun i=>(i.zero,i.size,i.bytes))=some (some (.agg #[.int .i64 0,.int .i64 0,.int .i64 0,.slice none 0 0,.slice none 0 0,.slice none 0 0]),6,96):=by kernel_rfl
 obtain ⟨i0,hi0,hz0,hz1,hz2⟩:=info_parts iE
 have hap:∀ ty,(Builtin.append_ #[24,24] ty #[.slice (some ⟨b,off,none⟩) n c,.slice (some ⟨vb,voff,none⟩) 1 vc]).run Tryz.prog w=.ok (.slice (some ⟨b,off,none⟩) (n+1) c) (w.setCells b (off+n*6) vs):=fun ty=>by
  have:=run_append_room_cells w 24 ty 73 i0 t24 hi0 b off n c ⟨vb,voff,none⟩ 1 vc vs (by rw [hvl,hz1]) (fun j u hu=>by rw [Addr.add_lit]; exact hvs j u hu) h1v hroom
   (fun j hj=>by rw [hz1]; exact hsp j (by omega)) (fun j hj=>by rw [hz1]; exact hfz j (by omega))
  rw [hz1] at this; exact this
 go_enter Tryz.func131,Tryz.ntmps131
 go_wp2_with (at_builtin; refine Lib.wpList_append_run _ rfl _ _ _ _ rfl _ _ rfl rfl _ _ (hap _) ?_)
 go_ret
 exact ⟨rfl,rfl⟩
set_option maxHeartbeats 4000000 in
set_option maxRecDepth 100000 in
theorem m3 (base:Option Addr) (n c vb voff vc:Nat) (cs vs:List Value) (w:World) (hnc:n≤c) (hroom:c<n+1) (hbig:(n+1)*96≤140737488355328)
  (hcl:cs.length=n*6) (hvl:vs.length=6) (hnil:base=none→n=0)
  (hcs:∀ a,base=some a→∀ (j:Nat) (v:Value),cs[j]?=some v→w.cell? (a.add j)=some v)
  (hvs:∀ (j:Nat) (v:Value),vs[j]?=some v→w.cell? ⟨vb,voff+j,none⟩=some v) (h1v:∀ v ∈ vs,v.oneCell'=true) :
  Calls Tryz.prog 131 #[.slice base n c,.int .i64 n,.slice (some ⟨vb,voff,none⟩) 1 vc] w fun e w'=>
   e=.returned (.slice (some ⟨w.heap.size,0,none⟩) (n+1) (grownCap w (n+1) c 73)) ∧
   w'=w.drew.alloc (.cells ((cs++vs).toArray++Builtin.zeroCells (Value.agg #[.int .i64 0,.int .i64 0,.int .i64 0,.slice none 0 0,.slice none 0 0,.slice none 0 0]).cells (grownCap w (n+1) c 73-(n+1))) 73):=by
 have mixed:Tryz.prog.follows .mixedOrders=true:=by kernel_rfl
 have t0:=Tryz.underlying0
 have a0:=Tryz.isAgg0
 have z0:=Tryz.sizeOf0
 have v0:=Tryz.zeroValue0
 have t3:=Tryz.underlying3
 have a3:=Tryz.isAgg3
 have z3:=Tryz.sizeOf3
 have v3:=Tryz.zeroValue3
 have t4:=Tryz.underlying4
 have a4:=Tryz.isAgg4
 have z4:=Tryz.sizeOf4
 have v4:=Tryz.zeroValue4
 have t24:=Tryz.underlying24
 have a24:=Tryz.isAgg24
 have z24:=Tryz.sizeOf24
 have v24:=Tryz.zeroValue24
 have v73:=Tryz.zeroValue73
 have iE:(Tryz.prog.info? 73).map (fun i=>(i.zero,i.size,i.bytes))=some (some (.agg #[.int .i64 0,.int .i64 0,.int .i64 0,.slice none 0 0,.slice none 0 0,.slice none 0 0]),6,96):=by kernel_rfl
 obtain ⟨i0,hi0,hz0,hz1,hz2⟩:=info_parts iE
 have hsrc:Src Tryz.prog i0.size 24 (.slice (some ⟨vb,voff,none⟩) 1 vc) 1 vs w:=by
  rw [hz1]
  exact Src.ofSlice w t24 ⟨vb,voff,none⟩ 1 vc vs (by omega) (fun j u hj=>by rw [Addr.add_lit]; exact hvs j u hj) h1v
 have hold:(Builtin.firstCells i0.size n (.slice base n c)).run Tryz.prog w.drew=.ok cs.toArray w.drew:=by
  rw [hz1]
  cases base with
  | none=>
   have h0:=hnil rfl
   subst h0
   rw [lM1.1 (by omega:cs.length=0)]
   exact run_firstCells_none w.drew 6 0 0 c
  | some a=>exact run_firstCells_some w.drew 6 n a n c cs (by omega) (fun j v hj=>hcs a rfl j v hj)
 have hrun:∀ ty,(Builtin.append_ #[24,24] ty #[.slice base n c,.slice (some ⟨vb,voff,none⟩) 1 vc]).run Tryz.prog w=_:=fun ty=>
  run_append_grow_src w 24 24 ty 73 i0 _ t24 hi0 hz0 base n c cs hold _ 1 vs hsrc hroom (by omega) (by rw [hz2]; exact growslice_fits hroom hbig)
 go_enter Tryz.func131,Tryz.ntmps131
 cases base with
 | none=>
  have h0:=hnil rfl
  subst h0
  go_wp2_with (at_builtin; refine Lib.wpList_append_run _ rfl _ _ _ _ rfl _ _ rfl rfl _ _ (hrun _) ?_)
  go_ret
  exact ⟨rfl,rfl⟩
 | some a=>
  obtain ⟨ab,ao,asp⟩:=a
  go_wp2_with (at_builtin; refine Lib.wpList_append_run _ rfl _ _ _ _ rfl _ _ rfl rfl _ _ (hrun _) ?_)
  all_goals (go_ret; exact ⟨rfl,rfl⟩)
set_option maxHeartbeats 4000000 in
set_option maxRecDepth 100000 in
theorem ao7 (b off n c i vb voff vc:Nat) (cs vs:List Value) (w:World) (hi:i<n) (hnc:n≤c) (hroom:c<n+1) (hbig:(n+1)*96≤140737488355328)
  (hcl:cs.length=n*6) (hvl:vs.length=6)
  (hcs:∀ (j:Nat) (v:Value),cs[j]?=some v→w.cell? ⟨b,off+j,none⟩=some v)
  (hvs:∀ (j:Nat) (v:Value),vs[j]?=some v→w.cell? ⟨vb,voff+j,none⟩=some v) (h1c:∀ v ∈ cs,v.oneCell'=true) (h1v:∀ v ∈ vs,v.oneCell'=true) :
  Calls Tryz.prog 131 #[.slice (some ⟨b,off,none⟩) n c,.int .i64 i,.slice (some ⟨vb,voff,none⟩) 1 vc] w fun e w'=>
   e=.returned (.slice (some ⟨w.heap.size,0,none⟩) (n+1) (grownCap w (n+1) c 73)) ∧
   w'=(((w.alloc (.cells ((cs.take (i*6)).toArray++Builtin.zeroCells (Value.agg #[.int .i64 0,.int .i64 0,.int .i64 0,.slice none 0 0,.slice none 0 0,.slice none 0 0]).cells (n+1-i)++Builtin.zeroCells (Value.agg #[.int .i64 0,.int .i64 0,.int .i64 0,.slice none 0 0,.slice none 0 0,.slice none 0 0]).cells (grownCap w (n+1) c 73-(n+1))) 73)).drew.setCells w.heap.size (i*6) vs).drew).setCells w.heap.size ((i+1)*6) (cs.drop (i*6)):=by
 have mixed:Tryz.prog.follows .mixedOrders=true:=by kernel_rfl
 have t0:=Tryz.underlying0
 have a0:=Tryz.isAgg0
 have z0:=Tryz.sizeOf0
 have v0:=Tryz.zeroValue0
 have t3:=Tryz.underlying3
 have a3:=Tryz.isAgg3
 have z3:=Tryz.sizeOf3
 have v3:=Tryz.zeroValue3
 have t4:=Tryz.underlying4
 have a4:=Tryz.isAgg4
 have z4:=Tryz.sizeOf4
 have v4:=Tryz.zeroValue4
 have t24:=Tryz.underlying24
 have a24:=Tryz.isAgg24
 have z24:=Tryz.sizeOf24
 have v24:=Tryz.zeroValue24
 have v73:=Tryz.zeroValue73
 have iE:(Tryz.prog.info? 73).map (fun i=>(i.zero,i.size,i.bytes))=some (some (.agg #[.int .i64 0,.int .i64 0,.int .i64 0,.slice none 0 0,.slice none 0 0,.slice none 0 0]),6,96):=by kernel_rfl
 obtain ⟨i0,hi0,hz0,hzs,hzb⟩:=info_parts iE
 have hz2:¬ ((i:Int)=(n:Int)):=by omega
 have hz3:(c:Int)<(n:Int)+1:=by omega
 have hsz:(Tryz.prog.info? 73).map (·.size)=some 6:=by rw [hi0]; simp [hzs]
 have hbw:b<w.heap.size:=block_lt_of_cell (hcs 0 _ (lK (by omega)))
 have hvw:vb<w.heap.size:=block_lt_of_cell (hvs 0 _ (lK (by omega)))
 have hkk:(n:Int)+1-(i:Int)=((n+1-i:Nat):Int):=by omega
 have hik:i+(n+1-i)=n+1:=by omega
 have hold:(Builtin.firstCells i0.size i (.slice (some ⟨b,off,none⟩) i c)).run Tryz.prog w.drew=.ok (cs.take (i*6)).toArray w.drew:=by
  rw [hzs]
  exact run_firstCells_some w.drew 6 i ⟨b,off,none⟩ i c (cs.take (i*6)) (by rw [lR]; omega) (fun j v hj=>by
   rw [Addr.add_lit]
   rw [lP1] at hj
   split at hj
   ·exact hcs j v hj
   ·cases hj)
 have hrz:∀ ty,(Builtin.append_ #[24,3] ty #[.slice (some ⟨b,off,none⟩) i c,.int .i64 ((n:Int)+1-(i:Int))]).run Tryz.prog w =
   .ok (.slice (some ⟨w.heap.size,0,none⟩) (n+1) (grownCap w (n+1) c 73)) (w.drew.alloc (.cells ((cs.take (i*6)).toArray++Builtin.zeroCells (Value.agg #[.int .i64 0,.int .i64 0,.int .i64 0,.slice none 0 0,.slice none 0 0,.slice none 0 0]).cells (n+1-i)++Builtin.zeroCells (Value.agg #[.int .i64 0,.int .i64 0,.int .i64 0,.slice none 0 0,.slice none 0 0,.slice none 0 0]).cells (grownCap w (n+1) c 73-(n+1))) 73)):=fun ty=>by
  have h:=Lib.run_append_grow_zeros w 24 3 ty 73 i0 _ .i64 .i64 t24 t3 hi0 hz0 (some ⟨b,off,none⟩) i c (cs.take (i*6)) hold (n+1-i) (by omega) (by omega) (by omega) (by omega) (by rw [hzb]; omega) (by rw [hzb,hik]; exact growslice_fits hroom hbig)
  rw [hik] at h
  rw [hkk]
  exact h
 obtain ⟨G,hG⟩:∃ G,G=grownCap w (n+1) c 73:=⟨_,rfl⟩
 obtain ⟨ROW,hROW⟩:∃ ROW:Array Value,ROW=(cs.take (i*6)).toArray++Builtin.zeroCells (Value.agg #[.int .i64 0,.int .i64 0,.int .i64 0,.slice none 0 0,.slice none 0 0,.slice none 0 0]).cells (n+1-i)++Builtin.zeroCells (Value.agg #[.int .i64 0,.int .i64 0,.int .i64 0,.slice none 0 0,.slice none 0 0,.slice none 0 0]).cells (G-(n+1)):=⟨_,rfl⟩
 rw [← hG] at hrz ⊢
 rw [← hROW] at hrz ⊢
 have hRl:(n+1)*6≤ROW.size:=by
  rw [hROW]
  simp [Builtin.zeroCells,Value.cells]
  omega
 obtain ⟨W1,hW1⟩:∃ W1,W1=w.drew.alloc (.cells ROW 73):=⟨_,rfl⟩
 rw [← hW1] at hrz
 have hN:∀ j,j<(n+1)*6→(W1.cell? ⟨w.heap.size,j,none⟩).isSome=true:=fun j hj=>by
  rw [hW1,World.cell?_alloc_at (w:=w.drew) ROW _ w.heap.size j rfl,lE1 (by omega)]; rfl
 have hNf:∀ j,W1.frozen? ⟨w.heap.size,j,none⟩=false:=fun j=>by rw [hW1]; exact World.frozen?_alloc_at (w:=w.drew) ROW _ w.heap.size j rfl
 have hOb:∀ j v,w.cell? ⟨b,j,none⟩=some v→W1.cell? ⟨b,j,none⟩=some v:=fun j v h=>by rw [hW1,World.cell?_alloc_past (w:=w.drew) _ b j hbw]; exact h
 have hOv:∀ j v,w.cell? ⟨vb,j,none⟩=some v→W1.cell? ⟨vb,j,none⟩=some v:=fun j v h=>by rw [hW1,World.cell?_alloc_past (w:=w.drew) _ vb j hvw]; exact h
 have mn1:(n-i).min (n-i)=n-i:=by show min _ _=_; omega
 have mn2:(1:Nat).min (n+1-i)=1:=by show min _ _=_; omega
 have hcpA:∀ (W:World),(∀ x,W.cell? x=W1.cell? x)→(∀ x,W.frozen? x=W1.frozen? x)→∀ ty dc,(Builtin.copy_ #[24,24] ty #[.slice (some ⟨w.heap.size,i*6,none⟩) (n+1-i) dc,.slice (some ⟨vb,voff,none⟩) 1 vc]).run Tryz.prog W=.ok (goInt (1:Nat)) (W.setCells w.heap.size (i*6) vs):=fun W hWc hWf ty dc=>by
  have:=gE (P:=Tryz.prog) 6 W 24 24 ty 73 w.heap.size (i*6) (n+1-i) dc ⟨vb,voff,none⟩ 1 vc vs t24 hsz (by rw [hvl,mn2])
   (fun j v hj=>by rw [Addr.add_lit,hWc]; exact hOv _ v (hvs j v hj))
   (fun j hj=>by rw [hWc]; exact hN _ (by omega)) (fun j hj=>by rw [hWf]; exact hNf _) h1v
  rw [this,mn2]
 have hGn:n+1≤G:=by rw [hG]; exact grownCap_ge w _ _ _
 have hG63:G≤9223372036854775807:=by
  have:=grownCap_le_maxLen w (n+1) c 73 (by unfold maxLen; omega)
  rw [← hG] at this
  unfold maxLen at this
  omega
 have hGi:¬ (G=i):=by omega
 have hGim:¬ (G=i+1):=by omega
 have hci:¬ (c=i):=by omega
 have hbN:b≠w.heap.size:=by omega
 have hdl:(cs.drop (i*6)).length=(n-i)*6:=by rw [lE2,hcl]; omega
 have hcpB:∀ (W:World),(∀ x,W.cell? x=(W1.setCells w.heap.size (i*6) vs).cell? x)→(∀ x,W.frozen? x=(W1.setCells w.heap.size (i*6) vs).frozen? x)→∀ ty dc sc,(Builtin.copy_ #[24,24] ty #[.slice (some ⟨w.heap.size,(i+1)*6,none⟩) (n-i) dc,.slice (some ⟨b,off+i*6,none⟩) (n-i) sc]).run Tryz.prog W=.ok (goInt (n-i:Nat)) (W.setCells w.heap.size ((i+1)*6) (cs.drop (i*6))):=fun W hWc hWf ty dc sc=>by
  have:=gE (P:=Tryz.prog) 6 W 24 24 ty 73 w.heap.size ((i+1)*6) (n-i) dc ⟨b,off+i*6,none⟩ (n-i) sc (cs.drop (i*6)) t24 hsz (by rw [hdl,mn1])
   (fun j v hj=>by
    rw [Addr.add_lit,hWc,World.cell?_setCells_out _ _ _ _ _ (fun h _=>absurd h hbN),uA1]
    exact hOb _ v (hcs (i*6+j) v (by rwa [lH2] at hj)))
   (fun j hj=>by rw [hWc]; exact isSome_setCells _ _ _ _ (fun t ht=>hN _ (by omega)) _ (hN _ (by omega)))
   (fun j hj=>by rw [hWf,World.frozen?_setCells]; exact hNf _) (fun v hv=>h1c v (lB3 hv))
  rw [this,mn1]
 subst hW1
 have hE1:∀ x,((w.alloc (.cells ROW 73)).drew).cell? x=(w.drew.alloc (.cells ROW 73)).cell? x:=fun x=>rfl
 have hE2:∀ x,((w.alloc (.cells ROW 73)).drew).frozen? x=(w.drew.alloc (.cells ROW 73)).frozen? x:=fun x=>rfl
 have hF1:∀ x,(((w.alloc (.cells ROW 73)).drew.setCells w.heap.size (i*6) vs).drew).cell? x=((w.drew.alloc (.cells ROW 73)).setCells w.heap.size (i*6) vs).cell? x:=fun x=>rfl
 have hF2:∀ x,(((w.alloc (.cells ROW 73)).drew.setCells w.heap.size (i*6) vs).drew).frozen? x=((w.drew.alloc (.cells ROW 73)).setCells w.heap.size (i*6) vs).frozen? x:=fun x=>rfl
 have hw1:IntKind.i64.wrap ((i:Int)+1)=(i:Int)+1:=by rw [IntKind.wrap_i64]; omega
 have hb1:(0:Int)≤(i:Int)+1:=by omega
 have hin:i≤n:=by omega
 have htn:((i:Int)+1).toNat=i+1:=by omega
 have hb3:(i:Int)≤(n:Int):=by omega
 clear hkk hik hold hROW hG hRl
 go_enter Tryz.func131,Tryz.ntmps131
 go_wp2_with (first
  | (at_builtin; refine Lib.wpList_append_run _ rfl _ _ _ _ rfl _ _ rfl rfl _ _ (hrz _) ?_)
  | (at_builtin; refine wpList_copy_runI _ rfl _ _ 24 24 rfl _ _ rfl rfl (hcpA _ hE1 hE2 _ _) ?_)
  | (at_builtin; refine wpList_copy_runI _ rfl _ _ 24 24 rfl _ _ rfl rfl (hcpB _ (fun _=>rfl) (fun _=>rfl) _ _ _) ?_))
 go_region_law_o (refine step_copy_runI rfl _ _ 24 24 rfl (.slice (some ⟨w.heap.size,(i+1)*6,none⟩) (n-i) (G-(i+1))) (.slice (some ⟨b,off+i*6,none⟩) (n-i) (c-i)) (by simp [Act.eval,Act.put]) (by simp [Act.eval,Act.put]) (hcpB _ hF1 hF2 3 (G-(i+1)) (c-i)) ?_)
 go_wp2
 go_ret
 exact ⟨rfl,rfl⟩
theorem aqk (es:List (List TV)) (x:List TV) (i:Nat) (hs:∀ r ∈ es,r.length=6) (hx:x.length=6) (hk:es.flatten.all fG=true) (hkx:x.all fG=true) (hi:i≤es.length) (hbig:(es.length+1)*96≤140737488355328) :
  bC Tryz.prog 131 [.own 6 es,.int .i64 i,.own 6 [x]] (.own 6 (es.take i++x::es.drop i)) [.undef,.undef,.undef]:=by
 refine aqc (s:=6) ⟨_,Tryz.func131,by kernel_rfl,by kernel_rfl⟩ hs hx hk hkx hi ?_
 intro w base c cs vs vb voff vc Cv tv frv hcs hvl hle hnil hsome hvb hvfr hvcap hvc1 hvc h1c h1v
 generalize es.length=n at *
 have hvs:∀ (j:Nat) (v:Value),vs[j]?=some v→w.cell? ⟨vb,voff+j,none⟩=some v:=by
  intro j v hj
  have:=hvc j (lL.1 hj).1
  simp [World.cell?,hvb,this,hj]
 have hz6:∀ m,(Builtin.zeroCells (Value.agg #[.int .i64 0,.int .i64 0,.int .i64 0,.slice none 0 0,.slice none 0 0,.slice none 0 0]).cells m).size=m*6:=fun m=>by rw [size_zeroCells]; rfl
 cases base with
 | none=>
  obtain ⟨rfl,rfl⟩:=hnil rfl
  have hi0:i=0:=by omega
  subst hi0
  have hg:=grownCap_ge w (0+1) 0 73
  refine (m3 none 0 0 vb voff vc cs vs w (by omega) (by omega) hbig hcs hvl (fun _=>rfl) (fun a h=>by cases h) hvs h1v).mono ?_
  rintro e w' ⟨rfl,hw⟩
  refine ⟨w.heap.size,0,_,rfl,?_,.inr rfl⟩
  exact r7 (s:=6) (n:=0) hcs hvl hg (by rw [hz6]; omega) hw
 | some a=>
  obtain ⟨b,off,C,ty,fr,rfl,hne,hb,hfr,hcap,hc⟩:=hsome a rfl
  have hcell:∀ (j:Nat) (v:Value),cs[j]?=some v→w.cell? ⟨b,off+j,none⟩=some v:=by
   intro j v hj
   have:=hc j (lL.1 hj).1
   simp [World.cell?,hb,this,hj]
  have hsp:∀ j,j<c*6→(w.cell? ⟨b,off+j,none⟩).isSome=true:=by
   intro j hj
   have:off+j<C.size:=by omega
   simp [World.cell?,hb,this]
  have hfz:∀ j,j<c*6→w.frozen? ⟨b,off+j,none⟩=false:=by
   intro j hj
   have:=hfr (off+j) (.inl (by omega))
   simp [World.frozen?,hb]
   simpa using this
  have hg:=grownCap_ge w (n+1) c 73
  by_cases hin:i=n
  ·subst hin
   by_cases hroom:i+1≤c
   ·refine (aoV b off i c vb voff vc vs w hroom (by omega) hvl (fun j hj=>by rw [uA1]; exact hsp _ (by omega)) (fun j hj=>by rw [uA1]; exact hfz _ (by omega)) hvs h1v).mono ?_
    rintro e w' ⟨rfl,hw⟩
    refine ⟨b,off,_,rfl,?_,.inl ⟨_,rfl,rfl⟩⟩
    refine ao4 (s:=6) (w0:=w) rfl ⟨rfl,rfl⟩ hb hfr hcap hroom (lR1 _) hcs hvl hc ?_
    rw [lG4 (by omega)]; exact hw
   ·refine (m3 (some ⟨b,off,none⟩) i c vb voff vc cs vs w hle (by omega) hbig hcs hvl (fun h=>by cases h) (fun a ha j v hj=>by injection ha with ha; subst ha; rw [Addr.add_lit]; exact hcell j v hj) hvs h1v).mono ?_
    rintro e w' ⟨rfl,hw⟩
    refine ⟨w.heap.size,0,_,rfl,?_,.inr rfl⟩
    exact r7 (s:=6) hcs hvl hg (by rw [hz6]; omega) hw
  ·have hlt:i<n:=by omega
   by_cases hroom:n+1≤c
   ·have hfa:w.frozen? ⟨vb,voff,none⟩=false:=by
     have:=hvfr voff (.inl (by omega))
     simp [World.frozen?,hvb]
     simpa using this
    have hfe:w.frozen? ⟨vb,Cv.size,none⟩=false:=by
     have:=hvfr Cv.size (.inr ⟨by decide,rfl⟩)
     simp [World.frozen?,hvb]
     simpa using this
    refine (ao5 b off n c i vb voff vc cs vs w hlt hroom (by omega) (Ne.symm hne) hcs hvl hcell (fun j hj=>hsp j (by omega)) (fun j hj=>hfz j (by omega)) hvs h1c h1v tv ty Cv.size C.size
     (by simp [World.shape?,hvb]) (by simp [World.shape?,hb]) (by omega) hfa hfe).mono ?_
    rintro e w' ⟨rfl,hw⟩
    refine ⟨b,off,_,rfl,?_,.inl ⟨_,rfl,rfl⟩⟩
    exact ao4 (s:=6) (w0:=w.drew) rfl ⟨rfl,rfl⟩ hb hfr hcap hroom (by omega) hcs hvl hc hw
   ·refine (ao7 b off n c i vb voff vc cs vs w hlt hle (by omega) hbig hcs hvl hcell hvs h1c h1v).mono ?_
    rintro e w' ⟨rfl,hw⟩
    refine ⟨w.heap.size,0,_,rfl,?_,.inr rfl⟩
    rw [Array.append_assoc] at hw
    exact aqb (s:=6) (by omega) hcs hvl hg (by rw [Array.size_append,hz6,hz6]; omega) hw
theorem apJ (l:List Inode) (x:Inode) (i:Nat) (hi:i≤l.length) (hbig:(l.length+1)*96≤140737488355328) :
  bC Tryz.prog 131 [.own 6 (l.map Inode.row),.int .i64 i,.own 6 [Inode.row x]] (.own 6 ((l.take i++x::l.drop i).map Inode.row)) [.undef,.undef,.undef]:=by
 have hr6:∀ r ∈ l.map Inode.row,r.length=6:=fun r hr=>by obtain ⟨x,_,rfl⟩:=lV1.1 hr; rfl
 have hkn:(l.map Inode.row).flatten.all fG=true:=by
  rw [lW]
  intro t ht
  obtain ⟨r,hr,ht⟩:=List.mem_flatten.1 ht
  obtain ⟨x,_,rfl⟩:=lV1.1 hr
  exact lW.1 (show (Inode.row x).all fG=true from rfl) t ht
 have hl:(l.map Inode.row).length=l.length:=lJ1 _
 rw [show (l.take i++x::l.drop i).map Inode.row=(l.map Inode.row).take i++Inode.row x::(l.map Inode.row).drop i by simp]
 exact aqk _ _ i hr6 rfl hkn rfl (by omega) (by rw [hl]; exact hbig)
end
section
open Go.Proofs Go.Shelf Go.RowKit Go.Lib
set_option maxHeartbeats 4000000 in
set_option maxRecDepth 100000 in
theorem apf (b off n c i vb voff vc:Nat) (cs vs:List Value) (w:World) (hi:i<n) (hroom:n+1≤c) (hc63:n+1≤9223372036854775807) (hvb:vb≠b)
  (hcl:cs.length=n*2) (hvl:vs.length=2)
  (hcs:∀ (j:Nat) (v:Value),cs[j]?=some v→w.cell? ⟨b,off+j,none⟩=some v) (hsp:∀ j,j<(n+1)*2→(w.cell? ⟨b,off+j,none⟩).isSome=true) (hfz:∀ j,j<(n+1)*2→w.frozen? ⟨b,off+j,none⟩=false)
  (hvs:∀ (j:Nat) (v:Value),vs[j]?=some v→w.cell? ⟨vb,voff+j,none⟩=some v) (h1c:∀ v ∈ cs,v.oneCell'=true) (h1v:∀ v ∈ vs,v.oneCell'=true)
  (tA tB:TypeId) (kA kB:Nat) (hsa:w.shape? vb=some (tA,kA)) (hsb:w.shape? b=some (tB,kB)) (hkB:kB≠0) (hfa:w.frozen? ⟨vb,voff,none⟩=false) (hfe:w.frozen? ⟨vb,kA,none⟩=false) :
  Calls Tryz.prog 134 #[.slice (some ⟨b,off,none⟩) n c,.int .i64 i,.slice (some ⟨vb,voff,none⟩) 1 vc] w fun e w'=>
   e=.returned (.slice (some ⟨b,off,none⟩) (n+1) c)∧w'=(w.drew.setCells b (off+(i+1)*2) (cs.drop (i*2))).setCells b (off+i*2) vs:=by
 have mixed:Tryz.prog.follows .mixedOrders=true:=by kernel_rfl
 have t0:=Tryz.underlying0
 have a0:=Tryz.isAgg0
 have z0:=Tryz.sizeOf0
 have v0:=Tryz.zeroValue0
 have t3:=Tryz.underlying3
 have a3:=Tryz.isAgg3
 have z3:=Tryz.sizeOf3
 have v3:=Tryz.zeroValue3
 have t4:=Tryz.underlying4
 have a4:=Tryz.isAgg4
 have z4:=Tryz.sizeOf4
 have v4:=Tryz.zeroValue4
 have t70:=Tryz.underlying70
 have a70:=Tryz.isAgg70
 have z70:=Tryz.sizeOf70
 have v70:=Tryz.zeroValue70
 have v97:=Tryz.zeroValue97
 have u70:=run_underlying t70
 have u3:=run_underlying t3
 have u4:=run_underlying t4
 have hsz:(Tryz.prog.info? 97).map (·.size)=some 2:=by kernel_rfl
 have hov:∀ lb cb,(callFunc 182 #[.slice (some ⟨vb,voff,none⟩) 1 vc,.slice (some ⟨b,off+(i+1)*2,none⟩) lb cb]).run Tryz.prog w=.ok (.value (.bool false)) w:=fun lb cb=>by
  rw [run_callFunc_extern Tryz.func182 (by kernel_rfl) (by kernel_rfl) (by kernel_rfl) (e:=Extern.SlicesOverlaps.overlaps #[70,70] #[4]) (by kernel_rfl),
   Lib.run_overlaps_apart w 70 4 97 t70 2 Tryz.sizeOf97 ⟨vb,voff,none⟩ ⟨b,off+(i+1)*2,none⟩ 1 vc lb cb hvb tA tB kA kB hsa hsb hkB hfa hfe]
  rfl
 have hdl:(cs.drop (i*2)).length=(n-i)*2:=by rw [lE2,hcl]; omega
 have hw1:IntKind.i64.wrap ((i:Int)+1)=(i:Int)+1:=by rw [IntKind.wrap_i64]; omega
 have hb1:(0:Int)≤(i:Int)+1:=by omega
 have hin:i≤n:=by omega
 have htn:((i:Int)+1).toNat=i+1:=by omega
 have hb2:¬ (c=i+1):=by omega
 have hb3:(i:Int)≤(n:Int)+1:=by omega
 have hb4:¬ (c=i):=by omega
 have hz2:¬ ((i:Int)=(n:Int)):=by omega
 have mn1:(n+1-i).min (n-i)=n-i:=by show min _ _=_; omega
 have mn2:(1:Nat).min (n+1-i)=1:=by show min _ _=_; omega
 have hcp1:∀ ty dc sc,(Builtin.copy_ #[70,70] ty #[.slice (some ⟨b,off+(i+1)*2,none⟩) (n-i) dc,.slice (some ⟨b,off+i*2,none⟩) (n+1-i) sc]).run Tryz.prog w.drew=.ok (goInt (n-i:Nat)) (w.drew.setCells b (off+(i+1)*2) (cs.drop (i*2))):=fun ty dc sc=>by
  have:=gE (P:=Tryz.prog) 2 w.drew 70 70 ty 97 b (off+(i+1)*2) (n-i) dc ⟨b,off+i*2,none⟩ (n+1-i) sc (cs.drop (i*2)) t70 hsz (by rw [hdl,mn1])
   (fun j v hj=>by rw [Addr.add_lit,uA1]; exact hcs (i*2+j) v (by rwa [lH2] at hj))
   (fun j hj=>by rw [uA1]; exact hsp _ (by omega)) (fun j hj=>by rw [uA1]; exact hfz _ (by omega)) (fun v hv=>h1c v (lB3 hv))
  rw [this,mn1]
 obtain ⟨W1,hW1⟩:∃ W1,W1=w.drew.setCells b (off+(i+1)*2) (cs.drop (i*2)):=⟨_,rfl⟩
 have hsp1:∀ k,k<(n+1)*2→(W1.cell? ⟨b,off+k,none⟩).isSome=true:=fun k hk=>by
  rw [hW1]
  exact World.isSome_setCells _ _ _ _ _ (hsp k hk)
 have hcp2:∀ (W:World),(∀ x,W.cell? x=W1.cell? x)→(∀ x,W.frozen? x=W1.frozen? x)→∀ ty dc,(Builtin.copy_ #[70,70] ty #[.slice (some ⟨b,off+i*2,none⟩) (n+1-i) dc,.slice (some ⟨vb,voff,none⟩) 1 vc]).run Tryz.prog W=.ok (goInt (1:Nat)) (W.setCells b (off+i*2) vs):=fun W hWc hWf ty dc=>by
  have:=gE (P:=Tryz.prog) 2 W 70 70 ty 97 b (off+i*2) (n+1-i) dc ⟨vb,voff,none⟩ 1 vc vs t70 hsz (by rw [hvl,mn2])
   (fun j v hj=>by
    rw [Addr.add_lit,hWc,hW1,World.cell?_setCells_out b _ _ _ _ (fun h _=>absurd h hvb)]
    exact hvs j v hj)
   (fun j hj=>by rw [hWc,uA1]; exact hsp1 _ (by omega)) (fun j hj=>by rw [hWf,hW1,World.frozen?_setCells,uA1]; exact hfz _ (by omega)) h1v
  rw [this,mn2]
 rw [← hW1] at hcp1
 go_enter Tryz.func134,Tryz.ntmps134
 go_wp2_with (simp only [hov])
 go_region_law_o (refine step_copy_runI rfl _ _ 70 70 rfl _ _ (by simp [Act.eval,Act.put]) (by simp [Act.eval,Act.put]) (hcp1 _ _ _) ?_)
 go_wp2_with (at_builtin; refine wpList_copy_runI _ rfl _ _ 70 70 rfl _ _ rfl rfl (hcp2 _ (fun _=>rfl) (fun _=>rfl) _ _) ?_)
 go_ret
 first | exact ⟨rfl,rfl⟩ | exact ⟨rfl,by rw [hW1]⟩
set_option maxHeartbeats 4000000 in
set_option maxRecDepth 100000 in
theorem ao0 (b off n c vb voff vc:Nat) (vs:List Value) (w:World) (hroom:n+1≤c) (hc63:n+1≤9223372036854775807)
  (hvl:vs.length=2) (hsp:∀ j,j<2→(w.cell? ⟨b,off+n*2+j,none⟩).isSome=true) (hfz:∀ j,j<2→w.frozen? ⟨b,off+n*2+j,none⟩=false)
  (hvs:∀ (j:Nat) (v:Value),vs[j]?=some v→w.cell? ⟨vb,voff+j,none⟩=some v) (h1v:∀ v ∈ vs,v.oneCell'=true) :
  Calls Tryz.prog 134 #[.slice (some ⟨b,off,none⟩) n c,.int .i64 n,.slice (some ⟨vb,voff,none⟩) 1 vc] w fun e w'=>
   e=.returned (.slice (some ⟨b,off,none⟩) (n+1) c)∧w'=w.setCells b (off+n*2) vs:=by
 have mixed:Tryz.prog.follows .mixedOrders=true:=by kernel_rfl
 have t0:=Tryz.underlying0
 have a0:=Tryz.isAgg0
 have z0:=Tryz.sizeOf0
 have v0:=Tryz.zeroValue0
 have t3:=Tryz.underlying3
 have a3:=Tryz.isAgg3
 have z3:=Tryz.sizeOf3
 have v3:=Tryz.zeroValue3
 have t4:=Tryz.underlying4
 have a4:=Tryz.isAgg4
 have z4:=Tryz.sizeOf4
 have v4:=Tryz.zeroValue4
 have t70:=Tryz.underlying70
 have a70:=Tryz.isAgg70
 have z70:=Tryz.sizeOf70
 have v70:=Tryz.zeroValue70
 have v97:=Tryz.zeroValue97
 have iE:(Tryz.prog.info? 97).map (fun i=>(i.zero,i.size,i.bytes))=some (some (.agg #[.string { data:=#[] },.int .i64 0]),2,24):=by kernel_rfl
 obtain ⟨i0,hi0,hz0,hz1,hz2⟩:=info_parts iE
 have hap:∀ ty,(Builtin.append_ #[70,70] ty #[.slice (some ⟨b,off,none⟩) n c,.slice (some ⟨vb,voff,none⟩) 1 vc]).run Tryz.prog w=.ok (.slice (some ⟨b,off,none⟩) (n+1) c) (w.setCells b (off+n*2) vs):=fun ty=>by
  have:=run_append_room_cells w 70 ty 97 i0 t70 hi0 b off n c ⟨vb,voff,none⟩ 1 vc vs (by rw [hvl,hz1]) (fun j u hu=>by rw [Addr.add_lit]; exact hvs j u hu) h1v hroom
   (fun j hj=>by rw [hz1]; exact hsp j (by omega)) (fun j hj=>by rw [hz1]; exact hfz j (by omega))
  rw [hz1] at this; exact this
 go_enter Tryz.func134,Tryz.ntmps134
 go_wp2_with (at_builtin; refine Lib.wpList_append_run _ rfl _ _ _ _ rfl _ _ rfl rfl _ _ (hap _) ?_)
 go_ret
 exact ⟨rfl,rfl⟩
set_option maxHeartbeats 4000000 in
set_option maxRecDepth 100000 in
theorem r5 (base:Option Addr) (n c vb voff vc:Nat) (cs vs:List Value) (w:World) (hnc:n≤c) (hroom:c<n+1) (hbig:(n+1)*24≤140737488355328)
  (hcl:cs.length=n*2) (hvl:vs.length=2) (hnil:base=none→n=0)
  (hcs:∀ a,base=some a→∀ (j:Nat) (v:Value),cs[j]?=some v→w.cell? (a.add j)=some v)
  (hvs:∀ (j:Nat) (v:Value),vs[j]?=some v→w.cell? ⟨vb,voff+j,none⟩=some v) (h1v:∀ v ∈ vs,v.oneCell'=true) :
  Calls Tryz.prog 134 #[.slice base n c,.int .i64 n,.slice (some ⟨vb,voff,none⟩) 1 vc] w fun e w'=>
   e=.returned (.slice (some ⟨w.heap.size,0,none⟩) (n+1) (grownCap w (n+1) c 97)) ∧
   w'=w.drew.alloc (.cells ((cs++vs).toArray++Builtin.zeroCells (Value.agg #[.string { data:=#[] },.int .i64 0]).cells (grownCap w (n+1) c 97-(n+1))) 97):=by
 have mixed:Tryz.prog.follows .mixedOrders=true:=by kernel_rfl
 have t0:=Tryz.underlying0
 have a0:=Tryz.isAgg0
 have z0:=Tryz.sizeOf0
 have v0:=Tryz.zeroValue0
 have t3:=Tryz.underlying3
 have a3:=Tryz.isAgg3
 have z3:=Tryz.sizeOf3
 have v3:=Tryz.zeroValue3
 have t4:=Tryz.underlying4
 have a4:=Tryz.isAgg4
 have z4:=Tryz.sizeOf4
 have v4:=Tryz.zeroValue4
 have t70:=Tryz.underlying70
 have a70:=Tryz.isAgg70
 have z70:=Tryz.sizeOf70
 have v70:=Tryz.zeroValue70
 have v97:=Tryz.zeroValue97
 have iE:(Tryz.prog.info? 97).map (fun i=>(i.zero,i.size,i.bytes))=some (some (.agg #[.string { data:=#[] },.int .i64 0]),2,24):=by kernel_rfl
 obtain ⟨i0,hi0,hz0,hz1,hz2⟩:=info_parts iE
 have hsrc:Src Tryz.prog i0.size 70 (.slice (some ⟨vb,voff,none⟩) 1 vc) 1 vs w:=by
  rw [hz1]
  exact Src.ofSlice w t70 ⟨vb,voff,none⟩ 1 vc vs (by omega) (fun j u hj=>by rw [Addr.add_lit]; exact hvs j u hj) h1v
 have hold:(Builtin.firstCells i0.size n (.slice base n c)).run Tryz.prog w.drew=.ok cs.toArray w.drew:=by
  rw [hz1]
  cases base with
  | none=>
   have h0:=hnil rfl
   subst h0
   rw [lM1.1 (by omega:cs.length=0)]
   exact run_firstCells_none w.drew 2 0 0 c
  | some a=>exact run_firstCells_some w.drew 2 n a n c cs (by omega) (fun j v hj=>hcs a rfl j v hj)
 have hrun:∀ ty,(Builtin.append_ #[70,70] ty #[.slice base n c,.slice (some ⟨vb,voff,none⟩) 1 vc]).run Tryz.prog w=_:=fun ty=>
  run_append_grow_src w 70 70 ty 97 i0 _ t70 hi0 hz0 base n c cs hold _ 1 vs hsrc hroom (by omega) (by rw [hz2]; exact growslice_fits hroom hbig)
 go_enter Tryz.func134,Tryz.ntmps134
 cases base with
 | none=>
  have h0:=hnil rfl
  subst h0
  go_wp2_with (at_builtin; refine Lib.wpList_append_run _ rfl _ _ _ _ rfl _ _ rfl rfl _ _ (hrun _) ?_)
  go_ret
  exact ⟨rfl,rfl⟩
 | some a=>
  obtain ⟨ab,ao,asp⟩:=a
  go_wp2_with (at_builtin; refine Lib.wpList_append_run _ rfl _ _ _ _ rfl _ _ rfl rfl _ _ (hrun _) ?_)
  all_goals (go_ret; exact ⟨rfl,rfl⟩)
set_option maxHeartbeats 4000000 in
set_option maxRecDepth 100000 in
theorem apk (b off n c i vb voff vc:Nat) (cs vs:List Value) (w:World) (hi:i<n) (hnc:n≤c) (hroom:c<n+1) (hbig:(n+1)*24≤140737488355328)
  (hcl:cs.length=n*2) (hvl:vs.length=2)
  (hcs:∀ (j:Nat) (v:Value),cs[j]?=some v→w.cell? ⟨b,off+j,none⟩=some v)
  (hvs:∀ (j:Nat) (v:Value),vs[j]?=some v→w.cell? ⟨vb,voff+j,none⟩=some v) (h1c:∀ v ∈ cs,v.oneCell'=true) (h1v:∀ v ∈ vs,v.oneCell'=true) :
  Calls Tryz.prog 134 #[.slice (some ⟨b,off,none⟩) n c,.int .i64 i,.slice (some ⟨vb,voff,none⟩) 1 vc] w fun e w'=>
   e=.returned (.slice (some ⟨w.heap.size,0,none⟩) (n+1) (grownCap w (n+1) c 97)) ∧
   w'=(((w.alloc (.cells ((cs.take (i*2)).toArray++Builtin.zeroCells (Value.agg #[.string { data:=#[] },.int .i64 0]).cells (n+1-i)++Builtin.zeroCells (Value.agg #[.string { data:=#[] },.int .i64 0]).cells (grownCap w (n+1) c 97-(n+1))) 97)).drew.setCells w.heap.size (i*2) vs).drew).setCells w.heap.size ((i+1)*2) (cs.drop (i*2)):=by
 have mixed:Tryz.prog.follows .mixedOrders=true:=by kernel_rfl
 have t0:=Tryz.underlying0
 have a0:=Tryz.isAgg0
 have z0:=Tryz.sizeOf0
 have v0:=Tryz.zeroValue0
 have t3:=Tryz.underlying3
 have a3:=Tryz.isAgg3
 have z3:=Tryz.sizeOf3
 have v3:=Tryz.zeroValue3
 have t4:=Tryz.underlying4
 have a4:=Tryz.isAgg4
 have z4:=Tryz.sizeOf4
 have v4:=Tryz.zeroValue4
 have t70:=Tryz.underlying70
 have a70:=Tryz.isAgg70
 have z70:=Tryz.sizeOf70
 have v70:=Tryz.zeroValue70
 have v97:=Tryz.zeroValue97
 have iE:(Tryz.prog.info? 97).map (fun i=>(i.zero,i.size,i.bytes))=some (some (.agg #[.string { data:=#[] },.int .i64 0]),2,24):=by kernel_rfl
 obtain ⟨i0,hi0,hz0,hzs,hzb⟩:=info_parts iE
 have hz2:¬ ((i:Int)=(n:Int)):=by omega
 have hz3:(c:Int)<(n:Int)+1:=by omega
 have hsz:(Tryz.prog.info? 97).map (·.size)=some 2:=by rw [hi0]; simp [hzs]
 have hbw:b<w.heap.size:=block_lt_of_cell (hcs 0 _ (lK (by omega)))
 have hvw:vb<w.heap.size:=block_lt_of_cell (hvs 0 _ (lK (by omega)))
 have hkk:(n:Int)+1-(i:Int)=((n+1-i:Nat):Int):=by omega
 have hik:i+(n+1-i)=n+1:=by omega
 have hold:(Builtin.firstCells i0.size i (.slice (some ⟨b,off,none⟩) i c)).run Tryz.prog w.drew=.ok (cs.take (i*2)).toArray w.drew:=by
  rw [hzs]
  exact run_firstCells_some w.drew 2 i ⟨b,off,none⟩ i c (cs.take (i*2)) (by rw [lR]; omega) (fun j v hj=>by
   rw [Addr.add_lit]
   rw [lP1] at hj
   split at hj
   ·exact hcs j v hj
   ·cases hj)
 have hrz:∀ ty,(Builtin.append_ #[70,3] ty #[.slice (some ⟨b,off,none⟩) i c,.int .i64 ((n:Int)+1-(i:Int))]).run Tryz.prog w =
   .ok (.slice (some ⟨w.heap.size,0,none⟩) (n+1) (grownCap w (n+1) c 97)) (w.drew.alloc (.cells ((cs.take (i*2)).toArray++Builtin.zeroCells (Value.agg #[.string { data:=#[] },.int .i64 0]).cells (n+1-i)++Builtin.zeroCells (Value.agg #[.string { data:=#[] },.int .i64 0]).cells (grownCap w (n+1) c 97-(n+1))) 97)):=fun ty=>by
  have h:=Lib.run_append_grow_zeros w 70 3 ty 97 i0 _ .i64 .i64 t70 t3 hi0 hz0 (some ⟨b,off,none⟩) i c (cs.take (i*2)) hold (n+1-i) (by omega) (by omega) (by omega) (by omega) (by rw [hzb]; omega) (by rw [hzb,hik]; exact growslice_fits hroom hbig)
  rw [hik] at h
  rw [hkk]
  exact h
 obtain ⟨G,hG⟩:∃ G,G=grownCap w (n+1) c 97:=⟨_,rfl⟩
 obtain ⟨ROW,hROW⟩:∃ ROW:Array Value,ROW=(cs.take (i*2)).toArray++Builtin.zeroCells (Value.agg #[.string { data:=#[] },.int .i64 0]).cells (n+1-i)++Builtin.zeroCells (Value.agg #[.string { data:=#[] },.int .i64 0]).cells (G-(n+1)):=⟨_,rfl⟩
 rw [← hG] at hrz ⊢
 rw [← hROW] at hrz ⊢
 have hRl:(n+1)*2≤ROW.size:=by
  rw [hROW]
  simp [Builtin.zeroCells,Value.cells]
  omega
 obtain ⟨W1,hW1⟩:∃ W1,W1=w.drew.alloc (.cells ROW 97):=⟨_,rfl⟩
 rw [← hW1] at hrz
 have hN:∀ j,j<(n+1)*2→(W1.cell? ⟨w.heap.size,j,none⟩).isSome=true:=fun j hj=>by
  rw [hW1,World.cell?_alloc_at (w:=w.drew) ROW _ w.heap.size j rfl,lE1 (by omega)]; rfl
 have hNf:∀ j,W1.frozen? ⟨w.heap.size,j,none⟩=false:=fun j=>by rw [hW1]; exact World.frozen?_alloc_at (w:=w.drew) ROW _ w.heap.size j rfl
 have hOb:∀ j v,w.cell? ⟨b,j,none⟩=some v→W1.cell? ⟨b,j,none⟩=some v:=fun j v h=>by rw [hW1,World.cell?_alloc_past (w:=w.drew) _ b j hbw]; exact h
 have hOv:∀ j v,w.cell? ⟨vb,j,none⟩=some v→W1.cell? ⟨vb,j,none⟩=some v:=fun j v h=>by rw [hW1,World.cell?_alloc_past (w:=w.drew) _ vb j hvw]; exact h
 have mn1:(n-i).min (n-i)=n-i:=by show min _ _=_; omega
 have mn2:(1:Nat).min (n+1-i)=1:=by show min _ _=_; omega
 have hcpA:∀ (W:World),(∀ x,W.cell? x=W1.cell? x)→(∀ x,W.frozen? x=W1.frozen? x)→∀ ty dc,(Builtin.copy_ #[70,70] ty #[.slice (some ⟨w.heap.size,i*2,none⟩) (n+1-i) dc,.slice (some ⟨vb,voff,none⟩) 1 vc]).run Tryz.prog W=.ok (goInt (1:Nat)) (W.setCells w.heap.size (i*2) vs):=fun W hWc hWf ty dc=>by
  have:=gE (P:=Tryz.prog) 2 W 70 70 ty 97 w.heap.size (i*2) (n+1-i) dc ⟨vb,voff,none⟩ 1 vc vs t70 hsz (by rw [hvl,mn2])
   (fun j v hj=>by rw [Addr.add_lit,hWc]; exact hOv _ v (hvs j v hj))
   (fun j hj=>by rw [hWc]; exact hN _ (by omega)) (fun j hj=>by rw [hWf]; exact hNf _) h1v
  rw [this,mn2]
 have hGn:n+1≤G:=by rw [hG]; exact grownCap_ge w _ _ _
 have hG63:G≤9223372036854775807:=by
  have:=grownCap_le_maxLen w (n+1) c 97 (by unfold maxLen; omega)
  rw [← hG] at this
  unfold maxLen at this
  omega
 have hGi:¬ (G=i):=by omega
 have hGim:¬ (G=i+1):=by omega
 have hci:¬ (c=i):=by omega
 have hbN:b≠w.heap.size:=by omega
 have hdl:(cs.drop (i*2)).length=(n-i)*2:=by rw [lE2,hcl]; omega
 have hcpB:∀ (W:World),(∀ x,W.cell? x=(W1.setCells w.heap.size (i*2) vs).cell? x)→(∀ x,W.frozen? x=(W1.setCells w.heap.size (i*2) vs).frozen? x)→∀ ty dc sc,(Builtin.copy_ #[70,70] ty #[.slice (some ⟨w.heap.size,(i+1)*2,none⟩) (n-i) dc,.slice (some ⟨b,off+i*2,none⟩) (n-i) sc]).run Tryz.prog W=.ok (goInt (n-i:Nat)) (W.setCells w.heap.size ((i+1)*2) (cs.drop (i*2))):=fun W hWc hWf ty dc sc=>by
  have:=gE (P:=Tryz.prog) 2 W 70 70 ty 97 w.heap.size ((i+1)*2) (n-i) dc ⟨b,off+i*2,none⟩ (n-i) sc (cs.drop (i*2)) t70 hsz (by rw [hdl,mn1])
   (fun j v hj=>by
    rw [Addr.add_lit,hWc,World.cell?_setCells_out _ _ _ _ _ (fun h _=>absurd h hbN),uA1]
    exact hOb _ v (hcs (i*2+j) v (by rwa [lH2] at hj)))
   (fun j hj=>by rw [hWc]; exact isSome_setCells _ _ _ _ (fun t ht=>hN _ (by omega)) _ (hN _ (by omega)))
   (fun j hj=>by rw [hWf,World.frozen?_setCells]; exact hNf _) (fun v hv=>h1c v (lB3 hv))
  rw [this,mn1]
 subst hW1
 have hE1:∀ x,((w.alloc (.cells ROW 97)).drew).cell? x=(w.drew.alloc (.cells ROW 97)).cell? x:=fun x=>rfl
 have hE2:∀ x,((w.alloc (.cells ROW 97)).drew).frozen? x=(w.drew.alloc (.cells ROW 97)).frozen? x:=fun x=>rfl
 have hF1:∀ x,(((w.alloc (.cells ROW 97)).drew.setCells w.heap.size (i*2) vs).drew).cell? x=((w.drew.alloc (.cells ROW 97)).setCells w.heap.size (i*2) vs).cell? x:=fun x=>rfl
 have hF2:∀ x,(((w.alloc (.cells ROW 97)).drew.setCells w.heap.size (i*2) vs).drew).frozen? x=((w.drew.alloc (.cells ROW 97)).setCells w.heap.size (i*2) vs).frozen? x:=fun x=>rfl
 have hw1:IntKind.i64.wrap ((i:Int)+1)=(i:Int)+1:=by rw [IntKind.wrap_i64]; omega
 have hb1:(0:Int)≤(i:Int)+1:=by omega
 have hin:i≤n:=by omega
 have htn:((i:Int)+1).toNat=i+1:=by omega
 have hb3:(i:Int)≤(n:Int):=by omega
 clear hkk hik hold hROW hG hRl
 go_enter Tryz.func134,Tryz.ntmps134
 go_wp2_with (first
  | (at_builtin; refine Lib.wpList_append_run _ rfl _ _ _ _ rfl _ _ rfl rfl _ _ (hrz _) ?_)
  | (at_builtin; refine wpList_copy_runI _ rfl _ _ 70 70 rfl _ _ rfl rfl (hcpA _ hE1 hE2 _ _) ?_)
  | (at_builtin; refine wpList_copy_runI _ rfl _ _ 70 70 rfl _ _ rfl rfl (hcpB _ (fun _=>rfl) (fun _=>rfl) _ _ _) ?_))
 go_region_law_o (refine step_copy_runI rfl _ _ 70 70 rfl (.slice (some ⟨w.heap.size,(i+1)*2,none⟩) (n-i) (G-(i+1))) (.slice (some ⟨b,off+i*2,none⟩) (n-i) (c-i)) (by simp [Act.eval,Act.put]) (by simp [Act.eval,Act.put]) (hcpB _ hF1 hF2 3 (G-(i+1)) (c-i)) ?_)
 go_wp2
 go_ret
 exact ⟨rfl,rfl⟩
theorem aqu (es:List (List TV)) (x:List TV) (i:Nat) (hs:∀ r ∈ es,r.length=2) (hx:x.length=2) (hk:es.flatten.all fG=true) (hkx:x.all fG=true) (hi:i≤es.length) (hbig:(es.length+1)*24≤140737488355328) :
  bC Tryz.prog 134 [.own 2 es,.int .i64 i,.own 2 [x]] (.own 2 (es.take i++x::es.drop i)) [.undef,.undef,.undef]:=by
 refine aqc (s:=2) ⟨_,Tryz.func134,by kernel_rfl,by kernel_rfl⟩ hs hx hk hkx hi ?_
 intro w base c cs vs vb voff vc Cv tv frv hcs hvl hle hnil hsome hvb hvfr hvcap hvc1 hvc h1c h1v
 generalize es.length=n at *
 have hvs:∀ (j:Nat) (v:Value),vs[j]?=some v→w.cell? ⟨vb,voff+j,none⟩=some v:=by
  intro j v hj
  have:=hvc j (lL.1 hj).1
  simp [World.cell?,hvb,this,hj]
 have hz6:∀ m,(Builtin.zeroCells (Value.agg #[.string { data:=#[] },.int .i64 0]).cells m).size=m*2:=fun m=>by rw [size_zeroCells]; rfl
 cases base with
 | none=>
  obtain ⟨rfl,rfl⟩:=hnil rfl
  have hi0:i=0:=by omega
  subst hi0
  have hg:=grownCap_ge w (0+1) 0 97
  refine (r5 none 0 0 vb voff vc cs vs w (by omega) (by omega) hbig hcs hvl (fun _=>rfl) (fun a h=>by cases h) hvs h1v).mono ?_
  rintro e w' ⟨rfl,hw⟩
  refine ⟨w.heap.size,0,_,rfl,?_,.inr rfl⟩
  exact r7 (s:=2) (n:=0) hcs hvl hg (by rw [hz6]; omega) hw
 | some a=>
  obtain ⟨b,off,C,ty,fr,rfl,hne,hb,hfr,hcap,hc⟩:=hsome a rfl
  have hcell:∀ (j:Nat) (v:Value),cs[j]?=some v→w.cell? ⟨b,off+j,none⟩=some v:=by
   intro j v hj
   have:=hc j (lL.1 hj).1
   simp [World.cell?,hb,this,hj]
  have hsp:∀ j,j<c*2→(w.cell? ⟨b,off+j,none⟩).isSome=true:=by
   intro j hj
   have:off+j<C.size:=by omega
   simp [World.cell?,hb,this]
  have hfz:∀ j,j<c*2→w.frozen? ⟨b,off+j,none⟩=false:=by
   intro j hj
   have:=hfr (off+j) (.inl (by omega))
   simp [World.frozen?,hb]
   simpa using this
  have hg:=grownCap_ge w (n+1) c 97
  by_cases hin:i=n
  ·subst hin
   by_cases hroom:i+1≤c
   ·refine (ao0 b off i c vb voff vc vs w hroom (by omega) hvl (fun j hj=>by rw [uA1]; exact hsp _ (by omega)) (fun j hj=>by rw [uA1]; exact hfz _ (by omega)) hvs h1v).mono ?_
    rintro e w' ⟨rfl,hw⟩
    refine ⟨b,off,_,rfl,?_,.inl ⟨_,rfl,rfl⟩⟩
    refine ao4 (s:=2) (w0:=w) rfl ⟨rfl,rfl⟩ hb hfr hcap hroom (lR1 _) hcs hvl hc ?_
    rw [lG4 (by omega)]; exact hw
   ·refine (r5 (some ⟨b,off,none⟩) i c vb voff vc cs vs w hle (by omega) hbig hcs hvl (fun h=>by cases h) (fun a ha j v hj=>by injection ha with ha; subst ha; rw [Addr.add_lit]; exact hcell j v hj) hvs h1v).mono ?_
    rintro e w' ⟨rfl,hw⟩
    refine ⟨w.heap.size,0,_,rfl,?_,.inr rfl⟩
    exact r7 (s:=2) hcs hvl hg (by rw [hz6]; omega) hw
  ·have hlt:i<n:=by omega
   by_cases hroom:n+1≤c
   ·have hfa:w.frozen? ⟨vb,voff,none⟩=false:=by
     have:=hvfr voff (.inl (by omega))
     simp [World.frozen?,hvb]
     simpa using this
    have hfe:w.frozen? ⟨vb,Cv.size,none⟩=false:=by
     have:=hvfr Cv.size (.inr ⟨by decide,rfl⟩)
     simp [World.frozen?,hvb]
     simpa using this
    refine (apf b off n c i vb voff vc cs vs w hlt hroom (by omega) (Ne.symm hne) hcs hvl hcell (fun j hj=>hsp j (by omega)) (fun j hj=>hfz j (by omega)) hvs h1c h1v tv ty Cv.size C.size
     (by simp [World.shape?,hvb]) (by simp [World.shape?,hb]) (by omega) hfa hfe).mono ?_
    rintro e w' ⟨rfl,hw⟩
    refine ⟨b,off,_,rfl,?_,.inl ⟨_,rfl,rfl⟩⟩
    exact ao4 (s:=2) (w0:=w.drew) rfl ⟨rfl,rfl⟩ hb hfr hcap hroom (by omega) hcs hvl hc hw
   ·refine (apk b off n c i vb voff vc cs vs w hlt hle (by omega) hbig hcs hvl hcell hvs h1c h1v).mono ?_
    rintro e w' ⟨rfl,hw⟩
    refine ⟨w.heap.size,0,_,rfl,?_,.inr rfl⟩
    rw [Array.append_assoc] at hw
    exact aqb (s:=2) (by omega) hcs hvl hg (by rw [Array.size_append,hz6,hz6]; omega) hw
theorem apa (l:List Ent) (x:Ent) (i:Nat) (hi:i≤l.length) (hbig:(l.length+1)*24≤140737488355328) :
  bC Tryz.prog 134 [.own 2 (l.map Ent.row),.int .i64 i,.own 2 [Ent.row x]] (.own 2 ((l.take i++x::l.drop i).map Ent.row)) [.undef,.undef,.undef]:=by
 have hr6:∀ r ∈ l.map Ent.row,r.length=2:=fun r hr=>by obtain ⟨x,_,rfl⟩:=lV1.1 hr; rfl
 have hkn:(l.map Ent.row).flatten.all fG=true:=by
  rw [lW]
  intro t ht
  obtain ⟨r,hr,ht⟩:=List.mem_flatten.1 ht
  obtain ⟨x,_,rfl⟩:=lV1.1 hr
  exact lW.1 (show (Ent.row x).all fG=true from rfl) t ht
 have hl:(l.map Ent.row).length=l.length:=lJ1 _
 rw [show (l.take i++x::l.drop i).map Ent.row=(l.map Ent.row).take i++Ent.row x::(l.map Ent.row).drop i by simp]
 exact aqu _ _ i hr6 rfl hkn rfl (by omega) (by rw [hl]; exact hbig)
end
theorem aqe (e:Ent) (D:Inode) (n:aA):bC Tryz.prog 133 [e.x,.xbox (aoT D n)] (.bool (decide (n<e.name))) [.undef,.undef]:=by
 unfold aoT
 refine U apd [] 15 [] fun w hP hQ=>?_
 unfold x5
 refine N ?_
 have hz:=ad1
 refine Nz ?_
 rw [ajh,Bool.not_not]
theorem apY (t:Tab) (D:Inode) (n:aA) (j:Int) {k:Nat} (h:t.sz<2^30) (hD:D.sz<2^30) (hn:n.length<2^30) (hu:UpI t.inodes) (hk:b9 t D.ino=some k) :
  bC Tryz.prog 71 [aoS D n,t.x,.int .i64 j] (aG t (c5 D n j)).o [.undef,.undef,.undef]:=by
 obtain ⟨h1,h2,h3⟩:=dU hD
 have hz:=ad3 D n j
 have hS:=ajf t (c5 D n j) (by omega) (by omega) hu hk
 have hI:=aje (fun v=>aqe v D n) D.ents (by omega)
 have hC:=akZ D.ents (by omega)
 unfold aoS
 cases e:D.ents.findIdx? (fun e=>decide (n<e.name)) with
 | none=>
  have hPP:dD D.ents ⟨n,j⟩=D.ents.take D.ents.length++⟨n,j⟩::D.ents.drop D.ents.length:=aqo (key:=Ent.name) (e:=⟨n,j⟩) e
  have hIn:=apa D.ents ⟨n,j⟩ D.ents.length (lR1 _) (by omega)
  rw [← hPP] at hIn
  rw [e,show abP none=(-1:Int) from rfl] at hI
  refine U aoZ [(134,[.m,.b,.m],[])] 223 [] fun w hP hQ=>?_
  unfold r8
  refine N ?_
  refine K (hI) ?_
  refine K (hC) ?_
  refine K (hIn) ?_
  exact K (hS) trivial
 | some i=>
  have hPP:i<D.ents.length∧dD D.ents ⟨n,j⟩=D.ents.take i++⟨n,j⟩::D.ents.drop i:=aqn (key:=Ent.name) (e:=⟨n,j⟩) e
  have hIn:=apa D.ents ⟨n,j⟩ i (by omega) (by omega)
  rw [← hPP.2] at hIn
  rw [e,show abP (some i)=(i:Int) from rfl] at hI
  have g:decide (((i:Nat):Int)<0)=false:=lB (by omega)
  refine U aoZ [(134,[.m,.b,.m],[])] 223 [] fun w hP hQ=>?_
  unfold r8
  refine N ?_
  have hz:=g
  refine Kz (hI) ?_
  refine K (hC) ?_
  refine K (hIn) ?_
  exact K (hS) trivial
theorem apZ (y x:Inode):bC Tryz.prog 130 [y.x,.xbox (Inode.row x)] (.bool (decide (x.ino<y.ino))) [.undef,.undef]:=by
 refine U apG [] 15 [] fun w hP hQ=>?_
 unfold aoY
 exact N trivial
theorem apl (t:Tab) (x:Inode) (h:t.sz<2^30) (hx:x.sz<2^30) (hn:∀ y ∈ t.inodes,y.ino<x.ino):bC Tryz.prog 67 [t.x,x.x] (aG t x).o [.undef,.undef]:=by
 obtain ⟨h1,h2⟩:=cZ h
 have hPl:=sD t x.ino (by omega)
 rw [am4 hn,show abP none=(-1:Int) from rfl] at hPl
 have hI:=sC (fun v=>apZ v x) t.inodes (by omega)
 have e:t.inodes.findIdx? (fun y=>decide (x.ino<y.ino))=none:=by
  rw [lU3]
  intro y hy
  have:=hn y hy
  simp; omega
 rw [e,show abP none=(-1:Int) from rfl] at hI
 have hIn:=apJ t.inodes x t.inodes.length (lR1 _) (by omega)
 have e2:t.inodes.take t.inodes.length++x::t.inodes.drop t.inodes.length=t.inodes++[x]:=by simp
 rw [e2] at hIn
 rw [agN hn]
 unfold Inode.row at hI hIn
 refine U abv [(131,[.m,.b,.m],[])] 127 [] fun w hP hQ=>?_
 unfold sL
 refine N ?_
 refine K (agL t (by omega)) ?_
 refine K (oE x (by omega)) ?_
 refine K (hPl) ?_
 refine K (hI) ?_
 refine K (hIn) ?_
 all_goals first | rfl | exact ⟨rfl,rfl⟩
theorem ap4 (t:Tab) (s:aA) (k:Int) (h:t.sz<2^28) (hs:s.length<2^40):bC Tryz.prog 60 [t.x,.str s,.int .i64 k] (.tup [(fM t s k).1.o,.int .i64 (fM t s k).2]) [.undef,.undef,.undef]:=by
 have h':t.sz<2^40:=by omega
 have hC:=agL t h'
 have hR:=aoh t [s] h' (by simp) (by simpa using hs)
 have hS:=aow s
 simp only [lO4,List.all_nil,Bool.and_true,lP,lA2,dB] at hR
 by_cases hc:bJ t=true∧jA s=true
 ·obtain ⟨hB,hsb⟩:=hc
  rw [hsb] at hS
  have hp:gT s=true:=by cases e:gT s <;> simp_all
  have hne:decide (s=[47])=false:=by cases e:decide (s=[47]) <;> simp_all
  rw [hp,hB] at hR
  have hF:=an9 t s h' hs
  have e0:fM t s k=match wO t s 0 with
   | .ok D=>if t.inodes.length<30∧t.next<1000 then (n4 t D (aW s) k,0) else (t,5)
   | .error c=>(t,c):=by rw [fM,lG ⟨hB,hsb⟩]; rfl
  rw [e0,wO]
  cases hX:eN t s with
  | error c=>
   have hc:decide (c=0)=false:=lB (by
    unfold eN at hX
    split at hX
    ·split at hX
     ·cases hX
     ·cases hX; decide
    ·rename_i e3; cases hX; exact mP e3)
   rw [hX] at hF
   simp only [exC] at hF ⊢
   unfold aov at hF
   refine U kV [] 1999 [] fun w hP hQ=>?_
   unfold kR
   refine N ?_
   refine K (hC) ?_
   have hz:=hne
   refine Kz (hR) ?_
   (first|refine cI hP (hF) rfl rfl ?_|refine cH hP (hF) rfl rfl ?_)
   have hz:=hc
   refine Nz ?_
   all_goals first|exact trivial|rfl|exact ⟨rfl,rfl⟩
  | ok D=>
   have ht:=(aV t).1 hB
   have hm:=q7 hX
   have zD:=(cZ h).2 D hm
   have okD:=bQ ht hm
   have hE:=ak7 D (aW s) (by omega)
   have hi:=amR ht hm
   have hlen:=ht.tab.len
   have hnx:=ht.tab.next
   have hel:=okD.len
   obtain ⟨kD,hkD⟩:=pB (f0 ht hm)
   rw [hX] at hF
   simp only [exC,exI,exN] at hF ⊢
   unfold aov at hF
   by_cases g0:bB D (aW s)=0
   ·have g0':bB D (aJ s).2.1=0:=g0
    rw [g0] at hE
    rw [lG g0']
    by_cases g1:D.ents.length<10
    ·rw [lG (.inl g1)]
     have g1':decide (((D.ents.length:Nat):Int)=10)=false:=lB (by omega)
     by_cases g2:t.inodes.length<30
     ·have g2':decide (((t.inodes.length:Nat):Int)=30)=false:=lB (by omega)
      by_cases g3:t.next<1000
      ·have g3':decide (t.next=1000)=false:=lB (by omega)
       simp only [lG (And.intro g2 g3)]
       have z1:=ad3 D (aW s) t.next
       have z2:=(fN s).2
       have z3:=n8 ({ inodes:=t.inodes,next:=t.next+1 }:Tab) (c5 D (aW s) t.next)
       have z4:({ inodes:=t.inodes,next:=t.next+1 }:Tab).sz=t.sz:=rfl
       have hL:=apY { inodes:=t.inodes,next:=t.next+1 } D (aW s) t.next (by omega) (by omega) (by omega) (show UpI t.inodes from g9 hB) hkD
       have hI:=apl (aG { inodes:=t.inodes,next:=t.next+1 } (c5 D (aW s) t.next)) (aap t.next k) (by omega) (by show 0+(0+0)+(0+0)<2^30; omega) (am8 hB hm)
       unfold aoS at hL
       refine U kV [] 1999 [] fun w hP hQ=>?_
       unfold kR
       refine N ?_
       refine K (hC) ?_
       have hz:=hne
       refine Kz (hR) ?_
       refine K (hF) ?_
       have hz:=And.intro g1' (And.intro g2' g3')
       refine Kz (hE) ?_
       refine K (hL) ?_
       refine K (hI) ?_
       all_goals first|exact trivial|rfl|exact ⟨rfl,rfl⟩
      ·have g3':decide (t.next=1000)=true:=lE (by omega)
       simp only [lJ (show ¬ (t.inodes.length<30∧t.next<1000) from fun e=>g3 e.2)]
       refine U kV [] 1999 [] fun w hP hQ=>?_
       unfold kR
       refine N ?_
       refine K (hC) ?_
       have hz:=hne
       refine Kz (hR) ?_
       refine K (hF) ?_
       (first|refine cI hP (hE) rfl rfl ?_|refine cH hP (hE) rfl rfl ?_)
       have hz:=And.intro g1' (And.intro g2' g3')
       refine Nz ?_
       all_goals first|exact trivial|rfl|exact ⟨rfl,rfl⟩
     ·have g2':decide (((t.inodes.length:Nat):Int)=30)=true:=lE (by omega)
      simp only [lJ (show ¬ (t.inodes.length<30∧t.next<1000) from fun e=>g2 e.1)]
      refine U kV [] 1999 [] fun w hP hQ=>?_
      unfold kR
      refine N ?_
      refine K (hC) ?_
      have hz:=hne
      refine Kz (hR) ?_
      refine K (hF) ?_
      (first|refine cI hP (hE) rfl rfl ?_|refine cH hP (hE) rfl rfl ?_)
      have hz:=And.intro g1' g2'
      refine Nz ?_
      all_goals first|exact trivial|rfl|exact ⟨rfl,rfl⟩
    ·have g1':decide (((D.ents.length:Nat):Int)=10)=true:=lE (by omega)
     rw [lJ (show ¬ (D.ents.length<10∨D.ino=0) from fun e=>e.elim g1 (by omega))]
     refine U kV [] 1999 [] fun w hP hQ=>?_
     unfold kR
     refine N ?_
     refine K (hC) ?_
     have hz:=hne
     refine Kz (hR) ?_
     refine K (hF) ?_
     (first|refine cI hP (hE) rfl rfl ?_|refine cH hP (hE) rfl rfl ?_)
     have hz:=g1'
     refine Nz ?_
     all_goals first|exact trivial|rfl|exact ⟨rfl,rfl⟩
   ·have g0':decide (bB D (aW s)=0)=false:=lB g0
    rw [lJ (show ¬ bB D (aJ s).2.1=0 from g0)]
    refine U kV [] 1999 [] fun w hP hQ=>?_
    unfold kR
    refine N ?_
    refine K (hC) ?_
    have hz:=hne
    refine Kz (hR) ?_
    refine K (hF) ?_
    (first|refine cI hP (hE) rfl rfl ?_|refine cH hP (hE) rfl rfl ?_)
    have hz:=g0'
    refine Nz ?_
    all_goals first|exact trivial|rfl|exact ⟨rfl,rfl⟩
 ·have e:fM t s k=(t,1):=by rw [fM,lJ hc]
  rw [e]
  cases hp:(gT s && bJ t) with
  | false=>
   rw [hp] at hR
   refine U kV [] 1999 [] fun w hP hQ=>?_
   unfold kR
   refine N ?_
   refine K (hC) ?_
   (first|refine cI hP (hR) rfl rfl ?_|refine cH hP (hR) rfl rfl ?_)
   refine N ?_
   all_goals first|exact trivial|rfl|exact ⟨rfl,rfl⟩
  | true=>
   have hne:decide (s=[47])=true:=by
    cases e:decide (s=[47]) with
    | true=>rfl
    | false=>
     simp only [lM] at hp
     rw [hp.1,e] at hS
     exact absurd ⟨hp.2,hS⟩ hc
   rw [hp] at hR
   refine U kV [] 1999 [] fun w hP hQ=>?_
   unfold kR
   refine N ?_
   refine K (hC) ?_
   (first|refine cI hP (hR) rfl rfl ?_|refine cH hP (hR) rfl rfl ?_)
   have hz:=hne
   refine Nz ?_
   all_goals first|exact trivial|rfl|exact ⟨rfl,rfl⟩
theorem aqf (t:Tab) (s:aA) (h:t.sz<2^28) (hs:s.length<2^40):bC Tryz.prog 14 [t.x,.str s] (.tup [(fM t s 2).1.o,.int .i64 (fM t s 2).2]) [.undef,.undef]:=by
 refine U ap8 [] 55 [] fun w hP hQ=>?_
 unfold api
 refine N ?_
 exact K (ap4 t s 2 h hs) trivial
theorem ap9 (t:Tab) (s:aA) (h:t.sz<2^28) (hs:s.length<2^40):bC Tryz.prog 15 [t.x,.str s] (.tup [(fM t s 1).1.o,.int .i64 (fM t s 1).2]) [.undef,.undef]:=by
 refine U ap1 [] 55 [] fun w hP hQ=>?_
 unfold ao8
 refine N ?_
 exact K (ap4 t s 1 h hs) trivial
theorem aql {t:Tab} {s:aA} {c:Int} (h:eN t s=.error c):c≠0:=by
 unfold eN at h
 split at h
 ·split at h
  ·cases h
  ·cases h; decide
 ·rename_i e3; cases h; exact mP e3
theorem aqs {t:Tab} {p q:aA} {X D:Inode} (hB:bJ t=true) (hX:mN t p=.ok X) (hD:eN t q=.ok D):∃ kD kX,b9 t D.ino=some kD∧b9 (aG t (c5 D (aW q) X.ino)) X.ino=some kX∧UpI (aG t (c5 D (aW q) X.ino)).inodes ∧
  D.ents.length≤10∧0≤X.links∧X.links≤1000∧1≤D.ino:=by
 have ht:=(aV t).1 hB
 obtain ⟨f1,f2⟩:=c9 hX
 have a1:=(aR f1).2
 have hm:=q7 hD
 have a2:=f0 ht hm
 have k2:=(i7 hD).2
 have hne:D.ino≠X.ino:=by
  intro e
  rw [e,a1] at a2
  cases a2
  omega
 obtain ⟨kD,hkD⟩:=pB a2
 have hu:=g9 hB
 have a3:aC (aG t (c5 D (aW q) X.ino)) X.ino=some X:=by
  rw [cC hu,lJ (show ¬ (c5 D (aW q) X.ino).ino=X.ino from hne)]
  exact a1
 obtain ⟨kX,hkX⟩:=pB a3
 have ok:=bQ ht hm
 have l2:=(ht.tab.ok X (aR f1).1).1.links
 have hi:=amR ht hm
 exact ⟨kD,kX,hkD,hkX,f4 hu _,ok.len,by omega,by omega,by omega⟩
theorem aqa (t:Tab) (p q:aA) (h:t.sz<2^28) (hp:p.length<2^40) (hq:q.length<2^40):bC Tryz.prog 19 [t.x,.str p,.str q] (.tup [(kO t p q).1.o,.int .i64 (kO t p q).2]) [.undef,.undef,.undef]:=by
 have h':t.sz<2^40:=by omega
 have hC:=agL t h'
 have hR:=aoh t [p,q] h' (by simp) (by simp; omega)
 have hS:=aow q
 simp only [lO4,List.all_nil,Bool.and_true,lP,lA2,dB] at hR
 by_cases hc:bJ t=true∧gT p=true∧jA q=true
 ·obtain ⟨hB,hpb,hqb⟩:=hc
  rw [hqb] at hS
  have hqp:gT q=true:=by cases e:gT q <;> simp_all
  have hne:decide (q=[47])=false:=by cases e:decide (q=[47]) <;> simp_all
  rw [hpb,hqp,hB] at hR
  have hF:=ap2 t p h' hp
  cases hX:mN t p with
  | error c=>
   have hc:decide (c=0)=false:=lB (tL hX)
   have e:kO t p q=(t,c):=by rw [kO,lG ⟨hB,hpb,hqb⟩,hX]
   rw [hX] at hF
   rw [e]
   simp only [exC] at hF
   refine U kQ [] 1999 [] fun w hP hQ=>?_
   unfold kL
   refine N ?_
   refine K (hC) ?_
   have hz:=hne
   refine Kz (hR) ?_
   (first|refine cI hP (hF) rfl rfl ?_|refine cH hP (hF) rfl rfl ?_)
   have hz:=hc
   refine Nz ?_
   all_goals first|exact trivial|rfl|exact ⟨rfl,rfl⟩
  | ok X=>
   have e0:kO t p q=match wO t q 0 with
    | .ok D=>(m9 t D (aW q) X,0)
    | .error c=>(t,c):=by rw [kO,lG ⟨hB,hpb,hqb⟩,hX]; rfl
   have f1:=(c9 hX).1
   rw [hX,f1] at hF
   simp only [exI,exC] at hF
   rw [e0,wO]
   have hP1:=an9 t q h' hq
   cases hD:eN t q with
   | error c=>
    have hc:decide (c=0)=false:=lB (aql hD)
    rw [hD] at hP1
    simp only [exC] at hP1 ⊢
    unfold aov at hP1
    refine U kQ [] 1999 [] fun w hP hQ=>?_
    unfold kL
    refine N ?_
    refine K (hC) ?_
    have hz:=hne
    refine Kz (hR) ?_
    refine K (hF) ?_
    (first|refine cI hP (hP1) rfl rfl ?_|refine cH hP (hP1) rfl rfl ?_)
    have hz:=hc
    refine Nz ?_
    all_goals first|exact trivial|rfl|exact ⟨rfl,rfl⟩
   | ok D=>
    obtain ⟨kD,kX,k1,k2,k3,k4,k5,k6,k7⟩:=aqs hB hX hD
    have zX:=(cZ h).2 X (aR f1).1
    have zD:=(cZ h).2 D (q7 hD)
    have hE:=ak7 D (aW q) (by omega)
    rw [hD] at hP1
    simp only [exC,exI,exN] at hP1 ⊢
    unfold aov at hP1
    by_cases g0:bB D (aW q)=0
    ·have g0':bB D (aJ q).2.1=0:=g0
     rw [g0] at hE
     rw [lG g0']
     by_cases g1:D.ents.length<10
     ·rw [lG (.inl g1)]
      have g1':decide (((D.ents.length:Nat):Int)=10)=false:=lB (by omega)
      have z1:=ad3 D (aW q) X.ino
      have z2:=(fN q).2
      have z3:=n8 t (c5 D (aW q) X.ino)
      have z4:=am9 X
      have hL:=apY t D (aW q) X.ino (by omega) (by omega) (by omega) (g9 hB) k1
      have hI:=ajf (aG t (c5 D (aW q) X.ino)) (iD X) (by omega) (by omega) k3 k2
      unfold aoS at hL
      simp only
      rw [m9]
      refine U kQ [] 1999 [] fun w hP hQ=>?_
      unfold kL
      refine N ?_
      refine K (hC) ?_
      have hz:=hne
      refine Kz (hR) ?_
      refine K (hF) ?_
      refine K (hP1) ?_
      have hz:=g1'
      refine Kz (hE) ?_
      refine K (hL) ?_
      (first|refine cI hP (hI) rfl rfl ?_|refine cH hP (hI) rfl rfl ?_)
      refine N ?_
      all_goals first|exact trivial|rfl|exact ⟨rfl,rfl⟩
     ·have g1':decide (((D.ents.length:Nat):Int)=10)=true:=lE (by omega)
      rw [lJ (show ¬ (D.ents.length<10∨D.ino=0) from fun e=>e.elim g1 (by omega))]
      refine U kQ [] 1999 [] fun w hP hQ=>?_
      unfold kL
      refine N ?_
      refine K (hC) ?_
      have hz:=hne
      refine Kz (hR) ?_
      refine K (hF) ?_
      refine K (hP1) ?_
      (first|refine cI hP (hE) rfl rfl ?_|refine cH hP (hE) rfl rfl ?_)
      have hz:=g1'
      refine Nz ?_
      all_goals first|exact trivial|rfl|exact ⟨rfl,rfl⟩
    ·have g0':decide (bB D (aW q)=0)=false:=lB g0
     rw [lJ (show ¬ bB D (aJ q).2.1=0 from g0)]
     refine U kQ [] 1999 [] fun w hP hQ=>?_
     unfold kL
     refine N ?_
     refine K (hC) ?_
     have hz:=hne
     refine Kz (hR) ?_
     refine K (hF) ?_
     refine K (hP1) ?_
     (first|refine cI hP (hE) rfl rfl ?_|refine cH hP (hE) rfl rfl ?_)
     have hz:=g0'
     refine Nz ?_
     all_goals first|exact trivial|rfl|exact ⟨rfl,rfl⟩
 ·have e:kO t p q=(t,1):=by rw [kO,lJ hc]
  rw [e]
  cases hpq:(gT p && (gT q && bJ t)) with
  | false=>
   have hR':(gT p && gT q && bJ t)=false:=by rw [Bool.and_assoc]; exact hpq
   rw [hR'] at hR
   refine U kQ [] 1999 [] fun w hP hQ=>?_
   unfold kL
   refine N ?_
   refine K (hC) ?_
   (first|refine cI hP (hR) rfl rfl ?_|refine cH hP (hR) rfl rfl ?_)
   refine N ?_
   all_goals first|exact trivial|rfl|exact ⟨rfl,rfl⟩
  | true=>
   have hR':(gT p && gT q && bJ t)=true:=by rw [Bool.and_assoc]; exact hpq
   have hne:decide (q=[47])=true:=by
    cases e:decide (q=[47]) with
    | true=>rfl
    | false=>
     simp only [lM] at hpq
     rw [hpq.2.1,e] at hS
     exact absurd ⟨hpq.2.2,hpq.1,hS⟩ hc
   rw [hR'] at hR
   refine U kQ [] 1999 [] fun w hP hQ=>?_
   unfold kL
   refine N ?_
   refine K (hC) ?_
   (first|refine cI hP (hR) rfl rfl ?_|refine cH hP (hR) rfl rfl ?_)
   have hz:=hne
   refine Nz ?_
   all_goals first|exact trivial|rfl|exact ⟨rfl,rfl⟩
theorem ap5 {s:aA} (h:jA s=true):gT s=true∧decide (s=[47])=false:=by
 rw [aow] at h
 cases h1:gT s <;> cases h2:decide (s=[47]) <;> rw [h1,h2] at h <;> first | exact ⟨rfl,rfl⟩ | cases h
theorem ap6 (t:Tab) (p q:aA) (h:t.sz<2^28) (hp:p.length<2^40) (hq:q.length<2^40):bC Tryz.prog 18 [t.x,.str p,.str q] (.tup [(n6 t p q).1.o,.int .i64 (n6 t p q).2]) [.undef,.undef,.undef]:=by
 have h':t.sz<2^40:=by omega
 have hC:=agL t h'
 have hR:=aoh t [p,q] h' (by simp) (by simp; omega)
 have hSp:=aow p
 have hSq:=aow q
 simp only [lO4,List.all_nil,Bool.and_true,lP,lA2,dB] at hR
 by_cases hc:bJ t=true∧jA p=true∧jA q=true
 ·obtain ⟨hB,hpb,hqb⟩:=hc
  obtain ⟨hpp,hnp⟩:=ap5 hpb
  obtain ⟨hqp,hnq⟩:=ap5 hqb
  rw [hpp,hqp,hB] at hR
  have hW:=am2 t p h' hp
  cases hX:cJ t p with
  | error c=>
   have hc:decide (c=0)=false:=lB (mP hX)
   have e:n6 t p q=(t,c):=by rw [n6,lG ⟨hB,hpb,hqb⟩,hX]
   rw [hX] at hW
   rw [e]
   simp only [exI,exC] at hW
   refine U kP [] 6095 [] fun w hP hQ=>?_
   unfold kH
   refine N ?_
   refine K (hC) ?_
   have hz:=And.intro hnp hnq
   refine Kz (hR) ?_
   (first|refine cI hP (hW) rfl rfl ?_|refine cH hP (hW) rfl rfl ?_)
   have hz:=hc
   refine Nz ?_
   all_goals first|exact trivial|rfl|exact ⟨rfl,rfl⟩
  | ok X=>
   have e0:n6 t p q=if aam p q=true then (t,6) else (match wO t q (exI (eN t p)).ino with
    | .ok D=>(kI t (exI (eN t p)) D (aW p) (aW q) X.ino,0)
    | .error c=>(t,c)):=by rw [n6,lG ⟨hB,hpb,hqb⟩,hX]; rfl
   have hL:=aqm p q hp hq
   rw [hX] at hW
   simp only [exI,exC] at hW
   rw [e0]
   cases hb:aam p q with
   | true=>
    rw [hb] at hL
    rw [lG rfl]
    refine U kP [] 6095 [] fun w hP hQ=>?_
    unfold kH
    refine N ?_
    refine K (hC) ?_
    have hz:=And.intro hnp hnq
    refine Kz (hR) ?_
    refine K (hW) ?_
    (first|refine cI hP (hL) rfl rfl ?_|refine cH hP (hL) rfl rfl ?_)
    refine N ?_
    all_goals first|exact trivial|rfl|exact ⟨rfl,rfl⟩
   | false=>
    rw [hb] at hL
    rw [lJ (by simp)]
    obtain ⟨D1,d1⟩:=afo hB hpb hX
    have hO:=an9 t p h' hp
    rw [d1] at hO
    simp only [exI,exC,exN] at hO
    unfold aov at hO
    have hN:=an9 t q h' hq
    have ht:=(aV t).1 hB
    have zD1:=(cZ h).2 D1 (q7 d1)
    rw [d1]
    simp only [exI]
    cases hD:eN t q with
    | error c=>
     have hc:decide (c=0)=false:=lB (aql hD)
     rw [hD] at hN
     simp only [exI,exC,exN] at hN
     unfold aov at hN
     rw [wO,hD]
     refine U kP [] 6095 [] fun w hP hQ=>?_
     unfold kH
     refine N ?_
     refine K (hC) ?_
     have hz:=And.intro hnp hnq
     refine Kz (hR) ?_
     refine K (hW) ?_
     refine K (hL) ?_
     refine K (hO) ?_
     (first|refine cI hP (hN) rfl rfl ?_|refine cH hP (hN) rfl rfl ?_)
     have hz:=hc
     refine Nz ?_
     all_goals first|exact trivial|rfl|exact ⟨rfl,rfl⟩
    | ok D2=>
     have hm:=q7 hD
     have zD:=(cZ h).2 D2 hm
     have hE:=ak7 D2 (aW q) (by omega)
     have hel:=(bQ ht hm).len
     rw [hD] at hN
     simp only [exI,exC,exN] at hN
     unfold aov at hN
     by_cases g0:bB D2 (aW q)=0
     ·have g0':bB D2 (aJ q).2.1=0:=g0
      rw [g0] at hE
      by_cases g1:D2.ents.length<10∨D2.ino=D1.ino
      ·have hNew:wO t q D1.ino=.ok D2:=by rw [wO,hD]; simp only; rw [lG g0',lG g1]
       obtain ⟨D1',k,k1,k2,k3,k4,k5,k6,k7,k8,k9⟩:=anb hB hpb hqb hX hb (by rw [d1]; exact hNew)
       rw [d1] at k1
       cases k1
       rw [hNew]
       simp only
       rw [kI]
       have z1:=v6 D1 (aW p)
       have z2:=n8 t (cF D1 (aW p))
       have z3:=ad3 (fZ D1 D2 (aW p)) (aW q) X.ino
       have z4:=(fN q).2
       have z5:=(fN q).1
       obtain ⟨kD1,hkD1⟩:=pB (f0 ht (q7 d1))
       have hL1:=apW t D1 (aW p) h' (by omega) (g9 hB) hkD1
       have hI:=oY (aG t (cF D1 (aW p))) D2.ino (by omega)
       have e2:aC (aG t (cF D1 (aW p))) D2.ino=some (fZ D1 D2 (aW p)):=by
        have:=(pV k3).2
        have e3:(fZ D1 D2 (aW p)).ino=D2.ino:=by
         unfold fZ; split
         ·rename_i e; exact e
         ·rfl
        rw [e3] at this; exact this
       rw [adU,e2] at hI
       simp only [lY,lQ2] at hI
       have hL2:=apY (aG t (cF D1 (aW p))) (fZ D1 D2 (aW p)) (aW q) X.ino (by omega) (by omega) (by omega) k5 k4
       unfold aoS at hL1 hL2
       by_cases g2:D2.ents.length<10
       ·have g2':decide (((D2.ents.length:Nat):Int)=10)=false:=lB (by omega)
        refine U kP [] 6095 [] fun w hP hQ=>?_
        unfold kH
        refine N ?_
        refine K (hC) ?_
        have hz:=And.intro hnp hnq
        refine Kz (hR) ?_
        refine K (hW) ?_
        refine K (hL) ?_
        refine K (hO) ?_
        refine K (hN) ?_
        have hz:=g2'
        refine Kz (hE) ?_
        refine K (hL1) ?_
        refine K (hI) ?_
        (first|refine cI hP (hL2) rfl rfl ?_|refine cH hP (hL2) rfl rfl ?_)
        refine N ?_
        all_goals first|exact trivial|rfl|exact ⟨rfl,rfl⟩
       ·have g2':decide (((D2.ents.length:Nat):Int)=10)=true:=lE (by omega)
        have g3':decide (D2.ino=D1.ino)=true:=lE (g1.resolve_left g2)
        refine U kP [] 6095 [] fun w hP hQ=>?_
        unfold kH
        refine N ?_
        refine K (hC) ?_
        have hz:=And.intro hnp hnq
        refine Kz (hR) ?_
        refine K (hW) ?_
        refine K (hL) ?_
        refine K (hO) ?_
        refine K (hN) ?_
        have hz:=And.intro g2' g3'
        refine Kz (hE) ?_
        refine K (hL1) ?_
        refine K (hI) ?_
        (first|refine cI hP (hL2) rfl rfl ?_|refine cH hP (hL2) rfl rfl ?_)
        refine N ?_
        all_goals first|exact trivial|rfl|exact ⟨rfl,rfl⟩
      ·have g2':decide (((D2.ents.length:Nat):Int)=10)=true:=lE (by have:¬ D2.ents.length<10:=fun e=>g1 (.inl e); omega)
       have g3':decide (D2.ino=D1.ino)=false:=lB fun e=>g1 (.inr e)
       have hNew:wO t q D1.ino=.error 5:=by rw [wO,hD]; simp only; rw [lG g0',lJ g1]
       rw [hNew]
       simp only
       refine U kP [] 6095 [] fun w hP hQ=>?_
       unfold kH
       refine N ?_
       refine K (hC) ?_
       have hz:=And.intro hnp hnq
       refine Kz (hR) ?_
       refine K (hW) ?_
       refine K (hL) ?_
       refine K (hO) ?_
       refine K (hN) ?_
       (first|refine cI hP (hE) rfl rfl ?_|refine cH hP (hE) rfl rfl ?_)
       have hz:=And.intro g2' g3'
       refine Nz ?_
       all_goals first|exact trivial|rfl|exact ⟨rfl,rfl⟩
     ·have g0':decide (bB D2 (aW q)=0)=false:=lB g0
      have hNew:wO t q D1.ino=.error 4:=by rw [wO,hD]; simp only; rw [lJ (show ¬ bB D2 (aJ q).2.1=0 from g0)]
      rw [hNew]
      simp only
      refine U kP [] 6095 [] fun w hP hQ=>?_
      unfold kH
      refine N ?_
      refine K (hC) ?_
      have hz:=And.intro hnp hnq
      refine Kz (hR) ?_
      refine K (hW) ?_
      refine K (hL) ?_
      refine K (hO) ?_
      refine K (hN) ?_
      (first|refine cI hP (hE) rfl rfl ?_|refine cH hP (hE) rfl rfl ?_)
      have hz:=g0'
      refine Nz ?_
      all_goals first|exact trivial|rfl|exact ⟨rfl,rfl⟩
 ·have e:n6 t p q=(t,1):=by rw [n6,lJ hc]
  rw [e]
  cases hpq:(gT p && gT q && bJ t) with
  | false=>
   rw [hpq] at hR
   refine U kP [] 6095 [] fun w hP hQ=>?_
   unfold kH
   refine N ?_
   refine K (hC) ?_
   (first|refine cI hP (hR) rfl rfl ?_|refine cH hP (hR) rfl rfl ?_)
   refine N ?_
   all_goals first|exact trivial|rfl|exact ⟨rfl,rfl⟩
  | true=>
   rw [hpq] at hR
   simp only [lM] at hpq
   rw [hpq.1.1] at hSp
   rw [hpq.1.2] at hSq
   cases hnp:decide (p=[47]) with
   | true=>
    refine U kP [] 6095 [] fun w hP hQ=>?_
    unfold kH
    refine N ?_
    refine K (hC) ?_
    (first|refine cI hP (hR) rfl rfl ?_|refine cH hP (hR) rfl rfl ?_)
    have hz:=hnp
    refine Nz ?_
    all_goals first|exact trivial|rfl|exact ⟨rfl,rfl⟩
   | false=>
    have hnq:decide (q=[47])=true:=by
     cases e:decide (q=[47]) with
     | true=>rfl
     | false=>
      rw [e] at hSq
      rw [hnp] at hSp
      exact absurd ⟨hpq.2,hSp,hSq⟩ hc
    refine U kP [] 6095 [] fun w hP hQ=>?_
    unfold kH
    refine N ?_
    refine K (hC) ?_
    (first|refine cI hP (hR) rfl rfl ?_|refine cH hP (hR) rfl rfl ?_)
    have hz:=And.intro hnp hnq
    refine Nz ?_
    all_goals first|exact trivial|rfl|exact ⟨rfl,rfl⟩
theorem ap0 (b:aA) (hf:b.length<2^48):bC Tryz.prog 3 [.ext 1 (aO b)] (.bool true) [.undef]:=by
 refine uM fun a len cap ha=>?_
 generalize hv:Value.slice a len cap=v
 have hB:=aoj (v:=v) (aoU b hf)
 cases hz:decide ((1048576:Int)<(b.length:Nat)) with
 | true=>
  rw [hz] at hB
  refine U z8 [] 961181 [] fun w hP hQ=>?_
  unfold p3
  refine N ?_
  exact K (hB) trivial
 | false=>
  rw [hz] at hB
  obtain ⟨t,p,q,ht,hp,hq,k1⟩:=aqi v b hf
  have hsz:=agz ht
  have e0:jA [47]=false:=by decide
  have e1:∀ k,fM t [47] k=(t,1):=fun k=>by rw [fM,lJ (by rw [e0]; simp)]
  have e2:fV t [47]=(t,1):=by rw [fV,lJ (by rw [e0]; simp)]
  have e3:iZ t [47]=(t,1):=by rw [iZ,lJ (by rw [e0]; simp)]
  have e4:n6 t [47] p=(t,1):=by rw [n6,lJ (by rw [e0]; simp)]
  have e5:n6 t p [47]=(t,1):=by rw [n6,lJ (by rw [e0]; simp)]
  have e6:kO t p [47]=(t,1):=by rw [kO,lJ (by rw [e0]; simp)]
  have kA:=aqf t [47] (by omega) (by simp)
  have kB:=ap9 t [47] (by omega) (by simp)
  have kC:=aqh t [47] (by omega) (by simp)
  have kD:=ap3 t [47] (by omega) (by simp)
  have kE:=ap6 t [47] p (by omega) (by simp) (by omega)
  have kF:=ap6 t p [47] (by omega) (by omega) (by simp)
  have kG:=aqa t p [47] (by omega) (by omega) (by simp)
  have kS:=aok t (by omega)
  rw [e1] at kA kB
  rw [e2] at kC
  rw [e3] at kD
  rw [e4] at kE
  rw [e5] at kF
  rw [e6] at kG
  refine U z8 [] 961181 [] fun w hP hQ=>?_
  unfold p3
  refine N ?_
  refine K (hB) ?_
  refine K (k1) ?_
  refine K (kA) ?_
  refine K (kB) ?_
  refine K (kC) ?_
  refine K (kD) ?_
  refine K (kE) ?_
  refine K (kF) ?_
  refine K (kG) ?_
  exact K (kS) trivial
section
open Go.Proofs Go.Proofs.YtnfngemnghiehaaGreatDoor
theorem apK:(Rows.fnRootStaysRow.wf (OpenSpec.ofChange Rows.fnRootStaysSpec))=true:=by kernel_rfl
theorem apL:(Tryz.f3.params.all (Tryz.prog.readableRec ·))=true:=by kernel_rfl
theorem apM:(namedTie Tryz.prog Rows.fnRootStaysRow.named Rows.fnRootStaysSpec.vars)=true:=by kernel_rfl
theorem apN:((Rows.fnRootStaysRow.stops == []))=true:=by kernel_rfl
theorem apO:((Rows.fnRootStaysRow.knobs == []))=true:=by kernel_rfl
theorem apP:((Rows.fnRootStaysRow.inPlace == Tryz.prog.inPlace 3))=true:=by kernel_rfl
theorem apm:((Rows.fnRootStaysRow.unfollowed == Tryz.prog.unfollowed 3))=true:=by kernel_rfl
theorem apn:((Rows.fnRootStaysRow.recurses == Tryz.prog.recurses 3))=true:=by kernel_rfl
theorem apo:((Rows.fnRootStaysRow.named == Tryz.prog.varsNamed 3))=true:=by kernel_rfl
theorem apq:((Rows.fnRootStaysRow.maps == (Tryz.f3.params.toList++Rows.fnRootStaysSpec.plain.varTypes Tryz.prog).any (Tryz.prog.mapsRec ·)))=true:=by kernel_rfl
theorem apr:((Rows.fnRootStaysRow.ifaces == (Tryz.f3.params.toList++Rows.fnRootStaysSpec.plain.varTypes Tryz.prog).any (Tryz.prog.ifacesRec ·)))=true:=by kernel_rfl
theorem aps:((Rows.fnRootStaysRow.mapsOut == Tryz.prog.mapsAmong Tryz.f3.resultTypes.toList))=true:=by kernel_rfl
theorem apt:((Rows.fnRootStaysRow.loops == (Tryz.f3.params.toList++Rows.fnRootStaysSpec.plain.varTypes Tryz.prog).any (Tryz.prog.loopsFrom ·)))=true:=by kernel_rfl
theorem apu:((Rows.fnRootStaysRow.wideKeys == (Tryz.f3.params.toList++Rows.fnRootStaysSpec.plain.varTypes Tryz.prog++Tryz.f3.resultTypes.toList).any (Tryz.prog.wideKeysFrom ·)))=true:=by kernel_rfl
theorem apv:(Rows.fnRootStaysSpec.vars.all (Tryz.prog.varReadable ·))=true:=by kernel_rfl
theorem apw:(Tryz.f3.resultTypes.all (fun t=>Tryz.prog.readableRec t && decide (t<Tryz.prog.types.size)))=true:=by kernel_rfl
theorem apx:((Rows.fnRootStaysRow.ifacesOut == Tryz.f3.resultTypes.toList.any (Tryz.prog.ifacesRec ·)))=true:=by kernel_rfl
theorem apy:((Rows.fnRootStaysRow.loopsOut == Tryz.f3.resultTypes.toList.any (Tryz.prog.loopsFrom ·)))=true:=by kernel_rfl
theorem apz:((Rows.fnRootStaysRow.plainKeys == Tryz.prog.plainKeys))=true:=by kernel_rfl
theorem apA:(Rows.fnRootStaysRow.shortTexts.isNone)=true:=by kernel_rfl
theorem apB:((Rows.fnRootStaysRow.kinds == (if Rows.fnRootStaysRow.domain.isEmpty then [] else Tryz.f3.params.toList.map fun t=>match Tryz.prog.underlying t with | some (.int k)=>some k | _=>none)))=true:=by kernel_rfl
theorem apC:((Rows.fnRootStaysRow.pinned == Rows.fnRootStaysRow.pinnedBy))=true:=by kernel_rfl
theorem apD:((Rows.fnRootStaysRow.veiled == (Tryz.f3.params.toList++Rows.fnRootStaysSpec.plain.varTypes Tryz.prog++Tryz.f3.resultTypes.toList).any (Tryz.prog.veiledRec ·)))=true:=by kernel_rfl
theorem apE:(Rows.fnRootStaysRow.veiledFits Tryz.prog Tryz.f3.params.toList (Tryz.f3.params.toList++Rows.fnRootStaysSpec.plain.varTypes Tryz.prog++Tryz.f3.resultTypes.toList))=true:=by kernel_rfl
theorem apQ:joinedFacts Tryz.prog 3 Tryz.f3 Rows.fnRootStaysSpec Rows.fnRootStaysRow=true:=
 anX apK aoL aoM apL apM apN aoB apO aoC apP apm apn apo apq apr aps apt apu apv apw apx apy apz apA aoD aoE aoF aoN apB apC apD apE
theorem apg (os:Os) (started:os.Started) (H:Type) (enc:TypeId × Value→H) :
  ReturnsInHanded {} Tryz.checked os 3 .any (fun w args=>(Rows.fnRootStaysSpec.pre enc Tryz.prog Tryz.f3 [] false w args∧laidMetH Tryz.prog Rows.fnRootStaysRow.laid w)∧sizedMet enc Tryz.prog Tryz.f3 (OpenSpec.ofChange Rows.fnRootStaysSpec) false w args) (Rows.fnRootStaysSpec.post enc Tryz.prog Tryz.f3 false true false false):=by
 refine law_laid (X:=fun w _=>laidMetH Tryz.prog Rows.fnRootStaysRow.laid w) (fun _ _ _ hh h=>h.of_heap hh) (C:=Tryz.checked) (pars:=[(false,[.sl 1 [.int .u8]])]) own started (by kernel_rfl) Tryz.func3
  (ChangeSpec.witness_shaped (enc:=enc) (C:=Tryz.checked) (os:=os) (X:=fun w _=>laidMetH Tryz.prog Rows.fnRootStaysRow.laid w) false (World.laidAll Tryz.prog os Rows.fnRootStaysRow.laid) #[.slice none 0 0] 8 (World.laidAll_os _ _ _) (World.shaped_of_RefB (by kernel_rfl) (by kernel_rfl)) (by kernel_rfl) (by kernel_rfl) (by kernel_rfl) (aof _ (by kernel_rfl) (by kernel_rfl) (by kernel_rfl)))
  rfl (by kernel_rfl) rfl (by kernel_rfl) ?_ ?_
 ·intro ds hd
  match ds,hd with
  | [d0],_=>rfl
 ·intro tss h
  match tss,h with
  | [t0],⟨h0,_⟩=>
   obtain ⟨r0,u0,rfl,l0,e0,k0⟩:=Shp.sl_inv h0
   obtain rfl:=Shp.nil_inv k0
   obtain ⟨x0,rfl⟩:=ani e0
   exact ⟨_,ap0 x0 (aoy l0)⟩
theorem apR:Tryz.f3.isWrapper Tryz.prog Rows.fnRootStaysRow.wrapper Rows.fnRootStaysRow.mainSum:=by
 unfold Func.isWrapper; first | (rw [if_pos (by decide +kernel)]; kernel_rfl) | (rw [if_neg (by decide +kernel)]; exact ⟨rfl,rfl⟩)
theorem law_FnRootStays:Rows.FnRootStaysSaid:=
 OpenClaim.holds_of_wide 3 Tryz.f3 rfl rfl rfl rfl rfl rfl rfl ⟨rfl,rfl,rfl,rfl,rfl⟩ rfl rfl rfl rfl rfl (by kernel_rfl) Tryz.func3 apQ
  (of_decide_eq_true (by kernel_rfl)) apR
  (fun os started H enc _=>apg os started H enc)
theorem apS:Rows.fnRootStaysRow.wfByText (OpenSpec.ofChange Rows.fnRootStaysSpec)=true:=by kernel_rfl
theorem k2_FnRootStays:Tryz.prog.funcNamed "loop.example/g00285/laws.FnRootStays"=some 3:=by kernel_rfl
theorem apT:(Tryz.f3.params.toList.all fun u=>!Tryz.prog.wantsStandIn u)=true:=by kernel_rfl
theorem apU:false=Rows.fnRootStaysRow.goesBy Tryz.prog:=by kernel_rfl
theorem card_FnRootStays:Rows.FnRootStaysCardSaid:=
 Claim7.holds_tied_plain_at .later [] [.data,.pinned] true (true, "a471463198dfccefd4549d2ca3dea33ce4024f0ca831b63ca506e736f471de25") false
  law_FnRootStays (fun _ h=>by cases h) apS (fun _ h=>by cases h) fnRootStays_row_tie rfl ⟨rfl,rfl⟩ aoK rfl
  (fun f fn hf hfn=>by
   obtain rfl:f=3:=Option.some.inj (k2_FnRootStays.symm.trans hf) |>.symm
   obtain rfl:fn=Tryz.f3:=(Option.some.inj (Tryz.func3.symm.trans hfn)).symm
   exact ⟨aoA,fun j t ht=>by
    have:=lW.1 apT t (by simpa using Array.mem_of_getElem? ht)
    exact show Tryz.prog.wantsStandIn t=false by simpa using this⟩)
  apU
end
end Go.Proofs.YtnfngemnghiehaaGreatDoor.Awp

namespace Go.Proofs.YtnfngemnghiehaaGreatDoor
/-- the given statement -/
theorem provedFnRootStays : Rows.FnRootStaysCardSaid := Awp.card_FnRootStays
end Go.Proofs.YtnfngemnghiehaaGreatDoor
#print axioms Go.Proofs.YtnfngemnghiehaaGreatDoor.provedFnRootStays
