/- The law FnOps (a drawn operation that has bytes comes back of them; what is read has these bytes) holds for every argument: the given statement is proved. Condition: none. -/
import Derived.Test.YtnfeefcnblondaaGreatBase2
import Derived.Test.YtnfeefcnblondaaGreatAwp4
import Derived.Test.YtnfeefcnblondaaGreatRows
import Derived.Sort.Walk0
import Derived.Shelf.Strings.Search3
import Derived.Shelf.Strings.Count
import Derived.Shelf.Strings.OnBuilder
import Derived.Shelf.Lays
import Derived.Shelf.Sort.Plain
import Derived.Shelf.Slices.In.SortNone
import Derived.Shelf.RegionOpenPlain
import Derived.WalkKit
import Derived.Deep.MidRow
import Derived.Deep.LoopGhost
import Derived.Deep.RegionLaw
import Derived.Lib.Walk
import Derived.Sort.WalkB12
import Derived.OpenShut
import Derived.KernelRfl
set_option linter.unusedVariables false
set_option linter.unusedSimpArgs false
set_option maxRecDepth 100000
set_option maxHeartbeats 20000000
open Nat (reduceEqDiff reduceAdd reduceMul reduceSub)
open Int (reduceNeg reduceToNat reducePow)
namespace Go.Proofs.YtnfeefcnblondaaGreat.Awp
theorem uA1:type_of% @Bool.not_false:=@Bool.not_false
theorem uB1:type_of% @Bool.not_true:=@Bool.not_true
theorem uC1:type_of% @Int.sub_zero:=@Int.sub_zero
theorem uD1:type_of% @List.length_singleton:=@List.length_singleton
theorem uE1:type_of% @Int.add_zero:=@Int.add_zero
section
namespace W
end W
open I W
abbrev aqc:Cmd:=Q (R [e' 2 k0]) (Q (Q (R [a 12 0,c 13 9 [v 12]]) (F (v 13) (Q (R [e' 2 k1]) .ret) .skip)) (Q (R [a 14 0,c 15 10 [v 14],z 3 [.int .i64 0,.int .i64 0,.str [],.str [],.int .i64 0,.sl 1 []],s 3 15 6]) (Q (R [b 16 3 6,c 17 11 [v 16],e 4 17]) (Q (R [a 18 0,c 19 12 [v 18],e 5 19]) (Q (R [a 21 5,c 22 13 [v 21],a 20 22,x 23 20 0,x 24 20 1,z 6 [.int .i64 0,.int .i64 0,.str [],.str [],.int .i64 0,.sl 1 []],s 6 23 6,e 7 24]) (Q (R [a 26 5,c 27 14 [v 26],a 25 27,x 28 25 0,x 29 25 1,z 8 [.int .i64 0,.int .i64 0,.str [],.str [],.int .i64 0,.sl 1 []],s 8 28 6,e 9 29]) (Q (Q (R [a 30 7,a 31 9,n 32 (beq 32 true (v 30) (v 31)),a 33 32,ha 33 false 34 7,ha 33 false 35 34,hb 35 true 36 6 6,hc 35 true 37 11 [v 36],ha 35 true 38 5,hc 35 true 39 15 [v 37,v 38],h 35 true 40 (un 40 .not (v 39)),h 33 false 41 (pck 41 (v 35) (v 40) k0),p 42 33 k1 (v 41),a 43 42,ha 43 false 44 4,hb 43 false 45 3 6,hc 43 false 46 16 [v 45],hc 43 false 47 15 [v 44,v 46],h 43 false 48 (un 48 .not (v 47)),p 49 43 k1 (v 48)]) (F (v 49) (Q (R [e' 2 k0]) .ret) .skip)) (Q (R [a 51 4,c 52 13 [v 51],a 50 52,x 53 50 0,x 54 50 1,z 10 [.int .i64 0,.int .i64 0,.str [],.str [],.int .i64 0,.sl 1 []],s 10 53 6,e 11 54]) (Q (R [a 55 4,l 56 55,g 57 .eql (v 56) (k 0),a 58 57,ha 58 false 59 11,ha 58 false 60 59,h 60 true 61 (fld 61 (v 10) 0),h 60 true 62 (ld 62 (v 61) 1 false),h 60 true 63 (fld 63 (v 3) 0),h 60 true 64 (ld 64 (v 63) 1 false),h 60 true 65 (bin 65 .eql (v 62) (v 64)),h 58 false 66 (pck 66 (v 60) (v 65) k0),ha 58 false 67 66,h 67 true 68 (fld 68 (v 10) 1),h 67 true 69 (ld 69 (v 68) 1 false),h 67 true 70 (fld 70 (v 3) 1),h 67 true 71 (ld 71 (v 70) 1 false),h 67 true 72 (bin 72 .eql (v 69) (v 71)),h 58 false 73 (pck 73 (v 67) (v 72) k0),ha 58 false 74 73,h 74 true 75 (fld 75 (v 10) 2),h 74 true 76 (ld 76 (v 75) 1 false),h 74 true 77 (fld 77 (v 3) 2),h 74 true 78 (ld 78 (v 77) 1 false),h 74 true 79 (bin 79 .eql (v 76) (v 78)),h 58 false 80 (pck 80 (v 74) (v 79) k0),ha 58 false 81 80,h 81 true 82 (fld 82 (v 10) 3),h 81 true 83 (ld 83 (v 82) 1 false),h 81 true 84 (fld 84 (v 3) 3),h 81 true 85 (ld 85 (v 84) 1 false),h 81 true 86 (bin 86 .eql (v 83) (v 85)),h 58 false 87 (pck 87 (v 81) (v 86) k0),ha 58 false 88 87,h 88 true 89 (fld 89 (v 10) 4),h 88 true 90 (ld 90 (v 89) 1 false),h 88 true 91 (fld 91 (v 3) 4),h 88 true 92 (ld 92 (v 91) 1 false),h 88 true 93 (bin 93 .eql (v 90) (v 92)),h 58 false 94 (pck 94 (v 88) (v 93) k0),ha 58 false 95 94,h 95 true 96 (fld 96 (v 10) 5),h 95 true 97 (ld 97 (v 96) 1 false),h 95 true 98 (fld 98 (v 3) 5),h 95 true 99 (ld 99 (v 98) 1 false),hc 95 true 100 15 [v 97,v 99],h 58 false 101 (pck 101 (v 95) (v 100) k0),p 102 58 k1 (v 101),e 2 102]) .ret)))))))))
abbrev apo:Cmd:=Q (R [z 2 [.int .i64 0,.int .i64 0,.str [],.str [],.int .i64 0,.sl 1 []]]) (Q (R [a 4 0,c 5 43 [v 4],e 3 5]) (Q (R [a 6 3,a 7 3,c 8 45 [v 7,k 4],c 9 44 [v 6,v 8],s 2 9 6]) .ret))
abbrev aqd:Cmd:=Q (R [n 1 (box 1 (v 0)),e' 2 (.c (.own 1 []))]) (Q (Q (R [f 4 1 0,b' 5 4 1,c 6 46 [v 5,k 1,k 14],n 7 (un 7 .not (v 6)),a 8 7,h 8 false 9 (fld 9 (v 1) 1),h 8 false 10 (ld 10 (v 9) 1 false),hc 8 false 11 46 [v 10,k 0,k 1000000],h 8 false 12 (un 12 .not (v 11)),p 13 8 k1 (v 12),a 14 13,h 14 false 15 (fld 15 (v 1) 4),h 14 false 16 (ld 16 (v 15) 1 false),hc 14 false 17 46 [v 16,k 0,k 1000000],h 14 false 18 (un 18 .not (v 17)),p 19 14 k1 (v 18)]) (F (v 19) (Q (R [e' 2 (.c (.own 1 []))]) .ret) .skip)) (Q (D [0,1,3,0,8,31,63] [f 20 1 0,b' 21 20 1,c 22 47 [.c (.own 1 []),v 21],f 23 1 1,b' 24 23 1,c 25 47 [v 22,v 24],e 3 25]) (Q (D [0,0,2,7,0,16,63,0,128,511,0,1024,3072,8191,16383] [a 26 3,f 27 1 2,b' 28 27 1,c 29 48 [v 26,v 28],f 30 1 3,b' 31 30 1,c 32 48 [v 29,v 31],f 33 1 4,b' 34 33 1,c 35 47 [v 32,v 34],f 36 1 5,b' 37 36 1,n 38 (b2s 38 (v 37)),c 39 48 [v 35,v 38],e 2 39]) .ret)))
abbrev apq:Cmd:=Q (R [e' 2 (.c (.own 1 []))]) (Q (R [a 5 0,c 6 43 [v 5],e 3 6]) (Q (R [a 7 3,a 8 3,c 9 45 [v 8,k 4],c 10 49 [v 7,v 9],c 11 16 [v 10],e 4 11]) (Q (Q (R [a 12 4,l 13 12,g 14 .eql (v 13) (k 0)]) (F (v 14) (Q (R [a 15 4,e 2 15]) .ret) .skip)) (Q (Q (R [a 16 3,c 17 50 [v 16,k 5]]) (.blk 0 (Q (R [g 19 .eql (v 17) (k 0),e 18 19]) (F (v 18) (R [a 20 4,a 21 3,a 22 4,l 23 22,c 24 50 [v 21,v 23],a 25 3,o 26 1 [k 0,k 1,k 2,k 97,k 128],c 27 51 [v 25,v 26],n 28 (conv 28 .u8 (v 27)),i 29 20 24 1,s 29 28 1]) (Q (R [g 31 .eql (v 17) (k 1),e 30 31]) (F (v 30) (R [a 32 4,a 33 3,a 34 4,l 35 34,c 36 50 [v 33,v 35],n 37 (slc 37 (v 32) none (some (v 36)) 1),e 4 37]) (Q (R [g 39 .eql (v 17) (k 2),e 38 39]) (F (v 38) (R [a 40 4,o 41 1 [.c (.int .u8 0)],n 42 (app 42 (v 40) (v 41) 1 1),e 4 42]) .skip)))))))) (Q (R [a 43 4,e 2 43]) .ret)))))
abbrev aqe:Cmd:=Q (R [z 2 [.int .i64 0,.int .i64 0,.str [],.str [],.int .i64 0,.sl 1 []],e' 3 k0]) (Q (R [a 6 0,n 7 (bld 7 [.sl 1 [],.int .i64 0,.bool false] [(0,1,v 6),(2,1,k1)]),n 8 (box 8 (v 7)),e 4 8]) (Q (R [n 9 (bld 9 [.int .i64 0,.int .i64 0,.str [],.str [],.int .i64 0,.sl 1 []] []),z 5 [.int .i64 0,.int .i64 0,.str [],.str [],.int .i64 0,.sl 1 []],s 5 9 6]) (Q (R [a 10 4,c 11 52 [v 10],f 12 5 0,s 12 11 1]) (Q (R [a 13 4,c 14 52 [v 13],f 15 5 1,s 15 14 1]) (Q (R [a 16 4,c 17 53 [v 16],f 18 5 2,s 18 17 1]) (Q (R [a 19 4,c 20 53 [v 19],f 21 5 3,s 21 20 1]) (Q (R [a 22 4,c 23 52 [v 22],f 24 5 4,s 24 23 1]) (Q (R [a 25 4,c 26 53 [v 25],n 27 (s2b 27 (v 26)),f 28 5 5,s 28 27 1]) (Q (Q (R [a 29 4,c 30 54 [v 29],n 31 (un 31 .not (v 30)),a 32 31,h 32 false 33 (fld 33 (v 5) 0),h 32 false 34 (ld 34 (v 33) 1 false),hc 32 false 35 46 [v 34,k 1,k 14],h 32 false 36 (un 36 .not (v 35)),p 37 32 k1 (v 36)]) (F (v 37) (Q (R [n 38 (bld 38 [.int .i64 0,.int .i64 0,.str [],.str [],.int .i64 0,.sl 1 []] []),s 2 38 6,e' 3 k0]) .ret) .skip)) (Q (R [b 39 5 6,s 2 39 6,e' 3 k1]) .ret))))))))))
abbrev aqf:Cmd:=Q (R [z 2 [.int .i64 0,.int .i64 0,.str [],.str [],.int .i64 0,.sl 1 []],e' 3 k0]) (Q (R [a 6 0,n 7 (bld 7 [.sl 1 [],.int .i64 0,.bool false] [(0,1,v 6)]),n 8 (box 8 (v 7)),e 4 8]) (Q (R [a 9 4,c 10 55 [v 9],n 11 (bld 11 [.int .i64 0,.int .i64 0,.str [],.str [],.int .i64 0,.sl 1 []] [(0,1,v 10)]),z 5 [.int .i64 0,.int .i64 0,.str [],.str [],.int .i64 0,.sl 1 []],s 5 11 6]) (Q (R [a 12 4,c 13 55 [v 12],f 14 5 1,s 14 13 1]) (Q (R [a 15 4,c 16 56 [v 15],f 17 5 2,s 17 16 1]) (Q (R [a 18 4,c 19 56 [v 18],f 20 5 3,s 20 19 1]) (Q (R [a 21 4,c 22 55 [v 21],f 23 5 4,s 23 22 1]) (Q (R [a 24 4,c 25 56 [v 24],n 26 (s2b 26 (v 25)),f 27 5 5,s 27 26 1]) (Q (Q (R [a 28 4,n 29 (nck 29 (v 28)),f 30 29 2,b' 31 30 1,a 32 31,ha 32 false 33 4,h 32 false 34 (nck 34 (v 33)),h 32 false 35 (fld 35 (v 34) 1),h 32 false 36 (ld 36 (v 35) 1 false),ha 32 false 37 0,h 32 false 38 (len 38 (v 37)),h 32 false 39 (bin 39 .neq (v 36) (v 38)),p 40 32 k1 (v 39),a 41 40,h 41 false 42 (fld 42 (v 5) 0),h 41 false 43 (ld 43 (v 42) 1 false),hc 41 false 44 57 [v 43,k 1,k 14],h 41 false 45 (un 45 .not (v 44)),p 46 41 k1 (v 45)]) (F (v 46) (Q (R [n 47 (bld 47 [.int .i64 0,.int .i64 0,.str [],.str [],.int .i64 0,.sl 1 []] []),s 2 47 6,e' 3 k0]) .ret) .skip)) (Q (R [b 48 5 6,s 2 48 6,e' 3 k1]) .ret)))))))))
abbrev apr:Cmd:=Q (R [e' 4 k0]) (Q (Q (R [a 6 0,l 7 6,a 8 1,l 9 8,g 10 .neq (v 7) (v 9)]) (F (v 10) (Q (R [e' 4 k0]) .ret) .skip)) (Q (Q (R [e' 5 (k 0)]) (.blk 0 (.loop (Q (Q (R [a 11 5,a 12 0,l 13 12,g 14 .lss (v 11) (v 13)]) (F (v 14) .skip (.exit 0))) (Q (.blk 1 (Q (D [0,0,3,7,0,0,48,112,255] [a 17 0,a 18 5,i 19 17 18 1,b' 20 19 1,a 21 1,a 22 5,i 23 21 22 1,b' 24 23 1,g 25 .neq (v 20) (v 24)]) (F (v 25) (Q (R [e' 4 k0]) .ret) .skip))) (R [a 15 5,g 16 .add (v 15) (k 1),e 5 16])))))) (Q (R [e' 4 k1]) .ret)))
abbrev aqg:Cmd:=Q (R [n 1 (box 1 (v 0)),e' 2 (.c (.own 1 []))]) (Q (Q (R [f 4 1 0,b' 5 4 1,c 6 57 [v 5,k 1,k 14],n 7 (un 7 .not (v 6)),a 8 7,h 8 false 9 (fld 9 (v 1) 1),h 8 false 10 (ld 10 (v 9) 1 false),hc 8 false 11 57 [v 10,k 0,k 1000000],h 8 false 12 (un 12 .not (v 11)),p 13 8 k1 (v 12),a 14 13,h 14 false 15 (fld 15 (v 1) 4),h 14 false 16 (ld 16 (v 15) 1 false),hc 14 false 17 57 [v 16,k 0,k 1000000],h 14 false 18 (un 18 .not (v 17)),p 19 14 k1 (v 18)]) (F (v 19) (Q (R [o 20 1 [],e 2 20]) .ret) .skip)) (Q (D [0,0,2,7,0,16,63,0,128,511,0,1024,4095,8191] [o 21 1 [],f 22 1 0,b' 23 22 1,c 24 59 [v 21,v 23],f 25 1 1,b' 26 25 1,c 27 59 [v 24,v 26],f 28 1 2,b' 29 28 1,c 30 58 [v 27,v 29],f 31 1 3,b' 32 31 1,c 33 58 [v 30,v 32],e 3 33]) (Q (D [0,0,2,7,0,16,48,127,255] [a 34 3,f 35 1 4,b' 36 35 1,c 37 59 [v 34,v 36],f 38 1 5,b' 39 38 1,n 40 (b2s 40 (v 39)),c 41 58 [v 37,v 40],e 2 41]) .ret)))
abbrev aqh:Cmd:=Q (R [n 3 (box 3 (v 1)),z 4 [.int .i64 0,.int .i64 0,.str [],.str [],.int .i64 0,.sl 1 []]]) (Q (R [a 6 0,b 7 3 2,c 8 49 [v 6,v 7],z 5 [.int .i64 0,.int .i64 0,.str [],.str [],.int .i64 0,.sl 1 []],s 5 8 6]) (Q (Q (R [a 9 0,c 10 50 [v 9,k 10]]) (.blk 0 (Q (R [g 12 .eql (v 10) (k 0),e 11 12]) (F (v 11) (R [a 13 0,c 14 50 [v 13,k 17],f 15 5 0,s 15 14 1]) (Q (R [g 17 .eql (v 10) (k 1),e 16 17]) (F (v 16) (R [a 18 0,o 19 1 [k (-1),k 0,k 100],c 20 51 [v 18,v 19],f 21 5 1,s 21 20 1]) (Q (R [g 23 .eql (v 10) (k 2),e 22 23]) (F (v 22) (R [a 24 0,o 25 1 [k (-1),k 100,k 101,k 1000001],c 26 51 [v 24,v 25],f 27 5 4,s 27 26 1]) (Q (R [g 29 .eql (v 10) (k 3),e 28 29]) (F (v 28) (R [a 30 0,c 31 89 [v 30],f 32 5 2,s 32 31 1]) .skip)))))))))) (Q (R [b 33 5 6,s 4 33 6]) .ret)))
abbrev apY:Cmd:=Q (R [e' 4 (.c (.own 1 []))]) (Q (R [a 6 0,c 7 91 [v 6],e 5 7]) (Q (R [a 8 1,n 9 (mn 9 (v 8) (k 1000000)),n 10 (mx 10 (k 0) (v 9)),e 1 10]) (Q (.blk 0 (.loop (Q (Q (R [a 11 1,g 12 .geq (v 11) (k 128)]) (F (v 12) .skip (.exit 0))) (.blk 1 (Q (R [a 13 5,a 14 1,g 15 .rem (v 14) (k 128),g 16 .add (v 15) (k 128),n 17 (conv 17 .u8 (v 16)),o 18 1 [v 17],n 19 (app 19 (v 13) (v 18) 1 1),e 5 19]) (R [a 20 1,g 21 .quo (v 20) (k 128),e 1 21])))))) (Q (R [a 22 5,a 23 1,n 24 (conv 24 .u8 (v 23)),o 25 1 [v 24],n 26 (app 26 (v 22) (v 25) 1 1),e 4 26]) .ret))))
abbrev apJ:Cmd:=Q (R [e' 4 (.c (.own 1 []))]) (Q (R [a 5 0,a 6 1,n 7 (lens 7 (v 6)),c 8 47 [v 5,v 7],a 9 1,n 10 (app 10 (v 8) (v 9) 1 1),e 4 10]) .ret)
abbrev api:Cmd:=Q (R [e' 2 (k 0)]) (Q (Q (R [a 6 0,n 7 (nck 7 (v 6)),f 8 7 2,b' 9 8 1,n 10 (un 10 .not (v 9))]) (F (v 10) (Q (R [e' 2 (k 0)]) .ret) .skip)) (Q (D [0,1,3,7,0,16,48,112,255,511,1023,2047,4095,2047,12287,32767] [a 12 0,n 13 (nck 13 (v 12)),f 14 13 0,b' 15 14 1,a 16 0,n 17 (nck 17 (v 16)),f 18 17 1,b' 19 18 1,c 20 98 [v 15,v 19],a 11 20,x 21 11 0,x 22 11 1,x 23 11 2,e 3 21,e 4 22,e 5 23]) (Q (R [a 24 0,a 25 0,a 26 4,a 27 5,n 28 (nck 28 (v 24)),f 29 28 1,s 29 26 1,n 30 (nck 30 (v 25)),f 31 30 2,s 31 27 1]) (Q (R [a 32 3,e 2 32]) .ret))))
abbrev ao6:Cmd:=Q (R [e' 2 (.c (.str []))]) (Q (Q (R [a 6 0,n 7 (nck 7 (v 6)),f 8 7 2,b' 9 8 1,n 10 (un 10 .not (v 9))]) (F (v 10) (Q (R [e' 2 (.c (.str []))]) .ret) .skip)) (Q (D [0,1,3,7,0,16,48,112,255,511,1023,2047,4095,2047,12287,32767] [a 12 0,n 13 (nck 13 (v 12)),f 14 13 0,b' 15 14 1,a 16 0,n 17 (nck 17 (v 16)),f 18 17 1,b' 19 18 1,c 20 99 [v 15,v 19],a 11 20,x 21 11 0,x 22 11 1,x 23 11 2,e 3 21,e 4 22,e 5 23]) (Q (R [a 24 0,a 25 0,a 26 4,a 27 5,n 28 (nck 28 (v 24)),f 29 28 1,s 29 26 1,n 30 (nck 30 (v 25)),f 31 30 2,s 31 27 1]) (Q (R [a 32 3,e 2 32]) .ret))))
abbrev aov:Cmd:=Q (R [e' 2 k0]) (Q (D [0,1,3,7,15,31,63,127,255,31,543,1567,3615,7711,16383,32767,65535] [a 3 0,n 4 (nck 4 (v 3)),f 5 4 2,b' 6 5 1,a 7 6,ha 7 true 8 0,h 7 true 9 (nck 9 (v 8)),h 7 true 10 (fld 10 (v 9) 1),h 7 true 11 (ld 11 (v 10) 1 false),ha 7 true 12 0,h 7 true 13 (nck 13 (v 12)),h 7 true 14 (fld 14 (v 13) 0),h 7 true 15 (ld 15 (v 14) 1 false),h 7 true 16 (len 16 (v 15)),h 7 true 17 (bin 17 .eql (v 11) (v 16)),p 18 7 (v 17) k0,e 2 18]) .ret)
abbrev aqi:Cmd:=Q (R [e' 2 (k 0)]) (Q (D [0,1,3,7,0,16,48,112,255,511,1023,2047,4095,2047,12287,32767] [a 7 0,n 8 (nck 8 (v 7)),f 9 8 0,b' 10 9 1,a 11 0,n 12 (nck 12 (v 11)),f 13 12 1,b' 14 13 1,c 15 100 [v 10,v 14],a 6 15,x 16 6 0,x 17 6 1,x 18 6 2,e 3 16,e 4 17,e 5 18]) (Q (Q (R [a 19 0,n 20 (nck 20 (v 19)),f 21 20 2,b' 22 21 1,a 23 22,ha 23 false 24 5,h 23 false 25 (un 25 .not (v 24)),p 26 23 k1 (v 25)]) (F (v 26) (Q (R [a 27 0,n 28 (nck 28 (v 27)),f 29 28 2,m (st (v 29) k1 1)]) (Q (R [e' 2 (k 0)]) .ret)) .skip)) (Q (R [a 30 0,a 31 4,n 32 (nck 32 (v 30)),f 33 32 1,s 33 31 1]) (Q (R [a 34 3,e 2 34]) .ret))))
abbrev apZ:Cmd:=Q (R [e' 2 (.c (.str []))]) (Q (D [0,1,3,7,0,16,48,112,255,511,1023,2047,4095,2047,12287,32767] [a 7 0,n 8 (nck 8 (v 7)),f 9 8 0,b' 10 9 1,a 11 0,n 12 (nck 12 (v 11)),f 13 12 1,b' 14 13 1,c 15 101 [v 10,v 14],a 6 15,x 16 6 0,x 17 6 1,x 18 6 2,e 3 16,e 4 17,e 5 18]) (Q (Q (R [a 19 0,n 20 (nck 20 (v 19)),f 21 20 2,b' 22 21 1,a 23 22,ha 23 false 24 5,h 23 false 25 (un 25 .not (v 24)),p 26 23 k1 (v 25)]) (F (v 26) (Q (R [a 27 0,n 28 (nck 28 (v 27)),f 29 28 2,m (st (v 29) k1 1)]) (Q (R [e' 2 (.c (.str []))]) .ret)) .skip)) (Q (R [a 30 0,a 31 4,n 32 (nck 32 (v 30)),f 33 32 1,s 33 31 1]) (Q (R [a 34 3,e 2 34]) .ret))))
abbrev apK:Cmd:=Q (R [e' 4 (.c (.own 1 []))]) (Q (R [a 5 0,a 6 1,n 7 (lens 7 (v 6)),c 8 59 [v 5,v 7],a 9 1,n 10 (app 10 (v 8) (v 9) 1 1),e 4 10]) .ret)
abbrev ap0:Cmd:=Q (R [e' 4 (.c (.own 1 []))]) (Q (R [o 6 1 [],a 7 0,n 8 (app 8 (v 6) (v 7) 1 1),e 5 8]) (Q (Q (R [a 9 1,g 10 .gtr (v 9) (k 1000000)]) (F (v 10) (R [e' 1 (k 1000000)]) .skip)) (Q (Q (R [a 11 1,g 12 .lss (v 11) (k 0)]) (F (v 12) (R [e' 1 (k 0)]) .skip)) (Q (.blk 0 (.loop (Q (Q (R [a 13 1,g 14 .gtr (v 13) (k 127)]) (F (v 14) .skip (.exit 0))) (.blk 1 (Q (R [a 15 5,a 16 1,g 17 .and (v 16) (k 127),g 18 .or (v 17) (k 128),n 19 (conv 19 .u8 (v 18)),o 20 1 [v 19],n 21 (app 21 (v 15) (v 20) 1 1),e 5 21]) (R [a 22 1,g 23 .shr (v 22) (.c (.int .u64 7)),e 1 23])))))) (Q (R [a 24 5,a 25 1,n 26 (conv 26 .u8 (v 25)),o 27 1 [v 26],n 28 (app 28 (v 24) (v 27) 1 1),e 4 28]) .ret)))))
abbrev ap1:Cmd:=Q (R [e' 4 (k 0),e' 5 (k 0),e' 6 k0]) (Q (Q (R [a 11 1,g 12 .lss (v 11) (k 0)]) (F (v 12) (Q (R [e' 4 (k 0),e' 5 (k 0),e' 6 k0]) .ret) .skip)) (Q (R [e' 7 (k 0)]) (Q (R [e' 8 (k 1)]) (Q (Q (R [e' 9 (k 0)]) (.blk 0 (.loop (Q (Q (R [a 13 9,g 14 .lss (v 13) (k 3),a 15 14,ha 15 true 16 1,ha 15 true 17 0,h 15 true 18 (len 18 (v 17)),ha 15 true 19 9,h 15 true 20 (bin 20 .sub (v 18) (v 19)),h 15 true 21 (bin 21 .lss (v 16) (v 20)),p 22 15 (v 21) k0]) (F (v 22) .skip (.exit 0))) (Q (.blk 1 (Q (R [a 25 0,a 26 1,a 27 9,g 28 .add (v 26) (v 27),i 29 25 28 1,b' 30 29 1,n 31 (conv 31 .i64 (v 30)),e 10 31]) (Q (R [a 32 7,a 33 10,g 34 .rem (v 33) (k 128),a 35 8,g 36 .mul (v 34) (v 35),g 37 .add (v 32) (v 36),e 7 37]) (Q (R [a 38 8,g 39 .mul (v 38) (k 128),e 8 39]) (Q (Q (R [a 40 10,g 41 .geq (v 40) (k 128)]) (F (v 41) (.exit 1) .skip)) (Q (Q (R [a 42 7,g 43 .gtr (v 42) (k 1000000),a 44 43,ha 44 false 45 10,h 44 false 46 (bin 46 .eql (v 45) (k 0)),ha 44 false 47 46,ha 47 true 48 9,h 47 true 49 (bin 49 .gtr (v 48) (k 0)),h 44 false 50 (pck 50 (v 47) (v 49) k0),p 51 44 k1 (v 50)]) (F (v 51) (.exit 0) .skip)) (Q (R [a 52 7,a 53 1,a 54 9,g 55 .add (v 53) (v 54),g 56 .add (v 55) (k 1),e 4 52,e 5 56,e' 6 k1]) .ret))))))) (R [a 23 9,g 24 .add (v 23) (k 1),e 9 24])))))) (Q (R [e' 4 (k 0),e' 5 (k 0),e' 6 k0]) .ret)))))
abbrev apL:Cmd:=Q (R [e' 4 (.c (.str [])),e' 5 (k 0),e' 6 k0]) (Q (R [a 11 0,a 12 1,c 13 98 [v 11,v 12],a 10 13,x 14 10 0,x 15 10 1,x 16 10 2,e 7 14,e 8 15,e 9 16]) (Q (Q (R [a 17 9,n 18 (un 18 .not (v 17)),a 19 18,ha 19 false 20 7,ha 19 false 21 0,h 19 false 22 (len 22 (v 21)),ha 19 false 23 8,h 19 false 24 (bin 24 .sub (v 22) (v 23)),h 19 false 25 (bin 25 .gtr (v 20) (v 24)),p 26 19 k1 (v 25)]) (F (v 26) (Q (R [e' 4 (.c (.str [])),e' 5 (k 0),e' 6 k0]) .ret) .skip)) (Q (R [a 27 0,a 28 8,a 29 8,a 30 7,g 31 .add (v 29) (v 30),n 32 (slc 32 (v 27) (some (v 28)) (some (v 31)) 1),n 33 (b2s 33 (v 32)),a 34 8,a 35 7,g 36 .add (v 34) (v 35),e 4 33,e 5 36,e' 6 k1]) .ret)))
abbrev aoV:Cmd:=Q (R [e' 4 (k 0),e' 5 (k 0),e' 6 k0]) (Q (R [e' 7 (k 0)]) (Q (Q (R [e' 8 (k 0)]) (.blk 0 (.loop (Q (Q (R [a 10 8,g 11 .lss (v 10) (k 3),a 12 11,ha 12 true 13 1,h 12 true 14 (bin 14 .geq (v 13) (k 0)),p 15 12 (v 14) k0,a 16 15,ha 16 true 17 1,ha 16 true 18 0,h 16 true 19 (len 19 (v 18)),h 16 true 20 (bin 20 .lss (v 17) (v 19)),p 21 16 (v 20) k0,a 22 21,ha 22 true 23 1,ha 22 true 24 8,h 22 true 25 (bin 25 .add (v 23) (v 24)),ha 22 true 26 0,h 22 true 27 (len 27 (v 26)),h 22 true 28 (bin 28 .lss (v 25) (v 27)),p 29 22 (v 28) k0]) (F (v 29) .skip (.exit 0))) (Q (.blk 1 (Q (R [a 32 0,a 33 1,a 34 8,g 35 .add (v 33) (v 34),i 36 32 35 1,b' 37 36 1,n 38 (conv 38 .i64 (v 37)),e 9 38]) (Q (R [a 39 7,a 40 9,g 41 .and (v 40) (k 127),a 42 8,g 43 .mul (k 7) (v 42),n 44 (conv 44 .u64 (v 43)),g 45 .shl (v 41) (v 44),g 46 .or (v 39) (v 45),e 7 46]) (Q (Q (R [a 47 9,g 48 .gtr (v 47) (k 127)]) (F (v 48) (.exit 1) .skip)) (Q (Q (R [a 49 8,g 50 .gtr (v 49) (k 0),a 51 50,ha 51 true 52 9,h 51 true 53 (bin 53 .eql (v 52) (k 0)),p 54 51 (v 53) k0,a 55 54,ha 55 false 56 7,h 55 false 57 (bin 57 .gtr (v 56) (k 1000000)),p 58 55 k1 (v 57)]) (F (v 58) (Q (R [e' 4 (k 0),e' 5 (k 0),e' 6 k0]) .ret) .skip)) (Q (R [a 59 7,a 60 1,a 61 8,g 62 .add (v 60) (v 61),g 63 .add (v 62) (k 1),e 4 59,e 5 63,e' 6 k1]) .ret)))))) (R [a 30 8,g 31 .add (v 30) (k 1),e 8 31])))))) (Q (R [e' 4 (k 0),e' 5 (k 0),e' 6 k0]) .ret)))
abbrev apM:Cmd:=Q (R [e' 4 (.c (.str [])),e' 5 (k 0),e' 6 k0]) (Q (R [a 11 0,a 12 1,c 13 100 [v 11,v 12],a 10 13,x 14 10 0,x 15 10 1,x 16 10 2,e 7 14,e 8 15,e 9 16]) (Q (Q (R [a 17 9,n 18 (un 18 .not (v 17)),a 19 18,ha 19 false 20 7,ha 19 false 21 0,h 19 false 22 (len 22 (v 21)),ha 19 false 23 8,h 19 false 24 (bin 24 .sub (v 22) (v 23)),h 19 false 25 (bin 25 .gtr (v 20) (v 24)),p 26 19 k1 (v 25)]) (F (v 26) (Q (R [e' 4 (.c (.str [])),e' 5 (k 0),e' 6 k0]) .ret) .skip)) (Q (R [a 27 0,a 28 8,a 29 8,a 30 7,g 31 .add (v 29) (v 30),n 32 (slc 32 (v 27) (some (v 28)) (some (v 31)) 1),n 33 (b2s 33 (v 32)),a 34 8,a 35 7,g 36 .add (v 34) (v 35),e 4 33,e 5 36,e' 6 k1]) .ret)))
end
theorem aoC:aE Tryz.prog 3=some (103,[.t 2],aqc):=by kernel_rfl
theorem aps:aE Tryz.prog 10=some (10,[.c 2 6 true],apo):=by kernel_rfl
theorem aqj:aE Tryz.prog 11=some (40,[.t 2],aqd):=by kernel_rfl
theorem kU:aE Tryz.prog 12=some (44,[.t 2],apq):=by kernel_rfl
theorem aqk:aE Tryz.prog 13=some (40,[.c 2 6 true,.t 3],aqe):=by kernel_rfl
theorem aql:aE Tryz.prog 14=some (49,[.c 2 6 true,.t 3],aqf):=by kernel_rfl
theorem apt:aE Tryz.prog 15=some (26,[.t 4],apr):=by kernel_rfl
theorem aqm:aE Tryz.prog 16=some (42,[.t 2],aqg):=by kernel_rfl
theorem aoD:aE Tryz.prog 44=some (34,[.c 4 6 true],aqh):=by kernel_rfl
theorem ap2:aE Tryz.prog 47=some (27,[.t 4],apY):=by kernel_rfl
theorem apN:aE Tryz.prog 48=some (11,[.t 4],apJ):=by kernel_rfl
theorem aoL:aE Tryz.prog 52=some (33,[.t 2],api):=by kernel_rfl
theorem aoE:aE Tryz.prog 53=some (33,[.t 2],ao6):=by kernel_rfl
theorem aoF:aE Tryz.prog 54=some (19,[.t 2],aov):=by kernel_rfl
theorem aoP:aE Tryz.prog 55=some (35,[.t 2],aqi):=by kernel_rfl
theorem aoH:aE Tryz.prog 56=some (35,[.t 2],apZ):=by kernel_rfl
theorem apO:aE Tryz.prog 58=some (11,[.t 4],apK):=by kernel_rfl
theorem ap3:aE Tryz.prog 59=some (29,[.t 4],ap0):=by kernel_rfl
theorem ap4:aE Tryz.prog 98=some (57,[.t 4,.t 5,.t 6],ap1):=by kernel_rfl
theorem aoM:aE Tryz.prog 99=some (37,[.t 4,.t 5,.t 6],apL):=by kernel_rfl
theorem apj:aE Tryz.prog 100=some (64,[.t 4,.t 5,.t 6],aoV):=by kernel_rfl
theorem aoN:aE Tryz.prog 101=some (37,[.t 4,.t 5,.t 6],apM):=by kernel_rfl
section
section
variable {α β γ:Type} (f:α→Int→β) (g:α→β) (c:α→Nat)
end
section
variable {α:Type} (r:α→List TV) (f:α→Int→α) (c:α→Nat)
end
theorem ap5 (k:Int):IntKind.u8.wrap k=((UInt8.ofInt k).toNat:Int):=by
 have e:IntKind.u8.wrap k=k%256:=by
  have h1:((2:Int)^IntKind.u8.bits)=256:=by decide
  unfold IntKind.wrap
  simp only [h1]
  simp [IntKind.signed]
 rw [e]
 simp [UInt8.ofInt]
 omega
end
theorem apP (a b:aA) (hl:a.length<2^40):bR Tryz.prog 15 [.ext 1 (aM a),.ext 1 (aM b)] (.bool (decide (a=b))) [.undef,.undef]:=by
 refine Vw apt [] 51 [] fun w hP hQ=>?_
 refine Jf (fun h=>?_) fun h=>?_
 ·refine N ?_
  refine aoa (fun i:Nat=>[(5,.int .i64 i)]) (fun i=>i≤a.length∧a.take i=b.take i) (fun i=>a.length-i) (0) hP hQ (rfl) (by simp) ?_
  rintro i ⟨hi,hab⟩ w1 hP1 hQ1
  refine N1 ?_
  refine Jf (fun h1=>?_) fun h1=>?_
  ·have hz:=And.intro (bW h1) (bW (h ▸ h1))
   refine Nz1 ?_
   refine Jf (fun h2=>?_) fun h2=>?_
   ·refine N1 ?_
    exact ⟨i+1,rfl,⟨by omega,zW hab _ _ (UInt8.toNat_inj.1 (by omega))⟩,by omega⟩
   ·refine N1 ?_
    rw [lC]
    rintro rfl; exact h2 rfl
  ·refine N1 ?_
   rw [lM (anD hab (by omega) (by omega))]
 ·have hz:=hQ
  refine Nz ?_
  rw [lC]
  rintro rfl; exact h rfl
theorem arb (n:Nat):IntKind.u8.wrap (n:Int)=((UInt8.ofNat n).toNat:Int):=by
 rw [ap5]
 have:UInt8.ofInt (n:Int)=UInt8.ofNat n:=by simp [UInt8.ofInt]; apply UInt8.toNat_inj.1; simp; omega
 rw [this]
theorem aqX (n:Nat) (h:n<256):IntKind.u8.wrap (n:Int)=(n:Int):=by
 rw [arb]
 have:(UInt8.ofNat n).toNat=n:=by simp; omega
 rw [this]
theorem aqY (v:Value) (b:aA) (i:Nat) (h:Int) (f:Fs) (hl:b.length<2^48) (hi:i≤b.length) (hf:f.sz<2^40):∃ (o:Op) (i':Nat) (h':Int),aix o∧i'≤b.length ∧
  bR Tryz.prog 44 [cur v b i h,f.x] o.o [cur v b i' h',.undef]:=by
 obtain ⟨o,i1,h1,ho,ad,k1⟩:=anv v b i h f hl hi hf
 obtain ⟨n,i2,h2,hn,ab,k2⟩:=gR v b i1 h1 10 hl ad (by omega)
 have hn':(n:Int)<10:=by rw [uI,lF (by omega)] at hn; exact hn
 have hc:n=0∨n=1∨n=2∨n=3∨3<n:=by omega
 rcases hc with rfl | rfl | rfl | rfl | hc
 ·obtain ⟨x,i3,h3,_,aa,k3⟩:=gR v b i2 h2 17 hl ab (by omega)
  refine ⟨{ o with kind:=(x:Int) },i3,h3,ho,aa,?_⟩
  unfold cur at *
  refine Vw aoD [(49,[.l,.b],[]),(50,[.l,.b],[]),(51,[.l,.b],[]),(89,[.l],[])] 1083 [true,false] fun w hP hQ=>?_
  refine Kd (k1) ?_
  refine Kd (k2) ?_
  exact Kd (k3) trivial
 ·obtain ⟨x,i3,h3,_,aa,k3⟩:=dP v b i2 h2 [-1,0,100] hl ab (by simp) (by simp)
  refine ⟨{ o with vol:=x },i3,h3,ho,aa,?_⟩
  unfold cur at *
  simp only [gQ,lO,lH1] at k3
  refine Vw aoD [(49,[.l,.b],[]),(50,[.l,.b],[]),(51,[.l,.b],[]),(89,[.l],[])] 1083 [true,false] fun w hP hQ=>?_
  refine Kd (k1) ?_
  refine Kd (k2) ?_
  exact Kd (k3) trivial
 ·obtain ⟨x,i3,h3,_,aa,k3⟩:=dP v b i2 h2 [-1,100,101,1000001] hl ab (by simp) (by simp)
  refine ⟨{ o with off:=x },i3,h3,ho,aa,?_⟩
  unfold cur at *
  simp only [gQ,lO,lH1] at k3
  refine Vw aoD [(49,[.l,.b],[]),(50,[.l,.b],[]),(51,[.l,.b],[]),(89,[.l],[])] 1083 [true,false] fun w hP hQ=>?_
  refine Kd (k1) ?_
  refine Kd (k2) ?_
  exact Kd (k3) trivial
 ·obtain ⟨x,i3,h3,hx,aa,k3⟩:=aiv v b i2 h2 hl ab
  refine ⟨{ o with path:=x },i3,h3,⟨by simp only; omega,ho.2.1,ho.2.2⟩,aa,?_⟩
  unfold cur at *
  refine Vw aoD [(49,[.l,.b],[]),(50,[.l,.b],[]),(51,[.l,.b],[]),(89,[.l],[])] 1083 [true,false] fun w hP hQ=>?_
  refine Kd (k1) ?_
  refine Kd (k2) ?_
  exact Kd (k3) trivial
 ·refine ⟨o,i2,h2,ho,ab,?_⟩
  have w0:decide ((n:Int)=0)=false:=lC (by omega)
  have w1:decide ((n:Int)=1)=false:=lC (by omega)
  have w2:decide ((n:Int)=2)=false:=lC (by omega)
  have w3:decide ((n:Int)=3)=false:=lC (by omega)
  unfold cur at *
  refine Vw aoD [(49,[.l,.b],[]),(50,[.l,.b],[]),(51,[.l,.b],[]),(89,[.l],[])] 1083 [true,false] fun w hP hQ=>?_
  refine Kd (k1) ?_
  have hz:=And.intro w0 (And.intro w1 (And.intro w2 w3))
  exact Kdz (k2) trivial
theorem apQ (v:Value) (b:aA) (hl:b.length<2^48):∃ o:Op,aix o∧bR Tryz.prog 10 [.extv v 1 (aM b)] o.o [.undef]:=by
 obtain ⟨h0,k0⟩:=anW v b hl
 obtain ⟨f,i1,h1,hf,ad,k1⟩:=anH v b 0 h0 4 hl (by omega) (by omega)
 have zf:=akF hf
 obtain ⟨o,i2,h2,ho,ab,k2⟩:=aqY v b i1 h1 f hl ad (by omega)
 refine ⟨o,ho,?_⟩
 unfold cur at *
 refine Vw aps [(999999,[],[(3,0)]),(60,[.l,.b],[]),(45,[.l,.b],[]),(49,[.l,.b],[]),(44,[.l,.b],[]),(51,[.l,.b],[]),(75,[.l,.b],[]),(84,[.l,.b],[]),(50,[.l,.b],[])] 13 [] fun w hP hQ=>?_
 refine Kd (k0) ?_
 refine Kd (k1) ?_
 exact Kd (k2) trivial
def aoB (n:Nat):aA:=if h:n<128 then [UInt8.ofNat n] else UInt8.ofNat (n%128+128)::aoB (n/128)
theorem aoy {n:Nat} (h:n<128):aoB n=[UInt8.ofNat n]:=by rw [aoB,dif_pos h]
theorem aoO {n:Nat} (h:¬ n<128):aoB n=UInt8.ofNat (n%128+128)::aoB (n/128):=by rw [aoB,dif_neg h]
def t5 (n:Int):Nat:=(max 0 (min n 1000000)).toNat
theorem aow (n:Int):((t5 n:Nat):Int)=max 0 (min n 1000000):=by unfold t5; omega
theorem v5 (n:Int):t5 n≤1000000:=by unfold t5; omega
def a9 (b:aA) (n:Int):aA:=b++aoB (t5 n)
def iE (b s:aA):aA:=a9 b s.length++s
theorem aqJ (n:Nat) (h:n≤1000000):(aoB n).length≤3:=by
 by_cases h1:n<128
 ·rw [aoy h1]; simp
 ·rw [aoO h1]
  by_cases h2:n/128<128
  ·rw [aoy h2]; simp
  ·rw [aoO h2]
   have h3:n/128/128<128:=by omega
   rw [aoy h3]; simp
theorem kC (b:aA) (n:Int):(a9 b n).length≤b.length+3:=by
 have:=aqJ _ (v5 n)
 simp only [a9,lY]; omega
theorem t9 (b s:aA):(iE b s).length≤b.length+s.length+3:=by
 have:=kC b s.length
 simp only [iE,lY]; omega
theorem aoQ {n:Nat} (w:Nat):BitVec.ofInt w (n:Int)=BitVec.ofNat w n:=by
 apply BitVec.eq_of_toNat_eq
 simp [BitVec.toNat_ofInt,BitVec.toNat_ofNat]
theorem aqK {a b:Nat} (ha:a<2^63) (hb:b<2^63):IntKind.i64.wrap ((BitVec.ofInt IntKind.i64.bits (a:Int) &&& BitVec.ofInt IntKind.i64.bits (b:Int)).toNat:Int)=((a &&& b:Nat):Int):=by
 show IntKind.wrap _ ((BitVec.ofInt 64 (a:Int) &&& BitVec.ofInt 64 (b:Int)).toNat:Int)=_
 rw [aoQ,aoQ,BitVec.toNat_and,BitVec.toNat_ofNat,BitVec.toNat_ofNat,Nat.mod_eq_of_lt (by omega),Nat.mod_eq_of_lt (by omega)]
 exact aas (lI4 Nat.and_le_left ha)
theorem ara {a b:Nat} (ha:a<2^63) (hb:b<2^63):IntKind.i64.wrap ((BitVec.ofInt IntKind.i64.bits (a:Int) ||| BitVec.ofInt IntKind.i64.bits (b:Int)).toNat:Int)=((a ||| b:Nat):Int):=by
 show IntKind.wrap _ ((BitVec.ofInt 64 (a:Int) ||| BitVec.ofInt 64 (b:Int)).toNat:Int)=_
 rw [aoQ,aoQ,BitVec.toNat_or,BitVec.toNat_ofNat,BitVec.toNat_ofNat,Nat.mod_eq_of_lt (by omega),Nat.mod_eq_of_lt (by omega)]
 exact aas (Nat.or_lt_two_pow ha hb)
theorem apT (n:Nat):n &&& 127=n%128:=Nat.and_two_pow_sub_one_eq_mod n 7
theorem arc {m:Nat} (h:m<128):m ||| 128=m+128:=by
 have:∀ k:_root_.Fin 128,k.val ||| 128=k.val+128:=by decide
 exact this ⟨m,h⟩
theorem ard (n:Nat):(n:Int).fdiv 128=((n/128:Nat):Int):=by
 rw [Int.fdiv_eq_ediv_of_nonneg _ (by omega)]; rfl
theorem aoG (n:Nat):aoB n=if n<128 then [UInt8.ofNat n] else UInt8.ofNat (n%128+128)::aoB (n/128):=by
 by_cases h:n<128
 ·rw [aoy h,lF h]
 ·rw [aoO h,lK h]
theorem apk (a b:aA):aM a++aM b=aM (a++b):=by simp [aM]
theorem aqL (m:Nat):(m:Int).tmod 128=((m%128:Nat):Int):=rfl
theorem are (m:Nat):(m:Int).tdiv 128=((m/128:Nat):Int):=rfl
theorem aq5 (n:Int):(if 0<if 1000000<n then 1000000 else n then if 1000000<n then 1000000 else n else 0)=((t5 n:Nat):Int):=by
 rw [aow]
 split <;> split <;> omega
theorem aoR (b:aA) (n:Int) (hl:b.length<2^39):bR Tryz.prog 47 [.ext 1 (aM b),.int .i64 n] (.own 1 (aM (a9 b n))) [.undef,.undef]:=by
 refine Vw ap2 [] 51 [] fun w hP hQ=>?_
 refine K (anF b (by omega)) ?_
 simp only [aq5]
 refine aoa (fun s:aA × Nat=>[(5,.own 1 (aM s.1)),(1,.int .i64 (s.2:Nat))]) (fun s=>s.1++aoB s.2=a9 b n∧s.2≤1000000∧s.1.length≤b.length+1000000-s.2) (fun s=>s.2) ((b,t5 n)) hP hQ (rfl) (by have:=v5 n; exact ⟨rfl,this,by simp only; omega⟩) ?_
 rintro ⟨x,m⟩ ⟨h1,h2,h3⟩ w1 hP1 hQ1
 refine N1 ?_
 simp only at h1 h2 h3
 refine Jf (fun h4=>?_) fun h4=>?_
 ·have hz:=And.intro aqL are
  refine Nz1 ?_
  rw [acz _ _ (by omega)]
  refine ⟨(x++[UInt8.ofNat (m%128+128)],m/128),rfl,⟨?_,?_,?_⟩,?_⟩
  ·rw [← h1,aoG m,lK (by omega)]; simp
  ·simp only; omega
  ·simp only [lY,uD1]; omega
  ·simp only; omega
 ·refine N1 ?_
  rw [acz _ _ (by omega),← h1,aoG m,lF (by omega)]
  simp
theorem aqZ {m:Nat} (h:m≤1000000):IntKind.i64.wrap ((BitVec.ofInt IntKind.i64.bits (IntKind.i64.wrap ((BitVec.ofInt IntKind.i64.bits (m:Int) &&& BitVec.ofInt IntKind.i64.bits 127).toNat:Int)) ||| BitVec.ofInt IntKind.i64.bits 128).toNat:Int)=((m%128:Nat):Int)+128:=by
 have e1:=aqK (a:=m) (b:=127) (by omega) (by decide)
 have e2:=ara (a:=m &&& 127) (b:=128) (lI4 Nat.and_le_left (by omega)) (by decide)
 simp only [Int.cast_ofNat_Int] at e1 e2
 rw [e1,e2,apT,arc (by omega)]
 omega
theorem aoS (b:aA) (n:Int) (hl:b.length<2^39):bR Tryz.prog 59 [.ext 1 (aM b),.int .i64 n] (.own 1 (aM (a9 b n))) [.undef,.undef]:=by
 refine Vw ap3 [] 51 [] fun w hP hQ=>?_
 refine Jf (fun h1=>?_) fun h1=>?_
 ·have hc:((t5 n:Nat):Int)=1000000:=by rw [aow]; omega
  refine N ?_
  refine aoa (fun s:aA × Nat=>[(5,.own 1 (aM s.1)),(1,.int .i64 (s.2:Nat))]) (fun s=>s.1++aoB s.2=a9 b n∧s.2≤1000000∧s.1.length≤b.length+1000000-s.2) (fun s=>s.2) ((b,t5 n)) hP hQ (by simp +decide (maxSteps:=9^9) (disch:=omega) only[↓SB0,SX,seval,hQ,hc]) (by have:=v5 n; exact ⟨rfl,this,by simp only; omega⟩) ?_
  rintro ⟨x,m⟩ ⟨g1,g2,g3⟩ w1 hP1 hQ1
  refine N1 ?_
  simp only at g1 g2 g3
  refine Jf (fun h4=>?_) fun h4=>?_
  ·have hz:=And.intro (aqZ g2) ard
   refine Nz1 ?_
   rw [acz _ _ (by omega)]
   refine ⟨(x++[UInt8.ofNat (m%128+128)],m/128),rfl,⟨?_,?_,?_⟩,?_⟩
   ·rw [← g1,aoG m,lK (by omega)]; simp
   ·simp only; omega
   ·simp only [lY,uD1]; omega
   ·simp only; omega
  ·refine N1 ?_
   rw [acz _ _ (by omega),← g1,aoG m,lF (by omega)]
   simp
 ·refine N ?_
  refine Jf (fun h2=>?_) fun h2=>?_
  ·have hc:((t5 n:Nat):Int)=0:=by rw [aow]; omega
   refine N ?_
   refine aoa (fun s:aA × Nat=>[(5,.own 1 (aM s.1)),(1,.int .i64 (s.2:Nat))]) (fun s=>s.1++aoB s.2=a9 b n∧s.2≤1000000∧s.1.length≤b.length+1000000-s.2) (fun s=>s.2) ((b,t5 n)) hP hQ (by simp +decide (maxSteps:=9^9) (disch:=omega) only[↓SB0,SX,seval,hQ,hc]) (by have:=v5 n; exact ⟨rfl,this,by simp only; omega⟩) ?_
   rintro ⟨x,m⟩ ⟨g1,g2,g3⟩ w1 hP1 hQ1
   refine N1 ?_
   simp only at g1 g2 g3
   refine Jf (fun h4=>?_) fun h4=>?_
   ·have hz:=And.intro (aqZ g2) ard
    refine Nz1 ?_
    rw [acz _ _ (by omega)]
    refine ⟨(x++[UInt8.ofNat (m%128+128)],m/128),rfl,⟨?_,?_,?_⟩,?_⟩
    ·rw [← g1,aoG m,lK (by omega)]; simp
    ·simp only; omega
    ·simp only [lY,uD1]; omega
    ·simp only; omega
   ·refine N1 ?_
    rw [acz _ _ (by omega),← g1,aoG m,lF (by omega)]
    simp
  ·have hc:((t5 n:Nat):Int)=n:=by rw [aow]; omega
   refine N ?_
   refine aoa (fun s:aA × Nat=>[(5,.own 1 (aM s.1)),(1,.int .i64 (s.2:Nat))]) (fun s=>s.1++aoB s.2=a9 b n∧s.2≤1000000∧s.1.length≤b.length+1000000-s.2) (fun s=>s.2) ((b,t5 n)) hP hQ (by simp +decide (maxSteps:=9^9) (disch:=omega) only[↓SB0,SX,seval,hQ,hc]) (by have:=v5 n; exact ⟨rfl,this,by simp only; omega⟩) ?_
   rintro ⟨x,m⟩ ⟨g1,g2,g3⟩ w1 hP1 hQ1
   refine N1 ?_
   simp only at g1 g2 g3
   refine Jf (fun h4=>?_) fun h4=>?_
   ·have hz:=And.intro (aqZ g2) ard
    refine Nz1 ?_
    rw [acz _ _ (by omega)]
    refine ⟨(x++[UInt8.ofNat (m%128+128)],m/128),rfl,⟨?_,?_,?_⟩,?_⟩
    ·rw [← g1,aoG m,lK (by omega)]; simp
    ·simp only; omega
    ·simp only [lY,uD1]; omega
    ·simp only; omega
   ·refine N1 ?_
    rw [acz _ _ (by omega),← g1,aoG m,lF (by omega)]
    simp
theorem aoW (b s:aA) (hl:b.length<2^38) (hs:s.length<2^38):bR Tryz.prog 48 [.ext 1 (aM b),.str s] (.own 1 (aM (iE b s))) [.undef,.undef]:=by
 have hp:=kC b s.length
 refine Vw apN [] 19 [] fun w hP hQ=>?_
 have hz:=apk
 refine Kz (aoR b s.length (by omega)) ?_
 rfl
theorem aoX (b s:aA) (hl:b.length<2^38) (hs:s.length<2^38):bR Tryz.prog 58 [.ext 1 (aM b),.str s] (.own 1 (aM (iE b s))) [.undef,.undef]:=by
 have hp:=kC b s.length
 refine Vw apO [] 19 [] fun w hP hQ=>?_
 have hz:=apk
 refine Kz (aoS b s.length (by omega)) ?_
 rfl
def aoT (o:Op):aA:=iE (a9 (iE (iE (a9 (a9 [] o.kind) o.vol) o.path) o.to') o.off) o.data
def aoU (o:Op):aA:=if inR o.kind 1 14=true∧inR o.vol 0 1000000=true∧inR o.off 0 1000000=true then aoT o else []
theorem ao3 {o:Op} (h1:inR o.kind 1 14=true) (h2:inR o.vol 0 1000000=true) (h3:inR o.off 0 1000000=true):aoU o=aoT o:=lF ⟨h1,h2,h3⟩
theorem aoz {o:Op} (h:¬ (inR o.kind 1 14=true∧inR o.vol 0 1000000=true∧inR o.off 0 1000000=true)):aoU o=[]:=lK h
theorem ao7 (o:Op) (hl:o.path.length+o.to'.length+o.data.length<2^30) :
  (a9 [] o.kind).length<2^31∧(a9 (a9 [] o.kind) o.vol).length<2^31∧(iE (a9 (a9 [] o.kind) o.vol) o.path).length<2^31 ∧
  (iE (iE (a9 (a9 [] o.kind) o.vol) o.path) o.to').length<2^31∧(a9 (iE (iE (a9 (a9 [] o.kind) o.vol) o.path) o.to') o.off).length<2^31 ∧
  (aoT o).length<2^31:=by
 have l1:=kC [] o.kind
 have l2:=kC (a9 [] o.kind) o.vol
 have l3:=t9 (a9 (a9 [] o.kind) o.vol) o.path
 have l4:=t9 (iE (a9 (a9 [] o.kind) o.vol) o.path) o.to'
 have l5:=kC (iE (iE (a9 (a9 [] o.kind) o.vol) o.path) o.to') o.off
 have l6:=t9 (a9 (iE (iE (a9 (a9 [] o.kind) o.vol) o.path) o.to') o.off) o.data
 simp only [List.length_nil] at l1
 refine ⟨by omega,by omega,by omega,by omega,by omega,?_⟩
 unfold aoT; omega
theorem apU (o:Op) (hl:o.sz<2^30):bR Tryz.prog 11 [o.x] (.own 1 (aM (aoU o))) [.undef]:=by
 simp only [Op.sz] at hl
 obtain ⟨l1,l2,l3,l4,l5,l6⟩:=ao7 o hl
 refine Vw aqj [] 15 [] fun w hP hQ=>?_
 refine K (aoc o.kind 1 14) ?_
 refine Jg (fun h1=>?_) fun h1=>?_
 ·simp only [h1,uB1,uA1]
  refine N ?_
  refine K (aoc o.vol 0 1000000) ?_
  refine Jg (fun h2=>?_) fun h2=>?_
  ·simp only [h2,uB1,uA1]
   refine N ?_
   refine K (aoc o.off 0 1000000) ?_
   refine Jf (fun h3=>?_) fun h3=>?_
   ·simp only [h3,uB1,uA1]
    refine N ?_
    refine K (aoR [] o.kind (by decide)) ?_
    refine K (aoR (a9 [] o.kind) o.vol (by omega)) ?_
    refine K (aoW (a9 (a9 [] o.kind) o.vol) o.path (by omega) (by omega)) ?_
    refine K (aoW (iE (a9 (a9 [] o.kind) o.vol) o.path) o.to' (by omega) (by omega)) ?_
    refine K (aoR (iE (iE (a9 (a9 [] o.kind) o.vol) o.path) o.to') o.off (by omega)) ?_
    refine K (aoW (a9 (iE (iE (a9 (a9 [] o.kind) o.vol) o.path) o.to') o.off) o.data (by omega) (by omega)) ?_
    rw [ao3 h1 h2 h3]; rfl
   ·simp only [h3,uB1,uA1]
    refine N ?_
    rw [aoz (by simp [h3])]; rfl
  ·simp only [h2,uB1,uA1]
   refine N ?_
   rw [aoz (by simp [h2])]; rfl
 ·simp only [h1,uB1,uA1]
  refine N ?_
  rw [aoz (by simp [h1])]; rfl
theorem apV (o:Op) (hl:o.sz<2^30):bR Tryz.prog 16 [o.x] (.own 1 (aM (aoU o))) [.undef]:=by
 simp only [Op.sz] at hl
 obtain ⟨l1,l2,l3,l4,l5,l6⟩:=ao7 o hl
 refine Vw aqm [] 15 [] fun w hP hQ=>?_
 refine K (aio o.kind 1 14) ?_
 refine Jg (fun h1=>?_) fun h1=>?_
 ·simp only [h1,uB1,uA1]
  refine N ?_
  refine K (aio o.vol 0 1000000) ?_
  refine Jg (fun h2=>?_) fun h2=>?_
  ·simp only [h2,uB1,uA1]
   refine N ?_
   refine K (aio o.off 0 1000000) ?_
   refine Jf (fun h3=>?_) fun h3=>?_
   ·simp only [h3,uB1,uA1]
    refine N ?_
    refine K (aoS [] o.kind (by decide)) ?_
    refine K (aoS (a9 [] o.kind) o.vol (by omega)) ?_
    refine K (aoX (a9 (a9 [] o.kind) o.vol) o.path (by omega) (by omega)) ?_
    refine K (aoX (iE (a9 (a9 [] o.kind) o.vol) o.path) o.to' (by omega) (by omega)) ?_
    refine K (aoS (iE (iE (a9 (a9 [] o.kind) o.vol) o.path) o.to') o.off (by omega)) ?_
    refine K (aoX (a9 (iE (iE (a9 (a9 [] o.kind) o.vol) o.path) o.to') o.off) o.data (by omega) (by omega)) ?_
    rw [ao3 h1 h2 h3]; rfl
   ·simp only [h3,uB1,uA1]
    refine N ?_
    rw [aoz (by simp [h3])]; rfl
  ·simp only [h2,uB1,uA1]
   refine N ?_
   rw [aoz (by simp [h2])]; rfl
 ·simp only [h1,uB1,uA1]
  refine N ?_
  rw [aoz (by simp [h1])]; rfl
def aq0:List Nat→List (Nat × AV)
 | []=>[]
 | k::l=>(k,.undef)::aq0 l
theorem aqn (l:List (Nat × AV)) (ks:List Nat) (t:Nat):c5 (l++aq0 ks) t=c5 l t:=by
 induction l with
 | nil=>
  induction ks with
  | nil=>rfl
  | cons k ks ih=>simp only [lD1,aq0,c5] at *; split <;> simp_all
 | cons x l ih=>obtain ⟨k,a⟩:=x; simp only [lT1,c5]; rw [ih]
theorem apu (K:Nat) (l:List (Nat × AV)) (ks:List Nat):mkV K l [] []=mkV K (l++aq0 ks) [] []:=by
 unfold mkV
 congr 1
 funext t
 rw [aqn]
def apl (b:aA) (a:Nat):Nat→Nat→Nat→Option (Nat × Nat)
 | 0,_,_=>none
 | r+1,i,n=>match b[a+i]? with
  | none=>none
  | some x=>if 128≤x.toNat then apl b a r (i+1) (n+x.toNat%128*128^i)
   else if 1000000<n+x.toNat%128*128^i∨(x.toNat=0∧0<i) then none else some (n+x.toNat%128*128^i,a+i+1)
def rdN (b:aA) (a:Int):Option (Nat × Nat):=if 0≤a then apl b a.toNat 3 0 0 else none
def apF:Option (Nat × Nat)→Int × Int × Bool
 | some (n,k)=>((n:Nat),(k:Nat),true)
 | none=>(0,0,false)
def kJ (b:aA) (a:Int):Int × Int × Bool:=apF (rdN b a)
theorem apm {b:aA} {a:Int} (h:a<0):kJ b a=(0,0,false):=by rw [kJ,rdN,lK (by omega)]; rfl
theorem d7 {b:aA} {a:Nat} {o:Option (Nat × Nat)} (h:apl b a 3 0 0=o):kJ b a=apF o:=by
 rw [kJ,rdN,lF (by omega)]
 simp only [Int.toNat_natCast,h]
theorem z0 {b:aA} {a r i n:Nat} (h:¬ ((a+i:Nat):Int)<(b.length:Nat)):apl b a (r+1) i n=none:=by
 rw [apl,lV1 (by omega)]
theorem v3 {b:aA} {a r i n:Nat} (h:a+i<b.length) (h2:128≤b[a+i].toNat):apl b a (r+1) i n=apl b a r (i+1) (n+b[a+i].toNat%128*128^i):=by
 rw [apl,lH h]
 simp only [h2,lP]
theorem aox {b:aA} {a r i n:Nat} (h:a+i<b.length) (h2:¬ 128≤b[a+i].toNat) (h3:1000000<n+b[a+i].toNat%128*128^i∨(b[a+i].toNat=0∧0<i)):apl b a (r+1) i n=none:=by
 rw [apl,lH h]
 simp only [h2,lG1,h3,lP]
theorem kV {b:aA} {a r i n:Nat} (h:a+i<b.length) (h2:¬ 128≤b[a+i].toNat) (h3:¬ (1000000<n+b[a+i].toNat%128*128^i∨(b[a+i].toNat=0∧0<i))) :
  apl b a (r+1) i n=some (n+b[a+i].toNat%128*128^i,a+i+1):=by
 rw [apl,lH h]
 simp only [h2,lG1,h3]
theorem apG (b:aA) (a:Int) (hl:b.length<2^40) (ha:a<2^62):bR Tryz.prog 98 [.ext 1 (aM b),.int .i64 a] (.tup [.int .i64 (kJ b a).1,.int .i64 (kJ b a).2.1,.bool (kJ b a).2.2]) [.undef,.undef]:=by
 refine Vw ap4 [] 2035 [] fun w hP hQ=>?_
 refine Jf (fun h1=>?_) fun h1=>?_
 ·refine N ?_
  rw [apm h1]
 ·obtain ⟨a,rfl⟩:∃ k:Nat,a=k:=⟨a.toNat,by omega⟩
  refine N ?_
  rw [apu _ _ [10]]
  simp only [aq0,lT1,lD1]
  refine aoa (fun s:Nat × Nat × AV=>[(9,.int .i64 (s.1:Nat)),(7,.int .i64 (s.2.1:Nat)),(8,.int .i64 ((128^s.1:Nat):Int)),(10,s.2.2)]) (fun s=>s.1≤3∧s.2.1<128^s.1∧apl b a 3 0 0=apl b a (3-s.1) s.1 s.2.1∧(∀ E K,oQ E K s.2.2=s.2.2)) (fun s=>3-s.1) ((0,0,.undef)) hP hQ (rfl) (⟨by simp,by simp,rfl,fun _ _=>rfl⟩) ?_
  rintro ⟨i,n,j10⟩ ⟨g1,g2,g3,g4⟩ w1 hP1 hQ1
  simp only at g1 g2 g3 g4
  rcases (show i=0∨i=1∨i=2∨i=3 by omega) with rfl | rfl | rfl | rfl
  ·have eU:(((128:Nat)^0:Nat):Int)=1:=rfl
   have eI:((0:Nat):Int)=0:=rfl
   have et:((a:Int)).toNat=a:=by omega
   have g2':n<1:=g2
   have hz:=And.intro g4 (And.intro eU (And.intro eI uC1))
   refine Nz1 ?_
   refine Jf (fun h2=>?_) fun h2=>?_
   ·have hx:a+0<b.length:=by omega
    have hb:(b[a+0]'hx).toNat<256:=(b[a+0]'hx).toNat_lt
    have ei:b[a]?=some (b[a+0]'hx):=lH hx
    have hz:=And.intro g4 (And.intro ei (And.intro eI (And.intro et (And.intro aqL (And.intro eU (And.intro Int.mul_one uC1))))))
    refine Nz1 ?_
    refine Jf (fun h3=>?_) fun h3=>?_
    ·refine N1 ?_
     refine ⟨(0+1,n+(b[a+0]'hx).toNat%128*1,.int .i64 ((b[a+0]'hx).toNat:Nat)),by simp; try rfl,⟨by omega,by simp only; omega,?_,fun _ _=>rfl⟩,by simp only; omega⟩
     exact g3.trans (v3 hx (by omega))
    ·refine N1 ?_
     refine Jg (fun h5=>?_) fun h5=>?_
     ·have hz:=h5
      refine Nz1 ?_
      rw [d7 (g3.trans (aox hx (by omega) (.inl (by omega))))]; rfl
     ·have hz:=h5
      refine Nz1 ?_
      refine Jg (fun h6=>?_) fun h6=>?_
      ·have hz:=And.intro h5 (And.intro h6 eI)
       refine Nz1 ?_
       rw [d7 (g3.trans (kV hx (by omega) (by omega)))]; first | rfl | simp [apF]
      ·have hz:=And.intro h5 (And.intro h6 eI)
       refine Nz1 ?_
       rw [d7 (g3.trans (kV hx (by omega) (by omega)))]; first | rfl | simp [apF]
   ·have hz:=g4
    refine Nz1 ?_
    rw [d7 (g3.trans (z0 (by omega)))]; rfl
  ·have eU:(((128:Nat)^1:Nat):Int)=128:=rfl
   have eI:((1:Nat):Int)=1:=rfl
   have et:((a:Int)+1).toNat=a+1:=by omega
   have g2':n<128:=g2
   have hz:=And.intro g4 (And.intro eU (And.intro eI uC1))
   refine Nz1 ?_
   refine Jf (fun h2=>?_) fun h2=>?_
   ·have hx:a+1<b.length:=by omega
    have hb:(b[a+1]'hx).toNat<256:=(b[a+1]'hx).toNat_lt
    have ei:b[a+1]?=some (b[a+1]'hx):=lH hx
    have hz:=And.intro g4 (And.intro ei (And.intro eI (And.intro et (And.intro aqL (And.intro eU (And.intro Int.mul_one uC1))))))
    refine Nz1 ?_
    refine Jf (fun h3=>?_) fun h3=>?_
    ·refine N1 ?_
     refine ⟨(1+1,n+(b[a+1]'hx).toNat%128*128,.int .i64 ((b[a+1]'hx).toNat:Nat)),by simp; try rfl,⟨by omega,by simp only; omega,?_,fun _ _=>rfl⟩,by simp only; omega⟩
     exact g3.trans (v3 hx (by omega))
    ·refine N1 ?_
     refine Jg (fun h5=>?_) fun h5=>?_
     ·have hz:=h5
      refine Nz1 ?_
      rw [d7 (g3.trans (aox hx (by omega) (.inl (by omega))))]; rfl
     ·have hz:=h5
      refine Nz1 ?_
      refine Jg (fun h6=>?_) fun h6=>?_
      ·have hz:=And.intro h5 (And.intro h6 eI)
       refine Nz1 ?_
       rw [d7 (g3.trans (aox hx (by omega) (.inr ⟨by omega,by omega⟩)))]; rfl
      ·have hz:=And.intro h5 (And.intro h6 eI)
       refine Nz1 ?_
       rw [d7 (g3.trans (kV hx (by omega) (by omega)))]; first | rfl | simp [apF]
   ·have hz:=g4
    refine Nz1 ?_
    rw [d7 (g3.trans (z0 (by omega)))]; rfl
  ·have eU:(((128:Nat)^2:Nat):Int)=16384:=rfl
   have eI:((2:Nat):Int)=2:=rfl
   have et:((a:Int)+2).toNat=a+2:=by omega
   have g2':n<16384:=g2
   have hz:=And.intro g4 (And.intro eU (And.intro eI uC1))
   refine Nz1 ?_
   refine Jf (fun h2=>?_) fun h2=>?_
   ·have hx:a+2<b.length:=by omega
    have hb:(b[a+2]'hx).toNat<256:=(b[a+2]'hx).toNat_lt
    have ei:b[a+2]?=some (b[a+2]'hx):=lH hx
    have hz:=And.intro g4 (And.intro ei (And.intro eI (And.intro et (And.intro aqL (And.intro eU (And.intro Int.mul_one uC1))))))
    refine Nz1 ?_
    refine Jf (fun h3=>?_) fun h3=>?_
    ·refine N1 ?_
     refine ⟨(2+1,n+(b[a+2]'hx).toNat%128*16384,.int .i64 ((b[a+2]'hx).toNat:Nat)),by simp; try rfl,⟨by omega,by simp only; omega,?_,fun _ _=>rfl⟩,by simp only; omega⟩
     exact g3.trans (v3 hx (by omega))
    ·refine N1 ?_
     refine Jg (fun h5=>?_) fun h5=>?_
     ·have hz:=h5
      refine Nz1 ?_
      rw [d7 (g3.trans (aox hx (by omega) (.inl (by omega))))]; rfl
     ·have hz:=h5
      refine Nz1 ?_
      refine Jg (fun h6=>?_) fun h6=>?_
      ·have hz:=And.intro h5 (And.intro h6 eI)
       refine Nz1 ?_
       rw [d7 (g3.trans (aox hx (by omega) (.inr ⟨by omega,by omega⟩)))]; rfl
      ·have hz:=And.intro h5 (And.intro h6 eI)
       refine Nz1 ?_
       rw [d7 (g3.trans (kV hx (by omega) (by omega)))]; first | rfl | simp [apF]
   ·have hz:=g4
    refine Nz1 ?_
    rw [d7 (g3.trans (z0 (by omega)))]; rfl
  ·have hz:=g4
   refine Nz1 ?_
   rw [d7 g3]; rfl
theorem arj {n m:Nat} (h:n<1):n ||| m=n+m:=by
 obtain rfl:n=0:=by omega
 simp
theorem ark {n m:Nat} (h:n<128):n ||| m*128=n+m*128:=by
 have:=Nat.two_pow_add_eq_or_of_lt (i:=7) (b:=n) h m
 rw [Nat.or_comm,Nat.mul_comm m 128,show (128:Nat)=2^7 from rfl,← this]; omega
theorem arl {n m:Nat} (h:n<16384):n ||| m*16384=n+m*16384:=by
 have:=Nat.two_pow_add_eq_or_of_lt (i:=14) (b:=n) h m
 rw [Nat.or_comm,Nat.mul_comm m 16384,show (16384:Nat)=2^14 from rfl,← this]; omega
theorem arf {n m:Nat} (h:n<1) (hm:m<128):IntKind.i64.wrap ((BitVec.ofInt IntKind.i64.bits (n:Int) ||| BitVec.ofInt IntKind.i64.bits (IntKind.i64.wrap ((m:Int)*2^min (IntKind.u64.wrap 0).toNat IntKind.i64.bits))).toNat:Int)=((n+m*1:Nat):Int):=by
 have e:min (IntKind.u64.wrap 0).toNat IntKind.i64.bits=0:=by decide
 have e':((m:Int)*2^0)=((m*1:Nat):Int):=by simp
 rw [e,e',aas (n:=m*1) (by omega),ara (by omega) (by omega)]
 rw [Nat.mul_one,arj h]
theorem arg {n m:Nat} (h:n<128) (hm:m<128):IntKind.i64.wrap ((BitVec.ofInt IntKind.i64.bits (n:Int) ||| BitVec.ofInt IntKind.i64.bits (IntKind.i64.wrap ((m:Int)*2^min (IntKind.u64.wrap 7).toNat IntKind.i64.bits))).toNat:Int)=((n+m*128:Nat):Int):=by
 have e:min (IntKind.u64.wrap 7).toNat IntKind.i64.bits=7:=by decide
 have e':((m:Int)*2^7)=((m*128:Nat):Int):=by simp
 rw [e,e',aas (n:=m*128) (by omega),ara (by omega) (by omega)]
 rw [ark h]
theorem arh {n m:Nat} (h:n<16384) (hm:m<128):IntKind.i64.wrap ((BitVec.ofInt IntKind.i64.bits (n:Int) ||| BitVec.ofInt IntKind.i64.bits (IntKind.i64.wrap ((m:Int)*2^min (IntKind.u64.wrap 14).toNat IntKind.i64.bits))).toNat:Int)=((n+m*16384:Nat):Int):=by
 have e:min (IntKind.u64.wrap 14).toNat IntKind.i64.bits=14:=by decide
 have e':((m:Int)*2^14)=((m*16384:Nat):Int):=by simp
 rw [e,e',aas (n:=m*16384) (by omega),ara (by omega) (by omega)]
 rw [arl h]
theorem apH (b:aA) (a:Int) (hl:b.length<2^40) (ha:a<2^62):bR Tryz.prog 100 [.ext 1 (aM b),.int .i64 a] (.tup [.int .i64 (kJ b a).1,.int .i64 (kJ b a).2.1,.bool (kJ b a).2.2]) [.undef,.undef]:=by
 by_cases h0:a<0
 ·have ea:decide (0≤a)=false:=lC (by omega)
  refine akS hmx apj [] 1011 [] ⟨lE rfl,lE rfl⟩ rfl rfl ?_
  intro w hP hQ
  unfold aoV
  simp +decide (maxSteps:=9^9) (disch:=omega) only[↓SB0,SX,seval,hQ]
  rw [apu _ _ [9]]
  simp only [aq0,lT1,lD1]
  refine aoa (fun s:Nat=>[(8,.int .i64 0),(7,.int .i64 0),(9,.undef)]) (fun s=>True) (fun s=>0) (0) hP hQ (rfl) (trivial) ?_
  rintro i-w1 hP1 hQ1
  simp +decide (maxSteps:=9^9) (disch:=omega) only[↓SB0,SX,seval,hQ,hQ1,ea]
  rw [apm h0]
 ·obtain ⟨a,rfl⟩:∃ k:Nat,a=k:=⟨a.toNat,by omega⟩
  have ea:decide ((0:Int)≤(a:Int))=true:=lM (by omega)
  refine akS hmx apj [] 1011 [] ⟨lE rfl,lE rfl⟩ rfl rfl ?_
  intro w hP hQ
  unfold aoV
  simp +decide (maxSteps:=9^9) (disch:=omega) only[↓SB0,SX,seval,hQ]
  rw [apu _ _ [9]]
  simp only [aq0,lT1,lD1]
  refine aoa (fun s:Nat × Nat × AV=>[(8,.int .i64 (s.1:Nat)),(7,.int .i64 (s.2.1:Nat)),(9,s.2.2)]) (fun s=>s.1≤3∧s.2.1<128^s.1∧apl b a 3 0 0=apl b a (3-s.1) s.1 s.2.1∧(∀ E K,oQ E K s.2.2=s.2.2)) (fun s=>3-s.1) ((0,0,.undef)) hP hQ (rfl) (⟨by simp,by simp,rfl,fun _ _=>rfl⟩) ?_
  rintro ⟨i,n,j10⟩ ⟨g1,g2,g3,g4⟩ w1 hP1 hQ1
  simp only at g1 g2 g3 g4
  rcases (show i=0∨i=1∨i=2∨i=3 by omega) with rfl | rfl | rfl | rfl
  ·have eU:(((128:Nat)^0:Nat):Int)=1:=rfl
   have eI:((0:Nat):Int)=0:=rfl
   have et:((a:Int)).toNat=a:=by omega
   have g2':n<1:=g2
   simp +decide (maxSteps:=9^9) (disch:=omega) only[↓SB0,SX,seval,hQ,hQ1,g4,eI,ea,uC1,uE1]
   (first | with_reducible refine aom _ ?_ ?_ | refine aop _ ?_ ?_) <;> intro h1
   ·have hx:a+0<b.length:=by omega
    have hb:(b[a+0]'hx).toNat<256:=(b[a+0]'hx).toNat_lt
    have ei:b[a]?=some (b[a+0]'hx):=lH hx
    have e1:=aqK (a:=(b[a+0]'hx).toNat) (b:=127) (by omega) (by decide)
    rw [apT] at e1
    simp only [Int.cast_ofNat_Int] at e1
    simp +decide (maxSteps:=9^9) (disch:=omega) only[↓SB0,SX,seval,hQ,hQ1,h1,g4,ei,eI,et,e1,arf (n:=n) (m:=(b[a+0]'hx).toNat%128) g2' (by omega),Int.mul_one,uE1,Nat.zero_min,Nat.reduceMul,Int.reduceMul]
    (first | with_reducible refine aol _ ?_ ?_ | refine aoo _ ?_ ?_) <;> intro h3
    ·simp +decide (maxSteps:=9^9) (disch:=omega) only[↓SB0,SX,seval,hQ,hQ1]
     exact ⟨(0+1,n+(b[a+0]'hx).toNat%128*1,.int .i64 ((b[a+0]'hx).toNat:Nat)),rfl,⟨by omega,by simp only; omega,g3.trans (v3 hx (by omega)),fun _ _=>rfl⟩,by simp only; omega⟩
    ·simp +decide (maxSteps:=9^9) (disch:=omega) only[↓SB0,SX,seval,hQ,hQ1]
     (first | with_reducible refine aol _ ?_ ?_ | refine aoo _ ?_ ?_) <;> intro h6
     ·exfalso; omega
     ·simp +decide (maxSteps:=9^9) (disch:=omega) only[↓SB0,SX,seval,hQ,hQ1]
      rw [d7 (g3.trans (kV hx (by omega) (by omega)))]; first | rfl | simp [apF]
   ·simp +decide (maxSteps:=9^9) (disch:=omega) only[↓SB0,SX,seval,hQ,hQ1,h1]
    rw [d7 (g3.trans (z0 (by omega)))]; rfl
  ·have eU:(((128:Nat)^1:Nat):Int)=128:=rfl
   have eI:((1:Nat):Int)=1:=rfl
   have et:((a:Int)+1).toNat=a+1:=by omega
   have g2':n<128:=g2
   simp +decide (maxSteps:=9^9) (disch:=omega) only[↓SB0,SX,seval,hQ,hQ1,g4,eI,ea,uC1,uE1]
   (first | with_reducible refine aom _ ?_ ?_ | refine aop _ ?_ ?_) <;> intro h1
   ·simp +decide (maxSteps:=9^9) (disch:=omega) only[↓SB0,SX,seval,hQ,hQ1,h1,eI,uE1]
    (first | with_reducible refine aol _ ?_ ?_ | refine aoo _ ?_ ?_) <;> intro h2
    ·have hx:a+1<b.length:=by omega
     have hb:(b[a+1]'hx).toNat<256:=(b[a+1]'hx).toNat_lt
     have ei:b[a+1]?=some (b[a+1]'hx):=lH hx
     have e1:=aqK (a:=(b[a+1]'hx).toNat) (b:=127) (by omega) (by decide)
     rw [apT] at e1
     simp only [Int.cast_ofNat_Int] at e1
     simp +decide (maxSteps:=9^9) (disch:=omega) only[↓SB0,SX,seval,hQ,hQ1,g4,ei,eI,et,e1,arg (n:=n) (m:=(b[a+1]'hx).toNat%128) g2' (by omega),Int.mul_one,uE1,Nat.zero_min,Nat.reduceMul,Int.reduceMul]
     (first | with_reducible refine aol _ ?_ ?_ | refine aoo _ ?_ ?_) <;> intro h3
     ·simp +decide (maxSteps:=9^9) (disch:=omega) only[↓SB0,SX,seval,hQ,hQ1]
      exact ⟨(1+1,n+(b[a+1]'hx).toNat%128*128,.int .i64 ((b[a+1]'hx).toNat:Nat)),rfl,⟨by omega,by simp only; omega,g3.trans (v3 hx (by omega)),fun _ _=>rfl⟩,by simp only; omega⟩
     ·simp +decide (maxSteps:=9^9) (disch:=omega) only[↓SB0,SX,seval,hQ,hQ1]
      (first | with_reducible refine aom _ ?_ ?_ | refine aop _ ?_ ?_) <;> intro h5
      ·simp +decide (maxSteps:=9^9) (disch:=omega) only[↓SB0,SX,seval,hQ,hQ1,h5]
       rw [d7 (g3.trans (aox hx (by omega) (.inr ⟨by omega,by omega⟩)))]; rfl
      ·simp +decide (maxSteps:=9^9) (disch:=omega) only[↓SB0,SX,seval,hQ,hQ1,h5]
       (first | with_reducible refine aol _ ?_ ?_ | refine aoo _ ?_ ?_) <;> intro h6
       ·simp +decide (maxSteps:=9^9) (disch:=omega) only[↓SB0,SX,seval,hQ,hQ1]
        rw [d7 (g3.trans (aox hx (by omega) (.inl (by omega))))]; rfl
       ·simp +decide (maxSteps:=9^9) (disch:=omega) only[↓SB0,SX,seval,hQ,hQ1]
        rw [d7 (g3.trans (kV hx (by omega) (by omega)))]; first | rfl | simp [apF]
    ·simp +decide (maxSteps:=9^9) (disch:=omega) only[↓SB0,SX,seval,hQ,hQ1,h1]
     rw [d7 (g3.trans (z0 (by omega)))]; rfl
   ·simp +decide (maxSteps:=9^9) (disch:=omega) only[↓SB0,SX,seval,hQ,hQ1,h1]
    rw [d7 (g3.trans (z0 (by omega)))]; rfl
  ·have eU:(((128:Nat)^2:Nat):Int)=16384:=rfl
   have eI:((2:Nat):Int)=2:=rfl
   have et:((a:Int)+2).toNat=a+2:=by omega
   have g2':n<16384:=g2
   simp +decide (maxSteps:=9^9) (disch:=omega) only[↓SB0,SX,seval,hQ,hQ1,g4,eI,ea,uC1,uE1]
   (first | with_reducible refine aom _ ?_ ?_ | refine aop _ ?_ ?_) <;> intro h1
   ·simp +decide (maxSteps:=9^9) (disch:=omega) only[↓SB0,SX,seval,hQ,hQ1,h1,eI,uE1]
    (first | with_reducible refine aol _ ?_ ?_ | refine aoo _ ?_ ?_) <;> intro h2
    ·have hx:a+2<b.length:=by omega
     have hb:(b[a+2]'hx).toNat<256:=(b[a+2]'hx).toNat_lt
     have ei:b[a+2]?=some (b[a+2]'hx):=lH hx
     have e1:=aqK (a:=(b[a+2]'hx).toNat) (b:=127) (by omega) (by decide)
     rw [apT] at e1
     simp only [Int.cast_ofNat_Int] at e1
     simp +decide (maxSteps:=9^9) (disch:=omega) only[↓SB0,SX,seval,hQ,hQ1,g4,ei,eI,et,e1,arh (n:=n) (m:=(b[a+2]'hx).toNat%128) g2' (by omega),Int.mul_one,uE1,Nat.zero_min,Nat.reduceMul,Int.reduceMul]
     (first | with_reducible refine aol _ ?_ ?_ | refine aoo _ ?_ ?_) <;> intro h3
     ·simp +decide (maxSteps:=9^9) (disch:=omega) only[↓SB0,SX,seval,hQ,hQ1]
      exact ⟨(2+1,n+(b[a+2]'hx).toNat%128*16384,.int .i64 ((b[a+2]'hx).toNat:Nat)),rfl,⟨by omega,by simp only; omega,g3.trans (v3 hx (by omega)),fun _ _=>rfl⟩,by simp only; omega⟩
     ·simp +decide (maxSteps:=9^9) (disch:=omega) only[↓SB0,SX,seval,hQ,hQ1]
      (first | with_reducible refine aom _ ?_ ?_ | refine aop _ ?_ ?_) <;> intro h5
      ·simp +decide (maxSteps:=9^9) (disch:=omega) only[↓SB0,SX,seval,hQ,hQ1,h5]
       rw [d7 (g3.trans (aox hx (by omega) (.inr ⟨by omega,by omega⟩)))]; rfl
      ·simp +decide (maxSteps:=9^9) (disch:=omega) only[↓SB0,SX,seval,hQ,hQ1,h5]
       (first | with_reducible refine aol _ ?_ ?_ | refine aoo _ ?_ ?_) <;> intro h6
       ·simp +decide (maxSteps:=9^9) (disch:=omega) only[↓SB0,SX,seval,hQ,hQ1]
        rw [d7 (g3.trans (aox hx (by omega) (.inl (by omega))))]; rfl
       ·simp +decide (maxSteps:=9^9) (disch:=omega) only[↓SB0,SX,seval,hQ,hQ1]
        rw [d7 (g3.trans (kV hx (by omega) (by omega)))]; first | rfl | simp [apF]
    ·simp +decide (maxSteps:=9^9) (disch:=omega) only[↓SB0,SX,seval,hQ,hQ1,h1]
     rw [d7 (g3.trans (z0 (by omega)))]; rfl
   ·simp +decide (maxSteps:=9^9) (disch:=omega) only[↓SB0,SX,seval,hQ,hQ1,h1]
    rw [d7 (g3.trans (z0 (by omega)))]; rfl
  ·simp +decide (maxSteps:=9^9) (disch:=omega) only[↓SB0,SX,seval,hQ,hQ1,g4]
   rw [d7 g3]; rfl
theorem ari {b:aA} {a:Nat}:∀ (r i n:Nat) {m k:Nat},apl b a r i n=some (m,k)→k≤b.length∧m≤1000000:=by
 intro r
 induction r with
 | zero=>intro i n m k h; simp [apl] at h
 | succ r ih=>
  intro i n m k h
  by_cases hx:a+i<b.length
  ·by_cases h2:128≤(b[a+i]'hx).toNat
   ·rw [v3 hx h2] at h; exact ih _ _ h
   ·by_cases h3:1000000<n+(b[a+i]'hx).toNat%128*128^i∨((b[a+i]'hx).toNat=0∧0<i)
    ·rw [aox hx h2 h3] at h; cases h
    ·rw [kV hx h2 h3] at h
     simp only [Option.some.injEq,Prod.mk.injEq] at h
     omega
  ·rw [z0 (by omega)] at h; cases h
theorem ao8 {b:aA} {a:Int} {m k:Nat} (h:rdN b a=some (m,k)):k≤b.length∧m≤1000000:=by
 unfold rdN at h
 split at h
 ·exact ari _ _ _ h
 ·cases h
theorem apn (b:aA) (n k:Nat):List.take n (List.drop k (aM b))=aM (List.take n (List.drop k b)):=by simp [aM,lD4,lQ4]
def aq4:Option (aA × Nat)→aA × Int × Bool
 | some (s,k)=>(s,(k:Nat),true)
 | none=>([],0,false)
def apv (b:aA) (a:Int):Option (aA × Nat):=(rdN b a).bind fun q=>if q.1+q.2≤b.length then some ((b.drop q.2).take q.1,q.2+q.1) else none
def i0 (b:aA) (a:Int):aA × Int × Bool:=aq4 (apv b a)
theorem aoZ {b:aA} {a:Int} (h:rdN b a=none):i0 b a=([],0,false):=by rw [i0,apv,h]; rfl
theorem ao0 {b:aA} {a:Int} {n k:Nat} (h:rdN b a=some (n,k)) (h1:n+k≤b.length):i0 b a=((b.drop k).take n,((k+n:Nat):Int),true):=by
 rw [i0,apv,h,lD,lF h1]; rfl
theorem ao1 {b:aA} {a:Int} {n k:Nat} (h:rdN b a=some (n,k)) (h1:¬ n+k≤b.length):i0 b a=([],0,false):=by
 rw [i0,apv,h,lD,lK h1]; rfl
theorem ap6 (b:aA) (a:Int) (hl:b.length<2^40) (ha:a<2^62):bR Tryz.prog 99 [.ext 1 (aM b),.int .i64 a] (.tup [.str (i0 b a).1,.int .i64 (i0 b a).2.1,.bool (i0 b a).2.2]) [.undef,.undef]:=by
 have hc:=apG b a hl ha
 cases hN:rdN b a with
 | none=>
  rw [kJ,hN] at hc
  simp only [apF] at hc
  rw [aoZ hN]
  refine Vw aoM [] 1011 [] fun w hP hQ=>?_
  exact K (hc) trivial
 | some q=>
  obtain ⟨n,k⟩:=q
  obtain ⟨hk,hn⟩:=ao8 hN
  rw [kJ,hN] at hc
  simp only [apF] at hc
  by_cases h1:n+k≤b.length
  ·have d1:decide (((b.length:Nat):Int)-(k:Int)<(n:Int))=false:=lC (by omega)
   rw [ao0 hN h1]
   refine Vw aoM [] 1011 [] fun w hP hQ=>?_
   have en:((k:Int)+(n:Int)-(k:Int)).toNat=n:=by omega
   have hz:=And.intro d1 (And.intro en apn)
   refine Kz (hc) ?_
   simp
  ·have d1:decide (((b.length:Nat):Int)-(k:Int)<(n:Int))=true:=lM (by omega)
   rw [ao1 hN h1]
   refine Vw aoM [] 1011 [] fun w hP hQ=>?_
   have hz:=d1
   exact Kz (hc) trivial
theorem ap7 (b:aA) (a:Int) (hl:b.length<2^40) (ha:a<2^62):bR Tryz.prog 101 [.ext 1 (aM b),.int .i64 a] (.tup [.str (i0 b a).1,.int .i64 (i0 b a).2.1,.bool (i0 b a).2.2]) [.undef,.undef]:=by
 have hc:=apH b a hl ha
 cases hN:rdN b a with
 | none=>
  rw [kJ,hN] at hc
  simp only [apF] at hc
  rw [aoZ hN]
  refine Vw aoN [] 1011 [] fun w hP hQ=>?_
  exact K (hc) trivial
 | some q=>
  obtain ⟨n,k⟩:=q
  obtain ⟨hk,hn⟩:=ao8 hN
  rw [kJ,hN] at hc
  simp only [apF] at hc
  by_cases h1:n+k≤b.length
  ·have d1:decide (((b.length:Nat):Int)-(k:Int)<(n:Int))=false:=lC (by omega)
   rw [ao0 hN h1]
   refine Vw aoN [] 1011 [] fun w hP hQ=>?_
   have en:((k:Int)+(n:Int)-(k:Int)).toNat=n:=by omega
   have hz:=And.intro d1 (And.intro en apn)
   refine Kz (hc) ?_
   simp
  ·have d1:decide (((b.length:Nat):Int)-(k:Int)<(n:Int))=true:=lM (by omega)
   rw [ao1 hN h1]
   refine Vw aoN [] 1011 [] fun w hP hQ=>?_
   have hz:=d1
   exact Kz (hc) trivial
def aoA (b:aA) (s:Int × Bool):Int × Int × Bool:=if s.2=true then kJ b s.1 else (0,s)
def kO (b:aA) (s:Int × Bool):aA × Int × Bool:=if s.2=true then i0 b s.1 else ([],s)
theorem aqo (v:Value) (b:aA) (a:Int) (ok:Bool) (hl:b.length<2^40) (ha:a<2^62) :
  bR Tryz.prog 52 [.box [.extv v 1 (aM b),.int .i64 a,.bool ok]] (.int .i64 (aoA b (a,ok)).1) [.box [.extv v 1 (aM b),.int .i64 (aoA b (a,ok)).2.1,.bool (aoA b (a,ok)).2.2]]:=by
 cases ok with
 | false=>
  refine Vw aoL [] 61 [true] fun w hP hQ=>?_
  simp [aoA]
 | true=>
  refine Vw aoL [] 61 [true] fun w hP hQ=>?_
  refine K (anI (v:=v) (apG b a hl ha)) ?_
  simp [aoA]
theorem apR (v:Value) (b:aA) (a:Int) (ok:Bool) (hl:b.length<2^40) (ha:a<2^62) :
  bR Tryz.prog 53 [.box [.extv v 1 (aM b),.int .i64 a,.bool ok]] (.str (kO b (a,ok)).1) [.box [.extv v 1 (aM b),.int .i64 (kO b (a,ok)).2.1,.bool (kO b (a,ok)).2.2]]:=by
 cases ok with
 | false=>
  refine Vw aoE [] 61 [true] fun w hP hQ=>?_
  simp [kO]
 | true=>
  refine Vw aoE [] 61 [true] fun w hP hQ=>?_
  refine K (anI (v:=v) (ap6 b a hl ha)) ?_
  simp [kO]
theorem aq1 (v:Value) (b:aA) (a:Int) (ok:Bool) (hl:b.length<2^40) :
  bR Tryz.prog 54 [.box [.extv v 1 (aM b),.int .i64 a,.bool ok]] (.bool (ok && decide (a=(b.length:Nat)))) [.box [.extv v 1 (aM b),.int .i64 a,.bool ok]]:=by
 cases ok with
 | false=>
  refine U aoF [] 5 [true] fun w hP hQ=>?_
  unfold aov
  exact N trivial
 | true=>
  refine U aoF [] 5 [true] fun w hP hQ=>?_
  unfold aov
  exact N trivial
def aoK (b:aA) (s:Int × Bool):Int × Int × Bool:=if s.2=true then (0,s) else match rdN b s.1 with | some (n,k)=>((n:Nat),((k:Nat):Int),false) | none=>(0,s.1,true)
def v9 (b:aA) (s:Int × Bool):aA × Int × Bool:=if s.2=true then ([],s) else match apv b s.1 with | some (n,k)=>(n,((k:Nat):Int),false) | none=>([],s.1,true)
theorem apw (v:Value) (b:aA) (a:Int) (bad:Bool) (hl:b.length<2^40) (ha:a<2^62) :
  bR Tryz.prog 55 [.box [.extv v 1 (aM b),.int .i64 a,.bool bad]] (.int .i64 (aoK b (a,bad)).1) [.box [.extv v 1 (aM b),.int .i64 (aoK b (a,bad)).2.1,.bool (aoK b (a,bad)).2.2]]:=by
 have hc:=anI (v:=v) (apH b a hl ha)
 cases hN:rdN b a with
 | none=>
  rw [kJ,hN] at hc
  simp only [apF] at hc
  cases bad with
  | false=>
   refine Vw aoP [] 61 [true] fun w hP hQ=>?_
   refine K (hc) ?_
   simp [aoK,hN]
  | true=>
   refine Vw aoP [] 61 [true] fun w hP hQ=>?_
   refine K (hc) ?_
   simp [aoK,hN]
 | some q=>
  obtain ⟨n,k⟩:=q
  rw [kJ,hN] at hc
  simp only [apF] at hc
  cases bad with
  | false=>
   refine Vw aoP [] 61 [true] fun w hP hQ=>?_
   refine K (hc) ?_
   simp [aoK,hN]
  | true=>
   refine Vw aoP [] 61 [true] fun w hP hQ=>?_
   refine K (hc) ?_
   simp [aoK,hN]
theorem ao9 (v:Value) (b:aA) (a:Int) (bad:Bool) (hl:b.length<2^40) (ha:a<2^62) :
  bR Tryz.prog 56 [.box [.extv v 1 (aM b),.int .i64 a,.bool bad]] (.str (v9 b (a,bad)).1) [.box [.extv v 1 (aM b),.int .i64 (v9 b (a,bad)).2.1,.bool (v9 b (a,bad)).2.2]]:=by
 have hc:=anI (v:=v) (ap7 b a hl ha)
 cases hN:apv b a with
 | none=>
  rw [i0,hN] at hc
  simp only [aq4] at hc
  cases bad with
  | false=>
   refine Vw aoH [] 61 [true] fun w hP hQ=>?_
   refine K (hc) ?_
   simp [v9,hN]
  | true=>
   refine Vw aoH [] 61 [true] fun w hP hQ=>?_
   refine K (hc) ?_
   simp [v9,hN]
 | some q=>
  obtain ⟨n,k⟩:=q
  rw [i0,hN] at hc
  simp only [aq4] at hc
  cases bad with
  | false=>
   refine Vw aoH [] 61 [true] fun w hP hQ=>?_
   refine K (hc) ?_
   simp [v9,hN]
  | true=>
   refine Vw aoH [] 61 [true] fun w hP hQ=>?_
   refine K (hc) ?_
   simp [v9,hN]
theorem apx {b:aA} {a:Int} {x:aA} {k:Nat} (h:apv b a=some (x,k)):k≤b.length∧x.length≤b.length:=by
 unfold apv at h
 obtain ⟨q,hq,h⟩:=lR1.1 h
 split at h
 ·simp only [Option.some.injEq,Prod.mk.injEq] at h
  obtain ⟨rfl,rfl⟩:=h
  simp only [lT,lH2]
  omega
 ·cases h
theorem apy {b:aA} {s:Int × Bool} (hl:b.length<2^40) (h:s.1<2^62):(aoA b s).2.1<2^62:=by
 unfold aoA
 split
 ·unfold kJ
  cases hN:rdN b s.1 with
  | none=>simp [apF]
  | some q=>obtain ⟨n,k⟩:=q; have:=(ao8 hN).1; simp only [apF]; omega
 ·exact h
theorem apa {b:aA} {s:Int × Bool} (hl:b.length<2^40) (h:s.1<2^62):(kO b s).2.1<2^62:=by
 unfold kO
 split
 ·unfold i0
  cases hN:apv b s.1 with
  | none=>simp [aq4]
  | some q=>obtain ⟨n,k⟩:=q; have:=(apx hN).1; simp only [aq4]; omega
 ·exact h
theorem apz {b:aA} {s:Int × Bool} (hl:b.length<2^40) (h:s.1<2^62):(aoK b s).2.1<2^62:=by
 unfold aoK
 split
 ·exact h
 ·cases hN:rdN b s.1 with
  | none=>exact h
  | some q=>obtain ⟨n,k⟩:=q; have:=(ao8 hN).1; simp only; omega
theorem apb {b:aA} {s:Int × Bool} (hl:b.length<2^40) (h:s.1<2^62):(v9 b s).2.1<2^62:=by
 unfold v9
 split
 ·exact h
 ·cases hN:apv b s.1 with
  | none=>exact h
  | some q=>obtain ⟨n,k⟩:=q; have:=(apx hN).1; simp only; omega
def kI (b:aA):Int × Int × Bool:=aoA b (0,true)
def vI (b:aA):Int × Int × Bool:=aoA b (kI b).2
def pI (b:aA):aA × Int × Bool:=kO b (vI b).2
def tI (b:aA):aA × Int × Bool:=kO b (pI b).2
def oI (b:aA):Int × Int × Bool:=aoA b (tI b).2
def dI (b:aA):aA × Int × Bool:=kO b (oI b).2
def opI (b:aA):Op:={ kind:=(kI b).1,vol:=(vI b).1,path:=(pI b).1,to':=(tI b).1,off:=(oI b).1,data:=(dI b).1 }
theorem atI (b:aA) (hl:b.length<2^40):(kI b).2.1<2^62∧(vI b).2.1<2^62∧(pI b).2.1<2^62∧(tI b).2.1<2^62∧(oI b).2.1<2^62∧(dI b).2.1<2^62:=by
 have h1:(kI b).2.1<2^62:=apy hl (by decide)
 have h2:(vI b).2.1<2^62:=apy hl h1
 have h3:(pI b).2.1<2^62:=apa hl h2
 have h4:(tI b).2.1<2^62:=apa hl h3
 have h5:(oI b).2.1<2^62:=apy hl h4
 exact ⟨h1,h2,h3,h4,h5,apa hl h5⟩
def kS (b:aA):Int × Int × Bool:=aoK b (0,false)
def vS (b:aA):Int × Int × Bool:=aoK b (kS b).2
def pS (b:aA):aA × Int × Bool:=v9 b (vS b).2
def tS (b:aA):aA × Int × Bool:=v9 b (pS b).2
def oS (b:aA):Int × Int × Bool:=aoK b (tS b).2
def dS (b:aA):aA × Int × Bool:=v9 b (oS b).2
def opS (b:aA):Op:={ kind:=(kS b).1,vol:=(vS b).1,path:=(pS b).1,to':=(tS b).1,off:=(oS b).1,data:=(dS b).1 }
theorem atS (b:aA) (hl:b.length<2^40):(kS b).2.1<2^62∧(vS b).2.1<2^62∧(pS b).2.1<2^62∧(tS b).2.1<2^62∧(oS b).2.1<2^62∧(dS b).2.1<2^62:=by
 have h1:(kS b).2.1<2^62:=apz hl (by decide)
 have h2:(vS b).2.1<2^62:=apz hl h1
 have h3:(pS b).2.1<2^62:=apb hl h2
 have h4:(tS b).2.1<2^62:=apb hl h3
 have h5:(oS b).2.1<2^62:=apz hl h4
 exact ⟨h1,h2,h3,h4,h5,apb hl h5⟩
def zOp:Op:={ kind:=0,vol:=0,path:=[],to':=[],off:=0,data:=[] }
def kT (b:aA):Op × Bool:=if ((dI b).2.2 && decide ((dI b).2.1=(b.length:Nat)))=true∧inR (kI b).1 1 14=true then (opI b,true) else (zOp,false)
theorem apW (b:aA) (hl:b.length<2^40):bR Tryz.prog 13 [.ext 1 (aM b)] (.tup [(kT b).1.o,.bool (kT b).2]) [.undef]:=by
 refine ag6 fun a len cap ha=>?_
 generalize Value.slice a len cap=v
 obtain ⟨h1,h2,h3,h4,h5,h6⟩:=atI b hl
 refine Vw aqk [(52,[.l],[]),(53,[.l],[]),(54,[.l],[])] 61 [] fun w hP hQ=>?_
 refine Kd (aqo v b 0 true hl (by decide)) ?_
 refine Kd (aqo v b (kI b).2.1 (kI b).2.2 hl h1) ?_
 refine Kd (apR v b (vI b).2.1 (vI b).2.2 hl h2) ?_
 refine Kd (apR v b (pI b).2.1 (pI b).2.2 hl h3) ?_
 refine Kd (aqo v b (tI b).2.1 (tI b).2.2 hl h4) ?_
 refine Kd (apR v b (oI b).2.1 (oI b).2.2 hl h5) ?_
 refine Kd (aq1 v b (dI b).2.1 (dI b).2.2 hl) ?_
 refine Jg (fun h7=>?_) fun h7=>?_
 ·simp only [h7,uB1,uA1]
  refine N ?_
  refine K (aoc (kI b).1 1 14) ?_
  refine Jf (fun h8=>?_) fun h8=>?_
  ·simp only [h8,uB1,uA1]
   refine N ?_
   rw [kT,lF ⟨h7,h8⟩]; rfl
  ·simp only [h8,uB1,uA1]
   refine N ?_
   rw [kT,lK (by simp [h8])]; rfl
 ·simp only [h7,uB1,uA1]
  refine N ?_
  rw [kT,lK (by simp [h7])]; rfl
def ao2 (b:aA):Op × Bool:=if ((!(dS b).2.2)=true∧(dS b).2.1=(b.length:Nat))∧inR (kS b).1 1 14=true then (opS b,true) else (zOp,false)
theorem aqM (b:aA) (hl:b.length<2^40):bR Tryz.prog 14 [.ext 1 (aM b)] (.tup [(ao2 b).1.o,.bool (ao2 b).2]) [.undef]:=by
 refine ag6 fun a len cap ha=>?_
 generalize Value.slice a len cap=v
 obtain ⟨h1,h2,h3,h4,h5,h6⟩:=atS b hl
 refine Vw aql [(55,[.l],[]),(56,[.l],[])] 61 [] fun w hP hQ=>?_
 refine Kd (apw v b 0 false hl (by decide)) ?_
 refine Kd (apw v b (kS b).2.1 (kS b).2.2 hl h1) ?_
 refine Kd (ao9 v b (vS b).2.1 (vS b).2.2 hl h2) ?_
 refine Kd (ao9 v b (pS b).2.1 (pS b).2.2 hl h3) ?_
 refine Kd (apw v b (tS b).2.1 (tS b).2.2 hl h4) ?_
 refine Kd (ao9 v b (oS b).2.1 (oS b).2.2 hl h5) ?_
 have hd:v9 b ((oS b).2.1,(oS b).2.2)=dS b:=rfl
 rw [hd]
 refine Jg (fun h7=>?_) fun h7=>?_
 ·simp only [h7,uB1,uA1]
  refine N ?_
  rw [ao2,lK (by simp [h7])]; rfl
 ·simp only [h7,uB1,uA1]
  refine N ?_
  refine Jg (fun h8=>?_) fun h8=>?_
  ·have d8:decide ((dS b).2.1=(b.length:Nat))=true:=lM h8
   have hz:=d8
   refine Nz ?_
   have hz:=d8
   refine Kz (aio (kS b).1 1 14) ?_
   refine Jf (fun h9=>?_) fun h9=>?_
   ·simp only [h9,uB1,uA1]
    refine N ?_
    rw [ao2,lF ⟨⟨by simp [h7],h8⟩,h9⟩]; rfl
   ·simp only [h9,uB1,uA1]
    refine N ?_
    rw [ao2,lK (by simp [h9])]; rfl
  ·have d8:decide ((dS b).2.1=(b.length:Nat))=false:=lC h8
   have hz:=d8
   refine Nz ?_
   rw [ao2,lK (by simp [h8])]; rfl
def aq6 (s t:Int × Bool):Prop:=(s.2=true∧t=(s.1,false))∨(s.2=false∧t.2=true)
theorem apA (b:aA) {s t:Int × Bool} (h:aq6 s t):(aoA b s).1=(aoK b t).1∧aq6 (aoA b s).2 (aoK b t).2:=by
 rcases h with ⟨h1,rfl⟩ | ⟨h1,h2⟩
 ·unfold aoA aoK kJ
  rw [lF h1,lK (by simp)]
  simp only
  cases rdN b s.1 with
  | none=>exact ⟨rfl,.inr ⟨rfl,rfl⟩⟩
  | some q=>obtain ⟨n,k⟩:=q; exact ⟨rfl,.inl ⟨rfl,rfl⟩⟩
 ·unfold aoA aoK
  rw [lK (by simp [h1]),lF h2]
  exact ⟨rfl,.inr ⟨h1,h2⟩⟩
theorem apc (b:aA) {s t:Int × Bool} (h:aq6 s t):(kO b s).1=(v9 b t).1∧aq6 (kO b s).2 (v9 b t).2:=by
 rcases h with ⟨h1,rfl⟩ | ⟨h1,h2⟩
 ·unfold kO v9 i0
  rw [lF h1,lK (by simp)]
  simp only
  cases apv b s.1 with
  | none=>exact ⟨rfl,.inr ⟨rfl,rfl⟩⟩
  | some q=>obtain ⟨n,k⟩:=q; exact ⟨rfl,.inl ⟨rfl,rfl⟩⟩
 ·unfold kO v9
  rw [lK (by simp [h1]),lF h2]
  exact ⟨rfl,.inr ⟨h1,h2⟩⟩
theorem ap8 (b:aA):kT b=ao2 b:=by
 have a1:=apA b (s:=(0,true)) (t:=(0,false)) (.inl ⟨rfl,rfl⟩)
 have a2:=apA b a1.2
 have a3:=apc b a2.2
 have a4:=apc b a3.2
 have a5:=apA b a4.2
 have a6:=apc b a5.2
 have e1:(kI b).1=(kS b).1:=a1.1
 have e2:(vI b).1=(vS b).1:=a2.1
 have e3:(pI b).1=(pS b).1:=a3.1
 have e4:(tI b).1=(tS b).1:=a4.1
 have e5:(oI b).1=(oS b).1:=a5.1
 have e6:(dI b).1=(dS b).1:=a6.1
 have eo:opI b=opS b:=by unfold opI opS; rw [e1,e2,e3,e4,e5,e6]
 have e7:aq6 (dI b).2 (dS b).2:=a6.2
 unfold kT ao2
 rw [eo,e1]
 rcases e7 with ⟨h1,h2⟩ | ⟨h1,h2⟩
 ·rw [h1,h2]
  simp
 ·rw [h1,h2]
  simp
theorem ap9 (b:aA) (hl:b.length<2^30):(kT b).1.sz≤3*b.length:=by
 have ht:∀ s,(kO b s).1.length≤b.length:=by
  intro s
  unfold kO
  split
  ·unfold i0
   cases hN:apv b s.1 with
   | none=>simp [aq4]
   | some q=>obtain ⟨n,k⟩:=q; exact (apx hN).2
  ·simp
 unfold kT
 split
 ·have h1:(pI b).1.length≤b.length:=ht _
  have h2:(tI b).1.length≤b.length:=ht _
  have h3:(dI b).1.length≤b.length:=ht _
  show (pI b).1.length+(tI b).1.length+(dI b).1.length≤3*b.length
  omega
 ·simp [zOp,Op.sz]
theorem aq7 {n:Nat} (h1:¬ n<128) (h2:n/128<128):aoB n=[UInt8.ofNat (n%128+128),UInt8.ofNat (n/128)]:=by rw [aoO h1,aoy h2]
theorem aq8 {n:Nat} (h1:¬ n<128) (h2:¬ n/128<128) (h3:n/128/128<128):aoB n=[UInt8.ofNat (n%128+128),UInt8.ofNat (n/128%128+128),UInt8.ofNat (n/128/128)]:=by rw [aoO h1,aoO h2,aoy h3]
theorem v4 {n:Nat} (h:n<256):(UInt8.ofNat n).toNat=n:=by simp; omega
theorem aoI {b l:aA} {a:Nat} (h:b.drop a=l) (i:Nat):b[a+i]?=l[i]?:=by rw [← h,lY1]
theorem apX {b l:aA} {a:Nat} (h:b.drop a=l) (hl:l≠[]):b.length=a+l.length:=by
 have:=congrArg List.length h
 rw [lH2] at this
 have h2:0<l.length:=lI3.2 hl
 omega
theorem aqp (n:Nat):aoB n≠[]:=by
 by_cases h1:n<128
 ·rw [aoy h1]; simp
 ·rw [aoO h1]; simp
theorem aq9 {b q:aA} {a n:Nat} (hn:n≤1000000) (h:b.drop a=aoB n++q):apl b a 3 0 0=some (n,a+(aoB n).length):=by
 have gl:=apX h (fun e=>aqp n (List.append_eq_nil_iff.1 e).1)
 by_cases h1:n<128
 ·rw [aoy h1] at h gl ⊢
  have e0:b[a+0]?=some (UInt8.ofNat n):=by rw [aoI h]; rfl
  obtain ⟨l0,e0⟩:=lI.1 e0
  have t0:(b[a+0]).toNat=n:=by rw [e0,v4 (by omega)]
  rw [kV l0 (by omega) (by rw [t0]; simp; omega)]
  rw [t0]; simp; omega
 ·by_cases h2:n/128<128
  ·rw [aq7 h1 h2] at h gl ⊢
   have e0:b[a+0]?=some (UInt8.ofNat (n%128+128)):=by rw [aoI h]; rfl
   have e1:b[a+1]?=some (UInt8.ofNat (n/128)):=by rw [aoI h]; rfl
   obtain ⟨l0,e0⟩:=lI.1 e0
   obtain ⟨l1,e1⟩:=lI.1 e1
   have t0:(b[a+0]).toNat=n%128+128:=by rw [e0,v4 (by omega)]
   have t1:(b[a+1]).toNat=n/128:=by rw [e1,v4 (by omega)]
   rw [v3 l0 (by omega),kV l1 (by omega) (by rw [t0,t1]; simp; omega),t0,t1]
   simp; omega
  ·have h3:n/128/128<128:=by omega
   rw [aq8 h1 h2 h3] at h gl ⊢
   have e0:b[a+0]?=some (UInt8.ofNat (n%128+128)):=by rw [aoI h]; rfl
   have e1:b[a+1]?=some (UInt8.ofNat (n/128%128+128)):=by rw [aoI h]; rfl
   have e2:b[a+2]?=some (UInt8.ofNat (n/128/128)):=by rw [aoI h]; rfl
   obtain ⟨l0,e0⟩:=lI.1 e0
   obtain ⟨l1,e1⟩:=lI.1 e1
   obtain ⟨l2,e2⟩:=lI.1 e2
   have t0:(b[a+0]).toNat=n%128+128:=by rw [e0,v4 (by omega)]
   have t1:(b[a+1]).toNat=n/128%128+128:=by rw [e1,v4 (by omega)]
   have t2:(b[a+2]).toNat=n/128/128:=by rw [e2,v4 (by omega)]
   rw [v3 l0 (by omega),v3 l1 (by omega),kV l2 (by omega) (by rw [t0,t1,t2]; simp; omega),t0,t1,t2]
   simp; omega
theorem ao4 {b q:aA} {a n:Nat} (hn:n≤1000000) (h:b.drop a=aoB n++q):rdN b a=some (n,a+(aoB n).length):=by
 rw [rdN,lF (by omega)]
 simp only [Int.toNat_natCast]
 exact aq9 hn h
theorem aqa {x:UInt8} {n:Nat} (h:x.toNat=n):x=UInt8.ofNat n:=by rw [← h]; simp
theorem ao5 {b:aA} {a:Int} {m k:Nat} (h:rdN b a=some (m,k)):∃ a':Nat,a=a'∧m≤1000000∧b.drop a'=aoB m++b.drop k∧k=a' + (aoB m).length∧k≤b.length:=by
 have ae:=ao8 h
 unfold rdN at h
 split at h
 case isFalse=>cases h
 rename_i h0
 refine ⟨a.toNat,by omega,ae.2,?_⟩
 generalize a.toNat=a' at h
 by_cases l0:a' + 0<b.length
 case neg=>rw [z0 (by omega)] at h; cases h
 have s0:b.drop a'=b[a' + 0]::b.drop (a' + 1):=lG2 l0
 have lt0:=(b[a' + 0]).toNat_lt
 by_cases g0:128≤(b[a' + 0]).toNat
 ·rw [v3 l0 g0] at h
  by_cases l1:a' + 1<b.length
  case neg=>rw [z0 (by omega)] at h; cases h
  have s1:b.drop (a' + 1)=b[a' + 1]::b.drop (a' + 1+1):=lG2 l1
  have lt1:=(b[a' + 1]).toNat_lt
  by_cases g1:128≤(b[a' + 1]).toNat
  ·rw [v3 l1 g1] at h
   by_cases l2:a' + 2<b.length
   case neg=>rw [z0 (by omega)] at h; cases h
   have s2:b.drop (a' + 1+1)=b[a' + 2]::b.drop (a' + 2+1):=lG2 l2
   have lt2:=(b[a' + 2]).toNat_lt
   by_cases g2:128≤(b[a' + 2]).toNat
   ·rw [v3 l2 g2,apl] at h; cases h
   ·by_cases c2:1000000<0+(b[a' + 0]).toNat%128*128^0+(b[a' + 1]).toNat%128*128^1+(b[a' + 2]).toNat%128*128^2∨((b[a' + 2]).toNat=0∧0<2)
    ·rw [aox l2 g2 c2] at h; cases h
    ·rw [kV l2 g2 c2] at h
     simp only [Option.some.injEq,Prod.mk.injEq] at h
     obtain ⟨hm,rfl⟩:=h
     generalize (b[a' + 0])=x0 at *
     generalize (b[a' + 1])=x1 at *
     generalize (b[a' + 2])=x2 at *
     have m1:¬ m<128:=by omega
     have m2:¬ m/128<128:=by omega
     have m3:m/128/128<128:=by omega
     rw [aq8 m1 m2 m3,s0,s1,s2]
     rw [← aqa (x:=x0) (n:=m%128+128) (by omega),← aqa (x:=x1) (n:=m/128%128+128) (by omega),← aqa (x:=x2) (n:=m/128/128) (by omega)]
     exact ⟨rfl,rfl,ae.1⟩
  ·by_cases c1:1000000<0+(b[a' + 0]).toNat%128*128^0+(b[a' + 1]).toNat%128*128^1∨((b[a' + 1]).toNat=0∧0<1)
   ·rw [aox l1 g1 c1] at h; cases h
   ·rw [kV l1 g1 c1] at h
    simp only [Option.some.injEq,Prod.mk.injEq] at h
    obtain ⟨hm,rfl⟩:=h
    generalize (b[a' + 0])=x0 at *
    generalize (b[a' + 1])=x1 at *
    have m1:¬ m<128:=by omega
    have m2:m/128<128:=by omega
    rw [aq7 m1 m2,s0,s1]
    rw [← aqa (x:=x0) (n:=m%128+128) (by omega),← aqa (x:=x1) (n:=m/128) (by omega)]
    exact ⟨rfl,rfl,ae.1⟩
 ·by_cases c0:1000000<0+(b[a' + 0]).toNat%128*128^0∨((b[a' + 0]).toNat=0∧0<0)
  ·rw [aox l0 g0 c0] at h; cases h
  ·rw [kV l0 g0 c0] at h
   simp only [Option.some.injEq,Prod.mk.injEq] at h
   obtain ⟨hm,rfl⟩:=h
   generalize (b[a' + 0])=x0 at *
   have m1:m<128:=by omega
   rw [aoy m1,s0]
   rw [← aqa (x:=x0) (n:=m) (by omega)]
   exact ⟨rfl,rfl,ae.1⟩
theorem apd {b s q:aA} {a:Nat} (hs:s.length≤1000000) (h:b.drop a=aoB s.length++(s++q)):apv b a=some (s,a+(aoB s.length).length+s.length):=by
 have hN:=ao4 hs h
 have af:a+(aoB s.length).length+s.length≤b.length:=by
  have:=apX h (fun e=>aqp _ (List.append_eq_nil_iff.1 e).1)
  simp only [lY] at this
  omega
 have hd:b.drop (a+(aoB s.length).length)=s++q:=by
  rw [← lW1,h,List.drop_left]
 rw [apv,hN,lD,lF (by simp only; omega)]
 simp only
 rw [hd,List.take_left]
theorem apB {b s:aA} {a:Int} {k:Nat} (h:apv b a=some (s,k)):∃ a':Nat,a=a'∧s.length≤1000000∧b.drop a'=aoB s.length++(s++b.drop k)∧k=a' + (aoB s.length).length+s.length∧k≤b.length:=by
 unfold apv at h
 obtain ⟨⟨m,k1⟩,h1,h⟩:=lR1.1 h
 simp only at h
 split at h
 case isFalse=>cases h
 rename_i ae
 simp only [Option.some.injEq,Prod.mk.injEq] at h
 obtain ⟨rfl,rfl⟩:=h
 obtain ⟨a',rfl,hm,hd,rfl,hk⟩:=ao5 h1
 have hsl:((b.drop (a' + (aoB m).length)).take m).length=m:=by
  rw [lT,lH2]; omega
 refine ⟨a',rfl,by omega,?_,by rw [hsl],by omega⟩
 rw [hsl,hd]
 congr 1
 have:=lJ m (b.drop (a' + (aoB m).length))
 rw [lW1] at this
 exact this.symm
theorem z9 {b x q:aA} {a:Nat} (h:b.drop a=x++q):b.drop (a+x.length)=q:=by
 rw [← lW1,h,List.drop_left]
theorem apC {b:aA} {a n k:Nat} {s:Int × Bool} (hs:s=(((a:Nat):Int),true)) (g:rdN b (a:Int)=some (n,k)):aoA b s=(((n:Nat):Int),((k:Nat):Int),true):=by
 subst hs
 rw [aoA,lF rfl,kJ,g]; rfl
theorem ape {b x:aA} {a k:Nat} {s:Int × Bool} (hs:s=(((a:Nat):Int),true)) (g:apv b (a:Int)=some (x,k)):kO b s=(x,((k:Nat):Int),true):=by
 subst hs
 rw [kO,lF rfl,i0,g]; rfl
theorem apf {b:aA} {s:Int × Bool} (h:(aoA b s).2.2=true):s.2=true∧∃ n k:Nat,rdN b s.1=some (n,k)∧aoA b s=(((n:Nat):Int),((k:Nat):Int),true):=by
 unfold aoA at *
 split at h
 ·rename_i hs
  rw [lF hs]
  refine ⟨hs,?_⟩
  unfold kJ at *
  cases e:rdN b s.1 with
  | none=>rw [e] at h; exact absurd h (by decide)
  | some q=>exact ⟨q.1,q.2,rfl,rfl⟩
 ·rename_i hs; exact absurd h hs
theorem aoY {b:aA} {s:Int × Bool} (h:(kO b s).2.2=true):s.2=true∧∃ (x:aA) (k:Nat),apv b s.1=some (x,k)∧kO b s=(x,((k:Nat):Int),true):=by
 unfold kO at *
 split at h
 ·rename_i hs
  rw [lF hs]
  refine ⟨hs,?_⟩
  unfold i0 at *
  cases e:apv b s.1 with
  | none=>rw [e] at h; exact absurd h (by decide)
  | some q=>exact ⟨q.1,q.2,rfl,rfl⟩
 ·rename_i hs; exact absurd h hs
theorem aoJ {n:Nat} (h:n≤1000000):t5 (n:Int)=n:=by
 have:=aow (n:Int); omega
theorem apD {n:Int} (h:0≤n∧n≤1000000):((t5 n:Nat):Int)=n:=by
 have:=aow n; omega
theorem apI (o:Op) (l1:o.path.length≤1000000) (l2:o.to'.length≤1000000) (l3:o.data.length≤1000000) :
  aoT o=aoB (t5 o.kind)++(aoB (t5 o.vol)++(aoB o.path.length++(o.path++(aoB o.to'.length++(o.to'++(aoB (t5 o.off)++(aoB o.data.length++(o.data++[])))))))):=by
 simp only [aoT,iE,a9,aoJ l1,aoJ l2,aoJ l3,lP2,lD1,lU2]
theorem aqq {x a b:Int} (h:inR x a b=true):a≤x∧x≤b:=by simpa [inR] using h
theorem aq2 {o:Op} (h1:inR o.kind 1 14=true) (h2:inR o.vol 0 1000000=true) (h3:inR o.off 0 1000000=true) (l1:o.path.length≤1000000) (l2:o.to'.length≤1000000) (l3:o.data.length≤1000000):kT (aoT o)=(o,true):=by
 have e0:=apI o l1 l2 l3
 generalize aoT o=b at *
 have i1:=aqq h1
 have i2:=aqq h2
 have i3:=aqq h3
 have c1:=apD (n:=o.kind) (by omega)
 have c2:=apD (n:=o.vol) (by omega)
 have c3:=apD (n:=o.off) (by omega)
 have e0:b.drop 0=_:=e0
 have g1:=ao4 (v5 _) e0
 have e1:=z9 e0
 have g2:=ao4 (v5 _) e1
 have e2:=z9 e1
 have g3:=apd l1 e2
 have e3:=z9 (z9 e2)
 have g4:=apd l2 e3
 have e4:=z9 (z9 e3)
 have g5:=ao4 (v5 _) e4
 have e5:=z9 e4
 have g6:=apd l3 e5
 have e6:=z9 (z9 e5)
 have r1:kI b=_:=apC (a:=0) rfl g1
 have r2:vI b=_:=apC (by rw [r1]) g2
 have r3:pI b=_:=ape (by rw [r2]) g3
 have r4:tI b=_:=ape (by rw [r3]) g4
 have r5:oI b=_:=apC (by rw [r4]) g5
 have r6:dI b=_:=ape (by rw [r5]) g6
 have hk:=(apx g6).1
 have hl:=congrArg List.length e6
 rw [lH2,List.length_nil] at hl
 have ho:opI b=o:=by
  rw [opI,r1,r2,r3,r4,r5,r6]
  simp only [c1,c2,c3]
 rw [kT,lF,ho]
 rw [r6,r1]
 refine ⟨?_,by simp only [c1]; exact h1⟩
 simp only [lV4,decide_eq_true_eq]
 omega
theorem aqN {c:aA} (h:(kT c).2=true):aoU (kT c).1=c:=by
 unfold kT at *
 split at h
 ·rename_i hc
  rw [lF hc]
  obtain ⟨hd,hk⟩:=hc
  simp only [lN,decide_eq_true_eq] at hd
  obtain ⟨s6,x6,k6,g6,r6⟩:=aoY (b:=c) (s:=(oI c).2) hd.1
  obtain ⟨s5,n5,k5,g5,r5⟩:=apf (b:=c) (s:=(tI c).2) s6
  obtain ⟨s4,x4,k4,g4,r4⟩:=aoY (b:=c) (s:=(pI c).2) s5
  obtain ⟨s3,x3,k3,g3,r3⟩:=aoY (b:=c) (s:=(vI c).2) s4
  obtain ⟨s2,n2,k2,g2,r2⟩:=apf (b:=c) (s:=(kI c).2) s3
  obtain ⟨s1,n1,k1,g1,r1⟩:=apf (b:=c) (s:=(0,true)) s2
  have r1:kI c=_:=r1
  have r2:vI c=_:=r2
  have r3:pI c=_:=r3
  have r4:tI c=_:=r4
  have r5:oI c=_:=r5
  have r6:dI c=_:=r6
  rw [r5] at g6
  rw [r4] at g5
  rw [r3] at g4
  rw [r2] at g3
  rw [r1] at g2
  obtain ⟨a1,b1,m1,d1,p1,q1⟩:=ao5 g1
  obtain ⟨a2,b2,m2,d2,p2,q2⟩:=ao5 g2
  obtain ⟨a3,b3,m3,d3,p3,q3⟩:=apB g3
  obtain ⟨a4,b4,m4,d4,p4,q4⟩:=apB g4
  obtain ⟨a5,b5,m5,d5,p5,q5⟩:=ao5 g5
  obtain ⟨a6,b6,m6,d6,p6,q6⟩:=apB g6
  obtain rfl:a1=0:=by simp only at b1; omega
  obtain rfl:k1=a2:=by simp only at b2; omega
  obtain rfl:k2=a3:=by simp only at b3; omega
  obtain rfl:k3=a4:=by simp only at b4; omega
  obtain rfl:k4=a5:=by simp only at b5; omega
  obtain rfl:k5=a6:=by simp only at b6; omega
  have he:k6=c.length:=by rw [r6] at hd; have:=hd.2; simp only at this; omega
  have hz:c.drop k6=[]:=lH4 (by omega)
  have hop:opI c={ kind:=((n1:Nat):Int),vol:=((n2:Nat):Int),path:=x3,to':=x4,off:=((n5:Nat):Int),data:=x6 }:=by
   rw [opI,r1,r2,r3,r4,r5,r6]
  rw [r1] at hk
  rw [hop]
  rw [ao3 hk (by simp only [inR,decide_eq_true_eq]; omega) (by simp only [inR,decide_eq_true_eq]; omega),apI _ m3 m4 m6]
  simp only [aoJ m1,aoJ m2,aoJ m5]
  rw [hz] at d6
  rw [← d6,← d5,← d4,← d3,← d2,← d1]
  rfl
 ·exact absurd h (by decide)
theorem apg {o:Op} (h:aix o):(aoU o).length≤1000:=by
 obtain ⟨h1,h2,h3⟩:=h
 unfold aoU
 split
 ·have a1:=kC [] o.kind
  have a2:=kC (a9 [] o.kind) o.vol
  have a3:=t9 (a9 (a9 [] o.kind) o.vol) o.path
  have a4:=t9 (iE (a9 (a9 [] o.kind) o.vol) o.path) o.to'
  have a5:=kC (iE (iE (a9 (a9 [] o.kind) o.vol) o.path) o.to') o.off
  have a6:=t9 (a9 (iE (iE (a9 (a9 [] o.kind) o.vol) o.path) o.to') o.off) o.data
  simp only [List.length_nil] at a1
  unfold aoT
  omega
 ·simp
theorem apE {o:Op} (h:aix o):o.sz<2^30:=by
 have e:o.sz=o.path.length+o.to'.length+o.data.length:=rfl
 obtain ⟨h1,h2,h3⟩:=h
 omega
theorem aqO (B:aA) (m:Nat) (x:Nat) (hx:x<256) (hm:m<B.length):(aM B).modify m (fun r=>TV.int .u8 (x:Int)::r.drop 1)=aM (B.set m (UInt8.ofNat x)):=by
 refine anZ (fun c:UInt8=>[TV.int .u8 (c.toNat:Int)]) hm (UInt8.ofNat x) ?_
 have:(UInt8.ofNat x).toNat=x:=by simp; omega
 simp only [this,List.drop_succ_cons,List.drop_zero]
theorem apS (v:Value) (b:aA) (hl:b.length<2^48):∃ c:aA,c.length≤1001∧bR Tryz.prog 12 [.extv v 1 (aM b)] (.own 1 (aM c)) [.undef]:=by
 obtain ⟨h0,k0⟩:=anW v b hl
 obtain ⟨f,i1,h1,hf,ad,k1⟩:=anH v b 0 h0 4 hl (by omega) (by omega)
 have zf:=akF hf
 obtain ⟨o,i2,h2,ho,ab,k2⟩:=anv v b i1 h1 f hl ad (by omega)
 have kP:=apV o (apE ho)
 have hB:=apg ho
 generalize aoU o=B at *
 by_cases e:B=[]
 ·subst e
  refine ⟨[],by simp,?_⟩
  unfold cur at *
  refine Vw kU [(999999,[],[(3,0)]),(45,[.l,.b],[]),(49,[.l,.b],[]),(51,[.l,.b],[]),(50,[.l,.b],[])] 131101 [] fun w hP hQ=>?_
  refine Kd (k0) ?_
  refine Kd (k1) ?_
  refine Kd (k2) ?_
  exact Kd (kP) trivial
 have hp:=lI3.2 e
 have d0:decide ((B.length:Int)=0)=false:=lC (by omega)
 obtain ⟨n,i3,h3,hn,aa,k3⟩:=gR v b i2 h2 5 hl ab (by omega)
 have hc:n=0∨n=1∨n=2∨2<n:=by omega
 rcases hc with rfl | rfl | rfl | hc
 ·obtain ⟨m,i4,h4,hm,hi4,k4⟩:=gR v b i3 h3 B.length hl aa (by omega)
  have hm':(m:Int)<(B.length:Nat):=by rw [uI,lF (by omega)] at hm; exact hm
  obtain ⟨x,i5,h5,hx,hi5,k5⟩:=dP v b i4 h4 [0,1,2,97,128] hl hi4 (by simp) (by simp)
  have hxb:0≤x∧x<256:=by
   simp only [lG,lS4,or_false] at hx
   omega
  obtain ⟨q,rfl⟩:=Int.eq_ofNat_of_zero_le hxb.1
  have hw:=aqX q (by omega)
  refine ⟨B.set m (UInt8.ofNat q),by rw [List.length_set]; omega,?_⟩
  have hr:=aqO B m q (by omega) (by omega)
  unfold cur at *
  simp only [gQ,lO,lH1] at k5
  refine Vw kU [(999999,[],[(3,0)]),(45,[.l,.b],[]),(49,[.l,.b],[]),(51,[.l,.b],[]),(50,[.l,.b],[])] 131101 [] fun w hP hQ=>?_
  refine Kd (k0) ?_
  refine Kd (k1) ?_
  refine Kd (k2) ?_
  have hz:=And.intro jT d0
  refine Kdz (kP) ?_
  have hz:=jT
  refine Kdz (k3) ?_
  refine Kd (k4) ?_
  have hz:=And.intro hw (And.intro jT hr)
  exact Kdz (k5) trivial
 ·obtain ⟨m,i4,h4,hm,hi4,k4⟩:=gR v b i3 h3 B.length hl aa (by omega)
  have hm':(m:Int)<(B.length:Nat):=by rw [uI,lF (by omega)] at hm; exact hm
  have hml:m≤B.length:=by omega
  have ag:(m:Int)≤(B.length:Nat):=by omega
  refine ⟨B.take m,by rw [lT]; omega,?_⟩
  unfold cur at *
  refine Vw kU [(999999,[],[(3,0)]),(45,[.l,.b],[]),(49,[.l,.b],[]),(51,[.l,.b],[]),(50,[.l,.b],[])] 131101 [] fun w hP hQ=>?_
  refine Kd (k0) ?_
  refine Kd (k1) ?_
  refine Kd (k2) ?_
  have hz:=And.intro jT d0
  refine Kdz (kP) ?_
  have hz:=jT
  refine Kdz (k3) ?_
  have hz:=And.intro jT (And.intro hml (And.intro ag aft))
  refine Kdz (k4) ?_
  rw [show ((m:Int)-0).toNat=m by omega]
 ·refine ⟨B++[0],by simp; omega,?_⟩
  unfold cur at *
  refine Vw kU [(999999,[],[(3,0)]),(45,[.l,.b],[]),(49,[.l,.b],[]),(51,[.l,.b],[]),(50,[.l,.b],[])] 131101 [] fun w hP hQ=>?_
  refine Kd (k0) ?_
  refine Kd (k1) ?_
  refine Kd (k2) ?_
  have hz:=And.intro jT d0
  refine Kdz (kP) ?_
  refine Kd (k3) ?_
  exact congrArg (AV.own 1) (by simp [aM])
 ·refine ⟨B,by omega,?_⟩
  have w0:decide ((n:Int)=0)=false:=lC (by omega)
  have w1:decide ((n:Int)=1)=false:=lC (by omega)
  have w2:decide ((n:Int)=2)=false:=lC (by omega)
  unfold cur at *
  refine Vw kU [(999999,[],[(3,0)]),(45,[.l,.b],[]),(49,[.l,.b],[]),(51,[.l,.b],[]),(50,[.l,.b],[])] 131101 [] fun w hP hQ=>?_
  refine Kd (k0) ?_
  refine Kd (k1) ?_
  refine Kd (k2) ?_
  have hz:=And.intro jT d0
  refine Kdz (kP) ?_
  have hz:=And.intro w0 (And.intro w1 w2)
  exact Kdz (k3) trivial
theorem aph (b:aA) (hl:b.length<2^40):bR Tryz.prog 15 [.ext 1 (aM b),.ext 1 (aM b)] (.bool true) [.undef,.undef]:=by
 have:=apP b b hl
 rwa [lM rfl] at this
theorem aq3 (b:aA) (hf:b.length<2^48):bR Tryz.prog 3 [.ext 1 (aM b)] (.bool true) [.undef]:=by
 refine ag6 fun a len cap ha=>?_
 generalize hv:Value.slice a len cap=v
 have hB:=anI (v:=v) (aor b hf)
 cases hz:decide ((1048576:Int)<(b.length:Nat)) with
 | true=>
  rw [hz] at hB
  refine Vw aoC [] 3837 [] fun w hP hQ=>?_
  exact K (hB) trivial
 | false=>
  rw [hz] at hB
  obtain ⟨o,ho,k1⟩:=apQ v b hf
  obtain ⟨c,hc,k2⟩:=apS v b hf
  have kP:=apU o (apE ho)
  have kQ:=apV o (apE ho)
  have kG:=apW c (by omega)
  have kH:=aqM c (by omega)
  rw [← ap8 c] at kH
  have af:=ap9 c (by omega)
  have kY:=apU (kT c).1 (by omega)
  have kZ:=aph c (by omega)
  have hY:=fun h=>aqN (c:=c) h
  have hbl:=apg ho
  have kE:=aph (aoU o) (by omega)
  have kB:=apW (aoU o) (by omega)
  have kD:=aph o.data (by have:=ho.2.2; omega)
  have ac:aoU o=[]∨kT (aoU o)=(o,true):=by
   by_cases hh:inR o.kind 1 14=true∧inR o.vol 0 1000000=true∧inR o.off 0 1000000=true
   ·right
    rw [ao3 hh.1 hh.2.1 hh.2.2]
    exact aq2 hh.1 hh.2.1 hh.2.2 (by have:=ho.1; omega) (by have:=ho.2.1; omega) (by have:=ho.2.2; omega)
   ·left; exact aoz hh
  cases hi:(kT c).2 with
  | true=>
   rw [hY hi] at kY
   rw [hi] at kG kH
   generalize (kT c).1=y at *
   rcases ac with e | e
   ·rw [e] at kP kQ kE kB
    generalize kT []=z at *
    refine Vw aoC [] 3837 [] fun w hP hQ=>?_
    refine K (hB) ?_
    refine K (k1) ?_
    refine K (kP) ?_
    refine K (k2) ?_
    refine K (kG) ?_
    refine K (kH) ?_
    refine K (kY) ?_
    refine K (kZ) ?_
    refine K (kQ) ?_
    refine K (kE) ?_
    exact K (kB) trivial
   ·rw [e] at kB
    generalize aoU o=B at *
    refine Vw aoC [] 3837 [] fun w hP hQ=>?_
    refine K (hB) ?_
    refine K (k1) ?_
    refine K (kP) ?_
    refine K (k2) ?_
    refine K (kG) ?_
    refine K (kH) ?_
    refine K (kY) ?_
    refine K (kZ) ?_
    refine K (kQ) ?_
    refine K (kE) ?_
    have hz:=jT
    refine Kz (kB) ?_
    refine Jg (fun g=>?_) fun g=>?_
    ·have hz:=g
     exact Nz trivial
    ·have hz:=g
     refine Nz ?_
     exact K (kD) trivial
  | false=>
   rw [hi] at kG kH
   generalize (kT c).1=y at *
   rcases ac with e | e
   ·rw [e] at kP kQ kE kB
    generalize kT []=z at *
    refine Vw aoC [] 3837 [] fun w hP hQ=>?_
    refine K (hB) ?_
    refine K (k1) ?_
    refine K (kP) ?_
    refine K (k2) ?_
    refine K (kG) ?_
    refine K (kH) ?_
    refine K (kQ) ?_
    refine K (kE) ?_
    exact K (kB) trivial
   ·rw [e] at kB
    generalize aoU o=B at *
    refine Vw aoC [] 3837 [] fun w hP hQ=>?_
    refine K (hB) ?_
    refine K (k1) ?_
    refine K (kP) ?_
    refine K (k2) ?_
    refine K (kG) ?_
    refine K (kH) ?_
    refine K (kQ) ?_
    refine K (kE) ?_
    have hz:=jT
    refine Kz (kB) ?_
    refine Jg (fun g=>?_) fun g=>?_
    ·have hz:=g
     exact Nz trivial
    ·have hz:=g
     refine Nz ?_
     exact K (kD) trivial
section
open Go.Proofs Go.Proofs.YtnfeefcnblondaaGreat
theorem aqP:(Rows.fnOpsRow.wf (OpenSpec.ofChange Rows.fnOpsSpec))=true:=by kernel_rfl
theorem aqQ:(Tryz.f3.params.all (Tryz.prog.readableRec ·))=true:=by kernel_rfl
theorem aqR:(namedTie Tryz.prog Rows.fnOpsRow.named Rows.fnOpsSpec.vars)=true:=by kernel_rfl
theorem aqS:((Rows.fnOpsRow.stops == []))=true:=by kernel_rfl
theorem aqT:((Rows.fnOpsRow.knobs == []))=true:=by kernel_rfl
theorem aqU:((Rows.fnOpsRow.inPlace == Tryz.prog.inPlace 3))=true:=by kernel_rfl
theorem aqr:((Rows.fnOpsRow.unfollowed == Tryz.prog.unfollowed 3))=true:=by kernel_rfl
theorem aqs:((Rows.fnOpsRow.recurses == Tryz.prog.recurses 3))=true:=by kernel_rfl
theorem aqt:((Rows.fnOpsRow.named == Tryz.prog.varsNamed 3))=true:=by kernel_rfl
theorem aqu:((Rows.fnOpsRow.maps == (Tryz.f3.params.toList++Rows.fnOpsSpec.plain.varTypes Tryz.prog).any (Tryz.prog.mapsRec ·)))=true:=by kernel_rfl
theorem aqv:((Rows.fnOpsRow.ifaces == (Tryz.f3.params.toList++Rows.fnOpsSpec.plain.varTypes Tryz.prog).any (Tryz.prog.ifacesRec ·)))=true:=by kernel_rfl
theorem aqw:((Rows.fnOpsRow.mapsOut == Tryz.prog.mapsAmong Tryz.f3.resultTypes.toList))=true:=by kernel_rfl
theorem aqx:((Rows.fnOpsRow.loops == (Tryz.f3.params.toList++Rows.fnOpsSpec.plain.varTypes Tryz.prog).any (Tryz.prog.loopsFrom ·)))=true:=by kernel_rfl
theorem aqy:((Rows.fnOpsRow.wideKeys == (Tryz.f3.params.toList++Rows.fnOpsSpec.plain.varTypes Tryz.prog++Tryz.f3.resultTypes.toList).any (Tryz.prog.wideKeysFrom ·)))=true:=by kernel_rfl
theorem aqz:(Rows.fnOpsSpec.vars.all (Tryz.prog.varReadable ·))=true:=by kernel_rfl
theorem aqA:(Tryz.f3.resultTypes.all (fun t=>Tryz.prog.readableRec t && decide (t<Tryz.prog.types.size)))=true:=by kernel_rfl
theorem aqB:((Rows.fnOpsRow.ifacesOut == Tryz.f3.resultTypes.toList.any (Tryz.prog.ifacesRec ·)))=true:=by kernel_rfl
theorem aqC:((Rows.fnOpsRow.loopsOut == Tryz.f3.resultTypes.toList.any (Tryz.prog.loopsFrom ·)))=true:=by kernel_rfl
theorem aqD:((Rows.fnOpsRow.plainKeys == Tryz.prog.plainKeys))=true:=by kernel_rfl
theorem aqE:(Rows.fnOpsRow.shortTexts.isNone)=true:=by kernel_rfl
theorem aqF:((Rows.fnOpsRow.kinds == (if Rows.fnOpsRow.domain.isEmpty then [] else Tryz.f3.params.toList.map fun t=>match Tryz.prog.underlying t with | some (.int k)=>some k | _=>none)))=true:=by kernel_rfl
theorem aqG:((Rows.fnOpsRow.pinned == Rows.fnOpsRow.pinnedBy))=true:=by kernel_rfl
theorem aqH:((Rows.fnOpsRow.veiled == (Tryz.f3.params.toList++Rows.fnOpsSpec.plain.varTypes Tryz.prog++Tryz.f3.resultTypes.toList).any (Tryz.prog.veiledRec ·)))=true:=by kernel_rfl
theorem aqI:(Rows.fnOpsRow.veiledFits Tryz.prog Tryz.f3.params.toList (Tryz.f3.params.toList++Rows.fnOpsSpec.plain.varTypes Tryz.prog++Tryz.f3.resultTypes.toList))=true:=by kernel_rfl
theorem aqV:joinedFacts Tryz.prog 3 Tryz.f3 Rows.fnOpsSpec Rows.fnOpsRow=true:=
 anf aqP aof aog aqQ aqR aqS an2 aqT an3 aqU aqr aqs aqt aqu aqv aqw aqx aqy aqz aqA aqB aqC aqD aqE an4 an5 an6 aoh aqF aqG aqH aqI
theorem aqb (os:Os) (started:os.Started) (H:Type) (enc:TypeId × Value→H) :
  ReturnsInHanded {} Tryz.checked os 3 .any (Rows.fnOpsSpec.pre6 enc Tryz.prog Tryz.f3 Rows.fnOpsRow.domain false) (Rows.fnOpsSpec.post enc Tryz.prog Tryz.f3 false true false false):=by
 refine law_returns (C:=Tryz.checked) (pars:=[(false,[.sl 1 [.int .u8]])]) own started (by kernel_rfl) Tryz.func3
  (ChangeSpec.witness6 (enc:=enc) (C:=Tryz.checked) false ⟨#[],#[.slice none 0 0],[]⟩ 8 (by kernel_rfl) (by kernel_rfl) (by kernel_rfl) (by kernel_rfl))
  rfl (by kernel_rfl) rfl (by kernel_rfl) ?_ ?_
 ·intro ds hd
  match ds,hd with
  | [d0],_=>rfl
 ·intro tss h
  match tss,h with
  | [t0],⟨h0,_⟩=>
   obtain ⟨r0,u0,rfl,l0,e0,k0⟩:=Shp.sl_inv h0
   obtain rfl:=Shp.nil_inv k0
   obtain ⟨x0,rfl⟩:=amF e0
   exact ⟨_,aq3 x0 (an0 l0)⟩
theorem aqW:Tryz.f3.isWrapper Tryz.prog Rows.fnOpsRow.wrapper Rows.fnOpsRow.mainSum:=by
 unfold Func.isWrapper; first | (rw [if_pos (by decide +kernel)]; kernel_rfl) | (rw [if_neg (by decide +kernel)]; exact ⟨rfl,rfl⟩)
theorem law_FnOps:Rows.FnOpsSaid:=
 OpenClaim.holds_of_wide 3 Tryz.f3 rfl rfl rfl rfl rfl rfl rfl ⟨rfl,rfl,rfl,rfl,rfl⟩ rfl rfl rfl rfl rfl (by kernel_rfl) Tryz.func3 aqV
  (of_decide_eq_true (by kernel_rfl)) aqW
  (fun os started H enc _=>aqb os started H enc)
end
end Go.Proofs.YtnfeefcnblondaaGreat.Awp

namespace Go.Proofs.YtnfeefcnblondaaGreat
/-- the given statement -/
theorem provedFnOps : Rows.FnOpsSaid := Awp.law_FnOps
end Go.Proofs.YtnfeefcnblondaaGreat
#print axioms Go.Proofs.YtnfeefcnblondaaGreat.provedFnOps
