/- The law FnFss (a drawn file system is right; of bent ones each is so just as the document has it) holds for every argument: the given statement is proved. Condition: none. -/
import Derived.Test.YtnfeefcnblondaaGreatBase2
import Derived.Test.YtnfeefcnblondaaGreatAwp4
import Derived.Test.YtnfeefcnblondaaGreatRows
import Derived.Sort.Walk0
import Derived.Shelf.Strings.Search3
import Derived.Shelf.Strings.Count
import Derived.Shelf.Strings.OnBuilder
import Derived.Shelf.Lays
import Derived.Shelf.Sort.Plain
import Derived.Shelf.Slices.In.SortNone
import Derived.Shelf.RegionOpenPlain
import Derived.WalkKit
import Derived.Deep.MidRow
import Derived.Deep.LoopGhost
import Derived.Deep.RegionLaw
import Derived.Lib.Walk
import Derived.Sort.WalkB12
import Derived.OpenShut
import Derived.KernelRfl
set_option linter.unusedVariables false
set_option linter.unusedSimpArgs false
set_option maxRecDepth 100000
set_option maxHeartbeats 20000000
open Nat (reduceEqDiff reduceAdd reduceMul reduceSub)
open Int (reduceNeg reduceToNat reducePow)
namespace Go.Proofs.YtnfeefcnblondaaGreat.Awp
section
namespace W
end W
open I W
abbrev ap3:Cmd:=Q (R [e' 2 k0]) (Q (Q (R [a 8 0,c 9 9 [v 8]]) (F (v 9) (Q (R [e' 2 k1]) .ret) .skip)) (Q (R [a 11 0,c 12 37 [v 11],a 10 12,x 13 10 0,x 14 10 1,z 3 [.sl 6 [],.int .i64 0],z 4 [.int .i64 0,.int .i64 0,.str [],.str [],.int .i64 0,.sl 1 []],s 3 13 2,s 4 14 6]) (Q (R [a 15 0,c 16 38 [v 15],z 5 [.sl 6 [],.int .i64 0],s 5 16 2]) (Q (R [a 18 0,c 19 39 [v 18],a 17 19,x 20 17 0,x 21 17 1,z 6 [.sl 6 [],.int .i64 0],z 7 [.sl 6 [],.int .i64 0],s 6 20 2,s 7 21 2]) (Q (D [0,1,3,7,15,7,63,127,255,511,1023,1023,4095,1023,1023,32767,65535,131071,262143,524287,524287,2097151,4194303,8388607,16777215,33554431,67108863,134217727,268435455,536870911,1073741823,2147483647,4294967295,8589934591] [b 22 3 2,c 23 23 [v 22],a 24 23,hb 24 true 25 5 2,hc 24 true 26 23 [v 25],hb 24 true 27 5 2,hc 24 true 28 40 [v 27],h 24 true 29 (beq 29 false (v 26) (v 28)),p 30 24 (v 29) k0,a 31 30,hb 31 true 32 6 2,hb 31 true 33 7 2,hc 31 true 34 21 [v 32,v 33],hb 31 true 35 6 2,hb 31 true 36 7 2,hc 31 true 37 41 [v 35,v 36],h 31 true 38 (beq 38 false (v 34) (v 37)),p 39 31 (v 38) k0,a 40 39,hb 40 true 41 6 2,hb 40 true 42 6 2,hc 40 true 43 21 [v 41,v 42],p 44 40 (v 43) k0,a 45 44,hc 45 true 46 42 [],hc 45 true 47 23 [v 46],p 48 45 (v 47) k0,a 49 48,hc 49 true 50 42 [],h 49 true 51 (fldv 51 (v 50) 0 1 false),h 49 true 52 (len 52 (v 51)),h 49 true 53 (bin 53 .eql (v 52) (k 0)),p 54 49 (v 53) k0,e 2 54]) .ret)))))
abbrev apH:Cmd:=Q (R [n 2 (box 2 (v 0)),n 3 (box 3 (v 1)),e' 4 k0]) (Q (R [f 5 2 1,b' 6 5 1,f 7 3 1,b' 8 7 1,g 9 .eql (v 6) (v 8),a 10 9,h 10 true 11 (fld 11 (v 2) 0),h 10 true 12 (ld 12 (v 11) 1 false),h 10 true 13 (fld 13 (v 3) 0),h 10 true 14 (ld 14 (v 13) 1 false),hc 10 true 15 69 [v 12,v 14,.c (.fn 70 [])],p 16 10 (v 15) k0,e 4 16]) .ret)
abbrev apd:Cmd:=Q (R [n 1 (box 1 (v 0)),e' 2 (k 0)]) (Q (R [e' 3 (k 0)]) (Q (Q (R [f 8 1 0,b' 9 8 1,l 10 9,n 11 (mov 11 (k 0))]) (.blk 0 (.loop (Q (R [g 12 .lss (v 11) (v 10)]) (Q (F (v 12) .skip (.exit 0)) (Q (.blk 1 (Q (R [i 13 9 11 6,b 14 13 6,z 5 [.int .i64 0,.int .i64 0,.int .i64 0,.sl 1 [],.sl 2 [],.sl 2 []],s 5 14 6]) (Q (R [a 15 3,f 16 5 3,b' 17 16 1,l 18 17,g 19 .add (k 32) (v 18),g 20 .add (v 15) (v 19),e 3 20]) (Q (R [f 21 5 5,b' 22 21 1,l 23 22,n 24 (mov 24 (k 0))]) (.blk 2 (.loop (Q (R [g 25 .lss (v 24) (v 23)]) (Q (F (v 25) .skip (.exit 2)) (Q (.blk 3 (Q (R [i 26 22 24 2,b 27 26 2,z 7 [.str [],.str []],s 7 27 2]) (R [a 28 3,f 29 7 0,b' 30 29 1,n 31 (lens 31 (v 30)),f 32 7 1,b' 33 32 1,n 34 (lens 34 (v 33)),g 35 .add (v 31) (v 34),g 36 .add (v 28) (v 35),e 3 36]))) (R [g 37 .add (v 24) (k 1),a 24 37])))))))))) (R [g 38 .add (v 11) (k 1),a 11 38]))))))) (Q (R [a 39 3,e 2 39]) .ret)))
abbrev aqy:Cmd:=Q (R [n 1 (box 1 (v 0)),e' 2 k0]) (Q (Q (R [f 5 1 0,b' 6 5 1,l 7 6,g 8 .gtr (v 7) (k 6),a 9 8,h 9 false 10 (fld 10 (v 1) 1),h 9 false 11 (ld 11 (v 10) 1 false),hc 9 false 12 46 [v 11,k 1,k 99],h 9 false 13 (un 13 .not (v 12)),p 14 9 k1 (v 13)]) (F (v 14) (Q (R [e' 2 k0]) .ret) .skip)) (Q (Q (R [f 15 1 0,b' 16 15 1,l 17 16,n 18 (mov 18 (k 0))]) (.blk 0 (.loop (Q (R [g 19 .lss (v 18) (v 17)]) (Q (F (v 19) .skip (.exit 0)) (Q (.blk 1 (Q (R [a 20 18,i 21 16 18 6,b 22 21 6,z 4 [.int .i64 0,.str [],.bool false,.int .i64 0,.sl 6 [],.int .i64 0],e 3 20,s 4 22 6]) (Q (D [0,1,3,7,15,31,15,79,255,511,1023,2047,4095,8191,16383,32767,16383,81919,262143,524287,1048575,16383,2113535,8388607,16777215,33554431,67108863,134217727,268435455,536870911,1073741823,2147483647,4294967295,8589934591,8589934591,25769803775,68719476735,8589934591,274877906943,549755813887,1099511627775,2199023255551,4398046511103,8796093022207,17592186044415,35184372088831,70368744177663,140737488355327,281474976710655,562949953421311,1125899906842623,2251799813685247,4503599627370495,9007199254740991,18014398509481983,36028797018963967,9007199254740991,81064793292668927,288230376151711743,576460752303423487] [f 23 4 0,b' 24 23 1,g 25 .lss (v 24) (k 1),a 26 25,h 26 false 27 (fld 27 (v 4) 0),h 26 false 28 (ld 28 (v 27) 1 false),h 26 false 29 (fld 29 (v 1) 1),h 26 false 30 (ld 30 (v 29) 1 false),h 26 false 31 (bin 31 .geq (v 28) (v 30)),p 32 26 k1 (v 31),a 33 32,ha 33 false 34 3,h 33 false 35 (bin 35 .gtr (v 34) (k 0)),ha 33 false 36 35,h 36 true 37 (fld 37 (v 1) 0),h 36 true 38 (ld 38 (v 37) 1 false),ha 36 true 39 3,h 36 true 40 (bin 40 .sub (v 39) (k 1)),h 36 true 41 (idx 41 (v 38) (v 40) 6),h 36 true 42 (fld 42 (v 41) 0),h 36 true 43 (ld 43 (v 42) 1 false),h 36 true 44 (fld 44 (v 4) 0),h 36 true 45 (ld 45 (v 44) 1 false),h 36 true 46 (bin 46 .geq (v 43) (v 45)),h 33 false 47 (pck 47 (v 36) (v 46) k0),p 48 33 k1 (v 47),a 49 48,h 49 false 50 (fld 50 (v 4) 1),h 49 false 51 (ld 51 (v 50) 1 false),hc 49 false 52 71 [v 51],h 49 false 53 (un 53 .not (v 52)),p 54 49 k1 (v 53),a 55 54,hb 55 false 56 1 2,h 55 false 57 (fld 57 (v 4) 1),h 55 false 58 (ld 58 (v 57) 1 false),hc 55 false 59 28 [v 56,v 58],ha 55 false 60 3,h 55 false 61 (bin 61 .neq (v 59) (v 60)),p 62 55 k1 (v 61),a 63 62,h 63 false 64 (fld 64 (v 4) 3),h 63 false 65 (ld 65 (v 64) 1 false),hc 63 false 66 63 [v 65],h 63 false 67 (un 67 .not (v 66)),p 68 63 k1 (v 67),a 69 68,h 69 false 70 (fld 70 (v 4) 4),hb 69 false 71 70 2,hc 69 false 72 72 [v 71],h 69 false 73 (un 73 .not (v 72)),p 74 69 k1 (v 73),a 75 74,h 75 false 76 (fld 76 (v 4) 4),hb 75 false 77 76 2,hc 75 false 78 22 [v 77],h 75 false 79 (fld 79 (v 4) 3),h 75 false 80 (ld 80 (v 79) 1 false),h 75 false 81 (bin 81 .gtr (v 78) (v 80)),p 82 75 k1 (v 81)]) (F (v 82) (Q (R [e' 2 k0]) .ret) .skip)))) (R [g 83 .add (v 18) (k 1),a 18 83]))))))) (Q (R [e' 2 k1]) .ret)))
abbrev ape:Cmd:=Q (R [n 2 (box 2 (v 0)),n 3 (box 3 (v 1)),e' 4 k0]) (Q (R [f 5 2 1,b' 6 5 1,f 7 3 1,b' 8 7 1,g 9 .eql (v 6) (v 8),a 10 9,h 10 true 11 (fld 11 (v 2) 0),h 10 true 12 (ld 12 (v 11) 1 false),h 10 true 13 (fld 13 (v 3) 0),h 10 true 14 (ld 14 (v 13) 1 false),hc 10 true 15 73 [v 12,v 14,.c (.fn 74 [])],p 16 10 (v 15) k0,e 4 16]) .ret)
abbrev ao0:Cmd:=Q (R [n 2 (box 2 (v 0)),n 3 (box 3 (v 1)),e' 4 (k 0)]) (Q (R [f 5 2 0,b' 6 5 1,n 7 (mkf 7 80 [v 3]),c 8 67 [v 6,v 7],e 4 8]) .ret)
abbrev apI:Cmd:=Q (R [z 2 [.sl 6 [],.int .i64 0],z 3 [.int .i64 0,.int .i64 0,.str [],.str [],.int .i64 0,.sl 1 []]]) (Q (R [a 6 0,c 7 43 [v 6],e 4 7]) (Q (R [a 8 4,a 9 0,c 10 61 [v 9,k 24],g 11 .add (k 8) (v 10),c 12 45 [v 8,v 11],z 5 [.sl 6 [],.int .i64 0],s 5 12 2]) (Q (D [0,0,0,6,15,31] [b 13 5 2,a 14 4,b 15 5 2,c 16 49 [v 14,v 15],s 2 13 2,s 3 16 6]) .ret)))
abbrev ao1:Cmd:=Q (R [z 2 [.sl 6 [],.int .i64 0]]) (Q (R [a 4 0,c 5 43 [v 4],e 3 5]) (Q (R [a 6 3,a 7 0,c 8 61 [v 7,k 12],c 9 60 [v 6,v 8],s 2 9 2]) .ret))
abbrev aov:Cmd:=Q (R [z 2 [.sl 6 [],.int .i64 0],z 3 [.sl 6 [],.int .i64 0]]) (Q (R [a 8 0,c 9 43 [v 8],e 4 9]) (Q (R [a 10 4,c 11 60 [v 10,k 10],z 5 [.sl 6 [],.int .i64 0],s 5 11 2]) (Q (Q (R [a 12 4,c 13 84 [v 12,k 2]]) (F (v 13) (Q (D [0,0,2,7,15] [b 14 5 2,b 15 5 2,c 16 64 [v 15],s 2 14 2,s 3 16 2]) .ret) .skip)) (Q (D [0,0,0,6,15,31,63,127,0,383,1023] [b 18 5 2,a 19 4,b 20 5 2,c 21 49 [v 19,v 20],c 22 85 [v 18,v 21],a 17 22,x 23 17 0,x 24 17 1,z 6 [.sl 6 [],.int .i64 0],s 6 23 2,e 7 24]) (Q (D [0,0,1,7] [b 25 5 2,b 26 6 2,s 2 25 2,s 3 26 2]) .ret)))))
abbrev apJ:Cmd:=Q (R [n 2 (box 2 (v 0)),n 3 (box 3 (v 1)),e' 4 k0]) (Q (Q (R [f 8 2 1,b' 9 8 1,f 10 3 1,b' 11 10 1,g 12 .neq (v 9) (v 11),a 13 12,h 13 false 14 (fld 14 (v 2) 0),h 13 false 15 (ld 15 (v 14) 1 false),h 13 false 16 (len 16 (v 15)),h 13 false 17 (fld 17 (v 3) 0),h 13 false 18 (ld 18 (v 17) 1 false),h 13 false 19 (len 19 (v 18)),h 13 false 20 (bin 20 .neq (v 16) (v 19)),p 21 13 k1 (v 20)]) (F (v 21) (Q (R [e' 4 k0]) .ret) .skip)) (Q (Q (R [e' 5 (k 0)]) (.blk 0 (.loop (Q (Q (R [a 22 5,f 23 2 0,b' 24 23 1,l 25 24,g 26 .lss (v 22) (v 25)]) (F (v 26) .skip (.exit 0))) (Q (.blk 1 (Q (R [f 29 2 0,b' 30 29 1,a 31 5,i 32 30 31 6,b 33 32 6,z 6 [.int .i64 0,.str [],.bool false,.int .i64 0,.sl 6 [],.int .i64 0],s 6 33 6]) (Q (R [f 34 3 0,b' 35 34 1,a 36 5,i 37 35 36 6,b 38 37 6,z 7 [.int .i64 0,.str [],.bool false,.int .i64 0,.sl 6 [],.int .i64 0],s 7 38 6]) (Q (R [f 39 6 0,b' 40 39 1,f 41 7 0,b' 42 41 1,g 43 .neq (v 40) (v 42),a 44 43,h 44 false 45 (fld 45 (v 6) 1),h 44 false 46 (ld 46 (v 45) 1 false),h 44 false 47 (fld 47 (v 7) 1),h 44 false 48 (ld 48 (v 47) 1 false),h 44 false 49 (bin 49 .neq (v 46) (v 48)),p 50 44 k1 (v 49),a 51 50,h 51 false 52 (fld 52 (v 6) 2),h 51 false 53 (ld 53 (v 52) 1 false),h 51 false 54 (fld 54 (v 7) 2),h 51 false 55 (ld 55 (v 54) 1 false),h 51 false 56 (beq 56 true (v 53) (v 55)),p 57 51 k1 (v 56),a 58 57,h 58 false 59 (fld 59 (v 6) 3),h 58 false 60 (ld 60 (v 59) 1 false),h 58 false 61 (fld 61 (v 7) 3),h 58 false 62 (ld 62 (v 61) 1 false),h 58 false 63 (bin 63 .neq (v 60) (v 62)),p 64 58 k1 (v 63),a 65 64,h 65 false 66 (fld 66 (v 6) 4),hb 65 false 67 66 2,h 65 false 68 (fld 68 (v 7) 4),hb 65 false 69 68 2,hc 65 false 70 88 [v 67,v 69],h 65 false 71 (un 71 .not (v 70)),p 72 65 k1 (v 71)]) (F (v 72) (Q (R [e' 4 k0]) .ret) .skip))))) (R [a 27 5,g 28 .add (v 27) (k 1),e 5 28])))))) (Q (R [e' 4 k1]) .ret)))
abbrev ap4:Cmd:=Q (R [z 0 [.sl 6 [],.int .i64 0]]) (Q (R [n 1 (bld 1 [.sl 6 [],.int .i64 0] [(1,1,k 1)]),s 0 1 2]) .ret)
abbrev ap5:Cmd:=Q (R [z 4 [.sl 6 [],.int .i64 0]]) (Q (R [a 7 0,a 8 1,c 9 45 [v 7,v 8],z 5 [.sl 6 [],.int .i64 0],s 5 9 2]) (Q (Q (R [f 10 5 0,b' 11 10 1,l 12 11,g 13 .eql (v 12) (k 0)]) (F (v 13) (Q (R [b 14 5 2,s 4 14 2]) .ret) .skip)) (Q (R [a 15 0,f 16 5 0,b' 17 16 1,l 18 17,c 19 50 [v 15,v 18],e 6 19]) (Q (Q (R [a 20 0,c 21 50 [v 20,k 16]]) (.blk 0 (Q (R [g 23 .eql (v 21) (k 0),e 22 23]) (F (v 22) (R [a 24 0,o 25 1 [k 0,k 1,k 99,k 100],c 26 51 [v 24,v 25],f 27 5 1,s 27 26 1]) (Q (R [g 29 .eql (v 21) (k 1),e 28 29]) (F (v 28) (D [0,1,0,0,0,24,63,127,255] [f 30 5 0,b' 31 30 1,a 32 6,a 33 0,o 34 1 [.c (.str []),.c (.str [109,97,105,110]),.c (.str [65])],c 35 75 [v 33,v 34],i 36 31 32 6,f 37 36 1,s 37 35 1]) (Q (R [g 39 .eql (v 21) (k 2),e 38 39]) (F (v 38) (D [0,1,0,0,0,24,63,127,255] [f 40 5 0,b' 41 40 1,a 42 6,a 43 0,o 44 1 [k 31,k 32,k 4001],c 45 51 [v 43,v 44],i 46 41 42 6,f 47 46 3,s 47 45 1]) (Q (R [g 49 .eql (v 21) (k 3),e 48 49]) (F (v 48) (D [0,1,0,0,8,31,63,127] [f 50 5 0,b' 51 50 1,a 52 6,a 53 0,c 54 102 [v 53],i 55 51 52 6,f 56 55 4,s 56 54 2]) (Q (R [g 58 .eql (v 21) (k 4),e 57 58]) (F (v 57) (D [0,1,0,0,0,24,63,127,255] [f 59 5 0,b' 60 59 1,a 61 6,a 62 0,o 63 1 [k 0,k 1,k 98,k 99],c 64 51 [v 62,v 63],i 65 60 61 6,f 66 65 0,s 66 64 1]) .skip)))))))))))) (Q (R [b 67 5 2,s 4 67 2]) .ret)))))
abbrev apK:Cmd:=Q (R [e' 4 (k 0)]) (Q (R [a 6 0,l 7 6,g 8 .quo (v 7) (k 12),g 9 .add (k 3) (v 8),e 5 9]) (Q (Q (R [a 10 5,a 11 1,g 12 .gtr (v 10) (v 11)]) (F (v 12) (Q (R [a 13 1,e 4 13]) .ret) .skip)) (Q (R [a 14 5,e 4 14]) .ret)))
abbrev apf:Cmd:=Q (R [e' 2 k0]) (Q (R [a 3 0,c 4 46 [v 3,k 32,k 4000],e 2 4]) .ret)
abbrev n5:Cmd:=Q (R [e' 4 (k 0)]) (Q (Q (R [a 6 0,l 7 6,n 8 (mov 8 (k 0))]) (.blk 0 (.loop (Q (R [g 9 .lss (v 8) (v 7)]) (Q (F (v 9) .skip (.exit 0)) (Q (.blk 1 (Q (R [a 10 8,e 5 10]) (Q (R [a 11 1,a 12 0,a 13 5,i 14 12 13 6,b 15 14 6,n 16 (callv (some 16) (v 11) [v 15])]) (F (v 16) (Q (R [a 17 5,e 4 17]) .ret) .skip)))) (R [g 18 .add (v 8) (k 1),a 8 18]))))))) (Q (R [e' 4 (k (-1))]) .ret))
abbrev oI:Cmd:=Q (R [e' 6 k0]) (Q (Q (R [a 10 0,l 11 10,a 12 1,l 13 12,g 14 .neq (v 11) (v 13)]) (F (v 14) (Q (R [e' 6 k0]) .ret) .skip)) (Q (Q (R [a 15 0,l 16 15,n 17 (mov 17 (k 0))]) (.blk 0 (.loop (Q (R [g 18 .lss (v 17) (v 16)]) (Q (F (v 18) .skip (.exit 0)) (Q (.blk 1 (Q (R [a 19 17,i 20 15 17 6,b 21 20 6,z 8 [.int .i64 0,.str [],.bool false,.int .i64 0,.sl 6 [],.int .i64 0],e 7 19,s 8 21 6]) (Q (R [a 22 1,a 23 7,i 24 22 23 6,b 25 24 6,z 9 [.int .i64 0,.str [],.bool false,.int .i64 0,.sl 6 [],.int .i64 0],s 9 25 6]) (Q (R [a 26 2,b 27 8 6,b 28 9 6,n 29 (callv (some 29) (v 26) [v 27,v 28]),n 30 (un 30 .not (v 29))]) (F (v 30) (Q (R [e' 6 k0]) .ret) .skip))))) (R [g 31 .add (v 17) (k 1),a 17 31]))))))) (Q (R [e' 6 k1]) .ret)))
abbrev ao2:Cmd:=Q (R [n 2 (box 2 (v 0)),n 3 (box 3 (v 1)),e' 4 k0]) (Q (R [f 5 2 0,b' 6 5 1,f 7 3 0,b' 8 7 1,g 9 .eql (v 6) (v 8),a 10 9,h 10 true 11 (fld 11 (v 2) 1),h 10 true 12 (ld 12 (v 11) 1 false),h 10 true 13 (fld 13 (v 3) 1),h 10 true 14 (ld 14 (v 13) 1 false),h 10 true 15 (bin 15 .eql (v 12) (v 14)),p 16 10 (v 15) k0,a 17 16,h 17 true 18 (fld 18 (v 2) 2),h 17 true 19 (ld 19 (v 18) 1 false),h 17 true 20 (fld 20 (v 3) 2),h 17 true 21 (ld 21 (v 20) 1 false),h 17 true 22 (beq 22 false (v 19) (v 21)),p 23 17 (v 22) k0,a 24 23,h 24 true 25 (fld 25 (v 2) 3),h 24 true 26 (ld 26 (v 25) 1 false),h 24 true 27 (fld 27 (v 3) 3),h 24 true 28 (ld 28 (v 27) 1 false),h 24 true 29 (bin 29 .eql (v 26) (v 28)),p 30 24 (v 29) k0,a 31 30,h 31 true 32 (fld 32 (v 2) 4),hb 31 true 33 32 2,h 31 true 34 (fld 34 (v 3) 4),hb 31 true 35 34 2,hc 31 true 36 24 [v 33,v 35],p 37 31 (v 36) k0,e 4 37]) .ret)
abbrev apL:Cmd:=Q (R [e' 2 k0]) (Q (Q (R [a 5 0,n 6 (lens 6 (v 5)),n 7 (mov 7 (k 0))]) (.blk 0 (.loop (Q (R [g 8 .lss (v 7) (v 6)]) (Q (F (v 8) .skip (.exit 0)) (Q (.blk 1 (Q (R [a 9 7,e 3 9]) (Q (R [a 10 0,a 11 3,n 12 (sidx 12 (v 10) (v 11)),e 4 12]) (Q (R [a 13 4,g 14 .lss (v 13) (.c (.int .u8 97)),a 15 14,ha 15 false 16 4,h 15 false 17 (bin 17 .gtr (v 16) (.c (.int .u8 122))),p 18 15 k1 (v 17),a 19 18,ha 19 true 20 4,h 19 true 21 (bin 21 .lss (v 20) (.c (.int .u8 48))),ha 19 true 22 21,ha 22 false 23 4,h 22 false 24 (bin 24 .gtr (v 23) (.c (.int .u8 57))),h 19 true 25 (pck 25 (v 22) k1 (v 24)),p 26 19 (v 25) k0,a 27 26,ha 27 true 28 4,h 27 true 29 (bin 29 .neq (v 28) (.c (.int .u8 95))),p 30 27 (v 29) k0,a 31 30,ha 31 true 32 4,h 31 true 33 (bin 33 .neq (v 32) (.c (.int .u8 45))),p 34 31 (v 33) k0,a 35 34,ha 35 true 36 4,h 35 true 37 (bin 37 .neq (v 36) (.c (.int .u8 46))),p 38 35 (v 37) k0]) (F (v 38) (Q (R [e' 2 k0]) .ret) .skip))))) (R [g 39 .add (v 7) (k 1),a 7 39]))))))) (Q (R [a 40 0,n 41 (lens 41 (v 40)),g 42 .geq (v 41) (k 1),a 43 42,ha 43 true 44 0,h 43 true 45 (lens 45 (v 44)),h 43 true 46 (bin 46 .leq (v 45) (k 14)),p 47 43 (v 46) k0,a 48 47,ha 48 true 49 0,h 48 true 50 (bin 50 .neq (v 49) (.c (.str [46]))),p 51 48 (v 50) k0,a 52 51,ha 52 true 53 0,h 52 true 54 (bin 54 .neq (v 53) (.c (.str [46,46]))),p 55 52 (v 54) k0,e 2 55]) .ret))
abbrev apM:Cmd:=Q (R [n 1 (box 1 (v 0)),e' 2 k0]) (Q (Q (D [0,1,3,7,15,31,63,15,143,399,1023,2047] [b 7 1 2,c 8 105 [v 7],n 9 (un 9 .not (v 8)),a 10 9,hb 10 false 11 1 2,hc 10 false 12 106 [v 11],h 10 false 13 (len 13 (v 12)),h 10 false 14 (fld 14 (v 1) 0),h 10 false 15 (ld 15 (v 14) 1 false),h 10 false 16 (len 16 (v 15)),h 10 false 17 (bin 17 .neq (v 13) (v 16)),p 18 10 k1 (v 17)]) (F (v 18) (Q (R [e' 2 k0]) .ret) .skip)) (Q (Q (R [f 19 1 0,b' 20 19 1,l 21 20,n 22 (mov 22 (k 0))]) (.blk 0 (.loop (Q (R [g 23 .lss (v 22) (v 21)]) (Q (F (v 23) .skip (.exit 0)) (Q (.blk 1 (Q (R [i 24 20 22 6,b 25 24 6,z 4 [.int .i64 0,.int .i64 0,.int .i64 0,.sl 1 [],.sl 2 [],.sl 2 []],s 4 25 6]) (Q (Q (D [0,1,0,0,8,28,63] [f 26 4 2,b' 27 26 1,b 28 1 2,f 29 4 0,b' 30 29 1,c 31 107 [v 28,v 30],g 32 .neq (v 27) (v 31)]) (F (v 32) (Q (R [e' 2 k0]) .ret) .skip)) (Q (R [f 33 4 4,b' 34 33 1,l 35 34,n 36 (mov 36 (k 0))]) (.blk 2 (.loop (Q (R [g 37 .lss (v 36) (v 35)]) (Q (F (v 37) .skip (.exit 2)) (Q (.blk 3 (Q (R [i 38 34 36 2,b 39 38 2,z 6 [.str [],.int .i64 0],s 6 39 2]) (Q (R [b 40 1 2,f 41 6 1,b' 42 41 1,c 43 108 [v 40,v 42],g 44 .lss (v 43) (k 0)]) (F (v 44) (Q (R [e' 2 k0]) .ret) .skip)))) (R [g 45 .add (v 36) (k 1),a 36 45])))))))))) (R [g 46 .add (v 22) (k 1),a 22 46]))))))) (Q (R [e' 2 k1]) .ret)))
abbrev kV:Cmd:=Q (R [e' 6 k0]) (Q (Q (R [a 10 0,l 11 10,a 12 1,l 13 12,g 14 .neq (v 11) (v 13)]) (F (v 14) (Q (R [e' 6 k0]) .ret) .skip)) (Q (Q (R [a 15 0,l 16 15,n 17 (mov 17 (k 0))]) (.blk 0 (.loop (Q (R [g 18 .lss (v 17) (v 16)]) (Q (F (v 18) .skip (.exit 0)) (Q (.blk 1 (Q (R [a 19 17,i 20 15 17 6,b 21 20 6,z 8 [.int .i64 0,.int .i64 0,.int .i64 0,.sl 1 [],.sl 2 [],.sl 2 []],e 7 19,s 8 21 6]) (Q (R [a 22 1,a 23 7,i 24 22 23 6,b 25 24 6,z 9 [.int .i64 0,.int .i64 0,.int .i64 0,.sl 1 [],.sl 2 [],.sl 2 []],s 9 25 6]) (Q (R [a 26 2,b 27 8 6,b 28 9 6,n 29 (callv (some 29) (v 26) [v 27,v 28]),n 30 (un 30 .not (v 29))]) (F (v 30) (Q (R [e' 6 k0]) .ret) .skip))))) (R [g 31 .add (v 17) (k 1),a 17 31]))))))) (Q (R [e' 6 k1]) .ret)))
abbrev aoL:Cmd:=Q (R [n 2 (box 2 (v 0)),n 3 (box 3 (v 1)),e' 4 k0]) (Q (R [f 5 2 0,b' 6 5 1,f 7 3 0,b' 8 7 1,g 9 .eql (v 6) (v 8),a 10 9,h 10 true 11 (fld 11 (v 2) 1),h 10 true 12 (ld 12 (v 11) 1 false),h 10 true 13 (fld 13 (v 3) 1),h 10 true 14 (ld 14 (v 13) 1 false),h 10 true 15 (bin 15 .eql (v 12) (v 14)),p 16 10 (v 15) k0,a 17 16,h 17 true 18 (fld 18 (v 2) 2),h 17 true 19 (ld 19 (v 18) 1 false),h 17 true 20 (fld 20 (v 3) 2),h 17 true 21 (ld 21 (v 20) 1 false),h 17 true 22 (bin 22 .eql (v 19) (v 21)),p 23 17 (v 22) k0,a 24 23,h 24 true 25 (fld 25 (v 2) 3),h 24 true 26 (ld 26 (v 25) 1 false),h 24 true 27 (fld 27 (v 3) 3),h 24 true 28 (ld 28 (v 27) 1 false),hc 24 true 29 109 [v 26,v 28],p 30 24 (v 29) k0,a 31 30,h 31 true 32 (fld 32 (v 2) 4),h 31 true 33 (ld 33 (v 32) 1 false),h 31 true 34 (fld 34 (v 3) 4),h 31 true 35 (ld 35 (v 34) 1 false),hc 31 true 36 110 [v 33,v 35],p 37 31 (v 36) k0,a 38 37,h 38 true 39 (fld 39 (v 2) 5),h 38 true 40 (ld 40 (v 39) 1 false),h 38 true 41 (fld 41 (v 3) 5),h 38 true 42 (ld 42 (v 41) 1 false),hc 38 true 43 111 [v 40,v 42],p 44 38 (v 43) k0,e 4 44]) .ret)
abbrev kG:Cmd:=Q (R [n 2 (box 2 (v 0)),e' 3 k0]) (Q (R [f 4 2 1,b' 5 4 1,b' 6 1 1,g 7 .eql (v 5) (v 6),e 3 7]) .ret)
abbrev apg:Cmd:=Q (R [n 2 (box 2 (v 0)),n 3 (box 3 (v 1)),e' 4 k0]) (Q (Q (R [f 6 2 1,b' 7 6 1,f 8 3 1,b' 9 8 1,g 10 .neq (v 7) (v 9),a 11 10,h 11 false 12 (fld 12 (v 2) 0),h 11 false 13 (ld 13 (v 12) 1 false),h 11 false 14 (len 14 (v 13)),h 11 false 15 (fld 15 (v 3) 0),h 11 false 16 (ld 16 (v 15) 1 false),h 11 false 17 (len 17 (v 16)),h 11 false 18 (bin 18 .neq (v 14) (v 17)),p 19 11 k1 (v 18)]) (F (v 19) (Q (R [e' 4 k0]) .ret) .skip)) (Q (Q (R [e' 5 (k 0)]) (.blk 0 (.loop (Q (Q (R [a 20 5,f 21 2 0,b' 22 21 1,l 23 22,g 24 .lss (v 20) (v 23)]) (F (v 24) .skip (.exit 0))) (Q (.blk 1 (Q (D [0,1,0,7,15,0,32,0,224,480,1023,2047] [f 27 2 0,b' 28 27 1,a 29 5,i 30 28 29 6,b 31 30 6,f 32 3 0,b' 33 32 1,a 34 5,i 35 33 34 6,b 36 35 6,c 37 119 [v 31,v 36],n 38 (un 38 .not (v 37))]) (F (v 38) (Q (R [e' 4 k0]) .ret) .skip))) (R [a 25 5,g 26 .add (v 25) (k 1),e 5 26])))))) (Q (R [e' 4 k1]) .ret)))
abbrev i0:Cmd:=Q (R [z 2 [.sl 6 [],.int .i64 0]]) (Q (R [a 4 0,c 5 122 [v 4,k 8],z 3 [.sl 6 [],.int .i64 0],s 3 5 2]) (Q (Q (R [a 6 0,c 7 50 [v 6,k 12]]) (.blk 0 (Q (R [g 9 .eql (v 7) (k 0),e 8 9]) (F (v 8) (R [a 10 0,o 11 1 [k 1,k 2,k 1000,k 1001],c 12 51 [v 10,v 11],f 13 3 1,s 13 12 1]) (Q (R [g 15 .eql (v 7) (k 1),e 14 15]) (F (v 14) (D [0,1,0,4,12,31,63,127] [f 16 3 0,b' 17 16 1,a 18 0,c 19 123 [v 18],o 20 6 [v 19],n 21 (app 21 (v 17) (v 20) 6 96),f 22 3 0,s 22 21 1]) (Q (R [g 24 .eql (v 7) (k 2),e 23 24]) (F (v 23) (D [0,1,0,0,8,24,60,0,252,511,1023] [f 25 3 0,b' 26 25 1,a 27 0,f 28 3 0,b' 29 28 1,l 30 29,c 31 50 [v 27,v 30],a 32 0,c 33 123 [v 32],i 34 26 31 6,s 34 33 6]) (Q (R [g 36 .eql (v 7) (k 3),e 35 36]) (F (v 35) (D [0,1,0,0,8,24,56,124,255,511,1023] [f 37 3 0,b' 38 37 1,a 39 0,f 40 3 0,b' 41 40 1,l 42 41,g 43 .add (v 42) (k 1),c 44 50 [v 39,v 43],n 45 (slc 45 (v 38) none (some (v 44)) 6),f 46 3 0,s 46 45 1]) .skip)))))))))) (Q (R [b 47 3 2,s 2 47 2]) .ret)))
abbrev ap6:Cmd:=Q (R [n 1 (box 1 (v 0)),e' 2 k0]) (Q (Q (R [f 7 1 0,b' 8 7 1,l 9 8,g 10 .gtr (v 9) (k 30),a 11 10,h 11 false 12 (fld 12 (v 1) 1),h 11 false 13 (ld 13 (v 12) 1 false),hc 11 false 14 46 [v 13,k 2,k 1000],h 11 false 15 (un 15 .not (v 14)),p 16 11 k1 (v 15)]) (F (v 16) (Q (R [e' 2 k0]) .ret) .skip)) (Q (Q (R [f 17 1 0,b' 18 17 1,l 19 18,n 20 (mov 20 (k 0))]) (.blk 0 (.loop (Q (R [g 21 .lss (v 20) (v 19)]) (Q (F (v 21) .skip (.exit 0)) (Q (.blk 1 (Q (R [a 22 20,i 23 18 20 6,b 24 23 6,z 4 [.int .i64 0,.int .i64 0,.int .i64 0,.sl 1 [],.sl 2 [],.sl 2 []],e 3 22,s 4 24 6]) (Q (D [0,1,3,7,15,31,15,79,255,511,1023,2047,4095,8191,16383,32767,16383,81919,262143,524287,1048575,16383,2113535,8388607,16777215,33554431] [b 25 4 6,c 26 126 [v 25],n 27 (un 27 .not (v 26)),a 28 27,h 28 false 29 (fld 29 (v 4) 0),h 28 false 30 (ld 30 (v 29) 1 false),h 28 false 31 (fld 31 (v 1) 1),h 28 false 32 (ld 32 (v 31) 1 false),h 28 false 33 (bin 33 .geq (v 30) (v 32)),p 34 28 k1 (v 33),a 35 34,ha 35 false 36 3,h 35 false 37 (bin 37 .gtr (v 36) (k 0)),ha 35 false 38 37,h 38 true 39 (fld 39 (v 1) 0),h 38 true 40 (ld 40 (v 39) 1 false),ha 38 true 41 3,h 38 true 42 (bin 42 .sub (v 41) (k 1)),h 38 true 43 (idx 43 (v 40) (v 42) 6),h 38 true 44 (fld 44 (v 43) 0),h 38 true 45 (ld 45 (v 44) 1 false),h 38 true 46 (fld 46 (v 4) 0),h 38 true 47 (ld 47 (v 46) 1 false),h 38 true 48 (bin 48 .geq (v 45) (v 47)),h 35 false 49 (pck 49 (v 38) (v 48) k0),p 50 35 k1 (v 49)]) (F (v 50) (Q (R [e' 2 k0]) .ret) .skip)))) (R [g 51 .add (v 20) (k 1),a 20 51]))))))) (Q (R [b 53 1 2,c 54 127 [v 53,k 1],a 52 54,x 55 52 0,x 56 52 1,z 5 [.int .i64 0,.int .i64 0,.int .i64 0,.sl 1 [],.sl 2 [],.sl 2 []],s 5 55 6,e 6 56]) (Q (R [a 57 6,a 58 57,h 58 true 59 (fld 59 (v 5) 1),h 58 true 60 (ld 60 (v 59) 1 false),h 58 true 61 (bin 61 .eql (v 60) (k 2)),p 62 58 (v 61) k0,e 2 62]) .ret))))
abbrev aph:Cmd:=Q (R [n 1 (box 1 (v 0)),e' 2 (.c (.own 1 []))]) (Q (R [o 10 1 [],e 3 10]) (Q (R [o 11 1 [k 1],e 4 11]) (Q (.blk 0 (.loop (Q (Q (R [a 12 4,l 13 12,g 14 .gtr (v 13) (k 0)]) (F (v 14) .skip (.exit 0))) (.blk 1 (Q (R [a 15 4,n 16 (idx 16 (v 15) (k 0) 1),b' 17 16 1,e 5 17]) (Q (R [a 18 4,n 19 (slc 19 (v 18) (some (k 1)) none 1),e 4 19]) (Q (R [b 21 1 2,a 22 5,c 23 127 [v 21,v 22],a 20 23,x 24 20 0,x 25 20 1,z 6 [.int .i64 0,.int .i64 0,.int .i64 0,.sl 1 [],.sl 2 [],.sl 2 []],s 6 24 6,e 7 25]) (Q (Q (R [a 26 7,n 27 (un 27 .not (v 26)),a 28 27,ha 28 false 29 3,ha 28 false 30 5,hc 28 false 31 128 [v 29,v 30],p 32 28 k1 (v 31)]) (F (v 32) (.exit 1) .skip)) (Q (R [a 33 3,a 34 5,o 35 1 [v 34],n 36 (app 36 (v 33) (v 35) 1 8),e 3 36]) (Q (R [f 37 6 1,b' 38 37 1,g 39 .eql (v 38) (k 2)]) (F (v 39) (Q (R [f 40 6 4,b' 41 40 1,l 42 41,n 43 (mov 43 (k 0))]) (.blk 2 (.loop (Q (R [g 44 .lss (v 43) (v 42)]) (Q (F (v 44) .skip (.exit 2)) (Q (.blk 3 (Q (R [i 45 41 43 2,b 46 45 2,z 9 [.str [],.int .i64 0],s 9 46 2]) (R [a 47 4,f 48 9 1,b' 49 48 1,o 50 1 [v 49],n 51 (app 51 (v 47) (v 50) 1 8),e 4 51]))) (R [g 52 .add (v 43) (k 1),a 43 52]))))))) .skip))))))))))) (Q (R [a 53 3,c 54 129 [v 53]]) (Q (R [a 55 3,e 2 55]) .ret)))))
abbrev api:Cmd:=Q (R [n 2 (box 2 (v 0)),e' 4 (k 0)]) (Q (R [e' 5 (k 0)]) (Q (Q (R [f 10 2 0,b' 11 10 1,l 12 11,n 13 (mov 13 (k 0))]) (.blk 0 (.loop (Q (R [g 14 .lss (v 13) (v 12)]) (Q (F (v 14) .skip (.exit 0)) (Q (.blk 1 (Q (R [i 15 11 13 6,b 16 15 6,z 7 [.int .i64 0,.int .i64 0,.int .i64 0,.sl 1 [],.sl 2 [],.sl 2 []],s 7 16 6]) (Q (Q (R [f 17 7 1,b' 18 17 1,g 19 .neq (v 18) (k 2)]) (F (v 19) (.exit 1) .skip)) (Q (R [f 20 7 4,b' 21 20 1,l 22 21,n 23 (mov 23 (k 0))]) (.blk 2 (.loop (Q (R [g 24 .lss (v 23) (v 22)]) (Q (F (v 24) .skip (.exit 2)) (Q (.blk 3 (Q (R [i 25 21 23 2,b 26 25 2,z 9 [.str [],.int .i64 0],s 9 26 2]) (Q (R [f 27 9 1,b' 28 27 1,a 29 1,g 30 .eql (v 28) (v 29)]) (F (v 30) (R [a 31 5,g 32 .add (v 31) (k 1),e 5 32]) .skip)))) (R [g 33 .add (v 23) (k 1),a 23 33])))))))))) (R [g 34 .add (v 13) (k 1),a 13 34]))))))) (Q (R [a 35 5,e 4 35]) .ret)))
abbrev apj:Cmd:=Q (R [n 2 (box 2 (v 0)),n 3 (box 3 (v 1)),e' 4 (k 0)]) (Q (R [f 5 2 0,b' 6 5 1,n 7 (mkf 7 131 [v 3]),c 8 130 [v 6,v 7],e 4 8]) .ret)
abbrev aow:Cmd:=Q (R [e' 4 k0]) (Q (Q (R [a 6 0,l 7 6,a 8 1,l 9 8,g 10 .neq (v 7) (v 9)]) (F (v 10) (Q (R [e' 4 k0]) .ret) .skip)) (Q (Q (R [a 11 0,l 12 11,n 13 (mov 13 (k 0))]) (.blk 0 (.loop (Q (R [g 14 .lss (v 13) (v 12)]) (Q (F (v 14) .skip (.exit 0)) (Q (.blk 1 (Q (R [a 15 13,e 5 15]) (Q (D [0,0,3,7,0,0,48,112,255] [a 16 0,a 17 5,i 18 16 17 1,b' 19 18 1,a 20 1,a 21 5,i 22 20 21 1,b' 23 22 1,g 24 .neq (v 19) (v 23)]) (F (v 24) (Q (R [e' 4 k0]) .ret) .skip)))) (R [g 25 .add (v 13) (k 1),a 13 25]))))))) (Q (R [e' 4 k1]) .ret)))
abbrev aoM:Cmd:=Q (R [e' 4 k0]) (Q (Q (R [a 6 0,l 7 6,a 8 1,l 9 8,g 10 .neq (v 7) (v 9)]) (F (v 10) (Q (R [e' 4 k0]) .ret) .skip)) (Q (Q (R [a 11 0,l 12 11,n 13 (mov 13 (k 0))]) (.blk 0 (.loop (Q (R [g 14 .lss (v 13) (v 12)]) (Q (F (v 14) .skip (.exit 0)) (Q (.blk 1 (Q (R [a 15 13,e 5 15]) (Q (D [0,0,3,7,0,0,48,112,255] [a 16 0,a 17 5,i 18 16 17 2,b 19 18 2,a 20 1,a 21 5,i 22 20 21 2,b 23 22 2,n 24 (eqs 24 true [1,0] (v 19) (v 23))]) (F (v 24) (Q (R [e' 4 k0]) .ret) .skip)))) (R [g 25 .add (v 13) (k 1),a 13 25]))))))) (Q (R [e' 4 k1]) .ret)))
abbrev aox:Cmd:=Q (R [e' 4 k0]) (Q (Q (R [a 6 0,l 7 6,a 8 1,l 9 8,g 10 .neq (v 7) (v 9)]) (F (v 10) (Q (R [e' 4 k0]) .ret) .skip)) (Q (Q (R [a 11 0,l 12 11,n 13 (mov 13 (k 0))]) (.blk 0 (.loop (Q (R [g 14 .lss (v 13) (v 12)]) (Q (F (v 14) .skip (.exit 0)) (Q (.blk 1 (Q (R [a 15 13,e 5 15]) (Q (D [0,0,3,7,0,0,48,112,255] [a 16 0,a 17 5,i 18 16 17 2,b 19 18 2,a 20 1,a 21 5,i 22 20 21 2,b 23 22 2,n 24 (eqs 24 true [1,1] (v 19) (v 23))]) (F (v 24) (Q (R [e' 4 k0]) .ret) .skip)))) (R [g 25 .add (v 13) (k 1),a 13 25]))))))) (Q (R [e' 4 k1]) .ret)))
abbrev aoN:Cmd:=Q (R [n 2 (box 2 (v 0)),n 3 (box 3 (v 1)),e' 4 k0]) (Q (Q (R [f 7 2 0,b' 8 7 1,f 9 3 0,b' 10 9 1,g 11 .neq (v 8) (v 10),a 12 11,h 12 false 13 (fld 13 (v 2) 1),h 12 false 14 (ld 14 (v 13) 1 false),h 12 false 15 (fld 15 (v 3) 1),h 12 false 16 (ld 16 (v 15) 1 false),h 12 false 17 (bin 17 .neq (v 14) (v 16)),p 18 12 k1 (v 17),a 19 18,h 19 false 20 (fld 20 (v 2) 2),h 19 false 21 (ld 21 (v 20) 1 false),h 19 false 22 (fld 22 (v 3) 2),h 19 false 23 (ld 23 (v 22) 1 false),h 19 false 24 (bin 24 .neq (v 21) (v 23)),p 25 19 k1 (v 24),a 26 25,h 26 false 27 (fld 27 (v 2) 3),h 26 false 28 (ld 28 (v 27) 1 false),h 26 false 29 (fld 29 (v 3) 3),h 26 false 30 (ld 30 (v 29) 1 false),hc 26 false 31 135 [v 28,v 30],h 26 false 32 (un 32 .not (v 31)),p 33 26 k1 (v 32),a 34 33,h 34 false 35 (fld 35 (v 2) 4),h 34 false 36 (ld 36 (v 35) 1 false),h 34 false 37 (len 37 (v 36)),h 34 false 38 (fld 38 (v 3) 4),h 34 false 39 (ld 39 (v 38) 1 false),h 34 false 40 (len 40 (v 39)),h 34 false 41 (bin 41 .neq (v 37) (v 40)),p 42 34 k1 (v 41),a 43 42,h 43 false 44 (fld 44 (v 2) 5),h 43 false 45 (ld 45 (v 44) 1 false),h 43 false 46 (len 46 (v 45)),h 43 false 47 (fld 47 (v 3) 5),h 43 false 48 (ld 48 (v 47) 1 false),h 43 false 49 (len 49 (v 48)),h 43 false 50 (bin 50 .neq (v 46) (v 49)),p 51 43 k1 (v 50)]) (F (v 51) (Q (R [e' 4 k0]) .ret) .skip)) (Q (Q (R [e' 5 (k 0)]) (.blk 0 (.loop (Q (Q (R [a 52 5,f 53 2 4,b' 54 53 1,l 55 54,g 56 .lss (v 52) (v 55)]) (F (v 56) .skip (.exit 0))) (Q (.blk 1 (Q (D [0,1,0,7,15,0,32,0,224,480,1023] [f 59 2 4,b' 60 59 1,a 61 5,i 62 60 61 2,b 63 62 2,f 64 3 4,b' 65 64 1,a 66 5,i 67 65 66 2,b 68 67 2,n 69 (eqs 69 true [1,0] (v 63) (v 68))]) (F (v 69) (Q (R [e' 4 k0]) .ret) .skip))) (R [a 57 5,g 58 .add (v 57) (k 1),e 5 58])))))) (Q (Q (R [e' 6 (k 0)]) (.blk 2 (.loop (Q (Q (R [a 70 6,f 71 2 5,b' 72 71 1,l 73 72,g 74 .lss (v 70) (v 73)]) (F (v 74) .skip (.exit 2))) (Q (.blk 3 (Q (D [0,1,0,7,15,0,32,0,224,480,1023] [f 77 2 5,b' 78 77 1,a 79 6,i 80 78 79 2,b 81 80 2,f 82 3 5,b' 83 82 1,a 84 6,i 85 83 84 2,b 86 85 2,n 87 (eqs 87 true [1,1] (v 81) (v 86))]) (F (v 87) (Q (R [e' 4 k0]) .ret) .skip))) (R [a 75 6,g 76 .add (v 75) (k 1),e 6 76])))))) (Q (R [e' 4 k1]) .ret))))
abbrev aoE:Cmd:=Q (R [z 4 [.sl 6 [],.int .i64 0]]) (Q (R [c 7 79 [],z 5 [.sl 6 [],.int .i64 0],s 5 7 2]) (Q (Q (R [a 8 0,a 9 1,g 10 .add (v 9) (k 4),c 11 50 [v 8,v 10],e 6 11]) (.blk 0 (.loop (Q (Q (R [a 12 6,g 13 .gtr (v 12) (k 0)]) (F (v 13) .skip (.exit 0))) (Q (.blk 1 (R [a 16 0,b 17 5 2,c 18 138 [v 16,v 17],s 5 18 2])) (R [a 14 6,g 15 .sub (v 14) (k 1),e 6 15])))))) (Q (R [b 19 5 2,s 4 19 2]) .ret)))
abbrev eU:Cmd:=Q (R [z 2 [.int .i64 0,.int .i64 0,.int .i64 0,.sl 1 [],.sl 2 [],.sl 2 []]]) (Q (R [a 4 0,c 5 139 [v 4],z 3 [.int .i64 0,.int .i64 0,.int .i64 0,.sl 1 [],.sl 2 [],.sl 2 []],s 3 5 6]) (Q (Q (R [a 6 0,c 7 50 [v 6,k 14]]) (.blk 0 (Q (R [g 9 .eql (v 7) (k 0),e 8 9]) (F (v 8) (R [a 10 0,o 11 1 [k 0,k 1,k 1000,k 1001],c 12 51 [v 10,v 11],f 13 3 0,s 13 12 1]) (Q (R [g 15 .eql (v 7) (k 1),e 14 15]) (F (v 14) (R [a 16 0,c 17 50 [v 16,k 4],f 18 3 1,s 18 17 1]) (Q (R [g 20 .eql (v 7) (k 2),e 19 20]) (F (v 19) (R [a 21 0,o 22 1 [k (-1),k 0,k 2,k 1001],c 23 51 [v 21,v 22],f 24 3 2,s 24 23 1]) (Q (R [g 26 .eql (v 7) (k 3),e 25 26]) (F (v 25) (R [f 27 3 3,b' 28 27 1,o 29 1 [.c (.int .u8 1)],n 30 (app 30 (v 28) (v 29) 1 1),f 31 3 3,s 31 30 1]) (Q (R [g 33 .eql (v 7) (k 4),e 32 33]) (F (v 32) (D [0,1,0,0,12,0,0,124,252,508,1023,2047,4095] [f 34 3 4,b' 35 34 1,a 36 0,o 37 1 [.c (.str [97]),.c (.str [122]),.c (.str []),.c (.str [90])],c 38 75 [v 36,v 37],a 39 0,o 40 1 [k 1,k 2,k 1000,k 1001],c 41 51 [v 39,v 40],n 42 (bld 42 [.str [],.int .i64 0] [(0,1,v 38),(1,1,v 41)]),o 43 2 [v 42],n 44 (app 44 (v 35) (v 43) 2 24),f 45 3 4,s 45 44 1]) (Q (R [g 47 .eql (v 7) (k 5),e 46 47]) (F (v 46) (D [0,1,0,0,12,0,60,124,252,508,1020,2044,4095,8191,16383] [f 48 3 5,b' 49 48 1,a 50 0,o 51 1 [.c (.str [97]),.c (.str [122]),.c (.str [])],c 52 75 [v 50,v 51],a 53 0,c 54 50 [v 53,k 3],g 55 .add (k 15) (v 54),n 56 (mks 56 (v 55) (v 55) 1 1 [.int .u8 0]),n 57 (b2s 57 (v 56)),n 58 (bld 58 [.str [],.str []] [(0,1,v 52),(1,1,v 57)]),o 59 2 [v 58],n 60 (app 60 (v 49) (v 59) 2 32),f 61 3 5,s 61 60 1]) .skip)))))))))))))) (Q (R [b 62 3 6,s 2 62 6]) .ret)))
abbrev aoO:Cmd:=Q (R [n 1 (box 1 (v 0)),z 2 [.int .i64 0,.int .i64 0,.int .i64 0,.sl 1 [],.sl 2 [],.sl 2 []]]) (Q (R [f 3 1 3,b' 4 3 1,c 5 91 [v 4],f 6 1 3,s 6 5 1]) (Q (R [f 7 1 4,b' 8 7 1,c 9 140 [v 8],f 10 1 4,s 10 9 1]) (Q (R [f 11 1 5,b' 12 11 1,c 13 141 [v 12],f 14 1 5,s 14 13 1]) (Q (R [b 15 1 6,s 2 15 6]) .ret))))
abbrev apk:Cmd:=Q (R [n 1 (box 1 (v 0)),e' 2 k0]) (Q (Q (R [f 5 1 0,b' 6 5 1,c 7 46 [v 6,k 1,k 1000],n 8 (un 8 .not (v 7)),a 9 8,h 9 false 10 (fld 10 (v 1) 3),h 9 false 11 (ld 11 (v 10) 1 false),h 9 false 12 (len 12 (v 11)),h 9 false 13 (bin 13 .gtr (v 12) (k 100)),p 14 9 k1 (v 13),a 15 14,h 15 false 16 (fld 16 (v 1) 4),h 15 false 17 (ld 17 (v 16) 1 false),h 15 false 18 (len 18 (v 17)),h 15 false 19 (bin 19 .gtr (v 18) (k 10)),p 20 15 k1 (v 19),a 21 20,h 21 false 22 (fld 22 (v 1) 5),h 21 false 23 (ld 23 (v 22) 1 false),hc 21 false 24 142 [v 23],h 21 false 25 (un 25 .not (v 24)),p 26 21 k1 (v 25)]) (F (v 26) (Q (R [e' 2 k0]) .ret) .skip)) (Q (Q (R [f 27 1 4,b' 28 27 1,l 29 28,n 30 (mov 30 (k 0))]) (.blk 0 (.loop (Q (R [g 31 .lss (v 30) (v 29)]) (Q (F (v 31) .skip (.exit 0)) (Q (.blk 1 (Q (R [a 32 30,i 33 28 30 2,b 34 33 2,z 4 [.str [],.int .i64 0],e 3 32,s 4 34 2]) (Q (D [0,1,3,7,15,31,63,127,255,511,1023,2047,4095,8191,16383,32767,16383,81919,262143,524287,1048575,16383,2113535,8388607,16777215,33554431] [f 35 4 0,b' 36 35 1,c 37 71 [v 36],n 38 (un 38 .not (v 37)),a 39 38,h 39 false 40 (fld 40 (v 4) 1),h 39 false 41 (ld 41 (v 40) 1 false),hc 39 false 42 46 [v 41,k 2,k 1000],h 39 false 43 (un 43 .not (v 42)),p 44 39 k1 (v 43),a 45 44,ha 45 false 46 3,h 45 false 47 (bin 47 .gtr (v 46) (k 0)),ha 45 false 48 47,h 48 true 49 (fld 49 (v 1) 4),h 48 true 50 (ld 50 (v 49) 1 false),ha 48 true 51 3,h 48 true 52 (bin 52 .sub (v 51) (k 1)),h 48 true 53 (idx 53 (v 50) (v 52) 2),h 48 true 54 (fld 54 (v 53) 0),h 48 true 55 (ld 55 (v 54) 1 false),h 48 true 56 (fld 56 (v 4) 0),h 48 true 57 (ld 57 (v 56) 1 false),h 48 true 58 (bin 58 .geq (v 55) (v 57)),h 45 false 59 (pck 59 (v 48) (v 58) k0),p 60 45 k1 (v 59)]) (F (v 60) (Q (R [e' 2 k0]) .ret) .skip)))) (R [g 61 .add (v 30) (k 1),a 30 61]))))))) (Q (Q (R [f 62 1 2,b' 63 62 1,c 64 46 [v 63,k 0,k 1000],n 65 (un 65 .not (v 64)),a 66 65,h 66 false 67 (fld 67 (v 1) 2),h 66 false 68 (ld 68 (v 67) 1 false),h 66 false 69 (bin 69 .eql (v 68) (k 0)),h 66 false 70 (fld 70 (v 1) 0),h 66 false 71 (ld 71 (v 70) 1 false),h 66 false 72 (bin 72 .eql (v 71) (k 1)),h 66 false 73 (beq 73 true (v 69) (v 72)),p 74 66 k1 (v 73)]) (F (v 74) (Q (R [e' 2 k0]) .ret) .skip)) (Q (Q (R [f 75 1 1,b' 76 75 1]) (.blk 2 (Q (R [g 78 .eql (v 76) (k 1),e 77 78]) (F (v 77) (Q (R [f 79 1 4,b' 80 79 1,l 81 80,g 82 .eql (v 81) (k 0),e 2 82]) .ret) (Q (R [g 84 .eql (v 76) (k 2),e 83 84]) (F (v 83) (Q (R [f 85 1 3,b' 86 85 1,l 87 86,g 88 .eql (v 87) (k 0),a 89 88,h 89 true 90 (fld 90 (v 1) 2),h 89 true 91 (ld 91 (v 90) 1 false),h 89 true 92 (bin 92 .leq (v 91) (k 1)),p 93 89 (v 92) k0,e 2 93]) .ret) .skip)))))) (Q (R [e' 2 k0]) .ret)))))
abbrev apl:Cmd:=Q (R [n 2 (box 2 (v 0)),z 4 [.int .i64 0,.int .i64 0,.int .i64 0,.sl 1 [],.sl 2 [],.sl 2 []],e' 5 k0]) (Q (R [b 7 2 2,a 8 1,c 9 108 [v 7,v 8],e 6 9]) (Q (Q (R [a 10 6,g 11 .lss (v 10) (k 0)]) (F (v 11) (Q (R [n 12 (bld 12 [.int .i64 0,.int .i64 0,.int .i64 0,.sl 1 [],.sl 2 [],.sl 2 []] []),s 4 12 6,e' 5 k0]) .ret) .skip)) (Q (R [f 13 2 0,b' 14 13 1,a 15 6,i 16 14 15 6,b 17 16 6,c 18 124 [v 17],s 4 18 6,e' 5 k1]) .ret)))
abbrev r5:Cmd:=Q (R [e' 4 k0]) (Q (R [a 5 0,a 6 1,c 7 143 [v 5,v 6],g 8 .geq (v 7) (k 0),e 4 8]) .ret)
abbrev kY:Cmd:=Q (R [e' 4 (k 0)]) (Q (Q (R [a 6 0,l 7 6,n 8 (mov 8 (k 0))]) (.blk 0 (.loop (Q (R [g 9 .lss (v 8) (v 7)]) (Q (F (v 9) .skip (.exit 0)) (Q (.blk 1 (Q (R [a 10 8,e 5 10]) (Q (R [a 11 1,a 12 0,a 13 5,i 14 12 13 6,b 15 14 6,n 16 (callv (some 16) (v 11) [v 15])]) (F (v 16) (Q (R [a 17 5,e 4 17]) .ret) .skip)))) (R [g 18 .add (v 8) (k 1),a 8 18]))))))) (Q (R [e' 4 (k (-1))]) .ret))
abbrev l4:Cmd:=Q (R [n 2 (box 2 (v 0)),e' 3 k0]) (Q (R [f 4 2 0,b' 5 4 1,b' 6 1 1,g 7 .eql (v 5) (v 6),e 3 7]) .ret)
abbrev tI:Cmd:=Q (R [e' 4 k0]) (Q (Q (R [a 6 0,l 7 6,a 8 1,l 9 8,g 10 .neq (v 7) (v 9)]) (F (v 10) (Q (R [e' 4 k0]) .ret) .skip)) (Q (Q (R [e' 5 (k 0)]) (.blk 0 (.loop (Q (Q (R [a 11 5,a 12 0,l 13 12,g 14 .lss (v 11) (v 13)]) (F (v 14) .skip (.exit 0))) (Q (.blk 1 (Q (D [0,0,3,7,0,0,48,112,255] [a 17 0,a 18 5,i 19 17 18 1,b' 20 19 1,a 21 1,a 22 5,i 23 21 22 1,b' 24 23 1,g 25 .neq (v 20) (v 24)]) (F (v 25) (Q (R [e' 4 k0]) .ret) .skip))) (R [a 15 5,g 16 .add (v 15) (k 1),e 5 16])))))) (Q (R [e' 4 k1]) .ret)))
abbrev dI:Cmd:=Q (R [n 3 (box 3 (v 1)),z 4 [.sl 6 [],.int .i64 0]]) (Q (R [a 7 0,b 8 3 2,c 9 94 [v 7,v 8],e 5 9]) (Q (R [a 10 0,c 11 93 [v 10],e 6 11]) (Q (Q (R [a 12 0,c 13 50 [v 12,k 12]]) (.blk 0 (Q (Q (R [g 34 .eql (v 13) (k 0),e 33 34]) (F (v 33) .skip (R [g 35 .eql (v 13) (k 1),e 33 35]))) (F (v 33) (R [b 37 3 2,a 38 6,c 39 146 [v 37,v 38],a 36 39,x 40 36 0,x 41 36 1,s 3 40 2]) (Q (Q (R [g 43 .eql (v 13) (k 2),e 42 43]) (F (v 42) .skip (R [g 44 .eql (v 13) (k 3),e 42 44]))) (F (v 42) (R [b 46 3 2,a 47 6,c 48 147 [v 46,v 47],a 45 48,x 49 45 0,x 50 45 1,s 3 49 2]) (Q (Q (R [g 52 .eql (v 13) (k 4),e 51 52]) (F (v 51) .skip (Q (R [g 53 .eql (v 13) (k 5),e 51 53]) (F (v 51) .skip (R [g 54 .eql (v 13) (k 6),e 51 54]))))) (F (v 51) (D [0,0,0,0,12,0,60,127,255,511,1023,1023] [b 56 3 2,a 57 5,a 58 0,o 59 1 [k 0,k 1,k 20],c 60 51 [v 58,v 59],a 61 0,c 62 96 [v 61],c 63 148 [v 56,v 57,v 60,v 62],a 55 63,x 64 55 0,x 65 55 1,s 3 64 2]) (Q (R [g 67 .eql (v 13) (k 7),e 66 67]) (F (v 66) (D [0,0,0,0,12,31,63,127,255,255] [b 69 3 2,a 70 5,a 71 0,o 72 1 [k 0,k 3,k 50],c 73 51 [v 71,v 72],c 74 149 [v 69,v 70,v 73],a 68 74,x 75 68 0,x 76 68 1,s 3 75 2]) (Q (R [g 78 .eql (v 13) (k 8),e 77 78]) (F (v 77) (R [b 80 3 2,a 81 5,c 82 150 [v 80,v 81],a 79 82,x 83 79 0,x 84 79 1,s 3 83 2]) (Q (R [g 86 .eql (v 13) (k 9),e 85 86]) (F (v 85) (R [b 88 3 2,a 89 5,a 90 6,c 91 152 [v 88,v 89,v 90],a 87 91,x 92 87 0,x 93 87 1,s 3 92 2]) (Q (R [g 95 .eql (v 13) (k 10),e 94 95]) (F (v 94) (R [b 97 3 2,a 98 5,a 99 6,c 100 153 [v 97,v 98,v 99],a 96 100,x 101 96 0,x 102 96 1,s 3 101 2]) (Q (R [a 14 0,c 15 84 [v 14,k 2]]) (F (v 15) (R [b 17 3 2,a 18 5,c 19 151 [v 17,v 18],a 16 19,x 20 16 0,x 21 16 1,s 3 20 2]) (D [0,0,0,4,0,0,60,127,255,511,1023,1023] [b 23 3 2,a 24 5,a 25 0,c 26 95 [v 25],a 27 0,o 28 1 [.c (.str [120]),.c (.str []),.c (.str [118,97,108,117,101])],c 29 75 [v 27,v 28],c 30 154 [v 23,v 24,v 26,v 29],a 22 30,x 31 22 0,x 32 22 1,s 3 31 2]))))))))))))))))))) (Q (R [b 103 3 2,s 4 103 2]) .ret))))
abbrev oS:Cmd:=Q (R [z 2 [.int .i64 0,.int .i64 0,.int .i64 0,.sl 1 [],.sl 2 [],.sl 2 []]]) (Q (R [a 7 0,c 8 50 [v 7,k 6],g 9 .add (k 2) (v 8),a 10 0,c 11 50 [v 10,k 2],g 12 .add (k 1) (v 11),n 13 (bld 13 [.int .i64 0,.int .i64 0,.int .i64 0,.sl 1 [],.sl 2 [],.sl 2 []] [(0,1,v 9),(1,1,v 12),(2,1,k 1)]),z 3 [.int .i64 0,.int .i64 0,.int .i64 0,.sl 1 [],.sl 2 [],.sl 2 []],s 3 13 6]) (Q (R [o 14 1 [.c (.str [97]),.c (.str [98]),.c (.str [99]),.c (.str [100,46,116,120,116])],e 4 14]) (Q (Q (R [f 15 3 1,b' 16 15 1,g 17 .eql (v 16) (k 1)]) (F (v 17) (Q (R [a 18 0,a 19 0,o 20 1 [k 0,k 1,k 5,k 20,k 100],c 21 51 [v 19,v 20],c 22 121 [v 18,v 21],f 23 3 3,s 23 22 1]) (R [a 24 0,c 25 50 [v 24,k 2],g 26 .add (k 1) (v 25),f 27 3 2,s 27 26 1])) (Q (R [e' 5 (k 0)]) (.blk 0 (.loop (Q (Q (R [a 28 5,g 29 .lss (v 28) (k 4)]) (F (v 29) .skip (.exit 0))) (Q (.blk 1 (Q (R [a 32 0,c 33 84 [v 32,k 2]]) (F (v 33) (D [0,1,0,0,12,28,0,64,192,508,1020,2047,4095,8191] [f 34 3 4,b' 35 34 1,a 36 4,a 37 5,i 38 36 37 1,b' 39 38 1,a 40 0,c 41 50 [v 40,k 8],g 42 .add (k 2) (v 41),n 43 (bld 43 [.str [],.int .i64 0] [(0,1,v 39),(1,1,v 42)]),o 44 2 [v 43],n 45 (app 45 (v 35) (v 44) 2 24),f 46 3 4,s 46 45 1]) .skip))) (R [a 30 5,g 31 .add (v 30) (k 1),e 5 31])))))))) (Q (Q (R [e' 6 (k 0)]) (.blk 2 (.loop (Q (Q (R [a 47 6,g 48 .lss (v 47) (k 2)]) (F (v 48) .skip (.exit 2))) (Q (.blk 3 (Q (R [a 51 0,c 52 84 [v 51,k 3]]) (F (v 52) (D [0,1,0,0,12,28,0,0,192,508,1020,2047,4095,8191] [f 53 3 5,b' 54 53 1,a 55 4,a 56 6,i 57 55 56 1,b' 58 57 1,a 59 0,o 60 1 [.c (.str [120]),.c (.str [118,97,108,117,101]),.c (.str [115,105,120,116,101,101,110,98,121,116,101,115,120,120,120,120])],c 61 75 [v 59,v 60],n 62 (bld 62 [.str [],.str []] [(0,1,v 58),(1,1,v 61)]),o 63 2 [v 62],n 64 (app 64 (v 54) (v 63) 2 32),f 65 3 5,s 65 64 1]) .skip))) (R [a 49 6,g 50 .add (v 49) (k 1),e 6 50])))))) (Q (R [b 66 3 6,s 2 66 6]) .ret)))))
abbrev l5:Cmd:=Q (R [e' 2 (.c (.own 2 []))]) (Q (Q (R [a 3 0,n 4 (isn 4 false (v 3) (.c (.own 2 [])))]) (F (v 4) (Q (R [e' 2 (.c (.own 2 []))]) .ret) .skip)) (Q (R [o 5 2 [],a 6 0,n 7 (app 7 (v 5) (v 6) 2 24),e 2 7]) .ret))
abbrev kH:Cmd:=Q (R [e' 2 (.c (.own 2 []))]) (Q (Q (R [a 3 0,n 4 (isn 4 false (v 3) (.c (.own 2 [])))]) (F (v 4) (Q (R [e' 2 (.c (.own 2 []))]) .ret) .skip)) (Q (R [o 5 2 [],a 6 0,n 7 (app 7 (v 5) (v 6) 2 32),e 2 7]) .ret))
abbrev apm:Cmd:=Q (R [e' 2 k0]) (Q (Q (R [a 5 0,l 6 5,n 7 (mov 7 (k 0))]) (.blk 0 (.loop (Q (R [g 8 .lss (v 7) (v 6)]) (Q (F (v 8) .skip (.exit 0)) (Q (.blk 1 (Q (R [a 9 7,i 10 5 7 2,b 11 10 2,z 4 [.str [],.str []],e 3 9,s 4 11 2]) (Q (D [0,1,3,7,15,31,63,127,255,511,1023,2047,4095,8191,16383,32767,32767,98303,262143,524287,1048575,32767,2129919,8388607,16777215,33554431] [f 12 4 0,b' 13 12 1,c 14 71 [v 13],n 15 (un 15 .not (v 14)),a 16 15,h 16 false 17 (fld 17 (v 4) 1),h 16 false 18 (ld 18 (v 17) 1 false),h 16 false 19 (lens 19 (v 18)),hc 16 false 20 46 [v 19,k 1,k 16],h 16 false 21 (un 21 .not (v 20)),p 22 16 k1 (v 21),a 23 22,ha 23 false 24 3,h 23 false 25 (bin 25 .gtr (v 24) (k 0)),ha 23 false 26 25,ha 26 true 27 0,ha 26 true 28 3,h 26 true 29 (bin 29 .sub (v 28) (k 1)),h 26 true 30 (idx 30 (v 27) (v 29) 2),h 26 true 31 (fld 31 (v 30) 0),h 26 true 32 (ld 32 (v 31) 1 false),h 26 true 33 (fld 33 (v 4) 0),h 26 true 34 (ld 34 (v 33) 1 false),h 26 true 35 (bin 35 .geq (v 32) (v 34)),h 23 false 36 (pck 36 (v 26) (v 35) k0),p 37 23 k1 (v 36)]) (F (v 37) (Q (R [e' 2 k0]) .ret) .skip)))) (R [g 38 .add (v 7) (k 1),a 7 38]))))))) (Q (R [a 39 0,l 40 39,g 41 .leq (v 40) (k 4),e 2 41]) .ret))
abbrev aoP:Cmd:=Q (R [e' 4 (k 0)]) (Q (Q (R [a 6 0,l 7 6,n 8 (mov 8 (k 0))]) (.blk 0 (.loop (Q (R [g 9 .lss (v 8) (v 7)]) (Q (F (v 9) .skip (.exit 0)) (Q (.blk 1 (Q (R [a 10 8,e 5 10]) (Q (R [a 11 1,a 12 0,a 13 5,i 14 12 13 1,b' 15 14 1,g 16 .eql (v 11) (v 15)]) (F (v 16) (Q (R [a 17 5,e 4 17]) .ret) .skip)))) (R [g 18 .add (v 8) (k 1),a 8 18]))))))) (Q (R [e' 4 (k (-1))]) .ret))
end
theorem ao3:aE Tryz.prog 8=some (55,[.t 2],ap3):=by kernel_rfl
theorem apN:aE Tryz.prog 21=some (17,[.t 4],apH):=by kernel_rfl
theorem apn:aE Tryz.prog 22=some (40,[.t 2],apd):=by kernel_rfl
theorem aqz:aE Tryz.prog 23=some (84,[.t 2],aqy):=by kernel_rfl
theorem apo:aE Tryz.prog 24=some (17,[.t 4],ape):=by kernel_rfl
theorem ao4:aE Tryz.prog 28=some (9,[.t 4],ao0):=by kernel_rfl
theorem apO:aE Tryz.prog 37=some (17,[.c 2 2 true,.c 3 6 true],apI):=by kernel_rfl
theorem ao5:aE Tryz.prog 38=some (10,[.c 2 2 true],ao1):=by kernel_rfl
theorem kP:aE Tryz.prog 39=some (27,[.c 2 2 true,.c 3 2 true],aov):=by kernel_rfl
theorem apP:aE Tryz.prog 41=some (73,[.t 4],apJ):=by kernel_rfl
theorem ap7:aE Tryz.prog 42=some (2,[.c 0 2 true],ap4):=by kernel_rfl
theorem g6:aE Tryz.prog 60=some (68,[.c 4 2 true],ap5):=by kernel_rfl
theorem aoF:aE Tryz.prog 61=some (15,[.t 4],apK):=by kernel_rfl
theorem apq:aE Tryz.prog 63=some (5,[.t 2],apf):=by kernel_rfl
theorem pI:aE Tryz.prog 67=some (19,[.t 4],n5):=by kernel_rfl
theorem pS:aE Tryz.prog 69=some (32,[.t 6],oI):=by kernel_rfl
theorem ao6:aE Tryz.prog 70=some (38,[.t 4],ao2):=by kernel_rfl
theorem apQ:aE Tryz.prog 71=some (56,[.t 2],apL):=by kernel_rfl
theorem apR:aE Tryz.prog 72=some (47,[.t 2],apM):=by kernel_rfl
theorem kZ:aE Tryz.prog 73=some (32,[.t 6],kV):=by kernel_rfl
theorem aoQ:aE Tryz.prog 74=some (45,[.t 4],aoL):=by kernel_rfl
theorem aoy:aE Tryz.prog 80=some (8,[.t 3],kG):=by kernel_rfl
theorem apr:aE Tryz.prog 88=some (39,[.t 4],apg):=by kernel_rfl
theorem kE:aE Tryz.prog 102=some (48,[.c 2 2 true],i0):=by kernel_rfl
theorem ap8:aE Tryz.prog 105=some (63,[.t 2],ap6):=by kernel_rfl
theorem aps:aE Tryz.prog 106=some (56,[.t 2],aph):=by kernel_rfl
theorem apt:aE Tryz.prog 107=some (36,[.t 4],api):=by kernel_rfl
theorem apu:aE Tryz.prog 108=some (9,[.t 4],apj):=by kernel_rfl
theorem aoz:aE Tryz.prog 109=some (26,[.t 4],aow):=by kernel_rfl
theorem aoR:aE Tryz.prog 110=some (26,[.t 4],aoM):=by kernel_rfl
theorem aoA:aE Tryz.prog 111=some (26,[.t 4],aox):=by kernel_rfl
theorem aoS:aE Tryz.prog 119=some (88,[.t 4],aoN):=by kernel_rfl
theorem apS:aE Tryz.prog 122=some (20,[.c 4 2 true],aoE):=by kernel_rfl
theorem iE:aE Tryz.prog 123=some (63,[.c 2 6 true],eU):=by kernel_rfl
theorem aoT:aE Tryz.prog 124=some (16,[.c 2 6 true],aoO):=by kernel_rfl
theorem apv:aE Tryz.prog 126=some (94,[.t 2],apk):=by kernel_rfl
theorem tS:aE Tryz.prog 127=some (19,[.c 4 6 true,.t 5],apl):=by kernel_rfl
theorem kC:aE Tryz.prog 128=some (9,[.t 4],r5):=by kernel_rfl
theorem l3:aE Tryz.prog 130=some (19,[.t 4],kY):=by kernel_rfl
theorem aoU:aE Tryz.prog 131=some (8,[.t 3],l4):=by kernel_rfl
theorem vI:aE Tryz.prog 135=some (26,[.t 4],tI):=by kernel_rfl
theorem dS:aE Tryz.prog 138=some (104,[.c 4 2 true],dI):=by kernel_rfl
theorem aoG:aE Tryz.prog 139=some (67,[.c 2 6 true],oS):=by kernel_rfl
theorem l6:aE Tryz.prog 140=some (8,[.t 2],l5):=by kernel_rfl
theorem kQ:aE Tryz.prog 141=some (8,[.t 2],kH):=by kernel_rfl
theorem apw:aE Tryz.prog 142=some (42,[.t 2],apm):=by kernel_rfl
theorem aoV:aE Tryz.prog 143=some (19,[.t 4],aoP):=by kernel_rfl
section
section
variable {α β γ:Type} (f:α→Int→β) (g:α→β) (c:α→Nat)
end
section
variable {α:Type} (r:α→List TV) (f:α→Int→α) (c:α→Nat)
end
theorem Ent.eq' {a b:Ent} (h0:a.name=b.name) (h1:a.ino=b.ino):a=b:=by cases a; cases b; simp_all
theorem Attr.eq' {a b:Attr} (h0:a.name=b.name) (h1:a.val=b.val):a=b:=by cases a; cases b; simp_all
theorem Inode.eq' {a b:Inode} (h0:a.ino=b.ino) (h1:a.kind=b.kind) (h2:a.links=b.links) (h3:a.data=b.data) (h4:a.ents=b.ents) (h5:a.attrs=b.attrs):a=b:=by cases a; cases b; simp_all
theorem Tab.eq' {a b:Tab} (h0:a.inodes=b.inodes) (h1:a.next=b.next):a=b:=by cases a; cases b; simp_all
theorem Vol.eq' {a b:Vol} (h0:a.id=b.id) (h1:a.name=b.name) (h2:a.ro=b.ro) (h3:a.limit=b.limit) (h4:a.t=b.t):a=b:=by cases a; cases b; simp_all
theorem Fs.eq' {a b:Fs} (h0:a.vols=b.vols) (h1:a.next=b.next):a=b:=by cases a; cases b; simp_all
theorem Op.eq' {a b:Op} (h0:a.kind=b.kind) (h1:a.vol=b.vol) (h2:a.path=b.path) (h3:a.to'=b.to') (h4:a.off=b.off) (h5:a.data=b.data):a=b:=by cases a; cases b; simp_all
end
section
section
variable (nb:Int→Option (List Int))
structure Que (out next:List Int):Prop where
 nodup:out.Nodup
 reach:∀ x ∈ out,Reach nb x
 from':∀ x ∈ next,(nb x).isSome=true→Reach nb x
 shut:∀ i ∈ out,∀ x ∈ (nb i).getD [],(nb x).isSome=true→x ∈ out∨x ∈ next
 root:(nb 1).isSome=true→1 ∈ out∨1 ∈ next
theorem aqA:Que nb [] [1]:=⟨by simp,by simp,fun x hx h=>by simp only [lC1] at hx; subst hx; exact .root h,by simp,fun _=>.inr (by simp)⟩
theorem apC {out next:List Int} {i:Int} (q:Que nb out (i::next)) (h:nb i=none∨i ∈ out):Que nb out next:=by
 refine ⟨q.nodup,q.reach,fun x hx=>q.from' x (by simp [hx]),fun k hk x hx hs=>?_,fun h1=>?_⟩
 ·rcases q.shut k hk x hx hs with h' | h'
  ·exact .inl h'
  ·rcases lG.1 h' with rfl | h'
   ·rcases h with h | h
    ·rw [h] at hs; exact absurd hs (by simp)
    ·exact .inl h
   ·exact .inr h'
 ·rcases q.root h1 with h' | h'
  ·exact .inl h'
  ·rcases lG.1 h' with rfl | h'
   ·rcases h with h | h
    ·rw [h] at h1; exact absurd h1 (by simp)
    ·exact .inl h
   ·exact .inr h'
theorem apD {out next l:List Int} {i:Int} (q:Que nb out (i::next)) (h:nb i=some l) (hn:i ∉ out):Que nb (out++[i]) (next++l):=by
 have hr:Reach nb i:=q.from' i (by simp) (by rw [h]; rfl)
 refine ⟨?_,fun x hx=>?_,fun x hx hs=>?_,fun k hk x hx hs=>?_,fun h1=>?_⟩
 ·rw [List.nodup_append]
  refine ⟨q.nodup,by simp,fun a ha b hb=>?_⟩
  rw [lC1.1 hb]
  rintro rfl
  exact hn ha
 ·rcases lL.1 hx with hx | hx
  ·exact q.reach x hx
  ·rw [lC1.1 hx]; exact hr
 ·rcases lL.1 hx with hx | hx
  ·exact q.from' x (by simp [hx]) hs
  ·exact .step i x l hr h hx hs
 ·rcases lL.1 hk with hk | hk
  ·rcases q.shut k hk x hx hs with h' | h'
   ·exact .inl (by simp [h'])
   ·rcases lG.1 h' with rfl | h'
    ·exact .inl (by simp)
    ·exact .inr (by simp [h'])
  ·rw [lC1.1 hk,h] at hx
   exact .inr (by simpa using .inr hx)
 ·rcases q.root h1 with h' | h'
  ·exact .inl (by simp [h'])
  ·rcases lG.1 h' with rfl | h'
   ·exact .inl (by simp)
   ·exact .inr (by simp [h'])
theorem aqU {out:List Int} (q:Que nb out []) (x:Int):x ∈ out↔Reach nb x:=by
 refine ⟨q.reach x,fun h=>?_⟩
 induction h with
 | root h=>exact (q.root h).resolve_right (by simp)
 | step i j l hi hl hj hs ih=>exact (q.shut i ih j (by rw [hl]; exact hj) hs).resolve_right (by simp)
theorem apT {n:Nat} (hn:∀ l:List Int,l.Nodup→(∀ x ∈ l,(nb x).isSome=true)→l.length≤n) {out:List Int} (q:Que nb out []) :
  out.mergeSort (fun x y=>decide (x≤y))=rJ nb n:=by
 refine ani ?_ (aab nb n) fun x=>?_
 ·have h1:=List.pairwise_mergeSort (le:=fun x y:Int=>decide (x≤y)) (by intro a b c; simp; omega) (by intro a b; simp; omega) out
  have h2:(out.mergeSort (fun x y=>decide (x≤y))).Nodup:=(List.mergeSort_perm out _).nodup_iff.2 q.nodup
  have:Up (out.mergeSort (fun x y=>decide (x≤y))):=(h1.and h2).imp fun ⟨a,b⟩=>by simp at a; omega
  exact this
 ·rw [(List.mergeSort_perm out _).mem_iff,aqU nb q,ae1 nb hn]
theorem aqV {n:Nat} (hn:∀ l:List Int,l.Nodup→(∀ x ∈ l,(nb x).isSome=true)→l.length≤n) {out next:List Int} (q:Que nb out next):out.length≤n:=
 hn out q.nodup fun x hx=>n9 nb (q.reach x hx)
end
end
theorem aqB:bR Tryz.prog 42 [] zFs.o []:=by
 refine Vw ap7 [] 1 [] fun w hP hQ=>?_
 rfl
theorem m3 (x:Int):bR Tryz.prog 63 [.int .i64 x] (.bool (inR x 32 4000)) [.undef]:=by
 refine Vw apq [] 5 [] fun w hP hQ=>?_
 exact K (aoc x 32 4000) trivial
theorem vS {g:Nat} {cs:List TV} {p:Vol→Bool} (hc:∀ v:Vol,bR Tryz.prog g [v.x,.xbox cs] (.bool (p v)) [.undef,.undef]) (l:List Vol) (hl:l.length<2^48) :
  bR Tryz.prog 67 [.ext 6 (l.map Vol.row),.fn g [.xbox cs]] (.int .i64 (uL (l.findIdx? p))) [.undef,.undef]:=by
 refine Vw pI [] 435 [] fun w hP hQ=>?_
 refine iV [4,5] ?_
 refine N ?_
 refine bG [4,5] (fun i:Nat=>[(8,.int .i64 i)]) (fun i=>i≤l.length∧∀ k,k<i→(h:k<l.length)→p l[k]=false) (fun i=>l.length-i) (0) hP hQ (rfl) (by simp) ?_
 rintro i ⟨hi,hk⟩ w1 hP1 hQ1
 refine N1 ?_
 refine Jf (fun h1=>?_) fun h1=>?_
 ·have hz:=(bW h1)
  refine Nz1 ?_
  cases h2:p (l[i]'(by omega)) with
  | true=>
   have hz:=h2
   refine Kz1 (hc (l[i]'(by omega))) ?_
   rw [r9 hk (by omega) h2]; rfl
  | false=>
   have hz:=h2
   refine Kz1 (hc (l[i]'(by omega))) ?_
   exact ⟨i+1,rfl,⟨by omega,t7 hk (by omega) h2⟩,by omega⟩
 ·obtain rfl:i=l.length:=by omega
  refine N1 ?_
  rw [sA fun k h=>hk k h h]; rfl
theorem aoW (v:Vol) (n:aA):bR Tryz.prog 80 [v.x,.xbox [.str n]] (.bool (decide (v.name=n))) [.undef,.undef]:=by
 refine U aoy [] 15 [] fun w hP hQ=>?_
 unfold kG
 exact N trivial
theorem x1 (f:Fs) (n:aA) (hl:f.vols.length<2^48):bR Tryz.prog 28 [f.x,.str n] (.int .i64 (uL (eP f n))) [.undef,.undef]:=by
 refine Vw ao4 [] 31 [] fun w hP hQ=>?_
 refine K (vS (fun v=>aoW v n) f.vols hl) ?_
 rfl
theorem aq0 (n:Nat):n<45∨n=45∨n=46∨n=47∨(48≤n∧n≤57)∨(58≤n∧n≤94)∨n=95∨n=96∨(97≤n∧n≤122)∨122<n:=by omega
theorem eI (s:aA) (hl:s.length<2^48):bR Tryz.prog 71 [.str s] (.bool (aW s)) [.undef]:=by
 refine Vw apQ [] 221 [] fun w hP hQ=>?_
 refine iV [2,3,4] ?_
 refine N ?_
 refine bG [2,3,4] (fun i:Nat=>[(7,.int .i64 i)]) (fun i=>i≤s.length∧∀ k,k<i→(h:k<s.length)→okc s[k]=true) (fun i=>s.length-i) (0) hP hQ (rfl) (by simp) ?_
 rintro i ⟨hi,hk⟩ w1 hP1 hQ1
 refine N1 ?_
 refine Jf (fun h1=>?_) fun h1=>?_
 ·have aa:i<s.length:=by omega
  have ac:okc s[i]=false→aW s=false:=fun h=>akd aa h
  have ah:okc s[i]=true→_:=fun h=>ake hk aa h
  have hz:=(bW h1)
  refine Nz1 ?_
  generalize s[i]=c at *
  rcases aq0 c.toNat with h | h | h | h | h | h | h | h | h | h
  all_goals (simp +decide (maxSteps:=9^9) (disch:=omega) only[↓SB0,SX,seval,hQ,hQ1,anR,anS])
  all_goals first
   | (rw [ac (anm (by omega))]; done)
   | exact ⟨i+1,rfl,⟨by omega,ah (acj (by omega))⟩,by omega⟩
 ·obtain rfl:i=s.length:=by omega
  have au:s.all okc=true:=ann fun k h=>hk k h h
  refine N1 ?_
  refine Jg (fun g1=>?_) fun g1=>?_
  rotate_left
  ·have hz:=g1
   refine Nz ?_
   simp [aW,au]; omega
  have hz:=g1
  refine Nz ?_
  refine Jg (fun g2=>?_) fun g2=>?_
  rotate_left
  ·have hz:=g2
   refine Nz ?_
   simp [aW,au]; omega
  have hz:=g2
  refine Nz ?_
  refine Jg (fun g3=>?_) fun g3=>?_
  ·have hz:=g3
   refine Nz ?_
   simp [aW,g3]
  have hz:=g3
  refine Nz ?_
  simp [aW,au,g3]
  try omega
theorem aoH (l:List Attr) (hs:szM Attr.sz l<2^48):bR Tryz.prog 142 [.ext 2 (l.map Attr.row)] (.bool (rM l)) [.undef]:=by
 obtain ⟨hl,ak⟩:=amh hs
 refine Vw apw [] 253 [] fun w hP hQ=>?_
 refine iV [2,3,4,5004] ?_
 refine N ?_
 refine bG [2,3,4,5004] (fun i:Nat=>[(7,.int .i64 i)]) (fun i=>i≤l.length∧∀ k,k<i→eG (fun _=>aaj) tU l k=true) (fun i=>l.length-i) (0) hP hQ (rfl) (by simp) ?_
 rintro i ⟨hi,hk⟩ w1 hP1 hQ1
 refine N1 ?_
 refine Jf (fun h1=>?_) fun h1=>?_
 ·have aa:i<l.length:=by omega
  have am:eG (fun _=>aaj) tU l i=false→rM l=false:=fun e=>(fun e=>by rw [rM,xK,e]; rfl) (r7 aa e)
  obtain hla:=ak _ (lQ aa)
  cases hN:aW (l[i]'aa).name with
  | false=>
   have hz:=(bW h1)
   refine Nz1 ?_
   have hz:=hN
   refine Kz1 (eI (l[i]'aa).name (by omega)) ?_
   rw [am (jB aa (by simp [aaj,hN]))]
  | true=>
   cases hV:inR (((l[i]'aa).val.length:Nat)) 1 16 with
   | false=>
    have hz:=(bW h1)
    refine Nz1 ?_
    have hz:=And.intro hN (bW h1)
    refine Kz1 (eI (l[i]'aa).name (by omega)) ?_
    have hz:=hV
    refine Kz1 (aoc (((l[i]'aa).val.length:Nat)) 1 16) ?_
    rw [am (jB aa (by simp [aaj,hV]))]
   | true=>
    cases i with
    | zero=>
     have hz:=(bW h1)
     refine Nz1 ?_
     have hz:=And.intro hN (bW h1)
     refine Kz1 (eI (l[0]'aa).name (by omega)) ?_
     have hz:=And.intro hV (bW h1)
     refine Kz1 (aoc (((l[0]'aa).val.length:Nat)) 1 16) ?_
     exact ⟨1,rfl,⟨by omega,nS hk (by rw [iP aa]; simp [aaj,hN,hV])⟩,by omega⟩
    | succ m=>
     have w4:decide ((0:Int)<((m+1:Nat):Int))=true:=lM (by omega)
     have hm:=bW (show ((m:Nat):Int)<(l.length:Nat) by omega)
     cases hD:strLt (l[m]'(by omega)).name (l[m+1]'aa).name with
     | false=>
      have hz:=(bW h1)
      refine Nz1 ?_
      have hz:=And.intro hN (bW h1)
      refine Kz1 (eI (l[m+1]'aa).name (by omega)) ?_
      have hz:=And.intro hV (And.intro w4 (And.intro bX (And.intro hm (And.intro (bW h1) hD))))
      refine Kz1 (aoc (((l[m+1]'aa).val.length:Nat)) 1 16) ?_
      rw [am (by rw [c6 aa,tU,← pZ,hD]; simp)]
     | true=>
      have hz:=(bW h1)
      refine Nz1 ?_
      have hz:=And.intro hN (bW h1)
      refine Kz1 (eI (l[m+1]'aa).name (by omega)) ?_
      have hz:=And.intro hV (And.intro w4 (And.intro bX (And.intro hm (And.intro (bW h1) hD))))
      refine Kz1 (aoc (((l[m+1]'aa).val.length:Nat)) 1 16) ?_
      exact ⟨m+1+1,rfl,⟨by omega,nS hk (by rw [c6 aa,tU,← pZ,hD]; simp [aaj,hN,hV])⟩,by omega⟩
 ·obtain rfl:i=l.length:=by omega
  have e:xK l=true:=nO fun k h=>hk k h
  refine N1 ?_
  rw [rM,e,lV4]
  rw [ami (p:=(l.length:Int)≤4) (q:=l.length≤4) (by omega)]
theorem x3 (a b:aA) (ha:a.length<2^48) (hb:b.length<2^48):bR Tryz.prog 135 [.ext 1 (aM a),.ext 1 (aM b)] (.bool (decide (a=b))) [.undef,.undef]:=by
 refine Vw vI [] 51 [] fun w hP hQ=>?_
 refine Jf (fun h=>?_) fun h=>?_
 ·refine N ?_
  refine iV [4] ?_
  refine N ?_
  refine bG [4] (fun i:Nat=>[(5,.int .i64 i)]) (fun i=>i≤a.length∧a.take i=b.take i) (fun i=>a.length-i) (0) hP hQ (rfl) (by simp) ?_
  rintro i ⟨hi,ae⟩ w1 hP1 hQ1
  refine N1 ?_
  refine Jf (fun h1=>?_) fun h1=>?_
  ·have hz:=And.intro (bW h1) (bW (h ▸ h1))
   refine Nz1 ?_
   refine Jf (fun h2=>?_) fun h2=>?_
   ·refine N1 ?_
    exact ⟨i+1,rfl,⟨by omega,zW ae _ _ (UInt8.toNat_inj.1 (by omega))⟩,by omega⟩
   ·refine N1 ?_
    rw [lC]
    rintro rfl; exact h2 rfl
  ·refine N1 ?_
   rw [lM (anD ae (by omega) (by omega))]
 ·have hz:=hQ
  refine Nz ?_
  rw [lC]
  rintro rfl; exact h rfl
theorem aoB (a b:aA) (ha:a.length<2^48) (hb:b.length<2^48):bR Tryz.prog 109 [.ext 1 (aM a),.ext 1 (aM b)] (.bool (decide (a=b))) [.undef,.undef]:=by
 refine Vw aoz [] 12339 [] fun w hP hQ=>?_
 refine Jf (fun h=>?_) fun h=>?_
 ·refine N ?_
  refine iV [4,5] ?_
  refine N ?_
  refine bG [4,5] (fun i:Nat=>[(13,.int .i64 i)]) (fun i=>i≤a.length∧a.take i=b.take i) (fun i=>a.length-i) (0) hP hQ (rfl) (by simp) ?_
  rintro i ⟨hi,ae⟩ w1 hP1 hQ1
  refine N1 ?_
  refine Jf (fun h1=>?_) fun h1=>?_
  ·have hz:=And.intro (bW h1) (bW (h ▸ h1))
   refine Nz1 ?_
   refine Jf (fun h2=>?_) fun h2=>?_
   ·refine N1 ?_
    exact ⟨i+1,rfl,⟨by omega,zW ae _ _ (UInt8.toNat_inj.1 (by omega))⟩,by omega⟩
   ·refine N1 ?_
    rw [lC]
    rintro rfl; exact h2 rfl
  ·refine N1 ?_
   rw [lM (anD ae (by omega) (by omega))]
 ·have hz:=hQ
  refine Nz ?_
  rw [lC]
  rintro rfl; exact h rfl
theorem aoX (a b:List Ent) (ha:a.length<2^48) (hb:b.length<2^48):bR Tryz.prog 110 [.ext 2 (a.map Ent.row),.ext 2 (b.map Ent.row)] (.bool (decide (a=b))) [.undef,.undef]:=by
 refine Vw aoR [] 12339 [] fun w hP hQ=>?_
 refine Jf (fun h=>?_) fun h=>?_
 ·refine N ?_
  refine iV [4,5] ?_
  refine N ?_
  refine bG [4,5] (fun i:Nat=>[(13,.int .i64 i)]) (fun i=>i≤a.length∧a.take i=b.take i) (fun i=>a.length-i) (0) hP hQ (rfl) (by simp) ?_
  rintro i ⟨hi,ae⟩ w1 hP1 hQ1
  refine N1 ?_
  refine Jf (fun h1=>?_) fun h1=>?_
  ·have hz:=And.intro (bW h1) (bW (h ▸ h1))
   refine Nz1 ?_
   refine Jf (fun h2=>?_) fun h2=>?_
   ·refine N1 ?_
    exact ⟨i+1,rfl,⟨by omega,zW ae _ _ (Ent.eq' (by simp at h2; exact h2.1) (by simp at h2; exact h2.2))⟩,by omega⟩
   ·refine N1 ?_
    rw [lC]
    rintro rfl; simp at h2
  ·refine N1 ?_
   rw [lM (anD ae (by omega) (by omega))]
 ·have hz:=hQ
  refine Nz ?_
  rw [lC]
  rintro rfl; exact h rfl
theorem aoC (a b:List Attr) (ha:a.length<2^48) (hb:b.length<2^48):bR Tryz.prog 111 [.ext 2 (a.map Attr.row),.ext 2 (b.map Attr.row)] (.bool (decide (a=b))) [.undef,.undef]:=by
 refine Vw aoA [] 12339 [] fun w hP hQ=>?_
 refine Jf (fun h=>?_) fun h=>?_
 ·refine N ?_
  refine iV [4,5] ?_
  refine N ?_
  refine bG [4,5] (fun i:Nat=>[(13,.int .i64 i)]) (fun i=>i≤a.length∧a.take i=b.take i) (fun i=>a.length-i) (0) hP hQ (rfl) (by simp) ?_
  rintro i ⟨hi,ae⟩ w1 hP1 hQ1
  refine N1 ?_
  refine Jf (fun h1=>?_) fun h1=>?_
  ·have hz:=And.intro (bW h1) (bW (h ▸ h1))
   refine Nz1 ?_
   refine Jf (fun h2=>?_) fun h2=>?_
   ·refine N1 ?_
    exact ⟨i+1,rfl,⟨by omega,zW ae _ _ (Attr.eq' (by simp at h2; exact h2.1) (by simp at h2; exact h2.2))⟩,by omega⟩
   ·refine N1 ?_
    rw [lC]
    rintro rfl; simp at h2
  ·refine N1 ?_
   rw [lM (anD ae (by omega) (by omega))]
 ·have hz:=hQ
  refine Nz ?_
  rw [lC]
  rintro rfl; exact h rfl
theorem s6 {p q:Prop} [Decidable p] [Decidable q] (h:p↔q):decide p=decide q:=by simp [h]
theorem ao7 (a b:Inode) (ha:a.sz<2^40) (hb:b.sz<2^40):bR Tryz.prog 74 [a.x,b.x] (.bool (decide (a=b))) [.undef,.undef]:=by
 obtain ⟨a1,a2,a3⟩:=jC ha
 obtain ⟨b1,b2,b3⟩:=jC hb
 refine Vw aoQ [] 31 [] fun w hP hQ=>?_
 refine Jg (fun h0=>?_) fun h0=>?_
 rotate_left
 ·have hz:=h0
  refine Nz ?_
  rw [lC (show ¬ a=b from fun h=>h0 (by rw [h]))]
 have hz:=h0
 refine Nz ?_
 refine Jg (fun h1=>?_) fun h1=>?_
 rotate_left
 ·have hz:=h1
  refine Nz ?_
  rw [lC (show ¬ a=b from fun h=>h1 (by rw [h]))]
 have hz:=h1
 refine Nz ?_
 refine Jg (fun h2=>?_) fun h2=>?_
 rotate_left
 ·have hz:=h2
  refine Nz ?_
  rw [lC (show ¬ a=b from fun h=>h2 (by rw [h]))]
 have hz:=h2
 refine Nz ?_
 refine K (aoB a.data b.data (by omega) (by omega)) ?_
 refine Jg (fun h3=>?_) fun h3=>?_
 rotate_left
 ·have hz:=h3
  refine Nz ?_
  rw [lC (show ¬ a=b from fun h=>h3 (by rw [h]))]
 have hz:=h3
 refine Nz ?_
 refine K (aoX a.ents b.ents (by omega) (by omega)) ?_
 refine Jg (fun h4=>?_) fun h4=>?_
 rotate_left
 ·have hz:=h4
  refine Nz ?_
  rw [lC (show ¬ a=b from fun h=>h4 (by rw [h]))]
 have hz:=h4
 refine Nz ?_
 refine K (aoC a.attrs b.attrs (by omega) (by omega)) ?_
 rw [s6 (p:=a=b) ⟨fun h=>by rw [h],fun h=>Inode.eq' h0 h1 h2 h3 h4 h⟩]
theorem aqC {x:Inode} (e:adp x.ents=false):j4 x=false:=by simp [j4,aak,e]
theorem kB (x:Inode) (h:x.sz<2^48):bR Tryz.prog 126 [x.x] (.bool (j4 x)) [.undef]:=by
 obtain ⟨h1,h2,h3,h4,h5⟩:=ahZ h
 obtain ⟨hl,ak⟩:=anp h2
 refine Vw apv [] 75557863725916202467359 [] fun w hP hQ=>?_
 rcases iT (inR x.ino 1 1000) with hA | hA
 ·have hz:=hA
  refine Kz (aoc x.ino 1 1000) ?_
  simp [j4,hA]
 have hz:=hA
 refine Kz (aoc x.ino 1 1000) ?_
 refine Jg (fun hD=>?_) fun hD=>?_
 ·have hz:=hD
  refine Nz ?_
  simp [j4]; omega
 have hz:=hD
 refine Nz ?_
 refine Jg (fun hG=>?_) fun hG=>?_
 ·have hz:=hG
  refine Nz ?_
  simp [j4,aak]; omega
 have hz:=hG
 refine Nz ?_
 rcases iT (rM x.attrs) with hF | hF
 ·have hz:=hF
  refine Kz (aoH x.attrs h3) ?_
  simp [j4,hF]
 have hz:=hF
 refine Kz (aoH x.attrs h3) ?_
 refine iV [2,3,4,5004] ?_
 refine N ?_
 refine bG [2,3,4,5004] (fun i:Nat=>[(30,.int .i64 i)]) (fun i=>i≤x.ents.length∧∀ k,k<i→eG (fun _=>akU) acd x.ents k=true) (fun i=>x.ents.length-i) (0) hP hQ (rfl) (by simp) ?_
 rintro i ⟨hi,hk⟩ w1 hP1 hQ1
 refine N1 ?_
 refine Jf (fun h1=>?_) fun h1=>?_
 ·have aa:i<x.ents.length:=by omega
  have am:eG (fun _=>akU) acd x.ents i=false→j4 x=false:=fun e=>aqC (r7 aa e)
  obtain hla:=ak _ (lQ aa)
  cases hN:aW (x.ents[i]'aa).name with
  | false=>
   have hz:=(bW h1)
   refine Nz1 ?_
   have hz:=hN
   refine Kz1 (eI (x.ents[i]'aa).name (by omega)) ?_
   rw [am (jB aa (by simp [akU,hN]))]
  | true=>
   cases hV:inR ((x.ents[i]'aa).ino) 2 1000 with
   | false=>
    have hz:=(bW h1)
    refine Nz1 ?_
    have hz:=And.intro hN (bW h1)
    refine Kz1 (eI (x.ents[i]'aa).name (by omega)) ?_
    have hz:=hV
    refine Kz1 (aoc ((x.ents[i]'aa).ino) 2 1000) ?_
    rw [am (jB aa (by simp [akU,hV]))]
   | true=>
    cases i with
    | zero=>
     have hz:=(bW h1)
     refine Nz1 ?_
     have hz:=And.intro hN (bW h1)
     refine Kz1 (eI (x.ents[0]'aa).name (by omega)) ?_
     have hz:=And.intro hV (bW h1)
     refine Kz1 (aoc ((x.ents[0]'aa).ino) 2 1000) ?_
     exact ⟨1,rfl,⟨by omega,nS hk (by rw [iP aa]; simp [akU,hN,hV])⟩,by omega⟩
    | succ m=>
     have w4:decide ((0:Int)<((m+1:Nat):Int))=true:=lM (by omega)
     have hm:=bW (show ((m:Nat):Int)<(x.ents.length:Nat) by omega)
     cases hD:strLt (x.ents[m]'(by omega)).name (x.ents[m+1]'aa).name with
     | false=>
      have hz:=(bW h1)
      refine Nz1 ?_
      have hz:=And.intro hN (bW h1)
      refine Kz1 (eI (x.ents[m+1]'aa).name (by omega)) ?_
      have hz:=And.intro hV (And.intro w4 (And.intro bX (And.intro hm (And.intro (bW h1) hD))))
      refine Kz1 (aoc ((x.ents[m+1]'aa).ino) 2 1000) ?_
      rw [am (by rw [c6 aa,acd,← pZ,hD]; simp)]
     | true=>
      have hz:=(bW h1)
      refine Nz1 ?_
      have hz:=And.intro hN (bW h1)
      refine Kz1 (eI (x.ents[m+1]'aa).name (by omega)) ?_
      have hz:=And.intro hV (And.intro w4 (And.intro bX (And.intro hm (And.intro (bW h1) hD))))
      refine Kz1 (aoc ((x.ents[m+1]'aa).ino) 2 1000) ?_
      exact ⟨m+1+1,rfl,⟨by omega,nS hk (by rw [c6 aa,acd,← pZ,hD]; simp [akU,hN,hV])⟩,by omega⟩
 ·obtain rfl:i=x.ents.length:=by omega
  have hE:adp x.ents=true:=nO fun k h=>hk k h
  refine N1 ?_
  rcases iT (inR x.links 0 1000) with hB | hB
  ·have hz:=hB
   refine Kz (aoc x.links 0 1000) ?_
   simp [j4,hB]
  have hz:=hB
  refine Kz (aoc x.links 0 1000) ?_
  refine Jf (fun hC=>?_) fun hC=>?_
  rotate_left
  ·refine N ?_
   simp [j4,hC]
  refine N ?_
  have key:j4 x=aal x:=by
   simp [j4,aak,hA,hB,hC,hE,hF,lM (show x.data.length≤100 by omega),lM (show x.ents.length≤10 by omega)]
  refine Jf (fun k1=>?_) fun k1=>?_
  ·refine N ?_
   rw [key,aal,lF k1,ami (p:=(x.ents.length:Int)=0) (q:=x.ents.length=0) (by omega)]
  refine N ?_
  refine Jf (fun k2=>?_) fun k2=>?_
  ·refine N ?_
   refine Jg (fun k3=>?_) fun k3=>?_
   ·have hz:=k3
    refine Nz ?_
    rw [key,aal,lK k1,lF k2,lM (show x.data.length=0 by omega),lV4]
   ·have hz:=k3
    refine Nz ?_
    rw [key,aal,lK k1,lF k2,lC (show ¬ x.data.length=0 by omega),lD2]
  ·refine N ?_
   rw [key,aal,lK k1,lK k2]
theorem p3 {g:Nat} {cs:List TV} {p:Inode→Bool} (hc:∀ v:Inode,bR Tryz.prog g [v.x,.xbox cs] (.bool (p v)) [.undef,.undef]) (l:List Inode) (hl:l.length<2^48) :
  bR Tryz.prog 130 [.ext 6 (l.map Inode.row),.fn g [.xbox cs]] (.int .i64 (uL (l.findIdx? p))) [.undef,.undef]:=by
 refine Vw l3 [] 435 [] fun w hP hQ=>?_
 refine iV [4,5] ?_
 refine N ?_
 refine bG [4,5] (fun i:Nat=>[(8,.int .i64 i)]) (fun i=>i≤l.length∧∀ k,k<i→(h:k<l.length)→p l[k]=false) (fun i=>l.length-i) (0) hP hQ (rfl) (by simp) ?_
 rintro i ⟨hi,hk⟩ w1 hP1 hQ1
 refine N1 ?_
 refine Jf (fun h1=>?_) fun h1=>?_
 ·have hz:=(bW h1)
  refine Nz1 ?_
  cases h2:p (l[i]'(by omega)) with
  | true=>
   have hz:=h2
   refine Kz1 (hc (l[i]'(by omega))) ?_
   rw [r9 hk (by omega) h2]; rfl
  | false=>
   have hz:=h2
   refine Kz1 (hc (l[i]'(by omega))) ?_
   exact ⟨i+1,rfl,⟨by omega,t7 hk (by omega) h2⟩,by omega⟩
 ·obtain rfl:i=l.length:=by omega
  refine N1 ?_
  rw [sA fun k h=>hk k h h]; rfl
theorem ao8 (x:Inode) (n:Int):bR Tryz.prog 131 [x.x,.xbox [.int .i64 n]] (.bool (decide (x.ino=n))) [.undef,.undef]:=by
 refine U aoU [] 15 [] fun w hP hQ=>?_
 unfold l4
 exact N trivial
theorem aoI (t:Tab) (n:Int) (hl:t.inodes.length<2^48):bR Tryz.prog 108 [t.x,.int .i64 n] (.int .i64 (uL (cM t n))) [.undef,.undef]:=by
 refine Vw apu [] 31 [] fun w hP hQ=>?_
 refine K (p3 (fun v=>ao8 v n) t.inodes hl) ?_
 rfl
theorem aqD (l:List Ent) (hl:l.length<2^40):bR Tryz.prog 140 [.ext 2 (l.map Ent.row)] (.own 2 (l.map Ent.row)) [.undef]:=by
 refine ag6 fun a len cap ha=>?_
 cases a with
 | none=>
  obtain rfl:l=[]:=by simpa using ha rfl
  refine U l6 [] 5 [] fun w hP hQ=>?_
  unfold l5
  exact N trivial
 | some a=>
  refine Vw l6 [] 5 [] fun w hP hQ=>?_
  have hz:=ah0
  exact Nz trivial
theorem aqE (l:List Attr) (hl:l.length<2^40):bR Tryz.prog 141 [.ext 2 (l.map Attr.row)] (.own 2 (l.map Attr.row)) [.undef]:=by
 refine ag6 fun a len cap ha=>?_
 cases a with
 | none=>
  obtain rfl:l=[]:=by simpa using ha rfl
  refine U kQ [] 5 [] fun w hP hQ=>?_
  unfold kH
  exact N trivial
 | some a=>
  refine Vw kQ [] 5 [] fun w hP hQ=>?_
  have hz:=ah1
  exact Nz trivial
theorem ao9 (x:Inode) (h:x.sz<2^40):bR Tryz.prog 124 [x.x] x.o [.undef]:=by
 obtain ⟨h1,h2,h3⟩:=jC h
 refine Vw aoT [] 7 [] fun w hP hQ=>?_
 refine K (anF x.data (by omega)) ?_
 refine K (aqD x.ents (by omega)) ?_
 exact K (aqE x.attrs (by omega)) trivial
theorem aoJ (t:Tab) (n:Int) (h:t.sz<2^40):bR Tryz.prog 127 [t.x,.int .i64 n] (.tup [(amj t n).o,.bool (aC t n).isSome]) [.undef,.undef]:=by
 obtain ⟨h1,h2⟩:=eS h
 have bc:=aoI t n (by omega)
 cases e:cM t n with
 | none=>
  rw [e] at bc
  rw [amj,aay e]
  refine Vw tS [] 119 [] fun w hP hQ=>?_
  refine K (bc) ?_
  rfl
 | some k=>
  have hk:=vX e
  rw [e,show uL (some k)=(k:Int) from rfl] at bc
  rw [amj,sD e]
  refine Vw tS [] 119 [] fun w hP hQ=>?_
  refine K (bc) ?_
  refine Jf (fun hx=>?_) fun hx=>?_
  ·exfalso; omega
  have hz:=(bW (show ((k:Nat):Int)<(t.inodes.length:Nat) by omega))
  refine Nz ?_
  refine K (ao9 (t.inodes[k]'hk) (h2 _ (lQ hk))) ?_
  rfl
theorem apE (t:Tab) (h:t.sz<2^40):bR Tryz.prog 105 [t.x] (.bool (ae8 t)) [.undef]:=by
 obtain ⟨hl,ak⟩:=eS h
 refine Vw ap8 [] 1835135 [] fun w hP hQ=>?_
 refine Jg (fun hA=>?_) fun hA=>?_
 ·have hz:=hA
  refine Nz ?_
  simp [ae8]; omega
 have hz:=hA
 refine Nz ?_
 rcases iT (inR t.next 2 1000) with hB | hB
 ·have hz:=hB
  refine Kz (aoc t.next 2 1000) ?_
  simp [ae8,hB]
 have hz:=hB
 refine Kz (aoc t.next 2 1000) ?_
 refine iV [2,3,4,5004] ?_
 refine N ?_
 refine bG [2,3,4,5004] (fun i:Nat=>[(20,.int .i64 i)]) (fun i=>i≤t.inodes.length∧∀ k,k<i→eG (fun _=>p7 t) mJ t.inodes k=true) (fun i=>t.inodes.length-i) (0) hP hQ (rfl) (by simp) ?_
 rintro i ⟨hi,hk⟩ w1 hP1 hQ1
 refine N1 ?_
 refine Jf (fun h1=>?_) fun h1=>?_
 ·have aa:i<t.inodes.length:=by omega
  have am:eG (fun _=>p7 t) mJ t.inodes i=false→ae8 t=false:=fun e=>afh (r7 aa e)
  have hla:=ak _ (lQ aa)
  cases hN:j4 (t.inodes[i]'aa) with
  | false=>
   have hz:=(bW h1)
   refine Nz1 ?_
   have hz:=hN
   refine Kz1 (kB (t.inodes[i]'aa) (by omega)) ?_
   rw [am (jB aa (by simp [p7,hN]))]
  | true=>
   cases hV:decide (t.next≤(t.inodes[i]'aa).ino) with
   | true=>
    have hV':=of_decide_eq_true hV
    have hz:=(bW h1)
    refine Nz1 ?_
    have hz:=And.intro hN hV
    refine Kz1 (kB (t.inodes[i]'aa) (by omega)) ?_
    rw [am (jB aa (by simp [p7]; omega))]
   | false=>
    have hV':=of_decide_eq_false hV
    cases i with
    | zero=>
     have hz:=(bW h1)
     refine Nz1 ?_
     have hz:=And.intro hN hV
     refine Kz1 (kB (t.inodes[0]'aa) (by omega)) ?_
     exact ⟨1,rfl,⟨by omega,nS hk (by rw [iP aa]; simp [p7,hN]; omega)⟩,by omega⟩
    | succ m=>
     have w4:decide ((0:Int)<((m+1:Nat):Int))=true:=lM (by omega)
     have hm:=bW (show ((m:Nat):Int)<(t.inodes.length:Nat) by omega)
     cases hD:decide ((t.inodes[m+1]'aa).ino≤(t.inodes[m]'(by omega)).ino) with
     | true=>
      have hD':=of_decide_eq_true hD
      have hz:=(bW h1)
      refine Nz1 ?_
      have hz:=And.intro hN (And.intro hV (And.intro w4 (And.intro bX (And.intro hm (And.intro (bW h1) hD)))))
      refine Kz1 (kB (t.inodes[m+1]'aa) (by omega)) ?_
      rw [am (by rw [c6 aa,mJ]; simp; omega)]
     | false=>
      have hD':=of_decide_eq_false hD
      have hz:=(bW h1)
      refine Nz1 ?_
      have hz:=And.intro hN (And.intro hV (And.intro w4 (And.intro bX (And.intro hm (And.intro (bW h1) hD)))))
      refine Kz1 (kB (t.inodes[m+1]'aa) (by omega)) ?_
      exact ⟨m+1+1,rfl,⟨by omega,nS hk (by rw [c6 aa,mJ]; simp [p7,hN]; omega)⟩,by omega⟩
 ·obtain rfl:i=t.inodes.length:=by omega
  have hE:oD t=true:=nO fun k h=>hk k h
  have key:ae8 t=xL t:=by
   simp [ae8,hB,hE,lM (show t.inodes.length≤30 by omega)]
  have hI:=aoJ t 1 h
  refine N1 ?_
  cases e:aC t 1 with
  | none=>
   have hr:xL t=false:=by rw [xL,e]
   rw [e] at hI
   refine K (hI) ?_
   rw [key,hr]
  | some x=>
   have hr:xL t=decide (x.kind=2):=by rw [xL,e]
   rw [amj,e] at hI
   refine K (hI) ?_
   rw [key,hr]; rfl
theorem apU (t:Tab) (n:Int) (h:t.sz<2^40):bR Tryz.prog 107 [t.x,.int .i64 n] (.int .i64 (aY t n:Nat)) [.undef,.undef]:=by
 obtain ⟨hl,ak⟩:=eS h
 refine Vw apt [] 14695095 [] fun w hP hQ=>?_
 refine iV [7,9,21,22,23,5007,5009] ?_
 refine N ?_
 refine bG [7,9,21,22,23,5007,5009] (fun s:Nat × Nat=>[(5,.int .i64 (s.1:Nat)),(13,.int .i64 (s.2:Nat))]) (fun s=>s.2≤t.inodes.length∧s.1=((t.inodes.take s.2).map (lkF n)).sum) (fun s=>t.inodes.length-s.2) ((0,0)) hP hQ (rfl) (by simp) ?_
 rintro ⟨c,i⟩ ⟨hi,hc⟩ w1 hP1 hQ1
 refine N1 ?_
 simp only at hi hc
 refine Jf (fun h1=>?_) fun h1=>?_
 ·have aa:i<t.inodes.length:=by omega
  have hs:=xF (lkF n) t.inodes i aa
  have hb:=uA t n i
  have hx:=ak _ (lQ aa)
  have hz:=(bW h1)
  refine Nz1 ?_
  generalize t.inodes[i]'aa=x at *
  have be:x.ents.length<2^40:=(jC hx).2.1
  refine Jf (fun an=>?_) fun an=>?_
  ·have hf:=amk (n:=n) an
   refine N1 ?_
   refine iV [9,5009] ?_
   refine N1 ?_
   refine bG [9,5009] (fun s:Nat × Nat=>[(5,.int .i64 (s.1:Nat)),(23,.int .i64 (s.2:Nat))]) (fun s=>s.2≤x.ents.length∧s.1=c+((x.ents.take s.2).map Ent.ino).count n) (fun s=>x.ents.length-s.2) ((c,0)) hP1 hQ1 (rfl) (by simp) ?_
   rintro ⟨d,k⟩ ⟨hk,hd⟩ w2 hP2 hQ2
   refine N2 ?_
   simp only at hk hd
   have hcl:=aco x.ents k n
   refine Jf (fun g1=>?_) fun g1=>?_
   ·have bf:=aki (l:=x.ents) (k:=k) (by omega) n
    have hz:=(bW g1)
    refine Nz2 ?_
    refine Jf (fun g2=>?_) fun g2=>?_
    ·rw [lF g2] at bf
     refine N2 ?_
     exact ⟨(d+1,k+1),rfl,⟨by simp only; omega,by simp only; omega⟩,by simp only; omega⟩
    ·rw [lK g2] at bf
     refine N2 ?_
     exact ⟨(d,k+1),rfl,⟨by simp only; omega,by simp only; omega⟩,by simp only; omega⟩
   ·obtain rfl:k=x.ents.length:=by omega
    rw [lE2] at hd
    refine N2 ?_
    exact ⟨(d,i+1),rfl,⟨by simp only; omega,by simp only; omega⟩,by simp only; omega⟩
  ·have hf:=anr (n:=n) an
   refine N1 ?_
   exact ⟨(c,i+1),rfl,⟨by simp only; omega,by simp only; omega⟩,by simp only; omega⟩
 ·obtain rfl:i=t.inodes.length:=by omega
  rw [lE2,← ah2] at hc
  subst hc
  exact N1 trivial
theorem aoK (t:Tab) (h:t.sz<2^40):bR Tryz.prog 22 [t.x] (.int .i64 (dO t:Nat)) [.undef]:=by
 obtain ⟨hl,ak⟩:=eS h
 refine Vw apn [] 29363887 [] fun w hP hQ=>?_
 refine iV [5,7,22,23,24,5005,5007] ?_
 refine N ?_
 refine bG [5,7,22,23,24,5005,5007] (fun s:Nat × Nat=>[(3,.int .i64 (s.1:Nat)),(11,.int .i64 (s.2:Nat))]) (fun s=>s.2≤t.inodes.length∧s.1=((t.inodes.take s.2).map usF).sum) (fun s=>t.inodes.length-s.2) ((0,0)) hP hQ (rfl) (by simp) ?_
 rintro ⟨c,i⟩ ⟨hi,hc⟩ w1 hP1 hQ1
 refine N1 ?_
 simp only at hi hc
 refine Jf (fun h1=>?_) fun h1=>?_
 ·have aa:i<t.inodes.length:=by omega
  have hs:=xF usF t.inodes i aa
  have hb:=acp t i
  have hx:=ak _ (lQ aa)
  have hae:=akV (t.inodes[i]'aa)
  have hue:usF (t.inodes[i]'aa)=32+(t.inodes[i]'aa).data.length+((t.inodes[i]'aa).attrs.map atF).sum:=rfl
  have hz:=(bW h1)
  refine Nz1 ?_
  generalize t.inodes[i]'aa=x at *
  have be:x.attrs.length<2^40:=(jC hx).2.2
  refine iV [7,5007] ?_
  refine N1 ?_
  refine bG [7,5007] (fun s:Nat × Nat=>[(3,.int .i64 (s.1:Nat)),(24,.int .i64 (s.2:Nat))]) (fun s=>s.2≤x.attrs.length∧s.1=c+(32+x.data.length)+((x.attrs.take s.2).map atF).sum) (fun s=>x.attrs.length-s.2) ((c+(32+x.data.length),0)) hP1 hQ1 (by simp only [Int.natCast_add]; rfl) (by simp) ?_
  rintro ⟨d,k⟩ ⟨hk,hd⟩ w2 hP2 hQ2
  refine N2 ?_
  simp only at hk hd
  have bg:=mD atF x.attrs k
  refine Jf (fun g1=>?_) fun g1=>?_
  ·have bf:=xF atF x.attrs k (by omega)
   have hal':=mD atF x.attrs (k+1)
   have hae':atF (x.attrs[k]'(by omega))=(x.attrs[k]'(by omega)).name.length+(x.attrs[k]'(by omega)).val.length:=rfl
   have hz:=(bW g1)
   refine Nz2 ?_
   exact ⟨(d+((x.attrs[k]'(by omega)).name.length+(x.attrs[k]'(by omega)).val.length),k+1),by simp,⟨by simp only; omega,by simp only; omega⟩,by simp only; omega⟩
  ·obtain rfl:k=x.attrs.length:=by omega
   rw [lE2] at hd
   refine N2 ?_
   exact ⟨(d,i+1),rfl,⟨by simp only; omega,by simp only; omega⟩,by simp only; omega⟩
 ·obtain rfl:i=t.inodes.length:=by omega
  rw [lE2,← ah3] at hc
  subst hc
  exact N1 trivial
section
open Go.Proofs Go.Shelf
def r6:Go.Shelf.Ren:=⟨fun | 189=>129 | 125=>145 | 257=>144 | 128=>168 | 129=>169 | 294=>159 | 295=>160 | 296=>161 | 297=>162 | 298=>163 | 299=>164 | 216=>165 | 300=>166 | 301=>167 | 328=>184 | 329=>185 | 330=>186 | 331=>187 | 332=>188 | 215=>189 | 343=>194 | n=>n,
 fun | 28=>74 | 3=>3 | 46=>120 | 0=>0 | 51=>171 | 53=>173 | 4=>4 | 183=>163 | 182=>162 | 131=>168 | 5=>5 | 9=>9 | 218=>190 | 222=>194 | 228=>200 | 229=>186 | n=>n,
 fun | n=>n⟩
theorem p6:Lays.n189 Tryz.prog r6 where
 mixed:=by kernel_rfl
 f125:=Tryz.func145.trans (congrArg some (by kernel_rfl))
 f128:=Tryz.func168.trans (congrArg some (by kernel_rfl))
 f129:=Tryz.func169.trans (congrArg some (by kernel_rfl))
 f189:=Tryz.func129.trans (congrArg some (by kernel_rfl))
 f215:=Tryz.func189.trans (congrArg some (by kernel_rfl))
 f216:=Tryz.func165.trans (congrArg some (by kernel_rfl))
 f257:=Tryz.func144.trans (congrArg some (by kernel_rfl))
 f294:=Tryz.func159.trans (congrArg some (by kernel_rfl))
 f295:=Tryz.func160.trans (congrArg some (by kernel_rfl))
 f296:=Tryz.func161.trans (congrArg some (by kernel_rfl))
 f297:=Tryz.func162.trans (congrArg some (by kernel_rfl))
 f298:=Tryz.func163.trans (congrArg some (by kernel_rfl))
 f299:=Tryz.func164.trans (congrArg some (by kernel_rfl))
 f300:=Tryz.func166.trans (congrArg some (by kernel_rfl))
 f301:=Tryz.func167.trans (congrArg some (by kernel_rfl))
 f328:=Tryz.func184.trans (congrArg some (by kernel_rfl))
 f329:=Tryz.func185.trans (congrArg some (by kernel_rfl))
 f330:=Tryz.func186.trans (congrArg some (by kernel_rfl))
 f331:=Tryz.func187.trans (congrArg some (by kernel_rfl))
 f332:=Tryz.func188.trans (congrArg some (by kernel_rfl))
 f343:=Tryz.func194.trans (congrArg some (by kernel_rfl))
 t0:=Tryz.underlying0
 a0:=Tryz.isAgg0
 z0:=Tryz.sizeOf0
 v0:=Tryz.zeroValue0
 t3:=Tryz.underlying3
 a3:=Tryz.isAgg3
 z3:=Tryz.sizeOf3
 v3:=Tryz.zeroValue3
 t4:=Tryz.underlying4
 a4:=Tryz.isAgg4
 z4:=Tryz.sizeOf4
 v4:=Tryz.zeroValue4
 t5:=Tryz.underlying5
 a5:=Tryz.isAgg5
 z5:=Tryz.sizeOf5
 v5:=Tryz.zeroValue5
 t9:=Tryz.underlying9
 a9:=Tryz.isAgg9
 z9:=Tryz.sizeOf9
 v9:=Tryz.zeroValue9
 t28:=Tryz.underlying74
 a28:=Tryz.isAgg74
 z28:=Tryz.sizeOf74
 v28:=Tryz.zeroValue74
 t46:=Tryz.underlying120
 a46:=Tryz.isAgg120
 z46:=Tryz.sizeOf120
 v46:=Tryz.zeroValue120
 t51:=Tryz.underlying171
 a51:=Tryz.isAgg171
 z51:=Tryz.sizeOf171
 v51:=Tryz.zeroValue171
 t53:=Tryz.underlying173
 a53:=Tryz.isAgg173
 z53:=Tryz.sizeOf173
 v53:=Tryz.zeroValue173
 t131:=Tryz.underlying168
 a131:=Tryz.isAgg168
 z131:=Tryz.sizeOf168
 v131:=Tryz.zeroValue168
 t182:=Tryz.underlying162
 a182:=Tryz.isAgg162
 z182:=Tryz.sizeOf162
 v182:=Tryz.zeroValue162
 t183:=Tryz.underlying163
 a183:=Tryz.isAgg163
 z183:=Tryz.sizeOf163
 v183:=Tryz.zeroValue163
 t218:=Tryz.underlying190
 a218:=Tryz.isAgg190
 z218:=Tryz.sizeOf190
 v218:=Tryz.zeroValue190
 t222:=Tryz.underlying194
 a222:=Tryz.isAgg194
 z222:=Tryz.sizeOf194
 v222:=Tryz.zeroValue194
 t228:=Tryz.underlying200
 a228:=Tryz.isAgg200
 z228:=Tryz.sizeOf200
 v228:=Tryz.zeroValue200
 t229:=Tryz.underlying186
 a229:=Tryz.isAgg186
 z229:=Tryz.sizeOf186
 v229:=Tryz.zeroValue186
end
theorem aqF {w:World} {o:Bool} {F:aH}:∀ (l:List Int) {cs:List Value},Row w o F cs (l.map gQ).flatten→cs=l.map (Value.int .i64)∧∀ b,F b=0:=by
 intro l
 induction l generalizing F with
 | nil=>
  intro cs h
  cases h with
  | nil _ _ hF=>exact ⟨rfl,hF⟩
 | cons n l ih=>
  intro cs h
  have e:((n::l).map gQ).flatten=.int .i64 n::(l.map gQ).flatten:=by simp [gQ]
  rw [e] at h
  cases h with
  | int _ _ _ _ vs _ h=>
   obtain ⟨e1,e2⟩:=ih h
   exact ⟨by rw [e1]; rfl,e2⟩
theorem aqG {w:World} {o:Bool} (l:List Int):Row w o (fun _=>0) (l.map (Value.int .i64)) (l.map gQ).flatten:=by
 induction l with
 | nil=>exact .nil _ _ fun _=>rfl
 | cons n l ih=>
  have e:((n::l).map gQ).flatten=.int .i64 n::(l.map gQ).flatten:=by simp [gQ]
  rw [e]
  exact .int _ _ _ _ _ _ ih
abbrev s5 (l:List Int):List Int:=l.mergeSort fun x y=>decide (x≤y)
theorem aq1 (l:List Int) (hl:l.length<2^40):bR Tryz.prog 129 [.own 1 (l.map gQ)] (.tup []) [.own 1 ((s5 l).map gQ)]:=by
 refine ⟨⟨_,Tryz.func129,by kernel_rfl,by kernel_rfl⟩,rfl,?_⟩
 intro w vs F X r h1 h2 h3
 have al:(s5 l).length=l.length:=List.length_mergeSort l
 cases r with
 | own _ F1 F2 _ s es v vs ys hr hn hF=>
  cases hn with
  | nil _ _ hF2 hX=>
   rcases Row.sl_inv hr with ⟨rfl,he,h0⟩ | ⟨G1,b,off,cap,C,ty,fr,cs,rfl,hb,hfr,bh,hle,hes,hcs,hc,bi,hG⟩
   ·have bj:l=[]:=by simpa using he
    subst bj
    refine (Any.slices_Sort_int_none p6 none 0 w).mono ?_
    rintro e w' ⟨rfl,rfl⟩
    refine ⟨.tuple #[],F,X,rfl,?_,h1,h2,⟨lS1 _,.refl _⟩,fun b _ _=>rfl,fun b hb=>.inl hb,fun b hb=>⟨.inl hb,h3 b hb⟩⟩
    refine .tup F (fun _=>0) F X (fun _=>0) X [] [] _ _ RepA.znil ?_ (fun x=>by omega) (fun x=>by omega)
    exact .own F F1 F2 X 1 _ _ _ _ (by simpa [s5] using hr) (.nil _ _ hF2 hX) hF
   ·obtain ⟨hce,hG1⟩:=aqF l bi
    have hrl:(l.map gQ).length=l.length:=lW2 _
    have hcsl:cs.length=l.length:=by rw [hce,lW2]
    rw [hrl] at hle ⊢
    have hsz:off+l.length≤C.size:=by omega
    have hbl:b<w.heap.size:=(Array.getElem?_eq_some_iff.1 hb).1
    have hH:Go.Sort.Holds (Value.int .i64) w b off l.toArray:=by
     intro j hj
     have hj':j<l.length:=by simpa using hj
     have e1:=hc j (by omega)
     rw [hce,lL1,lH hj'] at e1
     refine ⟨?_,?_⟩
     ·simp only [World.cell?,hb,lD,e1,lB]
      simp [getElem!_pos,hj']
     ·have:=hfr.1 (off+j) (by omega)
      simp [World.frozen?,hb]
      simpa using this
    refine (Any.slices_Sort_int p6 b off cap l w hH hbl (by omega)).mono ?_
    rintro e w' ⟨rfl,n,os,rfl⟩
    have hw:∀ x,x≠b→x<w.heap.size→(Go.Sort.grow (Go.Sort.putRow (Value.int .i64) (Go.Sort.ahead w n) b off (s5 l).toArray) os).heap[x]?=w.heap[x]?:=by
     intro x hx hxl
     simp only [Go.Sort.grow,Go.Sort.putRow,Go.Sort.mapBlock,Go.Sort.ahead]
     rw [Array.getElem?_append_left (by simpa using hxl),lL4,lK (Ne.symm hx)]
    have hwb:(Go.Sort.grow (Go.Sort.putRow (Value.int .i64) (Go.Sort.ahead w n) b off (s5 l).toArray) os).heap[b]?=some (.cells (Go.Sort.putCells (Value.int .i64) off (s5 l).toArray C) ty fr):=by
     simp only [Go.Sort.grow,Go.Sort.putRow,Go.Sort.mapBlock,Go.Sort.ahead]
     rw [Array.getElem?_append_left (by simpa using hbl),lL4,lF rfl,hb]; rfl
    have aw:(Go.Sort.putCells (Value.int .i64) off (s5 l).toArray C).size=C.size:=by simp [Go.Sort.putCells]
    have ax:Row (Go.Sort.grow (Go.Sort.putRow (Value.int .i64) (Go.Sort.ahead w n) b off (s5 l).toArray) os) true F1 [.slice (some ⟨b,off,none⟩) l.length cap] [.sl 1 ((s5 l).map gQ)]:=by
     refine Row.of_sl (F1:=fun _=>0) (cs:=(s5 l).map (Value.int .i64)) (by rw [lW2,al]) hwb (by rw [aw]; exact hfr) (by rw [aw]; exact bh) (by rw [lW2,al]; exact hle) ?_ ?_ ?_ (aqG _) (fun x=>by have:=hG x; have:=hG1 x; omega)
     ·intro e he
      obtain ⟨x,_,rfl⟩:=lX1.1 he
      rfl
     ·simp
     ·intro k hk
      rw [lW2,al] at hk
      rw [lL1,lH (by rw [al]; exact hk)]
      have aq:off≤off+k∧off+k<off+(s5 l).length:=by omega
      simp only [Go.Sort.putCells,Array.getElem?_mapIdx,List.size_toArray]
      rw [lE1 (by omega),lB,lF aq,lB]
      simp [Nat.add_sub_cancel_left,getElem!_pos,al,hk]
    refine ⟨.tuple #[],F,X,rfl,?_,h1,h2,⟨?_,⟨rfl,rfl⟩⟩,fun x hx h0=>hw x (fun e=>?_) hx,fun x hx=>.inl hx,fun x hx=>⟨.inl hx,?_⟩⟩
    ·refine .tup F (fun _=>0) F X (fun _=>0) X [] [] _ _ RepA.znil ?_ (fun x=>by omega) (fun x=>by omega)
     exact .own F F1 F2 X 1 _ _ _ _ ax (.nil _ _ hF2 hX) hF
    ·simp only [Go.Sort.grow,Go.Sort.putRow,Go.Sort.mapBlock,Go.Sort.ahead,Array.size_append,Array.size_modify]; omega
    ·subst e
     have:=hF x; have:=hG x
     simp at *; omega
    ·have:=h3 x hx
     simp only [Go.Sort.grow,Go.Sort.putRow,Go.Sort.mapBlock,Go.Sort.ahead,Array.size_append,Array.size_modify]; omega
theorem apx (l:List Int) (n:Int) (hl:l.length<2^48):bR Tryz.prog 143 [.ext 1 (l.map gQ),.int .i64 n] (.int .i64 (uL (l.findIdx? fun x=>decide (x=n)))) [.undef,.undef]:=by
 refine Vw aoV [] 435 [] fun w hP hQ=>?_
 refine iV [4,5] ?_
 refine N ?_
 refine bG [4,5] (fun i:Nat=>[(8,.int .i64 i)]) (fun i=>i≤l.length∧∀ k,k<i→(h:k<l.length)→decide (l[k]=n)=false) (fun i=>l.length-i) (0) hP hQ (rfl) (by simp) ?_
 rintro i ⟨hi,hk⟩ w1 hP1 hQ1
 refine N1 ?_
 refine Jf (fun h1=>?_) fun h1=>?_
 ·simp +decide (maxSteps:=9^9) (disch:=omega) only[↓SB0,SX,seval,hQ,hQ1,bW h1,gQ]
  refine Jf (fun h2=>?_) fun h2=>?_
  ·refine N1 ?_
   rw [r9 (p:=fun x:Int=>decide (x=n)) hk (by omega) (lM h2.symm)]; rfl
  ·refine N1 ?_
   exact ⟨i+1,rfl,⟨by omega,t7 (p:=fun x:Int=>decide (x=n)) hk (by omega) (lC fun e=>h2 e.symm)⟩,by omega⟩
 ·obtain rfl:i=l.length:=by omega
  refine N1 ?_
  rw [sA (p:=fun x:Int=>decide (x=n)) fun k h=>hk k h h]; rfl
theorem aoD (l:List Int) (n:Int) (hl:l.length<2^48):bR Tryz.prog 128 [.ext 1 (l.map gQ),.int .i64 n] (.bool (decide (n ∈ l))) [.undef,.undef]:=by
 have hI:=apx l n hl
 cases e:l.findIdx? (fun x=>decide (x=n)) with
 | none=>
  have am:n ∉ l:=fun h=>by
   rw [List.findIdx?_eq_none_iff] at e
   have:=e n h
   simp at this
  rw [e] at hI
  refine Vw kC [] 19 [] fun w hP hQ=>?_
  refine K (hI) ?_
  rw [lC am]
 | some k=>
  obtain ⟨hk,h1,_⟩:=lM2.1 e
  have bk:n ∈ l:=by
   have:l[k]=n:=by simpa using h1
   rw [← this]; exact lQ hk
  rw [e,show uL (some k)=(k:Int) from rfl] at hI
  refine Vw kC [] 19 [] fun w hP hQ=>?_
  refine K (hI) ?_
  rw [lM bk,lM (by omega)]
def m4 (out:List Int) (x:Inode):Nat:=if x.ino ∈ out then 0 else x.ents.length
def apy (t:Tab) (out:List Int):Nat:=(t.inodes.map (m4 out)).sum
theorem aqH (t:Tab) (out:List Int):apy t out≤t.sz:=by
 have h2:=akh (m4 out) Inode.sz t.inodes fun x _=>by
  have:m4 out x≤x.ents.length:=by unfold m4; split <;> omega
  have h3:x.ents.length≤x.sz:=by simp only [Inode.sz,szM]; omega
  omega
 have h3:t.sz=t.inodes.length+(t.inodes.map Inode.sz).sum:=rfl
 have h4:apy t out=(t.inodes.map (m4 out)).sum:=rfl
 omega
theorem ap9 {t:Tab} {out:List Int} {x:Inode} (hx:x ∈ t.inodes) (hn:x.ino ∉ out):apy t (out++[x.ino])+x.ents.length≤apy t out:=by
 unfold apy
 generalize t.inodes=l at hx
 have mono:∀ y:Inode,m4 (out++[x.ino]) y≤m4 out y:=by
  intro y
  unfold m4
  by_cases h:y.ino ∈ out
  ·rw [lF h,lF (by simp [h])]; omega
  ·rw [lK h]; split <;> omega
 induction l with
 | nil=>cases hx
 | cons y l ih=>
  simp only [lO,lB2]
  rcases lG.1 hx with rfl | hx
  ·have h1:m4 (out++[x.ino]) x=0:=by unfold m4; rw [if_pos (by simp)]
   have h2:m4 out x=x.ents.length:=by unfold m4; rw [if_neg hn]
   have h3:=akh (m4 (out++[x.ino])) (m4 out) l fun y _=>mono y
   omega
  ·have:=ih hx
   have:=mono y
   omega
theorem aoY (l:List Int) (n:Int):l.map gQ++[[TV.int .i64 n]]=(l++[n]).map gQ:=by simp [gQ]
theorem aqa (l:List Int) (es:List Ent) (k:Nat) (h:k<es.length):(l++(es.take k).map Ent.ino)++[es[k].ino]=l++(es.take (k+1)).map Ent.ino:=by
 rw [lS h,lO2,lP2]; rfl
theorem apV (t:Tab) (h:t.sz<2^40):bR Tryz.prog 106 [t.x] (.own 1 ((f8 t).map gQ)) [.undef]:=by
 obtain ⟨hl,ak⟩:=eS h
 refine Vw aps [(129,[.l],[])] 15393162789631 [] fun w hP hQ=>?_
 refine iV [5,6,7,9,41,42,43,5006,5009] ?_
 refine N ?_
 refine bG [5,6,7,9,41,42,43,5006,5009] (fun s:List Int × List Int=>[(3,.own 1 (s.1.map gQ)),(4,.own 1 (s.2.map gQ))]) (fun s=>Que (nbT t) s.1 s.2∧s.2.length+apy t s.1≤1+t.sz) (fun s=>s.2.length+apy t s.1) (([],[1])) hP hQ (rfl) (⟨aqA _,by have:=aqH t []; simp only [lN1,List.length_nil]; omega⟩) ?_
 rintro ⟨out,next⟩ ⟨hq,hb⟩ w1 hP1 hQ1
 refine N1 ?_
 simp only at hq hb
 have hol:=aqV (nbT t) (rZ t) hq
 cases next with
 | nil=>
  have hs:=apT (nbT t) (rZ t) hq
  refine N1 ?_
  refine K (aq1 out (by omega)) ?_
  rw [show s5 out=f8 t from hs]
 | cons i next=>
  have hnl:(next.length:Nat)<2^41:=by simp only [lN1] at hb; omega
  have hI:=aoJ t i h
  have w0:decide ((0:Int)<((next.length+1:Nat):Int))=true:=lM (by omega)
  have tk:List.take next.length (next.map gQ)=next.map gQ:=by rw [lN2 (by simp)]
  cases e:aC t i with
  | none=>
   rw [amj,e] at hI
   simp +decide (maxSteps:=9^9) (disch:=omega) only[↓SB0,SX,seval,hQ,hQ1,w0,gQ,bX,tk]
   refine K1 (hI) ?_
   exact ⟨(out,next),rfl,⟨apC _ hq (.inl (by rw [nbT,e]; rfl)),by simp only [lN1] at *; omega⟩,by simp only [lN1]; omega⟩
  | some x=>
   obtain ⟨hxm,hxi⟩:=aL e
   have be:x.ents.length<2^40:=(jC (ak x hxm)).2.1
   rw [amj,e] at hI
   simp only [lF1,lT2] at hI
   have hC:=aoD out i (by omega)
   by_cases aq:i ∈ out
   ·rw [lM aq] at hC
    simp +decide (maxSteps:=9^9) (disch:=omega) only[↓SB0,SX,seval,hQ,hQ1,w0,gQ,bX,tk]
    refine K1 (hI) ?_
    refine K1 (hC) ?_
    exact ⟨(out,next),rfl,⟨apC _ hq (.inr aq),by simp only [lN1] at *; omega⟩,by simp only [lN1]; omega⟩
   ·rw [lC aq] at hC
    have ay:=ap9 (t:=t) (out:=out) hxm (by rw [hxi]; exact aq)
    rw [hxi] at ay
    simp +decide (maxSteps:=9^9) (disch:=omega) only[↓SB0,SX,seval,hQ,hQ1,w0,gQ,bX,tk]
    refine K1 (hI) ?_
    refine K1 (hC) ?_
    refine Jf (fun an=>?_) fun an=>?_
    ·have bd:=apD (nbT t) hq (l:=x.ents.map Ent.ino) (by rw [nbT,e]; simp [fF,an]) aq
     refine N1 ?_
     rw [aoY]
     refine iV [9,5009] ?_
     refine N1 ?_
     refine bG [9,5009] (fun k:Nat=>[(4,.own 1 ((next++(x.ents.take k).map Ent.ino).map gQ)),(43,.int .i64 k)]) (fun k=>k≤x.ents.length) (fun k=>x.ents.length-k) (0) hP1 hQ1 (by simp only [List.take_zero,lH1,lU2]; rfl) (by simp) ?_
     rintro k hk w2 hP2 hQ2
     refine N2 ?_
     have al:(next++(x.ents.take k).map Ent.ino).length<2^42:=by simp only [lY,lW2,lT]; omega
     refine Jf (fun g1=>?_) fun g1=>?_
     ·have hp:=aqa next x.ents k (by omega)
      generalize next++(x.ents.take k).map Ent.ino=nx at *
      have hz:=(bW g1)
      refine Nz2 ?_
      exact ⟨k+1,by simp only [aoY,hp]; rfl,by omega,by omega⟩
     ·obtain rfl:k=x.ents.length:=by omega
      rw [lE2] at *
      refine N2 ?_
      exact ⟨(out++[i],next++x.ents.map Ent.ino),rfl,⟨bd,by simp only [lN1,lY,lW2] at *; omega⟩,by simp only [lN1,lY,lW2] at *; omega⟩
    ·have bd:=apD (nbT t) hq (l:=[]) (by rw [nbT,e]; simp [fF,an]) aq
     rw [lU2] at bd
     refine N1 ?_
     exact ⟨(out++[i],next),by simp only [aoY],⟨bd,by simp only [lN1] at *; omega⟩,by simp only [lN1]; omega⟩
theorem m5 (t:Tab) (h:t.sz<2^40):bR Tryz.prog 72 [t.x] (.bool (bF t)) [.undef]:=by
 obtain ⟨hl,ak⟩:=eS h
 have hLk:=uA t
 refine Vw apR [] 120266424407 [] fun w hP hQ=>?_
 rcases iT (ae8 t) with hT | hT
 ·have hz:=hT
  refine Kz (apE t h) ?_
  simp [bF,hT]
 have hz:=hT
 refine Kz (apE t h) ?_
 refine K (apV t h) ?_
 refine Jf (fun hR=>?_) fun hR=>?_
 rotate_left
 ·refine N ?_
  have:decide ((f8 t).length=t.inodes.length)=false:=lC (by omega)
  simp [bF,this]
 refine N ?_
 refine iV [2,4,6,34,35,36,5004,5006] ?_
 refine N ?_
 refine bG [2,4,6,34,35,36,5004,5006] (fun i:Nat=>[(22,.int .i64 i)]) (fun i=>i≤t.inodes.length∧∀ k,k<i→(h:k<t.inodes.length)→q0 t t.inodes[k]=true) (fun i=>t.inodes.length-i) (0) hP hQ (rfl) (by simp) ?_
 rintro i ⟨hi,hk⟩ w1 hP1 hQ1
 refine N1 ?_
 refine Jf (fun h1=>?_) fun h1=>?_
 ·have aa:i<t.inodes.length:=by omega
  have hx:=ak _ (lQ aa)
  have hm:=lQ aa
  have hnx:q0 t (t.inodes[i]'aa)=true→∀ k,k<i+1→(h:k<t.inodes.length)→q0 t t.inodes[k]=true:=fun hp=>adD (p:=fun x=>q0 t x=true) hk (fun _=>hp)
  have hz:=(bW h1)
  refine Nz1 ?_
  generalize t.inodes[i]'aa=x at *
  have be:x.ents.length<2^40:=(jC hx).2.1
  refine K1 (apU t x.ino h) ?_
  refine Jf (fun h2=>?_) fun h2=>?_
  rotate_left
  ·refine N1 ?_
   rw [adC hm (by rw [q0,lC (by omega)]; rfl)]
  refine N1 ?_
  refine iV [2,6,5006] ?_
  refine N1 ?_
  refine bG [2,6,5006] (fun k:Nat=>[(36,.int .i64 k)]) (fun k=>k≤x.ents.length∧∀ j,j<k→(h:j<x.ents.length)→(cM t (x.ents[j]).ino).isSome=true) (fun k=>x.ents.length-k) (0) hP1 hQ1 (rfl) (by simp) ?_
  rintro k ⟨hk1,an⟩ w2 hP2 hQ2
  refine N2 ?_
  refine Jf (fun h3=>?_) fun h3=>?_
  ·have af:k<x.ents.length:=by omega
   have hA:=aoI t (x.ents[k]'af).ino (by omega)
   cases e:cM t (x.ents[k]'af).ino with
   | none=>
    rw [e] at hA
    have hz:=(bW h3)
    refine Nz2 ?_
    refine K2 (hA) ?_
    rw [adC hm (ah9 (lQ af) e)]
   | some m=>
    rw [e,show uL (some m)=(m:Int) from rfl] at hA
    have hz:=(bW h3)
    refine Nz2 ?_
    refine K2 (hA) ?_
    refine Jf (fun h4=>?_) fun h4=>?_
    ·exfalso; omega
    ·refine N2 ?_
     exact ⟨k+1,rfl,⟨by omega,adD (p:=fun y:Ent=>(cM t y.ino).isSome=true) an (fun _=>by rw [e]; rfl)⟩,by omega⟩
  ·obtain rfl:k=x.ents.length:=by omega
   have hp:q0 t x=true:=by
    rw [q0,aia fun k hk=>an k hk hk,lM (by omega)]; rfl
   refine N2 ?_
   exact ⟨i+1,rfl,⟨by omega,hnx hp⟩,by omega⟩
 ·obtain rfl:i=t.inodes.length:=by omega
  have:decide ((f8 t).length=t.inodes.length)=true:=lM (by omega)
  refine N1 ?_
  rw [bF,hT,this,akn fun k hk'=>hk k hk' hk']; rfl
theorem apa (a b:Inode) (ha:a.sz<2^40) (hb:b.sz<2^40):bR Tryz.prog 119 [a.x,b.x] (.bool (decide (a=b))) [.undef,.undef]:=by
 obtain ⟨a1,a2,a3⟩:=jC ha
 obtain ⟨b1,b2,b3⟩:=jC hb
 refine Vw aoS [] 127 [] fun w hP hQ=>?_
 refine Jg (fun h0=>?_) fun h0=>?_
 rotate_left
 ·have hz:=h0
  refine Nz ?_
  rw [lC (show ¬ a=b from fun h=>h0 (by rw [h]))]
 have hz:=h0
 refine Nz ?_
 refine Jg (fun h1=>?_) fun h1=>?_
 rotate_left
 ·have hz:=h1
  refine Nz ?_
  rw [lC (show ¬ a=b from fun h=>h1 (by rw [h]))]
 have hz:=h1
 refine Nz ?_
 refine Jg (fun h2=>?_) fun h2=>?_
 rotate_left
 ·have hz:=h2
  refine Nz ?_
  rw [lC (show ¬ a=b from fun h=>h2 (by rw [h]))]
 have hz:=h2
 refine Nz ?_
 refine K (x3 a.data b.data (by omega) (by omega)) ?_
 refine Jg (fun h3=>?_) fun h3=>?_
 rotate_left
 ·have hz:=h3
  refine Nz ?_
  rw [lC (show ¬ a=b from fun h=>h3 (by rw [h]))]
 have hz:=h3
 refine Nz ?_
 refine Jg (fun h4=>?_) fun h4=>?_
 rotate_left
 ·have hz:=h4
  refine Nz ?_
  rw [lC (show ¬ a=b from fun h=>h4 (by rw [h]))]
 have hz:=h4
 refine Nz ?_
 refine Jf (fun h5=>?_) fun h5=>?_
 rotate_left
 ·refine N ?_
  rw [lC (show ¬ a=b from fun h=>h5 (by rw [h]))]
 refine N ?_
 have h4':a.ents.length=b.ents.length:=by omega
 have h5':a.attrs.length=b.attrs.length:=by omega
 refine iV [4] ?_
 refine N ?_
 refine bG [4] (fun i:Nat=>[(5,.int .i64 i)]) (fun i=>i≤a.ents.length∧a.ents.take i=b.ents.take i) (fun i=>a.ents.length-i) (0) hP hQ (rfl) (by simp) ?_
 rintro i ⟨hi,ae⟩ w1 hP1 hQ1
 refine N1 ?_
 refine Jf (fun g1=>?_) fun g1=>?_
 ·have hz:=And.intro (bW g1) (bW (show ((i:Nat):Int)<(b.ents.length:Nat) by omega))
  refine Nz1 ?_
  refine Jf (fun g2=>?_) fun g2=>?_
  ·refine N1 ?_
   exact ⟨i+1,rfl,⟨by omega,zW ae (by omega) (by omega) (Ent.eq' (by simp at g2; exact g2.1) (by simp at g2; exact g2.2))⟩,by omega⟩
  ·refine N1 ?_
   rw [lC (show ¬ a=b from fun h=>by subst h; simp at g2)]
 ·have he:=anD ae (by omega) (by omega)
  refine N1 ?_
  refine iV [4] ?_
  refine N ?_
  refine bG [4] (fun i:Nat=>[(6,.int .i64 i)]) (fun i=>i≤a.attrs.length∧a.attrs.take i=b.attrs.take i) (fun i=>a.attrs.length-i) (0) hP hQ (rfl) (by simp) ?_
  rintro j ⟨hj,hac⟩ w1 hP1 hQ1
  refine N1 ?_
  refine Jf (fun g3=>?_) fun g3=>?_
  ·have hz:=And.intro (bW g3) (bW (show ((j:Nat):Int)<(b.attrs.length:Nat) by omega))
   refine Nz1 ?_
   refine Jf (fun g4=>?_) fun g4=>?_
   ·refine N1 ?_
    exact ⟨j+1,rfl,⟨by omega,zW hac (by omega) (by omega) (Attr.eq' (by simp at g4; exact g4.1) (by simp at g4; exact g4.2))⟩,by omega⟩
   ·refine N1 ?_
    rw [lC (show ¬ a=b from fun h=>by subst h; simp at g4)]
  ·have hd:=anD hac (by omega) (by omega)
   refine N1 ?_
   rw [lM (Inode.eq' h0 h1 h2 h3 he hd)]
theorem m6 {l:List Inode} {n:Nat} (h:szM Inode.sz l<n):l.length<n∧∀ x ∈ l,x.sz<n:=by
 refine ⟨by simp only [szM] at h; omega,fun x hx=>?_⟩
 have:=qV (f:=Inode.sz) hx
 simp only [szM] at h; omega
theorem p4 {g:Nat} (l m:List Inode) (hl:szM Inode.sz l<2^40) (hm:szM Inode.sz m<2^40)
  (hc:∀ a b:Inode,a.sz<2^40→b.sz<2^40→bR Tryz.prog g [a.x,b.x] (.bool (decide (a=b))) [.undef,.undef]) :
  bR Tryz.prog 73 [.ext 6 (l.map Inode.row),.ext 6 (m.map Inode.row),.fn g []] (.bool (decide (l=m))) [.undef,.undef,.undef]:=by
 obtain ⟨l1,l2⟩:=m6 hl
 obtain ⟨m1,m2⟩:=m6 hm
 refine Vw kZ [] 230343 [] fun w hP hQ=>?_
 refine Jf (fun h=>?_) fun h=>?_
 ·refine N ?_
  refine iV [6,7,8,9,5008,5009] ?_
  refine N ?_
  refine bG [6,7,8,9,5008,5009] (fun i:Nat=>[(17,.int .i64 i)]) (fun i=>i≤l.length∧l.take i=m.take i) (fun i=>l.length-i) (0) hP hQ (rfl) (by simp) ?_
  rintro i ⟨hi,ae⟩ w1 hP1 hQ1
  refine N1 ?_
  refine Jf (fun h1=>?_) fun h1=>?_
  ·have hz:=And.intro (bW h1) (bW (h ▸ h1))
   refine Nz1 ?_
   refine K1 (hc (l[i]'(by omega)) (m[i]'(by omega)) (l2 _ (lQ _)) (m2 _ (lQ _))) ?_
   refine Jf (fun h2=>?_) fun h2=>?_
   ·refine N1 ?_
    exact ⟨i+1,rfl,⟨by omega,zW ae _ _ h2⟩,by omega⟩
   ·refine N1 ?_
    rw [lC (show ¬ l=m from fun e=>by subst e; exact h2 rfl)]
  ·refine N1 ?_
   rw [lM (anD ae (by omega) (by omega))]
 ·refine N ?_
  rw [lC (show ¬ l=m from fun e=>h (by rw [e]))]
theorem apW (a b:Tab) (ha:a.sz<2^40) (hb:b.sz<2^40):bR Tryz.prog 24 [a.x,b.x] (.bool (decide (a=b))) [.undef,.undef]:=by
 refine Vw apo [] 31 [] fun w hP hQ=>?_
 refine Jg (fun h0=>?_) fun h0=>?_
 rotate_left
 ·have hz:=h0
  refine Nz ?_
  rw [lC (show ¬ a=b from fun h=>h0 (by rw [h]))]
 have hz:=h0
 refine Nz ?_
 refine K (p4 a.inodes b.inodes ha hb fun x y hx hy=>ao7 x y hx hy) ?_
 rw [s6 (p:=a=b) ⟨fun h=>by rw [h],fun h=>Tab.eq' h h0⟩]
theorem apX (a b:Tab) (ha:a.sz<2^40) (hb:b.sz<2^40):bR Tryz.prog 88 [a.x,b.x] (.bool (decide (a=b))) [.undef,.undef]:=by
 obtain ⟨a1,a2⟩:=m6 (show szM Inode.sz a.inodes<2^40 from ha)
 obtain ⟨b1,b2⟩:=m6 (show szM Inode.sz b.inodes<2^40 from hb)
 refine Vw apr [] 63 [] fun w hP hQ=>?_
 refine Jg (fun h0=>?_) fun h0=>?_
 rotate_left
 ·have hz:=h0
  refine Nz ?_
  rw [lC (show ¬ a=b from fun h=>h0 (by rw [h]))]
 have hz:=h0
 refine Nz ?_
 refine Jf (fun h=>?_) fun h=>?_
 rotate_left
 ·refine N ?_
  rw [lC (show ¬ a=b from fun e=>h (by rw [e]))]
 refine N ?_
 refine iV [4] ?_
 refine N ?_
 refine bG [4] (fun i:Nat=>[(5,.int .i64 i)]) (fun i=>i≤a.inodes.length∧a.inodes.take i=b.inodes.take i) (fun i=>a.inodes.length-i) (0) hP hQ (rfl) (by simp) ?_
 rintro i ⟨hi,ae⟩ w1 hP1 hQ1
 refine N1 ?_
 refine Jf (fun h1=>?_) fun h1=>?_
 ·have hz:=And.intro (bW h1) (bW (h ▸ h1))
  refine Nz1 ?_
  refine K1 (apa (a.inodes[i]'(by omega)) (b.inodes[i]'(by omega)) (a2 _ (lQ _)) (b2 _ (lQ _))) ?_
  refine Jf (fun h2=>?_) fun h2=>?_
  ·refine N1 ?_
   exact ⟨i+1,rfl,⟨by omega,zW ae _ _ h2⟩,by omega⟩
  ·refine N1 ?_
   rw [lC (show ¬ a=b from fun e=>by subst e; exact h2 rfl)]
 ·refine N1 ?_
  rw [lM (Tab.eq' (anD ae (by omega) (by omega)) h0)]
theorem apz (a b:Vol) (ha:a.sz<2^40) (hb:b.sz<2^40):bR Tryz.prog 70 [a.x,b.x] (.bool (decide (a=b))) [.undef,.undef]:=by
 refine Vw ao6 [] 31 [] fun w hP hQ=>?_
 refine Jg (fun h0=>?_) fun h0=>?_
 rotate_left
 ·have hz:=h0
  refine Nz ?_
  rw [lC (show ¬ a=b from fun h=>h0 (by rw [h]))]
 have hz:=h0
 refine Nz ?_
 refine Jg (fun h1=>?_) fun h1=>?_
 rotate_left
 ·have hz:=h1
  refine Nz ?_
  rw [lC (show ¬ a=b from fun h=>h1 (by rw [h]))]
 have hz:=h1
 refine Nz ?_
 refine Jg (fun h2=>?_) fun h2=>?_
 rotate_left
 ·have hz:=h2
  refine Nz ?_
  rw [lC (show ¬ a=b from fun h=>h2 (by rw [h]))]
 have hz:=h2
 refine Nz ?_
 refine Jg (fun h3=>?_) fun h3=>?_
 rotate_left
 ·have hz:=h3
  refine Nz ?_
  rw [lC (show ¬ a=b from fun h=>h3 (by rw [h]))]
 have hz:=h3
 refine Nz ?_
 refine K (apW a.t b.t (aib ha).2 (aib hb).2) ?_
 rw [s6 (p:=a=b) ⟨fun h=>by rw [h],fun h=>Vol.eq' h0 h1 h2 h3 h⟩]
theorem x4 {g:Nat} (l m:List Vol) (hl:szM Vol.sz l<2^40) (hm:szM Vol.sz m<2^40)
  (hc:∀ a b:Vol,a.sz<2^40→b.sz<2^40→bR Tryz.prog g [a.x,b.x] (.bool (decide (a=b))) [.undef,.undef]) :
  bR Tryz.prog 69 [.ext 6 (l.map Vol.row),.ext 6 (m.map Vol.row),.fn g []] (.bool (decide (l=m))) [.undef,.undef,.undef]:=by
 obtain ⟨l1,l2⟩:=amo hl
 obtain ⟨m1,m2⟩:=amo hm
 refine Vw pS [] 230343 [] fun w hP hQ=>?_
 refine Jf (fun h=>?_) fun h=>?_
 ·refine N ?_
  refine iV [6,7,8,9,5008,5009] ?_
  refine N ?_
  refine bG [6,7,8,9,5008,5009] (fun i:Nat=>[(17,.int .i64 i)]) (fun i=>i≤l.length∧l.take i=m.take i) (fun i=>l.length-i) (0) hP hQ (rfl) (by simp) ?_
  rintro i ⟨hi,ae⟩ w1 hP1 hQ1
  refine N1 ?_
  refine Jf (fun h1=>?_) fun h1=>?_
  ·have hz:=And.intro (bW h1) (bW (h ▸ h1))
   refine Nz1 ?_
   refine K1 (hc (l[i]'(by omega)) (m[i]'(by omega)) (l2 _ (lQ _)) (m2 _ (lQ _))) ?_
   refine Jf (fun h2=>?_) fun h2=>?_
   ·refine N1 ?_
    exact ⟨i+1,rfl,⟨by omega,zW ae _ _ h2⟩,by omega⟩
   ·refine N1 ?_
    rw [lC (show ¬ l=m from fun e=>by subst e; exact h2 rfl)]
  ·refine N1 ?_
   rw [lM (anD ae (by omega) (by omega))]
 ·refine N ?_
  rw [lC (show ¬ l=m from fun e=>h (by rw [e]))]
theorem apb (a b:Fs) (ha:a.sz<2^40) (hb:b.sz<2^40):bR Tryz.prog 21 [a.x,b.x] (.bool (decide (a=b))) [.undef,.undef]:=by
 refine Vw apN [] 31 [] fun w hP hQ=>?_
 refine Jg (fun h0=>?_) fun h0=>?_
 rotate_left
 ·have hz:=h0
  refine Nz ?_
  rw [lC (show ¬ a=b from fun h=>h0 (by rw [h]))]
 have hz:=h0
 refine Nz ?_
 refine K (x4 a.vols b.vols ha hb fun x y hx hy=>apz x y hx hy) ?_
 rw [s6 (p:=a=b) ⟨fun h=>by rw [h],fun h=>Fs.eq' h h0⟩]
theorem aqb (a b:Fs) (ha:a.sz<2^40) (hb:b.sz<2^40):bR Tryz.prog 41 [a.x,b.x] (.bool (decide (a=b))) [.undef,.undef]:=by
 obtain ⟨a1,a2⟩:=amo (show szM Vol.sz a.vols<2^40 from ha)
 obtain ⟨b1,b2⟩:=amo (show szM Vol.sz b.vols<2^40 from hb)
 refine Vw apP [] 255 [] fun w hP hQ=>?_
 refine Jg (fun h0=>?_) fun h0=>?_
 rotate_left
 ·have hz:=h0
  refine Nz ?_
  rw [lC (show ¬ a=b from fun h=>h0 (by rw [h]))]
 have hz:=h0
 refine Nz ?_
 refine Jf (fun h=>?_) fun h=>?_
 rotate_left
 ·refine N ?_
  rw [lC (show ¬ a=b from fun e=>h (by rw [e]))]
 refine N ?_
 refine iV [4,6,7,5006,5007] ?_
 refine N ?_
 refine bG [4,6,7,5006,5007] (fun i:Nat=>[(5,.int .i64 i)]) (fun i=>i≤a.vols.length∧a.vols.take i=b.vols.take i) (fun i=>a.vols.length-i) (0) hP hQ (rfl) (by simp) ?_
 rintro i ⟨hi,ae⟩ w1 hP1 hQ1
 refine N1 ?_
 refine Jf (fun h1=>?_) fun h1=>?_
 ·have hx:=a2 _ (lQ (show i<a.vols.length by omega))
  have hy:=b2 _ (lQ (show i<b.vols.length by omega))
  have key:a=b→a.vols[i]'(by omega)=b.vols[i]'(by omega):=fun e=>by subst e; rfl
  have step:a.vols[i]'(by omega)=b.vols[i]'(by omega)→a.vols.take (i+1)=b.vols.take (i+1):=fun e=>zW ae _ _ e
  have hz:=And.intro (bW h1) (bW (h ▸ h1))
  refine Nz1 ?_
  generalize a.vols[i]'(by omega)=x at *
  generalize b.vols[i]'(by omega)=y at *
  refine Jg (fun g0=>?_) fun g0=>?_
  rotate_left
  ·have hz:=g0
   refine Nz1 ?_
   rw [lC (show ¬ a=b from fun h=>g0 (by rw [key h]))]
  have hz:=g0
  refine Nz1 ?_
  refine Jg (fun g1=>?_) fun g1=>?_
  rotate_left
  ·have hz:=g1
   refine Nz1 ?_
   rw [lC (show ¬ a=b from fun h=>g1 (by rw [key h]))]
  have hz:=g1
  refine Nz1 ?_
  refine Jg (fun g2=>?_) fun g2=>?_
  rotate_left
  ·have hz:=g2
   refine Nz1 ?_
   rw [lC (show ¬ a=b from fun h=>g2 (by rw [key h]))]
  have hz:=g2
  refine Nz1 ?_
  refine Jg (fun g3=>?_) fun g3=>?_
  rotate_left
  ·have hz:=g3
   refine Nz1 ?_
   rw [lC (show ¬ a=b from fun h=>g3 (by rw [key h]))]
  have hz:=g3
  refine Nz1 ?_
  refine K1 (apX x.t y.t (aib hx).2 (aib hy).2) ?_
  refine Jf (fun g4=>?_) fun g4=>?_
  ·refine N1 ?_
   exact ⟨i+1,rfl,⟨by omega,step (Vol.eq' g0 g1 g2 g3 g4)⟩,by omega⟩
  ·refine N1 ?_
   rw [lC (show ¬ a=b from fun h=>g4 (by rw [key h]))]
 ·refine N1 ?_
  rw [lM (Fs.eq' (anD ae (by omega) (by omega)) h0)]
theorem apA (f:Fs) (h:f.sz<2^40):bR Tryz.prog 23 [f.x] (.bool (fsB f)) [.undef]:=by
 obtain ⟨hl,ak⟩:=amo (show szM Vol.sz f.vols<2^40 from h)
 refine Vw aqz [] 458783 [] fun w hP hQ=>?_
 refine Jg (fun hA=>?_) fun hA=>?_
 ·have hz:=hA
  refine Nz ?_
  simp only [fsB,lC (show ¬ f.vols.length≤6 by omega),lD2]
 have hz:=hA
 refine Nz ?_
 rcases iT (inR f.next 1 99) with hB | hB
 ·have hz:=hB
  refine Kz (aoc f.next 1 99) ?_
  simp only [fsB,hB,lD2,lR2]
 have hz:=hB
 refine Kz (aoc f.next 1 99) ?_
 refine iV [2,3,4,5004] ?_
 refine N ?_
 refine bG [2,3,4,5004] (fun i:Nat=>[(18,.int .i64 i)]) (fun i=>i≤f.vols.length∧∀ k,k<i→eG (qH f) tV f.vols k=true) (fun i=>f.vols.length-i) (0) hP hQ (rfl) (by simp) ?_
 rintro i ⟨hi,hk⟩ w1 hP1 hQ1
 refine N1 ?_
 refine Jf (fun h1=>?_) fun h1=>?_
 ·have aa:i<f.vols.length:=by omega
  have hx:=ak _ (lQ aa)
  cases i with
  | zero=>
   have ac:qH f 0 (f.vols[0]'aa)=false→fsB f=false:=fun e=>aic aa (jB aa e)
   have ah:qH f 0 (f.vols[0]'aa)=true→∀ k,k<0+1→eG (qH f) tV f.vols k=true:=fun e=>nS hk (by rw [iP aa,e])
   have hz:=(bW h1)
   refine Nz1 ?_
   generalize f.vols[0]'aa=v at *
   obtain ⟨hv1,hv2⟩:=aib hx
   refine Jh (fun g0=>?_) fun g0=>?_
   ·have hz:=g0
    refine Nz1 ?_
    rw [ac (by simp only [qH,lC (show ¬ 1≤v.id by omega),lD2])]
   have hz:=g0
   refine Nz1 ?_
   refine Jh (fun g1=>?_) fun g1=>?_
   ·have hz:=g1
    refine Nz1 ?_
    rw [ac (by simp only [qH,lC (show ¬ v.id<f.next by omega),lD2,lR2])]
   have hz:=g1
   refine Nz1 ?_
   rcases iT (aW v.name) with hN | hN
   ·have hz:=hN
    refine Kz1 (eI v.name (by omega)) ?_
    rw [ac (by simp only [qH,hN,lD2,lR2])]
   have hz:=hN
   refine Kz1 (eI v.name (by omega)) ?_
   refine K1 (x1 f v.name (by omega)) ?_
   refine Jh (fun g3=>?_) fun g3=>?_
   ·have g3':¬ uL (eP f v.name)=(((0:Nat):Int):Int):=by simpa using g3
    have hz:=g3
    refine Nz1 ?_
    rw [ac (by simp only [qH,lC g3',lD2,lR2])]
   have hz:=g3
   refine Nz1 ?_
   have g3':uL (eP f v.name)=(((0:Nat):Int):Int):=by simpa using g3
   rcases iT (inR v.limit 32 4000) with hL | hL
   ·have hz:=hL
    refine Kz1 (m3 v.limit) ?_
    rw [ac (by simp only [qH,hL,lD2,lR2])]
   have hz:=hL
   refine Kz1 (m3 v.limit) ?_
   rcases iT (bF v.t) with hT | hT
   ·have hz:=hT
    refine Kz1 (m5 v.t (by omega)) ?_
    rw [ac (by simp only [qH,hT,lD2,lR2])]
   have hz:=hT
   refine Kz1 (m5 v.t (by omega)) ?_
   refine K1 (aoK v.t (by omega)) ?_
   refine Jf (fun g4=>?_) fun g4=>?_
   ·refine N1 ?_
    rw [ac (by simp only [qH,lC (show ¬ ((dO v.t:Nat):Int)≤v.limit by omega),lD2,lR2])]
   ·refine N1 ?_
    have hp:qH f 0 v=true:=by
     simp only [qH,hN,hL,hT,lM (show 1≤v.id by omega),lM (show v.id<f.next by omega),lM (show ((dO v.t:Nat):Int)≤v.limit by omega),lM g3',Bool.and_true]
    exact ⟨0+1,rfl,⟨by omega,ah hp⟩,by omega⟩
  | succ m=>
   have hml:m<f.vols.length:=by omega
   have w4:decide ((0:Int)<((m+1:Nat):Int))=true:=lM (by omega)
   have hm:=bW (show ((m:Nat):Int)<(f.vols.length:Nat) by omega)
   have ac:qH f (m+1) (f.vols[m+1]'aa)=false→fsB f=false:=fun e=>aic aa (jB aa e)
   have az:tV (f.vols[m]'hml) (f.vols[m+1]'aa)=false→fsB f=false:=fun e=>aic aa (by rw [c6 aa,e,lR2])
   have ah:qH f (m+1) (f.vols[m+1]'aa)=true→tV (f.vols[m]'hml) (f.vols[m+1]'aa)=true→∀ k,k<(m+1)+1→eG (qH f) tV f.vols k=true:=fun e e'=>nS hk (by rw [c6 aa,e,e']; rfl)
   have hz:=(bW h1)
   refine Nz1 ?_
   generalize f.vols[m+1]'aa=v at *
   obtain ⟨hv1,hv2⟩:=aib hx
   refine Jh (fun g0=>?_) fun g0=>?_
   ·have hz:=g0
    refine Nz1 ?_
    rw [ac (by simp only [qH,lC (show ¬ 1≤v.id by omega),lD2])]
   have hz:=g0
   refine Nz1 ?_
   refine Jh (fun g1=>?_) fun g1=>?_
   ·have hz:=g1
    refine Nz1 ?_
    rw [ac (by simp only [qH,lC (show ¬ v.id<f.next by omega),lD2,lR2])]
   have hz:=And.intro g1 (And.intro w4 (And.intro bX (And.intro hm (bW h1))))
   refine Nz1 ?_
   refine Jh (fun g2=>?_) fun g2=>?_
   ·have hz:=g2
    refine Nz1 ?_
    rw [az (by rw [tV,lC (by omega)])]
   have hz:=g2
   refine Nz1 ?_
   rcases iT (aW v.name) with hN | hN
   ·have hz:=hN
    refine Kz1 (eI v.name (by omega)) ?_
    rw [ac (by simp only [qH,hN,lD2,lR2])]
   have hz:=hN
   refine Kz1 (eI v.name (by omega)) ?_
   refine K1 (x1 f v.name (by omega)) ?_
   refine Jh (fun g3=>?_) fun g3=>?_
   ·have g3':¬ uL (eP f v.name)=(((m+1:Nat):Int):Int):=by simpa using g3
    have hz:=g3
    refine Nz1 ?_
    rw [ac (by simp only [qH,lC g3',lD2,lR2])]
   have hz:=g3
   refine Nz1 ?_
   have g3':uL (eP f v.name)=(((m+1:Nat):Int):Int):=by simpa using g3
   rcases iT (inR v.limit 32 4000) with hL | hL
   ·have hz:=hL
    refine Kz1 (m3 v.limit) ?_
    rw [ac (by simp only [qH,hL,lD2,lR2])]
   have hz:=hL
   refine Kz1 (m3 v.limit) ?_
   rcases iT (bF v.t) with hT | hT
   ·have hz:=hT
    refine Kz1 (m5 v.t (by omega)) ?_
    rw [ac (by simp only [qH,hT,lD2,lR2])]
   have hz:=hT
   refine Kz1 (m5 v.t (by omega)) ?_
   refine K1 (aoK v.t (by omega)) ?_
   refine Jf (fun g4=>?_) fun g4=>?_
   ·refine N1 ?_
    rw [ac (by simp only [qH,lC (show ¬ ((dO v.t:Nat):Int)≤v.limit by omega),lD2,lR2])]
   ·refine N1 ?_
    have hp:qH f (m+1) v=true:=by
     simp only [qH,hN,hL,hT,lM (show 1≤v.id by omega),lM (show v.id<f.next by omega),lM (show ((dO v.t:Nat):Int)≤v.limit by omega),lM g3',Bool.and_true]
    exact ⟨(m+1)+1,rfl,⟨by omega,ah hp (by rw [tV,lM (by omega)])⟩,by omega⟩
 ·obtain rfl:i=f.vols.length:=by omega
  refine N1 ?_
  rw [fsB,hB,nO fun k h=>hk k h,lM (by omega)]; rfl
theorem apY (v:Value) (b:aA) (i:Nat) (h:Int) (t:Tab) (hl:b.length<2^48) (hi:i≤b.length) (hB:bF t=true):∃ (t':Tab) (i':Nat) (h':Int),bF t'=true∧i'≤b.length ∧
  bR Tryz.prog 138 [cur v b i h,t.x] t'.o [cur v b i' h',.undef]:=by
 have hz:=q9 hB
 obtain ⟨p,i1,h1,hp,ai,k1⟩:=jE v b i h t hl hi (by omega)
 obtain ⟨q,i2,h2,hq,ag,k2⟩:=dQ v b i1 h1 hl ai
 obtain ⟨x,i3,h3,hx,ab,k3⟩:=gR v b i2 h2 12 hl ag (by omega)
 have hx':(x:Int)<12:=by rw [uI,lF (by omega)] at hx; exact hx
 have hc:x=0∨x=1∨x=2∨x=3∨x=4∨x=5∨x=6∨x=7∨x=8∨x=9∨x=10∨x=11:=by omega
 rcases hc with hc | hc | hc | hc | hc | hc | hc | hc | hc | hc | hc | hc
 ·
  have d0:decide ((x:Int)=0)=true:=lM (by omega)
  refine ⟨(eR t q 2).1,i3,h3,t6 hB q (.inr rfl),ab,?_⟩
  unfold cur at *
  refine U dS [(94,[.l,.b],[]),(93,[.l],[]),(50,[.l,.b],[]),(51,[.l,.b],[]),(96,[.l],[]),(84,[.l,.b],[]),(95,[.l],[]),(75,[.l,.b],[])] 8315 [true,false] fun w hP hQ=>?_
  unfold dI
  refine N ?_
  (first | refine iM hP (k1) (.inl ⟨rfl,fun _ hx=>hx⟩) ?_ | refine f0 hP (k1) (.inl ⟨rfl,fun _ hx=>hx⟩) ?_)
  refine N ?_
  (first | refine iM hP (k2) (.inl ⟨rfl,fun _ hx=>hx⟩) ?_ | refine f0 hP (k2) (.inl ⟨rfl,fun _ hx=>hx⟩) ?_)
  refine N ?_
  (first | refine iM hP (k3) (.inl ⟨rfl,fun _ hx=>hx⟩) ?_ | refine f0 hP (k3) (.inl ⟨rfl,fun _ hx=>hx⟩) ?_)
  have hz:=d0
  refine Nz ?_
  (first | refine iM hP (afs t q (by omega) (by omega)) (.inl ⟨rfl,fun _ hx=>hx⟩) ?_ | refine f0 hP (afs t q (by omega) (by omega)) (.inl ⟨rfl,fun _ hx=>hx⟩) ?_)
  refine N ?_
  all_goals first|exact trivial|rfl|exact ⟨rfl,rfl⟩
 ·
  have d0:decide ((x:Int)=0)=false:=lC (by omega)
  have d1:decide ((x:Int)=1)=true:=lM (by omega)
  refine ⟨(eR t q 2).1,i3,h3,t6 hB q (.inr rfl),ab,?_⟩
  unfold cur at *
  refine U dS [(94,[.l,.b],[]),(93,[.l],[]),(50,[.l,.b],[]),(51,[.l,.b],[]),(96,[.l],[]),(84,[.l,.b],[]),(95,[.l],[]),(75,[.l,.b],[])] 8315 [true,false] fun w hP hQ=>?_
  unfold dI
  refine N ?_
  (first | refine iM hP (k1) (.inl ⟨rfl,fun _ hx=>hx⟩) ?_ | refine f0 hP (k1) (.inl ⟨rfl,fun _ hx=>hx⟩) ?_)
  refine N ?_
  (first | refine iM hP (k2) (.inl ⟨rfl,fun _ hx=>hx⟩) ?_ | refine f0 hP (k2) (.inl ⟨rfl,fun _ hx=>hx⟩) ?_)
  refine N ?_
  (first | refine iM hP (k3) (.inl ⟨rfl,fun _ hx=>hx⟩) ?_ | refine f0 hP (k3) (.inl ⟨rfl,fun _ hx=>hx⟩) ?_)
  have hz:=And.intro d0 d1
  refine Nz ?_
  (first | refine iM hP (afs t q (by omega) (by omega)) (.inl ⟨rfl,fun _ hx=>hx⟩) ?_ | refine f0 hP (afs t q (by omega) (by omega)) (.inl ⟨rfl,fun _ hx=>hx⟩) ?_)
  refine N ?_
  all_goals first|exact trivial|rfl|exact ⟨rfl,rfl⟩
 ·
  have d0:decide ((x:Int)=0)=false:=lC (by omega)
  have d1:decide ((x:Int)=1)=false:=lC (by omega)
  have d2:decide ((x:Int)=2)=true:=lM (by omega)
  refine ⟨(eR t q 1).1,i3,h3,t6 hB q (.inl rfl),ab,?_⟩
  unfold cur at *
  refine U dS [(94,[.l,.b],[]),(93,[.l],[]),(50,[.l,.b],[]),(51,[.l,.b],[]),(96,[.l],[]),(84,[.l,.b],[]),(95,[.l],[]),(75,[.l,.b],[])] 8315 [true,false] fun w hP hQ=>?_
  unfold dI
  refine N ?_
  (first | refine iM hP (k1) (.inl ⟨rfl,fun _ hx=>hx⟩) ?_ | refine f0 hP (k1) (.inl ⟨rfl,fun _ hx=>hx⟩) ?_)
  refine N ?_
  (first | refine iM hP (k2) (.inl ⟨rfl,fun _ hx=>hx⟩) ?_ | refine f0 hP (k2) (.inl ⟨rfl,fun _ hx=>hx⟩) ?_)
  refine N ?_
  (first | refine iM hP (k3) (.inl ⟨rfl,fun _ hx=>hx⟩) ?_ | refine f0 hP (k3) (.inl ⟨rfl,fun _ hx=>hx⟩) ?_)
  have hz:=And.intro d0 (And.intro d1 d2)
  refine Nz ?_
  (first | refine iM hP (acu t q (by omega) (by omega)) (.inl ⟨rfl,fun _ hx=>hx⟩) ?_ | refine f0 hP (acu t q (by omega) (by omega)) (.inl ⟨rfl,fun _ hx=>hx⟩) ?_)
  refine N ?_
  all_goals first|exact trivial|rfl|exact ⟨rfl,rfl⟩
 ·
  have d0:decide ((x:Int)=0)=false:=lC (by omega)
  have d1:decide ((x:Int)=1)=false:=lC (by omega)
  have d2:decide ((x:Int)=2)=false:=lC (by omega)
  have d3:decide ((x:Int)=3)=true:=lM (by omega)
  refine ⟨(eR t q 1).1,i3,h3,t6 hB q (.inl rfl),ab,?_⟩
  unfold cur at *
  refine U dS [(94,[.l,.b],[]),(93,[.l],[]),(50,[.l,.b],[]),(51,[.l,.b],[]),(96,[.l],[]),(84,[.l,.b],[]),(95,[.l],[]),(75,[.l,.b],[])] 8315 [true,false] fun w hP hQ=>?_
  unfold dI
  refine N ?_
  (first | refine iM hP (k1) (.inl ⟨rfl,fun _ hx=>hx⟩) ?_ | refine f0 hP (k1) (.inl ⟨rfl,fun _ hx=>hx⟩) ?_)
  refine N ?_
  (first | refine iM hP (k2) (.inl ⟨rfl,fun _ hx=>hx⟩) ?_ | refine f0 hP (k2) (.inl ⟨rfl,fun _ hx=>hx⟩) ?_)
  refine N ?_
  (first | refine iM hP (k3) (.inl ⟨rfl,fun _ hx=>hx⟩) ?_ | refine f0 hP (k3) (.inl ⟨rfl,fun _ hx=>hx⟩) ?_)
  have hz:=And.intro d0 (And.intro d1 (And.intro d2 d3))
  refine Nz ?_
  (first | refine iM hP (acu t q (by omega) (by omega)) (.inl ⟨rfl,fun _ hx=>hx⟩) ?_ | refine f0 hP (acu t q (by omega) (by omega)) (.inl ⟨rfl,fun _ hx=>hx⟩) ?_)
  refine N ?_
  all_goals first|exact trivial|rfl|exact ⟨rfl,rfl⟩
 ·
  have d0:decide ((x:Int)=0)=false:=lC (by omega)
  have d1:decide ((x:Int)=1)=false:=lC (by omega)
  have d2:decide ((x:Int)=2)=false:=lC (by omega)
  have d3:decide ((x:Int)=3)=false:=lC (by omega)
  have d4:decide ((x:Int)=4)=true:=lM (by omega)
  obtain ⟨n,i4,h4,hn,ad,k4⟩:=dP v b i3 h3 [0,1,20] hl ab (by simp) (by simp)
  obtain ⟨y,i5,h5,hy,ap,k5⟩:=jD v b i4 h4 hl ad
  simp only [gQ,lO,lH1] at k4
  refine ⟨(gC t p n y).1,i5,h5,aap hB p n y,ap,?_⟩
  unfold cur at *
  refine U dS [(94,[.l,.b],[]),(93,[.l],[]),(50,[.l,.b],[]),(51,[.l,.b],[]),(96,[.l],[]),(84,[.l,.b],[]),(95,[.l],[]),(75,[.l,.b],[])] 8315 [true,false] fun w hP hQ=>?_
  unfold dI
  refine N ?_
  (first | refine iM hP (k1) (.inl ⟨rfl,fun _ hx=>hx⟩) ?_ | refine f0 hP (k1) (.inl ⟨rfl,fun _ hx=>hx⟩) ?_)
  refine N ?_
  (first | refine iM hP (k2) (.inl ⟨rfl,fun _ hx=>hx⟩) ?_ | refine f0 hP (k2) (.inl ⟨rfl,fun _ hx=>hx⟩) ?_)
  refine N ?_
  (first | refine iM hP (k3) (.inl ⟨rfl,fun _ hx=>hx⟩) ?_ | refine f0 hP (k3) (.inl ⟨rfl,fun _ hx=>hx⟩) ?_)
  have hz:=And.intro d0 (And.intro d1 (And.intro d2 (And.intro d3 d4)))
  refine Nz ?_
  (first | refine iM hP (k4) (.inl ⟨rfl,fun _ hx=>hx⟩) ?_ | refine f0 hP (k4) (.inl ⟨rfl,fun _ hx=>hx⟩) ?_)
  refine N ?_
  (first | refine iM hP (k5) (.inl ⟨rfl,fun _ hx=>hx⟩) ?_ | refine f0 hP (k5) (.inl ⟨rfl,fun _ hx=>hx⟩) ?_)
  refine N ?_
  (first | refine iM hP (afv t p n y (by omega) (by omega) (by omega)) (.inl ⟨rfl,fun _ hx=>hx⟩) ?_ | refine f0 hP (afv t p n y (by omega) (by omega) (by omega)) (.inl ⟨rfl,fun _ hx=>hx⟩) ?_)
  refine N ?_
  all_goals first|exact trivial|rfl|exact ⟨rfl,rfl⟩
 ·
  have d0:decide ((x:Int)=0)=false:=lC (by omega)
  have d1:decide ((x:Int)=1)=false:=lC (by omega)
  have d2:decide ((x:Int)=2)=false:=lC (by omega)
  have d3:decide ((x:Int)=3)=false:=lC (by omega)
  have d4:decide ((x:Int)=4)=false:=lC (by omega)
  have d5:decide ((x:Int)=5)=true:=lM (by omega)
  obtain ⟨n,i4,h4,hn,ad,k4⟩:=dP v b i3 h3 [0,1,20] hl ab (by simp) (by simp)
  obtain ⟨y,i5,h5,hy,ap,k5⟩:=jD v b i4 h4 hl ad
  simp only [gQ,lO,lH1] at k4
  refine ⟨(gC t p n y).1,i5,h5,aap hB p n y,ap,?_⟩
  unfold cur at *
  refine U dS [(94,[.l,.b],[]),(93,[.l],[]),(50,[.l,.b],[]),(51,[.l,.b],[]),(96,[.l],[]),(84,[.l,.b],[]),(95,[.l],[]),(75,[.l,.b],[])] 8315 [true,false] fun w hP hQ=>?_
  unfold dI
  refine N ?_
  (first | refine iM hP (k1) (.inl ⟨rfl,fun _ hx=>hx⟩) ?_ | refine f0 hP (k1) (.inl ⟨rfl,fun _ hx=>hx⟩) ?_)
  refine N ?_
  (first | refine iM hP (k2) (.inl ⟨rfl,fun _ hx=>hx⟩) ?_ | refine f0 hP (k2) (.inl ⟨rfl,fun _ hx=>hx⟩) ?_)
  refine N ?_
  (first | refine iM hP (k3) (.inl ⟨rfl,fun _ hx=>hx⟩) ?_ | refine f0 hP (k3) (.inl ⟨rfl,fun _ hx=>hx⟩) ?_)
  have hz:=And.intro d0 (And.intro d1 (And.intro d2 (And.intro d3 (And.intro d4 d5))))
  refine Nz ?_
  (first | refine iM hP (k4) (.inl ⟨rfl,fun _ hx=>hx⟩) ?_ | refine f0 hP (k4) (.inl ⟨rfl,fun _ hx=>hx⟩) ?_)
  refine N ?_
  (first | refine iM hP (k5) (.inl ⟨rfl,fun _ hx=>hx⟩) ?_ | refine f0 hP (k5) (.inl ⟨rfl,fun _ hx=>hx⟩) ?_)
  refine N ?_
  (first | refine iM hP (afv t p n y (by omega) (by omega) (by omega)) (.inl ⟨rfl,fun _ hx=>hx⟩) ?_ | refine f0 hP (afv t p n y (by omega) (by omega) (by omega)) (.inl ⟨rfl,fun _ hx=>hx⟩) ?_)
  refine N ?_
  all_goals first|exact trivial|rfl|exact ⟨rfl,rfl⟩
 ·
  have d0:decide ((x:Int)=0)=false:=lC (by omega)
  have d1:decide ((x:Int)=1)=false:=lC (by omega)
  have d2:decide ((x:Int)=2)=false:=lC (by omega)
  have d3:decide ((x:Int)=3)=false:=lC (by omega)
  have d4:decide ((x:Int)=4)=false:=lC (by omega)
  have d5:decide ((x:Int)=5)=false:=lC (by omega)
  have d6:decide ((x:Int)=6)=true:=lM (by omega)
  obtain ⟨n,i4,h4,hn,ad,k4⟩:=dP v b i3 h3 [0,1,20] hl ab (by simp) (by simp)
  obtain ⟨y,i5,h5,hy,ap,k5⟩:=jD v b i4 h4 hl ad
  simp only [gQ,lO,lH1] at k4
  refine ⟨(gC t p n y).1,i5,h5,aap hB p n y,ap,?_⟩
  unfold cur at *
  refine U dS [(94,[.l,.b],[]),(93,[.l],[]),(50,[.l,.b],[]),(51,[.l,.b],[]),(96,[.l],[]),(84,[.l,.b],[]),(95,[.l],[]),(75,[.l,.b],[])] 8315 [true,false] fun w hP hQ=>?_
  unfold dI
  refine N ?_
  (first | refine iM hP (k1) (.inl ⟨rfl,fun _ hx=>hx⟩) ?_ | refine f0 hP (k1) (.inl ⟨rfl,fun _ hx=>hx⟩) ?_)
  refine N ?_
  (first | refine iM hP (k2) (.inl ⟨rfl,fun _ hx=>hx⟩) ?_ | refine f0 hP (k2) (.inl ⟨rfl,fun _ hx=>hx⟩) ?_)
  refine N ?_
  (first | refine iM hP (k3) (.inl ⟨rfl,fun _ hx=>hx⟩) ?_ | refine f0 hP (k3) (.inl ⟨rfl,fun _ hx=>hx⟩) ?_)
  have hz:=And.intro d0 (And.intro d1 (And.intro d2 (And.intro d3 (And.intro d4 (And.intro d5 d6)))))
  refine Nz ?_
  (first | refine iM hP (k4) (.inl ⟨rfl,fun _ hx=>hx⟩) ?_ | refine f0 hP (k4) (.inl ⟨rfl,fun _ hx=>hx⟩) ?_)
  refine N ?_
  (first | refine iM hP (k5) (.inl ⟨rfl,fun _ hx=>hx⟩) ?_ | refine f0 hP (k5) (.inl ⟨rfl,fun _ hx=>hx⟩) ?_)
  refine N ?_
  (first | refine iM hP (afv t p n y (by omega) (by omega) (by omega)) (.inl ⟨rfl,fun _ hx=>hx⟩) ?_ | refine f0 hP (afv t p n y (by omega) (by omega) (by omega)) (.inl ⟨rfl,fun _ hx=>hx⟩) ?_)
  refine N ?_
  all_goals first|exact trivial|rfl|exact ⟨rfl,rfl⟩
 ·
  have d0:decide ((x:Int)=0)=false:=lC (by omega)
  have d1:decide ((x:Int)=1)=false:=lC (by omega)
  have d2:decide ((x:Int)=2)=false:=lC (by omega)
  have d3:decide ((x:Int)=3)=false:=lC (by omega)
  have d4:decide ((x:Int)=4)=false:=lC (by omega)
  have d5:decide ((x:Int)=5)=false:=lC (by omega)
  have d6:decide ((x:Int)=6)=false:=lC (by omega)
  have d7:decide ((x:Int)=7)=true:=lM (by omega)
  obtain ⟨n,i4,h4,hn,ad,k4⟩:=dP v b i3 h3 [0,3,50] hl ab (by simp) (by simp)
  simp only [gQ,lO,lH1] at k4
  refine ⟨(q8 t p n).1,i4,h4,afc hB p n,ad,?_⟩
  unfold cur at *
  refine U dS [(94,[.l,.b],[]),(93,[.l],[]),(50,[.l,.b],[]),(51,[.l,.b],[]),(96,[.l],[]),(84,[.l,.b],[]),(95,[.l],[]),(75,[.l,.b],[])] 8315 [true,false] fun w hP hQ=>?_
  unfold dI
  refine N ?_
  (first | refine iM hP (k1) (.inl ⟨rfl,fun _ hx=>hx⟩) ?_ | refine f0 hP (k1) (.inl ⟨rfl,fun _ hx=>hx⟩) ?_)
  refine N ?_
  (first | refine iM hP (k2) (.inl ⟨rfl,fun _ hx=>hx⟩) ?_ | refine f0 hP (k2) (.inl ⟨rfl,fun _ hx=>hx⟩) ?_)
  refine N ?_
  (first | refine iM hP (k3) (.inl ⟨rfl,fun _ hx=>hx⟩) ?_ | refine f0 hP (k3) (.inl ⟨rfl,fun _ hx=>hx⟩) ?_)
  have hz:=And.intro d0 (And.intro d1 (And.intro d2 (And.intro d3 (And.intro d4 (And.intro d5 (And.intro d6 d7))))))
  refine Nz ?_
  (first | refine iM hP (k4) (.inl ⟨rfl,fun _ hx=>hx⟩) ?_ | refine f0 hP (k4) (.inl ⟨rfl,fun _ hx=>hx⟩) ?_)
  refine N ?_
  (first | refine iM hP (acw t p n (by omega) (by omega)) (.inl ⟨rfl,fun _ hx=>hx⟩) ?_ | refine f0 hP (acw t p n (by omega) (by omega)) (.inl ⟨rfl,fun _ hx=>hx⟩) ?_)
  refine N ?_
  all_goals first|exact trivial|rfl|exact ⟨rfl,rfl⟩
 ·
  have d0:decide ((x:Int)=0)=false:=lC (by omega)
  have d1:decide ((x:Int)=1)=false:=lC (by omega)
  have d2:decide ((x:Int)=2)=false:=lC (by omega)
  have d3:decide ((x:Int)=3)=false:=lC (by omega)
  have d4:decide ((x:Int)=4)=false:=lC (by omega)
  have d5:decide ((x:Int)=5)=false:=lC (by omega)
  have d6:decide ((x:Int)=6)=false:=lC (by omega)
  have d7:decide ((x:Int)=7)=false:=lC (by omega)
  have d8:decide ((x:Int)=8)=true:=lM (by omega)
  refine ⟨(eQ t p).1,i3,h3,xM hB p,ab,?_⟩
  unfold cur at *
  refine U dS [(94,[.l,.b],[]),(93,[.l],[]),(50,[.l,.b],[]),(51,[.l,.b],[]),(96,[.l],[]),(84,[.l,.b],[]),(95,[.l],[]),(75,[.l,.b],[])] 8315 [true,false] fun w hP hQ=>?_
  unfold dI
  refine N ?_
  (first | refine iM hP (k1) (.inl ⟨rfl,fun _ hx=>hx⟩) ?_ | refine f0 hP (k1) (.inl ⟨rfl,fun _ hx=>hx⟩) ?_)
  refine N ?_
  (first | refine iM hP (k2) (.inl ⟨rfl,fun _ hx=>hx⟩) ?_ | refine f0 hP (k2) (.inl ⟨rfl,fun _ hx=>hx⟩) ?_)
  refine N ?_
  (first | refine iM hP (k3) (.inl ⟨rfl,fun _ hx=>hx⟩) ?_ | refine f0 hP (k3) (.inl ⟨rfl,fun _ hx=>hx⟩) ?_)
  have hz:=And.intro d0 (And.intro d1 (And.intro d2 (And.intro d3 (And.intro d4 (And.intro d5 (And.intro d6 (And.intro d7 d8)))))))
  refine Nz ?_
  (first | refine iM hP (aii t p (by omega) (by omega)) (.inl ⟨rfl,fun _ hx=>hx⟩) ?_ | refine f0 hP (aii t p (by omega) (by omega)) (.inl ⟨rfl,fun _ hx=>hx⟩) ?_)
  refine N ?_
  all_goals first|exact trivial|rfl|exact ⟨rfl,rfl⟩
 ·
  have d0:decide ((x:Int)=0)=false:=lC (by omega)
  have d1:decide ((x:Int)=1)=false:=lC (by omega)
  have d2:decide ((x:Int)=2)=false:=lC (by omega)
  have d3:decide ((x:Int)=3)=false:=lC (by omega)
  have d4:decide ((x:Int)=4)=false:=lC (by omega)
  have d5:decide ((x:Int)=5)=false:=lC (by omega)
  have d6:decide ((x:Int)=6)=false:=lC (by omega)
  have d7:decide ((x:Int)=7)=false:=lC (by omega)
  have d8:decide ((x:Int)=8)=false:=lC (by omega)
  have d9:decide ((x:Int)=9)=true:=lM (by omega)
  refine ⟨(iQ t p q).1,i3,h3,acf hB p q,ab,?_⟩
  unfold cur at *
  refine U dS [(94,[.l,.b],[]),(93,[.l],[]),(50,[.l,.b],[]),(51,[.l,.b],[]),(96,[.l],[]),(84,[.l,.b],[]),(95,[.l],[]),(75,[.l,.b],[])] 8315 [true,false] fun w hP hQ=>?_
  unfold dI
  refine N ?_
  (first | refine iM hP (k1) (.inl ⟨rfl,fun _ hx=>hx⟩) ?_ | refine f0 hP (k1) (.inl ⟨rfl,fun _ hx=>hx⟩) ?_)
  refine N ?_
  (first | refine iM hP (k2) (.inl ⟨rfl,fun _ hx=>hx⟩) ?_ | refine f0 hP (k2) (.inl ⟨rfl,fun _ hx=>hx⟩) ?_)
  refine N ?_
  (first | refine iM hP (k3) (.inl ⟨rfl,fun _ hx=>hx⟩) ?_ | refine f0 hP (k3) (.inl ⟨rfl,fun _ hx=>hx⟩) ?_)
  have hz:=And.intro d0 (And.intro d1 (And.intro d2 (And.intro d3 (And.intro d4 (And.intro d5 (And.intro d6 (And.intro d7 (And.intro d8 d9))))))))
  refine Nz ?_
  (first | refine iM hP (acv t p q (by omega) (by omega) (by omega)) (.inl ⟨rfl,fun _ hx=>hx⟩) ?_ | refine f0 hP (acv t p q (by omega) (by omega) (by omega)) (.inl ⟨rfl,fun _ hx=>hx⟩) ?_)
  refine N ?_
  all_goals first|exact trivial|rfl|exact ⟨rfl,rfl⟩
 ·
  have d0:decide ((x:Int)=0)=false:=lC (by omega)
  have d1:decide ((x:Int)=1)=false:=lC (by omega)
  have d2:decide ((x:Int)=2)=false:=lC (by omega)
  have d3:decide ((x:Int)=3)=false:=lC (by omega)
  have d4:decide ((x:Int)=4)=false:=lC (by omega)
  have d5:decide ((x:Int)=5)=false:=lC (by omega)
  have d6:decide ((x:Int)=6)=false:=lC (by omega)
  have d7:decide ((x:Int)=7)=false:=lC (by omega)
  have d8:decide ((x:Int)=8)=false:=lC (by omega)
  have d9:decide ((x:Int)=9)=false:=lC (by omega)
  have d10:decide ((x:Int)=10)=true:=lM (by omega)
  refine ⟨(j5 t p q).1,i3,h3,acg hB p q,ab,?_⟩
  unfold cur at *
  refine U dS [(94,[.l,.b],[]),(93,[.l],[]),(50,[.l,.b],[]),(51,[.l,.b],[]),(96,[.l],[]),(84,[.l,.b],[]),(95,[.l],[]),(75,[.l,.b],[])] 8315 [true,false] fun w hP hQ=>?_
  unfold dI
  refine N ?_
  (first | refine iM hP (k1) (.inl ⟨rfl,fun _ hx=>hx⟩) ?_ | refine f0 hP (k1) (.inl ⟨rfl,fun _ hx=>hx⟩) ?_)
  refine N ?_
  (first | refine iM hP (k2) (.inl ⟨rfl,fun _ hx=>hx⟩) ?_ | refine f0 hP (k2) (.inl ⟨rfl,fun _ hx=>hx⟩) ?_)
  refine N ?_
  (first | refine iM hP (k3) (.inl ⟨rfl,fun _ hx=>hx⟩) ?_ | refine f0 hP (k3) (.inl ⟨rfl,fun _ hx=>hx⟩) ?_)
  have hz:=And.intro d0 (And.intro d1 (And.intro d2 (And.intro d3 (And.intro d4 (And.intro d5 (And.intro d6 (And.intro d7 (And.intro d8 (And.intro d9 d10)))))))))
  refine Nz ?_
  (first | refine iM hP (ain t p q (by omega) (by omega) (by omega)) (.inl ⟨rfl,fun _ hx=>hx⟩) ?_ | refine f0 hP (ain t p q (by omega) (by omega) (by omega)) (.inl ⟨rfl,fun _ hx=>hx⟩) ?_)
  refine N ?_
  all_goals first|exact trivial|rfl|exact ⟨rfl,rfl⟩
 ·
  have d0:decide ((x:Int)=0)=false:=lC (by omega)
  have d1:decide ((x:Int)=1)=false:=lC (by omega)
  have d2:decide ((x:Int)=2)=false:=lC (by omega)
  have d3:decide ((x:Int)=3)=false:=lC (by omega)
  have d4:decide ((x:Int)=4)=false:=lC (by omega)
  have d5:decide ((x:Int)=5)=false:=lC (by omega)
  have d6:decide ((x:Int)=6)=false:=lC (by omega)
  have d7:decide ((x:Int)=7)=false:=lC (by omega)
  have d8:decide ((x:Int)=8)=false:=lC (by omega)
  have d9:decide ((x:Int)=9)=false:=lC (by omega)
  have d10:decide ((x:Int)=10)=false:=lC (by omega)
  obtain ⟨c,i4,h4,ad,k4⟩:=sF v b i3 h3 2 hl ab (by omega)
  cases c with
  | true=>
   refine ⟨(gB t p).1,i4,h4,aao hB p,ad,?_⟩
   unfold cur at *
   refine U dS [(94,[.l,.b],[]),(93,[.l],[]),(50,[.l,.b],[]),(51,[.l,.b],[]),(96,[.l],[]),(84,[.l,.b],[]),(95,[.l],[]),(75,[.l,.b],[])] 8315 [true,false] fun w hP hQ=>?_
   unfold dI
   refine N ?_
   (first | refine iM hP (k1) (.inl ⟨rfl,fun _ hx=>hx⟩) ?_ | refine f0 hP (k1) (.inl ⟨rfl,fun _ hx=>hx⟩) ?_)
   refine N ?_
   (first | refine iM hP (k2) (.inl ⟨rfl,fun _ hx=>hx⟩) ?_ | refine f0 hP (k2) (.inl ⟨rfl,fun _ hx=>hx⟩) ?_)
   refine N ?_
   (first | refine iM hP (k3) (.inl ⟨rfl,fun _ hx=>hx⟩) ?_ | refine f0 hP (k3) (.inl ⟨rfl,fun _ hx=>hx⟩) ?_)
   have hz:=And.intro d0 (And.intro d1 (And.intro d2 (And.intro d3 (And.intro d4 (And.intro d5 (And.intro d6 (And.intro d7 (And.intro d8 (And.intro d9 d10)))))))))
   refine Nz ?_
   (first | refine iM hP (k4) (.inl ⟨rfl,fun _ hx=>hx⟩) ?_ | refine f0 hP (k4) (.inl ⟨rfl,fun _ hx=>hx⟩) ?_)
   refine N ?_
   (first | refine iM hP (aaD t p (by omega) (by omega)) (.inl ⟨rfl,fun _ hx=>hx⟩) ?_ | refine f0 hP (aaD t p (by omega) (by omega)) (.inl ⟨rfl,fun _ hx=>hx⟩) ?_)
   refine N ?_
   all_goals first|exact trivial|rfl|exact ⟨rfl,rfl⟩
  | false=>
   obtain ⟨n,i5,h5,hn,ap,k5⟩:=xP v b i4 h4 hl ad
   obtain ⟨y,i6,h6,hy,hi6,k6⟩:=acA v b i5 h5 [[120],[],[118,97,108,117,101]] hl ap (by simp) (by simp)
   have hy':y.length≤5:=by
    simp only [lG,lS4,or_false] at hy
    rcases hy with rfl | rfl | rfl <;> simp
   simp only [mM,lO,lH1] at k6
   refine ⟨(j6 t p n y).1,i6,h6,ach hB p n y,hi6,?_⟩
   unfold cur at *
   refine U dS [(94,[.l,.b],[]),(93,[.l],[]),(50,[.l,.b],[]),(51,[.l,.b],[]),(96,[.l],[]),(84,[.l,.b],[]),(95,[.l],[]),(75,[.l,.b],[])] 8315 [true,false] fun w hP hQ=>?_
   unfold dI
   refine N ?_
   (first | refine iM hP (k1) (.inl ⟨rfl,fun _ hx=>hx⟩) ?_ | refine f0 hP (k1) (.inl ⟨rfl,fun _ hx=>hx⟩) ?_)
   refine N ?_
   (first | refine iM hP (k2) (.inl ⟨rfl,fun _ hx=>hx⟩) ?_ | refine f0 hP (k2) (.inl ⟨rfl,fun _ hx=>hx⟩) ?_)
   refine N ?_
   (first | refine iM hP (k3) (.inl ⟨rfl,fun _ hx=>hx⟩) ?_ | refine f0 hP (k3) (.inl ⟨rfl,fun _ hx=>hx⟩) ?_)
   have hz:=And.intro d0 (And.intro d1 (And.intro d2 (And.intro d3 (And.intro d4 (And.intro d5 (And.intro d6 (And.intro d7 (And.intro d8 (And.intro d9 d10)))))))))
   refine Nz ?_
   (first | refine iM hP (k4) (.inl ⟨rfl,fun _ hx=>hx⟩) ?_ | refine f0 hP (k4) (.inl ⟨rfl,fun _ hx=>hx⟩) ?_)
   refine N ?_
   (first | refine iM hP (k5) (.inl ⟨rfl,fun _ hx=>hx⟩) ?_ | refine f0 hP (k5) (.inl ⟨rfl,fun _ hx=>hx⟩) ?_)
   refine N ?_
   (first | refine iM hP (k6) (.inl ⟨rfl,fun _ hx=>hx⟩) ?_ | refine f0 hP (k6) (.inl ⟨rfl,fun _ hx=>hx⟩) ?_)
   refine N ?_
   (first | refine iM hP (afu t p n y (by omega) (by omega) (by omega) (by omega)) (.inl ⟨rfl,fun _ hx=>hx⟩) ?_ | refine f0 hP (afu t p n y (by omega) (by omega) (by omega) (by omega)) (.inl ⟨rfl,fun _ hx=>hx⟩) ?_)
   refine N ?_
   all_goals first|exact trivial|rfl|exact ⟨rfl,rfl⟩
section
variable {f:Fs}
theorem aqc {i n:Int} (h:(gI f i n).2≠0):(gI f i n).1=f∧((gI f i n).2=8→∃ k v,q7 f i=some k∧f.vols[k]?=some v∧n<(dO v.t:Nat)):=by
 by_cases hc:fsB f=true∧inR n 32 4000=true
 case neg=>rw [gI,lK hc]; exact ⟨rfl,fun h=>absurd h (by simp)⟩
 cases e:q7 f i with
 | none=>rw [gI,lF hc,e]; exact ⟨rfl,fun h=>absurd h (by simp)⟩
 | some k=>
  cases ev:f.vols[k]? with
  | none=>rw [gI,lF hc,e]; simp only [ev]; exact ⟨trivial,fun h=>absurd h (by simp)⟩
  | some v=>
   by_cases hu:n<(dO v.t:Nat)
   ·rw [gI,lF hc,e]; simp only [ev,lF hu]; exact ⟨trivial,fun _=>⟨k,v,rfl,ev,hu⟩⟩
   ·rw [gI,lF hc,e] at h; simp only [ev,lK hu] at h; exact absurd rfl h
theorem aqW {n:aA} {l:Int} (h:(iU f n l).2.2≠0):(iU f n l).1=f∧(iU f n l).2.1=0:=by
 by_cases hc:fsB f=true∧aW n=true∧inR l 32 4000=true
 case neg=>rw [iU,lK hc]; exact ⟨rfl,rfl⟩
 rw [iU,lF hc,nU] at *
 simp only at *
 split
 ·exact ⟨rfl,rfl⟩
 ·rename_i e
  split
  ·exact ⟨rfl,rfl⟩
  ·rename_i hr
   simp only [e,lK hr] at h
   exact absurd rfl h
end
theorem aqI (v:Value) (b:aA) (i:Nat) (h n:Int) (hl:b.length<2^48) (hi:i≤b.length) (hn:0≤n∧n<1000):∃ (t':Tab) (i':Nat) (h':Int),bF t'=true∧i'≤b.length ∧
  bR Tryz.prog 122 [cur v b i h,.int .i64 n] t'.o [cur v b i' h',.undef]:=by
 obtain ⟨x,i1,h1,hx,ai,k1⟩:=gR v b i h (n+4) hl hi (by omega)
 have hx2:x≤2000:=by rw [uI,lF (by omega)] at hx; omega
 have key:∃ ret outs,(∃ (t':Tab) (i':Nat) (h':Int),bF t'=true∧i'≤b.length∧ret=t'.o∧outs=[cur v b i' h',.undef])∧bR Tryz.prog 122 [cur v b i h,.int .i64 n] ret outs:=by
  unfold cur at *
  refine bE hmx apS [(50,[.l,.b],[]),(138,[.l,.b],[])] 115 rfl [true,false] ⟨lE rfl,lE rfl⟩ rfl ?_
  intro w hP hQ
  unfold aoE
  refine N ?_
  refine Kd (bJ) ?_
  refine Kd (k1) ?_
  refine iV [] ?_
  refine N ?_
  refine bG [] (fun s:Nat × Tab × Nat × Int=>[(1000,.box [.extv v 1 (aM b),.int .i64 (s.2.2.1:Nat),.int .i64 s.2.2.2]),(5005,.box [.own 6 (s.2.1.inodes.map Inode.row),.int .i64 s.2.1.next]),(6,.int .i64 (s.1:Nat))]) (fun s=>bF s.2.1=true∧s.2.2.1≤b.length∧s.1≤2000) (fun s=>s.1) ((x,tab1,i1,h1)) hP hQ (rfl) (⟨aiB,ai,by simp only; omega⟩) ?_
  rintro ⟨m,t,j,g⟩ ⟨ht,hj,hm⟩ w1 hP1 hQ1
  refine N1 ?_
  simp only at ht hj hm
  refine Jf (fun g1=>?_) fun g1=>?_
  ·obtain ⟨t2,j1,g2,ht2,ao,k2⟩:=apY v b j g t hl hj ht
   unfold cur at k2
   have e3:((m:Nat):Int)-1=((m-1:Nat):Int):=by omega
   have e4:=aas (n:=m-1) (by omega)
   refine N1 ?_
   have hz:=And.intro e3 e4
   refine anV (k2) ?_
   exact ⟨(m-1,t2,j1,g2),rfl,⟨ht2,ao,by simp only; omega⟩,by simp only; omega⟩
  ·refine N1 ?_
   exact ⟨t,j,g,ht,hj,rfl,rfl⟩
 obtain ⟨_,_,⟨t',i',h',ht',hi',rfl,rfl⟩,hS⟩:=key
 exact ⟨t',i',h',ht',hi',hS⟩
theorem apB (k:Nat) (h:k<4):∃ s:aA,s.length≤5∧([[TV.str [97]],[TV.str [98]],[TV.str [99]],[TV.str [100,46,116,120,116]]]:List (List TV))[k]?=some [TV.str s]:=by
 match k,h with
 | 0,_=>exact ⟨_,by decide,rfl⟩
 | 1,_=>exact ⟨_,by decide,rfl⟩
 | 2,_=>exact ⟨_,by decide,rfl⟩
 | 3,_=>exact ⟨_,by decide,rfl⟩
theorem aqJ (v:Value) (b:aA) (i:Nat) (h:Int) (hl:b.length<2^48) (hi:i≤b.length):∃ (x:Inode) (i':Nat) (h':Int),x.sz<1000∧i'≤b.length ∧
  bR Tryz.prog 139 [cur v b i h] x.o [cur v b i' h']:=by
 obtain ⟨n,i1,h1,hn,ai,k1⟩:=gR v b i h 6 hl hi (by omega)
 obtain ⟨m,i2,h2,hm,ag,k2⟩:=gR v b i1 h1 2 hl ai (by omega)
 have hn':(n:Int)<6:=by rw [uI,lF (by omega)] at hn; exact hn
 have hm':(m:Int)<2:=by rw [uI,lF (by omega)] at hm; exact hm
 have key:∃ ret outs,(∃ (x:Inode) (i':Nat) (h':Int),x.sz<1000∧i'≤b.length∧ret=x.o∧outs=[cur v b i' h'])∧bR Tryz.prog 139 [cur v b i h] ret outs:=by
  unfold cur at *
  by_cases g:m=0
  ·subst g
   obtain ⟨r,i3,h3,hr,ab,k3⟩:=dP v b i2 h2 [0,1,5,20,100] hl ag (by simp) (by simp)
   have hr':0≤r∧r≤100:=by simp at hr; omega
   obtain ⟨y,i4,h4,hy,ad,k4⟩:=aiu v b i3 h3 r hl ab (by omega)
   unfold cur at *
   simp only [gQ,lO,lH1] at k3
   refine bE hmx aoG [(50,[.l,.b],[]),(51,[.l,.b],[]),(121,[.l,.b],[]),(84,[.l,.b],[]),(75,[.l,.b],[])] 125 rfl [true] ⟨lE rfl,lE rfl⟩ rfl ?_
   intro w hP hQ
   unfold oS
   refine N ?_
   refine Kd (k1) ?_
   refine Kd (k2) ?_
   obtain ⟨q,i5,h5,hq,ap,k5⟩:=gR v b i4 h4 2 hl ad (by omega)
   have hq':(q:Int)<2:=by rw [uI,lF (by omega)] at hq; exact hq
   unfold cur at k5
   refine Kd (k3) ?_
   refine Kd (k4) ?_
   refine Kd (k5) ?_
   refine iV [] ?_
   refine N ?_
   refine bG [] (fun s:Nat × List Attr × Nat × Int=>[(1000,.box [.extv v 1 (aM b),.int .i64 (s.2.2.1:Nat),.int .i64 s.2.2.2]),(5003,.box [.int .i64 (2+(n:Int)),.int .i64 1,.int .i64 (1+(q:Int)),.own 1 (aM y),.own 2 [],.own 2 (s.2.1.map Attr.row)]),(6,.int .i64 (s.1:Nat))]) (fun s=>s.1≤2∧szM Attr.sz s.2.1≤s.1*40∧s.2.2.1≤b.length) (fun s=>2-s.1) ((0,[],i5,h5)) hP hQ (rfl) (⟨by simp,by simp [szM],ap⟩) ?_
   rintro ⟨k,at',j,g⟩ ⟨hk,hz,hj⟩ w1 hP1 hQ1
   refine N1 ?_
   simp only at hk hz hj
   refine Jf (fun g1=>?_) fun g1=>?_
   ·obtain ⟨c,j1,g2,ao,k6⟩:=sF v b j g 3 hl hj (by omega)
    cases c with
    | false=>
     unfold cur at k6
     refine N1 ?_
     refine Kd1 (k6) ?_
     exact ⟨(k+1,at',j1,g2),rfl,⟨by simp only; omega,by simp only; omega,ao⟩,by simp only; omega⟩
    | true=>
     obtain ⟨nm,hnm,aj⟩:=apB k (by omega)
     have ba:(k:Int)<4:=by omega
     obtain ⟨z,j2,g3,ar,bb,k7⟩:=acA v b j1 g2 [[120],[118,97,108,117,101],[115,105,120,116,101,101,110,98,121,116,101,115,120,120,120,120]] hl ao (by simp) (by simp)
     have hz3:z.length≤16:=by
      simp only [lG,lS4,or_false] at ar
      rcases ar with rfl | rfl | rfl <;> simp
     have bg:at'.length≤k*40:=by simp only [szM] at hz; omega
     have hb:(at'.length+1)*32≤140737488355328:=by omega
     have ha:szM Attr.sz (at'++[⟨nm,z⟩])=szM Attr.sz at' + 1+(nm.length+z.length):=by simp [szM,Attr.sz]; omega
     unfold cur at k6 k7
     simp only [mM,lO,lH1] at k7
     refine N1 ?_
     have hz:=And.intro aj ba
     refine anV (k6) ?_
     have hz:=And.intro aj (And.intro ba hb)
     refine anV (k7) ?_
     exact ⟨(k+1,at'++[⟨nm,z⟩],j2,g3),by simp [Attr.row],⟨by simp only; omega,by simp only; omega,bb⟩,by simp only; omega⟩
   ·refine N1 ?_
    exact ⟨{ ino:=2+n,kind:=1,links:=1+q,data:=y,ents:=[],attrs:=at' },j,g,by show y.length+szM Ent.sz []+szM Attr.sz at'<1000; simp [szM] at *; omega,hj,rfl,rfl⟩
  ·obtain rfl:m=1:=by omega
   refine bE hmx aoG [(50,[.l,.b],[]),(51,[.l,.b],[]),(121,[.l,.b],[]),(84,[.l,.b],[]),(75,[.l,.b],[])] 125 rfl [true] ⟨lE rfl,lE rfl⟩ rfl ?_
   intro w hP hQ
   unfold oS
   refine N ?_
   refine Kd (k1) ?_
   refine Kd (k2) ?_
   refine iV [] ?_
   refine N ?_
   refine bG [] (fun s:Nat × List Ent × Nat × Int=>[(1000,.box [.extv v 1 (aM b),.int .i64 (s.2.2.1:Nat),.int .i64 s.2.2.2]),(5003,.box [.int .i64 (2+(n:Int)),.int .i64 2,.int .i64 1,.own 1 [],.own 2 (s.2.1.map Ent.row),.own 2 []]),(5,.int .i64 (s.1:Nat))]) (fun s=>s.1≤4∧szM Ent.sz s.2.1≤s.1*40∧s.2.2.1≤b.length) (fun s=>4-s.1) ((0,[],i2,h2)) hP hQ (rfl) (⟨by simp,by simp [szM],ag⟩) ?_
   rintro ⟨k,es,ie,he⟩ ⟨hk0,hze,bl⟩ w1 hP1 hQ1
   refine N1 ?_
   simp only at hk0 hze bl
   refine Jf (fun g0=>?_) fun g0=>?_
   ·obtain ⟨c,j1,g2,ao,k6⟩:=sF v b ie he 2 hl bl (by omega)
    cases c with
    | false=>
     unfold cur at k6
     refine N1 ?_
     refine Kd1 (k6) ?_
     exact ⟨(k+1,es,j1,g2),rfl,⟨by simp only; omega,by simp only; omega,ao⟩,by simp only; omega⟩
    | true=>
     obtain ⟨nm,hnm,aj⟩:=apB k (by omega)
     obtain ⟨z,j2,g3,ar,bb,k7⟩:=gR v b j1 g2 8 hl ao (by omega)
     have bg:es.length≤k*40:=by simp only [szM] at hze; omega
     have hb:(es.length+1)*24≤140737488355328:=by omega
     have ha:szM Ent.sz (es++[⟨nm,2+(z:Int)⟩])=szM Ent.sz es+1+nm.length:=by simp [szM,Ent.sz]; omega
     have hzz:(z:Int)<8:=by rw [uI,lF (by omega)] at ar; exact ar
     unfold cur at k6 k7
     refine N1 ?_
     have hz:=And.intro aj g0
     refine anV (k6) ?_
     have hz:=And.intro aj (And.intro g0 hb)
     refine anV (k7) ?_
     exact ⟨(k+1,es++[⟨nm,2+(z:Int)⟩],j2,g3),by simp [Ent.row],⟨by simp only; omega,by simp only; omega,bb⟩,by simp only; omega⟩
   ·refine N1 ?_
    refine iV [] ?_
    refine N ?_
    refine bG [] (fun s:Nat × List Attr × Nat × Int=>[(1000,.box [.extv v 1 (aM b),.int .i64 (s.2.2.1:Nat),.int .i64 s.2.2.2]),(5003,.box [.int .i64 (2+(n:Int)),.int .i64 2,.int .i64 1,.own 1 [],.own 2 (es.map Ent.row),.own 2 (s.2.1.map Attr.row)]),(6,.int .i64 (s.1:Nat))]) (fun s=>s.1≤2∧szM Attr.sz s.2.1≤s.1*40∧s.2.2.1≤b.length) (fun s=>2-s.1) ((0,[],ie,he)) hP hQ (rfl) (⟨by simp,by simp [szM],bl⟩) ?_
    rintro ⟨k,at',j,g⟩ ⟨hk,hz,hj⟩ w1 hP1 hQ1
    refine N1 ?_
    simp only at hk hz hj
    refine Jf (fun g1=>?_) fun g1=>?_
    ·obtain ⟨c,j1,g2,ao,k6⟩:=sF v b j g 3 hl hj (by omega)
     cases c with
     | false=>
      unfold cur at k6
      refine N1 ?_
      refine Kd1 (k6) ?_
      exact ⟨(k+1,at',j1,g2),rfl,⟨by simp only; omega,by simp only; omega,ao⟩,by simp only; omega⟩
     | true=>
      obtain ⟨nm,hnm,aj⟩:=apB k (by omega)
      have ba:(k:Int)<4:=by omega
      obtain ⟨z,j2,g3,ar,bb,k7⟩:=acA v b j1 g2 [[120],[118,97,108,117,101],[115,105,120,116,101,101,110,98,121,116,101,115,120,120,120,120]] hl ao (by simp) (by simp)
      have hz3:z.length≤16:=by
       simp only [lG,lS4,or_false] at ar
       rcases ar with rfl | rfl | rfl <;> simp
      have bg:at'.length≤k*40:=by simp only [szM] at hz; omega
      have hb:(at'.length+1)*32≤140737488355328:=by omega
      have ha:szM Attr.sz (at'++[⟨nm,z⟩])=szM Attr.sz at' + 1+(nm.length+z.length):=by simp [szM,Attr.sz]; omega
      unfold cur at k6 k7
      simp only [mM,lO,lH1] at k7
      refine N1 ?_
      have hz:=And.intro aj ba
      refine anV (k6) ?_
      have hz:=And.intro aj (And.intro ba hb)
      refine anV (k7) ?_
      exact ⟨(k+1,at'++[⟨nm,z⟩],j2,g3),by simp [Attr.row],⟨by simp only; omega,by simp only; omega,bb⟩,by simp only; omega⟩
    ·refine N1 ?_
     exact ⟨{ ino:=2+n,kind:=2,links:=1,data:=[],ents:=es,attrs:=at' },j,g,by show ([]:aA).length+szM Ent.sz es+szM Attr.sz at'<1000; simp only [List.length_nil]; omega,hj,rfl,rfl⟩
 obtain ⟨_,_,⟨t',i',h',ht',hi',rfl,rfl⟩,hS⟩:=key
 exact ⟨t',i',h',ht',hi',hS⟩
theorem aqd (v:Value) (b:aA) (i:Nat) (h:Int) (hl:b.length<2^48) (hi:i≤b.length):∃ (x:Inode) (i':Nat) (h':Int),x.sz<2000∧i'≤b.length ∧
  bR Tryz.prog 123 [cur v b i h] x.o [cur v b i' h']:=by
 obtain ⟨x,i1,h1,hx,ai,k1⟩:=aqJ v b i h hl hi
 obtain ⟨n,i2,h2,hn,ag,k2⟩:=gR v b i1 h1 14 hl ai (by omega)
 obtain ⟨z1,z2,z3⟩:=jC hx
 have zD:x.sz=x.data.length+szM Ent.sz x.ents+szM Attr.sz x.attrs:=rfl
 have hn':n<14:=by rw [uI,lF (by omega)] at hn; omega
 have key:∃ ret outs,(∃ (y:Inode) (i':Nat) (h':Int),y.sz<2000∧i'≤b.length∧ret=y.o∧outs=[cur v b i' h'])∧bR Tryz.prog 123 [cur v b i h] ret outs:=by
  unfold cur at *
  by_cases g0:n=0
  ·subst g0
   obtain ⟨r,i3,h3,hr,ab,k3⟩:=dP v b i2 h2 [0,1,1000,1001] hl ag (by simp) (by simp)
   unfold cur at k3
   simp only [gQ,lO,lH1] at k3
   refine bE hmx iE [(50,[.l,.b],[]),(51,[.l,.b],[]),(139,[.l],[]),(75,[.l,.b],[])] 141 rfl [true] ⟨lE rfl,lE rfl⟩ rfl ?_
   intro w hP hQ
   unfold eU
   refine N ?_
   refine Kd (k1) ?_
   refine Kd (k2) ?_
   refine Kd (k3) ?_
   exact ⟨{ x with ino:=r },i3,h3,by show x.sz<2000; omega,ab,rfl,rfl⟩
  by_cases g1:n=1
  ·subst g1
   obtain ⟨r,i3,h3,hr,ab,k3⟩:=gR v b i2 h2 4 hl ag (by omega)
   unfold cur at k3
   refine bE hmx iE [(50,[.l,.b],[]),(51,[.l,.b],[]),(139,[.l],[]),(75,[.l,.b],[])] 141 rfl [true] ⟨lE rfl,lE rfl⟩ rfl ?_
   intro w hP hQ
   unfold eU
   refine N ?_
   refine Kd (k1) ?_
   refine Kd (k2) ?_
   refine Kd (k3) ?_
   exact ⟨{ x with kind:=r },i3,h3,by show x.sz<2000; omega,ab,rfl,rfl⟩
  by_cases g2:n=2
  ·subst g2
   obtain ⟨r,i3,h3,hr,ab,k3⟩:=dP v b i2 h2 [-1,0,2,1001] hl ag (by simp) (by simp)
   unfold cur at k3
   simp only [gQ,lO,lH1] at k3
   refine bE hmx iE [(50,[.l,.b],[]),(51,[.l,.b],[]),(139,[.l],[]),(75,[.l,.b],[])] 141 rfl [true] ⟨lE rfl,lE rfl⟩ rfl ?_
   intro w hP hQ
   unfold eU
   refine N ?_
   refine Kd (k1) ?_
   refine Kd (k2) ?_
   refine Kd (k3) ?_
   exact ⟨{ x with links:=r },i3,h3,by show x.sz<2000; omega,ab,rfl,rfl⟩
  by_cases g3:n=3
  ·subst g3
   have av:(x.data.length+1)*1≤140737488355328:=by omega
   have hb2:x.data.length+1≤140737488355328:=by omega
   refine bE hmx iE [(50,[.l,.b],[]),(51,[.l,.b],[]),(139,[.l],[]),(75,[.l,.b],[])] 141 rfl [true] ⟨lE rfl,lE rfl⟩ rfl ?_
   intro w hP hQ
   unfold eU
   refine N ?_
   refine Kd (k1) ?_
   have hz:=And.intro av hb2
   refine Kdz (k2) ?_
   exact ⟨{ x with data:=x.data++[1] },i2,h2,by show (x.data++[1]).length+szM Ent.sz x.ents+szM Attr.sz x.attrs<2000; simp; omega,ag,by simp [aM],rfl⟩
  by_cases g4:n=4
  ·subst g4
   obtain ⟨s,i3,h3,hs,ab,k3⟩:=acA v b i2 h2 [[97],[122],[],[90]] hl ag (by simp) (by simp)
   obtain ⟨r,i4,h4,hr,ad,k4⟩:=dP v b i3 h3 [1,2,1000,1001] hl ab (by simp) (by simp)
   have hsl:s.length≤1:=by simp at hs; rcases hs with rfl | rfl | rfl | rfl <;> simp
   have av:(x.ents.length+1)*24≤140737488355328:=by omega
   unfold cur at k3 k4
   simp only [gQ,mM,lO,lH1] at k3 k4
   refine bE hmx iE [(50,[.l,.b],[]),(51,[.l,.b],[]),(139,[.l],[]),(75,[.l,.b],[])] 141 rfl [true] ⟨lE rfl,lE rfl⟩ rfl ?_
   intro w hP hQ
   unfold eU
   refine N ?_
   refine Kd (k1) ?_
   refine Kd (k2) ?_
   refine Kd (k3) ?_
   have hz:=av
   refine Kdz (k4) ?_
   exact ⟨{ x with ents:=x.ents++[⟨s,r⟩] },i4,h4,by
    have:szM Ent.sz (x.ents++[⟨s,r⟩])=szM Ent.sz x.ents+1+s.length:=by simp [szM,Ent.sz]; omega
    show x.data.length+szM Ent.sz (x.ents++[⟨s,r⟩])+szM Attr.sz x.attrs<2000; omega,ad,by simp [Ent.row],rfl⟩
  by_cases g5:n=5
  ·subst g5
   obtain ⟨s,i3,h3,hs,ab,k3⟩:=acA v b i2 h2 [[97],[122],[]] hl ag (by simp) (by simp)
   obtain ⟨m,i4,h4,hm,ad,k4⟩:=gR v b i3 h3 3 hl ab (by omega)
   have hm':m<3:=by rw [uI,lF (by omega)] at hm; omega
   have hsl:s.length≤1:=by simp at hs; rcases hs with rfl | rfl | rfl <;> simp
   have hrb:dR (List.replicate (15+(m:Int)).toNat [TV.int .u8 0])=some (List.replicate (15+m) 0):=by
    rw [show (15+(m:Int)).toNat=15+m by omega,show List.replicate (15+m) [TV.int .u8 0]=aM (List.replicate (15+m) 0) by simp [aM],ab0]
   have av:(x.attrs.length+1)*32≤140737488355328:=by omega
   unfold cur at k3 k4
   simp only [gQ,mM,lO,lH1] at k3 k4
   refine bE hmx iE [(50,[.l,.b],[]),(51,[.l,.b],[]),(139,[.l],[]),(75,[.l,.b],[])] 141 rfl [true] ⟨lE rfl,lE rfl⟩ rfl ?_
   intro w hP hQ
   unfold eU
   refine N ?_
   refine Kd (k1) ?_
   refine Kd (k2) ?_
   refine Kd (k3) ?_
   have hz:=And.intro av hrb
   refine Kdz (k4) ?_
   exact ⟨{ x with attrs:=x.attrs++[⟨s,List.replicate (15+m) 0⟩] },i4,h4,by
    have:szM Attr.sz (x.attrs++[⟨s,List.replicate (15+m) 0⟩])=szM Attr.sz x.attrs+1+s.length+(15+m):=by simp [szM,Attr.sz]; omega
    show x.data.length+szM Ent.sz x.ents+szM Attr.sz (x.attrs++[⟨s,List.replicate (15+m) 0⟩])<2000; omega,ad,by simp [Attr.row],rfl⟩
  ·have w0:decide ((n:Int)=0)=false:=lC (by omega)
   have w1:decide ((n:Int)=1)=false:=lC (by omega)
   have w2:decide ((n:Int)=2)=false:=lC (by omega)
   have w3:decide ((n:Int)=3)=false:=lC (by omega)
   have w4:decide ((n:Int)=4)=false:=lC (by omega)
   have w5:decide ((n:Int)=5)=false:=lC (by omega)
   refine bE hmx iE [(50,[.l,.b],[]),(51,[.l,.b],[]),(139,[.l],[]),(75,[.l,.b],[])] 141 rfl [true] ⟨lE rfl,lE rfl⟩ rfl ?_
   intro w hP hQ
   unfold eU
   refine N ?_
   refine Kd (k1) ?_
   have hz:=And.intro w0 (And.intro w1 (And.intro w2 (And.intro w3 (And.intro w4 w5))))
   refine Kdz (k2) ?_
   exact ⟨x,i2,h2,by omega,ag,rfl,rfl⟩
 obtain ⟨_,_,⟨t',i',h',ht',hi',rfl,rfl⟩,hS⟩:=key
 exact ⟨t',i',h',ht',hi',hS⟩
theorem p5 {α:Type} (f:α→Nat):∀ (l:List α) (k:Nat) (x:α),((l.set k x).map f).sum≤(l.map f).sum+f x
 | [],_,_=>by simp
 | a::l,0,x=>by simp; omega
 | a::l,k+1,x=>by
  have:=p5 f l k x
  simp only [List.set_cons_succ,lO,lB2]; omega
theorem x6 {α:Type} (f:α→Nat):∀ (l:List α) (k:Nat),((l.take k).map f).sum≤(l.map f).sum
 | [],_=>by simp
 | a::l,0=>by simp
 | a::l,k+1=>by
  have:=x6 f l k
  simp only [List.take_succ_cons,lO,lB2]; omega
theorem aqX (v:Value) (b:aA) (i:Nat) (h:Int) (hl:b.length<2^48) (hi:i≤b.length):∃ (t:Tab) (i':Nat) (h':Int),t.sz<2^20∧i'≤b.length ∧
  bR Tryz.prog 102 [cur v b i h] t.o [cur v b i' h']:=by
 obtain ⟨t,i1,h1,ht,ai,k1⟩:=aqI v b i h 8 hl hi (by omega)
 obtain ⟨n,i2,h2,hn,ag,k2⟩:=gR v b i1 h1 12 hl ai (by omega)
 have hz:=q9 ht
 have htl:=((aS t).1 ht).tab.len
 have hn':n<12:=by rw [uI,lF (by omega)] at hn; omega
 have hpos:0<t.inodes.length:=by
  obtain ⟨r,_,_,r3⟩:=eO ((aS t).1 ht)
  exact List.length_pos_of_mem r3
 have key:∃ ret outs,(∃ (t':Tab) (i':Nat) (h':Int),t'.sz<2^20∧i'≤b.length∧ret=t'.o∧outs=[cur v b i' h'])∧bR Tryz.prog 102 [cur v b i h] ret outs:=by
  unfold cur at *
  by_cases g0:n=0
  ·subst g0
   obtain ⟨r,i3,h3,hr,ab,k3⟩:=dP v b i2 h2 [1,2,1000,1001] hl ag (by simp) (by simp)
   unfold cur at k3
   simp only [gQ,lO,lH1] at k3
   refine bE hmx kE [(50,[.l,.b],[]),(51,[.l,.b],[]),(122,[.l,.b],[]),(123,[.l],[])] 141 rfl [true] ⟨lE rfl,lE rfl⟩ rfl ?_
   intro w hP hQ
   unfold i0
   refine N ?_
   refine Kd (k1) ?_
   refine Kd (k2) ?_
   refine Kd (k3) ?_
   exact ⟨{ t with next:=r },i3,h3,by show t.sz<2^20; omega,ab,rfl,rfl⟩
  by_cases g1:n=1
  ·subst g1
   obtain ⟨x,i3,h3,hx,ab,k3⟩:=aqd v b i2 h2 hl ag
   unfold cur at k3
   have av:(t.inodes.length+1)*96≤140737488355328:=by omega
   refine bE hmx kE [(50,[.l,.b],[]),(51,[.l,.b],[]),(122,[.l,.b],[]),(123,[.l],[])] 141 rfl [true] ⟨lE rfl,lE rfl⟩ rfl ?_
   intro w hP hQ
   unfold i0
   refine N ?_
   refine Kd (k1) ?_
   refine Kd (k2) ?_
   have hz:=av
   refine Kdz (k3) ?_
   exact ⟨{ t with inodes:=t.inodes++[x] },i3,h3,by
    have:szM Inode.sz (t.inodes++[x])=szM Inode.sz t.inodes+1+x.sz:=by simp [szM]; omega
    have e:t.sz=szM Inode.sz t.inodes:=rfl
    show szM Inode.sz (t.inodes++[x])<2^20; omega,ab,by simp [Inode.row],rfl⟩
  by_cases g2:n=2
  ·subst g2
   obtain ⟨m,i3,h3,hm,ab,k3⟩:=gR v b i2 h2 t.inodes.length hl ag (by omega)
   obtain ⟨x,i4,h4,hx,ad,k4⟩:=aqd v b i3 h3 hl ab
   have hm':(m:Int)<(t.inodes.length:Nat):=by rw [uI,lF (by omega)] at hm; omega
   unfold cur at k3 k4
   refine bE hmx kE [(50,[.l,.b],[]),(51,[.l,.b],[]),(122,[.l,.b],[]),(123,[.l],[])] 141 rfl [true] ⟨lE rfl,lE rfl⟩ rfl ?_
   intro w hP hQ
   unfold i0
   refine N ?_
   refine Kd (k1) ?_
   refine Kd (k2) ?_
   refine Kd (k3) ?_
   have hz:=hm'
   refine Kdz (k4) ?_
   exact ⟨{ t with inodes:=t.inodes.set m x },i4,h4,by
    have:szM Inode.sz (t.inodes.set m x)≤szM Inode.sz t.inodes+x.sz:=by
     have:=p5 Inode.sz t.inodes m x
     simp only [szM,List.length_set]; omega
    have e:t.sz=szM Inode.sz t.inodes:=rfl
    show szM Inode.sz (t.inodes.set m x)<2^20; omega,ad,by rw [uC Inode.row t.inodes m x _ fun y _=>rfl],rfl⟩
  by_cases g3:n=3
  ·subst g3
   obtain ⟨m,i3,h3,hm,ab,k3⟩:=gR v b i2 h2 (t.inodes.length+1) hl ag (by omega)
   have hm':(m:Int)≤(t.inodes.length:Nat):=by rw [uI,lF (by omega)] at hm; omega
   unfold cur at k3
   refine bE hmx kE [(50,[.l,.b],[]),(51,[.l,.b],[]),(122,[.l,.b],[]),(123,[.l],[])] 141 rfl [true] ⟨lE rfl,lE rfl⟩ rfl ?_
   intro w hP hQ
   unfold i0
   refine N ?_
   refine Kd (k1) ?_
   refine Kd (k2) ?_
   have hz:=hm'
   refine Kdz (k3) ?_
   exact ⟨{ t with inodes:=t.inodes.take m },i3,h3,by
    have:szM Inode.sz (t.inodes.take m)≤szM Inode.sz t.inodes:=by
     have:=x6 Inode.sz t.inodes m
     have:=List.length_take_le m t.inodes
     simp only [szM]; omega
    have e:t.sz=szM Inode.sz t.inodes:=rfl
    show szM Inode.sz (t.inodes.take m)<2^20; omega,ab,by simp [Tab.o,Int.sub_zero],rfl⟩
  ·have w0:decide ((n:Int)=0)=false:=lC (by omega)
   have w1:decide ((n:Int)=1)=false:=lC (by omega)
   have w2:decide ((n:Int)=2)=false:=lC (by omega)
   have w3:decide ((n:Int)=3)=false:=lC (by omega)
   refine bE hmx kE [(50,[.l,.b],[]),(51,[.l,.b],[]),(122,[.l,.b],[]),(123,[.l],[])] 141 rfl [true] ⟨lE rfl,lE rfl⟩ rfl ?_
   intro w hP hQ
   unfold i0
   refine N ?_
   refine Kd (k1) ?_
   have hz:=And.intro w0 (And.intro w1 (And.intro w2 w3))
   refine Kdz (k2) ?_
   exact ⟨t,i2,h2,by omega,ag,rfl,rfl⟩
 obtain ⟨_,_,⟨t',i',h',ht',hi',rfl,rfl⟩,hS⟩:=key
 exact ⟨t',i',h',ht',hi',hS⟩
theorem aoZ (f:Fs) (k:Nat) (u:Vol):({ f with vols:=f.vols.set k u }:Fs).sz≤f.sz+u.sz:=by
 have:=p5 Vol.sz f.vols k u
 show szM Vol.sz (f.vols.set k u)≤szM Vol.sz f.vols+u.sz
 simp only [szM,List.length_set]; omega
theorem aqe (v:Value) (b:aA) (i:Nat) (h n:Int) (hl:b.length<2^48) (hi:i≤b.length) (hn:0≤n∧n<1000):∃ (f:Fs) (i':Nat) (h':Int),f.sz<2^28∧i'≤b.length ∧
  bR Tryz.prog 60 [cur v b i h,.int .i64 n] f.o [cur v b i' h',.undef]:=by
 obtain ⟨f,i1,h1,hf,ai,k1⟩:=anH v b i h n hl hi hn
 have zf:=akF hf
 have al:=((gE f).1 hf).len
 by_cases g0:f.vols=[]
 ·refine ⟨f,i1,h1,by omega,ai,?_⟩
  unfold cur at *
  refine Vw g6 [(45,[.l,.b],[]),(50,[.l,.b],[]),(51,[.l,.b],[]),(75,[.l,.b],[]),(102,[.l],[])] 2097267 [true,false] fun w hP hQ=>?_
  (first | refine iM hP (k1) (.inl ⟨rfl,fun _ hx=>hx⟩) ?_ | refine f0 hP (k1) (.inl ⟨rfl,fun _ hx=>hx⟩) ?_)
  have hz:=g0
  refine Nz ?_
  all_goals exact T1
 have hp0:0<f.vols.length:=lI3.2 g0
 have g1:decide ((f.vols.length:Int)=0)=false:=lC (by omega)
 obtain ⟨k,i2,h2,hk,ag,k2⟩:=gR v b i1 h1 f.vols.length hl ai (by omega)
 have hk':(k:Int)<(f.vols.length:Nat):=by rw [uI,lF (by omega)] at hk; exact hk
 have af:k<f.vols.length:=by omega
 have hu:(f.vols[k]'af).sz≤f.sz:=by
  have:=qV (f:=Vol.sz) (lQ af)
  show _≤f.vols.length+(f.vols.map Vol.sz).sum; omega
 have huz:(f.vols[k]'af).sz=(f.vols[k]'af).name.length+(f.vols[k]'af).t.sz:=rfl
 obtain ⟨m,i3,h3,hm,ab,k3⟩:=gR v b i2 h2 16 hl ag (by omega)
 have hm':(m:Int)<16:=by rw [uI,lF (by omega)] at hm; exact hm
 have hc:m=0∨m=1∨m=2∨m=3∨m=4∨4<m:=by omega
 rcases hc with rfl | rfl | rfl | rfl | rfl | hc
 ·obtain ⟨x,i4,h4,_,ad,k4⟩:=dP v b i3 h3 [0,1,99,100] hl ab (by simp) (by simp)
  refine ⟨{ f with next:=x },i4,h4,by show f.sz<_; omega,ad,?_⟩
  unfold cur at *
  simp only [gQ,lO,lH1] at k4
  refine Vw g6 [(45,[.l,.b],[]),(50,[.l,.b],[]),(51,[.l,.b],[]),(75,[.l,.b],[]),(102,[.l],[])] 2097267 [true,false] fun w hP hQ=>?_
  have hz:=g1
  refine Kdz (k1) ?_
  refine Kd (k2) ?_
  have hz:=(bW hk')
  refine Kdz (k3) ?_
  have hz:=(bW hk')
  exact Kdz (k4) trivial
 ·obtain ⟨x,i4,h4,hx,ad,k4⟩:=acA v b i3 h3 [[],[109,97,105,110],[65]] hl ab (by simp) (by simp)
  have hxl:x.length≤4:=by
   simp only [lG,lS4,or_false] at hx
   rcases hx with rfl | rfl | rfl <;> simp
  have hz:=aoZ f k { f.vols[k]'af with name:=x }
  have hw:({ f.vols[k]'af with name:=x }:Vol).sz=x.length+(f.vols[k]'af).t.sz:=rfl
  refine ⟨{ f with vols:=f.vols.set k { f.vols[k]'af with name:=x } },i4,h4,by omega,ad,?_⟩
  unfold cur at *
  simp only [mM,lO,lH1] at k4
  refine Vw g6 [(45,[.l,.b],[]),(50,[.l,.b],[]),(51,[.l,.b],[]),(75,[.l,.b],[]),(102,[.l],[])] 2097267 [true,false] fun w hP hQ=>?_
  have hz:=g1
  refine Kdz (k1) ?_
  refine Kd (k2) ?_
  have hz:=(bW hk')
  refine Kdz (k3) ?_
  have hz:=(bW hk')
  refine Kdz (k4) ?_
  exact congrArg (fun z=>AV.agg [AV.own 6 z,.int .i64 f.next]) (anZ Vol.row (by omega) _ rfl)
 ·obtain ⟨x,i4,h4,_,ad,k4⟩:=dP v b i3 h3 [31,32,4001] hl ab (by simp) (by simp)
  have hz:=aoZ f k { f.vols[k]'af with limit:=x }
  have hw:({ f.vols[k]'af with limit:=x }:Vol).sz=(f.vols[k]'af).sz:=rfl
  refine ⟨{ f with vols:=f.vols.set k { f.vols[k]'af with limit:=x } },i4,h4,by omega,ad,?_⟩
  unfold cur at *
  simp only [gQ,lO,lH1] at k4
  refine Vw g6 [(45,[.l,.b],[]),(50,[.l,.b],[]),(51,[.l,.b],[]),(75,[.l,.b],[]),(102,[.l],[])] 2097267 [true,false] fun w hP hQ=>?_
  have hz:=g1
  refine Kdz (k1) ?_
  refine Kd (k2) ?_
  have hz:=(bW hk')
  refine Kdz (k3) ?_
  have hz:=(bW hk')
  refine Kdz (k4) ?_
  exact congrArg (fun z=>AV.agg [AV.own 6 z,.int .i64 f.next]) (anZ Vol.row (by omega) _ rfl)
 ·obtain ⟨x,i4,h4,hx,ad,k4⟩:=aqX v b i3 h3 hl ab
  have hz:=aoZ f k { f.vols[k]'af with t:=x }
  have hw:({ f.vols[k]'af with t:=x }:Vol).sz=(f.vols[k]'af).name.length+x.sz:=rfl
  refine ⟨{ f with vols:=f.vols.set k { f.vols[k]'af with t:=x } },i4,h4,by omega,ad,?_⟩
  unfold cur at *
  refine Vw g6 [(45,[.l,.b],[]),(50,[.l,.b],[]),(51,[.l,.b],[]),(75,[.l,.b],[]),(102,[.l],[])] 2097267 [true,false] fun w hP hQ=>?_
  have hz:=g1
  refine Kdz (k1) ?_
  refine Kd (k2) ?_
  have hz:=(bW hk')
  refine Kdz (k3) ?_
  have hz:=(bW hk')
  refine Kdz (k4) ?_
  exact congrArg (fun z=>AV.agg [AV.own 6 z,.int .i64 f.next]) (anZ Vol.row (by omega) _ rfl)
 ·obtain ⟨x,i4,h4,_,ad,k4⟩:=dP v b i3 h3 [0,1,98,99] hl ab (by simp) (by simp)
  have hz:=aoZ f k { f.vols[k]'af with id:=x }
  have hw:({ f.vols[k]'af with id:=x }:Vol).sz=(f.vols[k]'af).sz:=rfl
  refine ⟨{ f with vols:=f.vols.set k { f.vols[k]'af with id:=x } },i4,h4,by omega,ad,?_⟩
  unfold cur at *
  simp only [gQ,lO,lH1] at k4
  refine Vw g6 [(45,[.l,.b],[]),(50,[.l,.b],[]),(51,[.l,.b],[]),(75,[.l,.b],[]),(102,[.l],[])] 2097267 [true,false] fun w hP hQ=>?_
  have hz:=g1
  refine Kdz (k1) ?_
  refine Kd (k2) ?_
  have hz:=(bW hk')
  refine Kdz (k3) ?_
  have hz:=(bW hk')
  refine Kdz (k4) ?_
  exact congrArg (fun z=>AV.agg [AV.own 6 z,.int .i64 f.next]) (anZ Vol.row (by omega) _ rfl)
 ·refine ⟨f,i3,h3,by omega,ab,?_⟩
  have w0:decide ((m:Int)=0)=false:=lC (by omega)
  have w1:decide ((m:Int)=1)=false:=lC (by omega)
  have w2:decide ((m:Int)=2)=false:=lC (by omega)
  have w3:decide ((m:Int)=3)=false:=lC (by omega)
  have w4:decide ((m:Int)=4)=false:=lC (by omega)
  unfold cur at *
  refine Vw g6 [(45,[.l,.b],[]),(50,[.l,.b],[]),(51,[.l,.b],[]),(75,[.l,.b],[]),(102,[.l],[])] 2097267 [true,false] fun w hP hQ=>?_
  have hz:=g1
  refine Kdz (k1) ?_
  refine Kd (k2) ?_
  have hz:=And.intro w0 (And.intro w1 (And.intro w2 (And.intro w3 w4)))
  exact Kdz (k3) trivial
theorem apF (b:aA) (m:Nat) (hl:b.length<2^48):∃ x:Nat,x≤m∧bR Tryz.prog 61 [.ext 1 (aM b),.int .i64 m] (.int .i64 x) [.undef,.undef]:=by
 have e:((b.length:Int)).tdiv 12=((b.length/12:Nat):Int):=rfl
 by_cases g:m<3+b.length/12
 ·refine ⟨m,lS1 _,?_⟩
  have d:decide ((m:Int)<3+((b.length/12:Nat):Int))=true:=lM (by omega)
  have hb:b.length/12<2^48:=by omega
  refine Vw aoF [] 51 [] fun w hP hQ=>?_
  have hz:=And.intro e d
  exact Nz trivial
 ·refine ⟨3+b.length/12,by omega,?_⟩
  have d:decide ((m:Int)<3+((b.length/12:Nat):Int))=false:=lC (by omega)
  have hb:b.length/12<2^48:=by omega
  refine Vw aoF [] 51 [] fun w hP hQ=>?_
  have hz:=And.intro e d
  refine Nz ?_
  exact congrArg (AV.int .i64) (by omega)
section
variable {f:Fs}
theorem apZ {i:Int} (h:(mO f i).2≠0):(mO f i).1=f:=by
 unfold mO at *
 split
 ·rename_i hB
  rw [lF hB] at h
  split
  ·rfl
  ·rename_i e; rw [e] at h; exact absurd rfl h
 ·rfl
theorem apG {i:Int} {n:aA} {ro:Bool} (h:(rP f i n ro).2.2≠0):(rP f i n ro).1=f∧(rP f i n ro).2.1=0:=by
 unfold rP nU at *
 split
 ·rename_i hc
  rw [lF hc] at h
  split
  ·exact ⟨rfl,rfl⟩
  ·rename_i k e
   rw [e] at h
   simp only at h
   split
   ·exact ⟨rfl,rfl⟩
   ·rename_i v hv
    rw [hv] at h
    simp only at h ⊢
    split
    ·exact ⟨rfl,rfl⟩
    ·rename_i en
     split
     ·exact ⟨rfl,rfl⟩
     ·rename_i hr
      simp only [en,lK hr] at h
      exact absurd rfl h
 ·exact ⟨rfl,rfl⟩
theorem aqf (o:Op) (h:(qF f o).2≠0):(qF f o).1=f:=by
 unfold qF at *
 split
 ·rename_i hB
  rw [lF hB] at h
  split
  ·rfl
  ·rename_i k e
   rw [e] at h
   simp only at h
   split
   ·rfl
   ·rename_i v hv
    rw [hv] at h
    simp only at h ⊢
    split
    ·rfl
    ·rename_i hr
     rw [lK hr] at h
     split
     ·rename_i hc
      rw [lF hc] at h
      split
      ·rename_i hu
       rw [lF hu] at h
       exact absurd rfl h
      ·rfl
     ·rfl
 ·rfl
theorem aqK {o:Op} (h:(fR f o).2≠0):(fR f o).1=f:=by
 unfold fR at *
 split
 ·rename_i e; rw [lF e] at h; exact (aqW h).1
 ·rename_i e0; rw [lK e0] at h
  split
  ·rename_i e; rw [lF e] at h; exact (apG h).1
  ·rename_i e1; rw [lK e1] at h
   split
   ·rename_i e; rw [lF e] at h; exact (apG h).1
   ·rename_i e2; rw [lK e2] at h
    split
    ·rename_i e; rw [lF e] at h; exact apZ h
    ·rename_i e3; rw [lK e3] at h
     split
     ·rename_i e; rw [lF e] at h; exact (aqc h).1
     ·rename_i e4; rw [lK e4] at h
      split
      ·rename_i e; rw [lF e] at h; exact aqf o h
      ·rfl
theorem ap0 {o:Op} (h:(fR f o).2=0):fsB f=true:=by
 apply Classical.byContradiction
 intro hB
 have:(fR f o).2≠0:=by
  unfold fR
  repeat' split
  ·rw [iU,lK (fun h=>hB h.1)]; simp
  ·rw [rP,lK (fun h=>hB h.1)]; simp
  ·rw [rP,lK (fun h=>hB h.1)]; simp
  ·rw [mO,lK hB]; simp
  ·rw [gI,lK (fun h=>hB h.1)]; simp
  ·rw [qF,lK hB]; simp
  ·simp
 exact this h
end
theorem aqL (v:Value) (b:aA) (hl:b.length<2^48):∃ (f:Fs) (o:Op),fsB f=true∧aix o∧bR Tryz.prog 37 [.extv v 1 (aM b)] (.tup [f.o,o.o]) [.undef]:=by
 obtain ⟨h0,k0⟩:=anW v b hl
 obtain ⟨s,hs,kz0⟩:=apF b 24 hl
 have kz:=anI (v:=v) kz0
 obtain ⟨f,i1,h1,hf,ai,k1⟩:=anH v b 0 h0 (8+(s:Int)) hl (by omega) (by omega)
 have zf:=akF hf
 obtain ⟨o,i2,h2,ho,ag,k2⟩:=anv v b i1 h1 f hl ai (by omega)
 refine ⟨f,o,hf,ho,?_⟩
 unfold cur at *
 refine Vw apO [(999999,[],[(4,0)]),(60,[.l,.b],[]),(45,[.l,.b],[]),(49,[.l,.b],[]),(44,[.l,.b],[]),(51,[.l,.b],[]),(75,[.l,.b],[]),(84,[.l,.b],[]),(50,[.l,.b],[])] 61 [] fun w hP hQ=>?_
 refine Kd (k0) ?_
 refine K (kz) ?_
 refine Kd (k1) ?_
 exact Kd (k2) trivial
theorem ap1 (v:Value) (b:aA) (hl:b.length<2^48):∃ f:Fs,f.sz<2^28∧bR Tryz.prog 38 [.extv v 1 (aM b)] f.o [.undef]:=by
 obtain ⟨h0,k0⟩:=anW v b hl
 obtain ⟨s,hs,kz0⟩:=apF b 12 hl
 have kz:=anI (v:=v) kz0
 obtain ⟨f,i1,h1,hf,ai,k1⟩:=aqe v b 0 h0 (s:Int) hl (by omega) (by omega)
 refine ⟨f,hf,?_⟩
 unfold cur at *
 refine Vw ao5 [(999999,[],[(3,0)]),(60,[.l,.b],[]),(45,[.l,.b],[]),(49,[.l,.b],[]),(44,[.l,.b],[]),(51,[.l,.b],[]),(75,[.l,.b],[]),(84,[.l,.b],[]),(50,[.l,.b],[])] 13 [] fun w hP hQ=>?_
 refine Kd (k0) ?_
 refine K (kz) ?_
 exact Kd (k1) trivial
theorem apc (v:Value) (b:aA) (hl:b.length<2^48):∃ (f g:Fs),f.sz<2^28∧g.sz<2^28∧bR Tryz.prog 39 [.extv v 1 (aM b)] (.tup [f.o,g.o]) [.undef]:=by
 obtain ⟨h0,k0⟩:=anW v b hl
 obtain ⟨f,i1,h1,hf,ai,k1⟩:=aqe v b 0 h0 10 hl (by omega) (by omega)
 obtain ⟨c,i2,h2,ag,k2⟩:=sF v b i1 h1 2 hl ai (by omega)
 cases c with
 | true=>
  refine ⟨f,f,hf,hf,?_⟩
  unfold cur at *
  refine Vw kP [(999999,[],[(4,0)]),(60,[.l,.b],[]),(45,[.l,.b],[]),(49,[.l,.b],[]),(44,[.l,.b],[]),(51,[.l,.b],[]),(75,[.l,.b],[]),(84,[.l,.b],[]),(50,[.l,.b],[])] 125 [] fun w hP hQ=>?_
  refine Kd (k0) ?_
  refine Kd (k1) ?_
  refine Kd (k2) ?_
  exact Kd (aT f (by omega)) trivial
 | false=>
  obtain ⟨o,i3,h3,ho,ab,k3⟩:=anv v b i2 h2 f hl ag (by omega)
  have kA:=akG f o (by omega) (by have:=ho.1; omega) (by have:=ho.2.1; omega) (by have:=ho.2.2; omega)
  have hz:(fR f o).1.sz<2^28:=by
   by_cases e:(fR f o).2=0
   ·have:=akF (aiD (ap0 e) o); omega
   ·rw [aqK e]; exact hf
  generalize fR f o=r at *
  refine ⟨f,r.1,hf,hz,?_⟩
  unfold cur at *
  refine Vw kP [(999999,[],[(4,0)]),(60,[.l,.b],[]),(45,[.l,.b],[]),(49,[.l,.b],[]),(44,[.l,.b],[]),(51,[.l,.b],[]),(75,[.l,.b],[]),(84,[.l,.b],[]),(50,[.l,.b],[])] 125 [] fun w hP hQ=>?_
  refine Kd (k0) ?_
  refine Kd (k1) ?_
  refine Kd (k2) ?_
  refine Kd (k3) ?_
  exact Kd (kA) trivial
theorem aqY (f:Fs) (h:f.sz<2^40):bR Tryz.prog 21 [f.x,f.x] (.bool true) [.undef,.undef]:=by
 have:=apb f f h h
 rwa [lM rfl] at this
theorem aqZ (b:aA) (hf:b.length<2^48):bR Tryz.prog 8 [.ext 1 (aM b)] (.bool true) [.undef]:=by
 refine ag6 fun a len cap ha=>?_
 generalize hv:Value.slice a len cap=v
 have hB:=anI (v:=v) (aor b hf)
 cases hz:decide ((1048576:Int)<(b.length:Nat)) with
 | true=>
  rw [hz] at hB
  refine Vw ao3 [] 237 [] fun w hP hQ=>?_
  exact K (hB) trivial
 | false=>
  rw [hz] at hB
  obtain ⟨f,o,hF,ho,k0⟩:=aqL v b hf
  obtain ⟨g,hg,kg⟩:=ap1 v b hf
  obtain ⟨p,q,hp,hq,kpq⟩:=apc v b hf
  have zf:=akF hF
  have kO:=apA f (by omega)
  rw [hF] at kO
  have kI:=apA g (by omega)
  have kJ:=uB g (by omega)
  have kS:=apb p q (by omega) (by omega)
  have kT:=aqb p q (by omega) (by omega)
  have kU:=aqY p (by omega)
  have kN:=aqB
  have kM:=apA zFs (by decide)
  rw [anx] at kM
  have bj:zFs.vols.length=0:=rfl
  generalize zFs=Z at *
  generalize fsB g=c at *
  generalize decide (p=q)=d at *
  have dc:decide (c=c)=true:=lM rfl
  have dd:decide (d=d)=true:=lM rfl
  refine Vw ao3 [] 237 [] fun w hP hQ=>?_
  refine K (hB) ?_
  refine K (k0) ?_
  refine K (kg) ?_
  refine K (kpq) ?_
  refine K (kO) ?_
  refine K (kI) ?_
  have hz:=dc
  refine Kz (kJ) ?_
  refine K (kS) ?_
  have hz:=dd
  refine Kz (kT) ?_
  refine K (kU) ?_
  refine K (kN) ?_
  refine K (kM) ?_
  have hz:=bj
  exact Kz (kN) trivial
section
open Go.Proofs Go.Proofs.YtnfeefcnblondaaGreat
theorem aqM:(Rows.fnFssRow.wf (OpenSpec.ofChange Rows.fnFssSpec))=true:=by kernel_rfl
theorem aqN:(Tryz.f8.params.all (Tryz.prog.readableRec ·))=true:=by kernel_rfl
theorem aqO:(namedTie Tryz.prog Rows.fnFssRow.named Rows.fnFssSpec.vars)=true:=by kernel_rfl
theorem aqP:((Rows.fnFssRow.stops == []))=true:=by kernel_rfl
theorem aqQ:((Rows.fnFssRow.knobs == []))=true:=by kernel_rfl
theorem aqR:((Rows.fnFssRow.inPlace == Tryz.prog.inPlace 8))=true:=by kernel_rfl
theorem aqg:((Rows.fnFssRow.unfollowed == Tryz.prog.unfollowed 8))=true:=by kernel_rfl
theorem aqh:((Rows.fnFssRow.recurses == Tryz.prog.recurses 8))=true:=by kernel_rfl
theorem aqi:((Rows.fnFssRow.named == Tryz.prog.varsNamed 8))=true:=by kernel_rfl
theorem aqj:((Rows.fnFssRow.maps == (Tryz.f8.params.toList++Rows.fnFssSpec.plain.varTypes Tryz.prog).any (Tryz.prog.mapsRec ·)))=true:=by kernel_rfl
theorem aqk:((Rows.fnFssRow.ifaces == (Tryz.f8.params.toList++Rows.fnFssSpec.plain.varTypes Tryz.prog).any (Tryz.prog.ifacesRec ·)))=true:=by kernel_rfl
theorem aql:((Rows.fnFssRow.mapsOut == Tryz.prog.mapsAmong Tryz.f8.resultTypes.toList))=true:=by kernel_rfl
theorem aqm:((Rows.fnFssRow.loops == (Tryz.f8.params.toList++Rows.fnFssSpec.plain.varTypes Tryz.prog).any (Tryz.prog.loopsFrom ·)))=true:=by kernel_rfl
theorem aqn:((Rows.fnFssRow.wideKeys == (Tryz.f8.params.toList++Rows.fnFssSpec.plain.varTypes Tryz.prog++Tryz.f8.resultTypes.toList).any (Tryz.prog.wideKeysFrom ·)))=true:=by kernel_rfl
theorem aqo:(Rows.fnFssSpec.vars.all (Tryz.prog.varReadable ·))=true:=by kernel_rfl
theorem aqp:(Tryz.f8.resultTypes.all (fun t=>Tryz.prog.readableRec t && decide (t<Tryz.prog.types.size)))=true:=by kernel_rfl
theorem aqq:((Rows.fnFssRow.ifacesOut == Tryz.f8.resultTypes.toList.any (Tryz.prog.ifacesRec ·)))=true:=by kernel_rfl
theorem aqr:((Rows.fnFssRow.loopsOut == Tryz.f8.resultTypes.toList.any (Tryz.prog.loopsFrom ·)))=true:=by kernel_rfl
theorem aqs:((Rows.fnFssRow.plainKeys == Tryz.prog.plainKeys))=true:=by kernel_rfl
theorem aqt:(Rows.fnFssRow.shortTexts.isNone)=true:=by kernel_rfl
theorem aqu:((Rows.fnFssRow.kinds == (if Rows.fnFssRow.domain.isEmpty then [] else Tryz.f8.params.toList.map fun t=>match Tryz.prog.underlying t with | some (.int k)=>some k | _=>none)))=true:=by kernel_rfl
theorem aqv:((Rows.fnFssRow.pinned == Rows.fnFssRow.pinnedBy))=true:=by kernel_rfl
theorem aqw:((Rows.fnFssRow.veiled == (Tryz.f8.params.toList++Rows.fnFssSpec.plain.varTypes Tryz.prog++Tryz.f8.resultTypes.toList).any (Tryz.prog.veiledRec ·)))=true:=by kernel_rfl
theorem aqx:(Rows.fnFssRow.veiledFits Tryz.prog Tryz.f8.params.toList (Tryz.f8.params.toList++Rows.fnFssSpec.plain.varTypes Tryz.prog++Tryz.f8.resultTypes.toList))=true:=by kernel_rfl
theorem aqS:joinedFacts Tryz.prog 8 Tryz.f8 Rows.fnFssSpec Rows.fnFssRow=true:=
 anf aqM aof aog aqN aqO aqP an2 aqQ an3 aqR aqg aqh aqi aqj aqk aql aqm aqn aqo aqp aqq aqr aqs aqt an4 an5 an6 aoh aqu aqv aqw aqx
theorem ap2 (os:Os) (started:os.Started) (H:Type) (enc:TypeId × Value→H) :
  ReturnsInHanded {} Tryz.checked os 8 .any (Rows.fnFssSpec.pre6 enc Tryz.prog Tryz.f8 Rows.fnFssRow.domain false) (Rows.fnFssSpec.post enc Tryz.prog Tryz.f8 false true false false):=by
 refine law_returns (C:=Tryz.checked) (pars:=[(false,[.sl 1 [.int .u8]])]) own started (by kernel_rfl) Tryz.func8
  (ChangeSpec.witness6 (enc:=enc) (C:=Tryz.checked) false ⟨#[],#[.slice none 0 0],[]⟩ 8 (by kernel_rfl) (by kernel_rfl) (by kernel_rfl) (by kernel_rfl))
  rfl (by kernel_rfl) rfl (by kernel_rfl) ?_ ?_
 ·intro ds hd
  match ds,hd with
  | [d0],_=>rfl
 ·intro tss h
  match tss,h with
  | [t0],⟨h0,_⟩=>
   obtain ⟨r0,u0,rfl,l0,e0,k0⟩:=Shp.sl_inv h0
   obtain rfl:=Shp.nil_inv k0
   obtain ⟨x0,rfl⟩:=amF e0
   exact ⟨_,aqZ x0 (an0 l0)⟩
theorem aqT:Tryz.f8.isWrapper Tryz.prog Rows.fnFssRow.wrapper Rows.fnFssRow.mainSum:=by
 unfold Func.isWrapper; first | (rw [if_pos (by decide +kernel)]; kernel_rfl) | (rw [if_neg (by decide +kernel)]; exact ⟨rfl,rfl⟩)
theorem law_FnFss:Rows.FnFssSaid:=
 OpenClaim.holds_of_wide 8 Tryz.f8 rfl rfl rfl rfl rfl rfl rfl ⟨rfl,rfl,rfl,rfl,rfl⟩ rfl rfl rfl rfl rfl (by kernel_rfl) Tryz.func8 aqS
  (of_decide_eq_true (by kernel_rfl)) aqT
  (fun os started H enc _=>ap2 os started H enc)
end
end Go.Proofs.YtnfeefcnblondaaGreat.Awp

namespace Go.Proofs.YtnfeefcnblondaaGreat
/-- the given statement -/
theorem provedFnFss : Rows.FnFssSaid := Awp.law_FnFss
end Go.Proofs.YtnfeefcnblondaaGreat
#print axioms Go.Proofs.YtnfeefcnblondaaGreat.provedFnFss
