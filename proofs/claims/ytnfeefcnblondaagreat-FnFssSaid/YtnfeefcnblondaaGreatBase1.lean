/- Contracts of functions that the laws on trees reach are proved here (part 1). Condition: none. -/
import Derived.Test.YtnfeefcnblondaaGreatAwp4
import Derived.Test.YtnfeefcnblondaaGreatRows
import Derived.Sort.Walk0
import Derived.Shelf.Strings.Search3
import Derived.Shelf.Strings.Count
import Derived.Shelf.Strings.OnBuilder
import Derived.Shelf.Lays
import Derived.Shelf.Sort.Plain
import Derived.Shelf.Slices.In.SortNone
import Derived.Shelf.RegionOpenPlain
import Derived.WalkKit
import Derived.Deep.MidRow
import Derived.Deep.LoopGhost
import Derived.Deep.RegionLaw
import Derived.Lib.Walk
import Derived.Sort.WalkB12
import Derived.OpenShut
import Derived.KernelRfl
set_option linter.unusedVariables false
set_option linter.unusedSimpArgs false
set_option maxRecDepth 100000
set_option maxHeartbeats 20000000
open Nat (reduceEqDiff reduceAdd reduceMul reduceSub)
open Int (reduceNeg reduceToNat reducePow)
namespace Go.Proofs.YtnfeefcnblondaaGreat.Awp
section
namespace W
abbrev a (d x:Nat):GI:=⟨none,some d,.mov d (.t x)⟩
abbrev b (d x s:Nat):GI:=⟨none,some d,.ld d (.t x) s true⟩
abbrev b' (d x s:Nat):GI:=⟨none,some d,.ld d (.t x) s false⟩
abbrev c (d f:Nat) (l:List O):GI:=⟨none,some d,.call (some d) f l⟩
abbrev e (d x:Nat):GI:=⟨none,some d,.asg d (.t x)⟩
abbrev e' (d:Nat) (x:O):GI:=⟨none,some d,.asg d x⟩
abbrev f (d x i:Nat):GI:=⟨none,some d,.fld d (.t x) i⟩
abbrev g (d:Nat) (o:BinOp) (x y:O):GI:=⟨none,some d,.bin d o x y⟩
abbrev x (d x i:Nat):GI:=⟨none,some d,.xtr d (.t x) i⟩
abbrev l (d x:Nat):GI:=⟨none,some d,.len d (.t x)⟩
abbrev s (x y n:Nat):GI:=⟨none,none,.st (.t x) (.t y) n⟩
abbrev i (d x y s:Nat):GI:=⟨none,some d,.idx d (.t x) (.t y) s⟩
abbrev p (d x:Nat) (y z:O):GI:=⟨none,some d,.pck d (.t x) y z⟩
abbrev o (d s:Nat) (y:List O):GI:=⟨none,some d,.bsl d s y⟩
abbrev z (d:Nat) (y:List TV):GI:=⟨none,some d,.alc d y⟩
abbrev ha (t:Nat) (q:Bool) (d x:Nat):GI:=⟨some (t,q),some d,.mov d (.t x)⟩
abbrev hb (t:Nat) (q:Bool) (d x s:Nat):GI:=⟨some (t,q),some d,.ld d (.t x) s true⟩
abbrev hc (t:Nat) (q:Bool) (d f:Nat) (l:List O):GI:=⟨some (t,q),some d,.call (some d) f l⟩
end W
open I W
abbrev ag8:Cmd:=Q (R [e' 2 k0]) (Q (R [a 3 0,l 4 3,g 5 .gtr (v 4) (k 1048576),e 2 5]) .ret)
abbrev zC:Cmd:=Q (R [n 3 (box 3 (v 0)),z 6 [.sl 6 [],.int .i64 0],e' 7 (k 0)]) (Q (R [b 10 3 2,c 11 64 [v 10],z 8 [.sl 6 [],.int .i64 0],s 8 11 2]) (Q (R [b 12 3 2,a 13 1,c 14 65 [v 12,v 13],e 9 14]) (Q (.blk 0 (Q (R [b 16 3 2,c 17 40 [v 16],n 18 (un 18 .not (v 17)),a 19 18,ha 19 false 20 2,hc 19 false 21 57 [v 20,k 32,k 4000],h 19 false 22 (un 22 .not (v 21)),p 23 19 k1 (v 22),e 15 23]) (F (v 15) (Q (R [b 24 8 2,s 6 24 2,e' 7 (k 1)]) .ret) (Q (R [a 26 9,g 27 .lss (v 26) (k 0),e 25 27]) (F (v 25) (Q (R [b 28 8 2,s 6 28 2,e' 7 (k 2)]) .ret) (Q (R [f 30 3 0,b' 31 30 1,a 32 9,i 33 31 32 6,f 34 33 4,b 35 34 2,c 36 66 [v 35],a 37 2,g 38 .gtr (v 36) (v 37),e 29 38]) (F (v 29) (Q (R [b 39 8 2,s 6 39 2,e' 7 (k 8)]) .ret) .skip))))))) (Q (R [f 40 8 0,b' 41 40 1,a 42 9,a 43 2,i 44 41 42 6,f 45 44 3,s 45 43 1]) (Q (R [b 46 8 2,s 6 46 2,e' 7 (k 0)]) .ret)))))
abbrev aej:Cmd:=Q (R [n 3 (box 3 (v 0)),z 6 [.sl 6 [],.int .i64 0],e' 7 (k 0),e' 8 (k 0)]) (Q (Q (R [b 9 3 2,c 10 40 [v 9],n 11 (un 11 .not (v 10)),a 12 11,ha 12 false 13 1,hc 12 false 14 77 [v 13],h 12 false 15 (un 15 .not (v 14)),p 16 12 k1 (v 15),a 17 16,ha 17 false 18 2,hc 17 false 19 57 [v 18,k 32,k 4000],h 17 false 20 (un 20 .not (v 19)),p 21 17 k1 (v 20)]) (F (v 21) (Q (R [b 22 3 2,c 23 64 [v 22],s 6 23 2,e' 7 (k 0),e' 8 (k 1)]) .ret) .skip)) (Q (D [0,0,0,0,14,31,63,127,255,511,1023,2047] [b 24 3 2,a 25 1,a 26 2,c 27 79 [],n 28 (bld 28 [.int .i64 0,.str [],.bool false,.int .i64 0,.sl 6 [],.int .i64 0] [(1,1,v 25),(3,1,v 26),(4,2,v 27)]),c 29 78 [v 24,v 28],x 30 29 0,x 31 29 1,x 32 29 2,s 6 30 2,e 7 31,e 8 32]) .ret))
abbrev abC:Cmd:=Q (R [n 2 (box 2 (v 0)),z 4 [.sl 6 [],.int .i64 0],e' 5 (k 0)]) (Q (R [b 8 2 2,c 9 64 [v 8],z 6 [.sl 6 [],.int .i64 0],s 6 9 2]) (Q (R [b 10 2 2,a 11 1,c 12 65 [v 10,v 11],e 7 12]) (Q (.blk 0 (Q (R [b 14 2 2,c 15 40 [v 14],n 16 (un 16 .not (v 15)),e 13 16]) (F (v 13) (Q (R [b 17 6 2,s 4 17 2,e' 5 (k 1)]) .ret) (Q (R [a 19 7,g 20 .lss (v 19) (k 0),e 18 20]) (F (v 18) (Q (R [b 21 6 2,s 4 21 2,e' 5 (k 2)]) .ret) .skip))))) (Q (D [0,0,2,0,14,31,0,64,0,256,960,2047,4095,8191] [o 22 6 [],f 23 6 0,b' 24 23 1,a 25 7,n 26 (slc 26 (v 24) none (some (v 25)) 6),n 27 (app 27 (v 22) (v 26) 6 72),f 28 6 0,b' 29 28 1,a 30 7,g 31 .add (v 30) (k 1),n 32 (slc 32 (v 29) (some (v 31)) none 6),n 33 (app 33 (v 27) (v 32) 6 72),f 34 6 0,s 34 33 1]) (Q (R [b 35 6 2,s 4 35 2,e' 5 (k 0)]) .ret)))))
abbrev abD:Cmd:=Q (R [n 3 (box 3 (v 0)),z 6 [.sl 6 [],.int .i64 0],e' 7 (k 0),e' 8 (k 0)]) (Q (R [b 9 3 2,a 10 1,a 11 2,c 12 83 [v 9,v 10,v 11,k1],x 13 12 0,x 14 12 1,x 15 12 2,s 6 13 2,e 7 14,e 8 15]) .ret)
abbrev ajR:Cmd:=Q (R [n 1 (box 1 (v 0)),e' 2 k0]) (Q (Q (R [f 5 1 0,b' 6 5 1,l 7 6,g 8 .gtr (v 7) (k 6),a 9 8,h 9 false 10 (fld 10 (v 1) 1),h 9 false 11 (ld 11 (v 10) 1 false),hc 9 false 12 57 [v 11,k 1,k 99],h 9 false 13 (un 13 .not (v 12)),p 14 9 k1 (v 13)]) (F (v 14) (Q (R [e' 2 k0]) .ret) .skip)) (Q (Q (R [e' 3 (k 0)]) (.blk 0 (.loop (Q (Q (R [a 15 3,f 16 1 0,b' 17 16 1,l 18 17,g 19 .lss (v 15) (v 18)]) (F (v 19) .skip (.exit 0))) (Q (.blk 1 (Q (R [f 22 1 0,b' 23 22 1,a 24 3,i 25 23 24 6,b 26 25 6,z 4 [.int .i64 0,.str [],.bool false,.int .i64 0,.sl 6 [],.int .i64 0],s 4 26 6]) (Q (D [0,1,3,7,15,31,15,79,255,511,1023,2047,4095,8191,16383,32767,16383,81919,262143,524287,1048575,16383,2113535,8388607,16777215,33554431,67108863,134217727,268435455,536870911,1073741823,2147483647,4294967295,8589934591,8589934591,25769803775,68719476735,8589934591,274877906943,549755813887,1099511627775,2199023255551,4398046511103,8796093022207,17592186044415,35184372088831,70368744177663,140737488355327,281474976710655,562949953421311,1125899906842623,2251799813685247,4503599627370495,9007199254740991,18014398509481983,36028797018963967,9007199254740991,81064793292668927,288230376151711743,576460752303423487] [f 27 4 0,b' 28 27 1,g 29 .lss (v 28) (k 1),a 30 29,h 30 false 31 (fld 31 (v 4) 0),h 30 false 32 (ld 32 (v 31) 1 false),h 30 false 33 (fld 33 (v 1) 1),h 30 false 34 (ld 34 (v 33) 1 false),h 30 false 35 (bin 35 .geq (v 32) (v 34)),p 36 30 k1 (v 35),a 37 36,ha 37 false 38 3,h 37 false 39 (bin 39 .gtr (v 38) (k 0)),ha 37 false 40 39,h 40 true 41 (fld 41 (v 1) 0),h 40 true 42 (ld 42 (v 41) 1 false),ha 40 true 43 3,h 40 true 44 (bin 44 .sub (v 43) (k 1)),h 40 true 45 (idx 45 (v 42) (v 44) 6),h 40 true 46 (fld 46 (v 45) 0),h 40 true 47 (ld 47 (v 46) 1 false),h 40 true 48 (fld 48 (v 4) 0),h 40 true 49 (ld 49 (v 48) 1 false),h 40 true 50 (bin 50 .geq (v 47) (v 49)),h 37 false 51 (pck 51 (v 40) (v 50) k0),p 52 37 k1 (v 51),a 53 52,h 53 false 54 (fld 54 (v 4) 1),h 53 false 55 (ld 55 (v 54) 1 false),hc 53 false 56 77 [v 55],h 53 false 57 (un 57 .not (v 56)),p 58 53 k1 (v 57),a 59 58,hb 59 false 60 1 2,h 59 false 61 (fld 61 (v 4) 1),h 59 false 62 (ld 62 (v 61) 1 false),hc 59 false 63 86 [v 60,v 62],ha 59 false 64 3,h 59 false 65 (bin 65 .neq (v 63) (v 64)),p 66 59 k1 (v 65),a 67 66,h 67 false 68 (fld 68 (v 4) 3),h 67 false 69 (ld 69 (v 68) 1 false),hc 67 false 70 57 [v 69,k 32,k 4000],h 67 false 71 (un 71 .not (v 70)),p 72 67 k1 (v 71),a 73 72,h 73 false 74 (fld 74 (v 4) 4),hb 73 false 75 74 2,hc 73 false 76 87 [v 75],h 73 false 77 (un 77 .not (v 76)),p 78 73 k1 (v 77),a 79 78,h 79 false 80 (fld 80 (v 4) 4),hb 79 false 81 80 2,hc 79 false 82 66 [v 81],h 79 false 83 (fld 83 (v 4) 3),h 79 false 84 (ld 84 (v 83) 1 false),h 79 false 85 (bin 85 .gtr (v 82) (v 84)),p 86 79 k1 (v 85)]) (F (v 86) (Q (R [e' 2 k0]) .ret) .skip)))) (R [a 20 3,g 21 .add (v 20) (k 1),e 3 21])))))) (Q (R [e' 2 k1]) .ret)))
abbrev zE:Cmd:=Q (R [e' 2 (.c (.undef))]) (Q (R [a 5 0,l 6 5,g 7 .add (k 351351) (v 6),e 3 7]) (Q (Q (R [e' 4 (k 0)]) (.blk 0 (.loop (Q (Q (R [a 8 4,a 9 0,l 10 9,g 11 .lss (v 8) (v 10),a 12 11,ha 12 true 13 4,h 12 true 14 (bin 14 .lss (v 13) (k 4000)),p 15 12 (v 14) k0]) (F (v 15) .skip (.exit 0))) (Q (.blk 1 (R [a 18 3,g 19 .mul (v 18) (k 137),a 20 0,a 21 4,i 22 20 21 1,b' 23 22 1,n 24 (conv 24 .i64 (v 23)),g 25 .add (v 19) (v 24),g 26 .add (v 25) (k 11),g 27 .and (v 26) (k 1073741823),e 3 27])) (R [a 16 4,g 17 .add (v 16) (k 1),e 4 17])))))) (Q (R [a 28 0,a 29 3,n 30 (bld 30 [.sl 1 [],.int .i64 0,.int .i64 0] [(0,1,v 28),(2,1,v 29)]),n 31 (box 31 (v 30)),e 2 31]) .ret)))
abbrev vG:Cmd:=Q (R [z 4 [.sl 6 [],.int .i64 0]]) (Q (R [c 7 90 [],z 5 [.sl 6 [],.int .i64 0],s 5 7 2]) (Q (D [0,0,0,6,15,31,63,127,255,127] [b 9 5 2,a 10 0,o 11 1 [k 1000,k 4000,k 200],c 12 51 [v 10,v 11],c 13 27 [v 9,.c (.str [109,97,105,110]),v 12],a 8 13,x 14 8 0,x 15 8 1,x 16 8 2,s 5 14 2]) (Q (Q (R [a 17 0,a 18 1,g 19 .add (v 18) (k 4),c 20 50 [v 17,v 19],e 6 20]) (.blk 0 (.loop (Q (Q (R [a 21 6,g 22 .gtr (v 21) (k 0)]) (F (v 22) .skip (.exit 0))) (Q (.blk 1 (D [0,0,0,6,15,31,63,127,127] [b 26 5 2,a 27 0,b 28 5 2,c 29 49 [v 27,v 28],c 30 85 [v 26,v 29],a 25 30,x 31 25 0,x 32 25 1,s 5 31 2])) (R [a 23 6,g 24 .sub (v 23) (k 1),e 6 24])))))) (Q (R [b 33 5 2,s 4 33 2]) .ret))))
abbrev ajS:Cmd:=Q (R [e' 6 k0]) (Q (R [a 7 0,a 8 1,g 9 .geq (v 7) (v 8),a 10 9,ha 10 true 11 0,ha 10 true 12 2,h 10 true 13 (bin 13 .leq (v 11) (v 12)),p 14 10 (v 13) k0,e 6 14]) .ret)
abbrev bZ:Cmd:=Q (R [n 3 (box 3 (v 1)),z 4 [.int .i64 0,.int .i64 0,.str [],.str [],.int .i64 0,.sl 1 []]]) (Q (R [a 8 0,o 9 1 [k 1,k 2,k 2,k 3,k 3,k 3,k 4,k 5,k 6,k 7,k 8,k 9,k 10,k 11,k 12,k 13,k 14,k 1,k 2,k 3],c 10 51 [v 8,v 9],a 11 0,c 12 50 [v 11,k 4],g 13 .add (k 1) (v 12),n 14 (bld 14 [.int .i64 0,.int .i64 0,.str [],.str [],.int .i64 0,.sl 1 []] [(0,1,v 10),(1,1,v 13)]),z 5 [.int .i64 0,.int .i64 0,.str [],.str [],.int .i64 0,.sl 1 []],s 5 14 6]) (Q (R [c 15 79 [],z 6 [.sl 6 [],.int .i64 0],s 6 15 2]) (Q (Q (R [f 16 3 0,b' 17 16 1,l 18 17,g 19 .gtr (v 18) (k 0)]) (F (v 19) (Q (D [0,1,0,0,8,24,60,127,255,0,1023] [f 20 3 0,b' 21 20 1,a 22 0,f 23 3 0,b' 24 23 1,l 25 24,c 26 50 [v 22,v 25],i 27 21 26 6,b 28 27 6,z 7 [.int .i64 0,.str [],.bool false,.int .i64 0,.sl 6 [],.int .i64 0],s 7 28 6]) (Q (R [f 29 7 0,b' 30 29 1,f 31 5 1,s 31 30 1]) (R [f 32 7 4,b 33 32 2,s 6 33 2]))) .skip)) (Q (Q (R [f 34 5 0,b' 35 34 1]) (.blk 0 (Q (Q (R [g 37 .eql (v 35) (k 10),e 36 37]) (F (v 36) .skip (Q (R [g 38 .eql (v 35) (k 11),e 36 38]) (F (v 36) .skip (R [g 39 .eql (v 35) (k 12),e 36 39]))))) (F (v 36) (Q (R [a 40 0,c 41 92 [v 40],f 42 5 2,s 42 41 1]) (Q (R [a 43 0,o 44 1 [k 500,k 1000,k 4000,k 100],c 45 51 [v 43,v 44],f 46 5 4,s 46 45 1]) (Q (R [b 47 5 6,s 4 47 6]) .ret))) (Q (R [g 49 .eql (v 35) (k 13),e 48 49]) (F (v 48) (Q (Q (R [a 50 0,c 51 84 [v 50,k 4],n 52 (un 52 .not (v 51))]) (F (v 52) (Q (R [f 53 5 0,m (st (v 53) (k 2) 1)]) (R [a 54 0,c 55 93 [v 54],f 56 5 2,s 56 55 1])) .skip)) (Q (R [b 57 5 6,s 4 57 6]) .ret)) (Q (R [g 59 .eql (v 35) (k 14),e 58 59]) (F (v 58) (Q (R [a 60 0,o 61 1 [k 100,k 500,k 4000],c 62 51 [v 60,v 61],f 63 5 4,s 63 62 1]) (Q (R [b 64 5 6,s 4 64 6]) .ret)) .skip)))))))) (Q (R [a 65 0,b 66 6 2,c 67 94 [v 65,v 66],f 68 5 2,s 68 67 1]) (Q (Q (R [f 69 5 0,b' 70 69 1,g 71 .eql (v 70) (k 1),a 72 71,h 72 false 73 (fld 73 (v 5) 0),h 72 false 74 (ld 74 (v 73) 1 false),h 72 false 75 (bin 75 .eql (v 74) (k 2)),p 76 72 k1 (v 75)]) (F (v 76) (R [a 77 0,c 78 93 [v 77],f 79 5 2,s 79 78 1]) .skip)) (Q (R [a 80 0,c 81 93 [v 80],f 82 5 3,s 82 81 1]) (Q (Q (R [f 83 5 0,b' 84 83 1,g 85 .eql (v 84) (k 9)]) (F (v 85) (R [a 86 0,c 87 95 [v 86],f 88 5 3,s 88 87 1]) .skip)) (Q (R [a 89 0,o 90 1 [k 0,k 0,k 1,k 20],c 91 51 [v 89,v 90],f 92 5 4,s 92 91 1]) (Q (R [a 93 0,c 94 96 [v 93],f 95 5 5,s 95 94 1]) (Q (R [b 96 5 6,s 4 96 6]) .ret)))))))))))
abbrev abE:Cmd:=Q (R [e' 4 (k 0)]) (Q (Q (R [a 8 1,g 9 .leq (v 8) (k 0)]) (F (v 9) (Q (R [e' 4 (k 0)]) .ret) .skip)) (Q (Q (R [a 10 1,g 11 .leq (v 10) (k 256)]) (F (v 11) (Q (R [a 12 0,c 13 97 [v 12],a 14 1,g 15 .rem (v 13) (v 14),e 4 15]) .ret) .skip)) (Q (R [a 16 0,c 17 97 [v 16],e 5 17]) (Q (R [a 18 0,c 19 97 [v 18],e 6 19]) (Q (R [a 20 0,c 21 97 [v 20],e 7 21]) (Q (R [a 22 5,g 23 .mul (v 22) (k 65536),a 24 6,g 25 .mul (v 24) (k 256),g 26 .add (v 23) (v 25),a 27 7,g 28 .add (v 26) (v 27),a 29 1,g 30 .rem (v 28) (v 29),e 4 30]) .ret))))))
abbrev ag9:Cmd:=Q (R [e' 4 (k 0)]) (Q (R [a 5 1,a 6 0,a 7 1,l 8 7,c 9 50 [v 6,v 8],i 10 5 9 1,b' 11 10 1,e 4 11]) .ret)
abbrev ajT:Cmd:=Q (R [e' 6 k0]) (Q (R [a 7 0,a 8 1,g 9 .geq (v 7) (v 8),a 10 9,ha 10 true 11 0,ha 10 true 12 2,h 10 true 13 (bin 13 .leq (v 11) (v 12)),p 14 10 (v 13) k0,e 6 14]) .ret)
abbrev aek:Cmd:=Q (R [n 1 (box 1 (v 0)),z 2 [.sl 6 [],.int .i64 0]]) (Q (R [f 6 1 1,b' 7 6 1,n 8 (bld 8 [.sl 6 [],.int .i64 0] [(1,1,v 7)]),z 3 [.sl 6 [],.int .i64 0],s 3 8 2]) (Q (Q (R [e' 4 (k 0)]) (.blk 0 (.loop (Q (Q (R [a 9 4,f 10 1 0,b' 11 10 1,l 12 11,g 13 .lss (v 9) (v 12)]) (F (v 13) .skip (.exit 0))) (Q (.blk 1 (Q (R [f 16 1 0,b' 17 16 1,a 18 4,i 19 17 18 6,b 20 19 6,z 5 [.int .i64 0,.str [],.bool false,.int .i64 0,.sl 6 [],.int .i64 0],s 5 20 6]) (Q (R [f 21 5 4,b 22 21 2,c 23 104 [v 22],f 24 5 4,s 24 23 2]) (R [f 25 3 0,b' 26 25 1,b 27 5 6,o 28 6 [v 27],n 29 (app 29 (v 26) (v 28) 6 72),f 30 3 0,s 30 29 1])))) (R [a 14 4,g 15 .add (v 14) (k 1),e 4 15])))))) (Q (R [b 31 3 2,s 2 31 2]) .ret)))
abbrev aha:Cmd:=Q (R [n 2 (box 2 (v 0)),e' 4 (k 0)]) (Q (Q (R [e' 5 (k 0)]) (.blk 0 (.loop (Q (Q (R [a 6 5,f 7 2 0,b' 8 7 1,l 9 8,g 10 .lss (v 6) (v 9)]) (F (v 10) .skip (.exit 0))) (Q (.blk 1 (Q (R [f 13 2 0,b' 14 13 1,a 15 5,i 16 14 15 6,f 17 16 0,b' 18 17 1,a 19 1,g 20 .eql (v 18) (v 19)]) (F (v 20) (Q (R [a 21 5,e 4 21]) .ret) .skip))) (R [a 11 5,g 12 .add (v 11) (k 1),e 5 12])))))) (Q (R [e' 4 (k (-1))]) .ret))
abbrev abF:Cmd:=Q (R [n 1 (box 1 (v 0)),e' 2 (k 0)]) (Q (R [e' 3 (k 0)]) (Q (Q (R [e' 4 (k 0)]) (.blk 0 (.loop (Q (Q (R [a 7 4,f 8 1 0,b' 9 8 1,l 10 9,g 11 .lss (v 7) (v 10)]) (F (v 11) .skip (.exit 0))) (Q (.blk 1 (Q (R [f 14 1 0,b' 15 14 1,a 16 4,i 17 15 16 6,b 18 17 6,z 5 [.int .i64 0,.int .i64 0,.int .i64 0,.sl 1 [],.sl 2 [],.sl 2 []],s 5 18 6]) (Q (R [a 19 3,g 20 .add (v 19) (k 32),f 21 5 3,b' 22 21 1,l 23 22,g 24 .add (v 20) (v 23),e 3 24]) (Q (R [e' 6 (k 0)]) (.blk 2 (.loop (Q (Q (R [a 25 6,f 26 5 5,b' 27 26 1,l 28 27,g 29 .lss (v 25) (v 28)]) (F (v 29) .skip (.exit 2))) (Q (.blk 3 (D [0,0,2,0,14,30,62,126,255,0,512,0,3584,7680,15872,32256,65535,131071] [a 32 3,f 33 5 5,b' 34 33 1,a 35 6,i 36 34 35 2,f 37 36 0,b' 38 37 1,n 39 (lens 39 (v 38)),g 40 .add (v 32) (v 39),f 41 5 5,b' 42 41 1,a 43 6,i 44 42 43 2,f 45 44 1,b' 46 45 1,n 47 (lens 47 (v 46)),g 48 .add (v 40) (v 47),e 3 48])) (R [a 30 6,g 31 .add (v 30) (k 1),e 6 31]))))))))) (R [a 12 4,g 13 .add (v 12) (k 1),e 4 13])))))) (Q (R [a 49 3,e 2 49]) .ret)))
abbrev ahb:Cmd:=Q (R [e' 4 (.c (.str []))]) (Q (R [a 5 1,a 6 0,a 7 1,l 8 7,c 9 50 [v 6,v 8],i 10 5 9 1,b' 11 10 1,e 4 11]) .ret)
abbrev ael:Cmd:=Q (R [e' 2 k0]) (Q (Q (R [e' 3 (k 0)]) (.blk 0 (.loop (Q (Q (R [a 5 3,a 6 0,n 7 (lens 7 (v 6)),g 8 .lss (v 5) (v 7)]) (F (v 8) .skip (.exit 0))) (Q (.blk 1 (Q (R [a 11 0,a 12 3,n 13 (sidx 13 (v 11) (v 12)),n 14 (conv 14 .i64 (v 13)),e 4 14]) (Q (R [a 15 4,c 16 57 [v 15,k 97,k 122],n 17 (un 17 .not (v 16)),a 18 17,ha 18 true 19 4,hc 18 true 20 57 [v 19,k 48,k 57],h 18 true 21 (un 21 .not (v 20)),p 22 18 (v 21) k0,a 23 22,ha 23 true 24 4,h 23 true 25 (bin 25 .neq (v 24) (k 95)),p 26 23 (v 25) k0,a 27 26,ha 27 true 28 4,h 27 true 29 (bin 29 .neq (v 28) (k 45)),p 30 27 (v 29) k0,a 31 30,ha 31 true 32 4,h 31 true 33 (bin 33 .neq (v 32) (k 46)),p 34 31 (v 33) k0]) (F (v 34) (Q (R [e' 2 k0]) .ret) .skip)))) (R [a 9 3,g 10 .add (v 9) (k 1),e 3 10])))))) (Q (R [a 35 0,n 36 (lens 36 (v 35)),c 37 57 [v 36,k 1,k 14],a 38 37,ha 38 true 39 0,h 38 true 40 (bin 40 .neq (v 39) (.c (.str [46]))),p 41 38 (v 40) k0,a 42 41,ha 42 true 43 0,h 42 true 44 (bin 44 .neq (v 43) (.c (.str [46,46]))),p 45 42 (v 44) k0,e 2 45]) .ret))
abbrev ahc:Cmd:=Q (R [n 2 (box 2 (v 0)),n 3 (box 3 (v 1)),z 4 [.sl 6 [],.int .i64 0],e' 5 (k 0),e' 6 (k 0)]) (Q (R [b 8 2 2,c 9 64 [v 8],z 7 [.sl 6 [],.int .i64 0],s 7 9 2]) (Q (.blk 0 (Q (R [b 11 2 2,f 12 3 1,b' 13 12 1,c 14 86 [v 11,v 13],g 15 .geq (v 14) (k 0),e 10 15]) (F (v 10) (Q (R [b 16 7 2,s 4 16 2,e' 5 (k 0),e' 6 (k 4)]) .ret) (Q (R [f 18 2 0,b' 19 18 1,l 20 19,g 21 .geq (v 20) (k 6),a 22 21,h 22 false 23 (fld 23 (v 2) 1),h 22 false 24 (ld 24 (v 23) 1 false),h 22 false 25 (bin 25 .geq (v 24) (k 99)),p 26 22 k1 (v 25),e 17 26]) (F (v 17) (Q (R [b 27 7 2,s 4 27 2,e' 5 (k 0),e' 6 (k 5)]) .ret) .skip))))) (Q (R [f 28 2 1,b' 29 28 1,f 30 3 0,s 30 29 1]) (Q (R [f 31 3 4,b 32 31 2,c 33 104 [v 32],f 34 3 4,s 34 33 2]) (Q (R [f 35 7 0,b' 36 35 1,b 37 3 6,o 38 6 [v 37],n 39 (app 39 (v 36) (v 38) 6 72),f 40 7 0,s 40 39 1]) (Q (R [f 41 2 1,b' 42 41 1,g 43 .add (v 42) (k 1),f 44 7 1,s 44 43 1]) (Q (D [0,0,2,1,15,31] [b 45 7 2,f 46 3 0,b' 47 46 1,s 4 45 2,e 5 47,e' 6 (k 0)]) .ret)))))))
abbrev aem:Cmd:=Q (R [z 0 [.sl 6 [],.int .i64 0]]) (Q (R [n 1 (bld 1 [.int .i64 0,.int .i64 0,.int .i64 0,.sl 1 [],.sl 2 [],.sl 2 []] [(0,1,k 1),(1,1,k 2)]),o 2 6 [v 1],n 3 (bld 3 [.sl 6 [],.int .i64 0] [(0,1,v 2),(1,1,k 2)]),s 0 3 2]) .ret)
abbrev aen:Cmd:=Q (R [n 4 (box 4 (v 0)),z 8 [.sl 6 [],.int .i64 0],e' 9 (k 0),e' 10 (k 0)]) (Q (R [b 12 4 2,a 13 1,c 14 65 [v 12,v 13],e 11 14]) (Q (.blk 0 (Q (R [b 16 4 2,c 17 40 [v 16],n 18 (un 18 .not (v 17)),a 19 18,ha 19 false 20 2,hc 19 false 21 77 [v 20],h 19 false 22 (un 22 .not (v 21)),p 23 19 k1 (v 22),e 15 23]) (F (v 15) (Q (R [b 24 4 2,c 25 64 [v 24],s 8 25 2,e' 9 (k 0),e' 10 (k 1)]) .ret) (Q (R [a 27 11,g 28 .lss (v 27) (k 0),e 26 28]) (F (v 26) (Q (R [b 29 4 2,c 30 64 [v 29],s 8 30 2,e' 9 (k 0),e' 10 (k 2)]) .ret) .skip))))) (Q (D [0,0,0,0,8,0,56,120,248,0,512,0,3584,7680,15872,32766,65535,131071,262143,524287,1048575,2097151,4194303] [b 31 4 2,a 32 2,a 33 3,f 34 4 0,b' 35 34 1,a 36 11,i 37 35 36 6,f 38 37 3,b' 39 38 1,f 40 4 0,b' 41 40 1,a 42 11,i 43 41 42 6,f 44 43 4,b 45 44 2,n 46 (bld 46 [.int .i64 0,.str [],.bool false,.int .i64 0,.sl 6 [],.int .i64 0] [(1,1,v 32),(2,1,v 33),(3,1,v 39),(4,2,v 45)]),c 47 78 [v 31,v 46],x 48 47 0,x 49 47 1,x 50 47 2,s 8 48 2,e 9 49,e 10 50]) .ret)))
abbrev aeo:Cmd:=Q (R [e' 4 k0]) (Q (R [a 5 0,a 6 1,c 7 50 [v 5,v 6],g 8 .eql (v 7) (k 0),e 4 8]) .ret)
abbrev ahd:Cmd:=Q (R [n 2 (box 2 (v 0)),n 3 (box 3 (v 1)),z 4 [.sl 6 [],.int .i64 0],e' 5 (k 0)]) (Q (Q (R [b 8 3 6,c 9 112 [v 8]]) (F (v 9) (Q (R [b 10 2 2,b 11 3 6,c 12 113 [v 10,v 11],x 13 12 0,x 14 12 1,s 4 13 2,e 5 14]) .ret) .skip)) (Q (R [b 15 2 2,c 16 64 [v 15],z 6 [.sl 6 [],.int .i64 0],s 6 16 2]) (Q (R [e' 7 (k 1)]) (Q (Q (R [f 17 3 0,b' 18 17 1]) (.blk 0 (Q (R [g 20 .eql (v 18) (k 10),e 19 20]) (F (v 19) (R [b 22 2 2,f 23 3 2,b' 24 23 1,f 25 3 4,b' 26 25 1,c 27 27 [v 22,v 24,v 26],a 21 27,x 28 21 0,x 29 21 1,x 30 21 2,s 6 28 2,e 7 30]) (Q (R [g 32 .eql (v 18) (k 11),e 31 32]) (F (v 31) (R [b 34 2 2,f 35 3 1,b' 36 35 1,f 37 3 2,b' 38 37 1,c 39 36 [v 34,v 36,v 38],a 33 39,x 40 33 0,x 41 33 1,x 42 33 2,s 6 40 2,e 7 42]) (Q (R [g 44 .eql (v 18) (k 12),e 43 44]) (F (v 43) (R [b 46 2 2,f 47 3 1,b' 48 47 1,f 49 3 2,b' 50 49 1,c 51 114 [v 46,v 48,v 50],a 45 51,x 52 45 0,x 53 45 1,x 54 45 2,s 6 52 2,e 7 54]) (Q (R [g 56 .eql (v 18) (k 13),e 55 56]) (F (v 55) (R [b 58 2 2,f 59 3 1,b' 60 59 1,c 61 32 [v 58,v 60],a 57 61,x 62 57 0,x 63 57 1,s 6 62 2,e 7 63]) (Q (R [g 65 .eql (v 18) (k 14),e 64 65]) (F (v 64) (R [b 67 2 2,f 68 3 1,b' 69 68 1,f 70 3 4,b' 71 70 1,c 72 19 [v 67,v 69,v 71],a 66 72,x 73 66 0,x 74 66 1,s 6 73 2,e 7 74]) .skip)))))))))))) (Q (R [b 75 6 2,a 76 7,s 4 75 2,e 5 76]) .ret)))))
abbrev zF:Cmd:=Q (R [n 2 (box 2 (v 0)),e' 4 (k 0)]) (Q (Q (R [e' 5 (k 0)]) (.blk 0 (.loop (Q (Q (R [a 6 5,f 7 2 0,b' 8 7 1,l 9 8,g 10 .lss (v 6) (v 9)]) (F (v 10) .skip (.exit 0))) (Q (.blk 1 (Q (R [f 13 2 0,b' 14 13 1,a 15 5,i 16 14 15 6,f 17 16 1,b' 18 17 1,a 19 1,g 20 .eql (v 18) (v 19)]) (F (v 20) (Q (R [a 21 5,e 4 21]) .ret) .skip))) (R [a 11 5,g 12 .add (v 11) (k 1),e 5 12])))))) (Q (R [e' 4 (k (-1))]) .ret))
abbrev aep:Cmd:=Q (R [n 1 (box 1 (v 0)),e' 2 k0]) (Q (Q (D [0,1,3,7,15,31,63,15,143,399,1023,2047] [b 6 1 2,c 7 115 [v 6],n 8 (un 8 .not (v 7)),a 9 8,hb 9 false 10 1 2,hc 9 false 11 116 [v 10],h 9 false 12 (len 12 (v 11)),h 9 false 13 (fld 13 (v 1) 0),h 9 false 14 (ld 14 (v 13) 1 false),h 9 false 15 (len 15 (v 14)),h 9 false 16 (bin 16 .neq (v 12) (v 15)),p 17 9 k1 (v 16)]) (F (v 17) (Q (R [e' 2 k0]) .ret) .skip)) (Q (Q (R [e' 3 (k 0)]) (.blk 0 (.loop (Q (Q (R [a 18 3,f 19 1 0,b' 20 19 1,l 21 20,g 22 .lss (v 18) (v 21)]) (F (v 22) .skip (.exit 0))) (Q (.blk 1 (Q (R [f 25 1 0,b' 26 25 1,a 27 3,i 28 26 27 6,b 29 28 6,z 4 [.int .i64 0,.int .i64 0,.int .i64 0,.sl 1 [],.sl 2 [],.sl 2 []],s 4 29 6]) (Q (Q (D [0,0,2,7,0,16,63] [b 30 1 2,f 31 4 0,b' 32 31 1,c 33 117 [v 30,v 32],f 34 4 2,b' 35 34 1,g 36 .neq (v 33) (v 35)]) (F (v 36) (Q (R [e' 2 k0]) .ret) .skip)) (Q (R [e' 5 (k 0)]) (.blk 2 (.loop (Q (Q (R [a 37 5,f 38 4 4,b' 39 38 1,l 40 39,g 41 .lss (v 37) (v 40)]) (F (v 41) .skip (.exit 2))) (Q (.blk 3 (Q (D [0,0,2,0,14,30,62,127,255] [b 44 1 2,f 45 4 4,b' 46 45 1,a 47 5,i 48 46 47 2,f 49 48 1,b' 50 49 1,c 51 118 [v 44,v 50],g 52 .lss (v 51) (k 0)]) (F (v 52) (Q (R [e' 2 k0]) .ret) .skip))) (R [a 42 5,g 43 .add (v 42) (k 1),e 5 43]))))))))) (R [a 23 3,g 24 .add (v 23) (k 1),e 3 24])))))) (Q (R [e' 2 k1]) .ret)))
abbrev ahe:Cmd:=Q (R [e' 2 (.c (.str []))]) (Q (Q (R [a 3 0,c 4 84 [v 3,k 6]]) (F (v 4) (Q (R [a 5 0,o 6 1 [.c (.str []),.c (.str [47]),.c (.str [97]),.c (.str [47,47]),.c (.str [47,97,47]),.c (.str [47,65]),.c (.str [47,46,46]),.c (.str [47,46]),.c (.str [47,102,105,102,116,101,101,110,98,121,116,101,115,120,120,120]),.c (.str [47,97,47,47,98])],c 7 75 [v 5,v 6],e 2 7]) .ret) .skip)) (Q (R [a 8 0,c 9 93 [v 8],e 2 9]) .ret))
abbrev ahf:Cmd:=Q (R [z 0 [.sl 6 [],.int .i64 0]]) (Q (R [n 1 (bld 1 [.sl 6 [],.int .i64 0] [(1,1,k 1)]),s 0 1 2]) .ret)
abbrev oL:Cmd:=Q (R [e' 2 (.c (.own 1 []))]) (Q (Q (R [a 3 0,n 4 (isn 4 false (v 3) (.c (.own 1 [])))]) (F (v 4) (Q (R [e' 2 (.c (.own 1 []))]) .ret) .skip)) (Q (R [o 5 1 [],a 6 0,n 7 (app 7 (v 5) (v 6) 1 1),e 2 7]) .ret))
abbrev aeq:Cmd:=Q (R [e' 2 (.c (.str []))]) (Q (R [a 3 0,o 4 1 [.c (.str [109,97,105,110]),.c (.str [115,110,97,112]),.c (.str [119,111,114,107]),.c (.str [118,52]),.c (.str [118,53])],c 5 75 [v 3,v 4],e 2 5]) .ret)
abbrev vH:Cmd:=Q (R [e' 2 (.c (.str []))]) (Q (R [e' 3 (.c (.str []))]) (Q (Q (R [a 5 0,c 6 50 [v 5,k 3],g 7 .add (k 1) (v 6),e 4 7]) (.blk 0 (.loop (Q (Q (R [a 8 4,g 9 .gtr (v 8) (k 0)]) (F (v 9) .skip (.exit 0))) (Q (.blk 1 (R [a 12 3,g 13 .add (v 12) (.c (.str [47])),a 14 0,c 15 95 [v 14],g 16 .add (v 13) (v 15),e 3 16])) (R [a 10 4,g 11 .sub (v 10) (k 1),e 4 11])))))) (Q (R [a 17 3,e 2 17]) .ret)))
abbrev aer:Cmd:=Q (R [n 3 (box 3 (v 1)),e' 4 (.c (.str []))]) (Q (R [b 6 3 2,c 7 120 [v 6],e 5 7]) (Q (Q (R [a 8 5,l 9 8,g 10 .gtr (v 9) (k 0),a 11 10,ha 11 true 12 0,hc 11 true 13 84 [v 12,k 4],h 11 true 14 (un 14 .not (v 13)),p 15 11 (v 14) k0]) (F (v 15) (Q (R [a 16 5,a 17 0,a 18 5,l 19 18,c 20 50 [v 17,v 19],i 21 16 20 1,b' 22 21 1,e 4 22]) .ret) .skip)) (Q (R [a 23 0,c 24 89 [v 23],e 4 24]) .ret)))
abbrev aes:Cmd:=Q (R [e' 2 (.c (.str []))]) (Q (R [a 3 0,o 4 1 [.c (.str [97]),.c (.str [98]),.c (.str [99]),.c (.str [100,46,116,120,116])],c 5 75 [v 3,v 4],e 2 5]) .ret)
abbrev aet:Cmd:=Q (R [e' 2 (.c (.own 1 []))]) (Q (R [a 3 0,a 4 0,o 5 1 [k 0,k 1,k 2,k 5,k 9],c 6 51 [v 4,v 5],c 7 121 [v 3,v 6],e 2 7]) .ret)
abbrev qS:Cmd:=Q (R [e' 2 (k 0)]) (Q (R [a 4 0,a 5 0,n 6 (nck 6 (v 5)),f 7 6 2,b' 8 7 1,g 9 .mul (v 8) (k 6364136223846793005),g 10 .add (v 9) (k 1442695040888963407),n 11 (nck 11 (v 4)),f 12 11 2,s 12 10 1]) (Q (D [0,1,3,7,15,0,32,96,224,480,1023,2047,4095] [a 13 0,n 14 (nck 14 (v 13)),f 15 14 2,b' 16 15 1,g 17 .shr (v 16) (.c (.int .u64 33)),a 18 0,n 19 (nck 19 (v 18)),f 20 19 2,b' 21 20 1,g 22 .shr (v 21) (.c (.int .u64 47)),g 23 .xor (v 17) (v 22),g 24 .and (v 23) (k 255),e 3 24]) (Q (Q (D [0,1,3,7,0,16,48,112,240,511] [a 25 0,n 26 (nck 26 (v 25)),f 27 26 1,b' 28 27 1,a 29 0,n 30 (nck 30 (v 29)),f 31 30 0,b' 32 31 1,l 33 32,g 34 .lss (v 28) (v 33)]) (F (v 34) (Q (D [0,0,2,6,14,0,32,96,224,510,1022,2046,4095,8191,16383] [a 35 3,a 36 0,n 37 (nck 37 (v 36)),f 38 37 0,b' 39 38 1,a 40 0,n 41 (nck 41 (v 40)),f 42 41 1,b' 43 42 1,i 44 39 43 1,b' 45 44 1,n 46 (conv 46 .i64 (v 45)),g 47 .add (v 35) (v 46),g 48 .and (v 47) (k 255),e 3 48]) (R [a 49 0,a 50 0,n 51 (nck 51 (v 50)),f 52 51 1,b' 53 52 1,g 54 .add (v 53) (k 1),n 55 (nck 55 (v 49)),f 56 55 1,s 56 54 1])) .skip)) (Q (R [a 57 3,e 2 57]) .ret))))
abbrev aeu:Cmd:=Q (R [n 1 (box 1 (v 0)),z 2 [.sl 6 [],.int .i64 0]]) (Q (R [f 5 1 1,b' 6 5 1,n 7 (bld 7 [.sl 6 [],.int .i64 0] [(1,1,v 6)]),z 3 [.sl 6 [],.int .i64 0],s 3 7 2]) (Q (Q (R [e' 4 (k 0)]) (.blk 0 (.loop (Q (Q (R [a 8 4,f 9 1 0,b' 10 9 1,l 11 10,g 12 .lss (v 8) (v 11)]) (F (v 12) .skip (.exit 0))) (Q (.blk 1 (D [0,1,0,4,0,28,60,124,252,511,1023,2047] [f 15 3 0,b' 16 15 1,f 17 1 0,b' 18 17 1,a 19 4,i 20 18 19 6,b 21 20 6,c 22 125 [v 21],o 23 6 [v 22],n 24 (app 24 (v 16) (v 23) 6 96),f 25 3 0,s 25 24 1])) (R [a 13 4,g 14 .add (v 13) (k 1),e 4 14])))))) (Q (R [b 26 3 2,s 2 26 2]) .ret)))
abbrev abG:Cmd:=Q (R [n 1 (box 1 (v 0)),e' 2 k0]) (Q (R [f 3 1 0,b' 4 3 1,c 5 57 [v 4,k 1,k 9],e 2 5]) .ret)
abbrev aev:Cmd:=Q (R [n 2 (box 2 (v 0)),n 3 (box 3 (v 1)),z 4 [.sl 6 [],.int .i64 0],e' 5 (k 0)]) (Q (R [b 10 2 2,c 11 64 [v 10],z 6 [.sl 6 [],.int .i64 0],s 6 11 2]) (Q (R [b 12 2 2,f 13 3 1,b' 14 13 1,c 15 65 [v 12,v 14],e 7 15]) (Q (.blk 0 (Q (R [b 17 2 2,c 18 40 [v 17],n 19 (un 19 .not (v 18)),e 16 19]) (F (v 16) (Q (R [b 20 6 2,s 4 20 2,e' 5 (k 1)]) .ret) (Q (R [a 22 7,g 23 .lss (v 22) (k 0),e 21 23]) (F (v 21) (Q (R [b 24 6 2,s 4 24 2,e' 5 (k 2)]) .ret) (Q (R [f 26 2 0,b' 27 26 1,a 28 7,i 29 27 28 6,f 30 29 2,b' 31 30 1,e 25 31]) (F (v 25) (Q (R [b 32 6 2,s 4 32 2,e' 5 (k 7)]) .ret) .skip))))))) (Q (D [0,1,0,7,15,31,0,127,255,511,1023,0,3071,8191] [f 34 2 0,b' 35 34 1,a 36 7,i 37 35 36 6,f 38 37 4,b 39 38 2,b 40 3 6,c 41 132 [v 39,v 40],a 33 41,x 42 33 0,x 43 33 1,z 8 [.sl 6 [],.int .i64 0],s 8 42 2,e 9 43]) (Q (Q (D [0,1,3,7,15,7,39,7,231,487,999,2047,4095] [a 44 9,g 45 .eql (v 44) (k 0),a 46 45,hb 46 true 47 8 2,hc 46 true 48 66 [v 47],h 46 true 49 (fld 49 (v 2) 0),h 46 true 50 (ld 50 (v 49) 1 false),ha 46 true 51 7,h 46 true 52 (idx 52 (v 50) (v 51) 6),h 46 true 53 (fld 53 (v 52) 3),h 46 true 54 (ld 54 (v 53) 1 false),h 46 true 55 (bin 55 .gtr (v 48) (v 54)),p 56 46 (v 55) k0]) (F (v 56) (R [e' 9 (k 8)]) .skip)) (Q (Q (R [a 57 9,g 58 .eql (v 57) (k 0)]) (F (v 58) (R [f 59 6 0,b' 60 59 1,a 61 7,b 62 8 2,i 63 60 61 6,f 64 63 4,s 64 62 2]) .skip)) (Q (R [b 65 6 2,a 66 9,s 4 65 2,e 5 66]) .ret)))))))
abbrev zG:Cmd:=Q (R [n 3 (box 3 (v 0)),z 6 [.sl 6 [],.int .i64 0],e' 7 (k 0),e' 8 (k 0)]) (Q (R [b 9 3 2,a 10 1,a 11 2,c 12 83 [v 9,v 10,v 11,k0],x 13 12 0,x 14 12 1,x 15 12 2,s 6 13 2,e 7 14,e 8 15]) .ret)
abbrev ahg:Cmd:=Q (R [n 1 (box 1 (v 0)),e' 2 k0]) (Q (Q (R [f 5 1 0,b' 6 5 1,l 7 6,c 8 57 [v 7,k 1,k 30],n 9 (un 9 .not (v 8)),a 10 9,h 10 false 11 (fld 11 (v 1) 1),h 10 false 12 (ld 12 (v 11) 1 false),hc 10 false 13 57 [v 12,k 2,k 1000],h 10 false 14 (un 14 .not (v 13)),p 15 10 k1 (v 14)]) (F (v 15) (Q (R [e' 2 k0]) .ret) .skip)) (Q (Q (R [e' 3 (k 0)]) (.blk 0 (.loop (Q (Q (R [a 16 3,f 17 1 0,b' 18 17 1,l 19 18,g 20 .lss (v 16) (v 19)]) (F (v 20) .skip (.exit 0))) (Q (.blk 1 (Q (R [f 23 1 0,b' 24 23 1,a 25 3,i 26 24 25 6,b 27 26 6,z 4 [.int .i64 0,.int .i64 0,.int .i64 0,.sl 1 [],.sl 2 [],.sl 2 []],s 4 27 6]) (Q (D [0,1,3,7,15,31,15,79,255,511,1023,2047,4095,8191,16383,32767,16383,81919,262143,524287,1048575,16383,2113535,8388607,16777215,33554431] [b 28 4 6,c 29 133 [v 28],n 30 (un 30 .not (v 29)),a 31 30,h 31 false 32 (fld 32 (v 4) 0),h 31 false 33 (ld 33 (v 32) 1 false),h 31 false 34 (fld 34 (v 1) 1),h 31 false 35 (ld 35 (v 34) 1 false),h 31 false 36 (bin 36 .geq (v 33) (v 35)),p 37 31 k1 (v 36),a 38 37,ha 38 false 39 3,h 38 false 40 (bin 40 .gtr (v 39) (k 0)),ha 38 false 41 40,h 41 true 42 (fld 42 (v 1) 0),h 41 true 43 (ld 43 (v 42) 1 false),ha 41 true 44 3,h 41 true 45 (bin 45 .sub (v 44) (k 1)),h 41 true 46 (idx 46 (v 43) (v 45) 6),h 41 true 47 (fld 47 (v 46) 0),h 41 true 48 (ld 48 (v 47) 1 false),h 41 true 49 (fld 49 (v 4) 0),h 41 true 50 (ld 50 (v 49) 1 false),h 41 true 51 (bin 51 .geq (v 48) (v 50)),h 38 false 52 (pck 52 (v 41) (v 51) k0),p 53 38 k1 (v 52)]) (F (v 53) (Q (R [e' 2 k0]) .ret) .skip)))) (R [a 21 3,g 22 .add (v 21) (k 1),e 3 22])))))) (Q (R [f 54 1 0,b' 55 54 1,n 56 (idx 56 (v 55) (k 0) 6),f 57 56 0,b' 58 57 1,g 59 .eql (v 58) (k 1),a 60 59,h 60 true 61 (fld 61 (v 1) 0),h 60 true 62 (ld 62 (v 61) 1 false),h 60 true 63 (idx 63 (v 62) (k 0) 6),h 60 true 64 (fld 64 (v 63) 1),h 60 true 65 (ld 65 (v 64) 1 false),h 60 true 66 (bin 66 .eql (v 65) (k 2)),p 67 60 (v 66) k0,e 2 67]) .ret)))
abbrev abH:Cmd:=Q (R [n 1 (box 1 (v 0)),e' 2 (.c (.own 1 []))]) (Q (R [o 5 1 [],e 3 5]) (Q (Q (R [b 6 1 2,c 7 118 [v 6,k 1],g 8 .lss (v 7) (k 0)]) (F (v 8) (Q (R [a 9 3,e 2 9]) .ret) .skip)) (Q (R [a 10 3,o 11 1 [k 1],n 12 (app 12 (v 10) (v 11) 1 8),e 3 12]) (Q (Q (R [e' 4 (k 0)]) (.blk 0 (.loop (Q (Q (R [a 13 4,f 14 1 0,b' 15 14 1,l 16 15,g 17 .lss (v 13) (v 16)]) (F (v 17) .skip (.exit 0))) (Q (.blk 1 (R [b 20 1 2,a 21 3,c 22 134 [v 20,v 21],e 3 22])) (R [a 18 4,g 19 .add (v 18) (k 1),e 4 19])))))) (Q (R [a 23 3,e 2 23]) .ret)))))
abbrev abI:Cmd:=Q (R [n 2 (box 2 (v 0)),e' 4 (k 0)]) (Q (R [e' 5 (k 0)]) (Q (Q (R [e' 6 (k 0)]) (.blk 0 (.loop (Q (Q (R [a 8 6,f 9 2 0,b' 10 9 1,l 11 10,g 12 .lss (v 8) (v 11)]) (F (v 12) .skip (.exit 0))) (Q (.blk 1 (Q (R [e' 7 (k 0)]) (.blk 2 (.loop (Q (Q (R [a 15 7,f 16 2 0,b' 17 16 1,a 18 6,i 19 17 18 6,f 20 19 4,b' 21 20 1,l 22 21,g 23 .lss (v 15) (v 22),a 24 23,h 24 true 25 (fld 25 (v 2) 0),h 24 true 26 (ld 26 (v 25) 1 false),ha 24 true 27 6,h 24 true 28 (idx 28 (v 26) (v 27) 6),h 24 true 29 (fld 29 (v 28) 1),h 24 true 30 (ld 30 (v 29) 1 false),h 24 true 31 (bin 31 .eql (v 30) (k 2)),p 32 24 (v 31) k0]) (F (v 32) .skip (.exit 2))) (Q (.blk 3 (Q (R [f 35 2 0,b' 36 35 1,a 37 6,i 38 36 37 6,f 39 38 4,b' 40 39 1,a 41 7,i 42 40 41 2,f 43 42 1,b' 44 43 1,a 45 1,g 46 .eql (v 44) (v 45)]) (F (v 46) (R [a 47 5,g 48 .add (v 47) (k 1),e 5 48]) .skip))) (R [a 33 7,g 34 .add (v 33) (k 1),e 7 34]))))))) (R [a 13 6,g 14 .add (v 13) (k 1),e 6 14])))))) (Q (R [a 49 5,e 4 49]) .ret)))
abbrev ajU:Cmd:=Q (R [n 2 (box 2 (v 0)),e' 4 (k 0)]) (Q (Q (R [e' 5 (k 0)]) (.blk 0 (.loop (Q (Q (R [a 6 5,f 7 2 0,b' 8 7 1,l 9 8,g 10 .lss (v 6) (v 9)]) (F (v 10) .skip (.exit 0))) (Q (.blk 1 (Q (R [f 13 2 0,b' 14 13 1,a 15 5,i 16 14 15 6,f 17 16 0,b' 18 17 1,a 19 1,g 20 .eql (v 18) (v 19)]) (F (v 20) (Q (R [a 21 5,e 4 21]) .ret) .skip))) (R [a 11 5,g 12 .add (v 11) (k 1),e 5 12])))))) (Q (R [e' 4 (k (-1))]) .ret))
abbrev abJ:Cmd:=Q (R [n 1 (box 1 (v 0)),e' 2 (.c (.own 1 []))]) (Q (R [o 4 1 [],z 3 [.sl 1 []],s 3 4 1]) (Q (Q (R [b 5 1 2,c 6 87 [v 5]]) (F (v 6) (R [b 7 1 2,c 8 136 [v 7,k 1,.c (.str []),v 3]]) .skip)) (Q (R [b' 9 3 1,c 10 137 [v 9],e 2 10]) .ret)))
abbrev tE:Cmd:=Q (R [e' 4 (.c (.own 1 []))]) (Q (R [o 7 1 [],e 5 7]) (Q (Q (R [e' 6 (k 0)]) (.blk 0 (.loop (Q (Q (R [a 8 6,a 9 1,g 10 .lss (v 8) (v 9)]) (F (v 10) .skip (.exit 0))) (Q (.blk 1 (R [a 13 5,a 14 0,c 15 97 [v 14],n 16 (conv 16 .u8 (v 15)),o 17 1 [v 16],n 18 (app 18 (v 13) (v 17) 1 1),e 5 18])) (R [a 11 6,g 12 .add (v 11) (k 1),e 6 12])))))) (Q (R [a 19 5,e 4 19]) .ret)))
abbrev aew:Cmd:=Q (R [n 1 (box 1 (v 0)),z 2 [.int .i64 0,.int .i64 0,.int .i64 0,.sl 1 [],.sl 2 [],.sl 2 []]]) (Q (R [b 4 1 6,z 3 [.int .i64 0,.int .i64 0,.int .i64 0,.sl 1 [],.sl 2 [],.sl 2 []],s 3 4 6]) (Q (R [o 5 1 [],f 6 1 3,b' 7 6 1,n 8 (app 8 (v 5) (v 7) 1 1),f 9 3 3,s 9 8 1]) (Q (R [o 10 2 [],f 11 1 4,b' 12 11 1,n 13 (app 13 (v 10) (v 12) 2 24),f 14 3 4,s 14 13 1]) (Q (R [o 15 2 [],f 16 1 5,b' 17 16 1,n 18 (app 18 (v 15) (v 17) 2 32),f 19 3 5,s 19 18 1]) (Q (R [b 20 3 6,s 2 20 6]) .ret)))))
abbrev zH:Cmd:=Q (R [n 2 (box 2 (v 0)),n 3 (box 3 (v 1)),z 4 [.sl 6 [],.int .i64 0],e' 5 (k 0)]) (Q (Q (R [f 6 3 0,b' 7 6 1]) (.blk 0 (Q (R [g 9 .eql (v 7) (k 1),e 8 9]) (F (v 8) (Q (R [b 10 2 2,f 11 3 2,b' 12 11 1,c 13 146 [v 10,v 12],x 14 13 0,x 15 13 1,s 4 14 2,e 5 15]) .ret) (Q (R [g 17 .eql (v 7) (k 2),e 16 17]) (F (v 16) (Q (R [b 18 2 2,f 19 3 2,b' 20 19 1,c 21 147 [v 18,v 20],x 22 21 0,x 23 21 1,s 4 22 2,e 5 23]) .ret) (Q (R [g 25 .eql (v 7) (k 3),e 24 25]) (F (v 24) (Q (R [b 26 2 2,f 27 3 2,b' 28 27 1,f 29 3 4,b' 30 29 1,f 31 3 5,b' 32 31 1,c 33 148 [v 26,v 28,v 30,v 32],x 34 33 0,x 35 33 1,s 4 34 2,e 5 35]) .ret) (Q (R [g 37 .eql (v 7) (k 4),e 36 37]) (F (v 36) (Q (R [b 38 2 2,f 39 3 2,b' 40 39 1,f 41 3 4,b' 42 41 1,c 43 149 [v 38,v 40,v 42],x 44 43 0,x 45 43 1,s 4 44 2,e 5 45]) .ret) (Q (R [g 47 .eql (v 7) (k 5),e 46 47]) (F (v 46) (Q (R [b 48 2 2,f 49 3 2,b' 50 49 1,c 51 150 [v 48,v 50],x 52 51 0,x 53 51 1,s 4 52 2,e 5 53]) .ret) (Q (R [g 55 .eql (v 7) (k 6),e 54 55]) (F (v 54) (Q (R [b 56 2 2,f 57 3 2,b' 58 57 1,c 59 151 [v 56,v 58],x 60 59 0,x 61 59 1,s 4 60 2,e 5 61]) .ret) (Q (R [g 63 .eql (v 7) (k 7),e 62 63]) (F (v 62) (Q (R [b 64 2 2,f 65 3 2,b' 66 65 1,f 67 3 3,b' 68 67 1,c 69 152 [v 64,v 66,v 68],x 70 69 0,x 71 69 1,s 4 70 2,e 5 71]) .ret) (Q (R [g 73 .eql (v 7) (k 8),e 72 73]) (F (v 72) (Q (R [b 74 2 2,f 75 3 2,b' 76 75 1,f 77 3 3,b' 78 77 1,c 79 153 [v 74,v 76,v 78],x 80 79 0,x 81 79 1,s 4 80 2,e 5 81]) .ret) .skip)))))))))))))))))) (Q (R [b 82 2 2,f 83 3 2,b' 84 83 1,f 85 3 3,b' 86 85 1,f 87 3 5,b' 88 87 1,n 89 (b2s 89 (v 88)),c 90 154 [v 82,v 84,v 86,v 89],x 91 90 0,x 92 90 1,s 4 91 2,e 5 92]) .ret))
abbrev abK:Cmd:=Q (R [n 1 (box 1 (v 0)),e' 2 k0]) (Q (Q (R [f 3 1 0,b' 4 3 1,c 5 57 [v 4,k 1,k 1000],n 6 (un 6 .not (v 5)),a 7 6,h 7 false 8 (fld 8 (v 1) 2),h 7 false 9 (ld 9 (v 8) 1 false),hc 7 false 10 57 [v 9,k 0,k 1000],h 7 false 11 (un 11 .not (v 10)),p 12 7 k1 (v 11),a 13 12,h 13 false 14 (fld 14 (v 1) 2),h 13 false 15 (ld 15 (v 14) 1 false),h 13 false 16 (bin 16 .eql (v 15) (k 0)),h 13 false 17 (fld 17 (v 1) 0),h 13 false 18 (ld 18 (v 17) 1 false),h 13 false 19 (bin 19 .eql (v 18) (k 1)),h 13 false 20 (beq 20 true (v 16) (v 19)),p 21 13 k1 (v 20),a 22 21,h 22 false 23 (fld 23 (v 1) 3),h 22 false 24 (ld 24 (v 23) 1 false),h 22 false 25 (len 25 (v 24)),h 22 false 26 (bin 26 .gtr (v 25) (k 100)),p 27 22 k1 (v 26),a 28 27,h 28 false 29 (fld 29 (v 1) 4),h 28 false 30 (ld 30 (v 29) 1 false),hc 28 false 31 155 [v 30],h 28 false 32 (un 32 .not (v 31)),p 33 28 k1 (v 32),a 34 33,h 34 false 35 (fld 35 (v 1) 5),h 34 false 36 (ld 36 (v 35) 1 false),hc 34 false 37 156 [v 36],h 34 false 38 (un 38 .not (v 37)),p 39 34 k1 (v 38)]) (F (v 39) (Q (R [e' 2 k0]) .ret) .skip)) (Q (Q (R [f 40 1 1,b' 41 40 1]) (.blk 0 (Q (R [g 43 .eql (v 41) (k 1),e 42 43]) (F (v 42) (Q (R [f 44 1 4,b' 45 44 1,l 46 45,g 47 .eql (v 46) (k 0),e 2 47]) .ret) (Q (R [g 49 .eql (v 41) (k 2),e 48 49]) (F (v 48) (Q (R [f 50 1 3,b' 51 50 1,l 52 51,g 53 .eql (v 52) (k 0),a 54 53,h 54 true 55 (fld 55 (v 1) 2),h 54 true 56 (ld 56 (v 55) 1 false),h 54 true 57 (bin 57 .leq (v 56) (k 1)),p 58 54 (v 57) k0,e 2 58]) .ret) .skip)))))) (Q (R [e' 2 k0]) .ret)))
abbrev aex:Cmd:=Q (R [n 2 (box 2 (v 0)),e' 4 (.c (.own 1 []))]) (Q (R [a 10 1,e 5 10]) (Q (Q (R [e' 6 (k 0)]) (.blk 0 (.loop (Q (Q (R [a 11 6,a 12 1,l 13 12,g 14 .lss (v 11) (v 13)]) (F (v 14) .skip (.exit 0))) (Q (.blk 1 (Q (D [0,0,0,6,14,31,63,127,255,0,767,2047] [b 18 2 2,a 19 1,a 20 6,i 21 19 20 1,b' 22 21 1,c 23 157 [v 18,v 22],a 17 23,x 24 17 0,x 25 17 1,z 7 [.int .i64 0,.int .i64 0,.int .i64 0,.sl 1 [],.sl 2 [],.sl 2 []],s 7 24 6,e 8 25]) (Q (R [e' 9 (k 0)]) (.blk 2 (.loop (Q (Q (R [a 26 9,f 27 7 4,b' 28 27 1,l 29 28,g 30 .lss (v 26) (v 29),a 31 30,ha 31 true 32 8,p 33 31 (v 32) k0,a 34 33,h 34 true 35 (fld 35 (v 7) 1),h 34 true 36 (ld 36 (v 35) 1 false),h 34 true 37 (bin 37 .eql (v 36) (k 2)),p 38 34 (v 37) k0]) (F (v 38) .skip (.exit 2))) (Q (.blk 3 (Q (D [0,0,2,0,14,30,62,127,255] [b 41 2 2,f 42 7 4,b' 43 42 1,a 44 9,i 45 43 44 2,f 46 45 1,b' 47 46 1,c 48 118 [v 41,v 47],g 49 .geq (v 48) (k 0)]) (F (v 49) (R [a 50 5,f 51 7 4,b' 52 51 1,a 53 9,i 54 52 53 2,f 55 54 1,b' 56 55 1,c 57 158 [v 50,v 56],e 5 57]) .skip))) (R [a 39 9,g 40 .add (v 39) (k 1),e 9 40])))))))) (R [a 15 6,g 16 .add (v 15) (k 1),e 6 16])))))) (Q (R [a 58 5,e 4 58]) .ret)))
abbrev abL:Cmd:=Q (R [n 4 (box 4 (v 0))]) (Q (R [b 13 4 2,a 14 1,c 15 157 [v 13,v 14],a 12 15,x 16 12 0,x 17 12 1,z 8 [.int .i64 0,.int .i64 0,.int .i64 0,.sl 1 [],.sl 2 [],.sl 2 []],s 8 16 6,e 9 17]) (Q (R [e' 10 (k 0)]) (.blk 0 (.loop (Q (Q (R [a 18 10,f 19 8 4,b' 20 19 1,l 21 20,g 22 .lss (v 18) (v 21)]) (F (v 22) .skip (.exit 0))) (Q (.blk 1 (Q (R [a 25 2,g 26 .add (v 25) (.c (.str [47])),f 27 8 4,b' 28 27 1,a 29 10,i 30 28 29 2,f 31 30 0,b' 32 31 1,g 33 .add (v 26) (v 32),e 11 33]) (Q (R [a 34 3,a 35 3,n 36 (nck 36 (v 35)),b' 37 36 1,a 38 11,o 39 1 [v 38],n 40 (app 40 (v 37) (v 39) 1 16),n 41 (nck 41 (v 34)),s 41 40 1]) (D [0,0,2,0,14,30,62,0,0,511] [b 42 4 2,f 43 8 4,b' 44 43 1,a 45 10,i 46 44 45 2,f 47 46 1,b' 48 47 1,a 49 11,a 50 3,c 51 136 [v 42,v 48,v 49,v 50]])))) (R [a 23 10,g 24 .add (v 23) (k 1),e 10 24])))))))
abbrev vJ:Cmd:=Q (R [e' 2 (.c (.own 1 []))]) (Q (R [o 7 1 [],a 8 0,n 9 (app 9 (v 7) (v 8) 1 16),e 3 9]) (Q (Q (R [e' 4 (k 1)]) (.blk 0 (.loop (Q (Q (R [a 10 4,a 11 3,l 12 11,g 13 .lss (v 10) (v 12)]) (F (v 13) .skip (.exit 0))) (Q (.blk 1 (Q (R [a 16 3,a 17 4,i 18 16 17 1,b' 19 18 1,e 5 19]) (Q (R [a 20 4,e 6 20]) (Q (.blk 2 (.loop (Q (Q (R [a 21 6,g 22 .gtr (v 21) (k 0),a 23 22,ha 23 true 24 3,ha 23 true 25 6,h 23 true 26 (bin 26 .sub (v 25) (k 1)),h 23 true 27 (idx 27 (v 24) (v 26) 1),h 23 true 28 (ld 28 (v 27) 1 false),ha 23 true 29 5,h 23 true 30 (bin 30 .gtr (v 28) (v 29)),p 31 23 (v 30) k0]) (F (v 31) .skip (.exit 2))) (.blk 3 (Q (R [a 32 3,a 33 6,a 34 3,a 35 6,g 36 .sub (v 35) (k 1),i 37 34 36 1,b' 38 37 1,i 39 32 33 1,s 39 38 1]) (R [a 40 6,g 41 .sub (v 40) (k 1),e 6 41])))))) (R [a 42 3,a 43 6,a 44 5,i 45 42 43 1,s 45 44 1]))))) (R [a 14 4,g 15 .add (v 14) (k 1),e 4 15])))))) (Q (R [a 46 3,e 2 46]) .ret)))
abbrev abM:Cmd:=Q (R [n 2 (box 2 (v 0)),z 4 [.sl 6 [],.int .i64 0],e' 5 (k 0)]) (Q (R [b 6 2 2,a 7 1,c 8 170 [v 6,v 7,k 2],x 9 8 0,x 10 8 1,s 4 9 2,e 5 10]) .ret)
abbrev zJ:Cmd:=Q (R [n 2 (box 2 (v 0)),z 4 [.sl 6 [],.int .i64 0],e' 5 (k 0)]) (Q (R [b 6 2 2,a 7 1,c 8 170 [v 6,v 7,k 1],x 9 8 0,x 10 8 1,s 4 9 2,e 5 10]) .ret)
abbrev abN:Cmd:=Q (R [n 4 (box 4 (v 0)),z 8 [.sl 6 [],.int .i64 0],e' 9 (k 0)]) (Q (R [a 16 1,c 17 171 [v 16],a 15 17,x 18 15 0,x 19 15 1,e 10 18,e 11 19]) (Q (Q (R [b 20 4 2,c 21 87 [v 20],n 22 (un 22 .not (v 21)),a 23 22,ha 23 false 24 11,h 23 false 25 (un 25 .not (v 24)),p 26 23 k1 (v 25),a 27 26,ha 27 false 28 2,hc 27 false 29 57 [v 28,k 0,k 100],h 27 false 30 (un 30 .not (v 29)),p 31 27 k1 (v 30)]) (F (v 31) (Q (R [b 32 4 2,c 33 104 [v 32],s 8 33 2,e' 9 (k 1)]) .ret) .skip)) (Q (R [b 35 4 2,a 36 1,c 37 172 [v 35,v 36],a 34 37,x 38 34 0,x 39 34 1,z 12 [.int .i64 0,.int .i64 0,.int .i64 0,.sl 1 [],.sl 2 [],.sl 2 []],s 12 38 6,e 13 39]) (Q (Q (R [a 40 13,g 41 .eql (v 40) (k 0),a 42 41,ha 42 true 43 3,h 42 true 44 (len 44 (v 43)),ha 42 true 45 2,h 42 true 46 (bin 46 .sub (k 100) (v 45)),h 42 true 47 (bin 47 .gtr (v 44) (v 46)),p 48 42 (v 47) k0]) (F (v 48) (R [e' 13 (k 5)]) .skip)) (Q (Q (R [a 49 13,g 50 .neq (v 49) (k 0)]) (F (v 50) (Q (R [b 51 4 2,c 52 104 [v 51],a 53 13,s 8 52 2,e 9 53]) .ret) .skip)) (Q (.blk 0 (.loop (Q (Q (R [f 54 12 3,b' 55 54 1,l 56 55,a 57 2,a 58 3,l 59 58,g 60 .add (v 57) (v 59),g 61 .lss (v 56) (v 60)]) (F (v 61) .skip (.exit 0))) (.blk 1 (R [f 62 12 3,b' 63 62 1,o 64 1 [.c (.int .u8 0)],n 65 (app 65 (v 63) (v 64) 1 1),f 66 12 3,s 66 65 1]))))) (Q (Q (R [e' 14 (k 0)]) (.blk 2 (.loop (Q (Q (R [a 67 14,a 68 3,l 69 68,g 70 .lss (v 67) (v 69)]) (F (v 70) .skip (.exit 2))) (Q (.blk 3 (D [0,1,0,0,12,0,0,96,224,511,1023] [f 73 12 3,b' 74 73 1,a 75 2,a 76 14,g 77 .add (v 75) (v 76),a 78 3,a 79 14,i 80 78 79 1,b' 81 80 1,i 82 74 77 1,s 82 81 1])) (R [a 71 14,g 72 .add (v 71) (k 1),e 14 72])))))) (Q (R [b 83 4 2,b 84 12 6,c 85 173 [v 83,v 84],s 8 85 2,e' 9 (k 0)]) .ret))))))))
abbrev zK:Cmd:=Q (R [n 3 (box 3 (v 0)),z 6 [.sl 6 [],.int .i64 0],e' 7 (k 0)]) (Q (R [a 13 1,c 14 171 [v 13],a 12 14,x 15 12 0,x 16 12 1,e 8 15,e 9 16]) (Q (Q (R [b 17 3 2,c 18 87 [v 17],n 19 (un 19 .not (v 18)),a 20 19,ha 20 false 21 9,h 20 false 22 (un 22 .not (v 21)),p 23 20 k1 (v 22),a 24 23,ha 24 false 25 2,hc 24 false 26 57 [v 25,k 0,k 100],h 24 false 27 (un 27 .not (v 26)),p 28 24 k1 (v 27)]) (F (v 28) (Q (R [b 29 3 2,c 30 104 [v 29],s 6 30 2,e' 7 (k 1)]) .ret) .skip)) (Q (R [b 32 3 2,a 33 1,c 34 172 [v 32,v 33],a 31 34,x 35 31 0,x 36 31 1,z 10 [.int .i64 0,.int .i64 0,.int .i64 0,.sl 1 [],.sl 2 [],.sl 2 []],s 10 35 6,e 11 36]) (Q (Q (R [a 37 11,g 38 .neq (v 37) (k 0)]) (F (v 38) (Q (R [b 39 3 2,c 40 104 [v 39],a 41 11,s 6 40 2,e 7 41]) .ret) .skip)) (Q (.blk 0 (.loop (Q (Q (R [f 42 10 3,b' 43 42 1,l 44 43,a 45 2,g 46 .lss (v 44) (v 45)]) (F (v 46) .skip (.exit 0))) (.blk 1 (R [f 47 10 3,b' 48 47 1,o 49 1 [.c (.int .u8 0)],n 50 (app 50 (v 48) (v 49) 1 1),f 51 10 3,s 51 50 1]))))) (Q (R [f 52 10 3,b' 53 52 1,a 54 2,n 55 (slc 55 (v 53) none (some (v 54)) 1),f 56 10 3,s 56 55 1]) (Q (R [b 57 3 2,b 58 10 6,c 59 173 [v 57,v 58],s 6 59 2,e' 7 (k 0)]) .ret)))))))
abbrev aey:Cmd:=Q (R [n 2 (box 2 (v 0)),z 4 [.sl 6 [],.int .i64 0],e' 5 (k 0)]) (Q (R [a 13 1,c 14 174 [v 13],a 12 14,x 15 12 0,x 16 12 1,x 17 12 2,e 6 15,e 7 16,e 8 17]) (Q (Q (R [b 18 2 2,c 19 87 [v 18],n 20 (un 20 .not (v 19)),a 21 20,ha 21 false 22 8,h 21 false 23 (un 23 .not (v 22)),p 24 21 k1 (v 23)]) (F (v 24) (Q (R [b 25 2 2,c 26 104 [v 25],s 4 26 2,e' 5 (k 1)]) .ret) .skip)) (Q (R [b 28 2 2,a 29 1,c 30 172 [v 28,v 29],a 27 30,x 31 27 0,x 32 27 1,z 9 [.int .i64 0,.int .i64 0,.int .i64 0,.sl 1 [],.sl 2 [],.sl 2 []],s 9 31 6,e 10 32]) (Q (Q (R [a 33 10,g 34 .neq (v 33) (k 0)]) (F (v 34) (Q (R [b 35 2 2,c 36 104 [v 35],a 37 10,s 4 36 2,e 5 37]) .ret) .skip)) (Q (R [b 38 2 2,a 39 1,c 40 175 [v 38,v 39],z 11 [.sl 6 [],.int .i64 0],s 11 40 2]) (Q (Q (R [f 41 9 2,b' 42 41 1,g 43 .eql (v 42) (k 1)]) (F (v 43) (Q (R [b 44 11 2,f 45 9 0,b' 46 45 1,c 47 176 [v 44,v 46],s 4 47 2,e' 5 (k 0)]) .ret) .skip)) (Q (R [f 48 9 2,b' 49 48 1,g 50 .sub (v 49) (k 1),f 51 9 2,s 51 50 1]) (Q (R [b 52 11 2,b 53 9 6,c 54 173 [v 52,v 53],s 4 54 2,e' 5 (k 0)]) .ret))))))))
abbrev xA:Cmd:=Q (R [n 2 (box 2 (v 0)),z 4 [.sl 6 [],.int .i64 0],e' 5 (k 0)]) (Q (R [a 12 1,c 13 174 [v 12],a 11 13,x 14 11 0,x 15 11 1,x 16 11 2,e 6 14,e 7 15,e 8 16]) (Q (Q (R [b 17 2 2,c 18 87 [v 17],n 19 (un 19 .not (v 18)),a 20 19,ha 20 false 21 8,h 20 false 22 (un 22 .not (v 21)),p 23 20 k1 (v 22)]) (F (v 23) (Q (R [b 24 2 2,c 25 104 [v 24],s 4 25 2,e' 5 (k 1)]) .ret) .skip)) (Q (R [b 27 2 2,a 28 1,c 29 177 [v 27,v 28],a 26 29,x 30 26 0,x 31 26 1,z 9 [.int .i64 0,.int .i64 0,.int .i64 0,.sl 1 [],.sl 2 [],.sl 2 []],s 9 30 6,e 10 31]) (Q (.blk 0 (Q (R [a 33 10,g 34 .neq (v 33) (k 0),e 32 34]) (F (v 32) (Q (R [b 35 2 2,c 36 104 [v 35],a 37 10,s 4 36 2,e 5 37]) .ret) (Q (R [f 39 9 1,b' 40 39 1,g 41 .neq (v 40) (k 2),e 38 41]) (F (v 38) (Q (R [b 42 2 2,c 43 104 [v 42],s 4 43 2,e' 5 (k 3)]) .ret) (Q (R [f 45 9 4,b' 46 45 1,l 47 46,g 48 .gtr (v 47) (k 0),e 44 48]) (F (v 44) (Q (R [b 49 2 2,c 50 104 [v 49],s 4 50 2,e' 5 (k 6)]) .ret) .skip))))))) (Q (D [0,0,3,0,8,31,63,127] [b 51 2 2,a 52 1,c 53 175 [v 51,v 52],f 54 9 0,b' 55 54 1,c 56 176 [v 53,v 55],s 4 56 2,e' 5 (k 0)]) .ret)))))
abbrev zM:Cmd:=Q (R [n 3 (box 3 (v 0)),z 6 [.sl 6 [],.int .i64 0],e' 7 (k 0)]) (Q (R [a 19 1,c 20 171 [v 19],a 18 20,x 21 18 0,x 22 18 1,e 8 21,e 9 22]) (Q (R [a 24 2,c 25 174 [v 24],a 23 25,x 26 23 0,x 27 23 1,x 28 23 2,e 10 26,e 11 27,e 12 28]) (Q (Q (R [b 29 3 2,c 30 87 [v 29],n 31 (un 31 .not (v 30)),a 32 31,ha 32 false 33 9,h 32 false 34 (un 34 .not (v 33)),p 35 32 k1 (v 34),a 36 35,ha 36 false 37 12,h 36 false 38 (un 38 .not (v 37)),p 39 36 k1 (v 38)]) (F (v 39) (Q (R [b 40 3 2,c 41 104 [v 40],s 6 41 2,e' 7 (k 1)]) .ret) .skip)) (Q (R [b 43 3 2,a 44 1,c 45 172 [v 43,v 44],a 42 45,x 46 42 0,x 47 42 1,z 13 [.int .i64 0,.int .i64 0,.int .i64 0,.sl 1 [],.sl 2 [],.sl 2 []],s 13 46 6,e 14 47]) (Q (Q (R [a 48 14,g 49 .neq (v 48) (k 0)]) (F (v 49) (Q (R [b 50 3 2,c 51 104 [v 50],a 52 14,s 6 51 2,e 7 52]) .ret) .skip)) (Q (R [b 54 3 2,a 55 2,c 56 178 [v 54,v 55,k 0],a 53 56,x 57 53 0,x 58 53 1,x 59 53 2,z 15 [.int .i64 0,.int .i64 0,.int .i64 0,.sl 1 [],.sl 2 [],.sl 2 []],s 15 57 6,e 16 58,e 17 59]) (Q (Q (R [a 60 17,g 61 .neq (v 60) (k 0)]) (F (v 61) (Q (R [b 62 3 2,c 63 104 [v 62],a 64 17,s 6 63 2,e 7 64]) .ret) .skip)) (Q (R [f 65 13 2,b' 66 65 1,g 67 .add (v 66) (k 1),f 68 13 2,s 68 67 1]) (Q (R [f 69 15 4,b' 70 69 1,a 71 16,f 72 13 0,b' 73 72 1,n 74 (bld 74 [.str [],.int .i64 0] [(0,1,v 71),(1,1,v 73)]),c 75 179 [v 70,v 74],f 76 15 4,s 76 75 1]) (Q (D [0,0,3,0,15,31,63] [b 77 3 2,b 78 13 6,c 79 173 [v 77,v 78],b 80 15 6,c 81 173 [v 79,v 80],s 6 81 2,e' 7 (k 0)]) .ret))))))))))
abbrev aez:Cmd:=Q (R [n 3 (box 3 (v 0)),z 6 [.sl 6 [],.int .i64 0],e' 7 (k 0)]) (Q (R [a 28 1,c 29 174 [v 28],a 27 29,x 30 27 0,x 31 27 1,x 32 27 2,e 8 30,e 9 31,e 10 32]) (Q (R [a 34 2,c 35 174 [v 34],a 33 35,x 36 33 0,x 37 33 1,x 38 33 2,e 11 36,e 12 37,e 13 38]) (Q (Q (R [b 39 3 2,c 40 87 [v 39],n 41 (un 41 .not (v 40)),a 42 41,ha 42 false 43 10,h 42 false 44 (un 44 .not (v 43)),p 45 42 k1 (v 44),a 46 45,ha 46 false 47 13,h 46 false 48 (un 48 .not (v 47)),p 49 46 k1 (v 48)]) (F (v 49) (Q (R [b 50 3 2,c 51 104 [v 50],s 6 51 2,e' 7 (k 1)]) .ret) .skip)) (Q (R [b 53 3 2,a 54 1,c 55 180 [v 53,v 54],a 52 55,x 56 52 0,x 57 52 1,e 14 56,e 15 57]) (Q (Q (R [a 58 15,g 59 .neq (v 58) (k 0)]) (F (v 59) (Q (R [b 60 3 2,c 61 104 [v 60],a 62 15,s 6 61 2,e 7 62]) .ret) .skip)) (Q (Q (R [a 63 1,a 64 2,c 65 181 [v 63,v 64]]) (F (v 65) (Q (R [b 66 3 2,c 67 104 [v 66],s 6 67 2,e' 7 (k 6)]) .ret) .skip)) (Q (R [b 69 3 2,a 70 8,c 71 180 [v 69,v 70],a 68 71,x 72 68 0,x 73 68 1,e 16 72,e 17 73]) (Q (R [b 75 3 2,a 76 2,a 77 16,c 78 178 [v 75,v 76,v 77],a 74 78,x 79 74 0,x 80 74 1,x 81 74 2,z 18 [.int .i64 0,.int .i64 0,.int .i64 0,.sl 1 [],.sl 2 [],.sl 2 []],s 18 79 6,e 19 80,e 20 81]) (Q (Q (R [a 82 20,g 83 .neq (v 82) (k 0)]) (F (v 83) (Q (R [b 84 3 2,c 85 104 [v 84],a 86 20,s 6 85 2,e 7 86]) .ret) .skip)) (Q (R [b 87 3 2,a 88 1,c 89 175 [v 87,v 88],z 21 [.sl 6 [],.int .i64 0],s 21 89 2]) (Q (R [a 91 2,c 92 174 [v 91],a 90 92,x 93 90 0,x 94 90 1,x 95 90 2,e 22 93,e 23 94,e 24 95]) (Q (R [b 97 21 2,a 98 22,c 99 177 [v 97,v 98],a 96 99,x 100 96 0,x 101 96 1,z 25 [.int .i64 0,.int .i64 0,.int .i64 0,.sl 1 [],.sl 2 [],.sl 2 []],s 25 100 6,e 26 101]) (Q (R [f 102 25 4,b' 103 102 1,a 104 19,a 105 14,n 106 (bld 106 [.str [],.int .i64 0] [(0,1,v 104),(1,1,v 105)]),c 107 179 [v 103,v 106],f 108 25 4,s 108 107 1]) (Q (R [b 109 21 2,b 110 25 6,c 111 173 [v 109,v 110],s 6 111 2,e' 7 (k 0)]) .ret))))))))))))))
abbrev abO:Cmd:=Q (R [n 4 (box 4 (v 0)),z 8 [.sl 6 [],.int .i64 0],e' 9 (k 0)]) (Q (R [a 17 1,c 18 171 [v 17],a 16 18,x 19 16 0,x 20 16 1,e 10 19,e 11 20]) (Q (Q (R [b 21 4 2,c 22 87 [v 21],n 23 (un 23 .not (v 22)),a 24 23,ha 24 false 25 11,h 24 false 26 (un 26 .not (v 25)),p 27 24 k1 (v 26),a 28 27,ha 28 false 29 2,hc 28 false 30 77 [v 29],h 28 false 31 (un 31 .not (v 30)),p 32 28 k1 (v 31),a 33 32,ha 33 false 34 3,h 33 false 35 (lens 35 (v 34)),h 33 false 36 (bin 36 .gtr (v 35) (k 16)),p 37 33 k1 (v 36)]) (F (v 37) (Q (R [b 38 4 2,c 39 104 [v 38],s 8 39 2,e' 9 (k 1)]) .ret) .skip)) (Q (R [b 41 4 2,a 42 1,c 43 177 [v 41,v 42],a 40 43,x 44 40 0,x 45 40 1,z 12 [.int .i64 0,.int .i64 0,.int .i64 0,.sl 1 [],.sl 2 [],.sl 2 []],s 12 44 6,e 13 45]) (Q (Q (R [a 46 13,g 47 .neq (v 46) (k 0)]) (F (v 47) (Q (R [b 48 4 2,c 49 104 [v 48],a 50 13,s 8 49 2,e 9 50]) .ret) .skip)) (Q (R [o 51 2 [],e 14 51]) (Q (Q (R [e' 15 (k 0)]) (.blk 0 (.loop (Q (Q (R [a 52 15,f 53 12 5,b' 54 53 1,l 55 54,g 56 .lss (v 52) (v 55)]) (F (v 56) .skip (.exit 0))) (Q (.blk 1 (Q (R [f 59 12 5,b' 60 59 1,a 61 15,i 62 60 61 2,f 63 62 0,b' 64 63 1,a 65 2,g 66 .neq (v 64) (v 65)]) (F (v 66) (R [a 67 14,f 68 12 5,b' 69 68 1,a 70 15,i 71 69 70 2,b 72 71 2,o 73 2 [v 72],n 74 (app 74 (v 67) (v 73) 2 32),e 14 74]) .skip))) (R [a 57 15,g 58 .add (v 57) (k 1),e 15 58])))))) (Q (Q (R [a 75 3,g 76 .eql (v 75) (.c (.str []))]) (F (v 76) (Q (R [a 77 14,f 78 12 5,s 78 77 1]) (Q (R [b 79 4 2,b 80 12 6,c 81 173 [v 79,v 80],s 8 81 2,e' 9 (k 0)]) .ret)) .skip)) (Q (Q (R [a 82 14,l 83 82,g 84 .geq (v 83) (k 4)]) (F (v 84) (Q (R [b 85 4 2,c 86 104 [v 85],s 8 86 2,e' 9 (k 5)]) .ret) .skip)) (Q (R [a 87 14,a 88 2,a 89 3,n 90 (bld 90 [.str [],.str []] [(0,1,v 88),(1,1,v 89)]),c 91 182 [v 87,v 90],f 92 12 5,s 92 91 1]) (Q (R [b 93 4 2,b 94 12 6,c 95 173 [v 93,v 94],s 8 95 2,e' 9 (k 0)]) .ret))))))))))
abbrev aeA:Cmd:=Q (R [e' 2 k0]) (Q (Q (R [e' 3 (k 0)]) (.blk 0 (.loop (Q (Q (R [a 4 3,a 5 0,l 6 5,g 7 .lss (v 4) (v 6)]) (F (v 7) .skip (.exit 0))) (Q (.blk 1 (Q (D [0,0,3,7,15,31,63,127,255,255,1023,2047,4095,8191,16383,32767,65535,131071,262143,524287,1048575,1048575,3145727,8388607,16777215,33554431,1048575,1048575,202375167,470810623,1007681535,2147483647,4294967295,8589934591] [a 10 0,a 11 3,i 12 10 11 2,f 13 12 0,b' 14 13 1,c 15 77 [v 14],n 16 (un 16 .not (v 15)),a 17 16,ha 17 false 18 0,ha 17 false 19 3,h 17 false 20 (idx 20 (v 18) (v 19) 2),h 17 false 21 (fld 21 (v 20) 1),h 17 false 22 (ld 22 (v 21) 1 false),hc 17 false 23 57 [v 22,k 2,k 1000],h 17 false 24 (un 24 .not (v 23)),p 25 17 k1 (v 24),a 26 25,ha 26 false 27 3,h 26 false 28 (bin 28 .gtr (v 27) (k 0)),ha 26 false 29 28,ha 29 true 30 0,ha 29 true 31 3,h 29 true 32 (bin 32 .sub (v 31) (k 1)),h 29 true 33 (idx 33 (v 30) (v 32) 2),h 29 true 34 (fld 34 (v 33) 0),h 29 true 35 (ld 35 (v 34) 1 false),ha 29 true 36 0,ha 29 true 37 3,h 29 true 38 (idx 38 (v 36) (v 37) 2),h 29 true 39 (fld 39 (v 38) 0),h 29 true 40 (ld 40 (v 39) 1 false),h 29 true 41 (bin 41 .geq (v 35) (v 40)),h 26 false 42 (pck 42 (v 29) (v 41) k0),p 43 26 k1 (v 42)]) (F (v 43) (Q (R [e' 2 k0]) .ret) .skip))) (R [a 8 3,g 9 .add (v 8) (k 1),e 3 9])))))) (Q (R [a 44 0,l 45 44,g 46 .leq (v 45) (k 10),e 2 46]) .ret))
abbrev abP:Cmd:=Q (R [e' 2 k0]) (Q (Q (R [e' 3 (k 0)]) (.blk 0 (.loop (Q (Q (R [a 4 3,a 5 0,l 6 5,g 7 .lss (v 4) (v 6)]) (F (v 7) .skip (.exit 0))) (Q (.blk 1 (Q (D [0,0,3,7,15,31,63,127,255,255,1023,2047,4095,8191,16383,32767,65535,131071,262143,524287,1048575,2097151,2097151,6291455,16777215,33554431,67108863,2097151,2097151,404750335,941621247,2015363071,4294967295,8589934591,17179869183] [a 10 0,a 11 3,i 12 10 11 2,f 13 12 0,b' 14 13 1,c 15 77 [v 14],n 16 (un 16 .not (v 15)),a 17 16,ha 17 false 18 0,ha 17 false 19 3,h 17 false 20 (idx 20 (v 18) (v 19) 2),h 17 false 21 (fld 21 (v 20) 1),h 17 false 22 (ld 22 (v 21) 1 false),h 17 false 23 (lens 23 (v 22)),hc 17 false 24 57 [v 23,k 1,k 16],h 17 false 25 (un 25 .not (v 24)),p 26 17 k1 (v 25),a 27 26,ha 27 false 28 3,h 27 false 29 (bin 29 .gtr (v 28) (k 0)),ha 27 false 30 29,ha 30 true 31 0,ha 30 true 32 3,h 30 true 33 (bin 33 .sub (v 32) (k 1)),h 30 true 34 (idx 34 (v 31) (v 33) 2),h 30 true 35 (fld 35 (v 34) 0),h 30 true 36 (ld 36 (v 35) 1 false),ha 30 true 37 0,ha 30 true 38 3,h 30 true 39 (idx 39 (v 37) (v 38) 2),h 30 true 40 (fld 40 (v 39) 0),h 30 true 41 (ld 41 (v 40) 1 false),h 30 true 42 (bin 42 .geq (v 36) (v 41)),h 27 false 43 (pck 43 (v 30) (v 42) k0),p 44 27 k1 (v 43)]) (F (v 44) (Q (R [e' 2 k0]) .ret) .skip))) (R [a 8 3,g 9 .add (v 8) (k 1),e 3 9])))))) (Q (R [a 45 0,l 46 45,g 47 .leq (v 46) (k 4),e 2 47]) .ret))
abbrev abQ:Cmd:=Q (R [n 2 (box 2 (v 0)),z 4 [.int .i64 0,.int .i64 0,.int .i64 0,.sl 1 [],.sl 2 [],.sl 2 []],e' 5 k0]) (Q (R [b 7 2 2,a 8 1,c 9 118 [v 7,v 8],e 6 9]) (Q (Q (R [a 10 6,g 11 .lss (v 10) (k 0)]) (F (v 11) (Q (R [n 12 (bld 12 [.int .i64 0,.int .i64 0,.int .i64 0,.sl 1 [],.sl 2 [],.sl 2 []] []),s 4 12 6,e' 5 k0]) .ret) .skip)) (Q (R [f 13 2 0,b' 14 13 1,a 15 6,i 16 14 15 6,b 17 16 6,c 18 125 [v 17],s 4 18 6,e' 5 k1]) .ret)))
abbrev ahh:Cmd:=Q (R [e' 4 (.c (.own 1 []))]) (Q (Q (R [a 7 0,a 8 1,c 9 183 [v 7,v 8]]) (F (v 9) (Q (R [a 10 0,e 4 10]) .ret) .skip)) (Q (R [o 11 1 [],a 12 0,n 13 (app 13 (v 11) (v 12) 1 8),a 14 1,o 15 1 [v 14],n 16 (app 16 (v 13) (v 15) 1 8),e 5 16]) (Q (R [a 17 5,l 18 17,g 19 .sub (v 18) (k 1),e 6 19]) (Q (.blk 0 (.loop (Q (Q (R [a 20 6,g 21 .gtr (v 20) (k 0),a 22 21,ha 22 true 23 5,ha 22 true 24 6,h 22 true 25 (bin 25 .sub (v 24) (k 1)),h 22 true 26 (idx 26 (v 23) (v 25) 1),h 22 true 27 (ld 27 (v 26) 1 false),ha 22 true 28 1,h 22 true 29 (bin 29 .gtr (v 27) (v 28)),p 30 22 (v 29) k0]) (F (v 30) .skip (.exit 0))) (.blk 1 (Q (R [a 31 5,a 32 6,a 33 5,a 34 6,g 35 .sub (v 34) (k 1),i 36 33 35 1,b' 37 36 1,i 38 31 32 1,s 38 37 1]) (R [a 39 6,g 40 .sub (v 39) (k 1),e 6 40])))))) (Q (R [a 41 5,a 42 6,a 43 1,i 44 41 42 1,s 44 43 1]) (Q (R [a 45 5,e 4 45]) .ret))))))
abbrev aeB:Cmd:=Q (R [n 3 (box 3 (v 0)),z 6 [.sl 6 [],.int .i64 0],e' 7 (k 0)]) (Q (Q (R [b 12 3 2,c 13 87 [v 12],n 14 (un 14 .not (v 13))]) (F (v 14) (Q (R [b 15 3 2,c 16 104 [v 15],s 6 16 2,e' 7 (k 1)]) .ret) .skip)) (Q (R [b 18 3 2,a 19 1,c 20 178 [v 18,v 19,k 0],a 17 20,x 21 17 0,x 22 17 1,x 23 17 2,z 8 [.int .i64 0,.int .i64 0,.int .i64 0,.sl 1 [],.sl 2 [],.sl 2 []],s 8 21 6,e 9 22,e 10 23]) (Q (Q (R [a 24 10,g 25 .eql (v 24) (k 0),a 26 25,h 26 true 27 (fld 27 (v 3) 0),h 26 true 28 (ld 28 (v 27) 1 false),h 26 true 29 (len 29 (v 28)),h 26 true 30 (bin 30 .geq (v 29) (k 30)),ha 26 true 31 30,h 31 false 32 (fld 32 (v 3) 1),h 31 false 33 (ld 33 (v 32) 1 false),h 31 false 34 (bin 34 .geq (v 33) (k 1000)),h 26 true 35 (pck 35 (v 31) k1 (v 34)),p 36 26 (v 35) k0]) (F (v 36) (R [e' 10 (k 5)]) .skip)) (Q (Q (R [a 37 10,g 38 .neq (v 37) (k 0)]) (F (v 38) (Q (R [b 39 3 2,c 40 104 [v 39],a 41 10,s 6 40 2,e 7 41]) .ret) .skip)) (Q (R [b 42 3 2,c 43 104 [v 42],z 11 [.sl 6 [],.int .i64 0],s 11 43 2]) (Q (R [f 44 8 4,b' 45 44 1,a 46 9,f 47 3 1,b' 48 47 1,n 49 (bld 49 [.str [],.int .i64 0] [(0,1,v 46),(1,1,v 48)]),c 50 179 [v 45,v 49],f 51 8 4,s 51 50 1]) (Q (D [0,0,3,0,8,0,56,127,255] [b 52 11 2,b 53 8 6,c 54 173 [v 52,v 53],f 55 3 1,b' 56 55 1,a 57 2,n 58 (bld 58 [.int .i64 0,.int .i64 0,.int .i64 0,.sl 1 [],.sl 2 [],.sl 2 []] [(0,1,v 56),(1,1,v 57),(2,1,k 1)]),c 59 173 [v 54,v 58],s 11 59 2]) (Q (R [f 60 3 1,b' 61 60 1,g 62 .add (v 61) (k 1),f 63 11 1,s 63 62 1]) (Q (R [b 64 11 2,s 6 64 2,e' 7 (k 0)]) .ret)))))))))
abbrev xB:Cmd:=Q (R [e' 2 (.c (.own 1 [])),e' 3 k0]) (Q (R [o 8 1 [],e 4 8]) (Q (Q (R [a 9 0,g 10 .eql (v 9) (.c (.str [47]))]) (F (v 10) (Q (R [a 11 4,e 2 11,e' 3 k1]) .ret) .skip)) (Q (R [e' 5 (k 0)]) (Q (Q (R [e' 6 (k 0)]) (.blk 0 (.loop (Q (Q (R [a 12 6,a 13 0,n 14 (lens 14 (v 13)),g 15 .leq (v 12) (v 14)]) (F (v 15) .skip (.exit 0))) (Q (.blk 1 (Q (Q (R [a 18 6,a 19 0,n 20 (lens 20 (v 19)),g 21 .lss (v 18) (v 20),a 22 21,ha 22 true 23 0,ha 22 true 24 6,h 22 true 25 (sidx 25 (v 23) (v 24)),h 22 true 26 (bin 26 .neq (v 25) (.c (.int .u8 47))),p 27 22 (v 26) k0]) (F (v 27) (.exit 1) .skip)) (Q (Q (R [a 28 6,g 29 .gtr (v 28) (k 0)]) (F (v 29) (Q (R [a 30 0,a 31 5,a 32 6,n 33 (sls 33 (v 30) (some (v 31)) (some (v 32))),e 7 33]) (Q (Q (R [a 34 7,c 35 77 [v 34],n 36 (un 36 .not (v 35)),a 37 36,ha 37 false 38 4,h 37 false 39 (len 39 (v 38)),h 37 false 40 (bin 40 .eql (v 39) (k 30)),p 41 37 k1 (v 40)]) (F (v 41) (Q (R [o 42 1 [],e 2 42,e' 3 k0]) .ret) .skip)) (R [a 43 4,a 44 7,o 45 1 [v 44],n 46 (app 46 (v 43) (v 45) 1 16),e 4 46]))) .skip)) (R [a 47 6,g 48 .add (v 47) (k 1),e 5 48])))) (R [a 16 6,g 17 .add (v 16) (k 1),e 6 17])))))) (Q (Q (R [a 49 0,n 50 (lens 50 (v 49)),g 51 .eql (v 50) (k 0),a 52 51,ha 52 false 53 0,h 52 false 54 (sidx 54 (v 53) (k 0)),h 52 false 55 (bin 55 .neq (v 54) (.c (.int .u8 47))),p 56 52 k1 (v 55)]) (F (v 56) (Q (R [o 57 1 [],e 2 57,e' 3 k0]) .ret) .skip)) (Q (R [a 58 4,e 2 58,e' 3 k1]) .ret))))))
abbrev aeC:Cmd:=Q (R [n 2 (box 2 (v 0)),z 4 [.int .i64 0,.int .i64 0,.int .i64 0,.sl 1 [],.sl 2 [],.sl 2 []],e' 5 (k 0)]) (Q (R [b 9 2 2,a 10 1,c 11 177 [v 9,v 10],a 8 11,x 12 8 0,x 13 8 1,z 6 [.int .i64 0,.int .i64 0,.int .i64 0,.sl 1 [],.sl 2 [],.sl 2 []],s 6 12 6,e 7 13]) (Q (Q (R [a 14 7,g 15 .eql (v 14) (k 0),a 16 15,h 16 true 17 (fld 17 (v 6) 1),h 16 true 18 (ld 18 (v 17) 1 false),h 16 true 19 (bin 19 .neq (v 18) (k 1)),p 20 16 (v 19) k0]) (F (v 20) (Q (R [n 21 (bld 21 [.int .i64 0,.int .i64 0,.int .i64 0,.sl 1 [],.sl 2 [],.sl 2 []] []),s 4 21 6,e' 5 (k 3)]) .ret) .skip)) (Q (R [b 22 6 6,a 23 7,s 4 22 6,e 5 23]) .ret)))
abbrev zO:Cmd:=Q (R [n 2 (box 2 (v 0)),n 3 (box 3 (v 1)),z 4 [.sl 6 [],.int .i64 0]]) (Q (R [b 8 2 2,c 9 104 [v 8],z 5 [.sl 6 [],.int .i64 0],s 5 9 2]) (Q (R [b 10 2 2,f 11 3 0,b' 12 11 1,c 13 118 [v 10,v 12],e 6 13]) (Q (Q (R [a 14 6,g 15 .geq (v 14) (k 0)]) (F (v 15) (Q (D [0,1,0,0,8,31,63] [f 16 5 0,b' 17 16 1,a 18 6,b 19 3 6,c 20 125 [v 19],i 21 17 18 6,s 21 20 6]) (Q (R [b 22 5 2,s 4 22 2]) .ret)) .skip)) (Q (R [e' 6 (k 0)]) (Q (.blk 0 (.loop (Q (Q (D [0,0,2,6,15,31,63,127,63,511,1023,2047,63,4159,16383,32767] [a 23 6,f 24 2 0,b' 25 24 1,l 26 25,g 27 .lss (v 23) (v 26),a 28 27,h 28 true 29 (fld 29 (v 2) 0),h 28 true 30 (ld 30 (v 29) 1 false),ha 28 true 31 6,h 28 true 32 (idx 32 (v 30) (v 31) 6),h 28 true 33 (fld 33 (v 32) 0),h 28 true 34 (ld 34 (v 33) 1 false),h 28 true 35 (fld 35 (v 3) 0),h 28 true 36 (ld 36 (v 35) 1 false),h 28 true 37 (bin 37 .lss (v 34) (v 36)),p 38 28 (v 37) k0]) (F (v 38) .skip (.exit 0))) (.blk 1 (R [a 39 6,g 40 .add (v 39) (k 1),e 6 40]))))) (Q (D [0,0,2,0,14,31,0,127,255,511,1023] [o 41 6 [],f 42 5 0,b' 43 42 1,a 44 6,n 45 (slc 45 (v 43) none (some (v 44)) 6),n 46 (app 46 (v 41) (v 45) 6 96),b 47 3 6,c 48 125 [v 47],o 49 6 [v 48],n 50 (app 50 (v 46) (v 49) 6 96),e 7 50]) (Q (R [a 51 7,f 52 5 0,b' 53 52 1,a 54 6,n 55 (slc 55 (v 53) (some (v 54)) none 6),n 56 (app 56 (v 51) (v 55) 6 96),f 57 5 0,s 57 56 1]) (Q (R [b 58 5 2,s 4 58 2]) .ret))))))))
abbrev zP:Cmd:=Q (R [e' 2 (.c (.str [])),e' 3 (.c (.str [])),e' 4 k0]) (Q (R [a 9 0,c 10 171 [v 9],a 8 10,x 11 8 0,x 12 8 1,e 5 11,e 6 12]) (Q (Q (R [a 13 6,n 14 (un 14 .not (v 13)),a 15 14,ha 15 false 16 5,h 15 false 17 (len 17 (v 16)),h 15 false 18 (bin 18 .eql (v 17) (k 0)),p 19 15 k1 (v 18)]) (F (v 19) (Q (R [e' 2 (.c (.str [])),e' 3 (.c (.str [])),e' 4 k0]) .ret) .skip)) (Q (R [a 20 5,l 21 20,g 22 .sub (v 21) (k 1),e 7 22]) (Q (D [0,0,3,7,0,0,48,112,15,511,1023] [a 23 5,a 24 7,n 25 (slc 25 (v 23) none (some (v 24)) 1),c 26 190 [v 25],a 27 5,a 28 7,i 29 27 28 1,b' 30 29 1,e 2 26,e 3 30,e' 4 k1]) .ret))))
abbrev aeD:Cmd:=Q (R [n 2 (box 2 (v 0)),z 4 [.sl 6 [],.int .i64 0]]) (Q (R [a 11 1,c 12 174 [v 11],a 10 12,x 13 10 0,x 14 10 1,x 15 10 2,e 5 13,e 6 14,e 7 15]) (Q (R [b 17 2 2,a 18 5,c 19 177 [v 17,v 18],a 16 19,x 20 16 0,x 21 16 1,z 8 [.int .i64 0,.int .i64 0,.int .i64 0,.sl 1 [],.sl 2 [],.sl 2 []],s 8 20 6,e 9 21]) (Q (R [f 22 8 4,b' 23 22 1,a 24 6,c 25 191 [v 23,v 24],f 26 8 4,s 26 25 1]) (Q (R [b 27 2 2,b 28 8 6,c 29 173 [v 27,v 28],s 4 29 2]) .ret))))
abbrev xC:Cmd:=Q (R [n 2 (box 2 (v 0)),z 4 [.sl 6 [],.int .i64 0]]) (Q (R [f 7 2 1,b' 8 7 1,n 9 (bld 9 [.sl 6 [],.int .i64 0] [(1,1,v 8)]),z 5 [.sl 6 [],.int .i64 0],s 5 9 2]) (Q (Q (R [e' 6 (k 0)]) (.blk 0 (.loop (Q (Q (R [a 10 6,f 11 2 0,b' 12 11 1,l 13 12,g 14 .lss (v 10) (v 13)]) (F (v 14) .skip (.exit 0))) (Q (.blk 1 (Q (R [f 17 2 0,b' 18 17 1,a 19 6,i 20 18 19 6,f 21 20 0,b' 22 21 1,a 23 1,g 24 .neq (v 22) (v 23)]) (F (v 24) (D [0,1,0,4,0,28,60,124,252,511,1023,2047] [f 25 5 0,b' 26 25 1,f 27 2 0,b' 28 27 1,a 29 6,i 30 28 29 6,b 31 30 6,c 32 125 [v 31],o 33 6 [v 32],n 34 (app 34 (v 26) (v 33) 6 96),f 35 5 0,s 35 34 1]) .skip))) (R [a 15 6,g 16 .add (v 15) (k 1),e 6 16])))))) (Q (R [b 36 5 2,s 4 36 2]) .ret)))
abbrev ajV:Cmd:=Q (R [n 2 (box 2 (v 0)),z 4 [.int .i64 0,.int .i64 0,.int .i64 0,.sl 1 [],.sl 2 [],.sl 2 []],e' 5 (k 0)]) (Q (R [b 11 2 2,a 12 1,c 13 180 [v 11,v 12],a 10 13,x 14 10 0,x 15 10 1,e 6 14,e 7 15]) (Q (Q (R [a 16 7,g 17 .neq (v 16) (k 0)]) (F (v 17) (Q (R [n 18 (bld 18 [.int .i64 0,.int .i64 0,.int .i64 0,.sl 1 [],.sl 2 [],.sl 2 []] []),a 19 7,s 4 18 6,e 5 19]) .ret) .skip)) (Q (R [b 21 2 2,a 22 6,c 23 157 [v 21,v 22],a 20 23,x 24 20 0,x 25 20 1,z 8 [.int .i64 0,.int .i64 0,.int .i64 0,.sl 1 [],.sl 2 [],.sl 2 []],s 8 24 6,e 9 25]) (Q (Q (R [a 26 9,n 27 (un 27 .not (v 26))]) (F (v 27) (Q (R [n 28 (bld 28 [.int .i64 0,.int .i64 0,.int .i64 0,.sl 1 [],.sl 2 [],.sl 2 []] []),s 4 28 6,e' 5 (k 2)]) .ret) .skip)) (Q (R [b 29 8 6,s 4 29 6,e' 5 (k 0)]) .ret)))))
abbrev aeE:Cmd:=Q (R [n 3 (box 3 (v 0)),z 6 [.int .i64 0,.int .i64 0,.int .i64 0,.sl 1 [],.sl 2 [],.sl 2 []],e' 7 (.c (.str [])),e' 8 (k 0)]) (Q (R [a 15 1,c 16 174 [v 15],a 14 16,x 17 14 0,x 18 14 1,x 19 14 2,e 9 17,e 10 18,e 11 19]) (Q (Q (R [a 20 11,n 21 (un 21 .not (v 20))]) (F (v 21) (Q (R [n 22 (bld 22 [.int .i64 0,.int .i64 0,.int .i64 0,.sl 1 [],.sl 2 [],.sl 2 []] []),s 6 22 6,e' 7 (.c (.str [])),e' 8 (k 1)]) .ret) .skip)) (Q (R [b 24 3 2,a 25 9,c 26 177 [v 24,v 25],a 23 26,x 27 23 0,x 28 23 1,z 12 [.int .i64 0,.int .i64 0,.int .i64 0,.sl 1 [],.sl 2 [],.sl 2 []],s 12 27 6,e 13 28]) (Q (.blk 0 (Q (R [a 30 13,g 31 .neq (v 30) (k 0),e 29 31]) (F (v 29) (Q (R [n 32 (bld 32 [.int .i64 0,.int .i64 0,.int .i64 0,.sl 1 [],.sl 2 [],.sl 2 []] []),a 33 13,s 6 32 6,e' 7 (.c (.str [])),e 8 33]) .ret) (Q (R [f 35 12 1,b' 36 35 1,g 37 .neq (v 36) (k 2),e 34 37]) (F (v 34) (Q (R [n 38 (bld 38 [.int .i64 0,.int .i64 0,.int .i64 0,.sl 1 [],.sl 2 [],.sl 2 []] []),s 6 38 6,e' 7 (.c (.str [])),e' 8 (k 3)]) .ret) (Q (R [b 40 12 6,a 41 10,c 42 192 [v 40,v 41],g 43 .neq (v 42) (k 0),e 39 43]) (F (v 39) (Q (R [n 44 (bld 44 [.int .i64 0,.int .i64 0,.int .i64 0,.sl 1 [],.sl 2 [],.sl 2 []] []),s 6 44 6,e' 7 (.c (.str [])),e' 8 (k 4)]) .ret) (Q (R [f 46 12 4,b' 47 46 1,l 48 47,g 49 .geq (v 48) (k 10),a 50 49,h 50 true 51 (fld 51 (v 12) 0),h 50 true 52 (ld 52 (v 51) 1 false),ha 50 true 53 2,h 50 true 54 (bin 54 .neq (v 52) (v 53)),p 55 50 (v 54) k0,e 45 55]) (F (v 45) (Q (R [n 56 (bld 56 [.int .i64 0,.int .i64 0,.int .i64 0,.sl 1 [],.sl 2 [],.sl 2 []] []),s 6 56 6,e' 7 (.c (.str [])),e' 8 (k 5)]) .ret) .skip))))))))) (Q (R [b 57 12 6,a 58 10,s 6 57 6,e 7 58,e' 8 (k 0)]) .ret)))))
abbrev ahi:Cmd:=Q (R [n 3 (box 3 (v 1)),e' 4 (.c (.own 2 []))]) (Q (D [0,0,3,0,8,31,63] [o 7 2 [],a 8 0,n 9 (app 9 (v 7) (v 8) 2 24),b 10 3 2,o 11 2 [v 10],n 12 (app 12 (v 9) (v 11) 2 24),e 5 12]) (Q (R [a 13 5,l 14 13,g 15 .sub (v 14) (k 1),e 6 15]) (Q (.blk 0 (.loop (Q (Q (D [0,1,3,7,7,23,63,127,255,7,519,2047,4095] [a 16 6,g 17 .gtr (v 16) (k 0),a 18 17,ha 18 true 19 5,ha 18 true 20 6,h 18 true 21 (bin 21 .sub (v 20) (k 1)),h 18 true 22 (idx 22 (v 19) (v 21) 2),h 18 true 23 (fld 23 (v 22) 0),h 18 true 24 (ld 24 (v 23) 1 false),h 18 true 25 (fld 25 (v 3) 0),h 18 true 26 (ld 26 (v 25) 1 false),h 18 true 27 (bin 27 .gtr (v 24) (v 26)),p 28 18 (v 27) k0]) (F (v 28) .skip (.exit 0))) (.blk 1 (Q (R [a 29 5,a 30 6,a 31 5,a 32 6,g 33 .sub (v 32) (k 1),i 34 31 33 2,b 35 34 2,i 36 29 30 2,s 36 35 2]) (R [a 37 6,g 38 .sub (v 37) (k 1),e 6 38])))))) (Q (R [a 39 5,a 40 6,b 41 3 2,i 42 39 40 2,s 42 41 2]) (Q (R [a 43 5,e 4 43]) .ret)))))
abbrev ajW:Cmd:=Q (R [n 2 (box 2 (v 0)),e' 4 (k 0),e' 5 (k 0)]) (Q (R [a 9 1,c 10 171 [v 9],a 8 10,x 11 8 0,x 12 8 1,e 6 11,e 7 12]) (Q (Q (R [a 13 7,n 14 (un 14 .not (v 13))]) (F (v 14) (Q (R [e' 4 (k 0),e' 5 (k 1)]) .ret) .skip)) (Q (R [b 15 2 2,a 16 6,c 17 193 [v 15,v 16],x 18 17 0,x 19 17 1,e 4 18,e 5 19]) .ret)))
abbrev ahj:Cmd:=Q (R [e' 4 k0]) (Q (R [a 11 0,c 12 171 [v 11],a 10 12,x 13 10 0,x 14 10 1,e 5 13,e 6 14]) (Q (R [a 16 1,c 17 171 [v 16],a 15 17,x 18 15 0,x 19 15 1,e 7 18,e 8 19]) (Q (Q (R [a 20 6,n 21 (un 21 .not (v 20)),a 22 21,ha 22 false 23 8,h 22 false 24 (un 24 .not (v 23)),p 25 22 k1 (v 24),a 26 25,ha 26 false 27 5,h 26 false 28 (len 28 (v 27)),ha 26 false 29 7,h 26 false 30 (len 30 (v 29)),h 26 false 31 (bin 31 .gtr (v 28) (v 30)),p 32 26 k1 (v 31)]) (F (v 32) (Q (R [e' 4 k0]) .ret) .skip)) (Q (Q (R [e' 9 (k 0)]) (.blk 0 (.loop (Q (Q (R [a 33 9,a 34 5,l 35 34,g 36 .lss (v 33) (v 35)]) (F (v 36) .skip (.exit 0))) (Q (.blk 1 (Q (D [0,0,3,7,0,0,48,112,255] [a 39 5,a 40 9,i 41 39 40 1,b' 42 41 1,a 43 7,a 44 9,i 45 43 44 1,b' 46 45 1,g 47 .neq (v 42) (v 46)]) (F (v 47) (Q (R [e' 4 k0]) .ret) .skip))) (R [a 37 9,g 38 .add (v 37) (k 1),e 9 38])))))) (Q (R [e' 4 k1]) .ret)))))
abbrev aeF:Cmd:=Q (R [n 3 (box 3 (v 1)),e' 4 (.c (.own 2 []))]) (Q (D [0,0,3,0,8,31,63] [o 7 2 [],a 8 0,n 9 (app 9 (v 7) (v 8) 2 32),b 10 3 2,o 11 2 [v 10],n 12 (app 12 (v 9) (v 11) 2 32),e 5 12]) (Q (R [a 13 5,l 14 13,g 15 .sub (v 14) (k 1),e 6 15]) (Q (.blk 0 (.loop (Q (Q (D [0,1,3,7,7,23,63,127,255,7,519,2047,4095] [a 16 6,g 17 .gtr (v 16) (k 0),a 18 17,ha 18 true 19 5,ha 18 true 20 6,h 18 true 21 (bin 21 .sub (v 20) (k 1)),h 18 true 22 (idx 22 (v 19) (v 21) 2),h 18 true 23 (fld 23 (v 22) 0),h 18 true 24 (ld 24 (v 23) 1 false),h 18 true 25 (fld 25 (v 3) 0),h 18 true 26 (ld 26 (v 25) 1 false),h 18 true 27 (bin 27 .gtr (v 24) (v 26)),p 28 18 (v 27) k0]) (F (v 28) .skip (.exit 0))) (.blk 1 (Q (R [a 29 5,a 30 6,a 31 5,a 32 6,g 33 .sub (v 32) (k 1),i 34 31 33 2,b 35 34 2,i 36 29 30 2,s 36 35 2]) (R [a 37 6,g 38 .sub (v 37) (k 1),e 6 38])))))) (Q (R [a 39 5,a 40 6,b 41 3 2,i 42 39 40 2,s 42 41 2]) (Q (R [a 43 5,e 4 43]) .ret)))))
abbrev ahk:Cmd:=Q (R [e' 4 k0]) (Q (Q (R [e' 5 (k 0)]) (.blk 0 (.loop (Q (Q (R [a 6 5,a 7 0,l 8 7,g 9 .lss (v 6) (v 8)]) (F (v 9) .skip (.exit 0))) (Q (.blk 1 (Q (R [a 12 0,a 13 5,i 14 12 13 1,b' 15 14 1,a 16 1,g 17 .eql (v 15) (v 16)]) (F (v 17) (Q (R [e' 4 k1]) .ret) .skip))) (R [a 10 5,g 11 .add (v 10) (k 1),e 5 11])))))) (Q (R [e' 4 k0]) .ret))
abbrev zQ:Cmd:=Q (R [e' 2 (.c (.str []))]) (Q (Q (R [a 5 0,l 6 5,g 7 .eql (v 6) (k 0)]) (F (v 7) (Q (R [e' 2 (.c (.str [47]))]) .ret) .skip)) (Q (R [e' 3 (.c (.str []))]) (Q (Q (R [e' 4 (k 0)]) (.blk 0 (.loop (Q (Q (R [a 8 4,a 9 0,l 10 9,g 11 .lss (v 8) (v 10)]) (F (v 11) .skip (.exit 0))) (Q (.blk 1 (Q (Q (R [a 14 0,a 15 4,i 16 14 15 1,b' 17 16 1,c 18 77 [v 17],n 19 (un 19 .not (v 18)),a 20 19,ha 20 false 21 0,h 20 false 22 (len 22 (v 21)),h 20 false 23 (bin 23 .gtr (v 22) (k 30)),p 24 20 k1 (v 23)]) (F (v 24) (Q (R [e' 2 (.c (.str []))]) .ret) .skip)) (R [a 25 3,g 26 .add (v 25) (.c (.str [47])),a 27 0,a 28 4,i 29 27 28 1,b' 30 29 1,g 31 .add (v 26) (v 30),e 3 31]))) (R [a 12 4,g 13 .add (v 12) (k 1),e 4 13])))))) (Q (R [a 32 3,e 2 32]) .ret))))
abbrev ahl:Cmd:=Q (R [e' 4 (.c (.own 2 []))]) (Q (R [o 7 2 [],e 5 7]) (Q (Q (R [e' 6 (k 0)]) (.blk 0 (.loop (Q (Q (R [a 8 6,a 9 0,l 10 9,g 11 .lss (v 8) (v 10)]) (F (v 11) .skip (.exit 0))) (Q (.blk 1 (Q (R [a 14 0,a 15 6,i 16 14 15 2,f 17 16 0,b' 18 17 1,a 19 1,g 20 .neq (v 18) (v 19)]) (F (v 20) (R [a 21 5,a 22 0,a 23 6,i 24 22 23 2,b 25 24 2,o 26 2 [v 25],n 27 (app 27 (v 21) (v 26) 2 24),e 5 27]) .skip))) (R [a 12 6,g 13 .add (v 12) (k 1),e 6 13])))))) (Q (R [a 28 5,e 4 28]) .ret)))
abbrev ahm:Cmd:=Q (R [n 2 (box 2 (v 0)),e' 4 (k 0)]) (Q (Q (R [e' 5 (k 0)]) (.blk 0 (.loop (Q (Q (R [a 6 5,f 7 2 4,b' 8 7 1,l 9 8,g 10 .lss (v 6) (v 9)]) (F (v 10) .skip (.exit 0))) (Q (.blk 1 (Q (R [f 13 2 4,b' 14 13 1,a 15 5,i 16 14 15 2,f 17 16 0,b' 18 17 1,a 19 1,g 20 .eql (v 18) (v 19)]) (F (v 20) (Q (R [f 21 2 4,b' 22 21 1,a 23 5,i 24 22 23 2,f 25 24 1,b' 26 25 1,e 4 26]) .ret) .skip))) (R [a 11 5,g 12 .add (v 11) (k 1),e 5 12])))))) (Q (R [e' 4 (k 0)]) .ret))
abbrev aeG:Cmd:=Q (R [n 2 (box 2 (v 0)),e' 4 (k 0),e' 5 (k 0)]) (Q (R [e' 6 (k 1)]) (Q (Q (R [e' 7 (k 0)]) (.blk 0 (.loop (Q (Q (R [a 9 7,a 10 1,l 11 10,g 12 .lss (v 9) (v 11)]) (F (v 12) .skip (.exit 0))) (Q (.blk 1 (Q (R [b 15 2 2,a 16 6,c 17 118 [v 15,v 16],e 8 17]) (Q (Q (R [a 18 8,g 19 .lss (v 18) (k 0)]) (F (v 19) (Q (R [e' 4 (k 0),e' 5 (k 2)]) .ret) .skip)) (Q (Q (R [f 20 2 0,b' 21 20 1,a 22 8,i 23 21 22 6,f 24 23 1,b' 25 24 1,g 26 .neq (v 25) (k 2)]) (F (v 26) (Q (R [e' 4 (k 0),e' 5 (k 3)]) .ret) .skip)) (Q (D [0,1,0,7,15,0,0,96,224,511,1023] [f 27 2 0,b' 28 27 1,a 29 8,i 30 28 29 6,b 31 30 6,a 32 1,a 33 7,i 34 32 33 1,b' 35 34 1,c 36 192 [v 31,v 35],e 6 36]) (Q (R [a 37 6,g 38 .eql (v 37) (k 0)]) (F (v 38) (Q (R [e' 4 (k 0),e' 5 (k 2)]) .ret) .skip))))))) (R [a 13 7,g 14 .add (v 13) (k 1),e 7 14])))))) (Q (R [a 39 6,e 4 39,e' 5 (k 0)]) .ret)))
end
theorem hmx:Tryz.prog.follows .mixedOrders=true:=by kernel_rfl
theorem alZ:aE Tryz.prog 9=some (6,[.t 2],ag8):=by kernel_rfl
theorem iY:aE Tryz.prog 19=some (47,[.c 6 2 true,.t 7],zC):=by kernel_rfl
theorem n7:aE Tryz.prog 27=some (33,[.c 6 2 true,.t 7,.t 8],aej):=by kernel_rfl
theorem oX:aE Tryz.prog 32=some (36,[.c 4 2 true,.t 5],abC):=by kernel_rfl
theorem abR:aE Tryz.prog 36=some (16,[.c 6 2 true,.t 7,.t 8],abD):=by kernel_rfl
theorem ajX:aE Tryz.prog 40=some (87,[.t 2],ajR):=by kernel_rfl
theorem ahn:aE Tryz.prog 43=some (32,[.t 2],zE):=by kernel_rfl
theorem aeH:aE Tryz.prog 45=some (34,[.c 4 2 true],vG):=by kernel_rfl
theorem ajY:aE Tryz.prog 46=some (15,[.t 6],ajS):=by kernel_rfl
theorem cB:aE Tryz.prog 49=some (97,[.c 4 6 true],bZ):=by kernel_rfl
theorem oY:aE Tryz.prog 50=some (31,[.t 4],abE):=by kernel_rfl
theorem aho:aE Tryz.prog 51=some (12,[.t 4],ag9):=by kernel_rfl
theorem adg:aE Tryz.prog 57=some (15,[.t 6],ajT):=by kernel_rfl
theorem aeI:aE Tryz.prog 64=some (32,[.c 2 2 true],aek):=by kernel_rfl
theorem ahp:aE Tryz.prog 65=some (22,[.t 4],aha):=by kernel_rfl
theorem abS:aE Tryz.prog 66=some (50,[.t 2],abF):=by kernel_rfl
theorem ahq:aE Tryz.prog 75=some (12,[.t 4],ahb):=by kernel_rfl
theorem aeJ:aE Tryz.prog 77=some (46,[.t 2],ael):=by kernel_rfl
theorem pN:aE Tryz.prog 78=some (48,[.c 4 2 true,.t 5,.t 6],ahc):=by kernel_rfl
theorem aeK:aE Tryz.prog 79=some (4,[.c 0 2 true],aem):=by kernel_rfl
theorem n8:aE Tryz.prog 83=some (51,[.c 8 2 true,.t 9,.t 10],aen):=by kernel_rfl
theorem aeL:aE Tryz.prog 84=some (9,[.t 4],aeo):=by kernel_rfl
theorem iN:aE Tryz.prog 85=some (77,[.c 4 2 true,.t 5],ahd):=by kernel_rfl
theorem zR:aE Tryz.prog 86=some (22,[.t 4],zF):=by kernel_rfl
theorem aeM:aE Tryz.prog 87=some (53,[.t 2],aep):=by kernel_rfl
theorem zS:aE Tryz.prog 89=some (10,[.t 2],ahe):=by kernel_rfl
theorem ahr:aE Tryz.prog 90=some (2,[.c 0 2 true],ahf):=by kernel_rfl
theorem oM:aE Tryz.prog 91=some (8,[.t 2],oL):=by kernel_rfl
theorem aeN:aE Tryz.prog 92=some (6,[.t 2],aeq):=by kernel_rfl
theorem aeO:aE Tryz.prog 93=some (18,[.t 2],vH):=by kernel_rfl
theorem qT:aE Tryz.prog 94=some (25,[.t 4],aer):=by kernel_rfl
theorem aeP:aE Tryz.prog 95=some (6,[.t 2],aes):=by kernel_rfl
theorem aeQ:aE Tryz.prog 96=some (8,[.t 2],aet):=by kernel_rfl
theorem vK:aE Tryz.prog 97=some (58,[.t 2],qS):=by kernel_rfl
theorem aeR:aE Tryz.prog 104=some (27,[.c 2 2 true],aeu):=by kernel_rfl
theorem abT:aE Tryz.prog 112=some (6,[.t 2],abG):=by kernel_rfl
theorem iD:aE Tryz.prog 113=some (67,[.c 4 2 true,.t 5],aev):=by kernel_rfl
theorem zT:aE Tryz.prog 114=some (16,[.c 6 2 true,.t 7,.t 8],zG):=by kernel_rfl
theorem ahs:aE Tryz.prog 115=some (68,[.t 2],ahg):=by kernel_rfl
theorem tF:aE Tryz.prog 116=some (24,[.t 2],abH):=by kernel_rfl
theorem abU:aE Tryz.prog 117=some (50,[.t 4],abI):=by kernel_rfl
theorem ajZ:aE Tryz.prog 118=some (22,[.t 4],ajU):=by kernel_rfl
theorem tG:aE Tryz.prog 120=some (11,[.t 2],abJ):=by kernel_rfl
theorem abV:aE Tryz.prog 121=some (20,[.t 4],tE):=by kernel_rfl
theorem aeS:aE Tryz.prog 125=some (21,[.c 2 6 true],aew):=by kernel_rfl
theorem cZ:aE Tryz.prog 132=some (93,[.c 4 2 true,.t 5],zH):=by kernel_rfl
theorem abW:aE Tryz.prog 133=some (59,[.t 2],abK):=by kernel_rfl
theorem aeT:aE Tryz.prog 134=some (59,[.t 4],aex):=by kernel_rfl
theorem abX:aE Tryz.prog 136=some (52,[],abL):=by kernel_rfl
theorem aeU:aE Tryz.prog 137=some (47,[.t 2],vJ):=by kernel_rfl
theorem abY:aE Tryz.prog 146=some (11,[.c 4 2 true,.t 5],abM):=by kernel_rfl
theorem zU:aE Tryz.prog 147=some (11,[.c 4 2 true,.t 5],zJ):=by kernel_rfl
theorem f4:aE Tryz.prog 148=some (86,[.c 8 2 true,.t 9],abN):=by kernel_rfl
theorem gN:aE Tryz.prog 149=some (60,[.c 6 2 true,.t 7],zK):=by kernel_rfl
theorem jU:aE Tryz.prog 150=some (55,[.c 4 2 true,.t 5],aey):=by kernel_rfl
theorem eM:aE Tryz.prog 151=some (57,[.c 4 2 true,.t 5],xA):=by kernel_rfl
theorem fJ:aE Tryz.prog 152=some (82,[.c 6 2 true,.t 7],zM):=by kernel_rfl
theorem f5:aE Tryz.prog 153=some (112,[.c 6 2 true,.t 7],aez):=by kernel_rfl
theorem f6:aE Tryz.prog 154=some (96,[.c 8 2 true,.t 9],abO):=by kernel_rfl
theorem aeV:aE Tryz.prog 155=some (47,[.t 2],aeA):=by kernel_rfl
theorem abZ:aE Tryz.prog 156=some (48,[.t 2],abP):=by kernel_rfl
theorem tH:aE Tryz.prog 157=some (19,[.c 4 6 true,.t 5],abQ):=by kernel_rfl
theorem zV:aE Tryz.prog 158=some (46,[.t 4],ahh):=by kernel_rfl
theorem iF:aE Tryz.prog 170=some (65,[.c 6 2 true,.t 7],aeB):=by kernel_rfl
theorem pO:aE Tryz.prog 171=some (59,[.t 2,.t 3],xB):=by kernel_rfl
theorem qU:aE Tryz.prog 172=some (24,[.c 4 6 true,.t 5],aeC):=by kernel_rfl
theorem rH:aE Tryz.prog 173=some (59,[.c 4 2 true],zO):=by kernel_rfl
theorem nD:aE Tryz.prog 174=some (31,[.t 2,.t 3,.t 4],zP):=by kernel_rfl
theorem aeW:aE Tryz.prog 175=some (30,[.c 4 2 true],aeD):=by kernel_rfl
theorem xD:aE Tryz.prog 176=some (37,[.c 4 2 true],xC):=by kernel_rfl
theorem xE:aE Tryz.prog 177=some (30,[.c 4 6 true,.t 5],ajV):=by kernel_rfl
theorem f7:aE Tryz.prog 178=some (59,[.c 6 6 true,.t 7,.t 8],aeE):=by kernel_rfl
theorem aht:aE Tryz.prog 179=some (44,[.t 4],ahi):=by kernel_rfl
theorem adh:aE Tryz.prog 180=some (20,[.t 4,.t 5],ajW):=by kernel_rfl
theorem pP:aE Tryz.prog 181=some (48,[.t 4],ahj):=by kernel_rfl
theorem aeX:aE Tryz.prog 182=some (44,[.t 4],aeF):=by kernel_rfl
theorem ahu:aE Tryz.prog 183=some (18,[.t 4],ahk):=by kernel_rfl
theorem rI:aE Tryz.prog 190=some (33,[.t 2],zQ):=by kernel_rfl
theorem ahv:aE Tryz.prog 191=some (29,[.t 4],ahl):=by kernel_rfl
theorem ahw:aE Tryz.prog 192=some (27,[.t 4],ahm):=by kernel_rfl
theorem aeY:aE Tryz.prog 193=some (40,[.t 4,.t 5],aeG):=by kernel_rfl
section
@[congr] theorem bind_congr_l {α β:Type} {a b:Option α} {f:α→Option β} (h:a=b):a.bind f=b.bind f:=by rw [h]
@[congr] theorem map_congr_l {α β:Type} {a b:Option α} {f:α→β} (h:a=b):a.map f=b.map f:=by rw [h]
def al0 (E:Env):List Plc→Bool
 | []=>true
 | (_,_,r,p)::l=>isU (cA (E.f r) p) && al0 E l
theorem al1 (E:Env):∀ l:List Plc,al0 E l=l.all (fun q=>isU (cA (E.f q.2.2.1) q.2.2.2)):=by
 intro l
 induction l with
 | nil=>rfl
 | cons q l ih=>obtain ⟨k,j,r,p⟩:=q; simp [al0,ih]
theorem aob:∀ (E:Env) (q:Plc) (pls:List Plc) (outs:List AV),mU E none (q::pls) outs=if al0 E (q::pls)=true then m7 E outs (q::pls) else none:=by
 intro E q pls outs
 rw [al1]; rfl
theorem SAU:(∀ E:Env,al0 E []=true)∧(∀ (E:Env) (k:Nat) (j:Option Nat) (r:Nat) (p:a8) (l:List Plc),al0 E ((k,j,r,p)::l)=(isU (cA (E.f r) p) && al0 E l)):=⟨fun _=>rfl,fun _ _ _ _ _ _=>rfl⟩
theorem SBK:∀ (E:Env) (outs:List AV),mU E none [] outs=m7 E outs []:=by
 intro E outs
 simp [mU]
theorem SB0:type_of% (And.intro SBK aob):=And.intro SBK aob
abbrev aA:=List UInt8
theorem qV {α:Type} {f:α→Nat} {l:List α} {x:α} (h:x ∈ l):f x≤(l.map f).sum:=by
 induction l with
 | nil=>simp at h
 | cons y l ih=>
  rcases lG.1 h with rfl | h
  ·simp
  ·have:=ih h; simp; omega
theorem bW {α:Type} {l:List α} {i:Nat} (h:(i:Int)<(l.length:Nat)):l[i]?=some (l[i]'(by omega)):=by simp
theorem al2 {α:Type} (f:α→Nat) {l:List α} {i:Nat} (h:i<l.length):f l[i]≤(l.map f).sum:=qV (lQ h)
theorem xF {α:Type} (f:α→Nat) (l:List α) (i:Nat) (h:i<l.length):((l.take (i+1)).map f).sum=((l.take i).map f).sum+f l[i]:=by
 rw [lS h,lO2,List.sum_append]
 simp only [lO,lH1,lB2,List.sum_nil,lQ3]
theorem mD {α:Type} (f:α→Nat) (l:List α) (i:Nat):((l.take i).map f).sum≤(l.map f).sum:=by
 conv=>rhs; rw [← lJ i l,lO2,List.sum_append]
 omega
theorem zW {α:Type} {a b:List α} {i:Nat} (h:a.take i=b.take i) (h1:i<a.length) (h2:i<b.length) (e:a[i]=b[i]):a.take (i+1)=b.take (i+1):=by
 rw [lS h1,lS h2,h,e]
theorem anD {α:Type} {a b:List α} {i:Nat} (h:a.take i=b.take i) (h1:a.length≤i) (h2:b.length≤i):a=b:=by
 rwa [lN2 h1,lN2 h2] at h
def akT {α β:Type} (f:α→Int→β) (g:α→β) (c:α→Nat):List α→Int→Nat→List β
 | [],_,_=>[]
 | x::l,_,0=>g x::l.map g
 | x::l,k,i+1=>f x k::akT f g c l (k+c x) i
def uP {α β:Type} (f:α→Int→β) (c:α→Nat):List α→Int→List β
 | [],_=>[]
 | x::l,k=>f x k::uP f c l (k+c x)
section
variable {α β γ:Type} (f:α→Int→β) (g:α→β) (c:α→Nat)
theorem adi:∀ (l:List α) (k:Int) (i:Nat),(akT f g c l k i).length=l.length:=by
 intro l
 induction l with
 | nil=>intro k i; rfl
 | cons x l ih=>intro k i; cases i <;> simp [akT,ih]
theorem aj0:∀ (l:List α) (k:Int) (i:Nat),(akT f g c l k i)[i]?=(l[i]?).map g:=by
 intro l
 induction l with
 | nil=>intro k i; simp [akT]
 | cons x l ih=>intro k i; cases i <;> simp [akT,ih]
theorem zY:∀ (l:List α) (k:Int),(uP f c l k).length=l.length:=by
 intro l
 induction l with
 | nil=>intro k; rfl
 | cons x l ih=>intro k; simp [uP,ih]
theorem zZ:∀ (l:List α) (k:Int) (i:Nat),(uP f c l k)[i]?=(l[i]?).map fun x=>f x (k+((l.take i).map c).sum):=by
 intro l
 induction l with
 | nil=>intro k i; simp [uP]
 | cons x l ih=>
  intro k i
  cases i with
  | zero=>simp [uP]
  | succ i=>
   simp only [uP,List.getElem?_cons_succ,ih,List.take_succ_cons,lO,lB2]
   congr 1; funext y; congr 1; omega
end
def anh {α:Type} (f:α→List TV) (z:List TV) (l:List α) (i:Nat):List (List TV):=akT (fun x _=>f x) (fun _=>z) (fun _=>0) l 0 i
theorem ahx {α:Type} (f:α→List TV) (z:List TV) (l:List α) (i:Nat):(anh f z l i).length=l.length:=adi ..
def anE {α:Type} (r:α→List TV) (f:α→Int→α) (c:α→Nat) (l:List α) (k:Int) (i:Nat):List (List TV):=akT (fun x k=>r (f x k)) r c l k i
section
variable {α:Type} (r:α→List TV) (f:α→Int→α) (c:α→Nat)
theorem aj1 (l:List α) (k:Int) (i:Nat):(anE r f c l k i).length=l.length:=adi ..
theorem aj2 (l:List α) (k:Int) (i:Nat):(anE r f c l k i)[i]?=(l[i]?).map r:=aj0 ..
end
def ahy (x:UInt8):List TV:=[.int .u8 x.toNat]
def z6 (b:aA) (k:Int):aA:=uP (fun _ k=>UInt8.ofInt k) (fun _=>1) b k
theorem al3 {α:Type} (l:List α):(l.map fun _=>1).sum=l.length:=by induction l with | nil=>rfl | cons x l ih=>simp [ih]; omega
theorem aeZ (b:aA) (k:Int):(z6 b k).length=b.length:=zY ..
theorem ae0 (b:aA) (k:Int) (i:Nat):(z6 b k)[i]?=(b[i]?).map fun _=>UInt8.ofInt (k+i):=by
 rw [z6,zZ]
 by_cases h:i<b.length
 ·simp only [al3,lT,lK1 (Nat.le_of_lt h)]
 ·rw [lV1 (by omega)]; rfl
theorem SF:(∀ (α:Type) (f:α→List TV) (z:List TV) (l:List α) (i:Nat),(anh f z l i).length=l.length) ∧
  (∀ (α:Type) (r:α→List TV) (f:α→Int→α) (c:α→Nat) (l:List α) (k:Int) (i:Nat),(anE r f c l k i).length=l.length) ∧
  (∀ (α:Type) (r:α→List TV) (f:α→Int→α) (c:α→Nat) (l:List α) (k:Int) (i:Nat),(anE r f c l k i)[i]?=(l[i]?).map r) ∧
  (∀ (α β:Type) (f:α→Int→β) (c:α→Nat) (l:List α) (k:Int),(uP f c l k).length=l.length) ∧
  (∀ (α β:Type) (f:α→Int→β) (c:α→Nat) (l:List α) (k:Int) (i:Nat),(uP f c l k)[i]?=(l[i]?).map fun x=>f x (k+((l.take i).map c).sum)) ∧
  (∀ (b:aA) (k:Int),(z6 b k).length=b.length)∧(∀ (b:aA) (k:Int) (i:Nat),(z6 b k)[i]?=(b[i]?).map fun _=>UInt8.ofInt (k+i)) ∧
  (∀ (α:Type) (l:List α) (i:Nat) (f g:α→α),(l.modify i f).modify i g=l.modify i (fun x=>g (f x)))∧(∀ (α:Type) (l:List α) (i:Nat) (f:α→α),(l.modify i f)[i]?=(l[i]?).map f) ∧
  (∀ (α:Type) (l:List α) (i:Nat) (f:α→α),(l.modify i f).length=l.length):=
 ⟨fun _=>ahx,fun _=>aj1,fun _=>aj2,fun _ _=>zY,fun _ _=>zZ,aeZ,ae0,
  fun _ l i f g=>List.modify_modify_eq f g i l,fun _ l i f=>by simp,fun _ l i f=>by simp⟩
theorem tJ (b:aA):eJ (aM b)=true:=by
 simp [eJ,aM]
 intros; rfl
theorem z7 (b:aA):fU (aM b)=true:=by
 simp [fU,aM]
 intros; rfl
theorem ab0 (b:aA):dR (aM b)=some b:=by
 induction b with
 | nil=>rfl
 | cons x b ih=>
  simp only [aM,lO]
  simp only [aM] at ih
  have h1:sL [.int .u8 x.toNat]=some x:=by
   have:=x.toNat_lt
   simp [sL]
   try omega
  simp [dR,ih,h1]
theorem SK:fU []=true∧(∀ (e:List TV) (l:List (List TV)),fU (e::l)=(e.all fI && fU l))∧(∀ (t:TV) (e:List TV),(t::e).all fI=(fI t && e.all fI))∧([]:List TV).all fI=true ∧
  (∀ b,fI (.bool b)=true)∧(∀ k n,fI (.int k n)=true)∧(∀ s,fI (.str s)=true)∧(∀ s es,fI (.sl s es)=true) ∧
  eJ []=true∧(∀ (e:List TV) (l:List (List TV)),eJ (e::l)=(e.all lA && eJ l))∧(∀ (t:TV) (e:List TV),(t::e).all lA=(lA t && e.all lA))∧([]:List TV).all lA=true ∧
  (∀ b,lA (.bool b)=true)∧(∀ k n,lA (.int k n)=true)∧(∀ s,lA (.str s)=true) ∧
  (∀ b:aA,eJ (aM b)=true)∧(∀ b:aA,fU (aM b)=true)∧(∀ b:aA,dR (aM b)=some b):=
 ⟨rfl,fun _ _=>rfl,fun _ _=>rfl,rfl,fun _=>rfl,fun _ _=>rfl,fun _=>rfl,fun _ _=>rfl,rfl,fun _ _=>rfl,fun _ _=>rfl,rfl,fun _=>rfl,fun _ _=>rfl,fun _=>rfl,tJ,z7,ab0⟩
theorem SB:min 1 IntKind.i64.bits=1∧min 7 IntKind.i64.bits=7∧min 8 IntKind.i64.bits=8∧min 14 IntKind.i64.bits=14∧min 16 IntKind.i64.bits=16∧min 24 IntKind.i64.bits=24∧min 33 IntKind.i64.bits=33∧min 47 IntKind.i64.bits=47∧min 1 IntKind.u32.bits=1∧min 8 IntKind.u32.bits=8∧min 16 IntKind.u32.bits=16∧min 24 IntKind.u32.bits=24:=by decide
def szM {α:Type} (c:α→Nat) (l:List α):Nat:=l.length+(l.map c).sum
structure Ent where
 name:aA
 ino:Int
 deriving DecidableEq,Inhabited
def Ent.row (a:Ent):List TV:=[.str a.name,.int .i64 a.ino]
def Ent.x (a:Ent):AV:=.agg [.str a.name,.int .i64 a.ino]
def Ent.o (a:Ent):AV:=.agg [.str a.name,.int .i64 a.ino]
def Ent.sz (a:Ent):Nat:=a.name.length
def Ent.zero:List TV:=[.str [],.int .i64 0]
structure Attr where
 name:aA
 val:aA
 deriving DecidableEq,Inhabited
def Attr.row (a:Attr):List TV:=[.str a.name,.str a.val]
def Attr.x (a:Attr):AV:=.agg [.str a.name,.str a.val]
def Attr.o (a:Attr):AV:=.agg [.str a.name,.str a.val]
def Attr.sz (a:Attr):Nat:=a.name.length+a.val.length
def Attr.zero:List TV:=[.str [],.str []]
structure Inode where
 ino:Int
 kind:Int
 links:Int
 data:aA
 ents:List Ent
 attrs:List Attr
 deriving DecidableEq,Inhabited
def Inode.row (a:Inode):List TV:=[.int .i64 a.ino,.int .i64 a.kind,.int .i64 a.links,.sl 1 (aM a.data),.sl 2 (a.ents.map Ent.row),.sl 2 (a.attrs.map Attr.row)]
def Inode.x (a:Inode):AV:=.agg [.int .i64 a.ino,.int .i64 a.kind,.int .i64 a.links,.ext 1 (aM a.data),.ext 2 (a.ents.map Ent.row),.ext 2 (a.attrs.map Attr.row)]
def Inode.o (a:Inode):AV:=.agg [.int .i64 a.ino,.int .i64 a.kind,.int .i64 a.links,.own 1 (aM a.data),.own 2 (a.ents.map Ent.row),.own 2 (a.attrs.map Attr.row)]
def Inode.sz (a:Inode):Nat:=a.data.length+szM Ent.sz a.ents+szM Attr.sz a.attrs
def Inode.zero:List TV:=[.int .i64 0,.int .i64 0,.int .i64 0,.sl 1 [],.sl 2 [],.sl 2 []]
structure Tab where
 inodes:List Inode
 next:Int
 deriving DecidableEq,Inhabited
def Tab.row (a:Tab):List TV:=[.sl 6 (a.inodes.map Inode.row),.int .i64 a.next]
def Tab.x (a:Tab):AV:=.agg [.ext 6 (a.inodes.map Inode.row),.int .i64 a.next]
def Tab.o (a:Tab):AV:=.agg [.own 6 (a.inodes.map Inode.row),.int .i64 a.next]
def Tab.sz (a:Tab):Nat:=szM Inode.sz a.inodes
def Tab.zero:List TV:=[.sl 6 [],.int .i64 0]
structure Vol where
 id:Int
 name:aA
 ro:Bool
 limit:Int
 t:Tab
 deriving DecidableEq,Inhabited
def Vol.row (a:Vol):List TV:=[.int .i64 a.id,.str a.name,.bool a.ro,.int .i64 a.limit,.sl 6 (a.t.inodes.map Inode.row),.int .i64 a.t.next]
def Vol.x (a:Vol):AV:=.agg [.int .i64 a.id,.str a.name,.bool a.ro,.int .i64 a.limit,.ext 6 (a.t.inodes.map Inode.row),.int .i64 a.t.next]
def Vol.o (a:Vol):AV:=.agg [.int .i64 a.id,.str a.name,.bool a.ro,.int .i64 a.limit,.own 6 (a.t.inodes.map Inode.row),.int .i64 a.t.next]
def Vol.sz (a:Vol):Nat:=a.name.length+a.t.sz
def Vol.zero:List TV:=[.int .i64 0,.str [],.bool false,.int .i64 0,.sl 6 [],.int .i64 0]
structure Fs where
 vols:List Vol
 next:Int
 deriving DecidableEq,Inhabited
def Fs.row (a:Fs):List TV:=[.sl 6 (a.vols.map Vol.row),.int .i64 a.next]
def Fs.x (a:Fs):AV:=.agg [.ext 6 (a.vols.map Vol.row),.int .i64 a.next]
def Fs.o (a:Fs):AV:=.agg [.own 6 (a.vols.map Vol.row),.int .i64 a.next]
def Fs.sz (a:Fs):Nat:=szM Vol.sz a.vols
def Fs.zero:List TV:=[.sl 6 [],.int .i64 0]
structure Op where
 kind:Int
 vol:Int
 path:aA
 to':aA
 off:Int
 data:aA
 deriving DecidableEq,Inhabited
def Op.row (a:Op):List TV:=[.int .i64 a.kind,.int .i64 a.vol,.str a.path,.str a.to',.int .i64 a.off,.sl 1 (aM a.data)]
def Op.x (a:Op):AV:=.agg [.int .i64 a.kind,.int .i64 a.vol,.str a.path,.str a.to',.int .i64 a.off,.ext 1 (aM a.data)]
def Op.o (a:Op):AV:=.agg [.int .i64 a.kind,.int .i64 a.vol,.str a.path,.str a.to',.int .i64 a.off,.own 1 (aM a.data)]
def Op.sz (a:Op):Nat:=a.path.length+a.to'.length+a.data.length
def Op.zero:List TV:=[.int .i64 0,.int .i64 0,.str [],.str [],.int .i64 0,.sl 1 []]
theorem ST :
  (∀ a:Ent,a.row=[.str a.name,.int .i64 a.ino]) ∧
  (∀ a:Ent,a.x=.agg [.str a.name,.int .i64 a.ino]) ∧
  (∀ a:Ent,a.o=.agg [.str a.name,.int .i64 a.ino]) ∧
  (∀ a:Attr,a.row=[.str a.name,.str a.val]) ∧
  (∀ a:Attr,a.x=.agg [.str a.name,.str a.val]) ∧
  (∀ a:Attr,a.o=.agg [.str a.name,.str a.val]) ∧
  (∀ a:Inode,a.row=[.int .i64 a.ino,.int .i64 a.kind,.int .i64 a.links,.sl 1 (aM a.data),.sl 2 (a.ents.map Ent.row),.sl 2 (a.attrs.map Attr.row)]) ∧
  (∀ a:Inode,a.x=.agg [.int .i64 a.ino,.int .i64 a.kind,.int .i64 a.links,.ext 1 (aM a.data),.ext 2 (a.ents.map Ent.row),.ext 2 (a.attrs.map Attr.row)]) ∧
  (∀ a:Inode,a.o=.agg [.int .i64 a.ino,.int .i64 a.kind,.int .i64 a.links,.own 1 (aM a.data),.own 2 (a.ents.map Ent.row),.own 2 (a.attrs.map Attr.row)]) ∧
  (∀ a:Tab,a.row=[.sl 6 (a.inodes.map Inode.row),.int .i64 a.next]) ∧
  (∀ a:Tab,a.x=.agg [.ext 6 (a.inodes.map Inode.row),.int .i64 a.next]) ∧
  (∀ a:Tab,a.o=.agg [.own 6 (a.inodes.map Inode.row),.int .i64 a.next]) ∧
  (∀ a:Vol,a.row=[.int .i64 a.id,.str a.name,.bool a.ro,.int .i64 a.limit,.sl 6 (a.t.inodes.map Inode.row),.int .i64 a.t.next]) ∧
  (∀ a:Vol,a.x=.agg [.int .i64 a.id,.str a.name,.bool a.ro,.int .i64 a.limit,.ext 6 (a.t.inodes.map Inode.row),.int .i64 a.t.next]) ∧
  (∀ a:Vol,a.o=.agg [.int .i64 a.id,.str a.name,.bool a.ro,.int .i64 a.limit,.own 6 (a.t.inodes.map Inode.row),.int .i64 a.t.next]) ∧
  (∀ a:Fs,a.row=[.sl 6 (a.vols.map Vol.row),.int .i64 a.next]) ∧
  (∀ a:Fs,a.x=.agg [.ext 6 (a.vols.map Vol.row),.int .i64 a.next]) ∧
  (∀ a:Fs,a.o=.agg [.own 6 (a.vols.map Vol.row),.int .i64 a.next]) ∧
  (∀ a:Op,a.row=[.int .i64 a.kind,.int .i64 a.vol,.str a.path,.str a.to',.int .i64 a.off,.sl 1 (aM a.data)]) ∧
  (∀ a:Op,a.x=.agg [.int .i64 a.kind,.int .i64 a.vol,.str a.path,.str a.to',.int .i64 a.off,.ext 1 (aM a.data)]) ∧
  (∀ a:Op,a.o=.agg [.int .i64 a.kind,.int .i64 a.vol,.str a.path,.str a.to',.int .i64 a.off,.own 1 (aM a.data)]) ∧
  (∀ (α β:Type) (f:α→β) (l:List α),(l.map f).length=l.length)∧(∀ (α β:Type) (f:α→β) (l:List α) (i:Nat),(l.map f)[i]?=(l[i]?).map f):=by
 refine ⟨?_,?_,?_,?_,?_,?_,?_,?_,?_,?_,?_,?_,?_,?_,?_,?_,?_,?_,?_,?_,?_,?_,?_⟩ <;> intros <;> first | rfl | simp
theorem SX:type_of% (And.intro SAU <| And.intro SU <| And.intro SGs <| And.intro SD <| And.intro S1 <| And.intro S2 <| And.intro S3 <| And.intro SE <| And.intro SC <| And.intro SO <| And.intro ST <| And.intro SF <| And.intro SK <| And.intro @jT <| And.intro @tB <| And.intro @Bool.beq_eq_decide_eq.{0} <| And.intro @Int.natCast_zero <| And.intro @Int.add_zero <| And.intro @ge_iff_le.{0} <| And.intro @gt_iff_lt.{0} <| And.intro @Option.isNone_none.{0} <| And.intro @Option.isNone_some.{0} <| And.intro @List.nil_append.{0} <| And.intro @List.append_nil.{0} <| And.intro @Bool.and_true <| And.intro @Bool.and_self <| SB):=And.intro SAU <| And.intro SU <| And.intro SGs <| And.intro SD <| And.intro S1 <| And.intro S2 <| And.intro S3 <| And.intro SE <| And.intro SC <| And.intro SO <| And.intro ST <| And.intro SF <| And.intro SK <| And.intro @jT <| And.intro @tB <| And.intro @Bool.beq_eq_decide_eq.{0} <| And.intro @Int.natCast_zero <| And.intro @Int.add_zero <| And.intro @ge_iff_le.{0} <| And.intro @gt_iff_lt.{0} <| And.intro @Option.isNone_none.{0} <| And.intro @Option.isNone_some.{0} <| And.intro @List.nil_append.{0} <| And.intro @List.append_nil.{0} <| And.intro @Bool.and_true <| And.intro @Bool.and_self <| SB
end
section
theorem pQ {l m:List Int} (h:l.Nodup) (hs:∀ x ∈ l,x ∈ m):l.length≤m.length:=by
 induction l generalizing m with
 | nil=>simp
 | cons x l ih=>
  obtain ⟨hx,hl⟩:=lW4.1 h
  have hm:=hs x (by simp)
  have:=ih (m:=m.erase x) hl fun y hy=>(List.mem_erase_of_ne (by rintro rfl; exact hx hy)).2 (hs y (by simp [hy]))
  rw [List.length_erase_of_mem hm] at this
  have:0<m.length:=List.length_pos_of_mem hm
  simp only [lN1]; omega
abbrev Up (l:List Int):Prop:=l.Pairwise (·<·)
theorem pR {l:List Int} (h:Up l):l.Nodup:=h.imp fun h=>by omega
theorem ani {l m:List Int} (hl:Up l) (hm:Up m) (h:∀ x,x ∈ l↔x ∈ m):l=m:=by
 induction l generalizing m with
 | nil=>
  cases m with
  | nil=>rfl
  | cons y m=>exact absurd ((h y).2 (by simp)) (by simp)
 | cons x l ih=>
  cases m with
  | nil=>exact absurd ((h x).1 (by simp)) (by simp)
  | cons y m=>
   obtain ⟨a1,a2⟩:=lZ.1 hl
   obtain ⟨b1,b2⟩:=lZ.1 hm
   have e:x=y:=by
    have h1:=(h x).1 (by simp)
    have h2:=(h y).2 (by simp)
    simp only [lG] at h1 h2
    rcases h1 with h1 | h1
    ·exact h1
    rcases h2 with h2 | h2
    ·exact h2.symm
    have:=a1 y h2; have:=b1 x h1; omega
   subst e
   congr 1
   refine ih a2 b2 fun z=>⟨fun hz=>?_,fun hz=>?_⟩
   ·have:=(h z).1 (by simp [hz])
    simp only [lG] at this
    rcases this with rfl | this
    ·exact absurd (a1 _ hz) (by omega)
    ·exact this
   ·have:=(h z).2 (by simp [hz])
    simp only [lG] at this
    rcases this with rfl | this
    ·exact absurd (b1 _ hz) (by omega)
    ·exact this
def ahz (l:List Int) (n:Int):List Int:=if n ∈ l then l else l.takeWhile (·<n)++n::l.dropWhile (·<n)
theorem aj3 (l:List Int) (n x:Int):x ∈ ahz l n↔x=n∨x ∈ l:=by
 unfold ahz
 split
 ·rename_i h
  constructor
  ·exact .inr
  ·rintro (rfl | h')
   ·exact h
   ·exact h'
 ·have e:x ∈ l↔x ∈ l.takeWhile (·<n)∨x ∈ l.dropWhile (·<n):=by
   rw [← lL,List.takeWhile_append_dropWhile]
  rw [e]
  simp only [lL,lG]
  constructor
  ·rintro (h | h | h)
   ·exact .inr (.inl h)
   ·exact .inl h
   ·exact .inr (.inr h)
  ·rintro (h | h | h)
   ·exact .inr (.inl h)
   ·exact .inl h
   ·exact .inr (.inr h)
theorem al4 {l:List Int} (h:Up l) (n:Int):Up (ahz l n):=by
 unfold ahz
 split
 ·exact h
 ·rename_i hn
  induction l with
  | nil=>simp [Up]
  | cons x l ih=>
   obtain ⟨a1,a2⟩:=lZ.1 h
   have hnx:n≠x:=fun e=>hn (by simp [e])
   have ih:=ih a2 fun h=>hn (by simp [h])
   by_cases hx:x<n
   ·rw [List.takeWhile_cons_of_pos (by simpa using hx),List.dropWhile_cons_of_pos (by simpa using hx)]
    refine lZ.2 ⟨fun y hy=>?_,ih⟩
    have hy:y ∈ l.takeWhile (·<n)++n::l.dropWhile (·<n):=hy
    rw [lL,lG] at hy
    rcases hy with hy | rfl | hy
    ·exact a1 y (List.takeWhile_sublist _ |>.subset hy)
    ·exact hx
    ·exact a1 y (List.dropWhile_sublist _ |>.subset hy)
   ·rw [List.takeWhile_cons_of_neg (by simpa using hx),List.dropWhile_cons_of_neg (by simpa using hx)]
    refine lZ.2 ⟨fun y hy=>?_,h⟩
    simp only [lG] at hy
    rcases hy with rfl | hy
    ·omega
    ·have:=a1 y hy; omega
section
variable (nb:Int→Option (List Int))
inductive Reach:Int→Prop where
 | root (h:(nb 1).isSome=true):Reach 1
 | step (i j:Int) (l:List Int) (hi:Reach i) (hl:nb i=some l) (hj:j ∈ l) (hs:(nb j).isSome=true):Reach j
def adj (out:List Int) (j:Int):List Int:=if (nb j).isSome then ahz out j else out
def adk (out:List Int) (i:Int):List Int:=((nb i).getD []).foldl (adj nb) out
def ahA (l:List Int):List Int:=l.foldl (adk nb) l
def cG:Nat→List Int
 | 0=>[1]
 | k+1=>ahA nb (cG k)
def rJ (n:Nat):List Int:=if (nb 1).isSome then cG nb n else []
theorem z8 (js:List Int):∀ (out:List Int) (x:Int),x ∈ js.foldl (adj nb) out↔x ∈ out∨(x ∈ js∧(nb x).isSome=true):=by
 induction js with
 | nil=>intro out x; simp
 | cons j js ih=>
  intro out x
  rw [lV2,ih]
  unfold adj
  split
  ·rename_i hj
   rw [aj3,lG]
   constructor
   ·rintro ((rfl | h) | h)
    ·exact .inr ⟨.inl rfl,hj⟩
    ·exact .inl h
    ·exact .inr ⟨.inr h.1,h.2⟩
   ·rintro (h | ⟨rfl | h,hs⟩)
    ·exact .inl (.inr h)
    ·exact .inl (.inl rfl)
    ·exact .inr ⟨h,hs⟩
  ·rename_i hj
   rw [lG]
   constructor
   ·rintro (h | h)
    ·exact .inl h
    ·exact .inr ⟨.inr h.1,h.2⟩
   ·rintro (h | ⟨rfl | h,hs⟩)
    ·exact .inl h
    ·exact absurd hs hj
    ·exact .inr ⟨h,hs⟩
theorem adl (js:List Int):∀ (out:List Int),Up out→Up (js.foldl (adj nb) out):=by
 induction js with
 | nil=>intro out h; exact h
 | cons j js ih=>
  intro out h
  rw [lV2]
  refine ih _ ?_
  unfold adj
  split
  ·exact al4 h j
  ·exact h
theorem aaa (l:List Int):∀ (out:List Int) (x:Int),x ∈ l.foldl (adk nb) out↔x ∈ out∨(∃ i ∈ l,x ∈ (nb i).getD [])∧(nb x).isSome=true:=by
 induction l with
 | nil=>intro out x; simp
 | cons i l ih=>
  intro out x
  rw [lV2,ih]
  unfold adk
  rw [z8]
  simp only [lG,exists_eq_or_imp]
  constructor
  ·rintro ((h | h) | h)
   ·exact .inl h
   ·exact .inr ⟨.inl h.1,h.2⟩
   ·exact .inr ⟨.inr h.1,h.2⟩
  ·rintro (h | ⟨h | h,hs⟩)
   ·exact .inl (.inl h)
   ·exact .inl (.inr ⟨h,hs⟩)
   ·exact .inr ⟨h,hs⟩
theorem adm (l:List Int):∀ (out:List Int),Up out→Up (l.foldl (adk nb) out):=by
 induction l with
 | nil=>intro out h; exact h
 | cons i l ih=>intro out h; rw [lV2]; exact ih _ (adl nb _ _ h)
theorem nE (l:List Int) (x:Int):x ∈ ahA nb l↔x ∈ l∨(∃ i ∈ l,x ∈ (nb i).getD [])∧(nb x).isSome=true:=aaa nb l l x
theorem aj4 {l:List Int} (h:Up l):Up (ahA nb l):=adm nb l l h
theorem iG (k:Nat):Up (cG nb k):=by
 induction k with
 | zero=>simp [cG,Up]
 | succ k ih=>exact aj4 nb ih
theorem aab (n:Nat):Up (rJ nb n):=by
 unfold rJ
 split
 ·exact iG nb n
 ·simp [Up]
theorem nG (h1:(nb 1).isSome=true) (k:Nat):∀ x ∈ cG nb k,Reach nb x:=by
 induction k with
 | zero=>intro x hx; simp only [cG,lC1] at hx; subst hx; exact .root h1
 | succ k ih=>
  intro x hx
  rcases (nE nb _ _).1 hx with h | ⟨⟨i,hi,hx⟩,hs⟩
  ·exact ih x h
  ·cases hn:nb i with
   | none=>rw [hn] at hx; exact absurd hx (by simp)
   | some l=>rw [hn] at hx; exact .step i x l (ih i hi) hn hx hs
theorem n9 {x:Int} (h:Reach nb x):(nb x).isSome=true:=by
 cases h with
 | root h=>exact h
 | step _ _ _ _ _ _ h=>exact h
def al5 (l:List Int):Prop:=∀ i ∈ l,∀ x ∈ (nb i).getD [],(nb x).isSome=true→x ∈ l
theorem ab1 (k:Nat):al5 nb (cG nb k)∨k+1≤(cG nb k).length:=by
 induction k with
 | zero=>exact .inr (by simp [cG])
 | succ k ih=>
  by_cases hs:al5 nb (cG nb k)
  ·left
   have e:cG nb (k+1)=cG nb k:=by
    refine ani (iG nb _) (iG nb _) fun x=>?_
    show x ∈ ahA nb _↔_
    rw [nE]
    exact ⟨fun h=>h.elim id fun ⟨⟨i,hi,hx⟩,hx'⟩=>hs i hi x hx hx',.inl⟩
   rw [e]; exact hs
  ·right
   have ih:=ih.resolve_left hs
   obtain ⟨x,hx1,hx2⟩:∃ x,x ∈ cG nb (k+1)∧x ∉ cG nb k:=by
    apply Classical.byContradiction
    intro hc
    apply hs
    intro i hi x hx hx'
    apply Classical.byContradiction
    intro hn
    exact hc ⟨x,(nE nb _ _).2 (.inr ⟨⟨i,hi,hx⟩,hx'⟩),hn⟩
   have:=pQ (l:=x::cG nb k) (m:=cG nb (k+1)) (lW4.2 ⟨hx2,pR (iG nb k)⟩) (by
    intro y hy
    rcases lG.1 hy with rfl | hy
    ·exact hx1
    ·exact (nE nb _ _).2 (.inl hy))
   simp only [lN1] at this
   omega
theorem ae1 {n:Nat} (hn:∀ l:List Int,l.Nodup→(∀ x ∈ l,(nb x).isSome=true)→l.length≤n) (x:Int):x ∈ rJ nb n↔Reach nb x:=by
 by_cases h1:(nb 1).isSome=true
 ·rw [rJ,lF h1]
  refine ⟨nG nb h1 n x,fun h=>?_⟩
  have hl:=hn _ (pR (iG nb n)) fun y hy=>n9 nb (nG nb h1 n y hy)
  have hs:al5 nb (cG nb n):=(ab1 nb n).resolve_right (by omega)
  have hroot:∀ k,1 ∈ cG nb k:=by
   intro k
   induction k with
   | zero=>simp [cG]
   | succ k ih=>exact (nE nb _ _).2 (.inl ih)
  induction h with
  | root _=>exact hroot n
  | step i j l hi hl hj hs' ih=>exact hs i ih j (by rw [hl]; exact hj) hs'
 ·rw [rJ,lK h1]
  refine ⟨fun h=>absurd h (by simp),fun h=>?_⟩
  exfalso
  apply h1
  clear hn
  induction h with
  | root h=>exact h
  | step _ _ _ _ _ _ _ ih=>exact ih
end
end
def okc (c:UInt8):Bool:=(decide (97≤c) && decide (c≤122)) || (decide (48≤c) && decide (c≤57)) || decide (c=95) || decide (c=45) || decide (c=46)
def aW (s:aA):Bool:=s.all okc && decide (1≤s.length) && decide (s.length≤14) && decide (s≠[46]) && decide (s≠[46,46])
def b8:aA→List aA
 | []=>[[]]
 | c::s=>if c=47 then []::b8 s else match b8 s with
  | []=>[[c]]
  | h::t=>(c::h)::t
def cS (l:List aA):Bool:=decide (l.length≤30) && l.all aW
def uQ:List aA→Option (List aA)
 | []::n::l=>some (n::l)
 | _=>none
def aB (s:aA):List aA × Bool:=if s=[47] then ([],true) else match uQ (b8 s) with
 | some l=>if cS l=true then (l,true) else ([],false)
 | none=>([],false)
def eT (l:List aA):aA:=l.flatMap fun n=>47::n
def cO (l:List aA):aA:=if cS l=true then (if l=[] then [47] else eT l) else []
def aJ (s:aA):aA × aA × Bool:=if (aB s).2=true∧(aB s).1≠[] then (cO (aB s).1.dropLast,(aB s).1.getLastD [],true) else ([],[],false)
def xG (a b:aA):Bool:=(aB a).2 && ((aB b).2 && (aB a).1.isPrefixOf (aB b).1)
theorem tK (s:aA):b8 s≠[]:=by
 cases s with
 | nil=>simp [b8]
 | cons c s=>
  rw [b8]
  split
  ·simp
  ·split <;> simp
theorem tL (c:UInt8) (s:aA) (h:c≠47):∃ a t,b8 s=a::t∧b8 (c::s)=(c::a)::t:=by
 cases e:b8 s with
 | nil=>exact absurd e (tK s)
 | cons a t=>exact ⟨a,t,rfl,by rw [b8,lK h,e]⟩
theorem tM (n s:aA) (h:∀ c ∈ n,c≠47):b8 (n++47::s)=n::b8 s:=by
 induction n with
 | nil=>rw [lD1,b8,lF rfl]
 | cons c n ih=>
  have ih:=ih fun x hx=>h x (by simp [hx])
  rw [lT1,b8,lK (h c (by simp)),ih]
theorem tN (n:aA) (h:∀ c ∈ n,c≠47):b8 n=[n]:=by
 induction n with
 | nil=>rfl
 | cons c n ih=>
  have ih:=ih fun x hx=>h x (by simp [hx])
  rw [b8,lK (h c (by simp)),ih]
theorem ab2 (l:List aA) (h:∀ n ∈ l,∀ c ∈ n,c≠47) (s:aA) (hs:∀ c ∈ s,c≠47):b8 (s++eT l)=s::l:=by
 induction l generalizing s with
 | nil=>rw [eT]; simpa using tN s hs
 | cons n l ih=>
  have ih:=ih (fun m hm=>h m (by simp [hm])) n (h n (by simp))
  have e:s++eT (n::l)=s++47::(n++eT l):=by simp [eT]
  rw [e,tM s _ hs,ih]
theorem ab3 (s:aA):∀ a t,b8 s=a::t→s=a++eT t∧(∀ n ∈ a::t,∀ c ∈ n,c≠47):=by
 induction s with
 | nil=>
  intro a t h
  rw [b8] at h
  injection h with h1 h2
  subst h1; subst h2
  simp [eT]
 | cons c s ih=>
  intro a t h
  by_cases hc:c=47
  ·rw [b8,lF hc] at h
   injection h with h1 h2
   subst h1
   cases e:b8 s with
   | nil=>exact absurd e (tK s)
   | cons b u=>
    rw [e] at h2
    subst h2
    obtain ⟨i1,i2⟩:=ih b u e
    refine ⟨?_,fun n hn=>?_⟩
    ·rw [i1,hc]; simp [eT]
    ·rcases lG.1 hn with rfl | hn
     ·simp
     ·exact i2 n hn
  ·obtain ⟨b,u,e1,e2⟩:=tL c s hc
   rw [e2] at h
   injection h with h1 h2
   subst h1; subst h2
   obtain ⟨i1,i2⟩:=ih b u e1
   refine ⟨by rw [i1]; rfl,fun n hn x hx=>?_⟩
   rcases lG.1 hn with rfl | hn
   ·rcases lG.1 hx with rfl | hx
    ·exact hc
    ·exact i2 b (by simp) x hx
   ·exact i2 n (by simp [hn]) x hx
theorem ae2 {n:aA} (h:aW n=true):∀ c ∈ n,c≠47:=by
 intro c hc
 simp only [aW,lN] at h
 have:=lV.1 h.1.1.1.1 c hc
 rintro rfl
 exact absurd this (by decide)
theorem mE {n:aA} (h:aW n=true):1≤n.length∧n.length≤14:=by
 simp only [aW,lN,decide_eq_true_eq] at h
 exact ⟨h.1.1.1.2,h.1.1.2⟩
theorem jV {l:List aA} (h:cS l=true):l.length≤30∧∀ n ∈ l,aW n=true:=by
 simp only [cS,lN,decide_eq_true_eq,lV] at h
 exact h
theorem oA {l:List aA} (h1:l.length≤30) (h2:∀ n ∈ l,aW n=true):cS l=true:=by
 simp only [cS,lN,decide_eq_true_eq,lV]
 exact ⟨h1,h2⟩
theorem ab4 {l:List aA} (h:cS l=true) (hne:l≠[]):aB (eT l)=(l,true):=by
 obtain ⟨h1,h2⟩:=jV h
 have e:=ab2 l (fun n hn=>ae2 (h2 n hn)) [] (by simp)
 rw [lD1] at e
 cases l with
 | nil=>exact absurd rfl hne
 | cons n l=>
  have hn:=mE (h2 n (by simp))
  have hs:eT (n::l)≠[47]:=by
   intro hc
   have h3:(eT (n::l)).length=1:=by rw [hc]; rfl
   have h4:eT (n::l)=47::(n++eT l):=by simp [eT]
   rw [h4] at h3
   simp only [lN1,lY] at h3
   omega
  rw [aB,lK hs,e]
  simp only [uQ,h,lF]
theorem ab5 {l:List aA} (h:cS l=true):aB (cO l)=(l,true):=by
 rw [cO,lF h]
 split
 ·rename_i e; subst e; rw [aB,lF rfl]
 ·rename_i e; exact ab4 h e
theorem pT {s:aA} (h:(aB s).2=true):cS (aB s).1=true∧cO (aB s).1=s:=by
 unfold aB at h ⊢
 split
 ·rename_i e; subst e; exact ⟨by decide,by decide⟩
 ·rename_i hs
  rw [lK hs] at h
  cases e:uQ (b8 s) with
  | none=>rw [e] at h; exact absurd h (by simp)
  | some l=>
   rw [e] at h
   simp only at h ⊢
   by_cases hn:cS l=true
   ·rw [lF hn]
    refine ⟨hn,?_⟩
    show cO l=s
    cases e2:b8 s with
    | nil=>rw [e2] at e; exact absurd e (by simp [uQ])
    | cons a t=>
     obtain ⟨i1,_⟩:=ab3 s a t e2
     rw [e2] at e
     cases a with
     | cons c a=>exact absurd e (by simp [uQ])
     | nil=>
      cases t with
      | nil=>exact absurd e (by simp [uQ])
      | cons m t=>
       simp only [uQ,Option.some.injEq] at e
       subst e
       rw [cO,lF hn,lK (by simp),i1,lD1]
   ·rw [lK hn] at h; exact absurd h (by simp)
theorem adn {s:aA} (h:(aB s).2=false):aB s=([],false):=by
 unfold aB at h ⊢
 split
 ·rename_i e; rw [lF e] at h; exact absurd h (by simp)
 ·rename_i hs
  rw [lK hs] at h
  cases e:uQ (b8 s) with
  | none=>rfl
  | some l=>
   rw [e] at h
   simp only at h ⊢
   by_cases hn:cS l=true
   ·rw [lF hn] at h; exact absurd h (by simp)
   ·rw [lK hn]
theorem aac {l:List aA} (h:cS l=true) (n:Nat):cS (l.take n)=true:=by
 obtain ⟨h1,h2⟩:=jV h
 exact oA (by rw [lT]; omega) fun m hm=>h2 m (List.take_subset _ _ hm)
theorem mR {l:List aA} (h:cS l=true):cS l.dropLast=true:=by
 rw [List.dropLast_eq_take]; exact aac h _
theorem ahB (s:aA):(aJ s).2.2=true↔(aB s).2=true∧(aB s).1≠[]:=by
 unfold aJ
 split
 ·rename_i h; exact ⟨fun _=>h,fun _=>rfl⟩
 ·rename_i h; exact ⟨fun h'=>absurd h' (by simp),fun h'=>absurd h' h⟩
theorem ahC {s:aA} (h:(aB s).2=true) (hne:(aB s).1≠[]) :
  aJ s=(cO (aB s).1.dropLast,(aB s).1.getLastD [],true)∧aB (cO (aB s).1.dropLast)=((aB s).1.dropLast,true):=by
 refine ⟨by rw [aJ,lF ⟨h,hne⟩],ab5 (mR (pT h).1)⟩
def bC (x:Inode) (n:aA):Int:=((x.ents.find? fun e=>decide (e.name=n)).map Ent.ino).getD 0
def aC (t:Tab) (i:Int):Option Inode:=t.inodes.find? fun x=>decide (x.ino=i)
def fF (x:Inode):List Int:=if x.kind=2 then x.ents.map Ent.ino else []
def nbT (t:Tab) (i:Int):Option (List Int):=(aC t i).map fF
def f8 (t:Tab):List Int:=rJ (nbT t) t.inodes.length
def aY (t:Tab) (i:Int):Nat:=(t.inodes.map fun x=>(fF x).count i).sum
def dO (t:Tab):Nat:=(t.inodes.map fun x=>32+x.data.length+(x.attrs.map fun a=>a.name.length+a.val.length).sum).sum
def mF (t:Tab):List aA→Int→Int × Int
 | [],i=>(i,0)
 | n::l,i=>match aC t i with
  | none=>(0,2)
  | some x=>if x.kind=2 then (if bC x n=0 then (0,2) else mF t l (bC x n)) else (0,3)
def rK (t:Tab) (s:aA):Int × Int:=if (aB s).2=true then mF t (aB s).1 1 else (0,1)
structure EntsOk (l:List Ent):Prop where
 len:l.length≤10
 ok:∀ e ∈ l,aW e.name=true∧2≤e.ino∧e.ino≤1000
 up:l.Pairwise fun a b=>a.name<b.name
structure AttrsOk (l:List Attr):Prop where
 len:l.length≤4
 ok:∀ a ∈ l,aW a.name=true∧1≤a.val.length∧a.val.length≤16
 up:l.Pairwise fun a b=>a.name<b.name
structure InodeOk (x:Inode):Prop where
 ino:1≤x.ino∧x.ino≤1000
 links:0≤x.links∧x.links≤1000
 root:x.links=0↔x.ino=1
 data:x.data.length≤100
 ents:EntsOk x.ents
 attrs:AttrsOk x.attrs
 kind:(x.kind=1∧x.ents=[])∨(x.kind=2∧x.data=[]∧x.links≤1)
structure TabOk (t:Tab):Prop where
 len:t.inodes.length≤30
 next:2≤t.next∧t.next≤1000
 ok:∀ x ∈ t.inodes,InodeOk x∧x.ino<t.next
 up:t.inodes.Pairwise fun a b=>a.ino<b.ino
 root:∃ x,aC t 1=some x∧x.kind=2
structure TreeOk (t:Tab):Prop where
 tab:TabOk t
 reach:(f8 t).length=t.inodes.length
 links:∀ x ∈ t.inodes,((aY t x.ino:Nat):Int)=x.links
 there:∀ x ∈ t.inodes,∀ e ∈ x.ents,(aC t e.ino).isSome=true
theorem aL {t:Tab} {i:Int} {x:Inode} (h:aC t i=some x):x ∈ t.inodes∧x.ino=i:=by
 refine ⟨List.mem_of_find?_eq_some h,?_⟩
 have:=List.find?_some h
 simpa using this
theorem aad {t:Tab} (h:t.inodes.Pairwise fun a b=>a.ino<b.ino) {x:Inode} (hx:x ∈ t.inodes):aC t x.ino=some x:=by
 unfold aC
 generalize t.inodes=l at *
 induction l with
 | nil=>exact absurd hx (by simp)
 | cons y l ih=>
  obtain ⟨a1,a2⟩:=lZ.1 h
  rcases lG.1 hx with rfl | hx
  ·rw [lM1 (by simp)]
  ·rw [lB1 (by have:=a1 x hx; simp; omega)]
   exact ih a2 hx
theorem ae3 {t:Tab} (h:t.inodes.Pairwise fun a b=>a.ino<b.ino):(t.inodes.map Inode.ino).Nodup:=by
 rw [List.Nodup,List.pairwise_map]
 exact h.imp fun h=>by omega
theorem rZ (t:Tab):∀ l:List Int,l.Nodup→(∀ x ∈ l,(nbT t x).isSome=true)→l.length≤t.inodes.length:=by
 intro l hl hs
 have:=pQ (m:=t.inodes.map Inode.ino) hl fun x hx=>by
  have:=hs x hx
  cases e:aC t x with
  | none=>rw [nbT,e] at this; exact absurd this (by simp)
  | some y=>obtain ⟨h1,h2⟩:=aL e; exact lX1.2 ⟨y,h1,h2⟩
 simpa using this
theorem mG (t:Tab) (i:Int):i ∈ f8 t↔Reach (nbT t) i:=ae1 _ (rZ t) i
theorem ae4 {l m:List Int} (hl:l.Nodup) (hs:∀ x ∈ l,x ∈ m) (he:m.length≤l.length):∀ x ∈ m,x ∈ l:=by
 intro x hx
 apply Classical.byContradiction
 intro hn
 have:=pQ (l:=x::l) (m:=m) (lW4.2 ⟨hn,hl⟩) fun y hy=>by
  rcases lG.1 hy with rfl | hy
  ·exact hx
  ·exact hs y hy
 simp only [lN1] at this
 omega
theorem ab6 {t:Tab} (h:TreeOk t):∀ x ∈ t.inodes,Reach (nbT t) x.ino:=by
 intro x hx
 rw [← mG]
 refine ae4 (m:=t.inodes.map Inode.ino) (pR (aab _ _)) (fun i hi=>?_) (by have:=h.reach; unfold f8 at this; rw [this,List.length_map]; exact Nat.le_refl _) _ (List.mem_map.2 ⟨x,hx,rfl⟩)
 have:=n9 _ ((mG t i).1 hi)
 cases e:aC t i with
 | none=>rw [nbT,e] at this; exact absurd this (by simp)
 | some y=>obtain ⟨h1,h2⟩:=aL e; exact lX1.2 ⟨y,h1,h2⟩
theorem aae {t:Tab} (hu:t.inodes.Pairwise fun a b=>a.ino<b.ino) (h:∀ x ∈ t.inodes,Reach (nbT t) x.ino):(f8 t).length=t.inodes.length:=by
 apply Nat.le_antisymm
 ·refine rZ t _ (pR (aab _ _)) fun x hx=>n9 _ ((mG t x).1 hx)
 ·have:=pQ (l:=t.inodes.map Inode.ino) (m:=f8 t) (ae3 hu) fun i hi=>by
   obtain ⟨x,hx,rfl⟩:=lX1.1 hi
   exact (mG t _).2 (h x hx)
  simpa using this
abbrev IM:=Int→Option Inode
def aP (M:IM):List aA→Int→Option Int
 | [],i=>some i
 | n::l,i=>match M i with
  | none=>none
  | some x=>if x.kind=2∧bC x n≠0 then aP M l (bC x n) else none
theorem al6 (t:Tab) (l:List aA):∀ i j,mF t l i=(j,0)↔aP (aC t) l i=some j:=by
 induction l with
 | nil=>intro i j; simp [mF,aP]
 | cons n l ih=>
  intro i j
  rw [mF,aP]
  cases aC t i with
  | none=>simp
  | some x=>
   simp only
   by_cases hk:x.kind=2
   ·by_cases he:bC x n=0
    ·rw [lF hk,lF he,lK (by simp [he])]; simp
    ·rw [lF hk,lK he,lF ⟨hk,he⟩]; exact ih _ _
   ·rw [lK hk,lK (by simp [hk])]; simp
theorem cE (M:IM) (a b:List aA):∀ i,aP M (a++b) i=(aP M a i).bind fun j=>aP M b j:=by
 induction a with
 | nil=>intro i; simp [aP]
 | cons n a ih=>
  intro i
  rw [lT1,aP,aP]
  cases M i with
  | none=>rfl
  | some x=>
   simp only
   split
   ·exact ih _
   ·rfl
theorem gO (M:IM) (n:aA) (i j:Int):aP M [n] i=some j↔∃ x,M i=some x∧x.kind=2∧bC x n=j∧j≠0:=by
 rw [aP]
 cases M i with
 | none=>simp
 | some x=>
  simp only [aP]
  constructor
  ·intro h
   split at h
   ·rename_i hc
    injection h with h
    subst h
    exact ⟨x,rfl,hc.1,rfl,hc.2⟩
   ·exact absurd h (by simp)
  ·rintro ⟨y,hy,h1,h2,h3⟩
   injection hy with hy
   subst hy
   subst h2
   rw [lF ⟨h1,h3⟩]
theorem qW {x:Inode} {n:aA} (h:bC x n≠0):∃ e ∈ x.ents,e.name=n∧e.ino=bC x n:=by
 unfold bC at h ⊢
 cases e:x.ents.find? fun e=>decide (e.name=n) with
 | none=>rw [e] at h; exact absurd rfl h
 | some y=>exact ⟨y,List.mem_of_find?_eq_some e,by simpa using List.find?_some e,by simp⟩
theorem eN {x:Inode} (hu:x.ents.Pairwise fun a b=>a.name<b.name) {e:Ent} (he:e ∈ x.ents):bC x e.name=e.ino:=by
 unfold bC
 generalize x.ents=l at *
 induction l with
 | nil=>exact absurd he (by simp)
 | cons y l ih=>
  obtain ⟨a1,a2⟩:=lZ.1 hu
  rcases lG.1 he with rfl | he
  ·rw [lM1 (by simp)]; rfl
  ·rw [lB1 ?_]
   ·exact ih a2 he
   ·have:=a1 e he
    simp only [decide_eq_true_eq]
    intro hc
    rw [hc] at this
    exact absurd this (lX3 _)
theorem ab7 {x:Inode} {n:aA} (h:∀ e ∈ x.ents,e.ino≠0):bC x n=0↔∀ e ∈ x.ents,e.name≠n:=by
 constructor
 ·intro h0 e he hn
  unfold bC at h0
  cases hf:x.ents.find? fun e=>decide (e.name=n) with
  | none=>exact absurd hn (by simpa using List.find?_eq_none.1 hf e he)
  | some y=>rw [hf] at h0; exact h y (List.mem_of_find?_eq_some hf) (by simpa using h0)
 ·intro hn
  apply Classical.byContradiction
  intro hc
  obtain ⟨e,he,h1,_⟩:=qW hc
  exact hn e he h1
section
theorem jW {α:Type} (f:α→Nat) (l:List α) {p:α} (hp:p ∈ l):f p≤(l.map f).sum:=by
 induction l with
 | nil=>exact absurd hp (by simp)
 | cons x l ih=>
  rw [lO,lB2]
  rcases lG.1 hp with rfl | hp
  ·omega
  ·have:=ih hp; omega
theorem vL {α:Type} (f:α→Nat) (l:List α) {p q:α} (hp:p ∈ l) (hq:q ∈ l) (hne:p≠q):f p+f q≤(l.map f).sum:=by
 induction l with
 | nil=>exact absurd hp (by simp)
 | cons x l ih=>
  rw [lO,lB2]
  rcases lG.1 hp with rfl | hp'
  ·rcases lG.1 hq with rfl | hq'
   ·exact absurd rfl hne
   ·have:=jW f l hq'; omega
  ·rcases lG.1 hq with rfl | hq'
   ·have:=jW f l hp'; omega
   ·have:=ih hp' hq'; omega
theorem ahD (l:List Ent) (i:Int):(l.map Ent.ino).count i=(l.map fun e=>if e.ino=i then 1 else 0).sum:=by
 induction l with
 | nil=>rfl
 | cons e l ih=>
  rw [lO,lO,lB2,List.count_cons,ih]
  by_cases h:e.ino=i <;> simp [h] <;> omega
theorem al7 {α:Type} (f:α→Nat) (l:List α) (h:0<(l.map f).sum):∃ x ∈ l,0<f x:=by
 induction l with
 | nil=>exact absurd h (by simp)
 | cons x l ih=>
  rw [lO,lB2] at h
  by_cases hx:0<f x
  ·exact ⟨x,by simp,hx⟩
  ·obtain ⟨y,hy,h'⟩:=ih (by omega)
   exact ⟨y,by simp [hy],h'⟩
variable {t:Tab}
theorem bM (h:TreeOk t) {x:Inode} (hx:x ∈ t.inodes):EntsOk x.ents:=(h.tab.ok x hx).1.ents
theorem oZ (h:TreeOk t) {x:Inode} (hx:x ∈ t.inodes):∀ e ∈ x.ents,e.ino≠0:=fun e he=>by have:=((bM h hx).ok e he).2.1; omega
theorem fV (h:TreeOk t) {x:Inode} (hx:x ∈ t.inodes):aC t x.ino=some x:=aad h.tab.up hx
theorem nH (h:TreeOk t) {x:Inode} (hx:x ∈ t.inodes) (hk:x.kind=2):x.links≤1:=by
 rcases (h.tab.ok x hx).1.kind with ⟨h1,_⟩ | ⟨_,_,h1⟩
 ·omega
 ·exact h1
theorem nI (h:TreeOk t) {x:Inode} (hx:x ∈ t.inodes) (hk:x.kind≠2):x.ents=[]∧x.kind=1:=by
 rcases (h.tab.ok x hx).1.kind with ⟨h1,h2⟩ | ⟨h1,_⟩
 ·exact ⟨h2,h1⟩
 ·exact absurd h1 hk
theorem ab8 (h:TreeOk t) {x p q:Inode} (hx:x ∈ t.inodes) (hl:x.links≤1) (hp:p ∈ t.inodes) (hq:q ∈ t.inodes) (kp:p.kind=2) (kq:q.kind=2)
  {e f:Ent} (he:e ∈ p.ents) (hf:f ∈ q.ents) (e1:e.ino=x.ino) (f1:f.ino=x.ino):p=q∧e=f:=by
 have hs:aY t x.ino≤1:=by have:=h.links x hx; omega
 have cp:∀ y:Inode,y.kind=2→(fF y).count x.ino=(y.ents.map fun e=>if e.ino=x.ino then 1 else 0).sum:=fun y hy=>by rw [fF,lF hy,ahD]
 have one:∀ (y:Inode) (g:Ent),y.kind=2→g ∈ y.ents→g.ino=x.ino→1≤(fF y).count x.ino:=fun y g hy hg hi=>by
  rw [cp y hy]
  have:=jW (fun e:Ent=>if e.ino=x.ino then 1 else 0) y.ents hg
  simpa [hi] using this
 have epq:p=q:=by
  apply Classical.byContradiction
  intro hne
  have:=vL (fun y:Inode=>(fF y).count x.ino) t.inodes hp hq hne
  have a:=one p e kp he e1
  have b:=one q f kq hf f1
  unfold aY at hs
  omega
 subst epq
 refine ⟨rfl,?_⟩
 apply Classical.byContradiction
 intro hne
 have a:=vL (fun e:Ent=>if e.ino=x.ino then 1 else 0) p.ents he hf hne
 have b:=jW (fun y:Inode=>(fF y).count x.ino) t.inodes hp
 have c:=cp p kp
 simp only [e1,f1,lP] at a
 unfold aY at hs
 omega
theorem eO (h:TreeOk t):∃ x,aC t 1=some x∧x.kind=2∧x ∈ t.inodes:=by
 obtain ⟨x,h1,h2⟩:=h.tab.root
 exact ⟨x,h1,h2,(aL h1).1⟩
theorem jX (_:TreeOk t) {a:List aA} {n:aA} {i j:Int} (hw:aP (aC t) (a++[n]) i=some j) :
  ∃ p y e,aP (aC t) a i=some p∧aC t p=some y∧y ∈ t.inodes∧y.ino=p∧y.kind=2∧e ∈ y.ents∧e.name=n∧e.ino=j:=by
 rw [cE] at hw
 cases ha:aP (aC t) a i with
 | none=>rw [ha] at hw; exact absurd hw (by simp)
 | some p=>
  rw [ha] at hw
  obtain ⟨y,h1,h2,h3,h4⟩:=(gO _ n p j).1 hw
  obtain ⟨hy1,hy2⟩:=aL h1
  obtain ⟨e,he,e1,e2⟩:=qW (x:=y) (n:=n) (by rw [h3]; exact h4)
  exact ⟨p,y,e,rfl,h1,hy1,hy2,h2,he,e1,by rw [e2,h3]⟩
theorem vM (h:TreeOk t) {l:List aA} {i:Int} (hw:aP (aC t) l 1=some i):∃ x,aC t i=some x∧x ∈ t.inodes∧x.ino=i:=by
 rcases lC3 l with rfl | ⟨a,n,rfl⟩
 ·simp only [aP,Option.some.injEq] at hw
  subst hw
  obtain ⟨x,h1,_,h3⟩:=eO h
  exact ⟨x,h1,h3,(aL h1).2⟩
 ·rw [lD3] at hw
  obtain ⟨p,y,e,_,_,hy,_,_,he,_,e2⟩:=jX h hw
  have:=h.there y hy e he
  rw [e2] at this
  obtain ⟨x,hx⟩:=lA1.1 this
  exact ⟨x,hx,(aL hx).1,(aL hx).2⟩
theorem o0 (h:TreeOk t):∀ (l l':List aA) (i:Int) (x:Inode),aC t i=some x→x.links≤1→aP (aC t) l 1=some i→aP (aC t) l' 1=some i→l=l':=by
 have noroot:∀ (a:List aA) (n:aA),aP (aC t) (a++[n]) 1≠some 1:=by
  intro a n hw
  obtain ⟨p,y,e,_,_,hy,_,_,he,_,e2⟩:=jX h hw
  have:=((bM h hy).ok e he).2.1
  omega
 suffices ∀ (k:Nat) (l l':List aA) (i:Int) (x:Inode),l.length=k→aC t i=some x→x.links≤1→aP (aC t) l 1=some i→aP (aC t) l' 1=some i→l=l' from
  fun l l' i x=>this l.length l l' i x rfl
 intro k
 induction k with
 | zero=>
  intro l l' i x hk hx hl h1 h2
  have:l=[]:=lQ1.1 hk
  subst this
  simp only [aP,Option.some.injEq] at h1
  subst h1
  rcases lC3 l' with rfl | ⟨b,m,rfl⟩
  ·rfl
  ·rw [lD3] at h2; exact absurd h2 (noroot b m)
 | succ k ih=>
  intro l l' i x hk hx hl h1 h2
  rcases lC3 l with rfl | ⟨a,n,rfl⟩
  ·exact absurd hk (by simp)
  rw [lD3] at h1 hk ⊢
  rcases lC3 l' with rfl | ⟨b,m,rfl⟩
  ·simp only [aP,Option.some.injEq] at h2
   subst h2
   exact absurd h1 (noroot a n)
  rw [lD3] at h2 ⊢
  obtain ⟨p,y,e,w1,y1,y2,y3,y4,e1,e2,e3⟩:=jX h h1
  obtain ⟨q,z,f,w2,z1,z2,z3,z4,f1,f2,f3⟩:=jX h h2
  obtain ⟨hx1,hx2⟩:=aL hx
  obtain ⟨r1,r2⟩:=ab8 h hx1 hl y2 z2 y4 z4 e1 f1 (by rw [e3,hx2]) (by rw [f3,hx2])
  subst r1; subst r2
  rw [← e2,← f2]
  have:=ih a b p y (by simpa using hk) y1 (nH h y2 y4) w1 (by rw [← y3,z3]; exact w2)
  rw [this]
theorem f9 (h:TreeOk t) {x:Inode} (hx:x ∈ t.inodes):∃ l,aP (aC t) l 1=some x.ino:=by
 have key:∀ i,Reach (nbT t) i→∃ l,aP (aC t) l 1=some i:=by
  intro i hr
  induction hr with
  | root _=>exact ⟨[],rfl⟩
  | step i j js hi hl hj hs ih=>
   obtain ⟨l,hl'⟩:=ih
   unfold nbT at hl
   cases e:aC t i with
   | none=>rw [e] at hl; exact absurd hl (by simp)
   | some y=>
    rw [e] at hl
    simp only [lB,Option.some.injEq] at hl
    obtain ⟨hy1,hy2⟩:=aL e
    by_cases hk:y.kind=2
    ·rw [fF,lF hk] at hl
     subst hl
     obtain ⟨g,hg,rfl⟩:=lX1.1 hj
     refine ⟨l++[g.name],?_⟩
     rw [cE,hl']
     exact (gO _ _ _ _).2 ⟨y,e,hk,eN (bM h hy1).up hg,oZ h hy1 g hg⟩
    ·rw [fF,lK hk] at hl
     subst hl
     exact absurd hj (by simp)
 exact key _ (ab6 h x hx)
theorem xH (h:∀ l i,aP (aC t) l 1=some i→(aC t i).isSome=true):∀ l i,aP (aC t) l 1=some i→Reach (nbT t) i:=by
 suffices ∀ (k:Nat) (l:List aA) (i:Int),l.length=k→aP (aC t) l 1=some i→Reach (nbT t) i from fun l i=>this l.length l i rfl
 have nbs:∀ i,(aC t i).isSome=true→(nbT t i).isSome=true:=fun i hi=>by unfold nbT; simpa using hi
 intro k
 induction k with
 | zero=>
  intro l i hk hw
  have:l=[]:=lQ1.1 hk
  subst this
  have:=h [] i hw
  simp only [aP,Option.some.injEq] at hw
  subst hw
  exact .root (nbs _ this)
 | succ k ih=>
  intro l i hk hw
  rcases lC3 l with rfl | ⟨a,n,rfl⟩
  ·exact absurd hk (by simp)
  rw [lD3] at hw hk
  have hs:=h _ i hw
  rw [cE] at hw
  cases ha:aP (aC t) a 1 with
  | none=>rw [ha] at hw; exact absurd hw (by simp)
  | some p=>
   rw [ha] at hw
   obtain ⟨y,h1,h2,h3,h4⟩:=(gO _ n p i).1 hw
   obtain ⟨e,he,e1,e2⟩:=qW (x:=y) (n:=n) (by rw [h3]; exact h4)
   refine .step p i (y.ents.map Ent.ino) (ih a p (by simpa using hk) ha) (by rw [nbT,h1]; simp [fF,h2]) ?_ (nbs i hs)
   exact lX1.2 ⟨e,he,by rw [e2,h3]⟩
theorem qX (h:TreeOk t) {l:List aA} {i:Int} (hw:aP (aC t) l 1=some i):l.length<t.inodes.length∧∀ n ∈ l,aW n=true:=by
 have pre:∀ k,∃ j,k≤l.length→aP (aC t) (l.take k) 1=some j:=by
  intro k
  by_cases hk:k≤l.length
  ·have:=hw
   rw [← lJ k l,cE] at this
   cases e:aP (aC t) (l.take k) 1 with
   | none=>rw [e] at this; exact absurd this (by simp)
   | some j=>exact ⟨j,fun _=>rfl⟩
  ·exact ⟨0,fun h=>absurd h hk⟩
 obtain ⟨f,hf⟩:=Classical.axiomOfChoice pre
 have stepd:∀ k,k<l.length→∃ y e,aC t (f k)=some y∧y ∈ t.inodes∧y.kind=2∧e ∈ y.ents∧l[k]?=some e.name:=by
  intro k hk
  have h1:=hf (k+1) (by omega)
  rw [lS hk] at h1
  obtain ⟨p,y,e,w1,y1,y2,_,y4,e1,e2,_⟩:=jX h h1
  have h0:=hf k (by omega)
  rw [h0] at w1
  injection w1 with w1
  subst w1
  exact ⟨y,e,y1,y2,y4,e1,by rw [lH hk,e2]⟩
 refine ⟨?_,fun n hn=>?_⟩
 ·have hlen:((List.range (l.length+1)).map f).length≤t.inodes.length:=by
   refine rZ t _ ?_ ?_
   ·rw [List.Nodup,List.pairwise_map]
    refine List.Pairwise.imp_of_mem ?_ (List.pairwise_lt_range (n:=l.length+1))
    intro a b ha hb hab hc
    have hb':=List.mem_range.1 hb
    obtain ⟨y,_,y1,y2,y4,_⟩:=stepd a (by omega)
    have:=o0 h (l.take a) (l.take b) (f a) y y1 (nH h y2 y4) (hf a (by omega)) (by rw [hc]; exact hf b (by omega))
    have:=congrArg List.length this
    simp only [lT] at this
    omega
   ·intro x hx
    obtain ⟨k,hk,rfl⟩:=lX1.1 hx
    have hk:=List.mem_range.1 hk
    obtain ⟨y,y1,_⟩:=vM h (hf k (by omega))
    rw [nbT,y1]; rfl
  simp only [lW2,List.length_range] at hlen
  omega
 ·obtain ⟨k,hk,rfl⟩:=List.mem_iff_getElem.1 hn
  obtain ⟨y,e,_,y2,_,e1,e2⟩:=stepd k hk
  rw [lH hk] at e2
  injection e2 with e2
  rw [e2]
  exact ((bM h y2).ok e e1).1
end
section
def cJ (s:Int→aA→Option Int):List aA→Int→Option Int
 | [],i=>some i
 | n::l,i=>(s i n).bind (cJ s l)
def bT (M:IM) (i:Int) (n:aA):Option Int:=match M i with
 | none=>none
 | some x=>if x.kind=2∧bC x n≠0 then some (bC x n) else none
theorem cL (M:IM) (l:List aA):∀ i,aP M l i=cJ (bT M) l i:=by
 induction l with
 | nil=>intro i; rfl
 | cons n l ih=>
  intro i
  rw [aP,cJ,bT]
  cases M i with
  | none=>rfl
  | some x=>
   simp only
   split
   ·exact ih _
   ·rfl
section
variable {s s':Int→aA→Option Int}
theorem dH (a b:List aA):∀ i,cJ s (a++b) i=(cJ s a i).bind fun j=>cJ s b j:=by
 induction a with
 | nil=>intro i; simp [cJ]
 | cons n a ih=>
  intro i
  rw [lT1,cJ,cJ]
  cases s i n with
  | none=>rfl
  | some j=>exact ih j
theorem aaf {D:Int} {n:aA} (hs:∀ i m,i≠D∨m≠n→s' i m=s i m):∀ (l:List aA) (i:Int),(∀ a b,l=a++n::b→cJ s a i≠some D)→cJ s' l i=cJ s l i:=by
 intro l
 induction l with
 | nil=>intro i _; rfl
 | cons m l ih=>
  intro i h
  rw [cJ,cJ]
  have e:s' i m=s i m:=by
   apply hs
   by_cases hm:m=n
   ·left
    rintro rfl
    exact h [] l (by rw [hm]; rfl) rfl
   ·exact .inr hm
  rw [e]
  cases hc:s i m with
  | none=>rfl
  | some j=>
   show cJ s' l j=cJ s l j
   refine ih j fun a b hl hw=>h (m::a) b (by rw [hl]; rfl) ?_
   rw [cJ,hc]; exact hw
theorem fG {D:Int} {n:aA} {d:List aA} (hs:∀ i m,i≠D∨m≠n→s' i m=s i m) (hu:∀ a,cJ s a 1=some D→a=d) {l:List aA} (hp:¬ (d++[n]) <+: l) :
  cJ s' l 1=cJ s l 1:=by
 refine aaf hs l 1 fun a b hl hw=>hp ?_
 rw [← hu a hw]
 exact ⟨b,by rw [hl]; simp⟩
theorem ahE {D:Int} {n:aA} {d:List aA} (hs:∀ i m,i≠D∨m≠n→s' i m=s i m) (hu:∀ a,cJ s a 1=some D→a=d) (hd:cJ s d 1=some D):cJ s' d 1=some D:=by
 rw [fG hs hu ?_,hd]
 rintro ⟨b,hb⟩
 have:=congrArg List.length hb
 simp at this
theorem pU {D:Int} {n:aA} {d:List aA} (hs:∀ i m,i≠D∨m≠n→s' i m=s i m) (hu:∀ a,cJ s a 1=some D→a=d) (hd:cJ s d 1=some D) (b:List aA) :
  cJ s' (d++n::b) 1=(s' D n).bind (cJ s' b):=by
 rw [dH,ahE hs hu hd]; rfl
theorem tO {D:Int} {n:aA} (hs:∀ i m,i≠D∨m≠n→s' i m=s i m) {j:Int} (hj:∀ a,cJ s a j≠some D) (b:List aA):cJ s' b j=cJ s b j:=
 aaf hs b j fun a _ _=>hj a
end
def bO:List Inode→Inode→List Inode
 | [],x=>[x]
 | y::l,x=>if y.ino=x.ino then x::l else if x.ino<y.ino then x::y::l else y::bO l x
def aF (t:Tab) (x:Inode):Tab:={ inodes:=bO t.inodes x,next:=t.next }
def jJ (t:Tab) (i:Int):Tab:={ inodes:=t.inodes.filter fun x=>decide (x.ino≠i),next:=t.next }
abbrev UpI (l:List Inode):Prop:=l.Pairwise fun a b=>a.ino<b.ino
theorem vN {l:List Inode} {x y:Inode} (h:y ∈ bO l x):y=x∨y ∈ l:=by
 induction l with
 | nil=>simpa [bO] using h
 | cons z l ih=>
  rw [bO] at h
  split at h
  ·rcases lG.1 h with h | h
   ·exact .inl h
   ·exact .inr (by simp [h])
  ·split at h
   ·rcases lG.1 h with h | h
    ·exact .inl h
    ·exact .inr h
   ·rcases lG.1 h with h | h
    ·exact .inr (by simp [h])
    ·rcases ih h with h | h
     ·exact .inl h
     ·exact .inr (by simp [h])
theorem ahF {l:List Inode} (h:UpI l) (x:Inode):UpI (bO l x):=by
 induction l with
 | nil=>simp [bO,UpI]
 | cons y l ih=>
  obtain ⟨a1,a2⟩:=lZ.1 h
  rw [bO]
  split
  ·rename_i e
   exact lZ.2 ⟨fun z hz=>by have:=a1 z hz; omega,a2⟩
  ·split
   ·rename_i e1 e2
    refine lZ.2 ⟨fun z hz=>?_,h⟩
    rcases lG.1 hz with rfl | hz
    ·exact e2
    ·have:=a1 z hz; omega
   ·rename_i e1 e2
    refine lZ.2 ⟨fun z hz=>?_,ih a2⟩
    rcases vN hz with rfl | hz
    ·omega
    ·exact a1 z hz
theorem ab9 {l:List Inode} (h:UpI l) (x:Inode) (j:Int) :
  (bO l x).find? (fun y=>decide (y.ino=j))=if x.ino=j then some x else l.find? fun y=>decide (y.ino=j):=by
 induction l with
 | nil=>
  rw [bO]
  by_cases e:x.ino=j <;> simp [e]
 | cons y l ih=>
  obtain ⟨a1,a2⟩:=lZ.1 h
  have nl:∀ k,k≤y.ino→l.find? (fun z=>decide (z.ino=k))=none:=fun k hk=>by
   rw [List.find?_eq_none]
   intro z hz
   have:=a1 z hz
   simp; omega
  rw [bO]
  split
  ·rename_i e
   by_cases hj:x.ino=j
   ·rw [lM1 (by simpa using hj),lF hj]
   ·rw [lB1 (by simpa using hj),lK hj,lB1 (by simp; omega)]
  ·split
   ·rename_i e1 e2
    by_cases hj:x.ino=j
    ·rw [lM1 (by simpa using hj),lF hj]
    ·rw [lB1 (by simpa using hj),lK hj]
   ·rename_i e1 e2
    by_cases hy:y.ino=j
    ·rw [lM1 (by simpa using hy),lK (by omega),lM1 (by simpa using hy)]
    ·rw [lB1 (by simpa using hy),ih a2,lB1 (by simpa using hy)]
theorem b9 {t:Tab} (h:UpI t.inodes) (x:Inode) (j:Int):aC (aF t x) j=if x.ino=j then some x else aC t j:=ab9 h x j
theorem fW {t:Tab} (h:UpI t.inodes) (x:Inode):UpI (aF t x).inodes:=ahF h x
theorem al8 {t:Tab} (h:UpI t.inodes) (i:Int):UpI (jJ t i).inodes:=h.filter _
theorem ae5 {t:Tab} (i j:Int):aC (jJ t i) j=if i=j then none else aC t j:=by
 unfold aC jJ
 simp only
 generalize t.inodes=l
 induction l with
 | nil=>simp
 | cons y l ih=>
  rw [lE4]
  by_cases hy:y.ino=i
  ·rw [lK (by simp [hy]),ih]
   by_cases hj:i=j
   ·rw [lF hj,lF hj]
   ·rw [lK hj,lK hj,lB1 (by simp; omega)]
  ·rw [lF (by simp [hy])]
   by_cases hj:y.ino=j
   ·rw [lM1 (by simpa using hj),lK (by omega),lM1 (by simpa using hj)]
   ·rw [lB1 (by simpa using hj),ih,lB1 (by simpa using hj)]
theorem ahG (f:Inode→Nat) {l:List Inode} (h:UpI l) (x:Inode) :
  ((bO l x).map f).sum+((l.find? fun y=>decide (y.ino=x.ino)).map f).getD 0=(l.map f).sum+f x:=by
 induction l with
 | nil=>simp [bO]
 | cons y l ih=>
  obtain ⟨a1,a2⟩:=lZ.1 h
  have nl:∀ k,k≤y.ino→l.find? (fun z=>decide (z.ino=k))=none:=fun k hk=>by
   rw [List.find?_eq_none]
   intro z hz
   have:=a1 z hz
   simp; omega
  rw [bO]
  split
  ·rename_i e
   rw [lM1 (by simpa using e)]
   simp only [lO,lB2,lB,lF1]
   omega
  ·split
   ·rename_i e1 e2
    rw [lB1 (by simpa using e1),nl x.ino (by omega)]
    simp only [lO,lB2,lR,Option.getD_none]
    omega
   ·rename_i e1 e2
    rw [lB1 (by simpa using e1)]
    have:=ih a2
    simp only [lO,lB2]
    omega
theorem aj5 (f:Inode→Nat) {l:List Inode} (h:UpI l) (i:Int) :
  ((l.filter fun x=>decide (x.ino≠i)).map f).sum+((l.find? fun y=>decide (y.ino=i)).map f).getD 0=(l.map f).sum:=by
 induction l with
 | nil=>simp
 | cons y l ih=>
  obtain ⟨a1,a2⟩:=lZ.1 h
  by_cases e:y.ino=i
  ·rw [lE4,lK (by simp [e]),lM1 (by simpa using e)]
   have:l.filter (fun x=>decide (x.ino≠i))=l:=by
    rw [List.filter_eq_self]
    intro z hz
    have:=a1 z hz
    simp; omega
   rw [this]
   simp only [lO,lB2,lB,lF1]
   omega
  ·rw [lE4,lF (by simp [e]),lB1 (by simpa using e)]
   have:=ih a2
   simp only [lO,lB2]
   omega
theorem mH {l:List Inode} (h:UpI l) (x:Inode):(bO l x).length+(if (l.find? fun y=>decide (y.ino=x.ino)).isSome then 1 else 0)=l.length+1:=by
 have:=ahG (fun _=>1) h x
 have e:∀ l:List Inode,(l.map fun _=>1).sum=l.length:=fun l=>by induction l with
  | nil=>rfl
  | cons y l ih=>rw [lO,lB2,ih,lN1]; omega
 rw [e,e] at this
 cases hf:l.find? fun y=>decide (y.ino=x.ino) with
 | none=>rw [hf] at this; simpa using this
 | some y=>rw [hf] at this; simpa using this
theorem fQ {t:Tab} (h:UpI t.inodes) (x:Inode) (i:Int):aY (aF t x) i+((aC t x.ino).map fun y=>(fF y).count i).getD 0=aY t i+(fF x).count i:=ahG _ h x
theorem ae6 {t:Tab} (h:UpI t.inodes) (k i:Int):aY (jJ t k) i+((aC t k).map fun y=>(fF y).count i).getD 0=aY t i:=aj5 _ h k
theorem pV {t:Tab} (h:UpI t.inodes) (x:Inode):x ∈ t.inodes↔aC t x.ino=some x:=⟨aad h,fun e=>(aL e).1⟩
theorem al9 {t u:Tab} (ht:UpI t.inodes) (hu:UpI u.inodes) (hn:t.next=u.next) (h:∀ i,aC t i=aC u i):t=u:=by
 have key:∀ (l m:List Inode),UpI l→UpI m→(∀ x,x ∈ l↔x ∈ m)→l=m:=by
  intro l
  induction l with
  | nil=>
   intro m _ _ h
   cases m with
   | nil=>rfl
   | cons y m=>exact absurd ((h y).2 (by simp)) (by simp)
  | cons x l ih=>
   intro m hl hm h
   cases m with
   | nil=>exact absurd ((h x).1 (by simp)) (by simp)
   | cons y m=>
    obtain ⟨a1,a2⟩:=lZ.1 hl
    obtain ⟨b1,b2⟩:=lZ.1 hm
    have e:x=y:=by
     have h1:=(h x).1 (by simp)
     have h2:=(h y).2 (by simp)
     rcases lG.1 h1 with h1 | h1
     ·exact h1
     rcases lG.1 h2 with h2 | h2
     ·exact h2.symm
     have:=a1 y h2; have:=b1 x h1; omega
    subst e
    congr 1
    refine ih m a2 b2 fun z=>⟨fun hz=>?_,fun hz=>?_⟩
    ·rcases lG.1 ((h z).1 (by simp [hz])) with rfl | h'
     ·exact absurd (a1 _ hz) (by omega)
     ·exact h'
    ·rcases lG.1 ((h z).2 (by simp [hz])) with rfl | h'
     ·exact absurd (b1 _ hz) (by omega)
     ·exact h'
 have e:t.inodes=u.inodes:=key _ _ ht hu fun x=>by rw [pV ht,pV hu,h]
 cases t; cases u; simp_all
end
section
section
variable {α:Type} (key:α→aA)
def tP:List α→α→List α
 | [],e=>[e]
 | f::l,e=>if key e<key f then e::f::l else f::tP l e
def ahH (l:List α) (n:aA):List α:=l.filter fun e=>decide (key e≠n)
abbrev UpK (l:List α):Prop:=l.Pairwise fun a b=>key a<key b
variable {key}
theorem mem_putK {l:List α} {e x:α}:x ∈ tP key l e↔x=e∨x ∈ l:=by
 induction l with
 | nil=>simp [tP]
 | cons f l ih=>
  rw [tP]
  split
  ·simp
  ·rw [lG,ih,lG]
   constructor
   ·rintro (h | h | h)
    ·exact .inr (.inl h)
    ·exact .inl h
    ·exact .inr (.inr h)
   ·rintro (h | h | h)
    ·exact .inr (.inl h)
    ·exact .inl h
    ·exact .inr (.inr h)
theorem oB (l:List α) (e:α):(tP key l e).length=l.length+1:=by
 induction l with
 | nil=>rfl
 | cons f l ih=>
  rw [tP]
  split
  ·rfl
  ·rw [lN1,ih,lN1]
theorem xI {l:List α} (h:UpK key l) {e:α} (hn:∀ x ∈ l,key x≠key e):UpK key (tP key l e):=by
 induction l with
 | nil=>simp [tP,UpK]
 | cons f l ih=>
  obtain ⟨a1,a2⟩:=lZ.1 h
  rw [tP]
  split
  ·rename_i hlt
   refine lZ.2 ⟨fun x hx=>?_,h⟩
   rcases lG.1 hx with rfl | hx
   ·exact hlt
   ·exact List.lt_trans hlt (a1 x hx)
  ·rename_i hlt
   have hfe:key f<key e:=by
    rcases List.le_iff_lt_or_eq.1 (List.not_lt.1 hlt) with h' | h'
    ·exact h'
    ·exact absurd h' (hn f (by simp))
   refine lZ.2 ⟨fun x hx=>?_,ih a2 fun x hx=>hn x (by simp [hx])⟩
   rcases mem_putK.1 hx with rfl | hx
   ·exact hfe
   ·exact a1 x hx
theorem qY {l:List α} (h:UpK key l) (n:aA):UpK key (ahH key l n):=h.filter _
theorem mem_cutK {l:List α} {n:aA} {x:α}:x ∈ ahH key l n↔x ∈ l∧key x≠n:=by simp [ahH]
theorem anj {l:List α} (h:UpK key l) {x y:α} (hx:x ∈ l) (hy:y ∈ l) (he:key x=key y):x=y:=by
 induction l with
 | nil=>exact absurd hx (by simp)
 | cons f l ih=>
  obtain ⟨a1,a2⟩:=lZ.1 h
  rcases lG.1 hx with hx' | hx'
  ·rcases lG.1 hy with hy' | hy'
   ·rw [hx',hy']
   ·have:=a1 y hy'; rw [← hx',he] at this; exact absurd this (lX3 _)
  ·rcases lG.1 hy with hy' | hy'
   ·have:=a1 x hx'; rw [← hy',he] at this; exact absurd this (lX3 _)
   ·exact ih a2 hx' hy'
theorem ama {l m:List α} (hl:UpK key l) (hm:UpK key m) (h:∀ x,x ∈ l↔x ∈ m):l=m:=by
 induction l generalizing m with
 | nil=>
  cases m with
  | nil=>rfl
  | cons y m=>exact absurd ((h y).2 (by simp)) (by simp)
 | cons x l ih=>
  cases m with
  | nil=>exact absurd ((h x).1 (by simp)) (by simp)
  | cons y m=>
   obtain ⟨a1,a2⟩:=lZ.1 hl
   obtain ⟨b1,b2⟩:=lZ.1 hm
   have e:x=y:=by
    have h1:=(h x).1 (by simp)
    have h2:=(h y).2 (by simp)
    rcases lG.1 h1 with h1 | h1
    ·exact h1
    rcases lG.1 h2 with h2 | h2
    ·exact h2.symm
    exact absurd (List.lt_trans (a1 y h2) (b1 x h1)) (lX3 _)
   subst e
   congr 1
   refine ih a2 b2 fun z=>⟨fun hz=>?_,fun hz=>?_⟩
   ·rcases lG.1 ((h z).1 (by simp [hz])) with rfl | h'
    ·exact absurd (a1 _ hz) (lX3 _)
    ·exact h'
   ·rcases lG.1 ((h z).2 (by simp [hz])) with rfl | h'
    ·exact absurd (b1 _ hz) (lX3 _)
    ·exact h'
theorem ahI {l:List α} (h:UpK key l) {e:α} (he:e ∈ l):tP key (ahH key l (key e)) e=l:=by
 refine ama (key:=key) (xI (qY h _) fun x hx=>(mem_cutK.1 hx).2) h fun x=>?_
 rw [mem_putK,mem_cutK]
 constructor
 ·rintro (rfl | h')
  ·exact he
  ·exact h'.1
 ·intro hx
  by_cases hk:key x=key e
  ·exact .inl (anj h hx he hk)
  ·exact .inr ⟨hx,hk⟩
theorem aj6 {l:List α} (h:UpK key l) {e:α} (he:e ∈ l):(ahH key l (key e)).length+1=l.length:=by
 have:=congrArg List.length (ahI h he)
 rw [oB] at this
 exact this
end
def dJ (l:List Ent) (e:Ent):List Ent:=tP Ent.name l e
def c8 (l:List Ent) (n:aA):List Ent:=ahH Ent.name l n
theorem iZ (l:List Ent) (e:Ent) (i:Int):((dJ l e).map Ent.ino).count i=(l.map Ent.ino).count i+if e.ino=i then 1 else 0:=by
 induction l with
 | nil=>by_cases h:e.ino=i <;> simp [dJ,tP,h]
 | cons f l ih=>
  unfold dJ at ih ⊢
  rw [tP]
  split
  ·rw [lO,List.count_cons]
   by_cases h:e.ino=i <;> simp [h]
  ·rw [lO,List.count_cons,ih,lO,List.count_cons]
   omega
theorem rL {l:List Ent} (h:UpK Ent.name l) {e:Ent} (he:e ∈ l) (i:Int):((c8 l e.name).map Ent.ino).count i+(if e.ino=i then 1 else 0)=(l.map Ent.ino).count i:=by
 have:=iZ (c8 l e.name) e i
 rw [← this]
 exact congrArg (fun l=>(List.map Ent.ino l).count i) (ahI h he)
theorem jY {x:Inode} (h:UpK Ent.name x.ents) {n:aA} {j:Int} (hn:∀ e ∈ x.ents,e.name≠n) (m:aA) :
  bC { x with ents:=dJ x.ents ⟨n,j⟩ } m=if m=n then j else bC x m:=by
 have hu:UpK Ent.name (dJ x.ents ⟨n,j⟩):=xI h hn
 by_cases hm:m=n
 ·rw [lF hm]
  subst hm
  exact eN (x:={ x with ents:=dJ x.ents ⟨m,j⟩ }) hu (e:=⟨m,j⟩) (mem_putK.2 (.inl rfl))
 ·rw [lK hm]
  unfold bC
  congr 2
  show (dJ x.ents ⟨n,j⟩).find? _=x.ents.find? _
  generalize x.ents=l at *
  clear hu
  induction l with
  | nil=>simp [dJ,tP,Ne.symm hm]
  | cons f l ih=>
   have ih:=ih (lZ.1 h).2 fun e he=>hn e (by simp [he])
   unfold dJ at ih ⊢
   rw [tP]
   split
   ·rw [lB1 (by simpa using Ne.symm hm)]
   ·by_cases hf:f.name=m
    ·rw [lM1 (by simpa using hf),lM1 (by simpa using hf)]
    ·rw [lB1 (by simpa using hf),lB1 (by simpa using hf)]; exact ih
theorem nJ (x:Inode) (n m:aA):bC { x with ents:=c8 x.ents n } m=if m=n then 0 else bC x m:=by
 unfold bC
 show (Option.map Ent.ino ((c8 x.ents n).find? _)).getD 0=_
 generalize x.ents=l
 induction l with
 | nil=>simp [c8,ahH]
 | cons f l ih=>
  unfold c8 ahH at ih ⊢
  rw [lE4]
  by_cases hf:f.name=n
  ·rw [lK (by simp [hf]),ih]
   by_cases hm:m=n
   ·rw [lF hm,lF hm]
   ·rw [lK hm,lK hm,lB1 (by simp [hf]; exact Ne.symm hm)]
  ·rw [lF (by simpa using hf)]
   by_cases hm:f.name=m
   ·rw [lM1 (by simpa using hm),lK (by rw [← hm]; exact hf),lM1 (by simpa using hm)]
   ·rw [lB1 (by simpa using hm),ih,lB1 (by simpa using hm)]
end
theorem tQ {t:Tab} (h1:TabOk t) (h2:∀ x ∈ t.inodes,((aY t x.ino:Nat):Int)=x.links) (h3:∀ x ∈ t.inodes,∀ e ∈ x.ents,(aC t e.ino).isSome=true)
  (h4:∀ x ∈ t.inodes,∃ l,aP (aC t) l 1=some x.ino):TreeOk t:=by
 have hs:∀ l i,aP (aC t) l 1=some i→(aC t i).isSome=true:=by
  intro l i hw
  rcases lC3 l with rfl | ⟨a,n,rfl⟩
  ·simp only [aP,Option.some.injEq] at hw
   subst hw
   obtain ⟨x,hx,_⟩:=h1.root
   rw [hx]; rfl
  ·rw [lD3,cE] at hw
   cases ha:aP (aC t) a 1 with
   | none=>rw [ha] at hw; exact absurd hw (by simp)
   | some p=>
    rw [ha] at hw
    obtain ⟨y,y1,y2,y3,y4⟩:=(gO _ n p i).1 hw
    obtain ⟨e,he,e1,e2⟩:=qW (x:=y) (n:=n) (by rw [y3]; exact y4)
    have:=h3 y (aL y1).1 e he
    rwa [e2,y3] at this
 refine ⟨h1,aae h1.up fun x hx=>?_,h2,h3⟩
 obtain ⟨l,hl⟩:=h4 x hx
 exact xH hs l _ hl
theorem aV {M:IM} {i:Int} {x:Inode} (h:M i=some x) (n:aA):bT M i n=if x.kind=2∧bC x n≠0 then some (bC x n) else none:=by rw [bT,h]
theorem mI {M M':IM} {i:Int} (h:M' i=M i) (n:aA):bT M' i n=bT M i n:=by rw [bT,bT,h]
theorem ado {t:Tab} {i:Int} (h:0<aY t i):∃ y ∈ t.inodes,y.kind=2∧∃ f ∈ y.ents,f.ino=i:=by
 obtain ⟨y,hy,hc⟩:=al7 _ _ h
 by_cases hk:y.kind=2
 ·rw [fF,lF hk] at hc
  obtain ⟨f,hf,e⟩:=lX1.1 (List.count_pos_iff.1 hc)
  exact ⟨y,hy,hk,f,hf,e⟩
 ·rw [fF,lK hk] at hc
  exact absurd hc (by simp)
theorem ahJ {t:Tab} {i:Int} (h:aY t i=0) {y:Inode} (hy:y ∈ t.inodes) (hk:y.kind=2) {f:Ent} (hf:f ∈ y.ents):f.ino≠i:=by
 intro e
 have:=jW (fun x:Inode=>(fF x).count i) t.inodes hy
 unfold aY at h
 have hc:0<(fF y).count i:=by rw [fF,lF hk]; exact List.count_pos_iff.2 (lX1.2 ⟨f,hf,e⟩)
 omega
def cD (D:Inode) (n:aA):Inode:={ D with ents:=c8 D.ents n }
def c9 (D:Inode) (n:aA) (j:Int):Inode:={ D with ents:=dJ D.ents ⟨n,j⟩ }
theorem tR {D:Inode} (h:InodeOk D) (n:aA):InodeOk (cD D n):=by
 obtain ⟨a1,a2,a3,a4,a5,a6,a7⟩:=h
 refine ⟨a1,a2,a3,a4,⟨?_,fun e he=>a5.ok e (mem_cutK.1 he).1,qY a5.up n⟩,a6,?_⟩
 ·have:(c8 D.ents n).length≤D.ents.length:=lL2 _ _
  have:=a5.len
  show (c8 D.ents n).length≤10
  omega
 ·rcases a7 with ⟨b1,b2⟩ | b
  ·exact .inl ⟨b1,by show c8 D.ents n=[]; rw [b2]; rfl⟩
  ·exact .inr b
theorem tT {D:Inode} (h:InodeOk D) (hk:D.kind=2) {n:aA} {j:Int} (hn:aW n=true) (hj:2≤j∧j≤1000) (hl:D.ents.length<10) (hf:∀ e ∈ D.ents,e.name≠n):InodeOk (c9 D n j):=by
 obtain ⟨a1,a2,a3,a4,a5,a6,a7⟩:=h
 refine ⟨a1,a2,a3,a4,⟨?_,fun e he=>?_,xI a5.up hf⟩,a6,?_⟩
 ·show (dJ D.ents ⟨n,j⟩).length≤10
  unfold dJ
  rw [oB]; omega
 ·rcases mem_putK.1 he with rfl | he
  ·exact ⟨hn,hj⟩
  ·exact a5.ok e he
 ·rcases a7 with ⟨b1,_⟩ | b
  ·omega
  ·exact .inr b
structure Spot (t:Tab) (D:Inode) (d:List aA):Prop where
 mem:D ∈ t.inodes
 kind:D.kind=2
 at':aP (aC t) d 1=some D.ino
theorem gA {t:Tab} (h:TreeOk t) {D:Inode} {d:List aA} (s:Spot t D d):∀ a,cJ (bT (aC t)) a 1=some D.ino→a=d:=fun a ha=>
 o0 h a d D.ino D (fV h s.mem) (nH h s.mem s.kind) (by rw [cL]; exact ha) s.at'
def o4 (X:Inode):Inode:={ X with links:=X.links-1 }
def bU (t:Tab) (D:Inode) (n:aA) (X:Inode):Tab:=if X.links=1 then jJ (aF t (cD D n)) X.ino else aF (aF t (cD D n)) (o4 X)
theorem aca {t:Tab} (h:TreeOk t) {D X:Inode} {d:List aA} (s:Spot t D d) {e:Ent} (he:e ∈ D.ents) (hX:aC t e.ino=some X) (hE:X.ents=[]) (hk1:X.kind=1∨X.links=1) :
  TreeOk (bU t D e.name X)∧(∀ l,aP (aC (bU t D e.name X)) l 1=if l=d++[e.name] then none else aP (aC t) l 1) ∧
  (∀ i,aC (bU t D e.name X) i=if i=X.ino then (if X.links=1 then none else some (o4 X)) else if i=D.ino then some (cD D e.name) else aC t i):=by
 obtain ⟨X1,X2⟩:=aL hX
 have hD:=fV h s.mem
 have hne:X.ino≠D.ino:=by
  intro hc
  rw [← X2,hc,hD] at hX
  injection hX with hX
  rw [hX,hE] at he
  exact absurd he (by simp)
 have up1:=fW h.tab.up (cD D e.name)
 have up':UpI (bU t D e.name X).inodes:=by
  unfold bU
  split
  ·exact al8 up1 _
  ·exact fW up1 _
 have map1:∀ i,aC (aF t (cD D e.name)) i=if D.ino=i then some (cD D e.name) else aC t i:=fun i=>b9 h.tab.up _ i
 have map':∀ i,aC (bU t D e.name X) i=if i=X.ino then (if X.links=1 then none else some (o4 X)) else if i=D.ino then some (cD D e.name) else aC t i:=by
  intro i
  unfold bU
  split
  ·rw [ae5,map1]
   by_cases h1:i=X.ino
   ·rw [lF h1.symm,lF h1]
   ·rw [lK (Ne.symm h1),lK h1]
    by_cases h2:i=D.ino
    ·rw [lF h2.symm,lF h2]
    ·rw [lK (Ne.symm h2),lK h2]
  ·rw [b9 up1,map1]
   show (if X.ino=i then _ else _)=_
   by_cases h1:i=X.ino
   ·rw [lF h1.symm,lF h1]
   ·rw [lK (Ne.symm h1),lK h1]
    by_cases h2:i=D.ino
    ·rw [lF h2.symm,lF h2]
    ·rw [lK (Ne.symm h2),lK h2]
 have zX:∀ m,bC X m=0:=fun m=>by unfold bC; rw [hE]; rfl
 have zL:∀ m,bC (o4 X) m=0:=zX
 have st:∀ i m,i≠D.ino∨m≠e.name→bT (aC (bU t D e.name X)) i m=bT (aC t) i m:=by
  intro i m him
  by_cases h1:i=X.ino
  ·rw [aV (M:=aC t) (x:=X) (by rw [h1,X2]; exact hX) m,lK (by simp [zX])]
   by_cases hl:X.links=1
   ·rw [bT,map',lF h1,lF hl]
   ·rw [aV (x:=o4 X) (by rw [map',lF h1,lK hl]) m,lK (by simp [zL])]
  ·by_cases h2:i=D.ino
   ·have hm:=him.resolve_left (by simp [h2])
    rw [aV (x:=cD D e.name) (by rw [map',lK h1,lF h2]) m,aV (M:=aC t) (x:=D) (by rw [h2]; exact hD) m]
    have:bC (cD D e.name) m=bC D m:=by unfold cD; rw [nJ,if_neg hm]
    rw [this]; rfl
   ·exact mI (by rw [map',lK h1,lK h2]) m
 have stn:bT (aC (bU t D e.name X)) D.ino e.name=none:=by
  rw [aV (x:=cD D e.name) (by rw [map',lK (Ne.symm hne),lF rfl]) e.name]
  have:bC (cD D e.name) e.name=0:=by unfold cD; rw [nJ,if_pos rfl]
  rw [this,lK (by simp)]
 have hu:=gA h s
 have hd:cJ (bT (aC t)) d 1=some D.ino:=by rw [← cL]; exact s.at'
 have wk:∀ l,aP (aC (bU t D e.name X)) l 1=if l=d++[e.name] then none else aP (aC t) l 1:=by
  intro l
  rw [cL,cL]
  by_cases hp:(d++[e.name]) <+: l
  ·obtain ⟨b,rfl⟩:=hp
   have e1:d++[e.name]++b=d++e.name::b:=by simp
   rw [e1,pU st hu hd,stn]
   cases b with
   | nil=>rw [lF (by simp)]; rfl
   | cons m b=>
    rw [lK (by simp)]
    show none=_
    rw [dH,hd]
    show none=(bT (aC t) D.ino e.name).bind _
    rw [aV hD,lF ⟨s.kind,by rw [eN (bM h s.mem).up he]; exact oZ h s.mem e he⟩,eN (bM h s.mem).up he]
    show none=(bT (aC t) e.ino m).bind _
    rw [aV hX,lK (by simp [zX])]; rfl
  ·rw [fG st hu hp,lK (by rintro rfl; exact hp (List.prefix_refl _))]
 refine ⟨?_,wk,map'⟩
 have lk1:∀ i,aY (aF t (cD D e.name)) i+(if e.ino=i then 1 else 0)=aY t i:=by
  intro i
  have a1:=fQ h.tab.up (cD D e.name) i
  have a2:=rL (bM h s.mem).up he i
  have a3:aC t (cD D e.name).ino=some D:=hD
  rw [a3] at a1
  have b1:fF (cD D e.name)=(c8 D.ents e.name).map Ent.ino:=by rw [fF,lF (show (cD D e.name).kind=2 from s.kind)]; rfl
  have b2:fF D=D.ents.map Ent.ino:=by rw [fF,lF s.kind]
  simp only [lB,lF1,b1,b2] at a1
  omega
 have hXD:aC (aF t (cD D e.name)) X.ino=some X:=by rw [map1,lK (Ne.symm hne),X2]; exact hX
 have nX:fF X=[]:=by unfold fF; rw [hE]; split <;> rfl
 have nL:fF (o4 X)=[]:=nX
 have lk:∀ i,aY (bU t D e.name X) i+(if e.ino=i then 1 else 0)=aY t i:=by
  intro i
  rw [← lk1 i]
  unfold bU
  split
  ·have:=ae6 up1 X.ino i
   rw [hXD] at this
   simp only [lB,lF1,nX,List.count_nil] at this
   omega
  ·have:=fQ up1 (o4 X) i
   have e2:aC (aF t (cD D e.name)) (o4 X).ino=some X:=hXD
   rw [e2,nL] at this
   simp only [lB,lF1,nX,List.count_nil] at this
   omega
 have lX:=h.links X X1
 have mem':∀ x,x ∈ (bU t D e.name X).inodes→(x=o4 X∧X.links≠1)∨(x=cD D e.name)∨(x ∈ t.inodes∧x.ino≠X.ino∧x.ino≠D.ino):=by
  intro x hx
  have hx':=(pV up' x).1 hx
  rw [map'] at hx'
  split at hx'
  ·split at hx'
   ·exact absurd hx' (by simp)
   ·rename_i hl
    injection hx' with hx'
    exact .inl ⟨hx'.symm,hl⟩
  ·split at hx'
   ·injection hx' with hx'
    exact .inr (.inl hx'.symm)
   ·rename_i n1 n2
    exact .inr (.inr ⟨(aL hx').1,n1,n2⟩)
 have okX:=(h.tab.ok X X1)
 have okD:=(h.tab.ok D s.mem)
 have len':(bU t D e.name X).inodes.length≤30:=by
  have a1:=mH h.tab.up (cD D e.name)
  have a2:(t.inodes.find? fun y=>decide (y.ino=(cD D e.name).ino))=some D:=hD
  rw [a2] at a1
  simp only [lT2,lP] at a1
  have a0:=h.tab.len
  unfold bU
  split
  ·have:(jJ (aF t (cD D e.name)) X.ino).inodes.length≤(aF t (cD D e.name)).inodes.length:=lL2 _ _
   have e4:(aF t (cD D e.name)).inodes.length=(bO t.inodes (cD D e.name)).length:=rfl
   omega
  ·have a3:=mH up1 (o4 X)
   have a4:((aF t (cD D e.name)).inodes.find? fun y=>decide (y.ino=(o4 X).ino))=some X:=hXD
   rw [a4] at a3
   simp only [lT2,lP] at a3
   have e4:(aF t (cD D e.name)).inodes.length=(bO t.inodes (cD D e.name)).length:=rfl
   show (bO (aF t (cD D e.name)).inodes (o4 X)).length≤30
   omega
 have next':(bU t D e.name X).next=t.next:=by unfold bU; split <;> rfl
 have root1:X.ino≠1:=by
  have:=((bM h s.mem).ok e he).2.1
  omega
 refine tQ ⟨len',by rw [next']; exact h.tab.next,fun x hx=>?_,up',?_⟩ (fun x hx=>?_) (fun x hx f hf=>?_) fun x hx=>?_
 ·rw [next']
  rcases mem' x hx with ⟨rfl,hl⟩ | rfl | ⟨hx,_⟩
  ·refine ⟨?_,okX.2⟩
   obtain ⟨b1,b2,b3,b4,b5,b6,b7⟩:=okX.1
   have:X.links≠0:=fun h0=>root1 (b3.1 h0)
   refine ⟨b1,by show 0≤X.links-1∧X.links-1≤1000; omega,?_,b4,b5,b6,.inl ⟨hk1.resolve_right hl,hE⟩⟩
   show X.links-1=0↔X.ino=1
   constructor
   ·intro h0; omega
   ·intro h0; exact absurd h0 root1
  ·exact ⟨tR okD.1 _,okD.2⟩
  ·exact h.tab.ok x hx
 ·obtain ⟨r,r1,r2,_⟩:=eO h
  by_cases hr:(1:Int)=D.ino
  ·exact ⟨cD D e.name,by rw [map',lK (Ne.symm root1),lF hr],s.kind⟩
  ·exact ⟨r,by rw [map',lK (Ne.symm root1),lK hr]; exact r1,r2⟩
 ·have a1:=lk x.ino
  rcases mem' x hx with ⟨rfl,hl⟩ | rfl | ⟨hx,n1,_⟩
  ·have e5:(o4 X).ino=X.ino:=rfl
   rw [e5] at a1 ⊢
   rw [lF X2.symm] at a1
   show _=X.links-1
   omega
  ·have e5:(cD D e.name).ino=D.ino:=rfl
   rw [e5] at a1 ⊢
   rw [lK (by rw [← X2]; exact hne)] at a1
   have:=h.links D s.mem
   show _=D.links
   omega
  ·rw [lK (by rw [← X2]; exact Ne.symm n1)] at a1
   have:=h.links x hx
   omega
 ·have old:∃ y ∈ t.inodes,f ∈ y.ents:=by
   rcases mem' x hx with ⟨rfl,_⟩ | rfl | ⟨hx,_⟩
   ·exact ⟨X,X1,hf⟩
   ·exact ⟨D,s.mem,(mem_cutK.1 hf).1⟩
   ·exact ⟨x,hx,hf⟩
  obtain ⟨y,hy,hfy⟩:=old
  rw [map']
  by_cases h1:f.ino=X.ino
  ·rw [lF h1]
   split
   ·rename_i hl
    exfalso
    have a1:=lk X.ino
    rw [lF X2.symm] at a1
    have hk:x.kind=2:=by
     rcases mem' x hx with ⟨rfl,_⟩ | rfl | ⟨hx,_⟩
     ·exact absurd hf (by show ¬ f ∈ X.ents; rw [hE]; simp)
     ·exact s.kind
     ·apply Classical.byContradiction
      intro hk
      rw [(nI h hx hk).1] at hf
      exact absurd hf (by simp)
    exact ahJ (t:=bU t D e.name X) (i:=X.ino) (by omega) hx hk hf h1
   ·rfl
  ·rw [lK h1]
   split
   ·rfl
   ·exact h.there y hy f hfy
 ·have other:∀ y,y ∈ t.inodes→y.ino≠X.ino→∃ l,aP (aC (bU t D e.name X)) l 1=some y.ino:=by
   intro y hy hn
   obtain ⟨l,hl⟩:=f9 h hy
   refine ⟨l,?_⟩
   rw [wk,lK,hl]
   rintro rfl
   rw [cE,s.at'] at hl
   obtain ⟨z,z1,z2,z3,z4⟩:=(gO _ _ _ _).1 hl
   rw [hD] at z1
   injection z1 with z1
   subst z1
   rw [eN (bM h s.mem).up he] at z3
   exact hn (by rw [← z3,X2])
  rcases mem' x hx with ⟨rfl,hl⟩ | rfl | ⟨hx,n1,_⟩
  ·have a1:=lk X.ino
   rw [lF X2.symm] at a1
   have hpos:X.links≠0:=fun h0=>root1 (okX.1.root.1 h0)
   obtain ⟨y,hy,ky,f,hf,e5⟩:=ado (t:=bU t D e.name X) (i:=X.ino) (by omega)
   have hyX:y.ino≠X.ino:=by
    intro hc
    have hy':=(pV up' y).1 hy
    rw [map',lF hc,lK hl] at hy'
    injection hy' with hy'
    rw [← hy'] at hf
    exact absurd hf (by show ¬ f ∈ X.ents; rw [hE]; simp)
   have hyo:∃ y' ∈ t.inodes,y'.ino=y.ino:=by
    rcases mem' y hy with ⟨h6,_⟩ | rfl | ⟨h6,_⟩
    ·exact absurd (by rw [h6]; rfl) hyX
    ·exact ⟨D,s.mem,rfl⟩
    ·exact ⟨y,h6,rfl⟩
   obtain ⟨y',hy',ey⟩:=hyo
   obtain ⟨l,hl'⟩:=other y' hy' (by rw [ey]; exact hyX)
   refine ⟨l++[f.name],?_⟩
   rw [cE,hl',ey]
   have upy:UpK Ent.name y.ents:=by
    rcases mem' y hy with ⟨h6,_⟩ | rfl | ⟨h6,_⟩
    ·exact absurd (by rw [h6]; rfl) hyX
    ·exact qY (bM h s.mem).up _
    ·exact (bM h h6).up
   refine (gO _ _ _ _).2 ⟨y,(pV up' y).1 hy,ky,by rw [eN upy hf]; exact e5,?_⟩
   show X.ino≠0
   have:=okX.1.ino
   omega
  ·exact other D s.mem (Ne.symm hne)
  ·exact other x hx n1
def xJ (i k:Int):Inode:={ ino:=i,kind:=k,links:=1,data:=[],ents:=[],attrs:=[] }
def nK (t:Tab) (D:Inode) (n:aA) (k:Int):Tab:={ inodes:=(aF (aF t (c9 D n t.next)) (xJ t.next k)).inodes,next:=t.next+1 }
theorem aag {t:Tab} (h:TreeOk t) {D:Inode} {d:List aA} (s:Spot t D d) {n:aA} {k:Int} (hn:aW n=true) (hf:bC D n=0) (hl:D.ents.length<10) (hi:t.inodes.length<30)
  (hx:t.next<1000) (hk:k=1∨k=2) :
  TreeOk (nK t D n k)∧(∀ l,aP (aC (nK t D n k)) l 1=if l=d++[n] then some t.next else aP (aC t) l 1) ∧
  (∀ i,aC (nK t D n k) i=if i=t.next then some (xJ t.next k) else if i=D.ino then some (c9 D n t.next) else aC t i):=by
 have hD:=fV h s.mem
 have hfn:∀ e ∈ D.ents,e.name≠n:=(ab7 (oZ h s.mem)).1 hf
 have hnext:aC t t.next=none:=by
  cases e:aC t t.next with
  | none=>rfl
  | some y=>
   obtain ⟨y1,y2⟩:=aL e
   have:=(h.tab.ok y y1).2
   omega
 have hne:D.ino≠t.next:=by have:=(h.tab.ok D s.mem).2; omega
 have up1:=fW h.tab.up (c9 D n t.next)
 have up':UpI (nK t D n k).inodes:=fW up1 (xJ t.next k)
 have map1:∀ i,aC (aF t (c9 D n t.next)) i=if D.ino=i then some (c9 D n t.next) else aC t i:=fun i=>b9 h.tab.up _ i
 have map':∀ i,aC (nK t D n k) i=if i=t.next then some (xJ t.next k) else if i=D.ino then some (c9 D n t.next) else aC t i:=by
  intro i
  have e0:aC (nK t D n k) i=aC (aF (aF t (c9 D n t.next)) (xJ t.next k)) i:=rfl
  rw [e0,b9 up1,map1]
  show (if t.next=i then _ else _)=_
  by_cases h1:i=t.next
  ·rw [lF h1.symm,lF h1]
  ·rw [lK (Ne.symm h1),lK h1]
   by_cases h2:i=D.ino
   ·rw [lF h2.symm,lF h2]
   ·rw [lK (Ne.symm h2),lK h2]
 have zN:∀ m,bC (xJ t.next k) m=0:=fun m=>rfl
 have st:∀ i m,i≠D.ino∨m≠n→bT (aC (nK t D n k)) i m=bT (aC t) i m:=by
  intro i m him
  by_cases h1:i=t.next
  ·rw [aV (x:=xJ t.next k) (by rw [map',lF h1]) m,lK (by simp [zN]),bT,h1,hnext]
  ·by_cases h2:i=D.ino
   ·have hm:=him.resolve_left (by simp [h2])
    rw [aV (x:=c9 D n t.next) (by rw [map',lK h1,lF h2]) m,aV (M:=aC t) (x:=D) (by rw [h2]; exact hD) m]
    have:bC (c9 D n t.next) m=bC D m:=by unfold c9; rw [jY (bM h s.mem).up hfn,if_neg hm]
    rw [this]; rfl
   ·exact mI (by rw [map',lK h1,lK h2]) m
 have hn2:=h.tab.next
 have stn:bT (aC (nK t D n k)) D.ino n=some t.next:=by
  rw [aV (x:=c9 D n t.next) (by rw [map',lK hne,lF rfl]) n]
  have:bC (c9 D n t.next) n=t.next:=by unfold c9; rw [jY (bM h s.mem).up hfn,if_pos rfl]
  rw [this,lF ⟨s.kind,by omega⟩]
 have hu:=gA h s
 have hd:cJ (bT (aC t)) d 1=some D.ino:=by rw [← cL]; exact s.at'
 have off:bT (aC t) D.ino n=none:=by rw [aV hD,hf,lK (by simp)]
 have wk:∀ l,aP (aC (nK t D n k)) l 1=if l=d++[n] then some t.next else aP (aC t) l 1:=by
  intro l
  rw [cL,cL]
  by_cases hp:(d++[n]) <+: l
  ·obtain ⟨b,rfl⟩:=hp
   have e1:d++[n]++b=d++n::b:=by simp
   rw [e1,pU st hu hd,stn]
   cases b with
   | nil=>rw [lF (by simp)]; rfl
   | cons m b=>
    rw [lK (by simp)]
    show (bT (aC (nK t D n k)) t.next m).bind _=_
    rw [aV (x:=xJ t.next k) (by rw [map',lF rfl]) m,lK (by simp [zN]),dH,hd]
    show none=(bT (aC t) D.ino n).bind _
    rw [off]; rfl
  ·rw [fG st hu hp,lK (by rintro rfl; exact hp (List.prefix_refl _))]
 have wn:aP (aC t) (d++[n]) 1=none:=by
  rw [cL,dH,hd]
  show (bT (aC t) D.ino n).bind _=none
  rw [off]; rfl
 refine ⟨?_,wk,map'⟩
 have nN:fF (xJ t.next k)=[]:=by unfold fF; split <;> rfl
 have lk:∀ i,aY (nK t D n k) i=aY t i+if t.next=i then 1 else 0:=by
  intro i
  have a1:=fQ h.tab.up (c9 D n t.next) i
  have a2:=iZ D.ents ⟨n,t.next⟩ i
  have a3:aC t (c9 D n t.next).ino=some D:=hD
  have a4:=fQ up1 (xJ t.next k) i
  have a5:aC (aF t (c9 D n t.next)) (xJ t.next k).ino=none:=by rw [map1]; exact (lK hne).trans hnext
  rw [a3] at a1
  rw [a5] at a4
  have b1:fF (c9 D n t.next)=(dJ D.ents ⟨n,t.next⟩).map Ent.ino:=by rw [fF,lF (show (c9 D n t.next).kind=2 from s.kind)]; rfl
  have b2:fF D=D.ents.map Ent.ino:=by rw [fF,lF s.kind]
  simp only [lB,lF1,lR,Option.getD_none,b1,b2,nN,List.count_nil] at a1 a4
  have e0:aY (nK t D n k) i=aY (aF (aF t (c9 D n t.next)) (xJ t.next k)) i:=rfl
  have a2':(List.map Ent.ino (dJ D.ents ⟨n,t.next⟩)).count i=(D.ents.map Ent.ino).count i+if t.next=i then 1 else 0:=a2
  omega
 have l0:aY t t.next=0:=by
  apply Nat.eq_zero_of_not_pos
  intro hp
  obtain ⟨y,hy,_,f,hf',e⟩:=ado hp
  have:=h.there y hy f hf'
  rw [e,hnext] at this
  exact absurd this (by simp)
 have mem':∀ x,x ∈ (nK t D n k).inodes→x=xJ t.next k∨x=c9 D n t.next∨(x ∈ t.inodes∧x.ino≠t.next∧x.ino≠D.ino):=by
  intro x hx
  have hx':=(pV up' x).1 hx
  rw [map'] at hx'
  split at hx'
  ·injection hx' with hx'; exact .inl hx'.symm
  ·split at hx'
   ·injection hx' with hx'; exact .inr (.inl hx'.symm)
   ·rename_i n1 n2
    exact .inr (.inr ⟨(aL hx').1,n1,n2⟩)
 have okD:=h.tab.ok D s.mem
 have len':(nK t D n k).inodes.length≤30:=by
  have a1:=mH h.tab.up (c9 D n t.next)
  have a2:(t.inodes.find? fun y=>decide (y.ino=(c9 D n t.next).ino))=some D:=hD
  rw [a2] at a1
  simp only [lT2,lP] at a1
  have a3:=mH up1 (xJ t.next k)
  have e4:(aF t (c9 D n t.next)).inodes.length=(bO t.inodes (c9 D n t.next)).length:=rfl
  show (bO (aF t (c9 D n t.next)).inodes (xJ t.next k)).length≤30
  omega
 refine tQ ⟨len',by show 2≤t.next+1∧t.next+1≤1000; omega,fun x hx'=>?_,up',?_⟩ (fun x hx'=>?_) (fun x hx' f hf'=>?_) fun x hx'=>?_
 ·show InodeOk x∧x.ino<t.next+1
  rcases mem' x hx' with rfl | rfl | ⟨hx',_⟩
  ·refine ⟨⟨by show 1≤t.next∧t.next≤1000; omega,by show (0:Int)≤1∧(1:Int)≤1000; omega,?_,by show 0≤100; omega,⟨by show 0≤10; omega,fun e he=>absurd he (by simp [xJ]),List.Pairwise.nil⟩,⟨by show 0≤4; omega,fun e he=>absurd he (by simp [xJ]),List.Pairwise.nil⟩,?_⟩,by show t.next<t.next+1; omega⟩
   ·show (1:Int)=0↔t.next=1
    constructor
    ·intro h0; omega
    ·intro h0; omega
   ·rcases hk with rfl | rfl
    ·exact .inl ⟨rfl,rfl⟩
    ·exact .inr ⟨rfl,rfl,by show (1:Int)≤1; omega⟩
  ·refine ⟨tT okD.1 s.kind hn ⟨hn2.1,hn2.2⟩ hl hfn,?_⟩
   have:=okD.2
   show D.ino<t.next+1
   omega
  ·have:=h.tab.ok x hx'
   exact ⟨this.1,by omega⟩
 ·obtain ⟨r,r1,r2,_⟩:=eO h
  have n1:(1:Int)≠t.next:=by omega
  by_cases hr:(1:Int)=D.ino
  ·exact ⟨c9 D n t.next,by rw [map',lK n1,lF hr],s.kind⟩
  ·exact ⟨r,by rw [map',lK n1,lK hr]; exact r1,r2⟩
 ·rw [lk]
  rcases mem' x hx' with rfl | rfl | ⟨hx',n1,_⟩
  ·show ((aY t t.next+(if t.next=t.next then 1 else 0):Nat):Int)=1
   rw [l0,lF rfl]; rfl
  ·have e5:(c9 D n t.next).ino=D.ino:=rfl
   rw [e5,lK (Ne.symm hne)]
   exact h.links D s.mem
  ·rw [lK (Ne.symm n1)]
   exact h.links x hx'
 ·rw [map']
  have old:f.ino=t.next∨∃ y ∈ t.inodes,f ∈ y.ents:=by
   rcases mem' x hx' with rfl | rfl | ⟨hx',_⟩
   ·exact absurd hf' (by simp [xJ])
   ·rcases mem_putK.1 hf' with rfl | hf'
    ·exact .inl rfl
    ·exact .inr ⟨D,s.mem,hf'⟩
   ·exact .inr ⟨x,hx',hf'⟩
  rcases old with e | ⟨y,hy,hfy⟩
  ·rw [lF e]; rfl
  ·have:=h.there y hy f hfy
   split
   ·rfl
   ·split
    ·rfl
    ·exact this
 ·have other:∀ y,y ∈ t.inodes→∃ l,aP (aC (nK t D n k)) l 1=some y.ino:=by
   intro y hy
   obtain ⟨l,hl'⟩:=f9 h hy
   refine ⟨l,?_⟩
   rw [wk,lK,hl']
   rintro rfl
   rw [wn] at hl'
   exact absurd hl' (by simp)
  rcases mem' x hx' with rfl | rfl | ⟨hx',_⟩
  ·exact ⟨d++[n],by rw [wk,lF rfl]; rfl⟩
  ·exact other D s.mem
  ·exact other x hx'
theorem qZ {α:Type} (f:α→Nat) (l:List α) (c:Nat) (h:∀ x ∈ l,f x≤c):(l.map f).sum≤l.length*c:=by
 induction l with
 | nil=>simp
 | cons x l ih=>
  have a:=h x (by simp)
  have b:=ih fun y hy=>h y (by simp [hy])
  rw [lO,lB2,lN1,lP3]
  omega
theorem aj7 {t:Tab} (h:TabOk t) (i:Int):aY t i≤300:=by
 have a:=qZ (fun x:Inode=>(fF x).count i) t.inodes 10 fun x hx=>by
  have h1:=(h.ok x hx).1.ents.len
  have h2:(fF x).count i≤(fF x).length:=List.count_le_length
  have h3:(fF x).length≤x.ents.length:=by unfold fF; split <;> simp
  omega
 have b:=h.len
 have c:aY t i=(t.inodes.map fun x:Inode=>(fF x).count i).sum:=rfl
 have:t.inodes.length*10≤30*10:=lI1 10 b
 omega
def g9 (X:Inode):Inode:={ X with links:=X.links+1 }
def mY (t:Tab) (D:Inode) (n:aA) (X:Inode):Tab:=aF (aF t (c9 D n X.ino)) (g9 X)
theorem aah {t:Tab} (h:TreeOk t) {D X:Inode} {d:List aA} (s:Spot t D d) {n:aA} (hn:aW n=true) (hf:bC D n=0) (hl:D.ents.length<10) (X1:X ∈ t.inodes) (kX:X.kind=1) :
  TreeOk (mY t D n X)∧(∀ l,aP (aC (mY t D n X)) l 1=if l=d++[n] then some X.ino else aP (aC t) l 1) ∧
  (∀ i,aC (mY t D n X) i=if i=X.ino then some (g9 X) else if i=D.ino then some (c9 D n X.ino) else aC t i):=by
 have hD:=fV h s.mem
 have hX:=fV h X1
 have kX2:¬ X.kind=2:=by omega
 have hE:=(nI h X1 kX2).1
 have hfn:∀ e ∈ D.ents,e.name≠n:=(ab7 (oZ h s.mem)).1 hf
 have okX:=h.tab.ok X X1
 have okD:=h.tab.ok D s.mem
 have root1:X.ino≠1:=by
  obtain ⟨r,r1,r2,_⟩:=eO h
  intro hc
  rw [hc,r1] at hX
  injection hX with hX
  rw [hX] at r2
  omega
 have hne:D.ino≠X.ino:=by
  intro hc
  rw [← hc,hD] at hX
  injection hX with hX
  have:=s.kind
  rw [hX] at this
  omega
 have up1:=fW h.tab.up (c9 D n X.ino)
 have up':UpI (mY t D n X).inodes:=fW up1 (g9 X)
 have map1:∀ i,aC (aF t (c9 D n X.ino)) i=if D.ino=i then some (c9 D n X.ino) else aC t i:=fun i=>b9 h.tab.up _ i
 have map':∀ i,aC (mY t D n X) i=if i=X.ino then some (g9 X) else if i=D.ino then some (c9 D n X.ino) else aC t i:=by
  intro i
  unfold mY
  rw [b9 up1,map1]
  show (if X.ino=i then _ else _)=_
  by_cases h1:i=X.ino
  ·rw [lF h1.symm,lF h1]
  ·rw [lK (Ne.symm h1),lK h1]
   by_cases h2:i=D.ino
   ·rw [lF h2.symm,lF h2]
   ·rw [lK (Ne.symm h2),lK h2]
 have st:∀ i m,i≠D.ino∨m≠n→bT (aC (mY t D n X)) i m=bT (aC t) i m:=by
  intro i m him
  by_cases h1:i=X.ino
  ·rw [aV (x:=g9 X) (by rw [map',lF h1]) m,aV (M:=aC t) (x:=X) (by rw [h1]; exact hX) m]; rfl
  ·by_cases h2:i=D.ino
   ·have hm:=him.resolve_left (by simp [h2])
    rw [aV (x:=c9 D n X.ino) (by rw [map',lK h1,lF h2]) m,aV (M:=aC t) (x:=D) (by rw [h2]; exact hD) m]
    have:bC (c9 D n X.ino) m=bC D m:=by unfold c9; rw [jY (bM h s.mem).up hfn,if_neg hm]
    rw [this]; rfl
   ·exact mI (by rw [map',lK h1,lK h2]) m
 have hx1:=okX.1.ino
 have stn:bT (aC (mY t D n X)) D.ino n=some X.ino:=by
  rw [aV (x:=c9 D n X.ino) (by rw [map',lK hne,lF rfl]) n]
  have:bC (c9 D n X.ino) n=X.ino:=by unfold c9; rw [jY (bM h s.mem).up hfn,if_pos rfl]
  rw [this,lF ⟨s.kind,by omega⟩]
 have hu:=gA h s
 have hd:cJ (bT (aC t)) d 1=some D.ino:=by rw [← cL]; exact s.at'
 have off:bT (aC t) D.ino n=none:=by rw [aV hD,hf,lK (by simp)]
 have wk:∀ l,aP (aC (mY t D n X)) l 1=if l=d++[n] then some X.ino else aP (aC t) l 1:=by
  intro l
  rw [cL,cL]
  by_cases hp:(d++[n]) <+: l
  ·obtain ⟨b,rfl⟩:=hp
   have e1:d++[n]++b=d++n::b:=by simp
   rw [e1,pU st hu hd,stn]
   cases b with
   | nil=>rw [lF (by simp)]; rfl
   | cons m b=>
    rw [lK (by simp)]
    show (bT (aC (mY t D n X)) X.ino m).bind _=_
    rw [aV (x:=g9 X) (by rw [map',lF rfl]) m,lK (by show ¬ (X.kind=2∧_); simp [kX2]),dH,hd]
    show none=(bT (aC t) D.ino n).bind _
    rw [off]; rfl
  ·rw [fG st hu hp,lK (by rintro rfl; exact hp (List.prefix_refl _))]
 have wn:aP (aC t) (d++[n]) 1=none:=by
  rw [cL,dH,hd]
  show (bT (aC t) D.ino n).bind _=none
  rw [off]; rfl
 refine ⟨?_,wk,map'⟩
 have nX:fF X=[]:=by rw [fF,lK kX2]
 have nM:fF (g9 X)=[]:=nX
 have lk:∀ i,aY (mY t D n X) i=aY t i+if X.ino=i then 1 else 0:=by
  intro i
  have a1:=fQ h.tab.up (c9 D n X.ino) i
  have a2:(List.map Ent.ino (dJ D.ents ⟨n,X.ino⟩)).count i=(D.ents.map Ent.ino).count i+if X.ino=i then 1 else 0:=iZ D.ents ⟨n,X.ino⟩ i
  have a3:aC t (c9 D n X.ino).ino=some D:=hD
  have a4:=fQ up1 (g9 X) i
  have a5:aC (aF t (c9 D n X.ino)) (g9 X).ino=some X:=by rw [map1]; exact (lK hne).trans hX
  rw [a3] at a1
  rw [a5] at a4
  have b1:fF (c9 D n X.ino)=(dJ D.ents ⟨n,X.ino⟩).map Ent.ino:=by rw [fF,lF (show (c9 D n X.ino).kind=2 from s.kind)]; rfl
  have b2:fF D=D.ents.map Ent.ino:=by rw [fF,lF s.kind]
  simp only [lB,lF1,b1,b2,nX,nM,List.count_nil] at a1 a4
  have e0:aY (mY t D n X) i=aY (aF (aF t (c9 D n X.ino)) (g9 X)) i:=rfl
  omega
 have lX:=h.links X X1
 have mem':∀ x,x ∈ (mY t D n X).inodes→x=g9 X∨x=c9 D n X.ino∨(x ∈ t.inodes∧x.ino≠X.ino∧x.ino≠D.ino):=by
  intro x hx
  have hx':=(pV up' x).1 hx
  rw [map'] at hx'
  split at hx'
  ·injection hx' with hx'; exact .inl hx'.symm
  ·split at hx'
   ·injection hx' with hx'; exact .inr (.inl hx'.symm)
   ·rename_i n1 n2
    exact .inr (.inr ⟨(aL hx').1,n1,n2⟩)
 have len':(mY t D n X).inodes.length≤30:=by
  have a0:=h.tab.len
  have a1:=mH h.tab.up (c9 D n X.ino)
  have a2:(t.inodes.find? fun y=>decide (y.ino=(c9 D n X.ino).ino))=some D:=hD
  rw [a2] at a1
  simp only [lT2,lP] at a1
  have a3:=mH up1 (g9 X)
  have a4:((aF t (c9 D n X.ino)).inodes.find? fun y=>decide (y.ino=(g9 X).ino))=some X:=by
   show aC (aF t (c9 D n X.ino)) X.ino=some X
   rw [map1,lK hne]; exact hX
  rw [a4] at a3
  simp only [lT2,lP] at a3
  have e4:(aF t (c9 D n X.ino)).inodes.length=(bO t.inodes (c9 D n X.ino)).length:=rfl
  show (bO (aF t (c9 D n X.ino)).inodes (g9 X)).length≤30
  omega
 refine tQ ⟨len',h.tab.next,fun x hx'=>?_,up',?_⟩ (fun x hx'=>?_) (fun x hx' f hf'=>?_) fun x hx'=>?_
 ·show InodeOk x∧x.ino<t.next
  rcases mem' x hx' with rfl | rfl | ⟨hx',_⟩
  ·refine ⟨?_,okX.2⟩
   obtain ⟨b1,b2,b3,b4,b5,b6,b7⟩:=okX.1
   have hb:=aj7 h.tab X.ino
   refine ⟨b1,by show 0≤X.links+1∧X.links+1≤1000; omega,?_,b4,b5,b6,.inl ⟨kX,hE⟩⟩
   show X.links+1=0↔X.ino=1
   constructor
   ·intro h0; omega
   ·intro h0; exact absurd h0 root1
  ·have he:X.links≠0:=fun h0=>root1 (okX.1.root.1 h0)
   exact ⟨tT okD.1 s.kind hn ⟨by omega,hx1.2⟩ hl hfn,okD.2⟩
  ·exact h.tab.ok x hx'
 ·obtain ⟨r,r1,r2,_⟩:=eO h
  by_cases hr:(1:Int)=D.ino
  ·exact ⟨c9 D n X.ino,by rw [map',lK (Ne.symm root1),lF hr],s.kind⟩
  ·exact ⟨r,by rw [map',lK (Ne.symm root1),lK hr]; exact r1,r2⟩
 ·rw [lk]
  rcases mem' x hx' with rfl | rfl | ⟨hx',n1,_⟩
  ·show ((aY t X.ino+(if X.ino=X.ino then 1 else 0):Nat):Int)=X.links+1
   rw [lF rfl]; omega
  ·have e5:(c9 D n X.ino).ino=D.ino:=rfl
   rw [e5,lK (Ne.symm hne)]
   exact h.links D s.mem
  ·rw [lK (Ne.symm n1)]
   exact h.links x hx'
 ·rw [map']
  have old:f.ino=X.ino∨∃ y ∈ t.inodes,f ∈ y.ents:=by
   rcases mem' x hx' with rfl | rfl | ⟨hx',_⟩
   ·exact .inr ⟨X,X1,hf'⟩
   ·rcases mem_putK.1 hf' with rfl | hf'
    ·exact .inl rfl
    ·exact .inr ⟨D,s.mem,hf'⟩
   ·exact .inr ⟨x,hx',hf'⟩
  rcases old with e | ⟨y,hy,hfy⟩
  ·rw [lF e]; rfl
  ·have:=h.there y hy f hfy
   split
   ·rfl
   ·split
    ·rfl
    ·exact this
 ·have other:∀ y,y ∈ t.inodes→∃ l,aP (aC (mY t D n X)) l 1=some y.ino:=by
   intro y hy
   obtain ⟨l,hl'⟩:=f9 h hy
   refine ⟨l,?_⟩
   rw [wk,lK,hl']
   rintro rfl
   rw [wn] at hl'
   exact absurd hl' (by simp)
  rcases mem' x hx' with rfl | rfl | ⟨hx',_⟩
  ·exact other X X1
  ·exact other D s.mem
  ·exact other x hx'
def fT (D1 D2:Inode) (n1:aA):Inode:=if D1.ino=D2.ino then cD D1 n1 else D2
def jZ (t:Tab) (D1 D2:Inode) (n1 n2:aA) (j:Int):Tab:=aF (aF t (cD D1 n1)) (c9 (fT D1 D2 n1) n2 j)
theorem ahK {t:Tab} (h:TreeOk t) {D1 D2:Inode} {d1 d2:List aA} (s1:Spot t D1 d1) (s2:Spot t D2 d2) {e:Ent} (he:e ∈ D1.ents) {n2:aA} (hn:aW n2=true) (hf:bC D2 n2=0)
  (hl:D2.ents.length<10∨D1.ino=D2.ino) (hb:¬ (d1++[e.name]) <+: (d2++[n2])) :
  TreeOk (jZ t D1 D2 e.name n2 e.ino)∧(∀ b,aP (aC (jZ t D1 D2 e.name n2 e.ino)) (d2++n2::b) 1=aP (aC t) (d1++e.name::b) 1) ∧
  (∀ l,¬ (d2++[n2]) <+: l→aP (aC (jZ t D1 D2 e.name n2 e.ino)) l 1=if (d1++[e.name]).isPrefixOf l then none else aP (aC t) l 1) ∧
  (∀ b,aP (aC t) (d2++n2::b) 1=none) ∧
  (∀ i,aC (jZ t D1 D2 e.name n2 e.ino) i=if i=D2.ino then some (c9 (fT D1 D2 e.name) n2 e.ino) else if i=D1.ino then some (cD D1 e.name) else aC t i):=by
 have hD1:=fV h s1.mem
 have hD2:=fV h s2.mem
 have same:D1.ino=D2.ino→D1=D2:=fun hc=>by rw [hc,hD2] at hD1; injection hD1 with hD1; exact hD1.symm
 have okD1:=h.tab.ok D1 s1.mem
 have okD2:=h.tab.ok D2 s2.mem
 have eok:=(bM h s1.mem).ok e he
 have mk:(fT D1 D2 e.name).kind=2:=by unfold fT; split; exact s1.kind; exact s2.kind
 have mi:(fT D1 D2 e.name).ino=D2.ino:=by unfold fT; split; (rename_i hc; exact hc); rfl
 have ml:(fT D1 D2 e.name).links=D2.links:=by
  unfold fT; split
  ·rename_i hc; show D1.links=D2.links; rw [same hc]
  ·rfl
 have mok:InodeOk (fT D1 D2 e.name):=by unfold fT; split; exact tR okD1.1 _; exact okD2.1
 have msub:∀ f ∈ (fT D1 D2 e.name).ents,f ∈ D2.ents:=by
  intro f hf'
  unfold fT at hf'
  split at hf'
  ·rename_i hc; rw [← same hc]; exact (mem_cutK.1 hf').1
  ·exact hf'
 have mlen:(fT D1 D2 e.name).ents.length<10:=by
  unfold fT
  split
  ·have a:=aj6 (bM h s1.mem).up he
   have b:=(bM h s1.mem).len
   show (c8 D1.ents e.name).length<10
   unfold c8; omega
  ·rename_i hc; exact hl.resolve_right hc
 have hf2:∀ f ∈ D2.ents,f.name≠n2:=(ab7 (oZ h s2.mem)).1 hf
 have mfn:∀ f ∈ (fT D1 D2 e.name).ents,f.name≠n2:=fun f hf'=>hf2 f (msub f hf')
 have up1:=fW h.tab.up (cD D1 e.name)
 have up':UpI (jZ t D1 D2 e.name n2 e.ino).inodes:=fW up1 _
 have map1:∀ i,aC (aF t (cD D1 e.name)) i=if D1.ino=i then some (cD D1 e.name) else aC t i:=fun i=>b9 h.tab.up _ i
 have at2:aC (aF t (cD D1 e.name)) D2.ino=some (fT D1 D2 e.name):=by
  rw [map1]
  unfold fT
  split
  ·rfl
  ·exact hD2
 have pi:(c9 (fT D1 D2 e.name) n2 e.ino).ino=D2.ino:=mi
 have map':∀ i,aC (jZ t D1 D2 e.name n2 e.ino) i=if i=D2.ino then some (c9 (fT D1 D2 e.name) n2 e.ino) else if i=D1.ino then some (cD D1 e.name) else aC t i:=by
  intro i
  unfold jZ
  rw [b9 up1,map1,pi]
  by_cases h1:i=D2.ino
  ·rw [lF h1.symm,lF h1]
  ·rw [lK (Ne.symm h1),lK h1]
   by_cases h2:i=D1.ino
   ·rw [lF h2.symm,lF h2]
   ·rw [lK (Ne.symm h2),lK h2]
 have st1:∀ i m,i≠D1.ino∨m≠e.name→bT (aC (aF t (cD D1 e.name))) i m=bT (aC t) i m:=by
  intro i m him
  by_cases h2:i=D1.ino
  ·have hm:=him.resolve_left (by simp [h2])
   rw [aV (x:=cD D1 e.name) (by rw [map1,lF h2.symm]) m,aV (M:=aC t) (x:=D1) (by rw [h2]; exact hD1) m]
   have:bC (cD D1 e.name) m=bC D1 m:=by unfold cD; rw [nJ,if_neg hm]
   rw [this]; rfl
  ·exact mI (by rw [map1,lK (Ne.symm h2)]) m
 have sn1:bT (aC (aF t (cD D1 e.name))) D1.ino e.name=none:=by
  rw [aV (x:=cD D1 e.name) (by rw [map1,lF rfl]) e.name]
  have:bC (cD D1 e.name) e.name=0:=by unfold cD; rw [nJ,if_pos rfl]
  rw [this,lK (by simp)]
 have st2:∀ i m,i≠D2.ino∨m≠n2→bT (aC (jZ t D1 D2 e.name n2 e.ino)) i m=bT (aC (aF t (cD D1 e.name))) i m:=by
  intro i m him
  by_cases h2:i=D2.ino
  ·have hm:=him.resolve_left (by simp [h2])
   rw [aV (x:=c9 (fT D1 D2 e.name) n2 e.ino) (by rw [map',lF h2]) m,aV (M:=aC (aF t (cD D1 e.name))) (x:=fT D1 D2 e.name) (by rw [h2]; exact at2) m]
   have:bC (c9 (fT D1 D2 e.name) n2 e.ino) m=bC (fT D1 D2 e.name) m:=by unfold c9; rw [jY mok.ents.up mfn,if_neg hm]
   rw [this]; rfl
  ·exact mI (by rw [map',lK h2,map1]; by_cases h3:i=D1.ino; (rw [lF h3,lF h3.symm]); (rw [lK h3,lK (Ne.symm h3)])) m
 have sn2:bT (aC (jZ t D1 D2 e.name n2 e.ino)) D2.ino n2=some e.ino:=by
  rw [aV (x:=c9 (fT D1 D2 e.name) n2 e.ino) (by rw [map',lF rfl]) n2]
  have:bC (c9 (fT D1 D2 e.name) n2 e.ino) n2=e.ino:=by unfold c9; rw [jY mok.ents.up mfn,if_pos rfl]
  rw [this,lF ⟨mk,by omega⟩]
 have hu1:=gA h s1
 have hu2:=gA h s2
 have hd1:cJ (bT (aC t)) d1 1=some D1.ino:=by rw [← cL]; exact s1.at'
 have hd2:cJ (bT (aC t)) d2 1=some D2.ino:=by rw [← cL]; exact s2.at'
 have on1:bT (aC t) D1.ino e.name=some e.ino:=by
  rw [aV hD1,eN (bM h s1.mem).up he,lF ⟨s1.kind,oZ h s1.mem e he⟩]
 have off2:bT (aC t) D2.ino n2=none:=by rw [aV hD2,hf,lK (by simp)]
 have thru:∀ b,cJ (bT (aC t)) (d1++e.name::b) 1=cJ (bT (aC t)) b e.ino:=by
  intro b
  rw [dH,hd1]
  show (bT (aC t) D1.ino e.name).bind _=_
  rw [on1]; rfl
 have w1:∀ l,cJ (bT (aC (aF t (cD D1 e.name)))) l 1=if (d1++[e.name]).isPrefixOf l then none else cJ (bT (aC t)) l 1:=by
  intro l
  by_cases hp:(d1++[e.name]) <+: l
  ·rw [lF (lY2.2 hp)]
   obtain ⟨b,rfl⟩:=hp
   have e1:d1++[e.name]++b=d1++e.name::b:=by simp
   rw [e1,pU st1 hu1 hd1,sn1]; rfl
  ·rw [lK (by rw [lY2]; exact hp),fG st1 hu1 hp]
 have npd2:¬ (d1++[e.name]) <+: d2:=fun hp=>hb (hp.trans (List.prefix_append _ _))
 have hd2':cJ (bT (aC (aF t (cD D1 e.name)))) d2 1=some D2.ino:=by rw [w1,lK (by rw [lY2]; exact npd2),hd2]
 have hu2':∀ a,cJ (bT (aC (aF t (cD D1 e.name)))) a 1=some D2.ino→a=d2:=by
  intro a ha
  rw [w1] at ha
  split at ha
  ·exact absurd ha (by simp)
  ·exact hu2 a ha
 have far1:∀ a,cJ (bT (aC t)) a e.ino≠some D1.ino:=by
  intro a ha
  rw [← thru a] at ha
  have:=congrArg List.length (hu1 _ ha)
  simp at this
 have b1:∀ b,cJ (bT (aC (aF t (cD D1 e.name)))) b e.ino=cJ (bT (aC t)) b e.ino:=tO st1 far1
 have far2:∀ a,cJ (bT (aC (aF t (cD D1 e.name)))) a e.ino≠some D2.ino:=by
  intro a ha
  rw [b1,← thru a] at ha
  exact npd2 ⟨a,by rw [← hu2 _ ha]; simp⟩
 have wq:∀ b,aP (aC (jZ t D1 D2 e.name n2 e.ino)) (d2++n2::b) 1=aP (aC t) (d1++e.name::b) 1:=by
  intro b
  rw [cL,cL,pU st2 hu2' hd2',sn2,thru]
  show cJ _ b e.ino=_
  rw [tO st2 far2,b1]
 have wo:∀ l,¬ (d2++[n2]) <+: l→aP (aC (jZ t D1 D2 e.name n2 e.ino)) l 1=if (d1++[e.name]).isPrefixOf l then none else aP (aC t) l 1:=by
  intro l hp
  rw [cL,cL,fG st2 hu2' hp,w1]
 have wn:∀ b,aP (aC t) (d2++n2::b) 1=none:=by
  intro b
  rw [cL,dH,hd2]
  show (bT (aC t) D2.ino n2).bind _=none
  rw [off2]; rfl
 refine ⟨?_,wq,wo,wn,map'⟩
 have lk:∀ i,aY (jZ t D1 D2 e.name n2 e.ino) i=aY t i:=by
  intro i
  have a1:=fQ h.tab.up (cD D1 e.name) i
  have a2:(List.map Ent.ino (c8 D1.ents e.name)).count i+(if e.ino=i then 1 else 0)=(D1.ents.map Ent.ino).count i:=rL (bM h s1.mem).up he i
  have a3:aC t (cD D1 e.name).ino=some D1:=hD1
  have a4:=fQ up1 (c9 (fT D1 D2 e.name) n2 e.ino) i
  rw [pi,at2] at a4
  rw [a3] at a1
  have a5:(List.map Ent.ino (dJ (fT D1 D2 e.name).ents ⟨n2,e.ino⟩)).count i=((fT D1 D2 e.name).ents.map Ent.ino).count i+if e.ino=i then 1 else 0:=iZ _ ⟨n2,e.ino⟩ i
  have c1:fF (cD D1 e.name)=(c8 D1.ents e.name).map Ent.ino:=by rw [fF,lF (show (cD D1 e.name).kind=2 from s1.kind)]; rfl
  have c2:fF D1=D1.ents.map Ent.ino:=by rw [fF,lF s1.kind]
  have c3:fF (c9 (fT D1 D2 e.name) n2 e.ino)=(dJ (fT D1 D2 e.name).ents ⟨n2,e.ino⟩).map Ent.ino:=by rw [fF,lF (show (c9 (fT D1 D2 e.name) n2 e.ino).kind=2 from mk)]; rfl
  have c4:fF (fT D1 D2 e.name)=(fT D1 D2 e.name).ents.map Ent.ino:=by rw [fF,lF mk]
  simp only [lB,lF1,c1,c2,c3,c4] at a1 a4
  have e0:aY (jZ t D1 D2 e.name n2 e.ino) i=aY (aF (aF t (cD D1 e.name)) (c9 (fT D1 D2 e.name) n2 e.ino)) i:=rfl
  omega
 have mem':∀ x,x ∈ (jZ t D1 D2 e.name n2 e.ino).inodes→x=c9 (fT D1 D2 e.name) n2 e.ino∨x=cD D1 e.name∨x ∈ t.inodes:=by
  intro x hx
  have hx':=(pV up' x).1 hx
  rw [map'] at hx'
  split at hx'
  ·injection hx' with hx'; exact .inl hx'.symm
  ·split at hx'
   ·injection hx' with hx'; exact .inr (.inl hx'.symm)
   ·exact .inr (.inr (aL hx').1)
 have len':(jZ t D1 D2 e.name n2 e.ino).inodes.length≤30:=by
  have a0:=h.tab.len
  have a1:=mH h.tab.up (cD D1 e.name)
  have a2:(t.inodes.find? fun y=>decide (y.ino=(cD D1 e.name).ino))=some D1:=hD1
  rw [a2] at a1
  simp only [lT2,lP] at a1
  have a3:=mH up1 (c9 (fT D1 D2 e.name) n2 e.ino)
  have a4:((aF t (cD D1 e.name)).inodes.find? fun y=>decide (y.ino=(c9 (fT D1 D2 e.name) n2 e.ino).ino))=some (fT D1 D2 e.name):=by
   show aC (aF t (cD D1 e.name)) (c9 (fT D1 D2 e.name) n2 e.ino).ino=_
   rw [pi]; exact at2
  rw [a4] at a3
  simp only [lT2,lP] at a3
  have e4:(aF t (cD D1 e.name)).inodes.length=(bO t.inodes (cD D1 e.name)).length:=rfl
  show (bO (aF t (cD D1 e.name)).inodes (c9 (fT D1 D2 e.name) n2 e.ino)).length≤30
  omega
 have isS:∀ i,(aC t i).isSome=true→(aC (jZ t D1 D2 e.name n2 e.ino) i).isSome=true:=by
  intro i hi
  rw [map']
  split
  ·rfl
  ·split
   ·rfl
   ·exact hi
 refine tQ ⟨len',h.tab.next,fun x hx'=>?_,up',?_⟩ (fun x hx'=>?_) (fun x hx' f hf'=>?_) fun x hx'=>?_
 ·show InodeOk x∧x.ino<t.next
  rcases mem' x hx' with rfl | rfl | hx'
  ·exact ⟨tT mok mk hn eok.2 mlen mfn,by rw [pi]; exact okD2.2⟩
  ·exact ⟨tR okD1.1 _,okD1.2⟩
  ·exact h.tab.ok x hx'
 ·obtain ⟨r,r1,r2,_⟩:=eO h
  by_cases hr:(1:Int)=D2.ino
  ·exact ⟨c9 (fT D1 D2 e.name) n2 e.ino,by rw [map',lF hr],mk⟩
  ·by_cases hr1:(1:Int)=D1.ino
   ·exact ⟨cD D1 e.name,by rw [map',lK hr,lF hr1],s1.kind⟩
   ·exact ⟨r,by rw [map',lK hr,lK hr1]; exact r1,r2⟩
 ·rw [lk]
  rcases mem' x hx' with rfl | rfl | hx'
  ·rw [pi]
   show _=(fT D1 D2 e.name).links
   rw [ml]; exact h.links D2 s2.mem
  ·exact h.links D1 s1.mem
  ·exact h.links x hx'
 ·rcases mem' x hx' with rfl | rfl | hx'
  ·rcases mem_putK.1 hf' with rfl | hf'
   ·exact isS _ (h.there D1 s1.mem e he)
   ·exact isS _ (h.there D2 s2.mem f (msub f hf'))
  ·exact isS _ (h.there D1 s1.mem f (mem_cutK.1 hf').1)
  ·exact isS _ (h.there x hx' f hf')
 ·have other:∀ y,y ∈ t.inodes→∃ l,aP (aC (jZ t D1 D2 e.name n2 e.ino)) l 1=some y.ino:=by
   intro y hy
   obtain ⟨l,hl'⟩:=f9 h hy
   by_cases hp:(d1++[e.name]) <+: l
   ·obtain ⟨b,rfl⟩:=hp
    have e1:d1++[e.name]++b=d1++e.name::b:=by simp
    exact ⟨d2++n2::b,by rw [wq,← e1]; exact hl'⟩
   ·refine ⟨l,?_⟩
    rw [wo,lK (by rw [lY2]; exact hp),hl']
    rintro ⟨b,rfl⟩
    have e1:d2++[n2]++b=d2++n2::b:=by simp
    rw [e1,wn] at hl'
    exact absurd hl' (by simp)
  rcases mem' x hx' with rfl | rfl | hx'
  ·rw [pi]; exact other D2 s2.mem
  ·exact other D1 s1.mem
  ·exact other x hx'
theorem pY {t:Tab} (h:TreeOk t) {X Y:Inode} (hX:X ∈ t.inodes) (e1:Y.ino=X.ino) (e2:Y.kind=X.kind) (e3:Y.links=X.links) (e4:Y.ents=X.ents) (ok:InodeOk Y) :
  TreeOk (aF t Y)∧(∀ l i,aP (aC (aF t Y)) l i=aP (aC t) l i)∧(∀ i,aC (aF t Y) i=if i=X.ino then some Y else aC t i):=by
 have aX:=fV h hX
 have up':=fW h.tab.up Y
 have map':∀ i,aC (aF t Y) i=if i=X.ino then some Y else aC t i:=by
  intro i
  rw [b9 h.tab.up,e1]
  by_cases h1:i=X.ino
  ·rw [lF h1.symm,lF h1]
  ·rw [lK (Ne.symm h1),lK h1]
 have eE:∀ m,bC Y m=bC X m:=fun m=>by unfold bC; rw [e4]
 have st:bT (aC (aF t Y))=bT (aC t):=by
  funext i m
  by_cases h1:i=X.ino
  ·rw [aV (x:=Y) (by rw [map',lF h1]) m,aV (M:=aC t) (x:=X) (by rw [h1]; exact aX) m,eE,e2]
  ·exact mI (by rw [map',lK h1]) m
 have wk:∀ l i,aP (aC (aF t Y)) l i=aP (aC t) l i:=fun l i=>by rw [cL,cL,st]
 refine ⟨?_,wk,map'⟩
 have nb:fF Y=fF X:=by unfold fF; rw [e2,e4]
 have lk:∀ i,aY (aF t Y) i=aY t i:=by
  intro i
  have a1:=fQ h.tab.up Y i
  rw [e1,aX,nb] at a1
  simp only [lB,lF1] at a1
  omega
 have mem':∀ x,x ∈ (aF t Y).inodes→x=Y∨x ∈ t.inodes:=by
  intro x hx
  have hx':=(pV up' x).1 hx
  rw [map'] at hx'
  split at hx'
  ·injection hx' with hx'; exact .inl hx'.symm
  ·exact .inr (aL hx').1
 have isS:∀ i,(aC t i).isSome=true→(aC (aF t Y) i).isSome=true:=by
  intro i hi
  rw [map']
  split
  ·rfl
  ·exact hi
 have len':(aF t Y).inodes.length≤30:=by
  have a0:=h.tab.len
  have a1:=mH h.tab.up Y
  have a2:(t.inodes.find? fun y=>decide (y.ino=Y.ino))=some X:=by rw [e1]; exact aX
  rw [a2] at a1
  simp only [lT2,lP] at a1
  show (bO t.inodes Y).length≤30
  omega
 refine tQ ⟨len',h.tab.next,fun x hx=>?_,up',?_⟩ (fun x hx=>?_) (fun x hx f hf=>?_) fun x hx=>?_
 ·show InodeOk x∧x.ino<t.next
  rcases mem' x hx with rfl | hx
  ·exact ⟨ok,by rw [e1]; exact (h.tab.ok X hX).2⟩
  ·exact h.tab.ok x hx
 ·obtain ⟨r,r1,r2,_⟩:=eO h
  by_cases hr:(1:Int)=X.ino
  ·refine ⟨Y,by rw [map',lF hr],?_⟩
   rw [hr,aX] at r1
   injection r1 with r1
   rw [e2,r1]; exact r2
  ·exact ⟨r,by rw [map',lK hr]; exact r1,r2⟩
 ·rw [lk]
  rcases mem' x hx with rfl | hx
  ·rw [e1,e3]; exact h.links X hX
  ·exact h.links x hx
 ·rcases mem' x hx with rfl | hx
  ·rw [e4] at hf; exact isS _ (h.there X hX f hf)
  ·exact isS _ (h.there x hx f hf)
 ·have other:∀ y,y ∈ t.inodes→∃ l,aP (aC (aF t Y)) l 1=some y.ino:=by
   intro y hy
   obtain ⟨l,hl⟩:=f9 h hy
   exact ⟨l,by rw [wk]; exact hl⟩
  rcases mem' x hx with rfl | hx
  ·rw [e1]; exact other X hX
  ·exact other x hx
def iO (t:Tab):Nat→Inode→List (List aA)
 | 0,_=>[]
 | k+1,x=>x.ents.flatMap fun e=>[e.name]::(((aC t e.ino).map (iO t k)).getD []).map (e.name::·)
theorem oC {t:Tab} (h:TreeOk t) (k:Nat):∀ (x:Inode),x ∈ t.inodes→∀ l,l ∈ iO t k x↔l≠[]∧l.length≤k∧(aP (aC t) l x.ino).isSome=true:=by
 induction k with
 | zero=>
  intro x hx l
  constructor
  ·intro hl; exact absurd hl (by simp [iO])
  ·rintro ⟨h1,h2,_⟩; exact absurd (lQ1.1 (Nat.le_zero.1 h2)) h1
 | succ k ih=>
  intro x hx l
  have ax:=fV h hx
  rw [iO,lH3]
  constructor
  ·rintro ⟨e,he,hl⟩
   have kx:x.kind=2:=by
    apply Classical.byContradiction
    intro hk
    rw [(nI h hx hk).1] at he
    exact absurd he (by simp)
   obtain ⟨y,hy⟩:=lA1.1 (h.there x hx e he)
   obtain ⟨y1,y2⟩:=aL hy
   have hw:∀ b,aP (aC t) (e.name::b) x.ino=aP (aC t) b e.ino:=fun b=>by
    rw [aP,ax]
    show (if x.kind=2∧bC x e.name≠0 then _ else none)=_
    rw [eN (bM h hx).up he,lF ⟨kx,oZ h hx e he⟩]
   rw [hy] at hl
   simp only [lB,lF1] at hl
   rcases lG.1 hl with rfl | hl
   ·exact ⟨by simp,by simp,by rw [hw]; rfl⟩
   ·obtain ⟨b,hb,rfl⟩:=lX1.1 hl
    obtain ⟨_,b2,b3⟩:=(ih y y1 b).1 hb
    exact ⟨by simp,by simp only [lN1]; omega,by rw [hw,← y2]; exact b3⟩
  ·rintro ⟨h1,h2,h3⟩
   cases l with
   | nil=>exact absurd rfl h1
   | cons n b=>
    rw [aP,ax] at h3
    simp only at h3
    by_cases hc:x.kind=2∧bC x n≠0
    ·rw [lF hc] at h3
     obtain ⟨e,he,e1,e2⟩:=qW hc.2
     refine ⟨e,he,?_⟩
     obtain ⟨y,hy⟩:=lA1.1 (h.there x hx e he)
     obtain ⟨y1,y2⟩:=aL hy
     rw [hy]
     simp only [lB,lF1]
     cases b with
     | nil=>rw [← e1]; exact List.mem_cons_self
     | cons m b=>
      refine List.mem_cons_of_mem _ (lX1.2 ⟨m::b,(ih y y1 _).2 ⟨by simp,by simpa using h2,?_⟩,by rw [e1]⟩)
      rw [y2,e2]; exact h3
    ·rw [lK hc] at h3; exact absurd h3 (by simp)
theorem aai {t:Tab} (h:TreeOk t) (k:Nat):∀ (x:Inode),x ∈ t.inodes→(iO t k x).Nodup:=by
 induction k with
 | zero=>intro x _; simp [iO]
 | succ k ih=>
  intro x hx
  rw [iO,List.Nodup,List.pairwise_flatMap]
  refine ⟨fun e he=>?_,?_⟩
  ·obtain ⟨y,hy⟩:=lA1.1 (h.there x hx e he)
   obtain ⟨y1,y2⟩:=aL hy
   rw [hy]
   simp only [lB,lF1]
   refine lZ.2 ⟨fun b hb=>?_,?_⟩
   ·obtain ⟨c,hc,rfl⟩:=lX1.1 hb
    have:=((oC h k y y1 c).1 hc).1
    intro e'
    injection e' with _ e'
    exact this e'.symm
   ·rw [List.pairwise_map]
    exact (ih y y1).imp fun hne e'=>hne (by injection e')
  ·refine (bM h hx).up.imp fun {a b} hab u hu v hv=>?_
   have hd:∀ (e:Ent) (u:List aA),u ∈ ([e.name]::(((aC t e.ino).map (iO t k)).getD []).map (e.name::·))→u.head?=some e.name:=by
    intro e u hu
    rcases lG.1 hu with rfl | hu
    ·rfl
    ·obtain ⟨c,_,rfl⟩:=lX1.1 hu; rfl
   rintro rfl
   have h1:=hd a u hu
   rw [hd b u hv] at h1
   injection h1 with h1
   rw [h1] at hab
   exact absurd hab (lX3 _)
def vO (t:Tab):List aA:=(((aC t 1).map (iO t 30)).getD []).map eT
theorem ae7 {t:Tab} (h:TreeOk t) (s:aA):s ∈ vO t↔∃ l,l≠[]∧s=eT l∧(aP (aC t) l 1).isSome=true:=by
 obtain ⟨r,r1,_,r3⟩:=eO h
 have r4:=(aL r1).2
 rw [vO,r1]
 simp only [lB,lF1,lX1]
 constructor
 ·rintro ⟨l,hl,rfl⟩
  obtain ⟨a,_,c⟩:=(oC h 30 r r3 l).1 hl
  exact ⟨l,a,rfl,by rw [← r4]; exact c⟩
 ·rintro ⟨l,a,rfl,c⟩
  refine ⟨l,(oC h 30 r r3 l).2 ⟨a,?_,by rw [r4]; exact c⟩,rfl⟩
  obtain ⟨i,hi⟩:=lA1.1 c
  have:=(qX h hi).1
  have:=h.tab.len
  omega
def inR (x a b:Int):Bool:=decide (a≤x∧x≤b)
section
theorem pZ (a b:aA):strLt a b=decide (a<b):=bytesLess_eq a b
section
variable {α:Type} (p:Nat→α→Bool) (lt:α→α→Bool)
def ahL (l:List α) (x:α):Nat→Bool
 | 0=>true
 | k+1=>match l[k]? with
  | none=>true
  | some y=>lt y x
def eG (l:List α) (i:Nat):Bool:=match l[i]? with
 | none=>true
 | some x=>p i x && ahL lt l x i
def uR (l:List α):Bool:=(List.range l.length).all (eG p lt l)
variable {p lt}
theorem r7 {l:List α} {i:Nat} (h:i<l.length) (e:eG p lt l i=false):uR p lt l=false:=by
 rw [uR,lP4]
 exact ⟨i,by simpa using h,by simp [e]⟩
theorem nO {l:List α} (h:∀ i,i<l.length→eG p lt l i=true):uR p lt l=true:=by
 rw [uR,lV]
 intro k hk
 exact h k (by simpa using hk)
theorem iP {l:List α} (h:0<l.length):eG p lt l 0=p 0 l[0]:=by
 rw [eG,lH h]; simp [ahL]
theorem c6 {l:List α} {i:Nat} (h:i+1<l.length):eG p lt l (i+1)=(p (i+1) l[i+1] && lt l[i] l[i+1]):=by
 rw [eG,lH h]
 simp only [ahL]
 rw [lH (show i<l.length by omega)]
theorem nP (htr:∀ a b c,lt a b=true→lt b c=true→lt a c=true) (l:List α):uR p lt l=true↔(∀ i,(h:i<l.length)→p i l[i]=true)∧l.Pairwise (fun a b=>lt a b=true):=by
 constructor
 ·intro h
  have h':∀ i,i<l.length→eG p lt l i=true:=by
   intro i hi
   rw [uR,lV] at h
   exact h i (by simpa using hi)
  refine ⟨fun i hi=>?_,?_⟩
  ·have:=h' i hi
   rw [eG,lH hi] at this
   simp only [lN] at this
   exact this.1
  ·rw [lQ2]
   intro i j hi hj hij
   induction j with
   | zero=>omega
   | succ j ih=>
    have hs:=h' (j+1) hj
    rw [c6 hj,lN] at hs
    by_cases e:i=j
    ·subst e; exact hs.2
    ·exact htr _ _ _ (ih (by omega) (by omega)) hs.2
 ·rintro ⟨h1,h2⟩
  refine nO fun i hi=>?_
  cases i with
  | zero=>rw [iP hi]; exact h1 0 hi
  | succ i=>
   rw [c6 hi,lN]
   exact ⟨h1 _ hi,lQ2.1 h2 i (i+1) (by omega) hi (by omega)⟩
end
theorem ank:∀ a b c:aA,decide (a<b)=true→decide (b<c)=true→decide (a<c)=true:=by
 intro a b c h1 h2
 simp only [decide_eq_true_eq] at *
 exact List.lt_trans h1 h2
theorem acb {α:Type} {l:List α} {p:α→Prop}:(∀ i,(h:i<l.length)→p l[i])↔∀ x ∈ l,p x:=by
 constructor
 ·intro h x hx
  obtain ⟨i,hi,rfl⟩:=lU1 hx
  exact h i hi
 ·intro h i hi; exact h _ (lQ hi)
def aaj (a:Attr):Bool:=aW a.name && inR a.val.length 1 16
def tU (a b:Attr):Bool:=decide (a.name<b.name)
def xK (l:List Attr):Bool:=uR (fun _=>aaj) tU l
def rM (l:List Attr):Bool:=xK l && decide (l.length≤4)
def akU (e:Ent):Bool:=aW e.name && inR e.ino 2 1000
def acd (a b:Ent):Bool:=decide (a.name<b.name)
def adp (l:List Ent):Bool:=uR (fun _=>akU) acd l
def aak (l:List Ent):Bool:=adp l && decide (l.length≤10)
def aal (x:Inode):Bool:=if x.kind=1 then decide (x.ents.length=0) else if x.kind=2 then decide (x.data.length=0) && decide (x.links≤1) else false
def j4 (x:Inode):Bool:=inR x.ino 1 1000 && (inR x.links 0 1000 && (decide (x.links=0) == decide (x.ino=1)) && (decide (x.data.length≤100) && (aak x.ents && (rM x.attrs && aal x))))
def p7 (t:Tab) (x:Inode):Bool:=j4 x && decide (x.ino<t.next)
def mJ (a b:Inode):Bool:=decide (a.ino<b.ino)
def oD (t:Tab):Bool:=uR (fun _=>p7 t) mJ t.inodes
def xL (t:Tab):Bool:=match aC t 1 with
 | none=>false
 | some x=>decide (x.kind=2)
def ae8 (t:Tab):Bool:=decide (t.inodes.length≤30) && (inR t.next 2 1000 && (oD t && xL t))
def vP (t:Tab) (x:Inode):Bool:=x.ents.all fun e=>(aC t e.ino).isSome
def q0 (t:Tab) (x:Inode):Bool:=decide (x.links=(aY t x.ino:Nat)) && vP t x
def bF (t:Tab):Bool:=ae8 t && (decide ((f8 t).length=t.inodes.length) && t.inodes.all (q0 t))
theorem eL (x a b:Int):inR x a b=true↔a≤x∧x≤b:=by simp [inR]
theorem ae9 (l:List Attr):rM l=true↔AttrsOk l:=by
 rw [rM,lN,xK,nP (lt:=tU) (fun a b c h1 h2=>ank a.name b.name c.name h1 h2)]
 simp only [aaj,tU,lN,decide_eq_true_eq,eL]
 rw [acb (p:=fun a:Attr=>aW a.name=true∧(1:Int)≤(a.val.length:Int)∧(a.val.length:Int)≤16)]
 constructor
 ·rintro ⟨⟨h1,h2⟩,h3⟩
  exact ⟨h3,fun a ha=>⟨(h1 a ha).1,by have:=(h1 a ha).2.1; omega,by have:=(h1 a ha).2.2; omega⟩,h2⟩
 ·rintro ⟨h3,h1,h2⟩
  exact ⟨⟨fun a ha=>⟨(h1 a ha).1,by have:=(h1 a ha).2.1; omega,by have:=(h1 a ha).2.2; omega⟩,h2⟩,h3⟩
theorem ahM (l:List Ent):aak l=true↔EntsOk l:=by
 rw [aak,lN,adp,nP (lt:=acd) (fun a b c h1 h2=>ank a.name b.name c.name h1 h2)]
 simp only [akU,acd,lN,decide_eq_true_eq,eL]
 rw [acb (p:=fun a:Ent=>aW a.name=true∧(2:Int)≤a.ino∧a.ino≤1000)]
 constructor
 ·rintro ⟨⟨h1,h2⟩,h3⟩; exact ⟨h3,h1,h2⟩
 ·rintro ⟨h3,h1,h2⟩; exact ⟨⟨h1,h2⟩,h3⟩
theorem ahN (x:Inode):aal x=true↔(x.kind=1∧x.ents=[])∨(x.kind=2∧x.data=[]∧x.links≤1):=by
 unfold aal
 by_cases h1:x.kind=1
 ·rw [lF h1]
  simp only [decide_eq_true_eq,lQ1]
  constructor
  ·exact fun h=>.inl ⟨h1,h⟩
  ·rintro (⟨_,h⟩ | ⟨h,_⟩)
   ·exact h
   ·omega
 ·rw [lK h1]
  by_cases h2:x.kind=2
  ·rw [lF h2]
   simp only [lN,decide_eq_true_eq,lQ1]
   constructor
   ·exact fun h=>.inr ⟨h2,h⟩
   ·rintro (⟨h,_⟩ | ⟨_,h⟩)
    ·exact absurd h h1
    ·exact h
  ·rw [lK h2]
   constructor
   ·intro h; cases h
   ·rintro (⟨h,_⟩ | ⟨h,_⟩)
    ·exact absurd h h1
    ·exact absurd h h2
theorem vQ (x:Inode):j4 x=true↔InodeOk x:=by
 unfold j4
 simp only [lN,eL,decide_eq_true_eq,ahM,ae9,ahN,beq_iff_eq,decide_eq_decide]
 constructor
 ·rintro ⟨h1,⟨h2,h3⟩,h4,h5,h6,h7⟩; exact ⟨h1,h2,h3,h4,h5,h6,h7⟩
 ·rintro ⟨h1,h2,h3,h4,h5,h6,h7⟩; exact ⟨h1,⟨h2,h3⟩,h4,h5,h6,h7⟩
theorem ahO (t:Tab):xL t=true↔∃ x,aC t 1=some x∧x.kind=2:=by
 unfold xL
 cases aC t 1 with
 | none=>simp
 | some x=>simp
theorem aj8 (t:Tab):ae8 t=true↔TabOk t:=by
 unfold ae8
 rw [oD]
 simp only [lN,decide_eq_true_eq,eL,ahO]
 rw [nP (fun a b c h1 h2=>by simp only [mJ,decide_eq_true_eq] at *; omega)]
 simp only [p7,mJ,lN,decide_eq_true_eq,vQ]
 rw [acb (p:=fun x:Inode=>InodeOk x∧x.ino<t.next)]
 constructor
 ·rintro ⟨h1,h2,⟨h3,h4⟩,h5⟩; exact ⟨h1,h2,h3,h4,h5⟩
 ·rintro ⟨h1,h2,h3,h4,h5⟩; exact ⟨h1,h2,⟨h3,h4⟩,h5⟩
theorem aS (t:Tab):bF t=true↔TreeOk t:=by
 unfold bF
 simp only [lN,decide_eq_true_eq,aj8,lV,q0,vP]
 constructor
 ·rintro ⟨h1,h2,h3⟩; exact ⟨h1,h2,fun x hx=>(h3 x hx).1.symm,fun x hx=>(h3 x hx).2⟩
 ·rintro ⟨h1,h2,h3,h4⟩; exact ⟨h1,h2,fun x hx=>⟨(h3 x hx).symm,h4 x hx⟩⟩
def eP (f:Fs) (n:aA):Option Nat:=f.vols.findIdx? fun v=>decide (v.name=n)
def q7 (f:Fs) (i:Int):Option Nat:=f.vols.findIdx? fun v=>decide (v.id=i)
def uL (o:Option Nat):Int:=match o with
 | none=>-1
 | some i=>i
def qH (f:Fs) (i:Nat) (v:Vol):Bool:=decide (1≤v.id) && (decide (v.id<f.next) && (aW v.name && (decide (uL (eP f v.name)=(i:Int)) && (inR v.limit 32 4000 && (bF v.t && decide ((dO v.t:Nat)≤v.limit))))))
def tV (a b:Vol):Bool:=decide (a.id<b.id)
def fsB (f:Fs):Bool:=decide (f.vols.length≤6) && (inR f.next 1 99 && uR (qH f) tV f.vols)
end
def zN:Inode:={ ino:=0,kind:=0,links:=0,data:=[],ents:=[],attrs:=[] }
abbrev Rs (α:Type):=Except Int α
def exC {α:Type}:Rs α→Int
 | .ok _=>0
 | .error c=>c
def exI:Rs Inode→Inode
 | .ok x=>x
 | .error _=>zN
def cT (t:Tab) (s:aA):Rs Inode:=if (rK t s).2=0 then (match aC t (rK t s).1 with
 | some x=>.ok x
 | none=>.error 2) else .error (rK t s).2
def mK (t:Tab) (s:aA):Rs Inode:=match cT t s with
 | .ok x=>if x.kind=1 then .ok x else .error 3
 | .error c=>.error c
def fL (t:Tab) (s:aA):Rs Inode:=match cT t (aJ s).1 with
 | .ok D=>if D.kind=2 then .ok D else .error 3
 | .error c=>.error c
def uS (t:Tab) (s:aA) (from':Int):Rs Inode:=match fL t s with
 | .ok D=>if bC D (aJ s).2.1=0 then (if D.ents.length<10∨D.ino=from' then .ok D else .error 5) else .error 4
 | .error c=>.error c
def mL (s:aA):Bool:=(aB s).2
def jA (s:aA):Bool:=(aJ s).2.2
def aU (s:aA):aA:=(aJ s).2.1
def eR (t:Tab) (s:aA) (k:Int):Tab × Int:=if bF t=true∧jA s=true then (match uS t s 0 with
 | .ok D=>if t.inodes.length<30∧t.next<1000 then (nK t D (aU s) k,0) else (t,5)
 | .error c=>(t,c)) else (t,1)
def eQ (t:Tab) (s:aA):Tab × Int:=if bF t=true∧jA s=true then (match mK t s with
 | .ok X=>(bU t (exI (fL t s)) (aU s) X,0)
 | .error c=>(t,c)) else (t,1)
def gB (t:Tab) (s:aA):Tab × Int:=if bF t=true∧jA s=true then (match cT t s with
 | .ok X=>if X.kind=2 then (if X.ents=[] then (jJ (aF t (cD (exI (fL t s)) (aU s))) X.ino,0) else (t,6)) else (t,3)
 | .error c=>(t,c)) else (t,1)
def iQ (t:Tab) (p q:aA):Tab × Int:=if bF t=true∧mL p=true∧jA q=true then (match mK t p with
 | .ok X=>(match uS t q 0 with
  | .ok D=>(mY t D (aU q) X,0)
  | .error c=>(t,c))
 | .error c=>(t,c)) else (t,1)
def j5 (t:Tab) (p q:aA):Tab × Int:=if bF t=true∧jA p=true∧jA q=true then (match cT t p with
 | .ok X=>if xG p q=true then (t,6) else (match uS t q (exI (fL t p)).ino with
  | .ok D=>(jZ t (exI (fL t p)) D (aU p) (aU q) X.ino,0)
  | .error c=>(t,c))
 | .error c=>(t,c)) else (t,1)
def xT (b:aA) (n:Nat):aA:=b++List.replicate (n-b.length) 0
def aiK (b:aA) (o:Nat) (d:aA):aA:=(xT b (o+d.length)).take o++d++b.drop (o+d.length)
def tW (X:Inode) (b:aA):Inode:={ X with data:=b }
def rR (X:Inode) (l:List Attr):Inode:={ X with attrs:=l }
def gC (t:Tab) (p:aA) (o:Int) (d:aA):Tab × Int:=if bF t=true∧mL p=true∧inR o 0 100=true then (match mK t p with
 | .ok X=>if o+(d.length:Nat)≤100 then (aF t (tW X (aiK X.data o.toNat d)),0) else (t,5)
 | .error c=>(t,c)) else (t,1)
def q8 (t:Tab) (p:aA) (n:Int):Tab × Int:=if bF t=true∧mL p=true∧inR n 0 100=true then (match mK t p with
 | .ok X=>(aF t (tW X ((xT X.data n.toNat).take n.toNat)),0)
 | .error c=>(t,c)) else (t,1)
def p8 (l:List Attr) (n:aA):List Attr:=ahH Attr.name l n
def adq (l:List Attr) (a:Attr):List Attr:=tP Attr.name l a
def j6 (t:Tab) (p n v:aA):Tab × Int:=if bF t=true∧mL p=true∧aW n=true∧v.length≤16 then (match cT t p with
 | .ok X=>if v=[] then (aF t (rR X (p8 X.attrs n)),0) else if (p8 X.attrs n).length<4 then (aF t (rR X (adq (p8 X.attrs n) ⟨n,v⟩)),0) else (t,5)
 | .error c=>(t,c)) else (t,1)
theorem afa (l:List Inode) (x:Inode):(bO l x).length≤l.length+1:=by
 induction l with
 | nil=>simp [bO]
 | cons y l ih=>
  rw [bO]
  split
  ·simp
  ·split <;> simp
   omega
theorem afb (f:Inode→Nat) (l:List Inode) (x:Inode):((bO l x).map f).sum≤(l.map f).sum+f x:=by
 induction l with
 | nil=>simp [bO]
 | cons y l ih=>
  rw [bO]
  split
  ·simp only [lO,lB2]; omega
  ·split <;> simp only [lO,lB2] <;> omega
theorem anl (t:Tab):t.sz=t.inodes.length+(t.inodes.map Inode.sz).sum:=rfl
theorem nQ (t:Tab) (x:Inode):(aF t x).sz≤t.sz+x.sz+1:=by
 rw [anl,anl]
 have:=afa t.inodes x
 have:=afb Inode.sz t.inodes x
 show (bO t.inodes x).length+((bO t.inodes x).map Inode.sz).sum≤_
 omega
theorem vR {α:Type} (f:α→Nat) (p:α→Bool) (l:List α):((l.filter p).map f).sum≤(l.map f).sum:=by
 induction l with
 | nil=>simp
 | cons y l ih=>rw [lE4]; split <;> simp <;> omega
theorem adr {α:Type} (f:α→Nat) (l:List α) (c n:Nat) (hn:l.length≤n) (h:∀ x ∈ l,f x≤c):szM f l≤n+n*c:=by
 have:=qZ f l c h
 have h2:l.length*c≤n*c:=lI1 c hn
 simp only [szM]; omega
theorem ace {x:Inode} (h:InodeOk x):x.sz≤400:=by
 have e:x.sz=x.data.length+szM Ent.sz x.ents+szM Attr.sz x.attrs:=rfl
 have h1:=adr Ent.sz x.ents 14 10 h.ents.len fun e he=>(mE (h.ents.ok e he).1).2
 have h2:=adr Attr.sz x.attrs 30 4 h.attrs.len fun a ha=>by
  have:=(mE (h.attrs.ok a ha).1).2
  have:=(h.attrs.ok a ha).2.2
  show a.name.length+a.val.length≤30
  omega
 have:=h.data
 omega
theorem ahP {t:Tab} (h:TabOk t):t.sz≤12030:=adr Inode.sz t.inodes 400 30 h.len fun x hx=>ace (h.ok x hx).1
theorem q9 {t:Tab} (h:bF t=true):t.sz≤12030:=ahP ((aS t).1 h).tab
theorem o5 {t:Tab} {s:aA} {x:Inode} (h:cT t s=.ok x):rK t s=(x.ino,0)∧aC t x.ino=some x:=by
 unfold cT at h
 split at h
 ·rename_i e
  cases hx:aC t (rK t s).1 with
  | none=>rw [hx] at h; cases h
  | some y=>
   rw [hx] at h
   cases h
   have:=(aL hx).2
   rw [this]
   exact ⟨by rw [← e],hx⟩
 ·cases h
theorem dE {t:Tab} {s:aA} {x:Inode} (h:mK t s=.ok x):cT t s=.ok x∧x.kind=1:=by
 unfold mK at h
 split at h
 ·split at h
  ·cases h; rename_i e k; exact ⟨e,k⟩
  ·cases h
 ·cases h
theorem iR {t:Tab} {s:aA} {x:Inode} (h:fL t s=.ok x):cT t (aJ s).1=.ok x∧x.kind=2:=by
 unfold fL at h
 split at h
 ·split at h
  ·cases h; rename_i e k; exact ⟨e,k⟩
  ·cases h
 ·cases h
theorem iS {t:Tab} {s:aA} {f:Int} {x:Inode} (h:uS t s f=.ok x):fL t s=.ok x∧bC x (aU s)=0∧(x.ents.length<10∨x.ino=f):=by
 unfold uS at h
 split at h
 ·split at h
  ·split at h
   ·cases h; rename_i e k l; exact ⟨e,k,l⟩
   ·cases h
  ·cases h
 ·cases h
theorem tX {s:aA} (h:jA s=true):(aB s).2=true∧(aB s).1≠[]:=(ahB s).1 h
theorem iA {s:aA} (h:jA s=true):(aB s).1=(aB (aJ s).1).1++[aU s]∧(aB (aJ s).1).2=true∧aW (aU s)=true:=by
 obtain ⟨h1,h2⟩:=tX h
 obtain ⟨e1,e2⟩:=ahC h1 h2
 have e3:(aJ s).1=cO (aB s).1.dropLast:=by rw [e1]
 have e4:aU s=(aB s).1.getLastD []:=by rw [aU,e1]
 rw [e3,e2,e4]
 have e5:(aB s).1.getLastD []=(aB s).1.getLast h2:=by rw [List.getLastD_eq_getLast?,List.getLast?_eq_some_getLast h2]; rfl
 refine ⟨by rw [e5,List.dropLast_concat_getLast],rfl,?_⟩
 rw [e5]
 exact (jV (pT h1).1).2 _ (List.getLast_mem h2)
theorem ads {t:Tab} {s:aA} (h:(aB s).2=true) {i:Int}:rK t s=(i,0)↔aP (aC t) (aB s).1 1=some i:=by
 rw [rK,lF h]; exact al6 t _ 1 i
theorem aam {t:Tab} {s:aA} (h:(rK t s).2=0):(aB s).2=true:=by
 unfold rK at h
 split at h
 ·assumption
 ·cases h
theorem tY {t:Tab} {s:aA} {x:Inode} (h:cT t s=.ok x):(aB s).2=true∧aP (aC t) (aB s).1 1=some x.ino:=by
 have h1:=(o5 h).1
 have h2:=aam (by rw [h1])
 exact ⟨h2,(ads h2).1 h1⟩
theorem gP {t:Tab} {s:aA} {D:Inode} (h:fL t s=.ok D):Spot t D (aB (aJ s).1).1:=by
 obtain ⟨h1,h2⟩:=iR h
 exact ⟨(aL (o5 h1).2).1,h2,(tY h1).2⟩
theorem tZ {t:Tab} (ht:TreeOk t) {s:aA} (hs:jA s=true) {X:Inode} (h:cT t s=.ok X):∃ D,fL t s=.ok D∧bC D (aU s)=X.ino∧∃ e ∈ D.ents,e.name=aU s∧e.ino=X.ino:=by
 obtain ⟨h1,h2⟩:=tY h
 obtain ⟨e1,e2,e3⟩:=iA hs
 rw [e1,cE] at h2
 cases hw:aP (aC t) (aB (aJ s).1).1 1 with
 | none=>rw [hw] at h2; cases h2
 | some j=>
  rw [hw] at h2
  obtain ⟨D,d1,d2,d3,d4⟩:=(gO _ _ _ _).1 h2
  obtain ⟨_,d5⟩:=aL d1
  have hst:cT t (aJ s).1=.ok D:=by
   rw [cT,(ads e2).2 hw,lF rfl,d1]
  refine ⟨D,by rw [fL,hst]; simp only [d2,lF],d3,?_⟩
  obtain ⟨e,he,f1,f2⟩:=qW (x:=D) (n:=aU s) (by rw [d3]; exact d4)
  exact ⟨e,he,f1,by rw [f2,d3]⟩
section
variable {t:Tab}
theorem aQ {s:aA} {X:Inode} (h:cT t s=.ok X):X ∈ t.inodes∧aC t X.ino=some X:=⟨(aL (o5 h).2).1,(o5 h).2⟩
theorem p9 {s:aA} {D:Inode} (h:fL t s=.ok D):D ∈ t.inodes:=(aQ (iR h).1).1
theorem amb (ht:TreeOk t) {X:Inode} (h:X ∈ t.inodes):1≤X.ino∧X.ino≤1000:=(ht.tab.ok X h).1.ino
theorem r8 (ht:TreeOk t) {s:aA} {D:Inode} (h:uS t s 0=.ok D):D.ents.length<10:=by
 obtain ⟨h1,h2,h3⟩:=iS h
 rcases h3 with h3 | h3
 ·exact h3
 ·have:=amb ht (p9 h1); omega
theorem amc (ht:TreeOk t) {s:aA} {k:Int} {D:Inode} (hs:jA s=true) (h:uS t s 0=.ok D) (h1:t.inodes.length<30) (h2:t.next<1000) (hk:k=1∨k=2):type_of% (aag ht (gP (iS h).1) (k:=k) (iA hs).2.2 (iS h).2.1 (r8 ht h) h1 h2 hk):=aag ht (gP (iS h).1) (k:=k) (iA hs).2.2 (iS h).2.1 (r8 ht h) h1 h2 hk
theorem t6 (h:bF t=true) (s:aA) {k:Int} (hk:k=1∨k=2):bF (eR t s k).1=true:=by
 unfold eR
 split
 ·rename_i hc
  split
  ·split
   ·rename_i h2
    exact (aS _).2 (amc ((aS t).1 h) hc.2 (by assumption) h2.1 h2.2 hk).1
   ·exact h
  ·exact h
 ·exact h
theorem adt (ht:TreeOk t) {s:aA} (hs:jA s=true) {X:Inode} (h:cT t s=.ok X):X.ino≠1:=by
 intro e
 obtain ⟨D,h1,h2,⟨x,hx,h3,h4⟩⟩:=tZ ht hs h
 have:=((bM ht (p9 h1)).ok x hx).2.1
 omega
theorem ahQ (ht:TreeOk t) {s:aA} (hs:jA s=true) {X:Inode} (h:cT t s=.ok X) (hk:X.kind=2):X.links=1:=by
 have ok:=(ht.tab.ok X (aQ h).1).1
 have h1:=nH ht (aQ h).1 hk
 have h2:=ok.links
 have h3:X.links≠0:=fun e=>adt ht hs h (ok.root.1 e)
 omega
theorem aan (ht:TreeOk t) {s:aA} {X:Inode} (hs:jA s=true) (h:cT t s=.ok X) (hE:X.ents=[]):∃ D,fL t s=.ok D∧Spot t D (aB (aJ s).1).1∧(X.kind=1∨X.links=1) ∧
  TreeOk (bU t D (aU s) X)∧(∀ l,aP (aC (bU t D (aU s) X)) l 1=if l=(aB s).1 then none else aP (aC t) l 1) ∧
  (∀ i,aC (bU t D (aU s) X) i=if i=X.ino then (if X.links=1 then none else some (o4 X)) else if i=D.ino then some (cD D (aU s)) else aC t i):=by
 obtain ⟨D,h1,h2,⟨x,hx,h3,h4⟩⟩:=tZ ht hs h
 have hk:X.kind=1∨X.links=1:=by
  rcases (ht.tab.ok X (aQ h).1).1.kind with ⟨k,_⟩ | ⟨k,_⟩
  ·exact .inl k
  ·exact .inr (ahQ ht hs h k)
 have:=aca ht (gP h1) hx (X:=X) (by rw [h4]; exact (aQ h).2) hE hk
 rw [h3,← (iA hs).1] at this
 exact ⟨D,h1,gP h1,hk,this⟩
theorem xM (h:bF t=true) (s:aA):bF (eQ t s).1=true:=by
 have ht:=(aS t).1 h
 unfold eQ
 split
 ·rename_i hc
  split
  ·rename_i X hX
   obtain ⟨h1,h2⟩:=dE hX
   obtain ⟨D,d1,d2,d3,d4⟩:=aan ht hc.2 h1 (nI ht (aQ h1).1 (by omega)).1
   rw [d1]
   exact (aS _).2 d4.1
  ·exact h
 ·exact h
theorem aj9 (ht:TreeOk t) {s:aA} {X:Inode} (hs:jA s=true) (h:cT t s=.ok X) (hk:X.kind=2) (D:Inode) (n:aA):jJ (aF t (cD D n)) X.ino=bU t D n X:=by
 rw [bU,lF (ahQ ht hs h hk)]
theorem aao (h:bF t=true) (s:aA):bF (gB t s).1=true:=by
 have ht:=(aS t).1 h
 unfold gB
 split
 ·rename_i hc
  split
  ·rename_i X hX
   split
   ·rename_i hk
    split
    ·rename_i hE
     obtain ⟨D,d1,d2,d3,d4⟩:=aan ht hc.2 hX hE
     rw [d1,aj9 ht hc.2 hX hk]
     exact (aS _).2 d4.1
    ·exact h
   ·exact h
  ·exact h
 ·exact h
theorem amd (ht:TreeOk t) {p q:aA} {X D:Inode} (hq:jA q=true) (h1:mK t p=.ok X) (h2:uS t q 0=.ok D):type_of% (aah ht (gP (iS h2).1) (X:=X) (iA hq).2.2 (iS h2).2.1 (r8 ht h2) (aQ (dE h1).1).1 (dE h1).2):=aah ht (gP (iS h2).1) (X:=X) (iA hq).2.2 (iS h2).2.1 (r8 ht h2) (aQ (dE h1).1).1 (dE h1).2
theorem acf (h:bF t=true) (p q:aA):bF (iQ t p q).1=true:=by
 have ht:=(aS t).1 h
 unfold iQ
 split
 ·rename_i hc
  split
  ·split
   ·exact (aS _).2 (amd ht hc.2.2 (by assumption) (by assumption)).1
   ·exact h
  ·exact h
 ·exact h
theorem ahR {p q:aA} (hp:mL p=true) (hq:mL q=true):xG p q=true↔(aB p).1 <+: (aB q).1:=by
 unfold mL at *
 rw [xG,hp,hq]; simp
theorem ahS (ht:TreeOk t) {p q:aA} {X D2:Inode} (hp:jA p=true) (hq:jA q=true) (h1:cT t p=.ok X) (hb:xG p q=false) (h2:uS t q (exI (fL t p)).ino=.ok D2) :
  ∃ D1 e,fL t p=.ok D1∧Spot t D1 (aB (aJ p).1).1∧e ∈ D1.ents∧e.name=aU p∧e.ino=X.ino∧Spot t D2 (aB (aJ q).1).1∧aW (aU q)=true∧bC D2 (aU q)=0 ∧
   (D2.ents.length<10∨D1.ino=D2.ino)∧¬ ((aB (aJ p).1).1++[e.name]) <+: ((aB (aJ q).1).1++[aU q]):=by
 obtain ⟨D1,d1,d2,⟨e,he,d3,d4⟩⟩:=tZ ht hp h1
 obtain ⟨n1,n2,n3⟩:=iS h2
 rw [d1] at n3
 refine ⟨D1,e,d1,gP d1,he,d3,d4,gP n1,(iA hq).2.2,n2,?_,?_⟩
 ·rcases n3 with n | n
  ·exact .inl n
  ·exact .inr n.symm
 ·rw [d3,← (iA hp).1,← (iA hq).1,← ahR (tX hp).1 (tX hq).1,hb]
  simp
theorem acg (h:bF t=true) (p q:aA):bF (j5 t p q).1=true:=by
 have ht:=(aS t).1 h
 unfold j5
 split
 ·rename_i hc
  split
  ·rename_i X hX
   split
   ·exact h
   ·rename_i hb
    split
    ·rename_i D2 h2
     obtain ⟨D1,e,d1,s1,he,e1,e2,s2,hn,hf,hl,hb'⟩:=ahS ht hc.2.1 hc.2.2 hX (by simpa using hb) h2
     have:=(ahK ht s1 s2 he hn hf hl hb').1
     rw [e1,e2] at this
     rw [d1]
     exact (aS _).2 this
    ·exact h
  ·exact h
 ·exact h
theorem ahT {X:Inode} (h:InodeOk X) (hk:X.kind=1) {b:aA} (hb:b.length≤100):InodeOk (tW X b):=by
 obtain ⟨a1,a2,a3,a4,a5,a6,a7⟩:=h
 refine ⟨a1,a2,a3,hb,a5,a6,?_⟩
 rcases a7 with a | ⟨a,_⟩
 ·exact .inl a
 ·omega
theorem aka (b:aA) (n:Nat):(xT b n).length=max b.length n:=by simp [xT]; omega
theorem akb (b:aA) (o:Nat) (d:aA):(aiK b o d).length=max b.length (o+d.length):=by
 simp only [aiK,lY,lT,lH2,aka]; omega
theorem adu (ht:TreeOk t) {p:aA} {X:Inode} (h:mK t p=.ok X) {b:aA} (hb:b.length≤100):type_of% (pY ht (X:=X) (Y:=tW X b) (aQ (dE h).1).1 rfl rfl rfl rfl (ahT (ht.tab.ok X (aQ (dE h).1).1).1 (dE h).2 hb)):=pY ht (X:=X) (Y:=tW X b) (aQ (dE h).1).1 rfl rfl rfl rfl (ahT (ht.tab.ok X (aQ (dE h).1).1).1 (dE h).2 hb)
theorem aap (h:bF t=true) (p:aA) (o:Int) (d:aA):bF (gC t p o d).1=true:=by
 have ht:=(aS t).1 h
 unfold gC
 split
 ·rename_i hc
  split
  ·rename_i X hX
   split
   ·refine (aS _).2 (adu ht hX ?_).1
    have:=(ht.tab.ok X (aQ (dE hX).1).1).1.data
    have:=(eL _ _ _).1 hc.2.2
    rw [akb]; omega
   ·exact h
  ·exact h
 ·exact h
theorem afc (h:bF t=true) (p:aA) (n:Int):bF (q8 t p n).1=true:=by
 have ht:=(aS t).1 h
 unfold q8
 split
 ·rename_i hc
  split
  ·rename_i X hX
   refine (aS _).2 (adu ht hX ?_).1
   have:=(eL _ _ _).1 hc.2.2
   rw [lT]; omega
  ·exact h
 ·exact h
theorem ahU {X:Inode} (h:InodeOk X) {l:List Attr} (hl:AttrsOk l):InodeOk (rR X l):=by
 obtain ⟨a1,a2,a3,a4,a5,a6,a7⟩:=h
 exact ⟨a1,a2,a3,a4,a5,hl,a7⟩
theorem ahV {l:List Attr} (h:AttrsOk l) (n:aA):AttrsOk (p8 l n):=
 ⟨lU3 (lL2 _ _) h.len,fun a ha=>h.ok a (mem_cutK.1 ha).1,qY h.up n⟩
theorem ame {l:List Attr} (h:AttrsOk l) {n v:aA} (hn:aW n=true) (hv:1≤v.length∧v.length≤16) (hl:l.length<4) (hf:∀ a ∈ l,a.name≠n):AttrsOk (adq l ⟨n,v⟩):=by
 refine ⟨by unfold adq; rw [oB]; omega,fun a ha=>?_,xI h.up hf⟩
 rcases mem_putK.1 ha with rfl | ha
 ·exact ⟨hn,hv⟩
 ·exact h.ok a ha
theorem adv (ht:TreeOk t) {p:aA} {X:Inode} (h:cT t p=.ok X) {l:List Attr} (hl:AttrsOk l):type_of% (pY ht (X:=X) (Y:=rR X l) (aQ h).1 rfl rfl rfl rfl (ahU (ht.tab.ok X (aQ h).1).1 hl)):=pY ht (X:=X) (Y:=rR X l) (aQ h).1 rfl rfl rfl rfl (ahU (ht.tab.ok X (aQ h).1).1 hl)
theorem ach (h:bF t=true) (p n v:aA):bF (j6 t p n v).1=true:=by
 have ht:=(aS t).1 h
 unfold j6
 split
 ·rename_i hc
  split
  ·rename_i X hX
   have ha:=(ht.tab.ok X (aQ hX).1).1.attrs
   split
   ·exact (aS _).2 (adv ht hX (ahV ha n)).1
   ·rename_i hv
    split
    ·rename_i hl
     refine (aS _).2 (adv ht hX (ame (ahV ha n) hc.2.2.1 ⟨?_,hc.2.2.2⟩ hl fun a h=>(mem_cutK.1 h).2)).1
     cases v with
     | nil=>exact absurd rfl hv
     | cons=>simp
    ·exact h
  ·exact h
 ·exact h
end
theorem ahW {s:aA} {m:Nat} (h:m<s.length) (h1:s[m]=47) (h2:∀ k,k<m→(hk:k<s.length)→s[k]≠47):b8 s=s.take m::b8 (s.drop (m+1)):=by
 have e:s=s.take m++47::s.drop (m+1):=by
  rw [← h1,← lG2 h,lJ]
 have h3:∀ c ∈ s.take m,c≠47:=by
  intro c hc
  obtain ⟨k,hk,rfl⟩:=lU1 hc
  rw [List.getElem_take]
  exact h2 k (by simp at hk; omega) _
 have:=tM (s.take m) (s.drop (m+1)) h3
 rwa [← e] at this
theorem aci {s:aA} (h:∀ k,(hk:k<s.length)→s[k]≠47):b8 s=[s]:=tN s fun c hc=>by
 obtain ⟨k,hk,rfl⟩:=lU1 hc
 exact h k hk
theorem rA {s:aA} (h:s.head?≠some 47):aB s=([],false):=by
 have hs:s≠[47]:=fun e=>h (by rw [e]; rfl)
 rw [aB,lK hs]
 cases s with
 | nil=>rfl
 | cons c s=>
  have hc:c≠47:=fun e=>h (by rw [e]; rfl)
  obtain ⟨a,t,e1,e2⟩:=tL c s hc
  rw [e2]; rfl
theorem ahX {s:aA} {l:List aA} (h:b8 s=[]::l) (hb:cS l=false) (hs:s≠[47]):aB s=([],false):=by
 rw [aB,lK hs,h]
 cases l with
 | nil=>rfl
 | cons n l=>simp only [uQ,hb]; rfl
theorem afd {s:aA} {l:List aA} (h:b8 s=[]::l) (hl:l≠[]) (hb:cS l=true) (hs:s≠[47]):aB s=(l,true):=by
 rw [aB,lK hs,h]
 cases l with
 | nil=>exact absurd rfl hl
 | cons n l=>simp only [uQ,hb]; rfl
theorem aaq {l:List aA} {n:aA} (h:n ∈ l) (hn:aW n=false):cS l=false:=by
 have:l.all aW=false:=by rw [lP4]; exact ⟨n,h,by simp [hn]⟩
 simp [cS,this]
theorem vT {l:List aA} (h:30<l.length):cS l=false:=by rw [cS,lC (by omega),lD2]
structure Cut (s:aA) (i j:Nat) (out:List aA):Prop where
 le:j≤i
 end':i≤s.length+1
 no:∀ k,j≤k→k<i→(h:k<s.length)→s[k]≠47
 len:out.length≤30
 ok:∀ n ∈ out,aW n=true
 z:i=0→out=[]
 cut:s.head?=some 47→(i=0∧j=0∧out=[])∨(0<i∧b8 s=[]::(out++if i≤s.length then b8 (s.drop j) else []))
theorem Cut.zero (s:aA):Cut s 0 0 []:=⟨lS1 _,lM3 _,fun _ _ h=>absurd h (Nat.not_lt_zero _),lM3 _,by simp,fun _=>rfl,fun _=>.inl ⟨rfl,rfl,rfl⟩⟩
theorem Cut.skip {s:aA} {i j:Nat} {out:List aA} (h:Cut s i j out) (hi:i<s.length) (hc:s[i]≠47):Cut s (i+1) j out:=by
 obtain ⟨a1,a2,a3,a4,a5,_,a6⟩:=h
 refine ⟨by omega,by omega,fun k h1 h2 h3=>?_,a4,a5,fun h=>absurd h (Nat.succ_ne_zero _),fun h0=>?_⟩
 ·by_cases e:k=i
  ·subst e; exact hc
  ·exact a3 k h1 (by omega) h3
 ·rcases a6 h0 with ⟨e1,e2,e3⟩ | ⟨e1,e2⟩
  ·subst e1
   exfalso
   rw [List.head?_eq_getElem?,lH hi] at h0
   exact hc (Option.some.inj h0)
  ·refine .inr ⟨by omega,?_⟩
   rw [lF (by omega)] at e2
   rw [lF (by omega)]
   exact e2
theorem Cut.first {s:aA} (h:s.length=0∨∃ h:0<s.length,s[0]=47):Cut s 1 1 []:=by
 refine ⟨lS1 _,by omega,fun k h1 h2=>by omega,lM3 _,by simp,fun h=>rfl,fun h0=>.inr ⟨by omega,?_⟩⟩
 cases s with
 | nil=>cases h0
 | cons c s=>
  injection h0 with h0
  subst h0
  rw [b8,lF rfl,lF (by simp)]
  rfl
theorem Cut.name {s:aA} {i j:Nat} {out:List aA} (h:Cut s i j out) (h0:0<i) (hi:i≤s.length) (hc:i=s.length∨∃ h:i<s.length,s[i]=47) (hh:s.head?=some 47) :
  b8 s=[]::(out++(s.drop j).take (i-j)::if i+1≤s.length then b8 (s.drop (i+1)) else []):=by
 obtain ⟨a1,a2,a3,a4,a5,_,a6⟩:=h
 rcases a6 hh with ⟨e1,_⟩ | ⟨_,e2⟩
 ·omega
 ·rw [lF hi] at e2
  rw [e2]
  congr 2
  have no:∀ k,k<i-j→(hk:k<(s.drop j).length)→(s.drop j)[k]≠47:=fun k h1 h2=>by
   rw [List.getElem_drop]
   exact a3 _ (by omega) (by omega) _
  rcases hc with rfl | ⟨hc,hx⟩
  ·rw [lK (by omega),aci (fun k hk=>no k (by simpa using hk) hk),lN2 (by simp)]
  ·rw [lF (by omega),ahW (m:=i-j) (by simp; omega) (by rw [List.getElem_drop]; simpa [show j+(i-j)=i by omega] using hx) no,lW1,show j+(i-j+1)=i+1 by omega]
theorem Cut.next {s:aA} {i j:Nat} {out:List aA} (h:Cut s i j out) (h0:0<i) (hi:i≤s.length) (hc:i=s.length∨∃ h:i<s.length,s[i]=47) (hn:aW ((s.drop j).take (i-j))=true) (hl:out.length<30) :
  Cut s (i+1) (i+1) (out++[(s.drop j).take (i-j)]):=by
 refine ⟨lS1 _,by omega,fun k h1 h2=>by omega,by simp; omega,fun n hm=>?_,fun h=>absurd h (Nat.succ_ne_zero _),fun hh=>.inr ⟨by omega,?_⟩⟩
 ·rcases lL.1 hm with hm | hm
  ·exact h.ok n hm
  ·simp at hm; subst hm; exact hn
 ·rw [h.name h0 hi hc hh,lP2]; rfl
theorem Cut.bad {s:aA} {i j:Nat} {out:List aA} (h:Cut s i j out) (h0:0<i) (hi:i≤s.length) (hc:i=s.length∨∃ h:i<s.length,s[i]=47) (hn:aW ((s.drop j).take (i-j))=false∨out.length=30) (hs:s≠[47]) :
  aB s=([],false):=by
 by_cases hh:s.head?=some 47
 ·refine ahX (h.name h0 hi hc hh) ?_ hs
  rcases hn with hn | hn
  ·exact aaq (by simp) hn
  ·exact vT (by simp; omega)
 ·exact rA hh
theorem Cut.done {s:aA} {j:Nat} {out:List aA} (h:Cut s (s.length+1) j out) (hh:s.head?=some 47) (hs:s≠[47]):aB s=(out,true):=by
 obtain ⟨a1,a2,a3,a4,a5,_,a6⟩:=h
 rcases a6 hh with ⟨e1,_⟩ | ⟨_,e2⟩
 ·omega
 ·rw [lK (by omega),lU2] at e2
  refine afd e2 (fun e=>?_) (oA a4 a5) hs
  rw [e] at e2
  cases s with
  | nil=>cases hh
  | cons c s=>
   injection hh with hh
   subst hh
   rw [b8,lF rfl] at e2
   injection e2 with _ e2
   exact tK _ e2
theorem afe (l:List aA) (n:aA):eT (l++[n])=eT l++47::n:=by simp [eT]
theorem aar {l:List aA} (h:cS l=true):(eT l).length≤450:=by
 obtain ⟨h1,h2⟩:=jV h
 have:=qZ (fun n:aA=>n.length+1) l 15 fun n hn=>by have:=(mE (h2 n hn)).2; omega
 have e:(eT l).length=(l.map fun n:aA=>n.length+1).sum:=by rw [eT,List.length_flatMap]; rfl
 rw [e]
 have:l.length*15≤30*15:=lI1 _ h1
 omega
def zFs:Fs:={ vols:=[],next:=1 }
theorem akc:bR Tryz.prog 90 [] zFs.o []:=by
 refine Vw ahr [] 1 [] fun w hP hQ=>?_
 rfl
theorem cF (x a b:Int):bR Tryz.prog 57 [.int .i64 x,.int .i64 a,.int .i64 b] (.bool (inR x a b)) [.undef,.undef,.undef]:=by
 refine Vw adg [] 71 [] fun w hP hQ=>?_
 refine Jg (fun h1=>?_) fun h1=>?_
 ·have hz:=h1
  refine Nz ?_
  simp [inR,h1]
 ·have hz:=h1
  refine Nz ?_
  simp [inR,h1]
theorem aoc (x a b:Int):bR Tryz.prog 46 [.int .i64 x,.int .i64 a,.int .i64 b] (.bool (inR x a b)) [.undef,.undef,.undef]:=by
 refine Vw ajY [] 71 [] fun w hP hQ=>?_
 refine Jg (fun h1=>?_) fun h1=>?_
 ·have hz:=h1
  refine Nz ?_
  simp [inR,h1]
 ·have hz:=h1
  refine Nz ?_
  simp [inR,h1]
theorem r9 {α:Type} {l:List α} {p:α→Bool} {i:Nat} (hk:∀ k,k<i→(h:k<l.length)→p l[k]=false) (h:i<l.length) (hi:p l[i]=true):l.findIdx? p=some i:=by
 rw [lM2]
 exact ⟨h,hi,fun j hj=>by simp [hk j hj (by omega)]⟩
theorem sA {α:Type} {l:List α} {p:α→Bool} (hk:∀ k,(h:k<l.length)→p l[k]=false):l.findIdx? p=none:=by
 rw [List.findIdx?_eq_none_iff]
 intro x hx
 obtain ⟨k,h,rfl⟩:=lU1 hx
 exact hk k h
theorem t7 {α:Type} {l:List α} {p:α→Bool} {i:Nat} (hk:∀ k,k<i→(h:k<l.length)→p l[k]=false) (h:i<l.length) (hi:p l[i]=false):∀ k,k<i+1→(h:k<l.length)→p l[k]=false:=by
 intro k hlt hl
 by_cases e:k=i
 ·subst e; exact hi
 ·exact hk k (by omega) hl
theorem sB (f:Fs) (n:Int) (hl:f.vols.length<2^48):bR Tryz.prog 65 [f.x,.int .i64 n] (.int .i64 (uL (q7 f n))) [.undef,.undef]:=by
 refine Vw ahp [] 55 [] fun w hP hQ=>?_
 refine iV [4] ?_
 refine N ?_
 refine bG [4] (fun i:Nat=>[(5,.int .i64 i)]) (fun i=>i≤f.vols.length∧∀ k,k<i→(h:k<f.vols.length)→decide (f.vols[k].id=n)=false) (fun i=>f.vols.length-i) (0) hP hQ (rfl) (by simp) ?_
 rintro i ⟨hi,hk⟩ w1 hP1 hQ1
 refine N1 ?_
 refine Jf (fun h1=>?_) fun h1=>?_
 ·have hz:=(bW h1)
  refine Nz1 ?_
  refine Jf (fun h2=>?_) fun h2=>?_
  ·refine N1 ?_
   rw [q7,r9 (p:=fun v:Vol=>decide (v.id=n)) hk (by omega) (lM h2)]; rfl
  ·refine N1 ?_
   exact ⟨i+1,rfl,⟨by omega,t7 (p:=fun v:Vol=>decide (v.id=n)) hk (by omega) (lC h2)⟩,by omega⟩
 ·obtain rfl:i=f.vols.length:=by omega
  refine N1 ?_
  rw [q7,sA (p:=fun v:Vol=>decide (v.id=n)) fun k h=>hk k h h]; rfl
theorem o6 (f:Fs) (n:aA) (hl:f.vols.length<2^48):bR Tryz.prog 86 [f.x,.str n] (.int .i64 (uL (eP f n))) [.undef,.undef]:=by
 refine Vw zR [] 55 [] fun w hP hQ=>?_
 refine iV [4] ?_
 refine N ?_
 refine bG [4] (fun i:Nat=>[(5,.int .i64 i)]) (fun i=>i≤f.vols.length∧∀ k,k<i→(h:k<f.vols.length)→decide (f.vols[k].name=n)=false) (fun i=>f.vols.length-i) (0) hP hQ (rfl) (by simp) ?_
 rintro i ⟨hi,hk⟩ w1 hP1 hQ1
 refine N1 ?_
 refine Jf (fun h1=>?_) fun h1=>?_
 ·have hz:=(bW h1)
  refine Nz1 ?_
  refine Jf (fun h2=>?_) fun h2=>?_
  ·refine N1 ?_
   rw [eP,r9 (p:=fun v:Vol=>decide (v.name=n)) hk (by omega) (lM h2)]; rfl
  ·refine N1 ?_
   exact ⟨i+1,rfl,⟨by omega,t7 (p:=fun v:Vol=>decide (v.name=n)) hk (by omega) (lC h2)⟩,by omega⟩
 ·obtain rfl:i=f.vols.length:=by omega
  refine N1 ?_
  rw [eP,sA (p:=fun v:Vol=>decide (v.name=n)) fun k h=>hk k h h]; rfl
theorem adw {x a b:Int} (h:inR x a b=false):¬ (a≤x∧x≤b):=fun h'=>by rw [(eL x a b).2 h'] at h; cases h
theorem ahY (c:UInt8):okc c=true↔(97≤c.toNat∧c.toNat≤122)∨(48≤c.toNat∧c.toNat≤57)∨c.toNat=95∨c.toNat=45∨c.toNat=46:=by
 unfold okc
 simp only [lK4,lN,decide_eq_true_eq,UInt8.le_iff_toNat_le,← UInt8.toNat_inj]
 simp
 omega
theorem acj {c:UInt8} (h:(97≤c.toNat∧c.toNat≤122)∨(48≤c.toNat∧c.toNat≤57)∨c.toNat=95∨c.toNat=45∨c.toNat=46):okc c=true:=(ahY c).2 h
theorem anm {c:UInt8} (h:¬ ((97≤c.toNat∧c.toNat≤122)∨(48≤c.toNat∧c.toNat≤57)∨c.toNat=95∨c.toNat=45∨c.toNat=46)):okc c=false:=by
 cases e:okc c with
 | false=>rfl
 | true=>exact absurd ((ahY c).1 e) h
theorem akd {s:aA} {i:Nat} (h:i<s.length) (hc:okc s[i]=false):aW s=false:=by
 unfold aW
 have:s.all okc=false:=by
  rw [lP4]
  exact ⟨s[i],lQ h,by simp [hc]⟩
 simp [this]
theorem ake {s:aA} {i:Nat} (hk:∀ k,k<i→(h:k<s.length)→okc s[k]=true) (h:i<s.length) (hi:okc s[i]=true):∀ k,k<i+1→(h:k<s.length)→okc s[k]=true:=by
 intro k hlt hl
 by_cases e:k=i
 ·subst e; exact hi
 ·exact hk k (by omega) hl
theorem ann {s:aA} (hk:∀ k,(h:k<s.length)→okc s[k]=true):s.all okc=true:=by
 rw [lV]
 intro x hx
 obtain ⟨k,h,rfl⟩:=lU1 hx
 exact hk k h
theorem bQ (s:aA) (hl:s.length<2^48):bR Tryz.prog 77 [.str s] (.bool (aW s)) [.undef]:=by
 refine Vw aeJ [] 29 [] fun w hP hQ=>?_
 refine iV [2,4] ?_
 refine N ?_
 refine bG [2,4] (fun i:Nat=>[(3,.int .i64 i)]) (fun i=>i≤s.length∧∀ k,k<i→(h:k<s.length)→okc s[k]=true) (fun i=>s.length-i) (0) hP hQ (rfl) (by simp) ?_
 rintro i ⟨hi,hk⟩ w1 hP1 hQ1
 refine N1 ?_
 refine Jf (fun h1=>?_) fun h1=>?_
 ·have hlt:i<s.length:=by omega
  have hbad:okc s[i]=false→aW s=false:=fun h=>akd hlt h
  have hnext:okc s[i]=true→_:=fun h=>ake hk hlt h
  have hz:=(bW h1)
  refine Nz1 ?_
  generalize s[i]=c at *
  have hc:c.toNat<256:=c.toNat_lt
  cases hA:inR (c.toNat) 97 122 with
  | true=>
   have hA':=(eL _ _ _).1 hA
   refine N1 ?_
   have hz:=hA
   refine Kz1 (cF (c.toNat) 97 122) ?_
   exact ⟨i+1,rfl,⟨by omega,hnext (acj (by omega))⟩,by omega⟩
  | false=>
   have hA':=adw hA
   cases hB:inR (c.toNat) 48 57 with
   | true=>
    have hB':=(eL _ _ _).1 hB
    refine N1 ?_
    have hz:=hA
    refine Kz1 (cF (c.toNat) 97 122) ?_
    have hz:=hB
    refine Kz1 (cF (c.toNat) 48 57) ?_
    exact ⟨i+1,rfl,⟨by omega,hnext (acj (by omega))⟩,by omega⟩
   | false=>
    have hB':=adw hB
    have hr:c.toNat=95∨c.toNat=45∨c.toNat=46∨(c.toNat≠95∧c.toNat≠45∧c.toNat≠46):=by omega
    rcases hr with h | h | h | h
    all_goals (simp +decide (maxSteps:=9^9) (disch:=omega) only[↓SB0,SX,seval,hQ,hQ1])
    all_goals (first | refine iM hP1 (cF (c.toNat) 97 122) (.inl ⟨rfl,fun _ hx=>nomatch hx⟩) ?_ | skip)
    all_goals (simp +decide (maxSteps:=9^9) (disch:=omega) only[↓SB0,SX,seval,hQ,hQ1,hA])
    all_goals (first | refine iM hP1 (cF (c.toNat) 48 57) (.inl ⟨rfl,fun _ hx=>nomatch hx⟩) ?_ | skip)
    all_goals (simp +decide (maxSteps:=9^9) (disch:=omega) only[↓SB0,SX,seval,hQ,hQ1,hB,anR,anS])
    all_goals first
     | (rw [hbad (anm (by omega))]; done)
     | exact ⟨i+1,rfl,⟨by omega,hnext (acj (by omega))⟩,by omega⟩
 ·obtain rfl:i=s.length:=by omega
  have hall:s.all okc=true:=ann fun k h=>hk k h h
  refine N1 ?_
  cases g1:inR (s.length:Nat) 1 14 with
  | false=>
   have g1':=adw g1
   have hz:=g1
   refine Kz (cF (s.length:Nat) 1 14) ?_
   simp [aW,hall]; omega
  | true=>
   have g1':=(eL _ _ _).1 g1
   have hz:=g1
   refine Kz (cF (s.length:Nat) 1 14) ?_
   refine Jg (fun g3=>?_) fun g3=>?_
   ·have hz:=g3
    refine Nz ?_
    simp [aW,g3]
   have hz:=g3
   refine Nz ?_
   simp [aW,hall,g3]
   try omega
section
open Go.Proofs Go.RowKit
def mM (s:aA):List TV:=[.str s]
theorem amf (l:List aA):eJ (l.map mM)=true:=by
 rw [eJ,lV]
 intro r hr
 obtain ⟨x,_,rfl⟩:=lX1.1 hr
 rfl
end
theorem aas {n:Nat} (h:n<2^63):IntKind.i64.wrap (n:Int)=n:=by
 have h1:((2:Int)^IntKind.i64.bits)=2^64:=by decide
 have h2:((2:Int)^(IntKind.i64.bits-1))=2^63:=by decide
 unfold IntKind.wrap
 simp only [h1,h2,IntKind.signed]
 simp
 omega
theorem vU {s:aA}:∀ n ∈ (aB s).1,n.length≤14:=by
 intro n hn
 cases h:(aB s).2 with
 | false=>rw [adn h] at hn; simp at hn
 | true=>exact (mE ((jV (pT h).1).2 n hn)).2
theorem qA (s:aA):(aB s).1.length≤30:=by
 cases h:(aB s).2 with
 | false=>rw [adn h]; simp
 | true=>exact (jV (pT h).1).1
theorem ack {l:List aA} {k:Nat} (h:l.length=k+1):l[k]?=some (l.getLastD []):=by
 have hne:l≠[]:=fun e=>by rw [e] at h; simp at h
 rw [List.getLastD_eq_getLast?,List.getLast?_eq_some_getLast hne,List.getLast_eq_getElem]
 simp [h]
theorem acl {l m:List aA} (h:l.length≤m.length):l.isPrefixOf m=decide (l=m.take l.length):=by
 rw [lZ3,lY2,decide_eq_true_eq]
 exact List.prefix_iff_eq_take
theorem acm {l m:List aA} (h:m.length<l.length):l.isPrefixOf m=false:=by
 cases e:l.isPrefixOf m with
 | false=>rfl
 | true=>have:=(lY2.1 e).length_le; omega
theorem ano (l:List aA) (n:aA):l.map mM++[[TV.str n]]=(l++[n]).map mM:=by simp [mM]
theorem akf (c:UInt8):((c.toNat:Int)=47)↔c=47:=by
 rw [← UInt8.toNat_inj]
 show _↔c.toNat=47
 omega
theorem dK (s:aA) (hl:s.length<2^40):bR Tryz.prog 171 [.str s] (.tup [.own 1 ((aB s).1.map mM),.bool (aB s).2]) [.undef]:=by
 by_cases h0:s=[47]
 ·subst h0
  refine Vw pO [] 253 [] fun w hP hQ=>?_
  rfl
 refine Vw pO [] 253 [] fun w hP hQ=>?_
 have hz:=h0
 refine Nz ?_
 refine iV [2,3,7] ?_
 refine N ?_
 refine bG [2,3,7] (fun x:Nat × Nat × List aA=>[(4,.own 1 (x.2.2.map mM)),(5,.int .i64 (x.2.1:Nat)),(6,.int .i64 (x.1:Nat))]) (fun x=>Cut s x.1 x.2.1 x.2.2) (fun x=>s.length+1-x.1) ((0,0,[])) hP hQ (rfl) (Cut.zero s) ?_
 rintro ⟨i,j,out⟩ hC w1 hP1 hQ1
 refine N1 ?_
 simp only at hC
 have c1:=hC.le
 have c2:=hC.end'
 have c3:=hC.len
 refine Jf (fun h1=>?_) fun h1=>?_
 ·have next:(i=s.length∨∃ h:i<s.length,s[i]=47)→_:=fun hc=>hc
  by_cases hi:i<s.length∧∃ h:i<s.length,s[i]≠47
  ·obtain ⟨_,h2,h3⟩:=hi
   have e1:decide (((i:Nat):Int)<(s.length:Nat))=true:=lM (by omega)
   have e2:decide (((s[i].toNat:Nat):Int)=47)=false:=lC fun e=>h3 ((akf _).1 e)
   have hz:=And.intro e1 (And.intro e2 (bW (show ((i:Nat):Int)<(s.length:Nat) by omega)))
   refine Nz1 ?_
   exact ⟨(i+1,j,out),rfl,hC.skip h2 h3,by simp only; omega⟩
  ·have hc:i=s.length∨∃ h:i<s.length,s[i]=47:=by
    by_cases e:i<s.length
    ·exact .inr ⟨e,Classical.byContradiction fun h=>hi ⟨e,e,h⟩⟩
    ·exact .inl (by omega)
   have hw:1≤s.length→i<s.length→∃ h:i<s.length,s[i]=47:=fun _ h=>hc.resolve_left (by omega)
   have e1:∃ b:Bool,decide (((i:Nat):Int)<(s.length:Nat))=b:=⟨_,rfl⟩
   rcases Nat.eq_zero_or_pos i with rfl | hp
   ·obtain rfl:=hC.z rfl
    have hF:Cut s 1 1 []:=Cut.first (hc.imp (fun h=>h.symm) id)
    rcases hc with hc | ⟨hc,hx⟩
    ·have e1:decide (((0:Nat):Int)<(s.length:Nat))=false:=lC (by omega)
     have e1':decide ((0:Int)<(s.length:Nat))=false:=lC (by omega)
     have hz:=And.intro e1 e1'
     refine Nz1 ?_
     exact ⟨(1,1,[]),rfl,hF,by simp only; omega⟩
    ·have e1:decide (((0:Nat):Int)<(s.length:Nat))=true:=lM (by omega)
     have e1':decide ((0:Int)<(s.length:Nat))=true:=lM (by omega)
     have e2:decide (((s[0].toNat:Nat):Int)=47)=true:=lM ((akf _).2 hx)
     have hz:=And.intro e1 (And.intro e1' (And.intro e2 (bW (show ((0:Nat):Int)<(s.length:Nat) by omega))))
     refine Nz1 ?_
     exact ⟨(1,1,[]),rfl,hF,by simp only; omega⟩
   ·have hi2:i≤s.length:=by omega
    have e3:decide ((0:Int)<((i:Nat):Int))=true:=lM (by omega)
    have e4:(((i:Nat):Int)-(j:Nat)).toNat=i-j:=by omega
    have e5:(0:Int)≤(j:Nat)∧((j:Nat):Int)≤(i:Nat)∧((i:Nat):Int)≤(s.length:Nat):=by omega
    have hB:=hC.bad hp hi2 hc
    have hN:=hC.next hp hi2 hc
    have hO:=bQ ((s.drop j).take (i-j)) (by simp; omega)
    obtain ⟨nm,hnm⟩:∃ nm,(s.drop j).take (i-j)=nm:=⟨_,rfl⟩
    rw [hnm] at hB hN hO
    rcases hc with hc | ⟨hc,hx⟩
    ·have e1:decide (((i:Nat):Int)<(s.length:Nat))=false:=lC (by omega)
     have hz:=And.intro e1 (And.intro e3 (And.intro e4 (And.intro e5 hnm)))
     refine Nz1 ?_
     cases hn:aW nm with
     | false=>
      rw [hn] at hO
      (first|refine cI hP1 (hO) rfl rfl ?_|refine cH hP1 (hO) rfl rfl ?_)
      simp +decide (maxSteps:=9^9) (disch:=omega) only[↓SB0,SX,seval,hQ,hQ1,hB (.inl hn) h0,lH1]
     | true=>
      rw [hn] at hO
      by_cases h30:out.length=30
      ·(first|refine cI hP1 (hO) rfl rfl ?_|refine cH hP1 (hO) rfl rfl ?_)
       simp +decide (maxSteps:=9^9) (disch:=omega) only[↓SB0,SX,seval,hQ,hQ1,h30,hB (.inr h30) h0,lH1]
      ·have e6:decide (((out.length:Nat):Int)=30)=false:=lC (by omega)
       have hC2:=hN hn (by omega)
       have hz:=And.intro e6 ano
       refine Kz1 (hO) ?_
       exact ⟨(i+1,i+1,out++[nm]),rfl,hC2,by simp only; omega⟩
    ·have e1:decide (((i:Nat):Int)<(s.length:Nat))=true:=lM (by omega)
     have e2:decide (((s[i].toNat:Nat):Int)=47)=true:=lM ((akf _).2 hx)
     have hz:=And.intro e1 (And.intro e2 (And.intro e3 (And.intro e4 (And.intro e5 (And.intro hnm (bW (show ((i:Nat):Int)<(s.length:Nat) by omega)))))))
     refine Nz1 ?_
     cases hn:aW nm with
     | false=>
      rw [hn] at hO
      (first|refine cI hP1 (hO) rfl rfl ?_|refine cH hP1 (hO) rfl rfl ?_)
      simp +decide (maxSteps:=9^9) (disch:=omega) only[↓SB0,SX,seval,hQ,hQ1,hB (.inl hn) h0,lH1]
     | true=>
      rw [hn] at hO
      by_cases h30:out.length=30
      ·(first|refine cI hP1 (hO) rfl rfl ?_|refine cH hP1 (hO) rfl rfl ?_)
       simp +decide (maxSteps:=9^9) (disch:=omega) only[↓SB0,SX,seval,hQ,hQ1,h30,hB (.inr h30) h0,lH1]
      ·have e6:decide (((out.length:Nat):Int)=30)=false:=lC (by omega)
       have hC2:=hN hn (by omega)
       have hz:=And.intro e6 ano
       refine Kz1 (hO) ?_
       exact ⟨(i+1,i+1,out++[nm]),rfl,hC2,by simp only; omega⟩
 ·obtain rfl:i=s.length+1:=by omega
  cases s with
  | nil=>
   simp +decide (maxSteps:=9^9) (disch:=omega) only[↓SB0,SX,seval,hQ,hQ1,rA (s:=[]) (by simp),lH1]
  | cons c s=>
   have e7:decide ((((s.length+1:Nat)):Int)=0)=false:=lC (by omega)
   have e8:(0:Int)<((s.length+1:Nat):Int):=by omega
   by_cases hc:c=47
   ·subst hc
    simp +decide (maxSteps:=9^9) (disch:=omega) only[↓SB0,SX,seval,hQ,hQ1,e7,e8,lO3,hC.done rfl h0]
   ·have e9:decide (((c.toNat:Nat):Int)=47)=false:=lC fun e=>hc ((akf _).1 e)
    simp +decide (maxSteps:=9^9) (disch:=omega) only[↓SB0,SX,seval,hQ,hQ1,e7,e8,lO3,e9,rA (s:=c::s) (by simpa using hc),lH1]
theorem acn (l:List aA) (hl:l.length<2^30) (hs:∀ n ∈ l,n.length≤14):bR Tryz.prog 190 [.ext 1 (l.map mM)] (.str (cO l)) [.undef]:=by
 by_cases h0:l=[]
 ·subst h0
  refine Vw rI [] 29 [] fun w hP hQ=>?_
  rfl
 have hp:0<l.length:=lI3.2 h0
 have hd:decide (((l.length:Nat):Int)=0)=false:=lC (by omega)
 refine Vw rI [] 29 [] fun w hP hQ=>?_
 have hz:=hd
 refine Nz ?_
 refine iV [2] ?_
 refine N ?_
 refine bG [2] (fun i:Nat=>[(3,.str (eT (l.take i))),(4,.int .i64 (i:Nat))]) (fun i=>i≤l.length∧(i=0∨l.length≤30)∧∀ k,k<i→(h:k<l.length)→aW l[k]=true) (fun i=>l.length-i) (0) hP hQ (rfl) (by simp) ?_
 rintro i ⟨hi,h30,hk⟩ w1 hP1 hQ1
 refine N1 ?_
 refine Jf (fun h1=>?_) fun h1=>?_
 ·have hlt:i<l.length:=by omega
  have hO:=bQ (l[i]) (by have:=hs _ (lQ hlt); omega)
  have hm:=lQ hlt
  simp +decide (maxSteps:=9^9) (disch:=omega) only[↓SB0,SX,seval,hQ,hQ1,bW h1,mM]
  cases hn:aW (l[i]'(by omega)) with
  | false=>
   rw [hn] at hO
   have e:cO l=[]:=by rw [cO,lK (by simp [aaq hm hn])]
   have hz:=e
   exact Kz1 (hO) trivial
  | true=>
   rw [hn] at hO
   by_cases hg:30<l.length
   ·have e:cO l=[]:=by rw [cO,lK (by simp [vT hg])]
    have hg':decide ((30:Int)<(l.length:Nat))=true:=lM (by omega)
    have hz:=And.intro e hg'
    exact Kz1 (hO) trivial
   ·have hg':decide ((30:Int)<(l.length:Nat))=false:=lC (by omega)
    have hb:(eT (l.take i)).length≤450:=aar (oA (by rw [lT]; omega) fun n hn=>by
     obtain ⟨k,hk1,rfl⟩:=lU1 hn
     rw [List.getElem_take]
     exact hk k (by simp at hk1; omega) _)
    have hc:=hs _ hm
    have hb2:(eT (l.take i)++[47]).length+(l[i]).length≤4611686018427387904:=by simp only [lY,List.length_singleton]; omega
    have he:eT (l.take i)++[47]++l[i]=eT (l.take (i+1)):=by rw [lS hlt,afe]; simp
    (first|refine cI hP1 (hO) rfl rfl ?_|refine cH hP1 (hO) rfl rfl ?_)
    simp +decide (maxSteps:=9^9) (disch:=omega) only[↓SB0,SX,seval,hQ,hQ1,hg',bW h1,mM,hb2,he]
    exact ⟨i+1,rfl,⟨by omega,.inr (by omega),fun k hk1 hk2=>by
     by_cases e:k=i
     ·subst e; exact hn
     ·exact hk k (by omega) hk2⟩,by omega⟩
 ·obtain rfl:i=l.length:=by omega
  have e:cO l=eT l:=by
   rw [cO,lF (oA (by omega) fun n hn=>by obtain ⟨k,h,rfl⟩:=lU1 hn; exact hk k h h),lK h0]
  simp +decide (maxSteps:=9^9) (disch:=omega) only[↓SB0,SX,seval,hQ,hQ1,e,lE2]
theorem fH (s:aA) (hl:s.length<2^40):bR Tryz.prog 174 [.str s] (.tup [.str (aJ s).1,.str (aJ s).2.1,.bool (aJ s).2.2]) [.undef]:=by
 have hS:=dK s hl
 have hp:=vU (s:=s)
 have hf:=qA s
 unfold aJ
 generalize aB s=x at *
 obtain ⟨l,b⟩:=x
 cases b with
 | false=>
  rw [lK (by simp)]
  refine Vw nD [] 253 [] fun w hP hQ=>?_
  exact K (hS) trivial
 | true=>
  cases hk:l.length with
  | zero=>
   obtain rfl:l=[]:=lQ1.1 hk
   rw [lK (by simp)]
   refine Vw nD [] 253 [] fun w hP hQ=>?_
   exact K (hS) trivial
  | succ k=>
   have hne:l≠[]:=fun e=>by rw [e] at hk; simp at hk
   rw [lF ⟨rfl,hne⟩]
   have hJ:=acn l.dropLast (by simp; simp only at hf; omega) fun n hn=>hp n (List.dropLast_subset _ hn)
   rw [List.dropLast_eq_take,hk] at hJ ⊢
   simp only [Nat.add_sub_cancel,lD4] at hJ ⊢
   have hg:=ack hk
   have h0:(decide (((k+1:Nat):Int)=0))=false:=lC (by omega)
   have h1:(((k+1:Nat):Int)-1)=(k:Int):=by omega
   have h2:((k:Int)-0).toNat=k:=by omega
   have h3:0+k≤k+1:=by omega
   have h4:=aas (n:=k) (by simp only [hk] at hf; omega)
   refine Vw nD [] 253 [] fun w hP hQ=>?_
   have hz:=And.intro hk (And.intro h0 (And.intro h1 (And.intro h2 (And.intro h3 h4))))
   refine Kz (hS) ?_
   (first|refine cI hP (hJ) rfl rfl ?_|refine cH hP (hJ) rfl rfl ?_)
   simp +decide (maxSteps:=9^9) (disch:=omega) only[↓SB0,SX,seval,hQ,hk,h0,h1,h2,h3,h4,hg,mM]
theorem akg (a b:aA) (ha:a.length<2^40) (hb:b.length<2^40):bR Tryz.prog 181 [.str a,.str b] (.bool (xG a b)) [.undef,.undef]:=by
 have hS:=dK a ha
 have hT:=dK b hb
 have hf:=qA a
 have hg:=qA b
 unfold xG
 generalize aB a=x at *
 generalize aB b=y at *
 obtain ⟨l,u⟩:=x
 obtain ⟨m,v⟩:=y
 simp only at *
 cases u with
 | false=>
  refine Vw pP [] 1011 [] fun w hP hQ=>?_
  refine K (hS) ?_
  exact K (hT) trivial
 | true=>
  cases v with
  | false=>
   refine Vw pP [] 1011 [] fun w hP hQ=>?_
   refine K (hS) ?_
   exact K (hT) trivial
  | true=>
   by_cases hn:l.length≤m.length
   ·rw [acl hn]
    have h0:decide (((m.length:Nat):Int)<(l.length:Nat))=false:=lC (by omega)
    refine Vw pP [] 1011 [] fun w hP hQ=>?_
    refine K (hS) ?_
    have hz:=h0
    refine Kz (hT) ?_
    refine iV [4] ?_
    refine N ?_
    refine bG [4] (fun i:Nat=>[(9,.int .i64 i)]) (fun i=>i≤l.length∧l.take i=m.take i) (fun i=>l.length-i) (0) hP hQ (rfl) (by simp) ?_
    rintro i ⟨hi,hab⟩ w1 hP1 hQ1
    refine N1 ?_
    refine Jf (fun h1=>?_) fun h1=>?_
    ·have h5:((i:Nat):Int)<(m.length:Nat):=by omega
     simp +decide (maxSteps:=9^9) (disch:=omega) only[↓SB0,SX,seval,hQ,hQ1,bW h1,bW h5,mM]
     refine Jf (fun h2=>?_) fun h2=>?_
     ·refine N1 ?_
      exact ⟨i+1,rfl,⟨by omega,zW hab _ _ h2⟩,by omega⟩
     ·refine N1 ?_
      rw [lC (show ¬ l=m.take l.length from fun e=>h2 (by
       have:=congrArg (fun x=>x[i]?) e
       simp only [lJ1] at this
       rw [lF (by omega),lH (by omega),lH (by omega)] at this
       exact Option.some.inj this))]
    ·obtain rfl:i=l.length:=by omega
     rw [lE2] at hab
     refine N1 ?_
     rw [lM hab]
   ·rw [acm (by omega)]
    have h0:decide (((m.length:Nat):Int)<(l.length:Nat))=true:=lM (by omega)
    refine Vw pP [] 1011 [] fun w hP hQ=>?_
    refine K (hS) ?_
    have hz:=h0
    exact Kz (hT) trivial
section
section
variable {α:Type} {key:α→aA}
theorem aff {l:List α} {e:α} {k:Nat} (hk:k≤l.length) (h1:∀ j,j<k→(h:j<l.length)→¬ key e<key l[j]) (h2:∀ h:k<l.length,key e<key l[k]):tP key l e=l.take k++e::l.drop k:=by
 induction l generalizing k with
 | nil=>simp at hk; subst hk; rfl
 | cons f l ih=>
  rw [tP]
  cases k with
  | zero=>have h:=h2 (by simp); simp only [lT3] at h; rw [lF h]; rfl
  | succ k=>
   have h:=h1 0 (by omega) (by simp)
   simp only [lT3] at h
   rw [lK h,ih (k:=k) (by simpa using hk) (fun j hj h=>h1 (j+1) (by omega) (by simpa using h)) (fun h=>h2 (by simpa using h))]
   rfl
theorem qB {l:List α} (hu:UpK key l) {e:α} {k:Nat} (hk:k≤l.length) (h1:∀ j,k≤j→(h:j<l.length)→key e<key l[j]) (h2:k=0∨∃ h:k-1<l.length,¬ key e<key l[k-1]):tP key l e=l.take k++e::l.drop k:=by
 refine aff hk (fun j hj h hlt=>?_) (fun h=>h1 k (lS1 _) h)
 rcases h2 with h2 | ⟨h2,h3⟩
 ·omega
 ·by_cases e1:j=k-1
  ·subst e1; exact h3 hlt
  ·exact h3 (List.lt_trans hlt (lQ2.1 hu j (k-1) h h2 (by omega)))
end
theorem afg {l:List Inode} (h:UpI l) {x:Inode} {k:Nat} (hk:l.findIdx? (fun y=>decide (y.ino=x.ino))=some k):bO l x=l.set k x:=by
 induction l generalizing k with
 | nil=>simp at hk
 | cons y l ih=>
  obtain ⟨a1,a2⟩:=lZ.1 h
  rw [List.findIdx?_cons] at hk
  rw [bO]
  by_cases e:y.ino=x.ino
  ·rw [lF (by simpa using e)] at hk
   injection hk with hk
   subst hk
   rw [lF e]; rfl
  ·rw [lK (by simpa using e)] at hk
   cases hf:l.findIdx? (fun y=>decide (y.ino=x.ino)) with
   | none=>rw [hf] at hk; cases hk
   | some j=>
    rw [hf] at hk
    injection hk with hk
    subst hk
    obtain ⟨j1,j2,_⟩:=lM2.1 hf
    have:=a1 _ (lQ j1)
    simp only [decide_eq_true_eq] at j2
    rw [lK e,lK (by omega),ih a2 hf]; rfl
theorem aat {l:List Inode} {x:Inode} {k:Nat} (hk:k≤l.length) (h1:∀ j,j<k→(h:j<l.length)→l[j].ino<x.ino) (h2:∀ h:k<l.length,x.ino<l[k].ino):bO l x=l.take k++x::l.drop k:=by
 induction l generalizing k with
 | nil=>simp at hk; subst hk; rfl
 | cons y l ih=>
  rw [bO]
  cases k with
  | zero=>
   have:=h2 (by simp)
   simp only [lT3] at this
   rw [lK (by omega),lF this]; rfl
  | succ k=>
   have:=h1 0 (by omega) (by simp)
   simp only [lT3] at this
   rw [lK (by omega),lK (by omega),ih (k:=k) (by simpa using hk) (fun j hj h=>h1 (j+1) (by omega) (by simpa using h)) (fun h=>h2 (by simpa using h))]
   rfl
theorem set_comm {t:Tab} (h:UpI t.inodes) {x y:Inode} (hne:x.ino≠y.ino):aF (aF t x) y=aF (aF t y) x:=by
 refine al9 (fW (fW h x) y) (fW (fW h y) x) rfl fun i=>?_
 rw [b9 (fW h x),b9 h,b9 (fW h y),b9 h]
 by_cases e1:y.ino=i <;> by_cases e2:x.ino=i <;> simp [e1,e2] <;> omega
theorem aau {α:Type} {l:List α} {k:Nat} {h:α} (hk:k≤l.length):(l.take k++h::l.drop k).length=l.length+1:=by simp; omega
theorem aav {α:Type} {l:List α} {k:Nat} {h:α} (hk:k<l.length):((l.take (k+1)++h::l.drop (k+1)))[k]?=some l[k]:=by
 rw [lJ3 (by simp; omega),lJ1,lF (by omega),lH hk]
theorem qC {α:Type} {l:List α} {k:Nat} (h x:α) (hk:k≤l.length):(l.take k++h::l.drop k).set k x=l.take k++x::l.drop k:=by
 have:(l.take k).length=k:=by simp; omega
 rw [List.set_append_right _ _ (by omega)]
 congr 1
 rw [this,Nat.sub_self]; rfl
theorem vV {α:Type} {l:List α} {k:Nat} (hk:k<l.length):l.take (k+1)++l[k]::l.drop (k+1)=l.take k++l[k]::l.drop k:=by
 rw [lS hk,lP2]
 congr 1
 rw [← lG2 hk]; rfl
end
section
variable {t:Tab}
theorem amg {s:aA} (hs:(aB s).2=true) {i:Int} (h:aP (aC t) (aB s).1 1=some i):cT t s=match aC t i with
  | some x=>.ok x
  | none=>.error 2:=by
 rw [cT,(ads hs).2 h,lF rfl]
 all_goals (cases aC t i <;> rfl)
theorem nR {s:aA} {c:Int} (h:cT t s=.error c):c≠0:=by
 unfold cT at h
 split at h
 ·split at h
  ·cases h
  ·cases h; decide
 ·rename_i e; cases h; exact e
theorem sC {s:aA} {c:Int} (h:mK t s=.error c):c≠0:=by
 unfold mK at h
 split at h
 ·split at h
  ·cases h
  ·cases h; decide
 ·rename_i e; cases h; exact nR e
end
theorem bX (m:Nat):((m+1:Nat):Int)-1=(m:Int):=by omega
theorem nS {α:Type} {p:Nat→α→Bool} {lt:α→α→Bool} {l:List α} {i:Nat} (hk:∀ k,k<i→eG p lt l k=true) (hi:eG p lt l i=true):∀ k,k<i+1→eG p lt l k=true:=by
 intro k hlt
 by_cases e:k=i
 ·subst e; exact hi
 ·exact hk k (by omega)
theorem jB {α:Type} {p:Nat→α→Bool} {lt:α→α→Bool} {l:List α} {i:Nat} (h:i<l.length) (hp:p i l[i]=false):eG p lt l i=false:=by
 rw [eG,lH h]; simp [hp]
theorem amh {l:List Attr} {n:Nat} (h:szM Attr.sz l<n):l.length<n∧∀ x ∈ l,x.name.length<n∧x.val.length<n:=by
 refine ⟨by simp only [szM] at h; omega,fun x hx=>?_⟩
 have:=qV (f:=Attr.sz) hx
 simp only [szM] at h
 simp only [Attr.sz] at this
 omega
theorem anp {l:List Ent} {n:Nat} (h:szM Ent.sz l<n):l.length<n∧∀ x ∈ l,x.name.length<n:=by
 refine ⟨by simp only [szM] at h; omega,fun x hx=>?_⟩
 have:=qV (f:=Ent.sz) hx
 simp only [szM] at h
 simp only [Ent.sz] at this
 omega
theorem ami {p q:Prop} [Decidable p] [Decidable q] (h:p↔q):decide p=decide q:=by simp [h]
theorem vW (l:List Attr) (hs:szM Attr.sz l<2^48):bR Tryz.prog 156 [.ext 2 (l.map Attr.row)] (.bool (rM l)) [.undef]:=by
 obtain ⟨hl,hls⟩:=amh hs
 refine Vw abZ [] 13 [] fun w hP hQ=>?_
 refine iV [2] ?_
 refine N ?_
 refine bG [2] (fun i:Nat=>[(3,.int .i64 i)]) (fun i=>i≤l.length∧∀ k,k<i→eG (fun _=>aaj) tU l k=true) (fun i=>l.length-i) (0) hP hQ (rfl) (by simp) ?_
 rintro i ⟨hi,hk⟩ w1 hP1 hQ1
 refine N1 ?_
 refine Jf (fun h1=>?_) fun h1=>?_
 ·have hlt:i<l.length:=by omega
  have hno:eG (fun _=>aaj) tU l i=false→rM l=false:=fun e=>(fun e=>by rw [rM,xK,e]; rfl) (r7 hlt e)
  obtain hla:=hls _ (lQ hlt)
  cases hN:aW (l[i]'hlt).name with
  | false=>
   have hz:=(bW h1)
   refine Nz1 ?_
   have hz:=hN
   refine Kz1 (bQ (l[i]'hlt).name (by omega)) ?_
   rw [hno (jB hlt (by simp [aaj,hN]))]
  | true=>
   cases hV:inR (((l[i]'hlt).val.length:Nat)) 1 16 with
   | false=>
    have hz:=(bW h1)
    refine Nz1 ?_
    have hz:=And.intro hN (bW h1)
    refine Kz1 (bQ (l[i]'hlt).name (by omega)) ?_
    have hz:=hV
    refine Kz1 (cF (((l[i]'hlt).val.length:Nat)) 1 16) ?_
    rw [hno (jB hlt (by simp [aaj,hV]))]
   | true=>
    cases i with
    | zero=>
     have hz:=(bW h1)
     refine Nz1 ?_
     have hz:=And.intro hN (bW h1)
     refine Kz1 (bQ (l[0]'hlt).name (by omega)) ?_
     have hz:=And.intro hV (bW h1)
     refine Kz1 (cF (((l[0]'hlt).val.length:Nat)) 1 16) ?_
     exact ⟨1,rfl,⟨by omega,nS hk (by rw [iP hlt]; simp [aaj,hN,hV])⟩,by omega⟩
    | succ m=>
     have w4:decide ((0:Int)<((m+1:Nat):Int))=true:=lM (by omega)
     have hm:=bW (show ((m:Nat):Int)<(l.length:Nat) by omega)
     cases hD:strLt (l[m]'(by omega)).name (l[m+1]'hlt).name with
     | false=>
      have hz:=(bW h1)
      refine Nz1 ?_
      have hz:=And.intro hN (bW h1)
      refine Kz1 (bQ (l[m+1]'hlt).name (by omega)) ?_
      have hz:=And.intro hV (And.intro w4 (And.intro bX (And.intro hm (And.intro (bW h1) hD))))
      refine Kz1 (cF (((l[m+1]'hlt).val.length:Nat)) 1 16) ?_
      rw [hno (by rw [c6 hlt,tU,← pZ,hD]; simp)]
     | true=>
      have hz:=(bW h1)
      refine Nz1 ?_
      have hz:=And.intro hN (bW h1)
      refine Kz1 (bQ (l[m+1]'hlt).name (by omega)) ?_
      have hz:=And.intro hV (And.intro w4 (And.intro bX (And.intro hm (And.intro (bW h1) hD))))
      refine Kz1 (cF (((l[m+1]'hlt).val.length:Nat)) 1 16) ?_
      exact ⟨m+1+1,rfl,⟨by omega,nS hk (by rw [c6 hlt,tU,← pZ,hD]; simp [aaj,hN,hV])⟩,by omega⟩
 ·obtain rfl:i=l.length:=by omega
  have e:xK l=true:=nO fun k h=>hk k h
  refine N1 ?_
  rw [rM,e,lV4]
  rw [ami (p:=(l.length:Int)≤4) (q:=l.length≤4) (by omega)]
theorem aaw (l:List Ent) (hs:szM Ent.sz l<2^48):bR Tryz.prog 155 [.ext 2 (l.map Ent.row)] (.bool (aak l)) [.undef]:=by
 obtain ⟨hl,hls⟩:=anp hs
 refine Vw aeV [] 13 [] fun w hP hQ=>?_
 refine iV [2] ?_
 refine N ?_
 refine bG [2] (fun i:Nat=>[(3,.int .i64 i)]) (fun i=>i≤l.length∧∀ k,k<i→eG (fun _=>akU) acd l k=true) (fun i=>l.length-i) (0) hP hQ (rfl) (by simp) ?_
 rintro i ⟨hi,hk⟩ w1 hP1 hQ1
 refine N1 ?_
 refine Jf (fun h1=>?_) fun h1=>?_
 ·have hlt:i<l.length:=by omega
  have hno:eG (fun _=>akU) acd l i=false→aak l=false:=fun e=>(fun e=>by rw [aak,adp,e]; rfl) (r7 hlt e)
  obtain hla:=hls _ (lQ hlt)
  cases hN:aW (l[i]'hlt).name with
  | false=>
   have hz:=(bW h1)
   refine Nz1 ?_
   have hz:=hN
   refine Kz1 (bQ (l[i]'hlt).name (by omega)) ?_
   rw [hno (jB hlt (by simp [akU,hN]))]
  | true=>
   cases hV:inR ((l[i]'hlt).ino) 2 1000 with
   | false=>
    have hz:=(bW h1)
    refine Nz1 ?_
    have hz:=And.intro hN (bW h1)
    refine Kz1 (bQ (l[i]'hlt).name (by omega)) ?_
    have hz:=hV
    refine Kz1 (cF ((l[i]'hlt).ino) 2 1000) ?_
    rw [hno (jB hlt (by simp [akU,hV]))]
   | true=>
    cases i with
    | zero=>
     have hz:=(bW h1)
     refine Nz1 ?_
     have hz:=And.intro hN (bW h1)
     refine Kz1 (bQ (l[0]'hlt).name (by omega)) ?_
     have hz:=And.intro hV (bW h1)
     refine Kz1 (cF ((l[0]'hlt).ino) 2 1000) ?_
     exact ⟨1,rfl,⟨by omega,nS hk (by rw [iP hlt]; simp [akU,hN,hV])⟩,by omega⟩
    | succ m=>
     have w4:decide ((0:Int)<((m+1:Nat):Int))=true:=lM (by omega)
     have hm:=bW (show ((m:Nat):Int)<(l.length:Nat) by omega)
     cases hD:strLt (l[m]'(by omega)).name (l[m+1]'hlt).name with
     | false=>
      have hz:=(bW h1)
      refine Nz1 ?_
      have hz:=And.intro hN (bW h1)
      refine Kz1 (bQ (l[m+1]'hlt).name (by omega)) ?_
      have hz:=And.intro hV (And.intro w4 (And.intro bX (And.intro hm (And.intro (bW h1) hD))))
      refine Kz1 (cF ((l[m+1]'hlt).ino) 2 1000) ?_
      rw [hno (by rw [c6 hlt,acd,← pZ,hD]; simp)]
     | true=>
      have hz:=(bW h1)
      refine Nz1 ?_
      have hz:=And.intro hN (bW h1)
      refine Kz1 (bQ (l[m+1]'hlt).name (by omega)) ?_
      have hz:=And.intro hV (And.intro w4 (And.intro bX (And.intro hm (And.intro (bW h1) hD))))
      refine Kz1 (cF ((l[m+1]'hlt).ino) 2 1000) ?_
      exact ⟨m+1+1,rfl,⟨by omega,nS hk (by rw [c6 hlt,acd,← pZ,hD]; simp [akU,hN,hV])⟩,by omega⟩
 ·obtain rfl:i=l.length:=by omega
  have e:adp l=true:=nO fun k h=>hk k h
  refine N1 ?_
  rw [aak,e,lV4]
  rw [ami (p:=(l.length:Int)≤10) (q:=l.length≤10) (by omega)]
theorem jC {x:Inode} {n:Nat} (h:x.sz<n):x.data.length<n∧x.ents.length<n∧x.attrs.length<n:=by
 simp only [Inode.sz,szM] at h; omega
theorem iT (b:Bool):b=false∨b=true:=by cases b <;> simp
theorem ahZ {x:Inode} (h:x.sz<2^48):x.data.length<2^48∧szM Ent.sz x.ents<2^48∧szM Attr.sz x.attrs<2^48∧x.ents.length<2^48∧x.attrs.length<2^48:=by
 simp only [Inode.sz] at h
 refine ⟨by omega,by omega,by omega,?_,?_⟩
 ·have:szM Ent.sz x.ents=x.ents.length+(x.ents.map Ent.sz).sum:=rfl
  omega
 ·have:szM Attr.sz x.attrs=x.attrs.length+(x.attrs.map Attr.sz).sum:=rfl
  omega
theorem j7 (x:Inode) (h:x.sz<2^48):bR Tryz.prog 133 [x.x] (.bool (j4 x)) [.undef]:=by
 obtain ⟨h1,h2,h3,h4,h5⟩:=ahZ h
 refine Vw abW [] 2199023255559 [] fun w hP hQ=>?_
 rcases iT (inR x.ino 1 1000) with hA | hA
 ·have hz:=hA
  refine Kz (cF x.ino 1 1000) ?_
  simp [j4,hA]
 have hz:=hA
 refine Kz (cF x.ino 1 1000) ?_
 rcases iT (inR x.links 0 1000) with hB | hB
 ·have hz:=hB
  refine Kz (cF x.links 0 1000) ?_
  simp [j4,hB]
 have hz:=hB
 refine Kz (cF x.links 0 1000) ?_
 refine Jg (fun hC=>?_) fun hC=>?_
 rotate_left
 ·have hz:=hC
  refine Nz ?_
  simp [j4,hC]
 have hz:=hC
 refine Nz ?_
 refine Jg (fun hD=>?_) fun hD=>?_
 ·have hz:=hD
  refine Nz ?_
  simp [j4]; omega
 have hz:=hD
 refine Nz ?_
 rcases iT (aak x.ents) with hE | hE
 ·have hz:=hE
  refine Kz (aaw x.ents h2) ?_
  simp [j4,hE]
 have hz:=hE
 refine Kz (aaw x.ents h2) ?_
 rcases iT (rM x.attrs) with hF | hF
 ·have hz:=hF
  refine Kz (vW x.attrs h3) ?_
  simp [j4,hF]
 have hz:=hF
 refine Kz (vW x.attrs h3) ?_
 have key:j4 x=aal x:=by
  simp [j4,hA,hB,hC,hE,hF]; omega
 refine Jf (fun k1=>?_) fun k1=>?_
 ·refine N ?_
  rw [key,aal,lF k1,ami (p:=(x.ents.length:Int)=0) (q:=x.ents.length=0) (by omega)]
 refine N ?_
 refine Jf (fun k2=>?_) fun k2=>?_
 ·refine N ?_
  refine Jg (fun k3=>?_) fun k3=>?_
  ·have hz:=k3
   refine Nz ?_
   rw [key,aal,lK k1,lF k2,lM (show x.data.length=0 by omega),lV4]
  ·have hz:=k3
   refine Nz ?_
   rw [key,aal,lK k1,lF k2,lC (show ¬ x.data.length=0 by omega),lD2]
 ·refine N ?_
  rw [key,aal,lK k1,lK k2]
def cM (t:Tab) (i:Int):Option Nat:=t.inodes.findIdx? fun x=>decide (x.ino=i)
def zI:Inode:={ ino:=0,kind:=0,links:=0,data:=[],ents:=[],attrs:=[] }
def amj (t:Tab) (i:Int):Inode:=(aC t i).getD zI
theorem adx {α:Type} (p:α→Bool) (l:List α):l.find? p=(l.findIdx? p).bind fun k=>l[k]?:=by
 induction l with
 | nil=>rfl
 | cons x l ih=>
  by_cases h:p x=true
  ·rw [lM1 h,List.findIdx?_cons,lF h]; rfl
  ·rw [lB1 h,List.findIdx?_cons,lK h,ih]
   cases List.findIdx? p l <;> simp
theorem aax (t:Tab) (i:Int):aC t i=(cM t i).bind fun k=>t.inodes[k]?:=adx _ _
theorem vX {t:Tab} {i:Int} {k:Nat} (h:cM t i=some k):k<t.inodes.length:=(lM2.1 h).1
theorem sD {t:Tab} {i:Int} {k:Nat} (h:cM t i=some k):aC t i=some (t.inodes[k]'(vX h)):=by
 rw [aax,h]; simp [vX h]
theorem aay {t:Tab} {i:Int} (h:cM t i=none):aC t i=none:=by rw [aax,h]; rfl
theorem o7 (t:Tab) (n:Int) (hl:t.inodes.length<2^48):bR Tryz.prog 118 [t.x,.int .i64 n] (.int .i64 (uL (cM t n))) [.undef,.undef]:=by
 refine Vw ajZ [] 55 [] fun w hP hQ=>?_
 refine iV [4] ?_
 refine N ?_
 refine bG [4] (fun i:Nat=>[(5,.int .i64 i)]) (fun i=>i≤t.inodes.length∧∀ k,k<i→(h:k<t.inodes.length)→decide (t.inodes[k].ino=n)=false) (fun i=>t.inodes.length-i) (0) hP hQ (rfl) (by simp) ?_
 rintro i ⟨hi,hk⟩ w1 hP1 hQ1
 refine N1 ?_
 refine Jf (fun h1=>?_) fun h1=>?_
 ·have hz:=(bW h1)
  refine Nz1 ?_
  refine Jf (fun h2=>?_) fun h2=>?_
  ·refine N1 ?_
   rw [cM,r9 (p:=fun x:Inode=>decide (x.ino=n)) hk (by omega) (lM h2)]; rfl
  ·refine N1 ?_
   exact ⟨i+1,rfl,⟨by omega,t7 (p:=fun x:Inode=>decide (x.ino=n)) hk (by omega) (lC h2)⟩,by omega⟩
 ·obtain rfl:i=t.inodes.length:=by omega
  refine N1 ?_
  rw [cM,sA (p:=fun x:Inode=>decide (x.ino=n)) fun k h=>hk k h h]; rfl
theorem t8 {α:Type} (f:α→List TV) (h:∀ x,(f x).all lA=true) (l:List α):eJ (l.map f)=true:=by
 rw [eJ,lV]
 intro r hr
 obtain ⟨x,_,rfl⟩:=lX1.1 hr
 exact h x
theorem ah0 (l:List Ent):eJ (l.map Ent.row)=true:=t8 Ent.row (fun _=>rfl) l
theorem ah1 (l:List Attr):eJ (l.map Attr.row)=true:=t8 Attr.row (fun _=>rfl) l
theorem anF (b:aA) (hl:b.length<2^40):bR Tryz.prog 91 [.ext 1 (aM b)] (.own 1 (aM b)) [.undef]:=by
 refine ag6 fun a len cap ha=>?_
 cases a with
 | none=>
  obtain rfl:b=[]:=by simpa [aM] using ha rfl
  refine Vw oM [] 5 [] fun w hP hQ=>?_
  rfl
 | some a=>
  refine U oM [] 5 [] fun w hP hQ=>?_
  unfold oL
  exact N trivial
theorem j8 (x:Inode) (h:x.sz<2^40):bR Tryz.prog 125 [x.x] x.o [.undef]:=by
 obtain ⟨h1,h2,h3⟩:=jC h
 refine Vw aeS [] 15 [] fun w hP hQ=>?_
 have hz:=And.intro tJ (And.intro ah0 ah1)
 exact Nz trivial
theorem eS {t:Tab} {n:Nat} (h:t.sz<n):t.inodes.length<n∧∀ x ∈ t.inodes,x.sz<n:=by
 have h':szM Inode.sz t.inodes<n:=h
 refine ⟨by simp only [szM] at h'; omega,fun x hx=>?_⟩
 have:=qV (f:=Inode.sz) hx
 simp only [szM] at h'; omega
theorem rB (t:Tab) (n:Int) (h:t.sz<2^40):bR Tryz.prog 157 [t.x,.int .i64 n] (.tup [(amj t n).o,.bool (aC t n).isSome]) [.undef,.undef]:=by
 obtain ⟨h1,h2⟩:=eS h
 have hPl:=o7 t n (by omega)
 cases e:cM t n with
 | none=>
  rw [e] at hPl
  rw [amj,aay e]
  refine Vw tH [] 119 [] fun w hP hQ=>?_
  refine K (hPl) ?_
  rfl
 | some k=>
  have hk:=vX e
  rw [e,show uL (some k)=(k:Int) from rfl] at hPl
  rw [amj,sD e]
  refine Vw tH [] 119 [] fun w hP hQ=>?_
  refine K (hPl) ?_
  refine Jf (fun hx=>?_) fun hx=>?_
  ·exfalso; omega
  have hz:=(bW (show ((k:Nat):Int)<(t.inodes.length:Nat) by omega))
  refine Nz ?_
  refine K (j8 (t.inodes[k]'hk) (h2 _ (lQ hk))) ?_
  rfl
theorem afh {t:Tab} (e:oD t=false):ae8 t=false:=by simp [ae8,e]
theorem afi {t:Tab} (h:oD t=true):xL t=match t.inodes with
  | []=>false
  | x::_=>decide (x.ino=1) && decide (x.kind=2):=by
 rw [oD,nP (fun a b c h1 h2=>by simp only [mJ,decide_eq_true_eq] at *; omega)] at h
 obtain ⟨h1,h2⟩:=h
 unfold xL aC
 cases hl:t.inodes with
 | nil=>rfl
 | cons x l=>
  rw [hl] at h2
  obtain ⟨a1,a2⟩:=lZ.1 h2
  have hx:=h1 0 (by rw [hl]; simp)
  simp only [hl,lT3,p7,lN] at hx
  have hx1:=((vQ x).1 hx.1).ino.1
  by_cases e:x.ino=1
  ·rw [lM1 (by simp [e])]; simp [e]
  ·rw [lB1 (by simp [e])]
   have:l.find? (fun x=>decide (x.ino=1))=none:=by
    rw [List.find?_eq_none]
    intro y hy
    have:=a1 y hy
    simp only [mJ,decide_eq_true_eq] at this
    simp; omega
   rw [this]; simp [e]
theorem ady (t:Tab) (h:t.sz<2^40):bR Tryz.prog 115 [t.x] (.bool (ae8 t)) [.undef]:=by
 obtain ⟨hl,hls⟩:=eS h
 refine Vw ahs [] 31 [] fun w hP hQ=>?_
 rcases iT (inR (t.inodes.length:Nat) 1 30) with hA | hA
 ·have hA':=adw hA
  have hz:=hA
  refine Kz (cF (t.inodes.length:Nat) 1 30) ?_
  by_cases h0:t.inodes.length≤30
  ·have:t.inodes=[]:=lQ1.1 (by omega)
   have hr:xL t=false:=by simp [xL,aC,this]
   simp [ae8,hr]
  ·simp [ae8,h0]
 have hA':=(eL _ _ _).1 hA
 have hz:=hA
 refine Kz (cF (t.inodes.length:Nat) 1 30) ?_
 rcases iT (inR t.next 2 1000) with hB | hB
 ·have hz:=hB
  refine Kz (cF t.next 2 1000) ?_
  simp [ae8,hB]
 have hz:=hB
 refine Kz (cF t.next 2 1000) ?_
 refine iV [2,4,5004] ?_
 refine N ?_
 refine bG [2,4,5004] (fun i:Nat=>[(3,.int .i64 i)]) (fun i=>i≤t.inodes.length∧∀ k,k<i→eG (fun _=>p7 t) mJ t.inodes k=true) (fun i=>t.inodes.length-i) (0) hP hQ (rfl) (by simp) ?_
 rintro i ⟨hi,hk⟩ w1 hP1 hQ1
 refine N1 ?_
 refine Jf (fun h1=>?_) fun h1=>?_
 ·have hlt:i<t.inodes.length:=by omega
  have hno:eG (fun _=>p7 t) mJ t.inodes i=false→ae8 t=false:=fun e=>afh (r7 hlt e)
  have hla:=hls _ (lQ hlt)
  cases hN:j4 (t.inodes[i]'hlt) with
  | false=>
   have hz:=(bW h1)
   refine Nz1 ?_
   have hz:=hN
   refine Kz1 (j7 (t.inodes[i]'hlt) (by omega)) ?_
   rw [hno (jB hlt (by simp [p7,hN]))]
  | true=>
   cases hV:decide (t.next≤(t.inodes[i]'hlt).ino) with
   | true=>
    have hV':=of_decide_eq_true hV
    have hz:=(bW h1)
    refine Nz1 ?_
    have hz:=And.intro hN hV
    refine Kz1 (j7 (t.inodes[i]'hlt) (by omega)) ?_
    rw [hno (jB hlt (by simp [p7]; omega))]
   | false=>
    have hV':=of_decide_eq_false hV
    cases i with
    | zero=>
     have hz:=(bW h1)
     refine Nz1 ?_
     have hz:=And.intro hN hV
     refine Kz1 (j7 (t.inodes[0]'hlt) (by omega)) ?_
     exact ⟨1,rfl,⟨by omega,nS hk (by rw [iP hlt]; simp [p7,hN]; omega)⟩,by omega⟩
    | succ m=>
     have w4:decide ((0:Int)<((m+1:Nat):Int))=true:=lM (by omega)
     have hm:=bW (show ((m:Nat):Int)<(t.inodes.length:Nat) by omega)
     cases hD:decide ((t.inodes[m+1]'hlt).ino≤(t.inodes[m]'(by omega)).ino) with
     | true=>
      have hD':=of_decide_eq_true hD
      have hz:=(bW h1)
      refine Nz1 ?_
      have hz:=And.intro hN (And.intro hV (And.intro w4 (And.intro bX (And.intro hm (And.intro (bW h1) hD)))))
      refine Kz1 (j7 (t.inodes[m+1]'hlt) (by omega)) ?_
      rw [hno (by rw [c6 hlt,mJ]; simp; omega)]
     | false=>
      have hD':=of_decide_eq_false hD
      have hz:=(bW h1)
      refine Nz1 ?_
      have hz:=And.intro hN (And.intro hV (And.intro w4 (And.intro bX (And.intro hm (And.intro (bW h1) hD)))))
      refine Kz1 (j7 (t.inodes[m+1]'hlt) (by omega)) ?_
      exact ⟨m+1+1,rfl,⟨by omega,nS hk (by rw [c6 hlt,mJ]; simp [p7,hN]; omega)⟩,by omega⟩
 ·obtain rfl:i=t.inodes.length:=by omega
  have hE:oD t=true:=nO fun k h=>hk k h
  have hr:=afi hE
  have key:ae8 t=xL t:=by
   simp [ae8,hB,hE,lM (show t.inodes.length≤30 by omega)]
  obtain ⟨x,l,hx⟩:∃ x l,t.inodes=x::l:=by
   cases hh:t.inodes with
   | nil=>rw [hh] at hA'; simp at hA'
   | cons x l=>exact ⟨x,l,rfl⟩
  rw [hx] at hr
  replace hr:xL t=(decide (x.ino=1) && decide (x.kind=2)):=hr
  have g0:t.inodes[0]?=some x:=by rw [hx]; rfl
  have c0:decide ((0:Int)<(t.inodes.length:Nat))=true:=lM (by omega)
  have hz:=And.intro g0 Int.toNat_zero
  refine Nz1 ?_
  refine Jg (fun g1=>?_) fun g1=>?_
  ·have hz:=And.intro g1 (And.intro g0 Int.toNat_zero)
   refine Nz ?_
   rw [key,hr,lM g1,lV4]
  ·have hz:=g1
   refine Nz ?_
   rw [key,hr,lC g1,lD2]
theorem akh {α:Type} (f g:α→Nat) (l:List α) (h:∀ x ∈ l,f x≤g x):(l.map f).sum≤(l.map g).sum:=by
 induction l with
 | nil=>simp
 | cons x l ih=>
  have:=ih fun y hy=>h y (by simp [hy])
  have:=h x (by simp)
  simp only [lO,lB2]; omega
def lkF (n:Int) (x:Inode):Nat:=(fF x).count n
theorem ah2 (t:Tab) (n:Int):aY t n=(t.inodes.map (lkF n)).sum:=rfl
theorem anq (n:Int) (x:Inode):lkF n x≤x.sz:=by
 have h1:lkF n x≤(fF x).length:=List.count_le_length
 have h2:(fF x).length≤x.ents.length:=by
  unfold fF; split <;> simp
 have h3:x.ents.length≤x.sz:=by simp only [Inode.sz,szM]; omega
 omega
theorem uA (t:Tab) (n:Int) (i:Nat):((t.inodes.take i).map (lkF n)).sum≤t.sz:=by
 have h1:=mD (lkF n) t.inodes i
 have h2:=akh (lkF n) Inode.sz t.inodes fun x _=>anq n x
 have h3:t.sz=t.inodes.length+(t.inodes.map Inode.sz).sum:=rfl
 omega
theorem amk {n:Int} {x:Inode} (h:x.kind=2):lkF n x=(x.ents.map Ent.ino).count n:=by rw [lkF,fF,lF h]
theorem anr {n:Int} {x:Inode} (h:¬ x.kind=2):lkF n x=0:=by rw [lkF,fF,lK h]; rfl
theorem aki {l:List Ent} {k:Nat} (h:k<l.length) (n:Int):((l.take (k+1)).map Ent.ino).count n=((l.take k).map Ent.ino).count n+if l[k].ino=n then 1 else 0:=by
 rw [List.take_add_one,lH h,lO2,List.count_append]
 simp only [Option.toList_some,lO,lH1]
 rw [List.count_singleton]
 simp
theorem aco (l:List Ent) (k:Nat) (n:Int):((l.take k).map Ent.ino).count n≤l.length:=by
 have h1:((l.take k).map Ent.ino).count n≤((l.take k).map Ent.ino).length:=List.count_le_length
 simp only [lW2,lT] at h1
 omega
theorem afj (t:Tab) (n:Int) (h:t.sz<2^40):bR Tryz.prog 117 [t.x,.int .i64 n] (.int .i64 (aY t n:Nat)) [.undef,.undef]:=by
 obtain ⟨hl,hls⟩:=eS h
 refine Vw abU [] 247 [] fun w hP hQ=>?_
 refine iV [7] ?_
 refine N ?_
 refine bG [7] (fun s:Nat × Nat=>[(5,.int .i64 (s.1:Nat)),(6,.int .i64 (s.2:Nat))]) (fun s=>s.2≤t.inodes.length∧s.1=((t.inodes.take s.2).map (lkF n)).sum) (fun s=>t.inodes.length-s.2) ((0,0)) hP hQ (rfl) (by simp) ?_
 rintro ⟨c,i⟩ ⟨hi,hc⟩ w1 hP1 hQ1
 refine N1 ?_
 simp only at hi hc
 refine Jf (fun h1=>?_) fun h1=>?_
 ·have hlt:i<t.inodes.length:=by omega
  have hs:=xF (lkF n) t.inodes i hlt
  have hb:=uA t n i
  have hx:=hls _ (lQ hlt)
  have hel:(t.inodes[i]'hlt).ents.length<2^40:=(jC hx).2.1
  refine N1 ?_
  by_cases hk2:(t.inodes[i]'hlt).kind=2
  ·have hf:=amk (n:=n) hk2
   refine iV [] ?_
   refine N1 ?_
   refine bG [] (fun s:Nat × Nat=>[(5,.int .i64 (s.1:Nat)),(7,.int .i64 (s.2:Nat))]) (fun s=>s.2≤(t.inodes[i]'hlt).ents.length∧s.1=c+(((t.inodes[i]'hlt).ents.take s.2).map Ent.ino).count n) (fun s=>(t.inodes[i]'hlt).ents.length-s.2) ((c,0)) hP1 hQ1 (rfl) (by simp) ?_
   rintro ⟨d,k⟩ ⟨hk,hd⟩ w2 hP2 hQ2
   refine N2 ?_
   simp only at hk hd
   have hcl:=aco (t.inodes[i]'hlt).ents k n
   have hz:=(bW h1)
   refine Nz2 ?_
   refine Jg (fun g1=>?_) fun g1=>?_
   ·have hct:=aki (l:=(t.inodes[i]'hlt).ents) (k:=k) (by omega) n
    have hz:=And.intro g1 (And.intro (bW h1) hk2)
    refine Nz2 ?_
    have hz:=And.intro (bW h1) (bW g1)
    refine Nz2 ?_
    refine Jf (fun g2=>?_) fun g2=>?_
    ·rw [lF g2] at hct
     refine N2 ?_
     exact ⟨(d+1,k+1),rfl,⟨by simp only; omega,by simp only; omega⟩,by simp only; omega⟩
    ·rw [lK g2] at hct
     refine N2 ?_
     exact ⟨(d,k+1),rfl,⟨by simp only; omega,by simp only; omega⟩,by simp only; omega⟩
   ·obtain rfl:k=(t.inodes[i]'hlt).ents.length:=by omega
    rw [lE2] at hd
    have hz:=g1
    refine Nz2 ?_
    exact ⟨(d,i+1),rfl,⟨by simp only; omega,by simp only; omega⟩,by simp only; omega⟩
  ·have hf:=anr (n:=n) hk2
   refine iV [] ?_
   refine N1 ?_
   refine bG [] (fun s:Nat × Nat=>[(5,.int .i64 (s.1:Nat)),(7,.int .i64 (s.2:Nat))]) (fun s=>s=(c,0)) (fun s=>0) ((c,0)) hP1 hQ1 (rfl) (rfl) ?_
   rintro ⟨d,k⟩ hk w2 hP2 hQ2
   refine N2 ?_
   obtain ⟨rfl,rfl⟩:=Prod.mk.inj hk
   have hz:=(bW h1)
   refine Nz2 ?_
   refine Jg (fun g1=>?_) fun g1=>?_
   ·have hz:=And.intro g1 (And.intro (bW h1) hk2)
    refine Nz2 ?_
    exact ⟨(d,i+1),rfl,⟨by simp only; omega,by simp only; omega⟩,by simp only; omega⟩
   ·have hz:=g1
    refine Nz2 ?_
    exact ⟨(d,i+1),rfl,⟨by simp only; omega,by simp only; omega⟩,by simp only; omega⟩
 ·obtain rfl:i=t.inodes.length:=by omega
  rw [lE2,← ah2] at hc
  subst hc
  exact N1 trivial
def atF (a:Attr):Nat:=a.name.length+a.val.length
def usF (x:Inode):Nat:=32+x.data.length+(x.attrs.map atF).sum
theorem ah3 (t:Tab):dO t=(t.inodes.map usF).sum:=rfl
theorem akV (x:Inode):(x.attrs.map atF).sum+x.data.length≤x.sz:=by
 have h2:x.sz=x.data.length+szM Ent.sz x.ents+szM Attr.sz x.attrs:=rfl
 have h3:szM Attr.sz x.attrs=x.attrs.length+(x.attrs.map Attr.sz).sum:=rfl
 have h4:(x.attrs.map atF).sum=(x.attrs.map Attr.sz).sum:=rfl
 omega
theorem acp (t:Tab) (i:Nat):((t.inodes.take i).map usF).sum≤33*t.sz:=by
 have h1:=mD usF t.inodes i
 have h3:t.sz=t.inodes.length+(t.inodes.map Inode.sz).sum:=rfl
 have h4:(t.inodes.map usF).sum≤32*t.inodes.length+(t.inodes.map Inode.sz).sum:=by
  generalize t.inodes=l
  induction l with
  | nil=>simp
  | cons x l ih=>
   have:=akV x
   simp only [lO,lB2,lN1]
   have e:usF x=32+x.data.length+(x.attrs.map atF).sum:=rfl
   omega
 omega
theorem oE (t:Tab) (h:t.sz<2^40):bR Tryz.prog 66 [t.x] (.int .i64 (dO t:Nat)) [.undef]:=by
 obtain ⟨hl,hls⟩:=eS h
 refine Vw abS [] 127 [] fun w hP hQ=>?_
 refine iV [5,6,5005] ?_
 refine N ?_
 refine bG [5,6,5005] (fun s:Nat × Nat=>[(3,.int .i64 (s.1:Nat)),(4,.int .i64 (s.2:Nat))]) (fun s=>s.2≤t.inodes.length∧s.1=((t.inodes.take s.2).map usF).sum) (fun s=>t.inodes.length-s.2) ((0,0)) hP hQ (rfl) (by simp) ?_
 rintro ⟨c,i⟩ ⟨hi,hc⟩ w1 hP1 hQ1
 refine N1 ?_
 simp only at hi hc
 refine Jf (fun h1=>?_) fun h1=>?_
 ·have hlt:i<t.inodes.length:=by omega
  have hs:=xF usF t.inodes i hlt
  have hb:=acp t i
  have hx:=hls _ (lQ hlt)
  have hae:=akV (t.inodes[i]'hlt)
  have hue:usF (t.inodes[i]'hlt)=32+(t.inodes[i]'hlt).data.length+((t.inodes[i]'hlt).attrs.map atF).sum:=rfl
  have hz:=(bW h1)
  refine Nz1 ?_
  generalize t.inodes[i]'hlt=x at *
  have hel:x.attrs.length<2^40:=(jC hx).2.2
  refine iV [] ?_
  refine N1 ?_
  refine bG [] (fun s:Nat × Nat=>[(3,.int .i64 (s.1:Nat)),(6,.int .i64 (s.2:Nat))]) (fun s=>s.2≤x.attrs.length∧s.1=c+32+x.data.length+((x.attrs.take s.2).map atF).sum) (fun s=>x.attrs.length-s.2) ((c+32+x.data.length,0)) hP1 hQ1 (by simp only [Int.natCast_add]; rfl) (by simp) ?_
  rintro ⟨d,k⟩ ⟨hk,hd⟩ w2 hP2 hQ2
  refine N2 ?_
  simp only at hk hd
  have hal:=mD atF x.attrs k
  refine Jf (fun g1=>?_) fun g1=>?_
  ·have hct:=xF atF x.attrs k (by omega)
   have hal':=mD atF x.attrs (k+1)
   have hae':atF (x.attrs[k]'(by omega))=(x.attrs[k]'(by omega)).name.length+(x.attrs[k]'(by omega)).val.length:=rfl
   have hz:=(bW g1)
   refine Nz2 ?_
   exact ⟨(d+(x.attrs[k]'(by omega)).name.length+(x.attrs[k]'(by omega)).val.length,k+1),by simp,⟨by simp only; omega,by simp only; omega⟩,by simp only; omega⟩
  ·obtain rfl:k=x.attrs.length:=by omega
   rw [lE2] at hd
   refine N2 ?_
   exact ⟨(d,i+1),rfl,⟨by simp only; omega,by simp only; omega⟩,by simp only; omega⟩
 ·obtain rfl:i=t.inodes.length:=by omega
  rw [lE2,← ah3] at hc
  subst hc
  exact N1 trivial
def gQ (n:Int):List TV:=[.int .i64 n]
theorem aml (l:List Int):eJ (l.map gQ)=true:=t8 gQ (fun _=>rfl) l
theorem ans {l:List Int} {n:Int} (hk:∀ k,(h:k<l.length)→decide (l[k]=n)=false):n ∉ l:=by
 intro h
 obtain ⟨k,hk',e⟩:=lU1 h
 have:=hk k hk'
 simp [e] at this
theorem adz (l:List Int) (n:Int) (hl:l.length<2^48):bR Tryz.prog 183 [.ext 1 (l.map gQ),.int .i64 n] (.bool (decide (n ∈ l))) [.undef,.undef]:=by
 refine Vw ahu [] 51 [] fun w hP hQ=>?_
 refine iV [4] ?_
 refine N ?_
 refine bG [4] (fun i:Nat=>[(5,.int .i64 i)]) (fun i=>i≤l.length∧∀ k,k<i→(h:k<l.length)→decide (l[k]=n)=false) (fun i=>l.length-i) (0) hP hQ (rfl) (by simp) ?_
 rintro i ⟨hi,hk⟩ w1 hP1 hQ1
 refine N1 ?_
 refine Jf (fun h1=>?_) fun h1=>?_
 ·simp +decide (maxSteps:=9^9) (disch:=omega) only[↓SB0,SX,seval,hQ,hQ1,bW h1,gQ]
  refine Jf (fun h2=>?_) fun h2=>?_
  ·refine N1 ?_
   rw [lM (by rw [← h2]; exact lQ _)]
  ·refine N1 ?_
   exact ⟨i+1,rfl,⟨by omega,t7 (p:=fun x:Int=>decide (x=n)) hk (by omega) (lC h2)⟩,by omega⟩
 ·obtain rfl:i=l.length:=by omega
  refine N1 ?_
  rw [lC (ans fun k h=>hk k h h)]
theorem ah4 {l:List Int} (hu:Up l) {n:Int} {k:Nat} (hk:k≤l.length) (hn:n ∉ l) (h1:∀ j,k≤j→(h:j<l.length)→n<l[j]) (h2:k=0∨∃ h:k-1<l.length,l[k-1]≤n) :
  ahz l n=l.take k++n::l.drop k:=by
 have hlow:∀ j,j<k→(h:j<l.length)→l[j]<n:=by
  intro j hj hjl
  rcases h2 with h2 | ⟨h2,h3⟩
  ·omega
  ·have hne:l[j]≠n:=fun e=>hn (by rw [← e]; exact lQ _)
   by_cases e:j=k-1
   ·subst e; omega
   ·have:=lQ2.1 hu j (k-1) hjl h2 (by omega)
    omega
 have e1:l.takeWhile (·<n)=l.take k:=by
  have:l=l.take k++l.drop k:=(lJ k l).symm
  rw [this,List.takeWhile_append_of_pos,lJ]
  ·have:(l.drop k).takeWhile (fun x=>decide (x<n))=[]:=by
    cases hd:l.drop k with
    | nil=>rfl
    | cons x r=>
     rw [List.takeWhile_cons_of_neg]
     have hkl:k<l.length:=by
      have:=congrArg List.length hd
      simp at this; omega
     have hx:x=l[k]:=by
      have:=congrArg (fun r=>r[0]?) hd
      simp [hkl] at this
      exact this.symm
     have:=h1 k (lS1 _) hkl
     simp; omega
   rw [this]; simp
  ·intro x hx
   obtain ⟨j,hj,rfl⟩:=lU1 hx
   simp only [lT] at hj
   rw [List.getElem_take]
   have:=hlow j (by omega) (by omega)
   simpa using this
 have e2:l.dropWhile (·<n)=l.drop k:=by
  have h:=List.takeWhile_append_dropWhile (p:=fun x=>decide (x<n)) (l:=l)
  rw [e1] at h
  exact List.append_cancel_left (h.trans (lJ k l).symm)
 rw [ahz,lK hn,e1,e2]
theorem adA {l:List Int} {k:Nat} {h:Int} (hk:k<l.length):((l.take (k+1)++h::l.drop (k+1)))[k]?=some l[k]:=by
 rw [lJ3 (by simp; omega),lJ1,lF (by omega),lH hk]
theorem akj {l:List Int} {k:Nat} {h:Int} (hk:k≤l.length):(l.take k++h::l.drop k).length=l.length+1:=by simp; omega
theorem adB {l:List Int} {k:Nat} (h x:Int) (hk:k≤l.length):(l.take k++h::l.drop k).set k x=l.take k++x::l.drop k:=by
 have:(l.take k).length=k:=by simp; omega
 rw [List.set_append_right _ _ (by omega)]
 congr 1
 rw [this,Nat.sub_self]; rfl
theorem ah5 {l:List Int} {k:Nat} (hk:k<l.length):l.take (k+1)++l[k]::l.drop (k+1)=l.take k++l[k]::l.drop k:=by
 rw [lS hk,lP2]
 congr 1
 rw [← lG2 hk]; rfl
theorem ah6 (L:List Int) (k:Nat) (n:Int):(L.map gQ).modify k (fun r=>TV.int .i64 n::r.drop 1)=(L.set k n).map gQ:=by
 apply lI2
 intro j
 rw [lO1,lL1,lL1,lR3]
 by_cases e:k=j
 ·subst e
  by_cases hk:k<L.length
  ·simp [hk,gQ]
  ·simp [hk]
 ·simp [e]
theorem amm (l:List Int) (n:Int):l.map gQ++[[TV.int .i64 n]]=(l.take l.length++n::l.drop l.length).map gQ:=by simp [gQ]
theorem akk (l:List Int) (n:Int) (hu:Up l) (hl:l.length<2^40):bR Tryz.prog 158 [.ext 1 (l.map gQ),.int .i64 n] (.ext 1 ((ahz l n).map gQ)) [.undef,.undef]:=by
 by_cases hn:n ∈ l
 ·have hH:=adz l n (by omega)
  rw [lM hn] at hH
  rw [ahz,lF hn]
  refine Vw zV [] 115 [] fun w hP hQ=>?_
  exact K (hH) trivial
 ·refine zA (ret:=.own 1 ((ahz l n).map gQ)) ?_
  have hH:=adz l n (by omega)
  rw [lC hn] at hH
  refine Vw zV [] 115 [] fun w hP hQ=>?_
  refine K (hH) ?_
  simp +decide (maxSteps:=9^9) (disch:=omega) only[↓SB0,SX,seval,hQ,aml,lY,bX]
  rw [amm]
  refine iV [] ?_
  refine N ?_
  refine bG [] (fun s:Nat × Int=>[(5,.own 1 ((l.take s.1++s.2::l.drop s.1).map gQ)),(6,.int .i64 (s.1:Nat))]) (fun s=>s.1≤l.length∧∀ j,s.1≤j→(h:j<l.length)→n<l[j]) (fun s=>s.1) ((l.length,n)) hP hQ (rfl) (by simp; omega) ?_
  rintro ⟨k,x⟩ ⟨hk,hj⟩ w1 hP1 hQ1
  refine N1 ?_
  simp only at hk hj
  have hlen:=akj (h:=x) hk
  cases k with
  | zero=>
   refine N1 ?_
   rw [ah4 hu hk hn hj (.inl rfl)]
   simp [gQ]
  | succ k=>
   have hkl:k<l.length:=by omega
   have w4:decide ((0:Int)<((k+1:Nat):Int))=true:=lM (by omega)
   simp +decide (maxSteps:=9^9) (disch:=omega) only[↓SB0,SX,seval,hQ,hQ1,w4,hlen,bX,adA (h:=x) hkl,gQ]
   refine Jf (fun g=>?_) fun g=>?_
   ·simp +decide (maxSteps:=9^9) (disch:=omega) only[↓SB0,SX,seval,hQ,hQ1,hlen,bX,adA (h:=x) hkl,gQ]
    exact ⟨(k,l[k]),by simp only [ah6,adB _ _ hk,ah5 hkl],⟨by simp only; omega,fun j hj1 hj2=>by
     by_cases e:j=k
     ·subst e; exact g
     ·exact hj j (by simp only at hj1; omega) hj2⟩,by simp only; omega⟩
   ·simp +decide (maxSteps:=9^9) (disch:=omega) only[↓SB0,SX,seval,hQ,hQ1,hlen,gQ]
    rw [ah4 hu hk hn hj (.inr ⟨by simpa using hkl,by simp only [Nat.add_sub_cancel]; omega⟩),ah6,adB _ _ hk]
theorem vY {α β:Type} (f:β→α→β) (l:List α) (a:β) (i:Nat) (h:i<l.length):(l.take (i+1)).foldl f a=f ((l.take i).foldl f a) l[i]:=by
 rw [lS h,List.foldl_append]; rfl
theorem xN {t:Tab} {j:Int}:(nbT t j).isSome=(cM t j).isSome:=by
 rw [nbT]
 cases e:cM t j with
 | none=>rw [aay e]; rfl
 | some k=>rw [sD e]; rfl
theorem akl {t:Tab} {j:Int} {k:Nat} (out:List Int) (h:cM t j=some k):adj (nbT t) out j=ahz out j:=by
 rw [adj,xN,h]; rfl
theorem amn {t:Tab} {j:Int} (out:List Int) (h:cM t j=none):adj (nbT t) out j=out:=by
 rw [adj,xN,h]; rfl
structure Nums (t:Tab) (l:List Int):Prop where
 up:Up l
 some':∀ x ∈ l,(nbT t x).isSome=true
theorem Nums.len {t:Tab} {l:List Int} (h:Nums t l):l.length≤t.inodes.length:=rZ t l (pR h.up) h.some'
theorem Nums.addJs {t:Tab} {l:List Int} (h:Nums t l) (js:List Int):Nums t (js.foldl (adj (nbT t)) l):=
 ⟨adl (nbT t) js l h.up,fun x hx=>by
  rcases (z8 (nbT t) js l x).1 hx with h' | h'
  ·exact h.some' x h'
  ·exact h'.2⟩
theorem Nums.addIs {t:Tab} {l:List Int} (h:Nums t l) (is:List Int):Nums t (is.foldl (adk (nbT t)) l):=
 ⟨adm (nbT t) is l h.up,fun x hx=>by
  rcases (aaa (nbT t) is l x).1 hx with h' | h'
  ·exact h.some' x h'
  ·exact h'.2⟩
theorem ah7 {t:Tab} {i:Int} (out:List Int) (h:aC t i=none):adk (nbT t) out i=out:=by rw [adk,nbT,h]; rfl
theorem ah8 {t:Tab} {i:Int} {x:Inode} (out:List Int) (h:aC t i=some x) (hk:¬ x.kind=2):adk (nbT t) out i=out:=by rw [adk,nbT,h]; simp [fF,hk]
theorem akm {t:Tab} {i:Int} {x:Inode} (out:List Int) (h:aC t i=some x) (hk:x.kind=2):adk (nbT t) out i=(x.ents.map Ent.ino).foldl (adj (nbT t)) out:=by rw [adk,nbT,h]; simp [fF,hk]
theorem afk (f:List Int→Int→List Int) (l:List Ent) (a:List Int) (k:Nat) (h:k<l.length):((l.take (k+1)).map Ent.ino).foldl f a=f (((l.take k).map Ent.ino).foldl f a) l[k].ino:=by
 have:=vY f (l.map Ent.ino) a k (by simpa using h)
 rw [← lD4,← lD4] at this
 rw [this]; simp
theorem aaz (t:Tab) (l:List Int) (h:t.sz<2^40) (hn:Nums t l):bR Tryz.prog 134 [t.x,.ext 1 (l.map gQ)] (.ext 1 ((ahA (nbT t) l).map gQ)) [.undef,.undef]:=by
 obtain ⟨hl,hls⟩:=eS h
 have hll:=hn.len
 refine Vw aeT [] 1015 [] fun w hP hQ=>?_
 refine iV [7,8,9,5007] ?_
 refine N ?_
 refine bG [7,8,9,5007] (fun i:Nat=>[(5,.ext 1 (((l.take i).foldl (adk (nbT t)) l).map gQ)),(6,.int .i64 i)]) (fun i=>i≤l.length) (fun i=>l.length-i) (0) hP hQ (rfl) (by simp) ?_
 rintro i hi w1 hP1 hQ1
 refine N1 ?_
 refine Jf (fun h1=>?_) fun h1=>?_
 ·have hlt:i<l.length:=by omega
  have hI:=rB t (l[i]'hlt) h
  have hfo:=vY (adk (nbT t)) l l i hlt
  have hno:=hn.addIs (l.take i)
  generalize hO:(l.take i).foldl (adk (nbT t)) l=out at *
  cases e:aC t (l[i]'hlt) with
  | none=>
   rw [amj,e] at hI
   rw [ah7 _ e] at hfo
   simp +decide (maxSteps:=9^9) (disch:=omega) only[↓SB0,SX,seval,hQ,hQ1,bW h1,gQ]
   refine K1 (hI) ?_
   refine iV [] ?_
   refine N1 ?_
   refine bG [] (fun k:Nat=>[(5,.ext 1 (out.map gQ)),(9,.int .i64 k)]) (fun k=>k=0) (fun k=>0) (0) hP1 hQ1 (rfl) (rfl) ?_
   rintro k hk w2 hP2 hQ2
   refine N2 ?_
   subst hk
   refine N2 ?_
   exact ⟨i+1,by simp only [hfo]; rfl,by omega,by omega⟩
  | some x=>
   have hx:=hls x (aL e).1
   have hel:x.ents.length<2^40:=(jC hx).2.1
   rw [amj,e] at hI
   simp only [lF1,lT2] at hI
   by_cases hk2:x.kind=2
   ·rw [akm _ e hk2] at hfo
    simp +decide (maxSteps:=9^9) (disch:=omega) only[↓SB0,SX,seval,hQ,hQ1,bW h1,gQ]
    refine K1 (hI) ?_
    refine iV [] ?_
    refine N1 ?_
    refine bG [] (fun k:Nat=>[(5,.ext 1 ((((x.ents.take k).map Ent.ino).foldl (adj (nbT t)) out).map gQ)),(9,.int .i64 k)]) (fun k=>k≤x.ents.length) (fun k=>x.ents.length-k) (0) hP1 hQ1 (rfl) (by simp) ?_
    rintro k hk w2 hP2 hQ2
    refine N2 ?_
    have hno2:=hno.addJs ((x.ents.take k).map Ent.ino)
    have hl2:=hno2.len
    refine Jg (fun g1=>?_) fun g1=>?_
    ·have hkl:k<x.ents.length:=by omega
     have hf2:=afk (adj (nbT t)) x.ents out k hkl
     generalize ((x.ents.take k).map Ent.ino).foldl (adj (nbT t)) out=o2 at *
     have hA:=o7 t (x.ents[k]'hkl).ino (by omega)
     have hz:=And.intro g1 hk2
     refine Nz2 ?_
     cases e2:cM t (x.ents[k]'hkl).ino with
     | none=>
      rw [e2] at hA
      rw [amn _ e2] at hf2
      have hz:=(bW g1)
      refine Nz2 ?_
      refine K2 (hA) ?_
      exact ⟨k+1,by simp only [hf2,hk2]; rfl,by omega,by omega⟩
     | some m=>
      rw [e2,show uL (some m)=(m:Int) from rfl] at hA
      rw [akl _ e2] at hf2
      have hz:=(bW g1)
      refine Nz2 ?_
      refine K2 (hA) ?_
      refine Jf (fun g3=>?_) fun g3=>?_
      ·have hz:=(bW g1)
       refine Nz2 ?_
       refine Ke2 (akk o2 (x.ents[k]'hkl).ino hno2.up (by omega)) ?_
       exact ⟨k+1,by simp only [hf2,hk2]; rfl,by omega,by omega⟩
      ·exfalso; omega
    ·obtain rfl:k=x.ents.length:=by omega
     rw [lE2] at *
     have hz:=g1
     refine Nz2 ?_
     exact ⟨i+1,by simp only [hfo]; rfl,by omega,by omega⟩
   ·rw [ah8 _ e hk2] at hfo
    simp +decide (maxSteps:=9^9) (disch:=omega) only[↓SB0,SX,seval,hQ,hQ1,bW h1,gQ]
    refine K1 (hI) ?_
    refine iV [] ?_
    refine N1 ?_
    refine bG [] (fun k:Nat=>[(5,.ext 1 (out.map gQ)),(9,.int .i64 k)]) (fun k=>k=0) (fun k=>0) (0) hP1 hQ1 (rfl) (rfl) ?_
    rintro k hk w2 hP2 hQ2
    refine N2 ?_
    subst hk
    refine N2 ?_
    refine Jg (fun g1=>?_) fun g1=>?_
    ·have hz:=And.intro g1 hk2
     refine Nz2 ?_
     exact ⟨i+1,by simp only [hfo]; rfl,by omega,by omega⟩
    ·have hz:=g1
     refine Nz2 ?_
     exact ⟨i+1,by simp only [hfo]; rfl,by omega,by omega⟩
 ·obtain rfl:i=l.length:=by omega
  simp +decide (maxSteps:=9^9) (disch:=omega) only[↓SB0,SX,seval,hQ,hQ1,lE2]
  rfl
def rdV (t:Tab):Nat→AV
 | 0=>.own 1 [gQ 1]
 | i+1=>.ext 1 ((cG (nbT t) (i+1)).map gQ)
theorem afl (t:Tab) (h:t.sz<2^40):bR Tryz.prog 116 [t.x] (.ext 1 ((f8 t).map gQ)) [.undef]:=by
 obtain ⟨hl,hls⟩:=eS h
 have hA:=o7 t 1 (by omega)
 cases e:cM t 1 with
 | none=>
  have hr:f8 t=[]:=by rw [f8,rJ,lK]; rw [xN,e]; simp
  rw [e] at hA
  rw [hr]
  refine zA (ret:=.own 1 []) ?_
  refine Vw tF [] 31 [] fun w hP hQ=>?_
  exact K (hA) trivial
 | some m=>
  have hm:=vX e
  have h1s:(nbT t 1).isSome=true:=by rw [xN,e]; rfl
  have hr:f8 t=cG (nbT t) t.inodes.length:=by rw [f8,rJ,lF h1s]
  rw [e,show uL (some m)=(m:Int) from rfl] at hA
  rw [hr]
  have hnum:∀ i,Nums t (cG (nbT t) i):=fun i=>⟨iG _ i,fun x hx=>n9 _ (nG _ h1s i x hx)⟩
  refine Vw tF [(134,[.b,.m],[])] 31 [] fun w hP hQ=>?_
  refine K (hA) ?_
  refine Jf (fun g0=>?_) fun g0=>?_
  ·exfalso; omega
  refine N ?_
  refine iV [] ?_
  refine N ?_
  refine bG [] (fun i:Nat=>[(3,rdV t i),(4,.int .i64 i)]) (fun i=>i≤t.inodes.length) (fun i=>t.inodes.length-i) (0) hP hQ (rfl) (by simp) ?_
  rintro i hi w1 hP1 hQ1
  refine N1 ?_
  cases i with
  | zero=>
   have hN:=aei (aaz t [1] h (hnum 0))
   simp only [rdV]
   refine Jf (fun h1=>?_) fun h1=>?_
   ·refine N1 ?_
    refine Ke1 (hN) ?_
    exact ⟨1,rfl,by omega,by omega⟩
   ·exfalso; omega
  | succ i=>
   have hN:=aaz t (cG (nbT t) (i+1)) h (hnum (i+1))
   simp only [rdV]
   refine Jf (fun h1=>?_) fun h1=>?_
   ·refine N1 ?_
    refine Ke1 (hN) ?_
    exact ⟨i+1+1,rfl,by omega,by omega⟩
   ·have he:i+1=t.inodes.length:=by omega
    refine N1 ?_
    rw [he]
theorem adC {t:Tab} {x:Inode} (hx:x ∈ t.inodes) (h:q0 t x=false):bF t=false:=by
 have:t.inodes.all (q0 t)=false:=by
  rw [lP4]
  exact ⟨x,hx,by simp [h]⟩
 simp [bF,this]
theorem ah9 {t:Tab} {x:Inode} {e:Ent} (he:e ∈ x.ents) (h:cM t e.ino=none):q0 t x=false:=by
 have:vP t x=false:=by
  rw [vP,lP4]
  exact ⟨e,he,by rw [aay h]; simp⟩
 simp [q0,this]
theorem aia {t:Tab} {x:Inode} (h:∀ k,(hk:k<x.ents.length)→(cM t (x.ents[k]).ino).isSome=true):vP t x=true:=by
 rw [vP,lV]
 intro e he
 obtain ⟨k,hk,rfl⟩:=lU1 he
 obtain ⟨m,hm⟩:=lA1.1 (h k hk)
 rw [sD hm]; rfl
theorem adD {α:Type} {l:List α} {p:α→Prop} {i:Nat} (hk:∀ k,k<i→(h:k<l.length)→p l[k]) (hi:(h:i<l.length)→p l[i]):∀ k,k<i+1→(h:k<l.length)→p l[k]:=by
 intro k hlt hl
 by_cases e:k=i
 ·subst e; exact hi hl
 ·exact hk k (by omega) hl
theorem akn {α:Type} {l:List α} {p:α→Bool} (h:∀ k,(hk:k<l.length)→p l[k]=true):l.all p=true:=by
 rw [lV]
 intro x hx
 obtain ⟨k,hk,rfl⟩:=lU1 hx
 exact h k hk
theorem dF (t:Tab) (h:t.sz<2^40):bR Tryz.prog 87 [t.x] (.bool (bF t)) [.undef]:=by
 obtain ⟨hl,hls⟩:=eS h
 have hLk:=uA t
 refine Vw aeM [] 63 [] fun w hP hQ=>?_
 rcases iT (ae8 t) with hT | hT
 ·have hz:=hT
  refine Kz (ady t h) ?_
  simp [bF,hT]
 have hz:=hT
 refine Kz (ady t h) ?_
 refine Ke (afl t h) ?_
 refine Jf (fun hR=>?_) fun hR=>?_
 rotate_left
 ·refine N ?_
  have:decide ((f8 t).length=t.inodes.length)=false:=lC (by omega)
  simp [bF,this]
 refine N ?_
 refine iV [2,4,5,5004] ?_
 refine N ?_
 refine bG [2,4,5,5004] (fun i:Nat=>[(3,.int .i64 i)]) (fun i=>i≤t.inodes.length∧∀ k,k<i→(h:k<t.inodes.length)→q0 t t.inodes[k]=true) (fun i=>t.inodes.length-i) (0) hP hQ (rfl) (by simp) ?_
 rintro i ⟨hi,hk⟩ w1 hP1 hQ1
 refine N1 ?_
 refine Jf (fun h1=>?_) fun h1=>?_
 ·have hlt:i<t.inodes.length:=by omega
  have hx:=hls _ (lQ hlt)
  have hm:=lQ hlt
  have hnx:q0 t (t.inodes[i]'hlt)=true→∀ k,k<i+1→(h:k<t.inodes.length)→q0 t t.inodes[k]=true:=fun hp=>adD (p:=fun x=>q0 t x=true) hk (fun _=>hp)
  have hz:=(bW h1)
  refine Nz1 ?_
  generalize t.inodes[i]'hlt=x at *
  have hel:x.ents.length<2^40:=(jC hx).2.1
  refine K1 (afj t x.ino h) ?_
  refine Jf (fun h2=>?_) fun h2=>?_
  rotate_left
  ·refine N1 ?_
   rw [adC hm (by rw [q0,lC (by omega)]; rfl)]
  refine N1 ?_
  refine iV [2] ?_
  refine N1 ?_
  refine bG [2] (fun k:Nat=>[(5,.int .i64 k)]) (fun k=>k≤x.ents.length∧∀ j,j<k→(h:j<x.ents.length)→(cM t (x.ents[j]).ino).isSome=true) (fun k=>x.ents.length-k) (0) hP1 hQ1 (rfl) (by simp) ?_
  rintro k ⟨hk1,hk2⟩ w2 hP2 hQ2
  refine N2 ?_
  refine Jf (fun h3=>?_) fun h3=>?_
  ·have hkl:k<x.ents.length:=by omega
   have hA:=o7 t (x.ents[k]'hkl).ino (by omega)
   cases e:cM t (x.ents[k]'hkl).ino with
   | none=>
    rw [e] at hA
    have hz:=(bW h3)
    refine Nz2 ?_
    refine K2 (hA) ?_
    rw [adC hm (ah9 (lQ hkl) e)]
   | some m=>
    rw [e,show uL (some m)=(m:Int) from rfl] at hA
    have hz:=(bW h3)
    refine Nz2 ?_
    refine K2 (hA) ?_
    refine Jf (fun h4=>?_) fun h4=>?_
    ·exfalso; omega
    ·refine N2 ?_
     exact ⟨k+1,rfl,⟨by omega,adD (p:=fun y:Ent=>(cM t y.ino).isSome=true) hk2 (fun _=>by rw [e]; rfl)⟩,by omega⟩
  ·obtain rfl:k=x.ents.length:=by omega
   have hp:q0 t x=true:=by
    rw [q0,aia fun k hk=>hk2 k hk hk,lM (by omega)]; rfl
   refine N2 ?_
   exact ⟨i+1,rfl,⟨by omega,hnx hp⟩,by omega⟩
 ·obtain rfl:i=t.inodes.length:=by omega
  have:decide ((f8 t).length=t.inodes.length)=true:=lM (by omega)
  refine N1 ?_
  rw [bF,hT,this,akn fun k hk'=>hk k hk' hk']; rfl
theorem aib {x:Vol} {n:Nat} (h:x.sz<n):x.name.length<n∧x.t.sz<n:=by
 simp only [Vol.sz] at h; omega
theorem amo {l:List Vol} {n:Nat} (h:szM Vol.sz l<n):l.length<n∧∀ x ∈ l,x.sz<n:=by
 refine ⟨by simp only [szM] at h; omega,fun x hx=>?_⟩
 have:=qV (f:=Vol.sz) hx
 simp only [szM] at h; omega
theorem aic {f:Fs} {i:Nat} (h:i<f.vols.length) (e:eG (qH f) tV f.vols i=false):fsB f=false:=by simp [fsB,r7 h e]
theorem uB (f:Fs) (h:f.sz<2^40):bR Tryz.prog 40 [f.x] (.bool (fsB f)) [.undef]:=by
 obtain ⟨hl,hls⟩:=amo (show szM Vol.sz f.vols<2^40 from h)
 refine Vw ajX [] 31 [] fun w hP hQ=>?_
 refine Jg (fun hA=>?_) fun hA=>?_
 ·have hz:=hA
  refine Nz ?_
  simp only [fsB,lC (show ¬ f.vols.length≤6 by omega),lD2]
 have hz:=hA
 refine Nz ?_
 rcases iT (inR f.next 1 99) with hB | hB
 ·have hz:=hB
  refine Kz (cF f.next 1 99) ?_
  simp only [fsB,hB,lD2,lR2]
 have hz:=hB
 refine Kz (cF f.next 1 99) ?_
 refine iV [2,4,5004] ?_
 refine N ?_
 refine bG [2,4,5004] (fun i:Nat=>[(3,.int .i64 i)]) (fun i=>i≤f.vols.length∧∀ k,k<i→eG (qH f) tV f.vols k=true) (fun i=>f.vols.length-i) (0) hP hQ (rfl) (by simp) ?_
 rintro i ⟨hi,hk⟩ w1 hP1 hQ1
 refine N1 ?_
 refine Jf (fun h1=>?_) fun h1=>?_
 ·have hlt:i<f.vols.length:=by omega
  have hx:=hls _ (lQ hlt)
  cases i with
  | zero=>
   have hbad:qH f 0 (f.vols[0]'hlt)=false→fsB f=false:=fun e=>aic hlt (jB hlt e)
   have hnext:qH f 0 (f.vols[0]'hlt)=true→∀ k,k<0+1→eG (qH f) tV f.vols k=true:=fun e=>nS hk (by rw [iP hlt,e])
   have hz:=(bW h1)
   refine Nz1 ?_
   generalize f.vols[0]'hlt=v at *
   obtain ⟨hv1,hv2⟩:=aib hx
   refine Jh (fun g0=>?_) fun g0=>?_
   ·have hz:=g0
    refine Nz1 ?_
    rw [hbad (by simp only [qH,lC (show ¬ 1≤v.id by omega),lD2])]
   have hz:=g0
   refine Nz1 ?_
   refine Jh (fun g1=>?_) fun g1=>?_
   ·have hz:=g1
    refine Nz1 ?_
    rw [hbad (by simp only [qH,lC (show ¬ v.id<f.next by omega),lD2,lR2])]
   have hz:=g1
   refine Nz1 ?_
   rcases iT (aW v.name) with hN | hN
   ·have hz:=hN
    refine Kz1 (bQ v.name (by omega)) ?_
    rw [hbad (by simp only [qH,hN,lD2,lR2])]
   have hz:=hN
   refine Kz1 (bQ v.name (by omega)) ?_
   refine K1 (o6 f v.name (by omega)) ?_
   refine Jh (fun g3=>?_) fun g3=>?_
   ·have g3':¬ uL (eP f v.name)=(((0:Nat):Int):Int):=by simpa using g3
    have hz:=g3
    refine Nz1 ?_
    rw [hbad (by simp only [qH,lC g3',lD2,lR2])]
   have hz:=g3
   refine Nz1 ?_
   have g3':uL (eP f v.name)=(((0:Nat):Int):Int):=by simpa using g3
   rcases iT (inR v.limit 32 4000) with hL | hL
   ·have hz:=hL
    refine Kz1 (cF v.limit 32 4000) ?_
    rw [hbad (by simp only [qH,hL,lD2,lR2])]
   have hz:=hL
   refine Kz1 (cF v.limit 32 4000) ?_
   rcases iT (bF v.t) with hT | hT
   ·have hz:=hT
    refine Kz1 (dF v.t (by omega)) ?_
    rw [hbad (by simp only [qH,hT,lD2,lR2])]
   have hz:=hT
   refine Kz1 (dF v.t (by omega)) ?_
   refine K1 (oE v.t (by omega)) ?_
   refine Jf (fun g4=>?_) fun g4=>?_
   ·refine N1 ?_
    rw [hbad (by simp only [qH,lC (show ¬ ((dO v.t:Nat):Int)≤v.limit by omega),lD2,lR2])]
   ·refine N1 ?_
    have hp:qH f 0 v=true:=by
     simp only [qH,hN,hL,hT,lM (show 1≤v.id by omega),lM (show v.id<f.next by omega),lM (show ((dO v.t:Nat):Int)≤v.limit by omega),lM g3',Bool.and_true]
    exact ⟨0+1,rfl,⟨by omega,hnext hp⟩,by omega⟩
  | succ m=>
   have hml:m<f.vols.length:=by omega
   have w4:decide ((0:Int)<((m+1:Nat):Int))=true:=lM (by omega)
   have hm:=bW (show ((m:Nat):Int)<(f.vols.length:Nat) by omega)
   have hbad:qH f (m+1) (f.vols[m+1]'hlt)=false→fsB f=false:=fun e=>aic hlt (jB hlt e)
   have hprev:tV (f.vols[m]'hml) (f.vols[m+1]'hlt)=false→fsB f=false:=fun e=>aic hlt (by rw [c6 hlt,e,lR2])
   have hnext:qH f (m+1) (f.vols[m+1]'hlt)=true→tV (f.vols[m]'hml) (f.vols[m+1]'hlt)=true→∀ k,k<(m+1)+1→eG (qH f) tV f.vols k=true:=fun e e'=>nS hk (by rw [c6 hlt,e,e']; rfl)
   have hz:=(bW h1)
   refine Nz1 ?_
   generalize f.vols[m+1]'hlt=v at *
   obtain ⟨hv1,hv2⟩:=aib hx
   refine Jh (fun g0=>?_) fun g0=>?_
   ·have hz:=g0
    refine Nz1 ?_
    rw [hbad (by simp only [qH,lC (show ¬ 1≤v.id by omega),lD2])]
   have hz:=g0
   refine Nz1 ?_
   refine Jh (fun g1=>?_) fun g1=>?_
   ·have hz:=g1
    refine Nz1 ?_
    rw [hbad (by simp only [qH,lC (show ¬ v.id<f.next by omega),lD2,lR2])]
   have hz:=And.intro g1 (And.intro w4 (And.intro bX (And.intro hm (bW h1))))
   refine Nz1 ?_
   refine Jh (fun g2=>?_) fun g2=>?_
   ·have hz:=g2
    refine Nz1 ?_
    rw [hprev (by rw [tV,lC (by omega)])]
   have hz:=g2
   refine Nz1 ?_
   rcases iT (aW v.name) with hN | hN
   ·have hz:=hN
    refine Kz1 (bQ v.name (by omega)) ?_
    rw [hbad (by simp only [qH,hN,lD2,lR2])]
   have hz:=hN
   refine Kz1 (bQ v.name (by omega)) ?_
   refine K1 (o6 f v.name (by omega)) ?_
   refine Jh (fun g3=>?_) fun g3=>?_
   ·have g3':¬ uL (eP f v.name)=(((m+1:Nat):Int):Int):=by simpa using g3
    have hz:=g3
    refine Nz1 ?_
    rw [hbad (by simp only [qH,lC g3',lD2,lR2])]
   have hz:=g3
   refine Nz1 ?_
   have g3':uL (eP f v.name)=(((m+1:Nat):Int):Int):=by simpa using g3
   rcases iT (inR v.limit 32 4000) with hL | hL
   ·have hz:=hL
    refine Kz1 (cF v.limit 32 4000) ?_
    rw [hbad (by simp only [qH,hL,lD2,lR2])]
   have hz:=hL
   refine Kz1 (cF v.limit 32 4000) ?_
   rcases iT (bF v.t) with hT | hT
   ·have hz:=hT
    refine Kz1 (dF v.t (by omega)) ?_
    rw [hbad (by simp only [qH,hT,lD2,lR2])]
   have hz:=hT
   refine Kz1 (dF v.t (by omega)) ?_
   refine K1 (oE v.t (by omega)) ?_
   refine Jf (fun g4=>?_) fun g4=>?_
   ·refine N1 ?_
    rw [hbad (by simp only [qH,lC (show ¬ ((dO v.t:Nat):Int)≤v.limit by omega),lD2,lR2])]
   ·refine N1 ?_
    have hp:qH f (m+1) v=true:=by
     simp only [qH,hN,hL,hT,lM (show 1≤v.id by omega),lM (show v.id<f.next by omega),lM (show ((dO v.t:Nat):Int)≤v.limit by omega),lM g3',Bool.and_true]
    exact ⟨(m+1)+1,rfl,⟨by omega,hnext hp (by rw [tV,lM (by omega)])⟩,by omega⟩
 ·obtain rfl:i=f.vols.length:=by omega
  refine N1 ?_
  rw [fsB,hB,nO fun k h=>hk k h,lM (by omega)]; rfl
theorem aaA (x:Inode) (n:aA):bC x n=match x.ents.findIdx? (fun e=>decide (e.name=n)) with
  | none=>0
  | some k=>((x.ents[k]?).map Ent.ino).getD 0:=by
 rw [bC,adx]
 cases x.ents.findIdx? (fun e=>decide (e.name=n)) <;> rfl
theorem ako {x:Inode} {n:aA} {i:Nat} (hk:∀ k,k<i→(h:k<x.ents.length)→decide (x.ents[k].name=n)=false) (h:i<x.ents.length) (hi:x.ents[i].name=n):bC x n=x.ents[i].ino:=by
 rw [aaA,r9 (p:=fun e:Ent=>decide (e.name=n)) hk h (lM hi)]
 simp only [lH h]; rfl
theorem akp {x:Inode} {n:aA} (hk:∀ k,(h:k<x.ents.length)→decide (x.ents[k].name=n)=false):bC x n=0:=by
 rw [aaA,sA (p:=fun e:Ent=>decide (e.name=n)) hk]
theorem adE (x:Inode) (n:aA) (h:x.sz<2^40):bR Tryz.prog 192 [x.x,.str n] (.int .i64 (bC x n)) [.undef,.undef]:=by
 obtain ⟨h1,h2,h3⟩:=jC h
 refine Vw ahw [] 55 [] fun w hP hQ=>?_
 refine iV [4] ?_
 refine N ?_
 refine bG [4] (fun i:Nat=>[(5,.int .i64 i)]) (fun i=>i≤x.ents.length∧∀ k,k<i→(h:k<x.ents.length)→decide (x.ents[k].name=n)=false) (fun i=>x.ents.length-i) (0) hP hQ (rfl) (by simp) ?_
 rintro i ⟨hi,hk⟩ w1 hP1 hQ1
 refine N1 ?_
 refine Jf (fun g=>?_) fun g=>?_
 ·have hz:=(bW g)
  refine Nz1 ?_
  refine Jf (fun e=>?_) fun e=>?_
  ·have hz:=(bW g)
   refine Nz1 ?_
   rw [ako hk (by omega) e]
  ·refine N1 ?_
   exact ⟨i+1,rfl,⟨by omega,t7 (p:=fun e:Ent=>decide (e.name=n)) hk (by omega) (lC e)⟩,by omega⟩
 ·obtain rfl:i=x.ents.length:=by omega
  refine N1 ?_
  rw [akp fun k h=>hk k h h]
theorem afm {t:Tab} {l:List aA} {i:Nat} (h:i<l.length) {a:Int} {x:Inode} (hx:aC t a=some x) (hk:x.kind=2) (he:bC x l[i]≠0):mF t (l.drop i) a=mF t (l.drop (i+1)) (bC x l[i]):=by
 rw [lG2 h,mF,hx]
 simp only [lF hk,lK he]
theorem akq {t:Tab} {l:List aA} {i:Nat} (h:i<l.length) {a:Int} (hx:aC t a=none):mF t (l.drop i) a=(0,2):=by
 rw [lG2 h,mF,hx]
theorem afn {t:Tab} {l:List aA} {i:Nat} (h:i<l.length) {a:Int} {x:Inode} (hx:aC t a=some x) (hk:¬ x.kind=2):mF t (l.drop i) a=(0,3):=by
 rw [lG2 h,mF,hx]
 simp only [lK hk]
theorem afo {t:Tab} {l:List aA} {i:Nat} (h:i<l.length) {a:Int} {x:Inode} (hx:aC t a=some x) (hk:x.kind=2) (he:bC x l[i]=0):mF t (l.drop i) a=(0,2):=by
 rw [lG2 h,mF,hx]
 simp only [lF hk,lF he]
theorem aaB {t:Tab} (h:t.sz<2^40) {a:Int} {x:Inode} (hx:aC t a=some x):x.sz<2^40:=(eS h).2 x (aL hx).1
end Go.Proofs.YtnfeefcnblondaaGreat.Awp
