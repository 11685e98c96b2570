/- Contracts of the functions that laws.FnExactApply reaches are proved here (part 1). Condition: none. -/
import Derived.Test.YtnfeefcnblondaaGreatDoorAwp3
import Derived.Test.YtnfeefcnblondaaGreatDoorRows
import Derived.Test.YtnfeefcnblondaaGreatDoorCards
import Derived.Test.YtnfeefcnblondaaGreatDoorTie
import Derived.Shelf.Lays
import Derived.Sort.Walk0
import Derived.Shelf.Strings.Search3
import Derived.Shelf.Strings.Count
import Derived.Shelf.Strings.OnBuilder
import Derived.Shelf.Sort.Plain
import Derived.Shelf.Slices.In.SortNone
import Derived.Shelf.Spec.SlicesInsert
import Derived.Shelf.Spec.SlicesInsertGrow
import Derived.Deep.MidRow
import Derived.ArgAppend
import Derived.Shelf.RegionOpenPlain
import Derived.WalkKit
import Derived.Deep.LoopGhost
import Derived.Deep.RegionLaw
import Derived.Lib.Walk
import Derived.Sort.WalkB12
import Derived.OpenShut
import Derived.SevenTiedAt
import Derived.KernelRfl
set_option linter.unusedVariables false
set_option linter.unusedSimpArgs false
set_option maxRecDepth 100000
set_option maxHeartbeats 20000000
open Nat (reduceEqDiff reduceAdd reduceMul reduceSub)
open Int (reduceNeg reduceToNat reducePow)
namespace Go.Proofs.YtnfeefcnblondaaGreatDoor.Awp
section
namespace W
abbrev a (d x:Nat):GI:=⟨none,some d,.mov d (.t x)⟩
abbrev b (d x s:Nat):GI:=⟨none,some d,.ld d (.t x) s true⟩
abbrev b' (d x s:Nat):GI:=⟨none,some d,.ld d (.t x) s false⟩
abbrev c (d f:Nat) (l:List O):GI:=⟨none,some d,.call (some d) f l⟩
abbrev e (d x:Nat):GI:=⟨none,some d,.asg d (.t x)⟩
abbrev e' (d:Nat) (x:O):GI:=⟨none,some d,.asg d x⟩
abbrev f (d x i:Nat):GI:=⟨none,some d,.fld d (.t x) i⟩
abbrev g (d:Nat) (o:BinOp) (x y:O):GI:=⟨none,some d,.bin d o x y⟩
abbrev x (d x i:Nat):GI:=⟨none,some d,.xtr d (.t x) i⟩
abbrev l (d x:Nat):GI:=⟨none,some d,.len d (.t x)⟩
abbrev s (x y n:Nat):GI:=⟨none,none,.st (.t x) (.t y) n⟩
abbrev i (d x y s:Nat):GI:=⟨none,some d,.idx d (.t x) (.t y) s⟩
abbrev p (d x:Nat) (y z:O):GI:=⟨none,some d,.pck d (.t x) y z⟩
abbrev o (d s:Nat) (y:List O):GI:=⟨none,some d,.bsl d s y⟩
abbrev z (d:Nat) (y:List TV):GI:=⟨none,some d,.alc d y⟩
abbrev ha (t:Nat) (q:Bool) (d x:Nat):GI:=⟨some (t,q),some d,.mov d (.t x)⟩
abbrev hb (t:Nat) (q:Bool) (d x s:Nat):GI:=⟨some (t,q),some d,.ld d (.t x) s true⟩
abbrev hc (t:Nat) (q:Bool) (d f:Nat) (l:List O):GI:=⟨some (t,q),some d,.call (some d) f l⟩
end W
namespace W
abbrev q (l:List GI) (c:Cmd):Cmd:=.seq (.reg l none) c
abbrev d' (b:List Nat) (l:List GI) (c:Cmd):Cmd:=.seq (.reg l (some b)) c
abbrev u (t:Nat) (a b:Cmd):Cmd:=.cond (.t t) a b
abbrev y (t d:Nat) (x:O) (c:Cmd):Cmd:=.seq (.cond (.t t) (.seq (.reg [⟨none,some d,.asg d x⟩] none) .ret) .skip) c
abbrev y' (l:List GI) (t d:Nat) (x:O) (c:Cmd):Cmd:=.seq (.seq (.reg l none) (.cond (.t t) (.seq (.reg [⟨none,some d,.asg d x⟩] none) .ret) .skip)) c
abbrev j (k:Nat) (l:List GI) (t:Nat) (c:Cmd):Cmd:=.blk k (.loop (.seq (.seq (.reg l none) (.cond (.t t) .skip (.exit k))) c))
abbrev n' (d:Nat) (o:UnOp) (x:Nat):GI:=⟨none,some d,.un d o (.t x)⟩
abbrev g' (d:Nat) (o:BinOp) (x y:Nat):GI:=⟨none,some d,.bin d o (.t x) (.t y)⟩
abbrev hf (t:Nat) (q:Bool) (d x i:Nat):GI:=⟨some (t,q),some d,.fld d (.t x) i⟩
abbrev hl (t:Nat) (q:Bool) (d x s:Nat):GI:=⟨some (t,q),some d,.ld d (.t x) s false⟩
abbrev hg (t:Nat) (q:Bool) (d:Nat) (o:BinOp) (x y:O):GI:=⟨some (t,q),some d,.bin d o x y⟩
abbrev w:Bool:=true
abbrev r:Bool:=false
abbrev gk (d:Nat) (o:BinOp) (x:Nat) (n:Int):GI:=⟨none,some d,.bin d o (.t x) (.c (.int .i64 n))⟩
abbrev hk (t:Nat) (q:Bool) (d:Nat) (o:BinOp) (x:Nat) (n:Int):GI:=⟨some (t,q),some d,.bin d o (.t x) (.c (.int .i64 n))⟩
abbrev bo (d x:Nat):GI:=⟨none,some d,.box d (.t x)⟩
abbrev c1 (d f x:Nat):GI:=⟨none,some d,.call (some d) f [.t x]⟩
abbrev c2 (d f x y:Nat):GI:=⟨none,some d,.call (some d) f [.t x,.t y]⟩
abbrev c3 (d f x y z:Nat):GI:=⟨none,some d,.call (some d) f [.t x,.t y,.t z]⟩
abbrev c4 (t:Nat) (q:Bool) (d f x:Nat):GI:=⟨some (t,q),some d,.call (some d) f [.t x]⟩
abbrev z6:List TV:=[.sl 6 [],.int .i64 0]
abbrev zi:List TV:=[.int .i64 0,.int .i64 0,.int .i64 0,.sl 1 [],.sl 2 [],.sl 2 []]
end W
abbrev Sp:=mU Tryz.prog
abbrev Cp (f n:Nat) (r:List RV) (c:Cmd):Prop:=i8 Tryz.prog f=some (n,r,c)
theorem kr {f n:Nat} {r:List RV} {c:Cmd} (h:i8 Tryz.prog f=some (n,r,c):=by kernel_rfl):Cp f n r c:=h
abbrev U1:List AV:=[.undef]
abbrev U2:List AV:=[.undef,.undef]
abbrev U3:List AV:=[.undef,.undef,.undef]
abbrev U4:List AV:=[.undef,.undef,.undef,.undef]
open I W
theorem hmx:Tryz.prog.follows .mixedOrders=true:=by kernel_rfl
theorem iJ:Cp 4 119 [.t 4] (q [bo 2 0,bo 3 1,e' 4 k0] (q [e' 5 (k 1048576)] (q [b 17 2 2,a 18 5,c2 19 23 17 18,e 5 19] (y' [a 20 5,gk 21 .lss 20 0] 21 4 k1 (q [b 22 3 6,a 23 5,c2 24 24 22 23,e 5 24] (y' [a 25 5,gk 26 .lss 25 0] 26 4 k1 (d' [0,1,0,7,15,31,63,127,0,383,1023] [b 28 2 2,c1 29 26 28,b 30 3 6,c1 31 27 30,c2 32 25 29 31,a 27 32,x 33 27 0,x 34 27 1,z 6 z6,s 6 33 2,e 7 34] (q [b 35 2 2,c1 36 26 35,z 8 z6,s 8 36 2] (q [b 37 3 6,c1 38 27 37,z 9 [.int .i64 0,.int .i64 0,.str [],.str [],.int .i64 0,.sl 1 []],s 9 38 6] (q [b 40 8 2,b 41 9 6,c2 42 28 40 41,a 39 42,x 43 39 0,x 44 39 1,z 10 z6,s 10 43 2,e 11 44] (y' [b 45 10 2,b 46 6 2,c2 47 29 45 46,n' 48 .not 47,a 49 48,ha 49 r 50 11,ha 49 r 51 7,hg 49 r 52 .neq (v 50) (v 51),p 53 49 k1 (v 52)] 53 4 k0 (Q (d' [0,0,2,7,15] [b 54 8 2,b 55 2 2,c1 56 26 55,c2 57 29 54 56,n' 58 .not 57] (u 58 (q [e' 4 k0] .ret) .skip)) (Q (d' [0,0,2,7,15] [b 59 9 6,b 60 3 6,c1 61 27 60,c2 62 30 59 61,n' 63 .not 62] (u 63 (q [e' 4 k0] .ret) .skip)) (q [e' 12 (k 1)] (q [b 64 8 2,a 65 12,c2 66 31 64 65,e 12 66] (q [b 67 9 6,a 68 12,c2 69 32 67 68,e 12 69] (y' [a 70 12,gk 71 .lss 70 0,a 72 71,hb 72 r 73 10 2,hb 72 r 74 6 2,hc 72 r 75 29 [v 73,v 74],h 72 r 76 (un 76 .not (v 75)),p 77 72 k1 (v 76),a 78 77,ha 78 r 79 11,ha 78 r 80 7,hg 78 r 81 .neq (v 79) (v 80),p 82 78 k1 (v 81)] 82 4 k0 (q [e' 13 (k 1)] (q [b 83 10 2,a 84 13,c2 85 31 83 84,e 13 85] (q [e' 14 (k 1)] (q [b 86 10 2,a 87 14,c2 88 33 86 87,e 14 88] (y' [a 89 14,gk 90 .lss 89 0] 90 4 k0 (y' [a 91 14,a 92 13,g' 93 .neq 91 92] 93 4 k0 (d' [0,1,0,7,15,31,63,127,0,383,1023] [b 95 2 2,c1 96 26 95,b 97 3 6,c1 98 27 97,c2 99 28 96 98,a 94 99,x 100 94 0,x 101 94 1,z 15 z6,s 15 100 2,e 16 101] (y' [b 102 15 2,b 103 6 2,c2 104 29 102 103,n' 105 .not 104,a 106 105,ha 106 r 107 16,ha 106 r 108 7,hg 106 r 109 .neq (v 107) (v 108),p 110 106 k1 (v 109)] 110 4 k0 (q [e' 14 (k 1)] (q [b 111 10 2,a 112 14,c2 113 33 111 112,e 14 113] (y' [a 114 14,gk 115 .lss 114 0] 115 4 k0 (y' [a 116 14,a 117 13,g' 118 .neq 116 117] 118 4 k0 (q [e' 4 k1] .ret)))))))))))))))))))))))))))))):=kr
theorem agI:Cp 12 47 [.t 2] (q [bo 1 0,e' 2 k0] (Q (d' [0,1,3,7,15,31,63,15,143,399,1023,2047] [b 7 1 2,c1 8 54 7,n' 9 .not 8,a 10 9,hb 10 r 11 1 2,c4 10 r 12 19 11,h 10 r 13 (len 13 (v 12)),hf 10 r 14 1 0,hl 10 r 15 14 1,h 10 r 16 (len 16 (v 15)),hg 10 r 17 .neq (v 13) (v 16),p 18 10 k1 (v 17)] (u 18 (q [e' 2 k0] .ret) .skip)) (Q (q [f 19 1 0,b' 20 19 1,l 21 20,n 22 (mov 22 (k 0))] (.blk 0 (.loop (q [g' 23 .lss 22 21] (Q (u 23 .skip (.exit 0)) (Q (.blk 1 (q [i 24 20 22 6,b 25 24 6,z 4 zi,s 4 25 6] (Q (d' [0,1,0,0,8,28,63] [f 26 4 2,b' 27 26 1,b 28 1 2,f 29 4 0,b' 30 29 1,c2 31 55 28 30,g' 32 .neq 27 31] (u 32 (q [e' 2 k0] .ret) .skip)) (q [f 33 4 4,b' 34 33 1,l 35 34,n 36 (mov 36 (k 0))] (.blk 2 (.loop (q [g' 37 .lss 36 35] (Q (u 37 .skip (.exit 2)) (Q (.blk 3 (q [i 38 34 36 2,b 39 38 2,z 6 [.str [],.int .i64 0],s 6 39 2] (q [b 40 1 2,f 41 6 1,b' 42 41 1,c2 43 56 40 42,gk 44 .lss 43 0] (u 44 (q [e' 2 k0] .ret) .skip)))) (R [gk 45 .add 36 1,a 36 45])))))))))) (R [gk 46 .add 22 1,a 22 46]))))))) (q [e' 2 k1] .ret)))):=kr
theorem abq:Cp 13 11 [.c 4 2 true,.t 5] (q [bo 2 0,z 4 z6,e' 5 (k 0)] (q [b 6 2 2,a 7 1,c 8 57 [v 6,v 7,k 1],x 9 8 0,x 10 8 1,s 4 9 2,e 5 10] .ret)):=kr
theorem jA:Cp 14 108 [.c 8 2 true,.t 9] (q [bo 4 0,bo 6 2,z 8 z6,e' 9 (k 0)] (q [b 14 4 2,c1 15 58 14,s 4 15 2] (Q (q [b 16 4 2,a 17 1,o 18 1 [v 17],c2 19 59 16 18,n' 20 .not 19,a 21 20,hl 21 r 22 6 1,c4 21 r 23 60 22,h 21 r 24 (un 24 .not (v 23)),p 25 21 k1 (v 24),a 26 25,ha 26 r 27 3,h 26 r 28 (lens 28 (v 27)),hk 26 r 29 .gtr 28 16,p 30 26 k1 (v 29)] (u 30 (q [b 31 4 2,s 8 31 2,e' 9 (k 1)] .ret) .skip)) (q [b 33 4 2,a 34 1,c2 35 61 33 34,a 32 35,x 36 32 0,x 37 32 1,z 10 zi,s 10 36 6,e 11 37] (Q (q [a 38 11,gk 39 .neq 38 0] (u 39 (q [b 40 4 2,a 41 11,s 8 40 2,e 9 41] .ret) .skip)) (q [f 42 10 5,b' 43 42 1,n 44 (mkf 44 63 [v 6]),c2 45 62 43 44,e 12 45] (Q (q [a 46 12,gk 47 .lss 46 0] (u 47 (R [f 48 10 5,b' 49 48 1,l 50 49,e 12 50]) .skip)) (d' [0,0,2,6,15,31,63,127,63,511,1023,2047,63,8191,16383,32767] [a 51 12,f 52 10 5,b' 53 52 1,l 54 53,g' 55 .lss 51 54,a 56 55,hf 56 w 57 10 5,hl 56 w 58 57 1,ha 56 w 59 12,h 56 w 60 (idx 60 (v 58) (v 59) 2),hf 56 w 61 60 0,hl 56 w 62 61 1,hl 56 w 63 6 1,hg 56 w 64 .eql (v 62) (v 63),p 65 56 (v 64) k0,e 13 65] (Q (.blk 0 (q [a 76 13,a 77 76,ha 77 w 78 3,hg 77 w 79 .eql (v 78) (.c (.str [])),p 80 77 (v 79) k0,e 75 80] (u 75 (R [f 81 10 5,b' 82 81 1,a 83 12,a 84 12,gk 85 .add 84 1,c3 86 64 82 83 85,f 87 10 5,s 87 86 1]) (q [a 89 13,e 88 89] (u 88 (R [f 90 10 5,b' 91 90 1,a 92 12,a 93 3,i 94 91 92 2,f 95 94 1,s 95 93 1]) (q [a 97 3,g 98 .eql (v 97) (.c (.str [])),e 96 98] (u 96 .skip (q [f 100 10 5,b' 101 100 1,l 102 101,gk 103 .eql 102 4,e 99 103] (u 99 (q [b 104 4 2,s 8 104 2,e' 9 (k 5)] .ret) (R [f 66 10 5,b' 67 66 1,a 68 12,b' 69 6 1,a 70 3,n 71 (bld 71 [.str [],.str []] [(0,1,v 69),(1,1,v 70)]),o 72 2 [v 71],c3 73 65 67 68 72,f 74 10 5,s 74 73 1])))))))))) (q [b 105 4 2,b 106 10 6,c2 107 66 105 106,s 8 107 2,e' 9 (k 0)] .ret)))))))))):=kr
theorem agJ:Cp 15 53 [.t 2] (q [bo 1 0,e' 2 k0] (Q (d' [0,1,3,7,15,31,63,15,143,399,1023,2047] [b 6 1 2,c1 7 67 6,n' 8 .not 7,a 9 8,hb 9 r 10 1 2,c4 9 r 11 20 10,h 9 r 12 (len 12 (v 11)),hf 9 r 13 1 0,hl 9 r 14 13 1,h 9 r 15 (len 15 (v 14)),hg 9 r 16 .neq (v 12) (v 15),p 17 9 k1 (v 16)] (u 17 (q [e' 2 k0] .ret) .skip)) (Q (q [e' 3 (k 0)] (j 0 [a 18 3,f 19 1 0,b' 20 19 1,l 21 20,g' 22 .lss 18 21] 22 (Q (.blk 1 (q [f 25 1 0,b' 26 25 1,a 27 3,i 28 26 27 6,b 29 28 6,z 4 zi,s 4 29 6] (Q (d' [0,0,2,7,0,16,63] [b 30 1 2,f 31 4 0,b' 32 31 1,c2 33 68 30 32,f 34 4 2,b' 35 34 1,g' 36 .neq 33 35] (u 36 (q [e' 2 k0] .ret) .skip)) (q [e' 5 (k 0)] (j 2 [a 37 5,f 38 4 4,b' 39 38 1,l 40 39,g' 41 .lss 37 40] 41 (Q (.blk 3 (d' [0,0,2,0,14,30,62,127,255] [b 44 1 2,f 45 4 4,b' 46 45 1,a 47 5,i 48 46 47 2,f 49 48 1,b' 50 49 1,c2 51 69 44 50,gk 52 .lss 51 0] (u 52 (q [e' 2 k0] .ret) .skip))) (R [a 42 5,gk 43 .add 42 1,e 5 43]))))))) (R [a 23 3,gk 24 .add 23 1,e 3 24])))) (q [e' 2 k1] .ret)))):=kr
theorem adw:Cp 16 40 [.t 2] (q [bo 1 0,e' 2 (k 0)] (q [e' 3 (k 0)] (Q (q [f 8 1 0,b' 9 8 1,l 10 9,n 11 (mov 11 (k 0))] (.blk 0 (.loop (q [g' 12 .lss 11 10] (Q (u 12 .skip (.exit 0)) (Q (.blk 1 (q [i 13 9 11 6,b 14 13 6,z 5 zi,s 5 14 6] (q [a 15 3,f 16 5 3,b' 17 16 1,l 18 17,g 19 .add (k 32) (v 18),g' 20 .add 15 19,e 3 20] (q [f 21 5 5,b' 22 21 1,l 23 22,n 24 (mov 24 (k 0))] (.blk 2 (.loop (q [g' 25 .lss 24 23] (Q (u 25 .skip (.exit 2)) (Q (.blk 3 (q [i 26 22 24 2,b 27 26 2,z 7 [.str [],.str []],s 7 27 2] (R [a 28 3,f 29 7 0,b' 30 29 1,n 31 (lens 31 (v 30)),f 32 7 1,b' 33 32 1,n 34 (lens 34 (v 33)),g' 35 .add 31 34,g' 36 .add 28 35,e 3 36]))) (R [gk 37 .add 24 1,a 24 37])))))))))) (R [gk 38 .add 11 1,a 11 38]))))))) (q [a 39 3,e 2 39] .ret)))):=kr
theorem adx:Cp 17 50 [.t 2] (q [bo 1 0,e' 2 (k 0)] (q [e' 3 (k 0)] (Q (q [e' 4 (k 0)] (j 0 [a 7 4,f 8 1 0,b' 9 8 1,l 10 9,g' 11 .lss 7 10] 11 (Q (.blk 1 (q [f 14 1 0,b' 15 14 1,a 16 4,i 17 15 16 6,b 18 17 6,z 5 zi,s 5 18 6] (q [a 19 3,gk 20 .add 19 32,f 21 5 3,b' 22 21 1,l 23 22,g' 24 .add 20 23,e 3 24] (q [e' 6 (k 0)] (j 2 [a 25 6,f 26 5 5,b' 27 26 1,l 28 27,g' 29 .lss 25 28] 29 (Q (.blk 3 (D [0,0,2,0,14,30,62,126,255,0,512,0,3584,7680,15872,32256,65535,131071] [a 32 3,f 33 5 5,b' 34 33 1,a 35 6,i 36 34 35 2,f 37 36 0,b' 38 37 1,n 39 (lens 39 (v 38)),g' 40 .add 32 39,f 41 5 5,b' 42 41 1,a 43 6,i 44 42 43 2,f 45 44 1,b' 46 45 1,n 47 (lens 47 (v 46)),g' 48 .add 40 47,e 3 48])) (R [a 30 6,gk 31 .add 30 1,e 6 31]))))))) (R [a 12 4,gk 13 .add 12 1,e 4 13])))) (q [a 49 3,e 2 49] .ret)))):=kr
theorem ady:Cp 19 56 [.t 2] (q [bo 1 0,e' 2 (.c (.own 1 []))] (q [o 10 1 [],e 3 10] (q [o 11 1 [k 1],e 4 11] (Q (j 0 [a 12 4,l 13 12,gk 14 .gtr 13 0] 14 (.blk 1 (q [a 15 4,n 16 (idx 16 (v 15) (k 0) 1),b' 17 16 1,e 5 17] (q [a 18 4,n 19 (slc 19 (v 18) (some (k 1)) none 1),e 4 19] (q [b 21 1 2,a 22 5,c2 23 70 21 22,a 20 23,x 24 20 0,x 25 20 1,z 6 zi,s 6 24 6,e 7 25] (Q (q [a 26 7,n' 27 .not 26,a 28 27,ha 28 r 29 3,ha 28 r 30 5,hc 28 r 31 71 [v 29,v 30],p 32 28 k1 (v 31)] (u 32 (.exit 1) .skip)) (q [a 33 3,a 34 5,o 35 1 [v 34],n 36 (app 36 (v 33) (v 35) 1 8),e 3 36] (q [f 37 6 1,b' 38 37 1,gk 39 .eql 38 2] (u 39 (q [f 40 6 4,b' 41 40 1,l 42 41,n 43 (mov 43 (k 0))] (.blk 2 (.loop (q [g' 44 .lss 43 42] (Q (u 44 .skip (.exit 2)) (Q (.blk 3 (q [i 45 41 43 2,b 46 45 2,z 9 [.str [],.int .i64 0],s 9 46 2] (R [a 47 4,f 48 9 1,b' 49 48 1,o 50 1 [v 49],n 51 (app 51 (v 47) (v 50) 1 8),e 4 51]))) (R [gk 52 .add 43 1,a 43 52]))))))) .skip))))))))) (q [a 53 3,c1 54 72 53] (q [a 55 3,e 2 55] .ret)))))):=kr
theorem uW:Cp 20 24 [.t 2] (q [bo 1 0,e' 2 (.c (.own 1 []))] (q [o 5 1 [],e 3 5] (Q (q [b 6 1 2,c 7 69 [v 6,k 1],gk 8 .lss 7 0] (u 8 (q [a 9 3,e 2 9] .ret) .skip)) (q [a 10 3,o 11 1 [k 1],n 12 (app 12 (v 10) (v 11) 1 8),e 3 12] (Q (q [e' 4 (k 0)] (j 0 [a 13 4,f 14 1 0,b' 15 14 1,l 16 15,g' 17 .lss 13 16] 17 (Q (.blk 1 (R [b 20 1 2,a 21 3,c2 22 73 20 21,e 3 22])) (R [a 18 4,gk 19 .add 18 1,e 4 19])))) (q [a 23 3,e 2 23] .ret)))))):=kr
theorem amc:Cp 23 12 [.t 4] (q [bo 2 0,e' 4 (k 0)] (q [f 5 2 0,b' 6 5 1,a 7 1,c2 8 78 6 7,e 1 8] (y' [a 9 1,gk 10 .lss 9 0] 10 4 (k (-1)) (q [a 11 1,e 4 11] .ret)))):=kr
theorem amd:Cp 24 26 [.t 4] (q [bo 2 0,e' 4 (k 0)] (q [a 5 1,f 6 2 2,b' 7 6 1,n 8 (lens 8 (v 7)),g' 9 .sub 5 8,e 1 9] (y' [a 10 1,gk 11 .lss 10 0] 11 4 (k (-1)) (q [a 12 1,f 13 2 3,b' 14 13 1,n 15 (lens 15 (v 14)),g' 16 .sub 12 15,e 1 16] (y' [a 17 1,gk 18 .lss 17 0] 18 4 (k (-1)) (q [f 19 2 5,b' 20 19 1,a 21 1,c2 22 79 20 21,e 1 22] (y' [a 23 1,gk 24 .lss 23 0] 24 4 (k (-1)) (q [a 25 1,e 4 25] .ret)))))))):=kr
theorem jB:Cp 25 77 [.c 4 2 true,.t 5] (q [bo 2 0,bo 3 1,z 4 z6,e' 5 (k 0)] (Q (q [b 8 3 6,c1 9 80 8] (u 9 (q [b 10 2 2,b 11 3 6,c2 12 81 10 11,x 13 12 0,x 14 12 1,s 4 13 2,e 5 14] .ret) .skip)) (q [b 15 2 2,c1 16 82 15,z 6 z6,s 6 16 2] (q [e' 7 (k 1)] (Q (q [f 17 3 0,b' 18 17 1] (.blk 0 (q [gk 20 .eql 18 10,e 19 20] (u 19 (R [b 22 2 2,f 23 3 2,b' 24 23 1,f 25 3 4,b' 26 25 1,c3 27 83 22 24 26,a 21 27,x 28 21 0,x 29 21 1,x 30 21 2,s 6 28 2,e 7 30]) (q [gk 32 .eql 18 11,e 31 32] (u 31 (R [b 34 2 2,f 35 3 1,b' 36 35 1,f 37 3 2,b' 38 37 1,c3 39 84 34 36 38,a 33 39,x 40 33 0,x 41 33 1,x 42 33 2,s 6 40 2,e 7 42]) (q [gk 44 .eql 18 12,e 43 44] (u 43 (R [b 46 2 2,f 47 3 1,b' 48 47 1,f 49 3 2,b' 50 49 1,c3 51 85 46 48 50,a 45 51,x 52 45 0,x 53 45 1,x 54 45 2,s 6 52 2,e 7 54]) (q [gk 56 .eql 18 13,e 55 56] (u 55 (R [b 58 2 2,f 59 3 1,b' 60 59 1,c2 61 86 58 60,a 57 61,x 62 57 0,x 63 57 1,s 6 62 2,e 7 63]) (q [gk 65 .eql 18 14,e 64 65] (u 64 (R [b 67 2 2,f 68 3 1,b' 69 68 1,f 70 3 4,b' 71 70 1,c3 72 87 67 69 71,a 66 72,x 73 66 0,x 74 66 1,s 6 73 2,e 7 74]) .skip)))))))))))) (q [b 75 6 2,a 76 7,s 4 75 2,e 5 76] .ret)))))):=kr
theorem ame:Cp 26 12 [.c 2 2 true] (q [bo 1 0,z 2 z6] (q [z 3 z6] (q [f 4 1 0,b' 5 4 1,c1 6 88 5,f 7 3 0,s 7 6 1] (q [f 8 1 1,b' 9 8 1,f 10 3 1,s 10 9 1] (q [b 11 3 2,s 2 11 2] .ret))))):=kr
theorem amf:Cp 27 24 [.c 2 6 true] (q [bo 1 0,z 2 [.int .i64 0,.int .i64 0,.str [],.str [],.int .i64 0,.sl 1 []]] (q [z 3 [.int .i64 0,.int .i64 0,.str [],.str [],.int .i64 0,.sl 1 []]] (q [f 4 1 0,b' 5 4 1,f 6 3 0,s 6 5 1] (q [f 7 1 1,b' 8 7 1,f 9 3 1,s 9 8 1] (q [f 10 1 2,b' 11 10 1,f 12 3 2,s 12 11 1] (q [f 13 1 3,b' 14 13 1,f 15 3 3,s 15 14 1] (q [f 16 1 4,b' 17 16 1,f 18 3 4,s 18 17 1] (q [f 19 1 5,b' 20 19 1,c1 21 89 20,f 22 3 5,s 22 21 1] (q [b 23 3 6,s 2 23 6] .ret))))))))):=kr
theorem dU:Cp 28 132 [.c 4 2 true,.t 5] (q [bo 2 0,bo 3 1,z 4 z6,e' 5 (k 0)] (q [e' 6 (k 1)] (Q (q [f 9 3 0,b' 10 9 1] (.blk 0 (q [gk 12 .eql 10 10,e 11 12] (u 11 (q [b 14 2 2,f 15 3 2,b' 16 15 1,f 17 3 4,b' 18 17 1,c3 19 39 14 16 18,a 13 19,x 20 13 0,x 21 13 1,x 22 13 2,s 2 20 2,e 6 22] (q [b 23 2 2,a 24 6,s 4 23 2,e 5 24] .ret)) (q [gk 26 .eql 10 11,e 25 26] (u 25 (q [b 28 2 2,f 29 3 1,b' 30 29 1,f 31 3 2,b' 32 31 1,c3 33 35 28 30 32,a 27 33,x 34 27 0,x 35 27 1,x 36 27 2,s 2 34 2,e 6 36] (q [b 37 2 2,a 38 6,s 4 37 2,e 5 38] .ret)) (q [gk 40 .eql 10 12,e 39 40] (u 39 (q [b 42 2 2,f 43 3 1,b' 44 43 1,f 45 3 2,b' 46 45 1,c3 47 43 42 44 46,a 41 47,x 48 41 0,x 49 41 1,x 50 41 2,s 2 48 2,e 6 50] (q [b 51 2 2,a 52 6,s 4 51 2,e 5 52] .ret)) (q [gk 54 .eql 10 13,e 53 54] (u 53 (q [b 55 2 2,f 56 3 1,b' 57 56 1,c2 58 36 55 57,x 59 58 0,x 60 58 1,s 4 59 2,e 5 60] .ret) (q [gk 62 .eql 10 14,e 61 62] (u 61 (q [b 63 2 2,f 64 3 1,b' 65 64 1,f 66 3 4,b' 67 66 1,c3 68 41 63 65 67,x 69 68 0,x 70 68 1,s 4 69 2,e 5 70] .ret) .skip)))))))))))) (q [b 71 2 2,c1 72 90 71,s 2 72 2] (Q (q [b 73 3 6,c1 74 47 73,n' 75 .not 74,a 76 75,hb 76 r 77 2 2,c4 76 r 78 37 77,h 76 r 79 (un 79 .not (v 78)),p 80 76 k1 (v 79)] (u 80 (q [b 81 2 2,s 4 81 2,e' 5 (k 1)] .ret) .skip)) (q [b 82 2 2,f 83 3 1,b' 84 83 1,c2 85 46 82 84,e 7 85] (Q (.blk 1 (q [a 87 7,gk 88 .lss 87 0,e 86 88] (u 86 (q [b 89 2 2,s 4 89 2,e' 5 (k 2)] .ret) (q [f 91 2 0,b' 92 91 1,a 93 7,i 94 92 93 6,f 95 94 2,b' 96 95 1,e 90 96] (u 90 (q [b 97 2 2,s 4 97 2,e' 5 (k 7)] .ret) .skip))))) (d' [0,1,0,7,15,31,0,127,255,511,1023,0,3071,8191] [f 99 2 0,b' 100 99 1,a 101 7,i 102 100 101 6,f 103 102 4,b 104 103 2,b 105 3 6,c2 106 91 104 105,a 98 106,x 107 98 0,x 108 98 1,z 8 z6,s 8 107 2,e 6 108] (Q (.blk 2 (q [a 110 6,gk 111 .neq 110 0,e 109 111] (u 109 (q [b 112 2 2,a 113 6,s 4 112 2,e 5 113] .ret) (d' [0,1,0,4,0,28,60,124,255,511] [b 115 8 2,c1 116 16 115,f 117 2 0,b' 118 117 1,a 119 7,i 120 118 119 6,f 121 120 3,b' 122 121 1,g' 123 .gtr 116 122,e 114 123] (u 114 (q [b 124 2 2,s 4 124 2,e' 5 (k 8)] .ret) .skip))))) (q [f 125 2 0,b' 126 125 1,a 127 7,b 128 8 2,i 129 126 127 6,f 130 129 4,s 130 128 2] (q [b 131 2 2,s 4 131 2,e' 5 (k 0)] .ret))))))))))):=kr
theorem amg:Cp 29 16 [.t 4] (q [bo 2 0,bo 3 1,e' 4 k0] (y' [f 5 2 0,b' 6 5 1,f 7 3 0,b' 8 7 1,c2 9 92 6 8,n' 10 .not 9] 10 4 k0 (y' [f 11 2 1,b' 12 11 1,f 13 3 1,b' 14 13 1,g' 15 .neq 12 14] 15 4 k0 (q [e' 4 k1] .ret)))):=kr
theorem amh:Cp 30 36 [.t 4] (q [bo 2 0,bo 3 1,e' 4 k0] (y' [f 5 2 0,b' 6 5 1,f 7 3 0,b' 8 7 1,g' 9 .neq 6 8] 9 4 k0 (y' [f 10 2 1,b' 11 10 1,f 12 3 1,b' 13 12 1,g' 14 .neq 11 13] 14 4 k0 (y' [f 15 2 2,b' 16 15 1,f 17 3 2,b' 18 17 1,g' 19 .neq 16 18] 19 4 k0 (y' [f 20 2 3,b' 21 20 1,f 22 3 3,b' 23 22 1,g' 24 .neq 21 23] 24 4 k0 (y' [f 25 2 4,b' 26 25 1,f 27 3 4,b' 28 27 1,g' 29 .neq 26 28] 29 4 k0 (y' [f 30 2 5,b' 31 30 1,f 32 3 5,b' 33 32 1,c2 34 93 31 33,n' 35 .not 34] 35 4 k0 (q [e' 4 k1] .ret)))))))):=kr
theorem agK:Cp 31 10 [.t 4] (q [bo 2 0,e' 4 (k 0)] (q [f 5 2 0,b' 6 5 1,a 7 1,c2 8 94 6 7,e 1 8] (q [a 9 1,e 4 9] .ret))):=kr
theorem agL:Cp 32 10 [.t 4] (q [bo 2 0,e' 4 (k 0)] (q [f 5 2 5,b' 6 5 1,a 7 1,c2 8 95 6 7,e 1 8] (q [a 9 1,e 4 9] .ret))):=kr
theorem agM:Cp 33 12 [.t 4] (q [bo 2 0,e' 4 (k 0)] (q [f 5 2 0,b' 6 5 1,a 7 1,c2 8 96 6 7,e 1 8] (y' [a 9 1,gk 10 .lss 9 0] 10 4 (k (-1)) (q [a 11 1,e 4 11] .ret)))):=kr
theorem adz:Cp 35 16 [.c 6 2 true,.t 7,.t 8] (q [bo 3 0,z 6 z6,e' 7 (k 0),e' 8 (k 0)] (q [b 9 3 2,a 10 1,a 11 2,c 12 97 [v 9,v 10,v 11,k1],x 13 12 0,x 14 12 1,x 15 12 2,s 6 13 2,e 7 14,e 8 15] .ret)):=kr
theorem oU:Cp 36 27 [.c 4 2 true,.t 5] (q [bo 2 0,z 4 z6,e' 5 (k 0)] (q [b 7 2 2,c1 8 90 7,s 2 8 2] (Q (q [b 9 2 2,c1 10 37 9,n' 11 .not 10] (u 11 (q [b 12 2 2,s 4 12 2,e' 5 (k 1)] .ret) .skip)) (q [b 13 2 2,a 14 1,c2 15 46 13 14,e 6 15] (Q (q [a 16 6,gk 17 .lss 16 0] (u 17 (q [b 18 2 2,s 4 18 2,e' 5 (k 2)] .ret) .skip)) (q [f 19 2 0,b' 20 19 1,a 21 6,a 22 6,gk 23 .add 22 1,c3 24 98 20 21 23,f 25 2 0,s 25 24 1] (q [b 26 2 2,s 4 26 2,e' 5 (k 0)] .ret))))))):=kr
theorem ami:Cp 37 84 [.t 2] (q [bo 1 0,e' 2 k0] (y' [f 5 1 0,b' 6 5 1,l 7 6,gk 8 .gtr 7 6,a 9 8,hf 9 r 10 1 1,hl 9 r 11 10 1,hc 9 r 12 99 [v 11,k 1,k 99],h 9 r 13 (un 13 .not (v 12)),p 14 9 k1 (v 13)] 14 2 k0 (Q (q [f 15 1 0,b' 16 15 1,l 17 16,n 18 (mov 18 (k 0))] (.blk 0 (.loop (q [g' 19 .lss 18 17] (Q (u 19 .skip (.exit 0)) (Q (.blk 1 (q [a 20 18,i 21 16 18 6,b 22 21 6,z 4 [.int .i64 0,.str [],.bool r,.int .i64 0,.sl 6 [],.int .i64 0],e 3 20,s 4 22 6] (d' [0,1,3,7,15,31,15,79,255,511,1023,2047,4095,8191,16383,32767,16383,81919,262143,524287,1048575,16383,2113535,8388607,16777215,33554431,67108863,134217727,268435455,536870911,1073741823,2147483647,4294967295,8589934591,8589934591,25769803775,68719476735,8589934591,274877906943,549755813887,1099511627775,2199023255551,4398046511103,8796093022207,17592186044415,35184372088831,70368744177663,140737488355327,281474976710655,562949953421311,1125899906842623,2251799813685247,4503599627370495,9007199254740991,18014398509481983,36028797018963967,9007199254740991,81064793292668927,288230376151711743,576460752303423487] [f 23 4 0,b' 24 23 1,gk 25 .lss 24 1,a 26 25,hf 26 r 27 4 0,hl 26 r 28 27 1,hf 26 r 29 1 1,hl 26 r 30 29 1,hg 26 r 31 .geq (v 28) (v 30),p 32 26 k1 (v 31),a 33 32,ha 33 r 34 3,hk 33 r 35 .gtr 34 0,ha 33 r 36 35,hf 36 w 37 1 0,hl 36 w 38 37 1,ha 36 w 39 3,hk 36 w 40 .sub 39 1,h 36 w 41 (idx 41 (v 38) (v 40) 6),hf 36 w 42 41 0,hl 36 w 43 42 1,hf 36 w 44 4 0,hl 36 w 45 44 1,hg 36 w 46 .geq (v 43) (v 45),h 33 r 47 (pck 47 (v 36) (v 46) k0),p 48 33 k1 (v 47),a 49 48,hf 49 r 50 4 1,hl 49 r 51 50 1,c4 49 r 52 60 51,h 49 r 53 (un 53 .not (v 52)),p 54 49 k1 (v 53),a 55 54,hb 55 r 56 1 2,hf 55 r 57 4 1,hl 55 r 58 57 1,hc 55 r 59 100 [v 56,v 58],ha 55 r 60 3,hg 55 r 61 .neq (v 59) (v 60),p 62 55 k1 (v 61),a 63 62,hf 63 r 64 4 3,hl 63 r 65 64 1,c4 63 r 66 101 65,h 63 r 67 (un 67 .not (v 66)),p 68 63 k1 (v 67),a 69 68,hf 69 r 70 4 4,hb 69 r 71 70 2,c4 69 r 72 12 71,h 69 r 73 (un 73 .not (v 72)),p 74 69 k1 (v 73),a 75 74,hf 75 r 76 4 4,hb 75 r 77 76 2,c4 75 r 78 16 77,hf 75 r 79 4 3,hl 75 r 80 79 1,hg 75 r 81 .gtr (v 78) (v 80),p 82 75 k1 (v 81)] (u 82 (q [e' 2 k0] .ret) .skip)))) (R [gk 83 .add 18 1,a 18 83]))))))) (q [e' 2 k1] .ret)))):=kr
theorem nU:Cp 39 34 [.c 6 2 true,.t 7,.t 8] (q [bo 3 0,z 6 z6,e' 7 (k 0),e' 8 (k 0)] (q [b 9 3 2,c1 10 90 9,s 3 10 2] (Q (q [b 11 3 2,c1 12 37 11,n' 13 .not 12,a 14 13,ha 14 r 15 1,c4 14 r 16 60 15,h 14 r 17 (un 17 .not (v 16)),p 18 14 k1 (v 17),a 19 18,ha 19 r 20 2,c4 19 r 21 101 20,h 19 r 22 (un 22 .not (v 21)),p 23 19 k1 (v 22)] (u 23 (q [b 24 3 2,s 6 24 2,e' 7 (k 0),e' 8 (k 1)] .ret) .skip)) (d' [0,0,0,0,14,31,63,127,255,511,1023,2047] [b 25 3 2,a 26 1,a 27 2,c 28 103 [],n 29 (bld 29 [.int .i64 0,.str [],.bool r,.int .i64 0,.sl 6 [],.int .i64 0] [(1,1,v 26),(3,1,v 27),(4,2,v 28)]),c2 30 102 25 29,x 31 30 0,x 32 30 1,x 33 30 2,s 6 31 2,e 7 32,e 8 33] .ret)))):=kr
theorem jK:Cp 41 45 [.c 6 2 true,.t 7] (q [bo 3 0,z 6 z6,e' 7 (k 0)] (q [b 9 3 2,c1 10 90 9,s 3 10 2] (Q (q [b 11 3 2,c1 12 37 11,n' 13 .not 12,a 14 13,ha 14 r 15 2,c4 14 r 16 101 15,h 14 r 17 (un 17 .not (v 16)),p 18 14 k1 (v 17)] (u 18 (q [b 19 3 2,s 6 19 2,e' 7 (k 1)] .ret) .skip)) (q [b 20 3 2,a 21 1,c2 22 46 20 21,e 8 22] (Q (.blk 0 (q [a 24 8,gk 25 .lss 24 0,e 23 25] (u 23 (q [b 26 3 2,s 6 26 2,e' 7 (k 2)] .ret) (q [f 28 3 0,b' 29 28 1,a 30 8,i 31 29 30 6,f 32 31 4,b 33 32 2,c1 34 16 33,a 35 2,g' 36 .gtr 34 35,e 27 36] (u 27 (q [b 37 3 2,s 6 37 2,e' 7 (k 8)] .ret) .skip))))) (q [f 38 3 0,b' 39 38 1,a 40 8,a 41 2,i 42 39 40 6,f 43 42 3,s 43 41 1] (q [b 44 3 2,s 6 44 2,e' 7 (k 0)] .ret))))))):=kr
theorem abr:Cp 43 16 [.c 6 2 true,.t 7,.t 8] (q [bo 3 0,z 6 z6,e' 7 (k 0),e' 8 (k 0)] (q [b 9 3 2,a 10 1,a 11 2,c 12 97 [v 9,v 10,v 11,k0],x 13 12 0,x 14 12 1,x 15 12 2,s 6 13 2,e 7 14,e 8 15] .ret)):=kr
theorem ajh:Cp 46 9 [.t 4] (q [bo 2 0,bo 3 1,e' 4 (k 0)] (q [f 5 2 0,b' 6 5 1,n 7 (mkf 7 109 [v 3]),c2 8 108 6 7,e 4 8] .ret)):=kr
theorem adA:Cp 47 6 [.t 2] (q [bo 1 0,e' 2 k0] (q [f 3 1 0,b' 4 3 1,c 5 99 [v 4,k 1,k 9],e 2 5] .ret)):=kr
theorem aji:Cp 54 63 [.t 2] (q [bo 1 0,e' 2 k0] (y' [f 7 1 0,b' 8 7 1,l 9 8,gk 10 .gtr 9 30,a 11 10,hf 11 r 12 1 1,hl 11 r 13 12 1,hc 11 r 14 99 [v 13,k 2,k 1000],h 11 r 15 (un 15 .not (v 14)),p 16 11 k1 (v 15)] 16 2 k0 (Q (q [f 17 1 0,b' 18 17 1,l 19 18,n 20 (mov 20 (k 0))] (.blk 0 (.loop (q [g' 21 .lss 20 19] (Q (u 21 .skip (.exit 0)) (Q (.blk 1 (q [a 22 20,i 23 18 20 6,b 24 23 6,z 4 zi,e 3 22,s 4 24 6] (d' [0,1,3,7,15,31,15,79,255,511,1023,2047,4095,8191,16383,32767,16383,81919,262143,524287,1048575,16383,2113535,8388607,16777215,33554431] [b 25 4 6,c1 26 118 25,n' 27 .not 26,a 28 27,hf 28 r 29 4 0,hl 28 r 30 29 1,hf 28 r 31 1 1,hl 28 r 32 31 1,hg 28 r 33 .geq (v 30) (v 32),p 34 28 k1 (v 33),a 35 34,ha 35 r 36 3,hk 35 r 37 .gtr 36 0,ha 35 r 38 37,hf 38 w 39 1 0,hl 38 w 40 39 1,ha 38 w 41 3,hk 38 w 42 .sub 41 1,h 38 w 43 (idx 43 (v 40) (v 42) 6),hf 38 w 44 43 0,hl 38 w 45 44 1,hf 38 w 46 4 0,hl 38 w 47 46 1,hg 38 w 48 .geq (v 45) (v 47),h 35 r 49 (pck 49 (v 38) (v 48) k0),p 50 35 k1 (v 49)] (u 50 (q [e' 2 k0] .ret) .skip)))) (R [gk 51 .add 20 1,a 20 51]))))))) (q [b 53 1 2,c 54 70 [v 53,k 1],a 52 54,x 55 52 0,x 56 52 1,z 5 zi,s 5 55 6,e 6 56] (q [a 57 6,a 58 57,hf 58 w 59 5 1,hl 58 w 60 59 1,hk 58 w 61 .eql 60 2,p 62 58 (v 61) k0,e 2 62] .ret))))):=kr
theorem adB:Cp 55 36 [.t 4] (q [bo 2 0,e' 4 (k 0)] (q [e' 5 (k 0)] (Q (q [f 10 2 0,b' 11 10 1,l 12 11,n 13 (mov 13 (k 0))] (.blk 0 (.loop (q [g' 14 .lss 13 12] (Q (u 14 .skip (.exit 0)) (Q (.blk 1 (q [i 15 11 13 6,b 16 15 6,z 7 zi,s 7 16 6] (Q (q [f 17 7 1,b' 18 17 1,gk 19 .neq 18 2] (u 19 (.exit 1) .skip)) (q [f 20 7 4,b' 21 20 1,l 22 21,n 23 (mov 23 (k 0))] (.blk 2 (.loop (q [g' 24 .lss 23 22] (Q (u 24 .skip (.exit 2)) (Q (.blk 3 (q [i 25 21 23 2,b 26 25 2,z 9 [.str [],.int .i64 0],s 9 26 2] (q [f 27 9 1,b' 28 27 1,a 29 1,g' 30 .eql 28 29] (u 30 (R [a 31 5,gk 32 .add 31 1,e 5 32]) .skip)))) (R [gk 33 .add 23 1,a 23 33])))))))))) (R [gk 34 .add 13 1,a 13 34]))))))) (q [a 35 5,e 4 35] .ret)))):=kr
theorem adC:Cp 56 9 [.t 4] (q [bo 2 0,bo 3 1,e' 4 (k 0)] (q [f 5 2 0,b' 6 5 1,n 7 (mkf 7 120 [v 3]),c2 8 119 6 7,e 4 8] .ret)):=kr
theorem fR:Cp 57 75 [.c 6 2 true,.t 7] (q [bo 3 0,z 6 z6,e' 7 (k 0)] (q [b 11 3 2,c1 12 58 11,s 3 12 2] (Q (q [b 13 3 2,a 14 1,o 15 1 [v 14],c2 16 59 13 15,n' 17 .not 16,a 18 17,ha 18 r 19 1,hg 18 r 20 .eql (v 19) (.c (.str [47])),p 21 18 k1 (v 20)] (u 21 (q [b 22 3 2,s 6 22 2,e' 7 (k 1)] .ret) .skip)) (q [b 24 3 2,a 25 1,c2 26 121 24 25,a 23 26,x 27 23 0,x 28 23 1,z 8 [.int .i64 0,.int .i64 0,.int .i64 0,.sl 1 [],.sl 2 [],.sl 2 [],.str []],s 8 27 7,e 9 28] (Q (.blk 0 (q [a 30 9,gk 31 .neq 30 0,e 29 31] (u 29 (q [b 32 3 2,a 33 9,s 6 32 2,e 7 33] .ret) (q [f 35 8 0,b 36 35 6,f 37 8 6,b' 38 37 1,c2 39 122 36 38,gk 40 .neq 39 0,e 34 40] (u 34 (q [b 41 3 2,s 6 41 2,e' 7 (k 4)] .ret) (q [f 43 8 0,f 44 43 4,b' 45 44 1,l 46 45,gk 47 .eql 46 10,a 48 47,hf 48 r 49 3 0,hl 48 r 50 49 1,h 48 r 51 (len 51 (v 50)),hk 48 r 52 .eql 51 30,p 53 48 k1 (v 52),a 54 53,hf 54 r 55 3 1,hl 54 r 56 55 1,hk 54 r 57 .eql 56 1000,p 58 54 k1 (v 57),e 42 58] (u 42 (q [b 59 3 2,s 6 59 2,e' 7 (k 5)] .ret) .skip))))))) (q [f 60 3 1,b' 61 60 1,a 62 2,n 63 (bld 63 zi [(0,1,v 61),(1,1,v 62),(2,1,k 1)]),z 10 zi,s 10 63 6] (q [f 64 3 1,b' 65 64 1,gk 66 .add 65 1,f 67 3 1,s 67 66 1] (d' [0,0,0,4,15,0,63,127,255] [b 68 8 7,b 69 3 2,f 70 10 0,b' 71 70 1,c3 72 123 68 69 71,b 73 10 6,c2 74 66 72 73,s 6 74 2,e' 7 (k 0)] .ret)))))))):=kr
theorem adD:Cp 58 25 [.c 2 2 true] (q [bo 1 0,z 2 z6] (q [f 6 1 1,b' 7 6 1,n 8 (bld 8 z6 [(1,1,v 7)]),z 3 z6,s 3 8 2] (Q (q [f 9 1 0,b' 10 9 1,l 11 10,n 12 (mov 12 (k 0))] (.blk 0 (.loop (q [g' 13 .lss 12 11] (Q (u 13 .skip (.exit 0)) (Q (.blk 1 (q [i 14 10 12 6,b 15 14 6,z 5 zi,s 5 15 6] (D [0,1,0,4,12,31,63,127] [f 16 3 0,b' 17 16 1,b 18 5 6,c1 19 124 18,o 20 6 [v 19],n 21 (app 21 (v 17) (v 20) 6 96),f 22 3 0,s 22 21 1]))) (R [gk 23 .add 12 1,a 12 23]))))))) (q [b 24 3 2,s 2 24 2] .ret)))):=kr
theorem ajj:Cp 59 25 [.t 4] (q [bo 2 0,e' 4 k0] (Q (q [a 9 1,l 10 9,n 11 (mov 11 (k 0))] (.blk 0 (.loop (q [g' 12 .lss 11 10] (Q (u 12 .skip (.exit 0)) (Q (.blk 1 (q [i 13 9 11 1,b' 14 13 1,e 6 14] (q [a 16 6,c1 17 125 16,a 15 17,x 18 15 0,x 19 15 1,e 7 18,e 8 19] (q [a 20 8,n' 21 .not 20] (u 21 (q [e' 4 k0] .ret) .skip))))) (R [gk 22 .add 11 1,a 11 22]))))))) (q [b 23 2 2,c1 24 12 23,e 4 24] .ret))):=kr
theorem agN:Cp 60 56 [.t 2] (q [e' 2 k0] (Q (q [a 5 0,n 6 (lens 6 (v 5)),n 7 (mov 7 (k 0))] (.blk 0 (.loop (q [g' 8 .lss 7 6] (Q (u 8 .skip (.exit 0)) (Q (.blk 1 (q [a 9 7,e 3 9] (q [a 10 0,a 11 3,n 12 (sidx 12 (v 10) (v 11)),e 4 12] (q [a 13 4,g 14 .lss (v 13) (.c (.int .u8 97)),a 15 14,ha 15 r 16 4,hg 15 r 17 .gtr (v 16) (.c (.int .u8 122)),p 18 15 k1 (v 17),a 19 18,ha 19 w 20 4,hg 19 w 21 .lss (v 20) (.c (.int .u8 48)),ha 19 w 22 21,ha 22 r 23 4,hg 22 r 24 .gtr (v 23) (.c (.int .u8 57)),h 19 w 25 (pck 25 (v 22) k1 (v 24)),p 26 19 (v 25) k0,a 27 26,ha 27 w 28 4,hg 27 w 29 .neq (v 28) (.c (.int .u8 95)),p 30 27 (v 29) k0,a 31 30,ha 31 w 32 4,hg 31 w 33 .neq (v 32) (.c (.int .u8 45)),p 34 31 (v 33) k0,a 35 34,ha 35 w 36 4,hg 35 w 37 .neq (v 36) (.c (.int .u8 46)),p 38 35 (v 37) k0] (u 38 (q [e' 2 k0] .ret) .skip))))) (R [gk 39 .add 7 1,a 7 39]))))))) (q [a 40 0,n 41 (lens 41 (v 40)),gk 42 .geq 41 1,a 43 42,ha 43 w 44 0,h 43 w 45 (lens 45 (v 44)),hk 43 w 46 .leq 45 14,p 47 43 (v 46) k0,a 48 47,ha 48 w 49 0,hg 48 w 50 .neq (v 49) (.c (.str [46])),p 51 48 (v 50) k0,a 52 51,ha 52 w 53 0,hg 52 w 54 .neq (v 53) (.c (.str [46,46])),p 55 52 (v 54) k0,e 2 55] .ret))):=kr
theorem zS:Cp 61 30 [.c 4 6 true,.t 5] (q [bo 2 0,z 4 zi,e' 5 (k 0)] (q [b 11 2 2,a 12 1,c2 13 126 11 12,a 10 13,x 14 10 0,x 15 10 1,e 6 14,e 7 15] (Q (q [a 16 7,gk 17 .neq 16 0] (u 17 (q [n 18 (bld 18 zi []),a 19 7,s 4 18 6,e 5 19] .ret) .skip)) (q [b 21 2 2,a 22 6,c2 23 70 21 22,a 20 23,x 24 20 0,x 25 20 1,z 8 zi,s 8 24 6,e 9 25] (Q (q [a 26 9,n' 27 .not 26] (u 27 (q [n 28 (bld 28 zi []),s 4 28 6,e' 5 (k 2)] .ret) .skip)) (q [b 29 8 6,s 4 29 6,e' 5 (k 0)] .ret)))))):=kr
theorem pP:Cp 62 19 [.t 4] (q [e' 4 (k 0)] (Q (q [a 6 0,l 7 6,n 8 (mov 8 (k 0))] (.blk 0 (.loop (q [g' 9 .lss 8 7] (Q (u 9 .skip (.exit 0)) (Q (.blk 1 (q [a 10 8,e 5 10] (q [a 11 1,a 12 0,a 13 5,i 14 12 13 2,b 15 14 2,n 16 (callv (some 16) (v 11) [v 15])] (u 16 (q [a 17 5,e 4 17] .ret) .skip)))) (R [gk 18 .add 8 1,a 8 18]))))))) (q [e' 4 (k (-1))] .ret))):=kr
theorem zT:Cp 63 8 [.t 3] (q [bo 2 0,e' 3 k0] (q [f 4 2 0,b' 5 4 1,b' 6 1 1,g' 7 .geq 5 6,e 3 7] .ret)):=kr
theorem rU:Cp 66 40 [.c 4 2 true] (q [bo 2 0,bo 3 1,z 4 z6] (q [b 7 2 2,c1 8 58 7,s 2 8 2] (q [b 9 3 6,c1 10 124 9,s 3 10 6] (Q (q [b 11 2 2,f 12 3 0,b' 13 12 1,c2 14 56 11 13,e 5 14] (q [a 15 5,gk 16 .geq 15 0] (u 16 (q [f 17 2 0,b' 18 17 1,a 19 5,b 20 3 6,i 21 18 19 6,s 21 20 6] (q [b 22 2 2,s 4 22 2] .ret)) .skip))) (q [f 23 2 0,b' 24 23 1,n 25 (mkf 25 129 [v 3]),c2 26 119 24 25,e 6 26] (Q (q [a 27 6,gk 28 .lss 27 0] (u 28 (R [f 29 2 0,b' 30 29 1,l 31 30,e 6 31]) .skip)) (q [f 32 2 0,b' 33 32 1,a 34 6,b 35 3 6,o 36 6 [v 35],c3 37 130 33 34 36,f 38 2 0,s 38 37 1] (q [b 39 2 2,s 4 39 2] .ret)))))))):=kr
theorem ajk:Cp 67 68 [.t 2] (q [bo 1 0,e' 2 k0] (y' [f 5 1 0,b' 6 5 1,l 7 6,c 8 131 [v 7,k 1,k 30],n' 9 .not 8,a 10 9,hf 10 r 11 1 1,hl 10 r 12 11 1,hc 10 r 13 131 [v 12,k 2,k 1000],h 10 r 14 (un 14 .not (v 13)),p 15 10 k1 (v 14)] 15 2 k0 (Q (q [e' 3 (k 0)] (j 0 [a 16 3,f 17 1 0,b' 18 17 1,l 19 18,g' 20 .lss 16 19] 20 (Q (.blk 1 (q [f 23 1 0,b' 24 23 1,a 25 3,i 26 24 25 6,b 27 26 6,z 4 zi,s 4 27 6] (d' [0,1,3,7,15,31,15,79,255,511,1023,2047,4095,8191,16383,32767,16383,81919,262143,524287,1048575,16383,2113535,8388607,16777215,33554431] [b 28 4 6,c1 29 132 28,n' 30 .not 29,a 31 30,hf 31 r 32 4 0,hl 31 r 33 32 1,hf 31 r 34 1 1,hl 31 r 35 34 1,hg 31 r 36 .geq (v 33) (v 35),p 37 31 k1 (v 36),a 38 37,ha 38 r 39 3,hk 38 r 40 .gtr 39 0,ha 38 r 41 40,hf 41 w 42 1 0,hl 41 w 43 42 1,ha 41 w 44 3,hk 41 w 45 .sub 44 1,h 41 w 46 (idx 46 (v 43) (v 45) 6),hf 41 w 47 46 0,hl 41 w 48 47 1,hf 41 w 49 4 0,hl 41 w 50 49 1,hg 41 w 51 .geq (v 48) (v 50),h 38 r 52 (pck 52 (v 41) (v 51) k0),p 53 38 k1 (v 52)] (u 53 (q [e' 2 k0] .ret) .skip)))) (R [a 21 3,gk 22 .add 21 1,e 3 22])))) (q [f 54 1 0,b' 55 54 1,n 56 (idx 56 (v 55) (k 0) 6),f 57 56 0,b' 58 57 1,gk 59 .eql 58 1,a 60 59,hf 60 w 61 1 0,hl 60 w 62 61 1,h 60 w 63 (idx 63 (v 62) (k 0) 6),hf 60 w 64 63 1,hl 60 w 65 64 1,hk 60 w 66 .eql 65 2,p 67 60 (v 66) k0,e 2 67] .ret)))):=kr
theorem adE:Cp 68 50 [.t 4] (q [bo 2 0,e' 4 (k 0)] (q [e' 5 (k 0)] (Q (q [e' 6 (k 0)] (j 0 [a 8 6,f 9 2 0,b' 10 9 1,l 11 10,g' 12 .lss 8 11] 12 (Q (.blk 1 (q [e' 7 (k 0)] (j 2 [a 15 7,f 16 2 0,b' 17 16 1,a 18 6,i 19 17 18 6,f 20 19 4,b' 21 20 1,l 22 21,g' 23 .lss 15 22,a 24 23,hf 24 w 25 2 0,hl 24 w 26 25 1,ha 24 w 27 6,h 24 w 28 (idx 28 (v 26) (v 27) 6),hf 24 w 29 28 1,hl 24 w 30 29 1,hk 24 w 31 .eql 30 2,p 32 24 (v 31) k0] 32 (Q (.blk 3 (q [f 35 2 0,b' 36 35 1,a 37 6,i 38 36 37 6,f 39 38 4,b' 40 39 1,a 41 7,i 42 40 41 2,f 43 42 1,b' 44 43 1,a 45 1,g' 46 .eql 44 45] (u 46 (R [a 47 5,gk 48 .add 47 1,e 5 48]) .skip))) (R [a 33 7,gk 34 .add 33 1,e 7 34]))))) (R [a 13 6,gk 14 .add 13 1,e 6 14])))) (q [a 49 5,e 4 49] .ret)))):=kr
theorem amj:Cp 69 22 [.t 4] (q [bo 2 0,e' 4 (k 0)] (Q (q [e' 5 (k 0)] (j 0 [a 6 5,f 7 2 0,b' 8 7 1,l 9 8,g' 10 .lss 6 9] 10 (Q (.blk 1 (q [f 13 2 0,b' 14 13 1,a 15 5,i 16 14 15 6,f 17 16 0,b' 18 17 1,a 19 1,g' 20 .eql 18 19] (u 20 (q [a 21 5,e 4 21] .ret) .skip))) (R [a 11 5,gk 12 .add 11 1,e 5 12])))) (q [e' 4 (k (-1))] .ret))):=kr
theorem uY:Cp 70 19 [.c 4 6 true,.t 5] (q [bo 2 0,z 4 zi,e' 5 k0] (q [b 7 2 2,a 8 1,c2 9 56 7 8,e 6 9] (Q (q [a 10 6,gk 11 .lss 10 0] (u 11 (q [n 12 (bld 12 zi []),s 4 12 6,e' 5 k0] .ret) .skip)) (q [f 13 2 0,b' 14 13 1,a 15 6,i 16 14 15 6,b 17 16 6,c1 18 124 17,s 4 18 6,e' 5 k1] .ret)))):=kr
theorem mG:Cp 71 9 [.t 4] (q [e' 4 k0] (q [a 5 0,a 6 1,c2 7 133 5 6,gk 8 .geq 7 0,e 4 8] .ret)):=kr
theorem agO:Cp 73 59 [.t 4] (q [bo 2 0,e' 4 (.c (.own 1 []))] (q [a 10 1,e 5 10] (Q (q [e' 6 (k 0)] (j 0 [a 11 6,a 12 1,l 13 12,g' 14 .lss 11 13] 14 (Q (.blk 1 (d' [0,0,0,6,14,31,63,127,255,0,767,2047] [b 18 2 2,a 19 1,a 20 6,i 21 19 20 1,b' 22 21 1,c2 23 136 18 22,a 17 23,x 24 17 0,x 25 17 1,z 7 zi,s 7 24 6,e 8 25] (q [e' 9 (k 0)] (j 2 [a 26 9,f 27 7 4,b' 28 27 1,l 29 28,g' 30 .lss 26 29,a 31 30,ha 31 w 32 8,p 33 31 (v 32) k0,a 34 33,hf 34 w 35 7 1,hl 34 w 36 35 1,hk 34 w 37 .eql 36 2,p 38 34 (v 37) k0] 38 (Q (.blk 3 (d' [0,0,2,0,14,30,62,127,255] [b 41 2 2,f 42 7 4,b' 43 42 1,a 44 9,i 45 43 44 2,f 46 45 1,b' 47 46 1,c2 48 69 41 47,gk 49 .geq 48 0] (u 49 (R [a 50 5,f 51 7 4,b' 52 51 1,a 53 9,i 54 52 53 2,f 55 54 1,b' 56 55 1,c2 57 137 50 56,e 5 57]) .skip))) (R [a 39 9,gk 40 .add 39 1,e 9 40])))))) (R [a 15 6,gk 16 .add 15 1,e 6 16])))) (q [a 58 5,e 4 58] .ret)))):=kr
theorem agP:Cp 78 27 [.t 4] (q [e' 4 (k 0)] (q [a 6 1,a 7 0,l 8 7,g' 9 .sub 6 8,e 1 9] (y' [a 10 1,gk 11 .lss 10 0] 11 4 (k (-1)) (Q (q [e' 5 (k 0)] (j 0 [a 12 5,a 13 0,l 14 13,g' 15 .lss 12 14] 15 (Q (.blk 1 (q [a 18 0,a 19 5,i 20 18 19 6,b 21 20 6,a 22 1,c2 23 142 21 22,e 1 23] (q [a 24 1,gk 25 .lss 24 0] (u 25 (q [e' 4 (k (-1))] .ret) .skip)))) (R [a 16 5,gk 17 .add 16 1,e 5 17])))) (q [a 26 1,e 4 26] .ret))))):=kr
theorem adF:Cp 79 12 [.t 4] (q [e' 4 (k 0)] (q [a 5 1,a 6 0,l 7 6,g' 8 .sub 5 7,e 1 8] (y' [a 9 1,gk 10 .lss 9 0] 10 4 (k (-1)) (q [a 11 1,e 4 11] .ret)))):=kr
theorem adG:Cp 80 6 [.t 2] (q [bo 1 0,e' 2 k0] (q [f 3 1 0,b' 4 3 1,c 5 131 [v 4,k 1,k 9],e 2 5] .ret)):=kr
theorem iU:Cp 81 67 [.c 4 2 true,.t 5] (q [bo 2 0,bo 3 1,z 4 z6,e' 5 (k 0)] (q [b 10 2 2,c1 11 82 10,z 6 z6,s 6 11 2] (q [b 12 2 2,f 13 3 1,b' 14 13 1,c2 15 143 12 14,e 7 15] (Q (.blk 0 (q [b 17 2 2,c1 18 144 17,n' 19 .not 18,e 16 19] (u 16 (q [b 20 6 2,s 4 20 2,e' 5 (k 1)] .ret) (q [a 22 7,gk 23 .lss 22 0,e 21 23] (u 21 (q [b 24 6 2,s 4 24 2,e' 5 (k 2)] .ret) (q [f 26 2 0,b' 27 26 1,a 28 7,i 29 27 28 6,f 30 29 2,b' 31 30 1,e 25 31] (u 25 (q [b 32 6 2,s 4 32 2,e' 5 (k 7)] .ret) .skip))))))) (d' [0,1,0,7,15,31,0,127,255,511,1023,0,3071,8191] [f 34 2 0,b' 35 34 1,a 36 7,i 37 35 36 6,f 38 37 4,b 39 38 2,b 40 3 6,c2 41 145 39 40,a 33 41,x 42 33 0,x 43 33 1,z 8 z6,s 8 42 2,e 9 43] (Q (d' [0,1,3,7,15,7,39,7,231,487,999,2047,4095] [a 44 9,gk 45 .eql 44 0,a 46 45,hb 46 w 47 8 2,c4 46 w 48 17 47,hf 46 w 49 2 0,hl 46 w 50 49 1,ha 46 w 51 7,h 46 w 52 (idx 52 (v 50) (v 51) 6),hf 46 w 53 52 3,hl 46 w 54 53 1,hg 46 w 55 .gtr (v 48) (v 54),p 56 46 (v 55) k0] (u 56 (R [e' 9 (k 8)]) .skip)) (Q (q [a 57 9,gk 58 .eql 57 0] (u 58 (R [f 59 6 0,b' 60 59 1,a 61 7,b 62 8 2,i 63 60 61 6,f 64 63 4,s 64 62 2]) .skip)) (q [b 65 6 2,a 66 9,s 4 65 2,e 5 66] .ret)))))))):=kr
theorem agQ:Cp 82 32 [.c 2 2 true] (q [bo 1 0,z 2 z6] (q [f 6 1 1,b' 7 6 1,n 8 (bld 8 z6 [(1,1,v 7)]),z 3 z6,s 3 8 2] (Q (q [e' 4 (k 0)] (j 0 [a 9 4,f 10 1 0,b' 11 10 1,l 12 11,g' 13 .lss 9 12] 13 (Q (.blk 1 (q [f 16 1 0,b' 17 16 1,a 18 4,i 19 17 18 6,b 20 19 6,z 5 [.int .i64 0,.str [],.bool r,.int .i64 0,.sl 6 [],.int .i64 0],s 5 20 6] (q [f 21 5 4,b 22 21 2,c1 23 146 22,f 24 5 4,s 24 23 2] (R [f 25 3 0,b' 26 25 1,b 27 5 6,o 28 6 [v 27],n 29 (app 29 (v 26) (v 28) 6 72),f 30 3 0,s 30 29 1])))) (R [a 14 4,gk 15 .add 14 1,e 4 15])))) (q [b 31 3 2,s 2 31 2] .ret)))):=kr
theorem nV:Cp 83 33 [.c 6 2 true,.t 7,.t 8] (q [bo 3 0,z 6 z6,e' 7 (k 0),e' 8 (k 0)] (Q (q [b 9 3 2,c1 10 144 9,n' 11 .not 10,a 12 11,ha 12 r 13 1,c4 12 r 14 147 13,h 12 r 15 (un 15 .not (v 14)),p 16 12 k1 (v 15),a 17 16,ha 17 r 18 2,hc 17 r 19 131 [v 18,k 32,k 4000],h 17 r 20 (un 20 .not (v 19)),p 21 17 k1 (v 20)] (u 21 (q [b 22 3 2,c1 23 82 22,s 6 23 2,e' 7 (k 0),e' 8 (k 1)] .ret) .skip)) (d' [0,0,0,0,14,31,63,127,255,511,1023,2047] [b 24 3 2,a 25 1,a 26 2,c 27 149 [],n 28 (bld 28 [.int .i64 0,.str [],.bool r,.int .i64 0,.sl 6 [],.int .i64 0] [(1,1,v 25),(3,1,v 26),(4,2,v 27)]),c2 29 148 24 28,x 30 29 0,x 31 29 1,x 32 29 2,s 6 30 2,e 7 31,e 8 32] .ret))):=kr
theorem adH:Cp 84 16 [.c 6 2 true,.t 7,.t 8] (q [bo 3 0,z 6 z6,e' 7 (k 0),e' 8 (k 0)] (q [b 9 3 2,a 10 1,a 11 2,c 12 150 [v 9,v 10,v 11,k1],x 13 12 0,x 14 12 1,x 15 12 2,s 6 13 2,e 7 14,e 8 15] .ret)):=kr
theorem abs:Cp 85 16 [.c 6 2 true,.t 7,.t 8] (q [bo 3 0,z 6 z6,e' 7 (k 0),e' 8 (k 0)] (q [b 9 3 2,a 10 1,a 11 2,c 12 150 [v 9,v 10,v 11,k0],x 13 12 0,x 14 12 1,x 15 12 2,s 6 13 2,e 7 14,e 8 15] .ret)):=kr
theorem oV:Cp 86 36 [.c 4 2 true,.t 5] (q [bo 2 0,z 4 z6,e' 5 (k 0)] (q [b 8 2 2,c1 9 82 8,z 6 z6,s 6 9 2] (q [b 10 2 2,a 11 1,c2 12 143 10 11,e 7 12] (Q (.blk 0 (q [b 14 2 2,c1 15 144 14,n' 16 .not 15,e 13 16] (u 13 (q [b 17 6 2,s 4 17 2,e' 5 (k 1)] .ret) (q [a 19 7,gk 20 .lss 19 0,e 18 20] (u 18 (q [b 21 6 2,s 4 21 2,e' 5 (k 2)] .ret) .skip))))) (d' [0,0,2,0,14,31,0,64,0,256,960,2047,4095,8191] [o 22 6 [],f 23 6 0,b' 24 23 1,a 25 7,n 26 (slc 26 (v 24) none (some (v 25)) 6),n 27 (app 27 (v 22) (v 26) 6 72),f 28 6 0,b' 29 28 1,a 30 7,gk 31 .add 30 1,n 32 (slc 32 (v 29) (some (v 31)) none 6),n 33 (app 33 (v 27) (v 32) 6 72),f 34 6 0,s 34 33 1] (q [b 35 6 2,s 4 35 2,e' 5 (k 0)] .ret)))))):=kr
theorem jL:Cp 87 47 [.c 6 2 true,.t 7] (q [bo 3 0,z 6 z6,e' 7 (k 0)] (q [b 10 3 2,c1 11 82 10,z 8 z6,s 8 11 2] (q [b 12 3 2,a 13 1,c2 14 143 12 13,e 9 14] (Q (.blk 0 (q [b 16 3 2,c1 17 144 16,n' 18 .not 17,a 19 18,ha 19 r 20 2,hc 19 r 21 131 [v 20,k 32,k 4000],h 19 r 22 (un 22 .not (v 21)),p 23 19 k1 (v 22),e 15 23] (u 15 (q [b 24 8 2,s 6 24 2,e' 7 (k 1)] .ret) (q [a 26 9,gk 27 .lss 26 0,e 25 27] (u 25 (q [b 28 8 2,s 6 28 2,e' 7 (k 2)] .ret) (q [f 30 3 0,b' 31 30 1,a 32 9,i 33 31 32 6,f 34 33 4,b 35 34 2,c1 36 17 35,a 37 2,g' 38 .gtr 36 37,e 29 38] (u 29 (q [b 39 8 2,s 6 39 2,e' 7 (k 8)] .ret) .skip))))))) (q [f 40 8 0,b' 41 40 1,a 42 9,a 43 2,i 44 41 42 6,f 45 44 3,s 45 43 1] (q [b 46 8 2,s 6 46 2,e' 7 (k 0)] .ret)))))):=kr
theorem agR:Cp 88 23 [.t 2] (q [e' 2 (.c (.own 6 []))] (q [a 5 0,l 6 5,n 7 (mks 7 (v 6) (v 6) 6 72 [.int .i64 0,.str [],.bool r,.int .i64 0,.sl 6 [],.int .i64 0]),e 3 7] (Q (q [e' 4 (k 0)] (j 0 [a 8 4,a 9 0,l 10 9,g' 11 .lss 8 10] 11 (Q (.blk 1 (R [a 14 3,a 15 4,a 16 0,a 17 4,i 18 16 17 6,b 19 18 6,c1 20 151 19,i 21 14 15 6,s 21 20 6])) (R [a 12 4,gk 13 .add 12 1,e 4 13])))) (q [a 22 3,e 2 22] .ret)))):=kr
theorem adI:Cp 89 22 [.t 2] (q [e' 2 (.c (.own 1 []))] (q [a 5 0,l 6 5,n 7 (mks 7 (v 6) (v 6) 1 1 [.int .u8 0]),e 3 7] (Q (q [e' 4 (k 0)] (j 0 [a 8 4,a 9 0,l 10 9,g' 11 .lss 8 10] 11 (Q (.blk 1 (R [a 14 3,a 15 4,a 16 0,a 17 4,i 18 16 17 1,b' 19 18 1,i 20 14 15 1,s 20 19 1])) (R [a 12 4,gk 13 .add 12 1,e 4 13])))) (q [a 21 3,e 2 21] .ret)))):=kr
theorem agS:Cp 90 28 [.c 2 2 true] (q [bo 1 0,z 2 z6] (q [f 6 1 1,b' 7 6 1,n 8 (bld 8 z6 [(1,1,v 7)]),z 3 z6,s 3 8 2] (Q (q [f 9 1 0,b' 10 9 1,l 11 10,n 12 (mov 12 (k 0))] (.blk 0 (.loop (q [g' 13 .lss 12 11] (Q (u 13 .skip (.exit 0)) (Q (.blk 1 (q [i 14 10 12 6,b 15 14 6,z 5 [.int .i64 0,.str [],.bool r,.int .i64 0,.sl 6 [],.int .i64 0],s 5 15 6] (q [f 16 5 4,b 17 16 2,c1 18 58 17,f 19 5 4,s 19 18 2] (R [f 20 3 0,b' 21 20 1,b 22 5 6,o 23 6 [v 22],n 24 (app 24 (v 21) (v 23) 6 72),f 25 3 0,s 25 24 1])))) (R [gk 26 .add 12 1,a 12 26]))))))) (q [b 27 3 2,s 2 27 2] .ret)))):=kr
theorem dO:Cp 91 93 [.c 4 2 true,.t 5] (q [bo 2 0,bo 3 1,z 4 z6,e' 5 (k 0)] (Q (q [f 6 3 0,b' 7 6 1] (.blk 0 (q [gk 9 .eql 7 1,e 8 9] (u 8 (q [b 10 2 2,f 11 3 2,b' 12 11 1,c2 13 152 10 12,x 14 13 0,x 15 13 1,s 4 14 2,e 5 15] .ret) (q [gk 17 .eql 7 2,e 16 17] (u 16 (q [b 18 2 2,f 19 3 2,b' 20 19 1,c2 21 13 18 20,x 22 21 0,x 23 21 1,s 4 22 2,e 5 23] .ret) (q [gk 25 .eql 7 3,e 24 25] (u 24 (q [b 26 2 2,f 27 3 2,b' 28 27 1,f 29 3 4,b' 30 29 1,f 31 3 5,b' 32 31 1,c 33 153 [v 26,v 28,v 30,v 32],x 34 33 0,x 35 33 1,s 4 34 2,e 5 35] .ret) (q [gk 37 .eql 7 4,e 36 37] (u 36 (q [b 38 2 2,f 39 3 2,b' 40 39 1,f 41 3 4,b' 42 41 1,c3 43 154 38 40 42,x 44 43 0,x 45 43 1,s 4 44 2,e 5 45] .ret) (q [gk 47 .eql 7 5,e 46 47] (u 46 (q [b 48 2 2,f 49 3 2,b' 50 49 1,c2 51 155 48 50,x 52 51 0,x 53 51 1,s 4 52 2,e 5 53] .ret) (q [gk 55 .eql 7 6,e 54 55] (u 54 (q [b 56 2 2,f 57 3 2,b' 58 57 1,c2 59 156 56 58,x 60 59 0,x 61 59 1,s 4 60 2,e 5 61] .ret) (q [gk 63 .eql 7 7,e 62 63] (u 62 (q [b 64 2 2,f 65 3 2,b' 66 65 1,f 67 3 3,b' 68 67 1,c3 69 157 64 66 68,x 70 69 0,x 71 69 1,s 4 70 2,e 5 71] .ret) (q [gk 73 .eql 7 8,e 72 73] (u 72 (q [b 74 2 2,f 75 3 2,b' 76 75 1,f 77 3 3,b' 78 77 1,c3 79 158 74 76 78,x 80 79 0,x 81 79 1,s 4 80 2,e 5 81] .ret) .skip)))))))))))))))))) (q [b 82 2 2,f 83 3 2,b' 84 83 1,f 85 3 3,b' 86 85 1,f 87 3 5,b' 88 87 1,n 89 (b2s 89 (v 88)),c 90 14 [v 82,v 84,v 86,v 89],x 91 90 0,x 92 90 1,s 4 91 2,e 5 92] .ret))):=kr
theorem agT:Cp 92 27 [.t 4] (q [e' 4 k0] (y' [a 6 0,l 7 6,a 8 1,l 9 8,g' 10 .neq 7 9] 10 4 k0 (Q (q [e' 5 (k 0)] (j 0 [a 11 5,a 12 0,l 13 12,g' 14 .lss 11 13] 14 (Q (.blk 1 (d' [0,0,3,7,0,0,48,112,255,511] [a 17 0,a 18 5,i 19 17 18 6,b 20 19 6,a 21 1,a 22 5,i 23 21 22 6,b 24 23 6,c2 25 159 20 24,n' 26 .not 25] (u 26 (q [e' 4 k0] .ret) .skip))) (R [a 15 5,gk 16 .add 15 1,e 5 16])))) (q [e' 4 k1] .ret)))):=kr
theorem adJ:Cp 93 26 [.t 4] (q [e' 4 k0] (y' [a 6 0,l 7 6,a 8 1,l 9 8,g' 10 .neq 7 9] 10 4 k0 (Q (q [e' 5 (k 0)] (j 0 [a 11 5,a 12 0,l 13 12,g' 14 .lss 11 13] 14 (Q (.blk 1 (d' [0,0,3,7,0,0,48,112,255] [a 17 0,a 18 5,i 19 17 18 1,b' 20 19 1,a 21 1,a 22 5,i 23 21 22 1,b' 24 23 1,g' 25 .neq 20 24] (u 25 (q [e' 4 k0] .ret) .skip))) (R [a 15 5,gk 16 .add 15 1,e 5 16])))) (q [e' 4 k1] .ret)))):=kr
theorem abt:Cp 94 60 [.t 4] (q [e' 4 (k 0)] (Q (q [e' 5 (k 0)] (j 0 [a 6 5,a 7 0,l 8 7,g' 9 .lss 6 8] 9 (Q (.blk 1 (q [a 12 0,a 13 5,a 14 1,i 15 12 13 6,f 16 15 0,s 16 14 1] (q [a 17 1,gk 18 .add 17 1,e 1 18] (q [a 19 0,a 20 5,a 21 1,c1 22 160 21,i 23 19 20 6,f 24 23 1,s 24 22 1] (q [a 25 1,gk 26 .add 25 1,e 1 26] (q [a 27 0,a 28 5,a 29 1,gk 30 .rem 29 3,gk 31 .eql 30 0,i 32 27 28 6,f 33 32 2,s 33 31 1] (q [a 34 1,gk 35 .add 34 1,e 1 35] (q [a 36 0,a 37 5,a 38 1,i 39 36 37 6,f 40 39 3,s 40 38 1] (q [a 41 1,gk 42 .add 41 1,e 1 42] (q [a 43 0,a 44 5,i 45 43 44 6,f 46 45 4,f 47 46 0,b' 48 47 1,a 49 1,c2 50 161 48 49,e 1 50] (q [a 51 0,a 52 5,a 53 1,i 54 51 52 6,f 55 54 4,f 56 55 1,s 56 53 1] (R [a 57 1,gk 58 .add 57 1,e 1 58])))))))))))) (R [a 10 5,gk 11 .add 10 1,e 5 11])))) (q [a 59 1,e 4 59] .ret))):=kr
theorem zU:Cp 95 20 [.t 4] (q [e' 4 (k 0)] (Q (q [e' 5 (k 0)] (j 0 [a 6 5,a 7 0,l 8 7,g' 9 .lss 6 8] 9 (Q (.blk 1 (q [a 12 0,a 13 5,a 14 1,n 15 (conv 15 .u8 (v 14)),i 16 12 13 1,s 16 15 1] (R [a 17 1,gk 18 .add 17 1,e 1 18]))) (R [a 10 5,gk 11 .add 10 1,e 5 11])))) (q [a 19 1,e 4 19] .ret))):=kr
theorem abu:Cp 96 72 [.t 4] (q [e' 4 (k 0)] (Q (q [e' 5 (k 0)] (j 0 [a 6 5,a 7 0,l 8 7,g' 9 .lss 6 8] 9 (Q (.blk 1 (y' [a 12 0,a 13 5,i 14 12 13 6,f 15 14 0,b' 16 15 1,a 17 1,g' 18 .neq 16 17] 18 4 (k (-1)) (q [a 19 1,gk 20 .add 19 1,e 1 20] (Q (d' [0,0,3,7,15,0,32,127] [a 21 0,a 22 5,i 23 21 22 6,f 24 23 1,b' 25 24 1,a 26 1,c1 27 160 26,g' 28 .neq 25 27] (u 28 (q [e' 4 (k (-1))] .ret) .skip)) (q [a 29 1,gk 30 .add 29 1,e 1 30] (y' [a 31 0,a 32 5,i 33 31 32 6,f 34 33 2,b' 35 34 1,a 36 1,gk 37 .rem 36 3,gk 38 .eql 37 0,n 39 (beq 39 w (v 35) (v 38))] 39 4 (k (-1)) (q [a 40 1,gk 41 .add 40 1,e 1 41] (y' [a 42 0,a 43 5,i 44 42 43 6,f 45 44 3,b' 46 45 1,a 47 1,g' 48 .neq 46 47] 48 4 (k (-1)) (q [a 49 1,gk 50 .add 49 1,e 1 50] (q [a 51 0,a 52 5,i 53 51 52 6,f 54 53 4,f 55 54 0,b' 56 55 1,a 57 1,c2 58 162 56 57,e 1 58] (y' [a 59 1,gk 60 .lss 59 0] 60 4 (k (-1)) (y' [a 61 0,a 62 5,i 63 61 62 6,f 64 63 4,f 65 64 1,b' 66 65 1,a 67 1,g' 68 .neq 66 67] 68 4 (k (-1)) (R [a 69 1,gk 70 .add 69 1,e 1 70]))))))))))))) (R [a 10 5,gk 11 .add 10 1,e 5 11])))) (q [a 71 1,e 4 71] .ret))):=kr
theorem pQ:Cp 97 49 [.c 8 2 true,.t 9,.t 10] (q [bo 4 0,z 8 z6,e' 9 (k 0),e' 10 (k 0)] (q [b 12 4 2,c1 13 90 12,s 4 13 2] (Q (q [b 14 4 2,c1 15 37 14,n' 16 .not 15,a 17 16,ha 17 r 18 2,c4 17 r 19 60 18,h 17 r 20 (un 20 .not (v 19)),p 21 17 k1 (v 20)] (u 21 (q [b 22 4 2,s 8 22 2,e' 9 (k 0),e' 10 (k 1)] .ret) .skip)) (q [b 23 4 2,a 24 1,c2 25 46 23 24,e 11 25] (Q (q [a 26 11,gk 27 .lss 26 0] (u 27 (q [b 28 4 2,s 8 28 2,e' 9 (k 0),e' 10 (k 2)] .ret) .skip)) (d' [0,0,0,0,8,0,56,120,248,0,512,0,3584,7680,15872,32766,65535,131071,262143,524287,1048575,2097151,4194303] [b 29 4 2,a 30 2,a 31 3,f 32 4 0,b' 33 32 1,a 34 11,i 35 33 34 6,f 36 35 3,b' 37 36 1,f 38 4 0,b' 39 38 1,a 40 11,i 41 39 40 6,f 42 41 4,b 43 42 2,n 44 (bld 44 [.int .i64 0,.str [],.bool r,.int .i64 0,.sl 6 [],.int .i64 0] [(1,1,v 30),(2,1,v 31),(3,1,v 37),(4,2,v 43)]),c2 45 102 29 44,x 46 45 0,x 47 45 1,x 48 45 2,s 8 46 2,e 9 47,e 10 48] .ret)))))):=kr
theorem amk:Cp 99 15 [.t 6] (q [e' 6 k0] (q [a 7 0,a 8 1,g' 9 .geq 7 8,a 10 9,ha 10 w 11 0,ha 10 w 12 2,hg 10 w 13 .leq (v 11) (v 12),p 14 10 (v 13) k0,e 6 14] .ret)):=kr
theorem abv:Cp 100 9 [.t 4] (q [bo 2 0,bo 3 1,e' 4 (k 0)] (q [f 5 2 0,b' 6 5 1,n 7 (mkf 7 163 [v 3]),c2 8 108 6 7,e 4 8] .ret)):=kr
theorem adK:Cp 101 5 [.t 2] (q [e' 2 k0] (q [a 3 0,c 4 99 [v 3,k 32,k 4000],e 2 4] .ret)):=kr
theorem fS:Cp 102 45 [.c 4 2 true,.t 5,.t 6] (q [bo 2 0,bo 3 1,z 4 z6,e' 5 (k 0),e' 6 (k 0)] (Q (.blk 0 (q [b 8 2 2,f 9 3 1,b' 10 9 1,c2 11 100 8 10,gk 12 .geq 11 0,e 7 12] (u 7 (q [b 13 2 2,s 4 13 2,e' 5 (k 0),e' 6 (k 4)] .ret) (q [f 15 2 0,b' 16 15 1,l 17 16,gk 18 .eql 17 6,a 19 18,hf 19 r 20 2 1,hl 19 r 21 20 1,hk 19 r 22 .eql 21 99,p 23 19 k1 (v 22),e 14 23] (u 14 (q [b 24 2 2,s 4 24 2,e' 5 (k 0),e' 6 (k 5)] .ret) .skip))))) (q [f 25 2 1,b' 26 25 1,f 27 3 0,s 27 26 1] (q [f 28 3 4,b 29 28 2,c1 30 58 29,f 31 3 4,s 31 30 2] (q [f 32 2 0,b' 33 32 1,b 34 3 6,o 35 6 [v 34],n 36 (app 36 (v 33) (v 35) 6 72),f 37 2 0,s 37 36 1] (q [f 38 2 1,b' 39 38 1,gk 40 .add 39 1,f 41 2 1,s 41 40 1] (d' [0,0,2,1,15,31] [b 42 2 2,f 43 3 0,b' 44 43 1,s 4 42 2,e 5 44,e' 6 (k 0)] .ret))))))):=kr
theorem agU:Cp 103 4 [.c 0 2 true] (q [z 0 z6] (q [n 1 (bld 1 zi [(0,1,k 1),(1,1,k 2)]),o 2 6 [v 1],n 3 (bld 3 z6 [(0,1,v 2),(1,1,k 2)]),s 0 3 2] .ret)):=kr
theorem q0:Cp 108 19 [.t 4] (q [e' 4 (k 0)] (Q (q [a 6 0,l 7 6,n 8 (mov 8 (k 0))] (.blk 0 (.loop (q [g' 9 .lss 8 7] (Q (u 9 .skip (.exit 0)) (Q (.blk 1 (q [a 10 8,e 5 10] (q [a 11 1,a 12 0,a 13 5,i 14 12 13 6,b 15 14 6,n 16 (callv (some 16) (v 11) [v 15])] (u 16 (q [a 17 5,e 4 17] .ret) .skip)))) (R [gk 18 .add 8 1,a 8 18]))))))) (q [e' 4 (k (-1))] .ret))):=kr
theorem adL:Cp 109 8 [.t 3] (q [bo 2 0,e' 3 k0] (q [f 4 2 0,b' 5 4 1,b' 6 1 1,g' 7 .eql 5 6,e 3 7] .ret)):=kr
theorem adM:Cp 118 94 [.t 2] (q [bo 1 0,e' 2 k0] (y' [f 5 1 0,b' 6 5 1,c 7 99 [v 6,k 1,k 1000],n' 8 .not 7,a 9 8,hf 9 r 10 1 3,hl 9 r 11 10 1,h 9 r 12 (len 12 (v 11)),hk 9 r 13 .gtr 12 100,p 14 9 k1 (v 13),a 15 14,hf 15 r 16 1 4,hl 15 r 17 16 1,h 15 r 18 (len 18 (v 17)),hk 15 r 19 .gtr 18 10,p 20 15 k1 (v 19),a 21 20,hf 21 r 22 1 5,hl 21 r 23 22 1,c4 21 r 24 175 23,h 21 r 25 (un 25 .not (v 24)),p 26 21 k1 (v 25)] 26 2 k0 (Q (q [f 27 1 4,b' 28 27 1,l 29 28,n 30 (mov 30 (k 0))] (.blk 0 (.loop (q [g' 31 .lss 30 29] (Q (u 31 .skip (.exit 0)) (Q (.blk 1 (q [a 32 30,i 33 28 30 2,b 34 33 2,z 4 [.str [],.int .i64 0],e 3 32,s 4 34 2] (d' [0,1,3,7,15,31,63,127,255,511,1023,2047,4095,8191,16383,32767,16383,81919,262143,524287,1048575,16383,2113535,8388607,16777215,33554431] [f 35 4 0,b' 36 35 1,c1 37 60 36,n' 38 .not 37,a 39 38,hf 39 r 40 4 1,hl 39 r 41 40 1,hc 39 r 42 99 [v 41,k 2,k 1000],h 39 r 43 (un 43 .not (v 42)),p 44 39 k1 (v 43),a 45 44,ha 45 r 46 3,hk 45 r 47 .gtr 46 0,ha 45 r 48 47,hf 48 w 49 1 4,hl 48 w 50 49 1,ha 48 w 51 3,hk 48 w 52 .sub 51 1,h 48 w 53 (idx 53 (v 50) (v 52) 2),hf 48 w 54 53 0,hl 48 w 55 54 1,hf 48 w 56 4 0,hl 48 w 57 56 1,hg 48 w 58 .geq (v 55) (v 57),h 45 r 59 (pck 59 (v 48) (v 58) k0),p 60 45 k1 (v 59)] (u 60 (q [e' 2 k0] .ret) .skip)))) (R [gk 61 .add 30 1,a 30 61]))))))) (y' [f 62 1 2,b' 63 62 1,c 64 99 [v 63,k 0,k 1000],n' 65 .not 64,a 66 65,hf 66 r 67 1 2,hl 66 r 68 67 1,hk 66 r 69 .eql 68 0,hf 66 r 70 1 0,hl 66 r 71 70 1,hk 66 r 72 .eql 71 1,h 66 r 73 (beq 73 w (v 69) (v 72)),p 74 66 k1 (v 73)] 74 2 k0 (Q (q [f 75 1 1,b' 76 75 1] (.blk 2 (q [gk 78 .eql 76 1,e 77 78] (u 77 (q [f 79 1 4,b' 80 79 1,l 81 80,gk 82 .eql 81 0,e 2 82] .ret) (q [gk 84 .eql 76 2,e 83 84] (u 83 (q [f 85 1 3,b' 86 85 1,l 87 86,gk 88 .eql 87 0,a 89 88,hf 89 w 90 1 2,hl 89 w 91 90 1,hk 89 w 92 .leq 91 1,p 93 89 (v 92) k0,e 2 93] .ret) .skip)))))) (q [e' 2 k0] .ret)))))):=kr
theorem oW:Cp 119 19 [.t 4] (q [e' 4 (k 0)] (Q (q [a 6 0,l 7 6,n 8 (mov 8 (k 0))] (.blk 0 (.loop (q [g' 9 .lss 8 7] (Q (u 9 .skip (.exit 0)) (Q (.blk 1 (q [a 10 8,e 5 10] (q [a 11 1,a 12 0,a 13 5,i 14 12 13 6,b 15 14 6,n 16 (callv (some 16) (v 11) [v 15])] (u 16 (q [a 17 5,e 4 17] .ret) .skip)))) (R [gk 18 .add 8 1,a 8 18]))))))) (q [e' 4 (k (-1))] .ret))):=kr
theorem zV:Cp 120 8 [.t 3] (q [bo 2 0,e' 3 k0] (q [f 4 2 0,b' 5 4 1,b' 6 1 1,g' 7 .eql 5 6,e 3 7] .ret)):=kr
theorem q7:Cp 121 34 [.c 4 7 true,.t 5] (q [bo 2 0,z 4 [.int .i64 0,.int .i64 0,.int .i64 0,.sl 1 [],.sl 2 [],.sl 2 [],.str []],e' 5 (k 0)] (q [a 12 1,c1 13 176 12,a 11 13,x 14 11 0,x 15 11 1,x 16 11 2,e 6 14,e 7 15,e 8 16] (q [b 18 2 2,a 19 6,c2 20 61 18 19,a 17 20,x 21 17 0,x 22 17 1,z 9 zi,s 9 21 6,e 10 22] (Q (q [a 23 10,gk 24 .neq 23 0] (u 24 (q [n 25 (bld 25 [.int .i64 0,.int .i64 0,.int .i64 0,.sl 1 [],.sl 2 [],.sl 2 [],.str []] []),a 26 10,s 4 25 7,e 5 26] .ret) .skip)) (Q (q [f 27 9 1,b' 28 27 1,gk 29 .neq 28 2] (u 29 (q [n 30 (bld 30 [.int .i64 0,.int .i64 0,.int .i64 0,.sl 1 [],.sl 2 [],.sl 2 [],.str []] []),s 4 30 7,e' 5 (k 3)] .ret) .skip)) (q [b 31 9 6,a 32 7,n 33 (bld 33 [.int .i64 0,.int .i64 0,.int .i64 0,.sl 1 [],.sl 2 [],.sl 2 [],.str []] [(0,6,v 31),(6,1,v 32)]),s 4 33 7,e' 5 (k 0)] .ret)))))):=kr
theorem ajl:Cp 122 21 [.t 4] (q [bo 2 0,e' 4 (k 0)] (Q (q [f 7 2 4,b' 8 7 1,l 9 8,n 10 (mov 10 (k 0))] (.blk 0 (.loop (q [g' 11 .lss 10 9] (Q (u 11 .skip (.exit 0)) (Q (.blk 1 (q [i 12 8 10 2,b 13 12 2,z 6 [.str [],.int .i64 0],s 6 13 2] (q [f 14 6 0,b' 15 14 1,a 16 1,g' 17 .eql 15 16] (u 17 (q [f 18 6 1,b' 19 18 1,e 4 19] .ret) .skip)))) (R [gk 20 .add 10 1,a 10 20]))))))) (q [e' 4 (k 0)] .ret))):=kr
theorem oJ:Cp 123 36 [.c 6 2 true] (q [bo 3 0,bo 4 1,z 6 z6] (q [f 8 3 0,f 9 8 4,b' 10 9 1,n 11 (mkf 11 178 [v 3]),c2 12 177 10 11,e 7 12] (Q (q [a 13 7,gk 14 .lss 13 0] (u 14 (R [f 15 3 0,f 16 15 4,b' 17 16 1,l 18 17,e 7 18]) .skip)) (d' [0,1,3,7,0,0,32,0,224,480,1023,2047,4095,8191] [f 19 3 0,f 20 19 4,b' 21 20 1,c1 22 180 21,a 23 7,f 24 3 6,b' 25 24 1,a 26 2,n 27 (bld 27 [.str [],.int .i64 0] [(0,1,v 25),(1,1,v 26)]),o 28 2 [v 27],c3 29 179 22 23 28,f 30 3 0,f 31 30 4,s 31 29 1] (q [b 32 4 2,f 33 3 0,b 34 33 6,c2 35 66 32 34,s 6 35 2] .ret))))):=kr
theorem zW:Cp 124 16 [.c 2 6 true] (q [bo 1 0,z 2 zi] (q [f 3 1 3,b' 4 3 1,c1 5 164 4,f 6 1 3,s 6 5 1] (q [f 7 1 4,b' 8 7 1,c1 9 180 8,f 10 1 4,s 10 9 1] (q [f 11 1 5,b' 12 11 1,c1 13 181 12,f 14 1 5,s 14 13 1] (q [b 15 1 6,s 2 15 6] .ret))))):=kr
theorem f0:Cp 125 26 [.t 2,.t 3] (q [e' 2 (.c (.own 1 [])),e' 3 k0] (Q (q [a 5 0,g 6 .eql (v 5) (.c (.str [47]))] (u 6 (q [e' 2 (.c (.own 1 [])),e' 3 k1] .ret) .skip)) (q [a 7 0,c 8 182 [v 7,.c (.str [47])],e 4 8] (Q (q [a 9 4,n 10 (idx 10 (v 9) (k 0) 1),b' 11 10 1,g 12 .neq (v 11) (.c (.str [])),a 13 12,ha 13 r 14 4,h 13 r 15 (len 15 (v 14)),hk 13 r 16 .lss 15 2,p 17 13 k1 (v 16),a 18 17,ha 18 r 19 4,h 18 r 20 (slc 20 (v 19) (some (k 1)) none 1),c4 18 r 21 183 20,h 18 r 22 (un 22 .not (v 21)),p 23 18 k1 (v 22)] (u 23 (q [e' 2 (.c (.own 1 [])),e' 3 k0] .ret) .skip)) (q [a 24 4,n 25 (slc 25 (v 24) (some (k 1)) none 1),e 2 25,e' 3 k1] .ret))))):=kr
theorem afk:Cp 126 46 [.t 4,.t 5] (q [bo 2 0,e' 4 (k 0),e' 5 (k 0)] (q [a 14 1,c1 15 125 14,a 13 15,x 16 13 0,x 17 13 1,e 6 16,e 7 17] (Q (q [a 18 7,n' 19 .not 18] (u 19 (q [e' 4 (k 0),e' 5 (k 1)] .ret) .skip)) (q [e' 8 (k 1)] (Q (q [a 20 6,l 21 20,n 22 (mov 22 (k 0))] (.blk 0 (.loop (q [g' 23 .lss 22 21] (Q (u 23 .skip (.exit 0)) (Q (.blk 1 (q [i 24 20 22 1,b' 25 24 1,e 10 25] (q [b 27 2 2,a 28 8,c2 29 70 27 28,a 26 29,x 30 26 0,x 31 26 1,z 11 zi,s 11 30 6,e 12 31] (Q (.blk 2 (q [a 33 12,n' 34 .not 33,e 32 34] (u 32 (q [e' 4 (k 0),e' 5 (k 2)] .ret) (q [f 36 11 1,b' 37 36 1,gk 38 .neq 37 2,e 35 38] (u 35 (q [e' 4 (k 0),e' 5 (k 3)] .ret) .skip))))) (q [b 39 11 6,a 40 10,c2 41 122 39 40,e 8 41] (q [a 42 8,gk 43 .eql 42 0] (u 43 (q [e' 4 (k 0),e' 5 (k 2)] .ret) .skip))))))) (R [gk 44 .add 22 1,a 22 44]))))))) (q [a 45 8,e 4 45,e' 5 (k 0)] .ret)))))):=kr
theorem wS:Cp 129 9 [.t 3] (q [bo 2 0,e' 3 k0] (q [f 4 2 0,b' 5 4 1,f 6 1 0,b' 7 6 1,g' 8 .gtr 5 7,e 3 8] .ret)):=kr
theorem afl:Cp 131 15 [.t 6] (q [e' 6 k0] (q [a 7 0,a 8 1,g' 9 .geq 7 8,a 10 9,ha 10 w 11 0,ha 10 w 12 2,hg 10 w 13 .leq (v 11) (v 12),p 14 10 (v 13) k0,e 6 14] .ret)):=kr
theorem adN:Cp 132 59 [.t 2] (q [bo 1 0,e' 2 k0] (y' [f 3 1 0,b' 4 3 1,c 5 131 [v 4,k 1,k 1000],n' 6 .not 5,a 7 6,hf 7 r 8 1 2,hl 7 r 9 8 1,hc 7 r 10 131 [v 9,k 0,k 1000],h 7 r 11 (un 11 .not (v 10)),p 12 7 k1 (v 11),a 13 12,hf 13 r 14 1 2,hl 13 r 15 14 1,hk 13 r 16 .eql 15 0,hf 13 r 17 1 0,hl 13 r 18 17 1,hk 13 r 19 .eql 18 1,h 13 r 20 (beq 20 w (v 16) (v 19)),p 21 13 k1 (v 20),a 22 21,hf 22 r 23 1 3,hl 22 r 24 23 1,h 22 r 25 (len 25 (v 24)),hk 22 r 26 .gtr 25 100,p 27 22 k1 (v 26),a 28 27,hf 28 r 29 1 4,hl 28 r 30 29 1,c4 28 r 31 187 30,h 28 r 32 (un 32 .not (v 31)),p 33 28 k1 (v 32),a 34 33,hf 34 r 35 1 5,hl 34 r 36 35 1,c4 34 r 37 188 36,h 34 r 38 (un 38 .not (v 37)),p 39 34 k1 (v 38)] 39 2 k0 (Q (q [f 40 1 1,b' 41 40 1] (.blk 0 (q [gk 43 .eql 41 1,e 42 43] (u 42 (q [f 44 1 4,b' 45 44 1,l 46 45,gk 47 .eql 46 0,e 2 47] .ret) (q [gk 49 .eql 41 2,e 48 49] (u 48 (q [f 50 1 3,b' 51 50 1,l 52 51,gk 53 .eql 52 0,a 54 53,hf 54 w 55 1 2,hl 54 w 56 55 1,hk 54 w 57 .leq 56 1,p 58 54 (v 57) k0,e 2 58] .ret) .skip)))))) (q [e' 2 k0] .ret)))):=kr
theorem zY:Cp 133 19 [.t 4] (q [e' 4 (k 0)] (Q (q [a 6 0,l 7 6,n 8 (mov 8 (k 0))] (.blk 0 (.loop (q [g' 9 .lss 8 7] (Q (u 9 .skip (.exit 0)) (Q (.blk 1 (q [a 10 8,e 5 10] (q [a 11 1,a 12 0,a 13 5,i 14 12 13 1,b' 15 14 1,g' 16 .eql 11 15] (u 16 (q [a 17 5,e 4 17] .ret) .skip)))) (R [gk 18 .add 8 1,a 8 18]))))))) (q [e' 4 (k (-1))] .ret))):=kr
theorem uZ:Cp 136 19 [.c 4 6 true,.t 5] (q [bo 2 0,z 4 zi,e' 5 k0] (q [b 7 2 2,a 8 1,c2 9 69 7 8,e 6 9] (Q (q [a 10 6,gk 11 .lss 10 0] (u 11 (q [n 12 (bld 12 zi []),s 4 12 6,e' 5 k0] .ret) .skip)) (q [f 13 2 0,b' 14 13 1,a 15 6,i 16 14 15 6,b 17 16 6,c1 18 200 17,s 4 18 6,e' 5 k1] .ret)))):=kr
theorem abw:Cp 137 46 [.t 4] (q [e' 4 (.c (.own 1 []))] (Q (q [a 7 0,a 8 1,c2 9 201 7 8] (u 9 (q [a 10 0,e 4 10] .ret) .skip)) (q [o 11 1 [],a 12 0,n 13 (app 13 (v 11) (v 12) 1 8),a 14 1,o 15 1 [v 14],n 16 (app 16 (v 13) (v 15) 1 8),e 5 16] (q [a 17 5,l 18 17,gk 19 .sub 18 1,e 6 19] (Q (j 0 [a 20 6,gk 21 .gtr 20 0,a 22 21,ha 22 w 23 5,ha 22 w 24 6,hk 22 w 25 .sub 24 1,h 22 w 26 (idx 26 (v 23) (v 25) 1),hl 22 w 27 26 1,ha 22 w 28 1,hg 22 w 29 .gtr (v 27) (v 28),p 30 22 (v 29) k0] 30 (.blk 1 (q [a 31 5,a 32 6,a 33 5,a 34 6,gk 35 .sub 34 1,i 36 33 35 1,b' 37 36 1,i 38 31 32 1,s 38 37 1] (R [a 39 6,gk 40 .sub 39 1,e 6 40])))) (q [a 41 5,a 42 6,a 43 1,i 44 41 42 1,s 44 43 1] (q [a 45 5,e 4 45] .ret))))))):=kr
theorem ajm:Cp 142 19 [.t 4] (q [bo 2 0,e' 4 (k 0)] (q [a 5 1,f 6 2 1,b' 7 6 1,n 8 (lens 8 (v 7)),g' 9 .sub 5 8,e 1 9] (y' [a 10 1,gk 11 .lss 10 0] 11 4 (k (-1)) (q [f 12 2 4,b 13 12 2,a 14 1,c2 15 211 13 14,e 1 15] (y' [a 16 1,gk 17 .lss 16 0] 17 4 (k (-1)) (q [a 18 1,e 4 18] .ret)))))):=kr
theorem ajn:Cp 143 22 [.t 4] (q [bo 2 0,e' 4 (k 0)] (Q (q [e' 5 (k 0)] (j 0 [a 6 5,f 7 2 0,b' 8 7 1,l 9 8,g' 10 .lss 6 9] 10 (Q (.blk 1 (q [f 13 2 0,b' 14 13 1,a 15 5,i 16 14 15 6,f 17 16 0,b' 18 17 1,a 19 1,g' 20 .eql 18 19] (u 20 (q [a 21 5,e 4 21] .ret) .skip))) (R [a 11 5,gk 12 .add 11 1,e 5 12])))) (q [e' 4 (k (-1))] .ret))):=kr
theorem aml:Cp 144 87 [.t 2] (q [bo 1 0,e' 2 k0] (y' [f 5 1 0,b' 6 5 1,l 7 6,gk 8 .gtr 7 6,a 9 8,hf 9 r 10 1 1,hl 9 r 11 10 1,hc 9 r 12 131 [v 11,k 1,k 99],h 9 r 13 (un 13 .not (v 12)),p 14 9 k1 (v 13)] 14 2 k0 (Q (q [e' 3 (k 0)] (j 0 [a 15 3,f 16 1 0,b' 17 16 1,l 18 17,g' 19 .lss 15 18] 19 (Q (.blk 1 (q [f 22 1 0,b' 23 22 1,a 24 3,i 25 23 24 6,b 26 25 6,z 4 [.int .i64 0,.str [],.bool r,.int .i64 0,.sl 6 [],.int .i64 0],s 4 26 6] (d' [0,1,3,7,15,31,15,79,255,511,1023,2047,4095,8191,16383,32767,16383,81919,262143,524287,1048575,16383,2113535,8388607,16777215,33554431,67108863,134217727,268435455,536870911,1073741823,2147483647,4294967295,8589934591,8589934591,25769803775,68719476735,8589934591,274877906943,549755813887,1099511627775,2199023255551,4398046511103,8796093022207,17592186044415,35184372088831,70368744177663,140737488355327,281474976710655,562949953421311,1125899906842623,2251799813685247,4503599627370495,9007199254740991,18014398509481983,36028797018963967,9007199254740991,81064793292668927,288230376151711743,576460752303423487] [f 27 4 0,b' 28 27 1,gk 29 .lss 28 1,a 30 29,hf 30 r 31 4 0,hl 30 r 32 31 1,hf 30 r 33 1 1,hl 30 r 34 33 1,hg 30 r 35 .geq (v 32) (v 34),p 36 30 k1 (v 35),a 37 36,ha 37 r 38 3,hk 37 r 39 .gtr 38 0,ha 37 r 40 39,hf 40 w 41 1 0,hl 40 w 42 41 1,ha 40 w 43 3,hk 40 w 44 .sub 43 1,h 40 w 45 (idx 45 (v 42) (v 44) 6),hf 40 w 46 45 0,hl 40 w 47 46 1,hf 40 w 48 4 0,hl 40 w 49 48 1,hg 40 w 50 .geq (v 47) (v 49),h 37 r 51 (pck 51 (v 40) (v 50) k0),p 52 37 k1 (v 51),a 53 52,hf 53 r 54 4 1,hl 53 r 55 54 1,c4 53 r 56 147 55,h 53 r 57 (un 57 .not (v 56)),p 58 53 k1 (v 57),a 59 58,hb 59 r 60 1 2,hf 59 r 61 4 1,hl 59 r 62 61 1,hc 59 r 63 212 [v 60,v 62],ha 59 r 64 3,hg 59 r 65 .neq (v 63) (v 64),p 66 59 k1 (v 65),a 67 66,hf 67 r 68 4 3,hl 67 r 69 68 1,hc 67 r 70 131 [v 69,k 32,k 4000],h 67 r 71 (un 71 .not (v 70)),p 72 67 k1 (v 71),a 73 72,hf 73 r 74 4 4,hb 73 r 75 74 2,c4 73 r 76 15 75,h 73 r 77 (un 77 .not (v 76)),p 78 73 k1 (v 77),a 79 78,hf 79 r 80 4 4,hb 79 r 81 80 2,c4 79 r 82 17 81,hf 79 r 83 4 3,hl 79 r 84 83 1,hg 79 r 85 .gtr (v 82) (v 84),p 86 79 k1 (v 85)] (u 86 (q [e' 2 k0] .ret) .skip)))) (R [a 20 3,gk 21 .add 20 1,e 3 21])))) (q [e' 2 k1] .ret)))):=kr
theorem c8:Cp 145 93 [.c 4 2 true,.t 5] (q [bo 2 0,bo 3 1,z 4 z6,e' 5 (k 0)] (Q (q [f 6 3 0,b' 7 6 1] (.blk 0 (q [gk 9 .eql 7 1,e 8 9] (u 8 (q [b 10 2 2,f 11 3 2,b' 12 11 1,c2 13 213 10 12,x 14 13 0,x 15 13 1,s 4 14 2,e 5 15] .ret) (q [gk 17 .eql 7 2,e 16 17] (u 16 (q [b 18 2 2,f 19 3 2,b' 20 19 1,c2 21 214 18 20,x 22 21 0,x 23 21 1,s 4 22 2,e 5 23] .ret) (q [gk 25 .eql 7 3,e 24 25] (u 24 (q [b 26 2 2,f 27 3 2,b' 28 27 1,f 29 3 4,b' 30 29 1,f 31 3 5,b' 32 31 1,c 33 215 [v 26,v 28,v 30,v 32],x 34 33 0,x 35 33 1,s 4 34 2,e 5 35] .ret) (q [gk 37 .eql 7 4,e 36 37] (u 36 (q [b 38 2 2,f 39 3 2,b' 40 39 1,f 41 3 4,b' 42 41 1,c3 43 216 38 40 42,x 44 43 0,x 45 43 1,s 4 44 2,e 5 45] .ret) (q [gk 47 .eql 7 5,e 46 47] (u 46 (q [b 48 2 2,f 49 3 2,b' 50 49 1,c2 51 217 48 50,x 52 51 0,x 53 51 1,s 4 52 2,e 5 53] .ret) (q [gk 55 .eql 7 6,e 54 55] (u 54 (q [b 56 2 2,f 57 3 2,b' 58 57 1,c2 59 218 56 58,x 60 59 0,x 61 59 1,s 4 60 2,e 5 61] .ret) (q [gk 63 .eql 7 7,e 62 63] (u 62 (q [b 64 2 2,f 65 3 2,b' 66 65 1,f 67 3 3,b' 68 67 1,c3 69 219 64 66 68,x 70 69 0,x 71 69 1,s 4 70 2,e 5 71] .ret) (q [gk 73 .eql 7 8,e 72 73] (u 72 (q [b 74 2 2,f 75 3 2,b' 76 75 1,f 77 3 3,b' 78 77 1,c3 79 220 74 76 78,x 80 79 0,x 81 79 1,s 4 80 2,e 5 81] .ret) .skip)))))))))))))))))) (q [b 82 2 2,f 83 3 2,b' 84 83 1,f 85 3 3,b' 86 85 1,f 87 3 5,b' 88 87 1,n 89 (b2s 89 (v 88)),c 90 221 [v 82,v 84,v 86,v 89],x 91 90 0,x 92 90 1,s 4 91 2,e 5 92] .ret))):=kr
theorem agV:Cp 146 27 [.c 2 2 true] (q [bo 1 0,z 2 z6] (q [f 5 1 1,b' 6 5 1,n 7 (bld 7 z6 [(1,1,v 6)]),z 3 z6,s 3 7 2] (Q (q [e' 4 (k 0)] (j 0 [a 8 4,f 9 1 0,b' 10 9 1,l 11 10,g' 12 .lss 8 11] 12 (Q (.blk 1 (D [0,1,0,4,0,28,60,124,252,511,1023,2047] [f 15 3 0,b' 16 15 1,f 17 1 0,b' 18 17 1,a 19 4,i 20 18 19 6,b 21 20 6,c1 22 200 21,o 23 6 [v 22],n 24 (app 24 (v 16) (v 23) 6 96),f 25 3 0,s 25 24 1])) (R [a 13 4,gk 14 .add 13 1,e 4 14])))) (q [b 26 3 2,s 2 26 2] .ret)))):=kr
theorem agW:Cp 147 46 [.t 2] (q [e' 2 k0] (Q (q [e' 3 (k 0)] (j 0 [a 5 3,a 6 0,n 7 (lens 7 (v 6)),g' 8 .lss 5 7] 8 (Q (.blk 1 (q [a 11 0,a 12 3,n 13 (sidx 13 (v 11) (v 12)),n 14 (conv 14 .i64 (v 13)),e 4 14] (q [a 15 4,c 16 131 [v 15,k 97,k 122],n' 17 .not 16,a 18 17,ha 18 w 19 4,hc 18 w 20 131 [v 19,k 48,k 57],h 18 w 21 (un 21 .not (v 20)),p 22 18 (v 21) k0,a 23 22,ha 23 w 24 4,hk 23 w 25 .neq 24 95,p 26 23 (v 25) k0,a 27 26,ha 27 w 28 4,hk 27 w 29 .neq 28 45,p 30 27 (v 29) k0,a 31 30,ha 31 w 32 4,hk 31 w 33 .neq 32 46,p 34 31 (v 33) k0] (u 34 (q [e' 2 k0] .ret) .skip)))) (R [a 9 3,gk 10 .add 9 1,e 3 10])))) (q [a 35 0,n 36 (lens 36 (v 35)),c 37 131 [v 36,k 1,k 14],a 38 37,ha 38 w 39 0,hg 38 w 40 .neq (v 39) (.c (.str [46])),p 41 38 (v 40) k0,a 42 41,ha 42 w 43 0,hg 42 w 44 .neq (v 43) (.c (.str [46,46])),p 45 42 (v 44) k0,e 2 45] .ret))):=kr
theorem pR:Cp 148 48 [.c 4 2 true,.t 5,.t 6] (q [bo 2 0,bo 3 1,z 4 z6,e' 5 (k 0),e' 6 (k 0)] (q [b 8 2 2,c1 9 82 8,z 7 z6,s 7 9 2] (Q (.blk 0 (q [b 11 2 2,f 12 3 1,b' 13 12 1,c2 14 212 11 13,gk 15 .geq 14 0,e 10 15] (u 10 (q [b 16 7 2,s 4 16 2,e' 5 (k 0),e' 6 (k 4)] .ret) (q [f 18 2 0,b' 19 18 1,l 20 19,gk 21 .geq 20 6,a 22 21,hf 22 r 23 2 1,hl 22 r 24 23 1,hk 22 r 25 .geq 24 99,p 26 22 k1 (v 25),e 17 26] (u 17 (q [b 27 7 2,s 4 27 2,e' 5 (k 0),e' 6 (k 5)] .ret) .skip))))) (q [f 28 2 1,b' 29 28 1,f 30 3 0,s 30 29 1] (q [f 31 3 4,b 32 31 2,c1 33 146 32,f 34 3 4,s 34 33 2] (q [f 35 7 0,b' 36 35 1,b 37 3 6,o 38 6 [v 37],n 39 (app 39 (v 36) (v 38) 6 72),f 40 7 0,s 40 39 1] (q [f 41 2 1,b' 42 41 1,gk 43 .add 42 1,f 44 7 1,s 44 43 1] (d' [0,0,2,1,15,31] [b 45 7 2,f 46 3 0,b' 47 46 1,s 4 45 2,e 5 47,e' 6 (k 0)] .ret)))))))):=kr
theorem agX:Cp 149 4 [.c 0 2 true] (q [z 0 z6] (q [n 1 (bld 1 zi [(0,1,k 1),(1,1,k 2)]),o 2 6 [v 1],n 3 (bld 3 z6 [(0,1,v 2),(1,1,k 2)]),s 0 3 2] .ret)):=kr
theorem nW:Cp 150 51 [.c 8 2 true,.t 9,.t 10] (q [bo 4 0,z 8 z6,e' 9 (k 0),e' 10 (k 0)] (q [b 12 4 2,a 13 1,c2 14 143 12 13,e 11 14] (Q (.blk 0 (q [b 16 4 2,c1 17 144 16,n' 18 .not 17,a 19 18,ha 19 r 20 2,c4 19 r 21 147 20,h 19 r 22 (un 22 .not (v 21)),p 23 19 k1 (v 22),e 15 23] (u 15 (q [b 24 4 2,c1 25 82 24,s 8 25 2,e' 9 (k 0),e' 10 (k 1)] .ret) (q [a 27 11,gk 28 .lss 27 0,e 26 28] (u 26 (q [b 29 4 2,c1 30 82 29,s 8 30 2,e' 9 (k 0),e' 10 (k 2)] .ret) .skip))))) (d' [0,0,0,0,8,0,56,120,248,0,512,0,3584,7680,15872,32766,65535,131071,262143,524287,1048575,2097151,4194303] [b 31 4 2,a 32 2,a 33 3,f 34 4 0,b' 35 34 1,a 36 11,i 37 35 36 6,f 38 37 3,b' 39 38 1,f 40 4 0,b' 41 40 1,a 42 11,i 43 41 42 6,f 44 43 4,b 45 44 2,n 46 (bld 46 [.int .i64 0,.str [],.bool r,.int .i64 0,.sl 6 [],.int .i64 0] [(1,1,v 32),(2,1,v 33),(3,1,v 39),(4,2,v 45)]),c2 47 148 31 46,x 48 47 0,x 49 47 1,x 50 47 2,s 8 48 2,e 9 49,e 10 50] .ret)))):=kr
theorem ajo:Cp 151 21 [.c 2 6 true] (q [bo 1 0,z 2 [.int .i64 0,.str [],.bool r,.int .i64 0,.sl 6 [],.int .i64 0]] (q [z 3 [.int .i64 0,.str [],.bool r,.int .i64 0,.sl 6 [],.int .i64 0]] (q [f 4 1 0,b' 5 4 1,f 6 3 0,s 6 5 1] (q [f 7 1 1,b' 8 7 1,f 9 3 1,s 9 8 1] (q [f 10 1 2,b' 11 10 1,f 12 3 2,s 12 11 1] (q [f 13 1 3,b' 14 13 1,f 15 3 3,s 15 14 1] (q [f 16 1 4,b 17 16 2,c1 18 222 17,f 19 3 4,s 19 18 2] (q [b 20 3 6,s 2 20 6] .ret)))))))):=kr
theorem adO:Cp 152 11 [.c 4 2 true,.t 5] (q [bo 2 0,z 4 z6,e' 5 (k 0)] (q [b 6 2 2,a 7 1,c 8 57 [v 6,v 7,k 2],x 9 8 0,x 10 8 1,s 4 9 2,e 5 10] .ret)):=kr
theorem jC:Cp 153 62 [.c 8 2 true,.t 9] (q [bo 4 0,z 8 z6,e' 9 (k 0)] (q [b 12 4 2,c1 13 58 12,s 4 13 2] (Q (q [b 14 4 2,a 15 1,o 16 1 [v 15],c2 17 59 14 16,n' 18 .not 17,a 19 18,ha 19 r 20 2,hc 19 r 21 99 [v 20,k 0,k 100],h 19 r 22 (un 22 .not (v 21)),p 23 19 k1 (v 22)] (u 23 (q [b 24 4 2,s 8 24 2,e' 9 (k 1)] .ret) .skip)) (q [b 26 4 2,a 27 1,c2 28 223 26 27,a 25 28,x 29 25 0,x 30 25 1,z 10 zi,s 10 29 6,e 11 30] (Q (q [a 31 11,gk 32 .neq 31 0] (u 32 (q [b 33 4 2,a 34 11,s 8 33 2,e 9 34] .ret) .skip)) (Q (q [a 35 2,a 36 3,l 37 36,g' 38 .add 35 37,gk 39 .gtr 38 100] (u 39 (q [b 40 4 2,s 8 40 2,e' 9 (k 5)] .ret) .skip)) (q [f 41 10 3,b' 42 41 1,f 43 10 3,b' 44 43 1,l 45 44,a 46 2,a 47 3,l 48 47,g' 49 .add 46 48,n 50 (mx 50 (v 45) (v 49)),c2 51 224 42 50,f 52 10 3,s 52 51 1] (q [f 53 10 3,b' 54 53 1,a 55 2,n 56 (slc 56 (v 54) (some (v 55)) none 1),a 57 3,n 58 (cpy 58 (v 56) (v 57) 1)] (q [b 59 4 2,b 60 10 6,c2 61 66 59 60,s 8 61 2,e' 9 (k 0)] .ret))))))))):=kr
theorem jM:Cp 154 47 [.c 6 2 true,.t 7] (q [bo 3 0,z 6 z6,e' 7 (k 0)] (q [b 10 3 2,c1 11 58 10,s 3 11 2] (Q (q [b 12 3 2,a 13 1,o 14 1 [v 13],c2 15 59 12 14,n' 16 .not 15,a 17 16,ha 17 r 18 2,hc 17 r 19 99 [v 18,k 0,k 100],h 17 r 20 (un 20 .not (v 19)),p 21 17 k1 (v 20)] (u 21 (q [b 22 3 2,s 6 22 2,e' 7 (k 1)] .ret) .skip)) (q [b 24 3 2,a 25 1,c2 26 223 24 25,a 23 26,x 27 23 0,x 28 23 1,z 8 zi,s 8 27 6,e 9 28] (Q (q [a 29 9,gk 30 .neq 29 0] (u 30 (q [b 31 3 2,a 32 9,s 6 31 2,e 7 32] .ret) .skip)) (q [f 33 8 3,b' 34 33 1,a 35 2,f 36 8 3,b' 37 36 1,l 38 37,n 39 (mn 39 (v 35) (v 38)),n 40 (slc 40 (v 34) none (some (v 39)) 1),a 41 2,c2 42 224 40 41,f 43 8 3,s 43 42 1] (q [b 44 3 2,b 45 8 6,c2 46 66 44 45,s 6 46 2,e' 7 (k 0)] .ret))))))):=kr
theorem kI:Cp 155 55 [.c 4 2 true,.t 5] (q [bo 2 0,z 4 z6,e' 5 (k 0)] (q [b 10 2 2,c1 11 58 10,s 2 11 2] (Q (q [b 12 2 2,a 13 1,o 14 1 [v 13],c2 15 59 12 14,n' 16 .not 15,a 17 16,ha 17 r 18 1,hg 17 r 19 .eql (v 18) (.c (.str [47])),p 20 17 k1 (v 19)] (u 20 (q [b 21 2 2,s 4 21 2,e' 5 (k 1)] .ret) .skip)) (q [b 23 2 2,a 24 1,c2 25 223 23 24,a 22 25,x 26 22 0,x 27 22 1,z 6 zi,s 6 26 6,e 7 27] (Q (q [a 28 7,gk 29 .neq 28 0] (u 29 (q [b 30 2 2,a 31 7,s 4 30 2,e 5 31] .ret) .skip)) (q [b 33 2 2,a 34 1,c2 35 121 33 34,a 32 35,x 36 32 0,x 37 32 1,z 8 [.int .i64 0,.int .i64 0,.int .i64 0,.sl 1 [],.sl 2 [],.sl 2 [],.str []],s 8 36 7,e 9 37] (q [b 38 8 7,b 39 2 2,c2 40 225 38 39,s 2 40 2] (q [f 41 6 2,b' 42 41 1,gk 43 .sub 42 1,f 44 6 2,s 44 43 1] (Q (q [f 45 6 2,b' 46 45 1,gk 47 .eql 46 0] (u 47 (q [b 48 2 2,f 49 6 0,b' 50 49 1,c2 51 226 48 50,s 4 51 2,e' 5 (k 0)] .ret) .skip)) (q [b 52 2 2,b 53 6 6,c2 54 66 52 53,s 4 54 2,e' 5 (k 0)] .ret)))))))))):=kr
theorem eP:Cp 156 56 [.c 4 2 true,.t 5] (q [bo 2 0,z 4 z6,e' 5 (k 0)] (q [b 10 2 2,c1 11 58 10,s 2 11 2] (Q (q [b 12 2 2,a 13 1,o 14 1 [v 13],c2 15 59 12 14,n' 16 .not 15,a 17 16,ha 17 r 18 1,hg 17 r 19 .eql (v 18) (.c (.str [47])),p 20 17 k1 (v 19)] (u 20 (q [b 21 2 2,s 4 21 2,e' 5 (k 1)] .ret) .skip)) (q [b 23 2 2,a 24 1,c2 25 61 23 24,a 22 25,x 26 22 0,x 27 22 1,z 6 zi,s 6 26 6,e 7 27] (Q (.blk 0 (q [a 29 7,gk 30 .neq 29 0,e 28 30] (u 28 (q [b 31 2 2,a 32 7,s 4 31 2,e 5 32] .ret) (q [f 34 6 1,b' 35 34 1,gk 36 .neq 35 2,e 33 36] (u 33 (q [b 37 2 2,s 4 37 2,e' 5 (k 3)] .ret) (q [f 39 6 4,b' 40 39 1,l 41 40,gk 42 .gtr 41 0,e 38 42] (u 38 (q [b 43 2 2,s 4 43 2,e' 5 (k 6)] .ret) .skip))))))) (q [b 45 2 2,a 46 1,c2 47 121 45 46,a 44 47,x 48 44 0,x 49 44 1,z 8 [.int .i64 0,.int .i64 0,.int .i64 0,.sl 1 [],.sl 2 [],.sl 2 [],.str []],s 8 48 7,e 9 49] (d' [0,0,3,0,8,31,63,127] [b 50 8 7,b 51 2 2,c2 52 225 50 51,f 53 6 0,b' 54 53 1,c2 55 226 52 54,s 4 55 2,e' 5 (k 0)] .ret))))))):=kr
theorem eK:Cp 157 71 [.c 6 2 true,.t 7] (q [bo 3 0,z 6 z6,e' 7 (k 0)] (q [b 11 3 2,c1 12 58 11,s 3 12 2] (Q (q [b 13 3 2,a 14 1,a 15 2,o 16 1 [v 14,v 15],c2 17 59 13 16,n' 18 .not 17,a 19 18,ha 19 r 20 2,hg 19 r 21 .eql (v 20) (.c (.str [47])),p 22 19 k1 (v 21)] (u 22 (q [b 23 3 2,s 6 23 2,e' 7 (k 1)] .ret) .skip)) (q [b 25 3 2,a 26 1,c2 27 223 25 26,a 24 27,x 28 24 0,x 29 24 1,z 8 zi,s 8 28 6,e 9 29] (Q (q [a 30 9,gk 31 .neq 30 0] (u 31 (q [b 32 3 2,a 33 9,s 6 32 2,e 7 33] .ret) .skip)) (q [b 35 3 2,a 36 2,c2 37 121 35 36,a 34 37,x 38 34 0,x 39 34 1,z 10 [.int .i64 0,.int .i64 0,.int .i64 0,.sl 1 [],.sl 2 [],.sl 2 [],.str []],s 10 38 7,e 9 39] (Q (.blk 0 (q [a 41 9,gk 42 .neq 41 0,e 40 42] (u 40 (q [b 43 3 2,a 44 9,s 6 43 2,e 7 44] .ret) (q [f 46 10 0,b 47 46 6,f 48 10 6,b' 49 48 1,c2 50 122 47 49,gk 51 .neq 50 0,e 45 51] (u 45 (q [b 52 3 2,s 6 52 2,e' 7 (k 4)] .ret) (q [f 54 10 0,f 55 54 4,b' 56 55 1,l 57 56,gk 58 .eql 57 10,e 53 58] (u 53 (q [b 59 3 2,s 6 59 2,e' 7 (k 5)] .ret) .skip))))))) (q [f 60 8 2,b' 61 60 1,gk 62 .add 61 1,f 63 8 2,s 63 62 1] (d' [0,0,0,4,15,0,63,127,255] [b 64 10 7,b 65 3 2,f 66 8 0,b' 67 66 1,c3 68 123 64 65 67,b 69 8 6,c2 70 66 68 69,s 6 70 2,e' 7 (k 0)] .ret))))))))):=kr
theorem dX:Cp 158 102 [.c 6 2 true,.t 7] (q [bo 3 0,z 6 z6,e' 7 (k 0)] (q [b 13 3 2,c1 14 58 13,s 3 14 2] (Q (q [b 15 3 2,a 16 1,a 17 2,o 18 1 [v 16,v 17],c2 19 59 15 18,n' 20 .not 19,a 21 20,ha 21 r 22 1,hg 21 r 23 .eql (v 22) (.c (.str [47])),p 24 21 k1 (v 23),a 25 24,ha 25 r 26 2,hg 25 r 27 .eql (v 26) (.c (.str [47])),p 28 25 k1 (v 27)] (u 28 (q [b 29 3 2,s 6 29 2,e' 7 (k 1)] .ret) .skip)) (q [b 31 3 2,a 32 1,c2 33 61 31 32,a 30 33,x 34 30 0,x 35 30 1,z 8 zi,s 8 34 6,e 9 35] (Q (q [a 36 9,gk 37 .neq 36 0] (u 37 (q [b 38 3 2,a 39 9,s 6 38 2,e 7 39] .ret) .skip)) (Q (q [a 40 1,a 41 2,c2 42 227 40 41] (u 42 (q [b 43 3 2,s 6 43 2,e' 7 (k 6)] .ret) .skip)) (q [b 45 3 2,a 46 1,c2 47 121 45 46,a 44 47,x 48 44 0,x 49 44 1,z 10 [.int .i64 0,.int .i64 0,.int .i64 0,.sl 1 [],.sl 2 [],.sl 2 [],.str []],s 10 48 7,e 11 49] (q [b 51 3 2,a 52 2,c2 53 121 51 52,a 50 53,x 54 50 0,x 55 50 1,z 12 [.int .i64 0,.int .i64 0,.int .i64 0,.sl 1 [],.sl 2 [],.sl 2 [],.str []],s 12 54 7,e 9 55] (Q (.blk 0 (q [a 57 9,gk 58 .neq 57 0,e 56 58] (u 56 (q [b 59 3 2,a 60 9,s 6 59 2,e 7 60] .ret) (q [f 62 12 0,b 63 62 6,f 64 12 6,b' 65 64 1,c2 66 122 63 65,gk 67 .neq 66 0,e 61 67] (u 61 (q [b 68 3 2,s 6 68 2,e' 7 (k 4)] .ret) (q [f 70 12 0,f 71 70 4,b' 72 71 1,l 73 72,gk 74 .eql 73 10,a 75 74,hf 75 w 76 12 0,hf 75 w 77 76 0,hl 75 w 78 77 1,hf 75 w 79 10 0,hf 75 w 80 79 0,hl 75 w 81 80 1,hg 75 w 82 .neq (v 78) (v 81),p 83 75 (v 82) k0,e 69 83] (u 69 (q [b 84 3 2,s 6 84 2,e' 7 (k 5)] .ret) .skip))))))) (q [b 85 10 7,b 86 3 2,c2 87 225 85 86,s 3 87 2] (q [b 89 3 2,f 90 12 0,f 91 90 0,b' 92 91 1,c2 93 70 89 92,a 88 93,x 94 88 0,x 95 88 1,f 96 12 0,s 96 94 6] (q [b 97 12 7,b 98 3 2,f 99 8 0,b' 100 99 1,c3 101 123 97 98 100,s 6 101 2,e' 7 (k 0)] .ret)))))))))))):=kr
theorem ajp:Cp 159 31 [.t 4] (q [bo 2 0,bo 3 1,e' 4 k0] (y' [f 5 2 0,b' 6 5 1,f 7 3 0,b' 8 7 1,g' 9 .neq 6 8] 9 4 k0 (y' [f 10 2 1,b' 11 10 1,f 12 3 1,b' 13 12 1,g' 14 .neq 11 13] 14 4 k0 (y' [f 15 2 2,b' 16 15 1,f 17 3 2,b' 18 17 1,n 19 (beq 19 w (v 16) (v 18))] 19 4 k0 (y' [f 20 2 3,b' 21 20 1,f 22 3 3,b' 23 22 1,g' 24 .neq 21 23] 24 4 k0 (y' [f 25 2 4,b 26 25 2,f 27 3 4,b 28 27 2,c2 29 228 26 28,n' 30 .not 29] 30 4 k0 (q [e' 4 k1] .ret))))))):=kr
theorem abx:Cp 160 20 [.t 2] (q [e' 2 (.c (.str []))] (y' [a 4 0,gk 5 .leq 4 0] 5 2 (.c (.str [109,48])) (q [e' 3 (.c (.str []))] (Q (j 0 [a 6 0,gk 7 .gtr 6 0] 7 (.blk 1 (q [a 8 0,gk 9 .rem 8 10,g 10 .add (k 48) (v 9),n 11 (conv 11 .u8 (v 10)),o 12 1 [v 11],n 13 (b2s 13 (v 12)),a 14 3,g' 15 .add 13 14,e 3 15] (R [a 16 0,gk 17 .quo 16 10,e 0 17])))) (q [a 18 3,g 19 .add (.c (.str [109])) (v 18),e 2 19] .ret))))):=kr
theorem wT:Cp 161 55 [.t 4] (q [e' 4 (k 0)] (Q (q [e' 5 (k 0)] (j 0 [a 6 5,a 7 0,l 8 7,g' 9 .lss 6 8] 9 (Q (.blk 1 (q [a 12 0,a 13 5,a 14 1,i 15 12 13 6,f 16 15 0,s 16 14 1] (q [a 17 1,gk 18 .add 17 1,e 1 18] (q [a 19 0,a 20 5,a 21 1,i 22 19 20 6,f 23 22 1,s 23 21 1] (q [a 24 1,gk 25 .add 24 1,e 1 25] (q [a 26 0,a 27 5,a 28 1,i 29 26 27 6,f 30 29 2,s 30 28 1] (q [a 31 1,gk 32 .add 31 1,e 1 32] (q [a 33 0,a 34 5,i 35 33 34 6,f 36 35 3,b' 37 36 1,a 38 1,c2 39 95 37 38,e 1 39] (q [a 40 0,a 41 5,i 42 40 41 6,f 43 42 4,b' 44 43 1,a 45 1,c2 46 229 44 45,e 1 46] (R [a 47 0,a 48 5,i 49 47 48 6,f 50 49 5,b' 51 50 1,a 52 1,c2 53 230 51 52,e 1 53])))))))))) (R [a 10 5,gk 11 .add 10 1,e 5 11])))) (q [a 54 1,e 4 54] .ret))):=kr
theorem wU:Cp 162 67 [.t 4] (q [e' 4 (k 0)] (Q (q [e' 5 (k 0)] (j 0 [a 6 5,a 7 0,l 8 7,g' 9 .lss 6 8] 9 (Q (.blk 1 (y' [a 12 0,a 13 5,i 14 12 13 6,f 15 14 0,b' 16 15 1,a 17 1,g' 18 .neq 16 17] 18 4 (k (-1)) (q [a 19 1,gk 20 .add 19 1,e 1 20] (y' [a 21 0,a 22 5,i 23 21 22 6,f 24 23 1,b' 25 24 1,a 26 1,g' 27 .neq 25 26] 27 4 (k (-1)) (q [a 28 1,gk 29 .add 28 1,e 1 29] (y' [a 30 0,a 31 5,i 32 30 31 6,f 33 32 2,b' 34 33 1,a 35 1,g' 36 .neq 34 35] 36 4 (k (-1)) (q [a 37 1,gk 38 .add 37 1,e 1 38] (q [a 39 0,a 40 5,i 41 39 40 6,f 42 41 3,b' 43 42 1,a 44 1,c2 45 231 43 44,e 1 45] (y' [a 46 1,gk 47 .lss 46 0] 47 4 (k (-1)) (q [a 48 0,a 49 5,i 50 48 49 6,f 51 50 4,b' 52 51 1,a 53 1,c2 54 232 52 53,e 1 54] (y' [a 55 1,gk 56 .lss 55 0] 56 4 (k (-1)) (q [a 57 0,a 58 5,i 59 57 58 6,f 60 59 5,b' 61 60 1,a 62 1,c2 63 233 61 62,e 1 63] (q [a 64 1,gk 65 .lss 64 0] (u 65 (q [e' 4 (k (-1))] .ret) .skip)))))))))))))) (R [a 10 5,gk 11 .add 10 1,e 5 11])))) (q [a 66 1,e 4 66] .ret))):=kr
theorem wV:Cp 163 8 [.t 3] (q [bo 2 0,e' 3 k0] (q [f 4 2 1,b' 5 4 1,b' 6 1 1,g' 7 .eql 5 6,e 3 7] .ret)):=kr
theorem oK:Cp 164 8 [.t 2] (q [e' 2 (.c (.own 1 []))] (y' [a 3 0,n 4 (isn 4 r (v 3) (.c (.own 1 [])))] 4 2 (.c (.own 1 [])) (q [o 5 1 [],a 6 0,n 7 (app 7 (v 5) (v 6) 1 1),e 2 7] .ret))):=kr
theorem adP:Cp 175 42 [.t 2] (q [e' 2 k0] (Q (q [a 5 0,l 6 5,n 7 (mov 7 (k 0))] (.blk 0 (.loop (q [g' 8 .lss 7 6] (Q (u 8 .skip (.exit 0)) (Q (.blk 1 (q [a 9 7,i 10 5 7 2,b 11 10 2,z 4 [.str [],.str []],e 3 9,s 4 11 2] (d' [0,1,3,7,15,31,63,127,255,511,1023,2047,4095,8191,16383,32767,32767,98303,262143,524287,1048575,32767,2129919,8388607,16777215,33554431] [f 12 4 0,b' 13 12 1,c1 14 60 13,n' 15 .not 14,a 16 15,hf 16 r 17 4 1,hl 16 r 18 17 1,h 16 r 19 (lens 19 (v 18)),hc 16 r 20 99 [v 19,k 1,k 16],h 16 r 21 (un 21 .not (v 20)),p 22 16 k1 (v 21),a 23 22,ha 23 r 24 3,hk 23 r 25 .gtr 24 0,ha 23 r 26 25,ha 26 w 27 0,ha 26 w 28 3,hk 26 w 29 .sub 28 1,h 26 w 30 (idx 30 (v 27) (v 29) 2),hf 26 w 31 30 0,hl 26 w 32 31 1,hf 26 w 33 4 0,hl 26 w 34 33 1,hg 26 w 35 .geq (v 32) (v 34),h 23 r 36 (pck 36 (v 26) (v 35) k0),p 37 23 k1 (v 36)] (u 37 (q [e' 2 k0] .ret) .skip)))) (R [gk 38 .add 7 1,a 7 38]))))))) (q [a 39 0,l 40 39,gk 41 .leq 40 4,e 2 41] .ret))):=kr
theorem m3:Cp 176 31 [.t 2,.t 3,.t 4] (q [e' 2 (.c (.str [])),e' 3 (.c (.str [])),e' 4 k0] (q [a 9 0,c1 10 125 9,a 8 10,x 11 8 0,x 12 8 1,e 5 11,e 6 12] (Q (q [a 13 6,n' 14 .not 13,a 15 14,ha 15 r 16 5,h 15 r 17 (len 17 (v 16)),hk 15 r 18 .eql 17 0,p 19 15 k1 (v 18)] (u 19 (q [e' 2 (.c (.str [])),e' 3 (.c (.str [])),e' 4 k0] .ret) .skip)) (q [a 20 5,l 21 20,gk 22 .sub 21 1,e 7 22] (d' [0,0,3,7,0,0,48,112,15,511,1023] [a 23 5,a 24 7,n 25 (slc 25 (v 23) none (some (v 24)) 1),c1 26 236 25,a 27 5,a 28 7,i 29 27 28 1,b' 30 29 1,e 2 26,e 3 30,e' 4 k1] .ret))))):=kr
theorem q8:Cp 177 19 [.t 4] (q [e' 4 (k 0)] (Q (q [a 6 0,l 7 6,n 8 (mov 8 (k 0))] (.blk 0 (.loop (q [g' 9 .lss 8 7] (Q (u 9 .skip (.exit 0)) (Q (.blk 1 (q [a 10 8,e 5 10] (q [a 11 1,a 12 0,a 13 5,i 14 12 13 2,b 15 14 2,n 16 (callv (some 16) (v 11) [v 15])] (u 16 (q [a 17 5,e 4 17] .ret) .skip)))) (R [gk 18 .add 8 1,a 8 18]))))))) (q [e' 4 (k (-1))] .ret))):=kr
theorem sF:Cp 178 9 [.t 3] (q [bo 2 0,e' 3 k0] (q [f 4 2 0,b' 5 4 1,f 6 1 6,b' 7 6 1,g' 8 .gtr 5 7,e 3 8] .ret)):=kr
theorem pS:Cp 180 8 [.t 2] (q [e' 2 (.c (.own 2 []))] (y' [a 3 0,n 4 (isn 4 r (v 3) (.c (.own 2 [])))] 4 2 (.c (.own 2 [])) (q [o 5 2 [],a 6 0,n 7 (app 7 (v 5) (v 6) 2 24),e 2 7] .ret))):=kr
theorem oL:Cp 181 8 [.t 2] (q [e' 2 (.c (.own 2 []))] (y' [a 3 0,n 4 (isn 4 r (v 3) (.c (.own 2 [])))] 4 2 (.c (.own 2 [])) (q [o 5 2 [],a 6 0,n 7 (app 7 (v 5) (v 6) 2 32),e 2 7] .ret))):=kr
theorem ajq:Cp 182 8 [.t 4] (q [e' 4 (.c (.own 1 []))] (q [a 5 0,a 6 1,c 7 239 [v 5,v 6,k 0,k (-1)],e 4 7] .ret)):=kr
theorem adQ:Cp 183 11 [.t 2] (q [e' 2 k0] (q [a 3 0,l 4 3,gk 5 .leq 4 30,a 6 5,ha 6 w 7 0,hc 6 w 8 240 [v 7,.c (.fn 241 [])],h 6 w 9 (un 9 .not (v 8)),p 10 6 (v 9) k0,e 2 10] .ret)):=kr
theorem agY:Cp 187 47 [.t 2] (q [e' 2 k0] (Q (q [e' 3 (k 0)] (j 0 [a 4 3,a 5 0,l 6 5,g' 7 .lss 4 6] 7 (Q (.blk 1 (d' [0,0,3,7,15,31,63,127,255,255,1023,2047,4095,8191,16383,32767,65535,131071,262143,524287,1048575,1048575,3145727,8388607,16777215,33554431,1048575,1048575,202375167,470810623,1007681535,2147483647,4294967295,8589934591] [a 10 0,a 11 3,i 12 10 11 2,f 13 12 0,b' 14 13 1,c1 15 147 14,n' 16 .not 15,a 17 16,ha 17 r 18 0,ha 17 r 19 3,h 17 r 20 (idx 20 (v 18) (v 19) 2),hf 17 r 21 20 1,hl 17 r 22 21 1,hc 17 r 23 131 [v 22,k 2,k 1000],h 17 r 24 (un 24 .not (v 23)),p 25 17 k1 (v 24),a 26 25,ha 26 r 27 3,hk 26 r 28 .gtr 27 0,ha 26 r 29 28,ha 29 w 30 0,ha 29 w 31 3,hk 29 w 32 .sub 31 1,h 29 w 33 (idx 33 (v 30) (v 32) 2),hf 29 w 34 33 0,hl 29 w 35 34 1,ha 29 w 36 0,ha 29 w 37 3,h 29 w 38 (idx 38 (v 36) (v 37) 2),hf 29 w 39 38 0,hl 29 w 40 39 1,hg 29 w 41 .geq (v 35) (v 40),h 26 r 42 (pck 42 (v 29) (v 41) k0),p 43 26 k1 (v 42)] (u 43 (q [e' 2 k0] .ret) .skip))) (R [a 8 3,gk 9 .add 8 1,e 3 9])))) (q [a 44 0,l 45 44,gk 46 .leq 45 10,e 2 46] .ret))):=kr
theorem adR:Cp 188 48 [.t 2] (q [e' 2 k0] (Q (q [e' 3 (k 0)] (j 0 [a 4 3,a 5 0,l 6 5,g' 7 .lss 4 6] 7 (Q (.blk 1 (d' [0,0,3,7,15,31,63,127,255,255,1023,2047,4095,8191,16383,32767,65535,131071,262143,524287,1048575,2097151,2097151,6291455,16777215,33554431,67108863,2097151,2097151,404750335,941621247,2015363071,4294967295,8589934591,17179869183] [a 10 0,a 11 3,i 12 10 11 2,f 13 12 0,b' 14 13 1,c1 15 147 14,n' 16 .not 15,a 17 16,ha 17 r 18 0,ha 17 r 19 3,h 17 r 20 (idx 20 (v 18) (v 19) 2),hf 17 r 21 20 1,hl 17 r 22 21 1,h 17 r 23 (lens 23 (v 22)),hc 17 r 24 131 [v 23,k 1,k 16],h 17 r 25 (un 25 .not (v 24)),p 26 17 k1 (v 25),a 27 26,ha 27 r 28 3,hk 27 r 29 .gtr 28 0,ha 27 r 30 29,ha 30 w 31 0,ha 30 w 32 3,hk 30 w 33 .sub 32 1,h 30 w 34 (idx 34 (v 31) (v 33) 2),hf 30 w 35 34 0,hl 30 w 36 35 1,ha 30 w 37 0,ha 30 w 38 3,h 30 w 39 (idx 39 (v 37) (v 38) 2),hf 30 w 40 39 0,hl 30 w 41 40 1,hg 30 w 42 .geq (v 36) (v 41),h 27 r 43 (pck 43 (v 30) (v 42) k0),p 44 27 k1 (v 43)] (u 44 (q [e' 2 k0] .ret) .skip))) (R [a 8 3,gk 9 .add 8 1,e 3 9])))) (q [a 45 0,l 46 45,gk 47 .leq 46 4,e 2 47] .ret))):=kr
theorem agZ:Cp 200 21 [.c 2 6 true] (q [bo 1 0,z 2 zi] (q [b 4 1 6,z 3 zi,s 3 4 6] (q [o 5 1 [],f 6 1 3,b' 7 6 1,n 8 (app 8 (v 5) (v 7) 1 1),f 9 3 3,s 9 8 1] (q [o 10 2 [],f 11 1 4,b' 12 11 1,n 13 (app 13 (v 10) (v 12) 2 24),f 14 3 4,s 14 13 1] (q [o 15 2 [],f 16 1 5,b' 17 16 1,n 18 (app 18 (v 15) (v 17) 2 32),f 19 3 5,s 19 18 1] (q [b 20 3 6,s 2 20 6] .ret)))))):=kr
theorem ajr:Cp 201 18 [.t 4] (q [e' 4 k0] (Q (q [e' 5 (k 0)] (j 0 [a 6 5,a 7 0,l 8 7,g' 9 .lss 6 8] 9 (Q (.blk 1 (q [a 12 0,a 13 5,i 14 12 13 1,b' 15 14 1,a 16 1,g' 17 .eql 15 16] (u 17 (q [e' 4 k1] .ret) .skip))) (R [a 10 5,gk 11 .add 10 1,e 5 11])))) (q [e' 4 k0] .ret))):=kr
theorem ajs:Cp 211 12 [.t 4] (q [bo 2 0,e' 4 (k 0)] (q [f 5 2 0,b' 6 5 1,a 7 1,c2 8 254 6 7,e 1 8] (y' [a 9 1,gk 10 .lss 9 0] 10 4 (k (-1)) (q [a 11 1,e 4 11] .ret)))):=kr
theorem aby:Cp 212 22 [.t 4] (q [bo 2 0,e' 4 (k 0)] (Q (q [e' 5 (k 0)] (j 0 [a 6 5,f 7 2 0,b' 8 7 1,l 9 8,g' 10 .lss 6 9] 10 (Q (.blk 1 (q [f 13 2 0,b' 14 13 1,a 15 5,i 16 14 15 6,f 17 16 1,b' 18 17 1,a 19 1,g' 20 .eql 18 19] (u 20 (q [a 21 5,e 4 21] .ret) .skip))) (R [a 11 5,gk 12 .add 11 1,e 5 12])))) (q [e' 4 (k (-1))] .ret))):=kr
theorem adS:Cp 213 11 [.c 4 2 true,.t 5] (q [bo 2 0,z 4 z6,e' 5 (k 0)] (q [b 6 2 2,a 7 1,c 8 255 [v 6,v 7,k 2],x 9 8 0,x 10 8 1,s 4 9 2,e 5 10] .ret)):=kr
theorem abz:Cp 214 11 [.c 4 2 true,.t 5] (q [bo 2 0,z 4 z6,e' 5 (k 0)] (q [b 6 2 2,a 7 1,c 8 255 [v 6,v 7,k 1],x 9 8 0,x 10 8 1,s 4 9 2,e 5 10] .ret)):=kr
theorem gJ:Cp 215 86 [.c 8 2 true,.t 9] (q [bo 4 0,z 8 z6,e' 9 (k 0)] (q [a 16 1,c1 17 256 16,a 15 17,x 18 15 0,x 19 15 1,e 10 18,e 11 19] (Q (q [b 20 4 2,c1 21 15 20,n' 22 .not 21,a 23 22,ha 23 r 24 11,h 23 r 25 (un 25 .not (v 24)),p 26 23 k1 (v 25),a 27 26,ha 27 r 28 2,hc 27 r 29 131 [v 28,k 0,k 100],h 27 r 30 (un 30 .not (v 29)),p 31 27 k1 (v 30)] (u 31 (q [b 32 4 2,c1 33 146 32,s 8 33 2,e' 9 (k 1)] .ret) .skip)) (q [b 35 4 2,a 36 1,c2 37 257 35 36,a 34 37,x 38 34 0,x 39 34 1,z 12 zi,s 12 38 6,e 13 39] (Q (q [a 40 13,gk 41 .eql 40 0,a 42 41,ha 42 w 43 3,h 42 w 44 (len 44 (v 43)),ha 42 w 45 2,hg 42 w 46 .sub (k 100) (v 45),hg 42 w 47 .gtr (v 44) (v 46),p 48 42 (v 47) k0] (u 48 (R [e' 13 (k 5)]) .skip)) (Q (q [a 49 13,gk 50 .neq 49 0] (u 50 (q [b 51 4 2,c1 52 146 51,a 53 13,s 8 52 2,e 9 53] .ret) .skip)) (Q (j 0 [f 54 12 3,b' 55 54 1,l 56 55,a 57 2,a 58 3,l 59 58,g' 60 .add 57 59,g' 61 .lss 56 60] 61 (.blk 1 (R [f 62 12 3,b' 63 62 1,o 64 1 [.c (.int .u8 0)],n 65 (app 65 (v 63) (v 64) 1 1),f 66 12 3,s 66 65 1]))) (Q (q [e' 14 (k 0)] (j 2 [a 67 14,a 68 3,l 69 68,g' 70 .lss 67 69] 70 (Q (.blk 3 (D [0,1,0,0,12,0,0,96,224,511,1023] [f 73 12 3,b' 74 73 1,a 75 2,a 76 14,g' 77 .add 75 76,a 78 3,a 79 14,i 80 78 79 1,b' 81 80 1,i 82 74 77 1,s 82 81 1])) (R [a 71 14,gk 72 .add 71 1,e 14 72])))) (q [b 83 4 2,b 84 12 6,c2 85 258 83 84,s 8 85 2,e' 9 (k 0)] .ret))))))))):=kr
theorem iB:Cp 216 60 [.c 6 2 true,.t 7] (q [bo 3 0,z 6 z6,e' 7 (k 0)] (q [a 13 1,c1 14 256 13,a 12 14,x 15 12 0,x 16 12 1,e 8 15,e 9 16] (Q (q [b 17 3 2,c1 18 15 17,n' 19 .not 18,a 20 19,ha 20 r 21 9,h 20 r 22 (un 22 .not (v 21)),p 23 20 k1 (v 22),a 24 23,ha 24 r 25 2,hc 24 r 26 131 [v 25,k 0,k 100],h 24 r 27 (un 27 .not (v 26)),p 28 24 k1 (v 27)] (u 28 (q [b 29 3 2,c1 30 146 29,s 6 30 2,e' 7 (k 1)] .ret) .skip)) (q [b 32 3 2,a 33 1,c2 34 257 32 33,a 31 34,x 35 31 0,x 36 31 1,z 10 zi,s 10 35 6,e 11 36] (Q (q [a 37 11,gk 38 .neq 37 0] (u 38 (q [b 39 3 2,c1 40 146 39,a 41 11,s 6 40 2,e 7 41] .ret) .skip)) (Q (j 0 [f 42 10 3,b' 43 42 1,l 44 43,a 45 2,g' 46 .lss 44 45] 46 (.blk 1 (R [f 47 10 3,b' 48 47 1,o 49 1 [.c (.int .u8 0)],n 50 (app 50 (v 48) (v 49) 1 1),f 51 10 3,s 51 50 1]))) (q [f 52 10 3,b' 53 52 1,a 54 2,n 55 (slc 55 (v 53) none (some (v 54)) 1),f 56 10 3,s 56 55 1] (q [b 57 3 2,b 58 10 6,c2 59 258 57 58,s 6 59 2,e' 7 (k 0)] .ret)))))))):=kr
theorem kJ:Cp 217 55 [.c 4 2 true,.t 5] (q [bo 2 0,z 4 z6,e' 5 (k 0)] (q [a 13 1,c1 14 259 13,a 12 14,x 15 12 0,x 16 12 1,x 17 12 2,e 6 15,e 7 16,e 8 17] (Q (q [b 18 2 2,c1 19 15 18,n' 20 .not 19,a 21 20,ha 21 r 22 8,h 21 r 23 (un 23 .not (v 22)),p 24 21 k1 (v 23)] (u 24 (q [b 25 2 2,c1 26 146 25,s 4 26 2,e' 5 (k 1)] .ret) .skip)) (q [b 28 2 2,a 29 1,c2 30 257 28 29,a 27 30,x 31 27 0,x 32 27 1,z 9 zi,s 9 31 6,e 10 32] (Q (q [a 33 10,gk 34 .neq 33 0] (u 34 (q [b 35 2 2,c1 36 146 35,a 37 10,s 4 36 2,e 5 37] .ret) .skip)) (q [b 38 2 2,a 39 1,c2 40 260 38 39,z 11 z6,s 11 40 2] (Q (q [f 41 9 2,b' 42 41 1,gk 43 .eql 42 1] (u 43 (q [b 44 11 2,f 45 9 0,b' 46 45 1,c2 47 261 44 46,s 4 47 2,e' 5 (k 0)] .ret) .skip)) (q [f 48 9 2,b' 49 48 1,gk 50 .sub 49 1,f 51 9 2,s 51 50 1] (q [b 52 11 2,b 53 9 6,c2 54 258 52 53,s 4 54 2,e' 5 (k 0)] .ret))))))))):=kr
theorem eQ:Cp 218 57 [.c 4 2 true,.t 5] (q [bo 2 0,z 4 z6,e' 5 (k 0)] (q [a 12 1,c1 13 259 12,a 11 13,x 14 11 0,x 15 11 1,x 16 11 2,e 6 14,e 7 15,e 8 16] (Q (q [b 17 2 2,c1 18 15 17,n' 19 .not 18,a 20 19,ha 20 r 21 8,h 20 r 22 (un 22 .not (v 21)),p 23 20 k1 (v 22)] (u 23 (q [b 24 2 2,c1 25 146 24,s 4 25 2,e' 5 (k 1)] .ret) .skip)) (q [b 27 2 2,a 28 1,c2 29 262 27 28,a 26 29,x 30 26 0,x 31 26 1,z 9 zi,s 9 30 6,e 10 31] (Q (.blk 0 (q [a 33 10,gk 34 .neq 33 0,e 32 34] (u 32 (q [b 35 2 2,c1 36 146 35,a 37 10,s 4 36 2,e 5 37] .ret) (q [f 39 9 1,b' 40 39 1,gk 41 .neq 40 2,e 38 41] (u 38 (q [b 42 2 2,c1 43 146 42,s 4 43 2,e' 5 (k 3)] .ret) (q [f 45 9 4,b' 46 45 1,l 47 46,gk 48 .gtr 47 0,e 44 48] (u 44 (q [b 49 2 2,c1 50 146 49,s 4 50 2,e' 5 (k 6)] .ret) .skip))))))) (d' [0,0,3,0,8,31,63,127] [b 51 2 2,a 52 1,c2 53 260 51 52,f 54 9 0,b' 55 54 1,c2 56 261 53 55,s 4 56 2,e' 5 (k 0)] .ret)))))):=kr
theorem fT:Cp 219 82 [.c 6 2 true,.t 7] (q [bo 3 0,z 6 z6,e' 7 (k 0)] (q [a 19 1,c1 20 256 19,a 18 20,x 21 18 0,x 22 18 1,e 8 21,e 9 22] (q [a 24 2,c1 25 259 24,a 23 25,x 26 23 0,x 27 23 1,x 28 23 2,e 10 26,e 11 27,e 12 28] (Q (q [b 29 3 2,c1 30 15 29,n' 31 .not 30,a 32 31,ha 32 r 33 9,h 32 r 34 (un 34 .not (v 33)),p 35 32 k1 (v 34),a 36 35,ha 36 r 37 12,h 36 r 38 (un 38 .not (v 37)),p 39 36 k1 (v 38)] (u 39 (q [b 40 3 2,c1 41 146 40,s 6 41 2,e' 7 (k 1)] .ret) .skip)) (q [b 43 3 2,a 44 1,c2 45 257 43 44,a 42 45,x 46 42 0,x 47 42 1,z 13 zi,s 13 46 6,e 14 47] (Q (q [a 48 14,gk 49 .neq 48 0] (u 49 (q [b 50 3 2,c1 51 146 50,a 52 14,s 6 51 2,e 7 52] .ret) .skip)) (q [b 54 3 2,a 55 2,c 56 263 [v 54,v 55,k 0],a 53 56,x 57 53 0,x 58 53 1,x 59 53 2,z 15 zi,s 15 57 6,e 16 58,e 17 59] (Q (q [a 60 17,gk 61 .neq 60 0] (u 61 (q [b 62 3 2,c1 63 146 62,a 64 17,s 6 63 2,e 7 64] .ret) .skip)) (q [f 65 13 2,b' 66 65 1,gk 67 .add 66 1,f 68 13 2,s 68 67 1] (q [f 69 15 4,b' 70 69 1,a 71 16,f 72 13 0,b' 73 72 1,n 74 (bld 74 [.str [],.int .i64 0] [(0,1,v 71),(1,1,v 73)]),c2 75 264 70 74,f 76 15 4,s 76 75 1] (d' [0,0,3,0,15,31,63] [b 77 3 2,b 78 13 6,c2 79 258 77 78,b 80 15 6,c2 81 258 79 80,s 6 81 2,e' 7 (k 0)] .ret))))))))))):=kr
theorem gK:Cp 220 112 [.c 6 2 true,.t 7] (q [bo 3 0,z 6 z6,e' 7 (k 0)] (q [a 28 1,c1 29 259 28,a 27 29,x 30 27 0,x 31 27 1,x 32 27 2,e 8 30,e 9 31,e 10 32] (q [a 34 2,c1 35 259 34,a 33 35,x 36 33 0,x 37 33 1,x 38 33 2,e 11 36,e 12 37,e 13 38] (Q (q [b 39 3 2,c1 40 15 39,n' 41 .not 40,a 42 41,ha 42 r 43 10,h 42 r 44 (un 44 .not (v 43)),p 45 42 k1 (v 44),a 46 45,ha 46 r 47 13,h 46 r 48 (un 48 .not (v 47)),p 49 46 k1 (v 48)] (u 49 (q [b 50 3 2,c1 51 146 50,s 6 51 2,e' 7 (k 1)] .ret) .skip)) (q [b 53 3 2,a 54 1,c2 55 265 53 54,a 52 55,x 56 52 0,x 57 52 1,e 14 56,e 15 57] (Q (q [a 58 15,gk 59 .neq 58 0] (u 59 (q [b 60 3 2,c1 61 146 60,a 62 15,s 6 61 2,e 7 62] .ret) .skip)) (Q (q [a 63 1,a 64 2,c2 65 266 63 64] (u 65 (q [b 66 3 2,c1 67 146 66,s 6 67 2,e' 7 (k 6)] .ret) .skip)) (q [b 69 3 2,a 70 8,c2 71 265 69 70,a 68 71,x 72 68 0,x 73 68 1,e 16 72,e 17 73] (q [b 75 3 2,a 76 2,a 77 16,c3 78 263 75 76 77,a 74 78,x 79 74 0,x 80 74 1,x 81 74 2,z 18 zi,s 18 79 6,e 19 80,e 20 81] (Q (q [a 82 20,gk 83 .neq 82 0] (u 83 (q [b 84 3 2,c1 85 146 84,a 86 20,s 6 85 2,e 7 86] .ret) .skip)) (q [b 87 3 2,a 88 1,c2 89 260 87 88,z 21 z6,s 21 89 2] (q [a 91 2,c1 92 259 91,a 90 92,x 93 90 0,x 94 90 1,x 95 90 2,e 22 93,e 23 94,e 24 95] (q [b 97 21 2,a 98 22,c2 99 262 97 98,a 96 99,x 100 96 0,x 101 96 1,z 25 zi,s 25 100 6,e 26 101] (q [f 102 25 4,b' 103 102 1,a 104 19,a 105 14,n 106 (bld 106 [.str [],.int .i64 0] [(0,1,v 104),(1,1,v 105)]),c2 107 264 103 106,f 108 25 4,s 108 107 1] (q [b 109 21 2,b 110 25 6,c2 111 258 109 110,s 6 111 2,e' 7 (k 0)] .ret))))))))))))))):=kr
theorem gL:Cp 221 96 [.c 8 2 true,.t 9] (q [bo 4 0,z 8 z6,e' 9 (k 0)] (q [a 17 1,c1 18 256 17,a 16 18,x 19 16 0,x 20 16 1,e 10 19,e 11 20] (Q (q [b 21 4 2,c1 22 15 21,n' 23 .not 22,a 24 23,ha 24 r 25 11,h 24 r 26 (un 26 .not (v 25)),p 27 24 k1 (v 26),a 28 27,ha 28 r 29 2,c4 28 r 30 147 29,h 28 r 31 (un 31 .not (v 30)),p 32 28 k1 (v 31),a 33 32,ha 33 r 34 3,h 33 r 35 (lens 35 (v 34)),hk 33 r 36 .gtr 35 16,p 37 33 k1 (v 36)] (u 37 (q [b 38 4 2,c1 39 146 38,s 8 39 2,e' 9 (k 1)] .ret) .skip)) (q [b 41 4 2,a 42 1,c2 43 262 41 42,a 40 43,x 44 40 0,x 45 40 1,z 12 zi,s 12 44 6,e 13 45] (Q (q [a 46 13,gk 47 .neq 46 0] (u 47 (q [b 48 4 2,c1 49 146 48,a 50 13,s 8 49 2,e 9 50] .ret) .skip)) (q [o 51 2 [],e 14 51] (Q (q [e' 15 (k 0)] (j 0 [a 52 15,f 53 12 5,b' 54 53 1,l 55 54,g' 56 .lss 52 55] 56 (Q (.blk 1 (q [f 59 12 5,b' 60 59 1,a 61 15,i 62 60 61 2,f 63 62 0,b' 64 63 1,a 65 2,g' 66 .neq 64 65] (u 66 (R [a 67 14,f 68 12 5,b' 69 68 1,a 70 15,i 71 69 70 2,b 72 71 2,o 73 2 [v 72],n 74 (app 74 (v 67) (v 73) 2 32),e 14 74]) .skip))) (R [a 57 15,gk 58 .add 57 1,e 15 58])))) (Q (q [a 75 3,g 76 .eql (v 75) (.c (.str []))] (u 76 (q [a 77 14,f 78 12 5,s 78 77 1] (q [b 79 4 2,b 80 12 6,c2 81 258 79 80,s 8 81 2,e' 9 (k 0)] .ret)) .skip)) (Q (q [a 82 14,l 83 82,gk 84 .geq 83 4] (u 84 (q [b 85 4 2,c1 86 146 85,s 8 86 2,e' 9 (k 5)] .ret) .skip)) (q [a 87 14,a 88 2,a 89 3,n 90 (bld 90 [.str [],.str []] [(0,1,v 88),(1,1,v 89)]),c2 91 267 87 90,f 92 12 5,s 92 91 1] (q [b 93 4 2,b 94 12 6,c2 95 258 93 94,s 8 95 2,e' 9 (k 0)] .ret))))))))))):=kr
theorem ajt:Cp 222 12 [.c 2 2 true] (q [bo 1 0,z 2 z6] (q [z 3 z6] (q [f 4 1 0,b' 5 4 1,c1 6 268 5,f 7 3 0,s 7 6 1] (q [f 8 1 1,b' 9 8 1,f 10 3 1,s 10 9 1] (q [b 11 3 2,s 2 11 2] .ret))))):=kr
theorem q9:Cp 223 23 [.c 4 6 true,.t 5] (q [bo 2 0,z 4 zi,e' 5 (k 0)] (q [b 9 2 2,a 10 1,c2 11 61 9 10,a 8 11,x 12 8 0,x 13 8 1,z 6 zi,s 6 12 6,e 7 13] (Q (q [a 14 7,gk 15 .eql 14 0,a 16 15,hf 16 w 17 6 1,hl 16 w 18 17 1,hk 16 w 19 .neq 18 1,p 20 16 (v 19) k0] (u 20 (R [e' 7 (k 3)]) .skip)) (q [b 21 6 6,a 22 7,s 4 21 6,e 5 22] .ret)))):=kr
theorem aju:Cp 224 12 [.t 4] (q [e' 4 (.c (.own 1 []))] (q [a 6 1,n 7 (mks 7 (v 6) (v 6) 1 1 [.int .u8 0]),e 5 7] (q [a 8 5,a 9 0,n 10 (cpy 10 (v 8) (v 9) 1)] (q [a 11 5,e 4 11] .ret)))):=kr
theorem wW:Cp 225 17 [.c 4 2 true] (q [bo 2 0,bo 3 1,z 4 z6] (q [f 5 2 0,f 6 5 4,b' 7 6 1,c1 8 180 7,n 9 (mkf 9 270 [v 2]),c2 10 269 8 9,f 11 2 0,f 12 11 4,s 12 10 1] (q [b 13 3 2,f 14 2 0,b 15 14 6,c2 16 66 13 15,s 4 16 2] .ret))):=kr
theorem zZ:Cp 226 13 [.c 4 2 true] (q [bo 2 0,bo 3 1,z 4 z6] (q [b 5 2 2,c1 6 58 5,s 2 6 2] (q [f 7 2 0,b' 8 7 1,n 9 (mkf 9 272 [v 3]),c2 10 271 8 9,f 11 2 0,s 11 10 1] (q [b 12 2 2,s 4 12 2] .ret)))):=kr
theorem pT:Cp 227 38 [.t 4] (q [e' 4 k0] (q [a 10 0,c1 11 125 10,a 9 11,x 12 9 0,x 13 9 1,e 5 12,e 6 13] (q [a 15 1,c1 16 125 15,a 14 16,x 17 14 0,x 18 14 1,e 7 17,e 8 18] (q [a 19 6,a 20 19,ha 20 w 21 8,p 22 20 (v 21) k0,a 23 22,ha 23 w 24 5,h 23 w 25 (len 25 (v 24)),ha 23 w 26 7,h 23 w 27 (len 27 (v 26)),hg 23 w 28 .leq (v 25) (v 27),p 29 23 (v 28) k0,a 30 29,ha 30 w 31 5,ha 30 w 32 7,ha 30 w 33 5,h 30 w 34 (len 34 (v 33)),h 30 w 35 (slc 35 (v 32) none (some (v 34)) 1),hc 30 w 36 273 [v 31,v 35],p 37 30 (v 36) k0,e 4 37] .ret)))):=kr
theorem ajv:Cp 228 16 [.t 4] (q [bo 2 0,bo 3 1,e' 4 k0] (y' [f 5 2 0,b' 6 5 1,f 7 3 0,b' 8 7 1,c2 9 274 6 8,n' 10 .not 9] 10 4 k0 (y' [f 11 2 1,b' 12 11 1,f 13 3 1,b' 14 13 1,g' 15 .neq 12 14] 15 4 k0 (q [e' 4 k1] .ret)))):=kr
theorem abA:Cp 229 28 [.t 4] (q [e' 4 (k 0)] (Q (q [e' 5 (k 0)] (j 0 [a 6 5,a 7 0,l 8 7,g' 9 .lss 6 8] 9 (Q (.blk 1 (q [a 12 0,a 13 5,a 14 1,c1 15 160 14,i 16 12 13 2,f 17 16 0,s 17 15 1] (q [a 18 1,gk 19 .add 18 1,e 1 19] (q [a 20 0,a 21 5,a 22 1,i 23 20 21 2,f 24 23 1,s 24 22 1] (R [a 25 1,gk 26 .add 25 1,e 1 26]))))) (R [a 10 5,gk 11 .add 10 1,e 5 11])))) (q [a 27 1,e 4 27] .ret))):=kr
theorem z7:Cp 230 29 [.t 4] (q [e' 4 (k 0)] (Q (q [e' 5 (k 0)] (j 0 [a 6 5,a 7 0,l 8 7,g' 9 .lss 6 8] 9 (Q (.blk 1 (q [a 12 0,a 13 5,a 14 1,c1 15 160 14,i 16 12 13 2,f 17 16 0,s 17 15 1] (q [a 18 1,gk 19 .add 18 1,e 1 19] (q [a 20 0,a 21 5,a 22 1,c1 23 160 22,i 24 20 21 2,f 25 24 1,s 25 23 1] (R [a 26 1,gk 27 .add 26 1,e 1 27]))))) (R [a 10 5,gk 11 .add 10 1,e 5 11])))) (q [a 28 1,e 4 28] .ret))):=kr
theorem z8:Cp 231 22 [.t 4] (q [e' 4 (k 0)] (Q (q [e' 5 (k 0)] (j 0 [a 6 5,a 7 0,l 8 7,g' 9 .lss 6 8] 9 (Q (.blk 1 (y' [a 12 0,a 13 5,i 14 12 13 1,b' 15 14 1,a 16 1,n 17 (conv 17 .u8 (v 16)),g' 18 .neq 15 17] 18 4 (k (-1)) (R [a 19 1,gk 20 .add 19 1,e 1 20]))) (R [a 10 5,gk 11 .add 10 1,e 5 11])))) (q [a 21 1,e 4 21] .ret))):=kr
theorem abB:Cp 232 32 [.t 4] (q [e' 4 (k 0)] (Q (q [e' 5 (k 0)] (j 0 [a 6 5,a 7 0,l 8 7,g' 9 .lss 6 8] 9 (Q (.blk 1 (Q (d' [0,0,3,7,15,0,32,127] [a 12 0,a 13 5,i 14 12 13 2,f 15 14 0,b' 16 15 1,a 17 1,c1 18 160 17,g' 19 .neq 16 18] (u 19 (q [e' 4 (k (-1))] .ret) .skip)) (q [a 20 1,gk 21 .add 20 1,e 1 21] (y' [a 22 0,a 23 5,i 24 22 23 2,f 25 24 1,b' 26 25 1,a 27 1,g' 28 .neq 26 27] 28 4 (k (-1)) (R [a 29 1,gk 30 .add 29 1,e 1 30]))))) (R [a 10 5,gk 11 .add 10 1,e 5 11])))) (q [a 31 1,e 4 31] .ret))):=kr
theorem aaa:Cp 233 33 [.t 4] (q [e' 4 (k 0)] (Q (q [e' 5 (k 0)] (j 0 [a 6 5,a 7 0,l 8 7,g' 9 .lss 6 8] 9 (Q (.blk 1 (Q (d' [0,0,3,7,15,0,32,127] [a 12 0,a 13 5,i 14 12 13 2,f 15 14 0,b' 16 15 1,a 17 1,c1 18 160 17,g' 19 .neq 16 18] (u 19 (q [e' 4 (k (-1))] .ret) .skip)) (q [a 20 1,gk 21 .add 20 1,e 1 21] (Q (d' [0,0,3,7,15,0,32,127] [a 22 0,a 23 5,i 24 22 23 2,f 25 24 1,b' 26 25 1,a 27 1,c1 28 160 27,g' 29 .neq 26 28] (u 29 (q [e' 4 (k (-1))] .ret) .skip)) (R [a 30 1,gk 31 .add 30 1,e 1 31]))))) (R [a 10 5,gk 11 .add 10 1,e 5 11])))) (q [a 32 1,e 4 32] .ret))):=kr
theorem rV:Cp 236 9 [.t 2] (q [e' 2 (.c (.str []))] (y' [a 3 0,c1 4 183 3,n' 5 .not 4] 5 2 (.c (.str [])) (q [a 6 0,c 7 277 [v 6,.c (.str [47])],g 8 .add (.c (.str [47])) (v 7),e 2 8] .ret))):=kr
theorem abC:Cp 239 66 [.t 8] (q [e' 8 (.c (.own 1 []))] (y' [a 12 3,gk 13 .eql 12 0] 13 8 (.c (.own 1 [])) (Q (q [a 14 1,g 15 .eql (v 14) (.c (.str []))] (u 15 (q [a 16 0,a 17 3,c2 18 279 16 17,e 8 18] .ret) .skip)) (Q (q [a 19 3,gk 20 .lss 19 0] (u 20 (R [a 21 0,a 22 1,c2 23 280 21 22,gk 24 .add 23 1,e 3 24]) .skip)) (q [a 25 3,a 26 0,n 27 (lens 27 (v 26)),gk 28 .add 27 1,n 29 (mn 29 (v 25) (v 28)),e 3 29] (q [a 30 3,n 31 (mks 31 (v 30) (v 30) 1 16 [.str []]),e 9 31] (q [a 32 3,gk 33 .sub 32 1,e 3 33] (q [e' 10 (k 0)] (Q (j 0 [a 34 10,a 35 3,g' 36 .lss 34 35] 36 (.blk 1 (q [a 37 0,a 38 1,c2 39 281 37 38,e 11 39] (Q (q [a 40 11,gk 41 .lss 40 0] (u 41 (.exit 0) .skip)) (q [a 42 9,a 43 10,a 44 0,a 45 11,a 46 2,g' 47 .add 45 46,n 48 (sls 48 (v 44) none (some (v 47))),i 49 42 43 1,s 49 48 1] (q [a 50 0,a 51 11,a 52 1,n 53 (lens 53 (v 52)),g' 54 .add 51 53,n 55 (sls 55 (v 50) (some (v 54)) none),e 0 55] (R [a 56 10,gk 57 .add 56 1,e 10 57]))))))) (q [a 58 9,a 59 10,a 60 0,i 61 58 59 1,s 61 60 1] (q [a 62 9,a 63 10,gk 64 .add 63 1,n 65 (slc 65 (v 62) none (some (v 64)) 1),e 8 65] .ret))))))))))):=kr
theorem f5:Cp 240 9 [.t 4] (q [e' 4 k0] (q [a 5 0,a 6 1,c2 7 282 5 6,gk 8 .geq 7 0,e 4 8] .ret)):=kr
theorem aab:Cp 241 6 [.t 2] (q [e' 2 k0] (q [a 3 0,c1 4 60 3,n' 5 .not 4,e 2 5] .ret)):=kr
theorem abD:Cp 254 27 [.t 4] (q [e' 4 (k 0)] (q [a 6 1,a 7 0,l 8 7,g' 9 .sub 6 8,e 1 9] (y' [a 10 1,gk 11 .lss 10 0] 11 4 (k (-1)) (Q (q [e' 5 (k 0)] (j 0 [a 12 5,a 13 0,l 14 13,g' 15 .lss 12 14] 15 (Q (.blk 1 (q [a 18 0,a 19 5,i 20 18 19 6,b 21 20 6,a 22 1,c2 23 286 21 22,e 1 23] (q [a 24 1,gk 25 .lss 24 0] (u 25 (q [e' 4 (k (-1))] .ret) .skip)))) (R [a 16 5,gk 17 .add 16 1,e 5 17])))) (q [a 26 1,e 4 26] .ret))))):=kr
theorem iV:Cp 255 65 [.c 6 2 true,.t 7] (q [bo 3 0,z 6 z6,e' 7 (k 0)] (Q (q [b 12 3 2,c1 13 15 12,n' 14 .not 13] (u 14 (q [b 15 3 2,c1 16 146 15,s 6 16 2,e' 7 (k 1)] .ret) .skip)) (q [b 18 3 2,a 19 1,c 20 263 [v 18,v 19,k 0],a 17 20,x 21 17 0,x 22 17 1,x 23 17 2,z 8 zi,s 8 21 6,e 9 22,e 10 23] (Q (q [a 24 10,gk 25 .eql 24 0,a 26 25,hf 26 w 27 3 0,hl 26 w 28 27 1,h 26 w 29 (len 29 (v 28)),hk 26 w 30 .geq 29 30,ha 26 w 31 30,hf 31 r 32 3 1,hl 31 r 33 32 1,hk 31 r 34 .geq 33 1000,h 26 w 35 (pck 35 (v 31) k1 (v 34)),p 36 26 (v 35) k0] (u 36 (R [e' 10 (k 5)]) .skip)) (Q (q [a 37 10,gk 38 .neq 37 0] (u 38 (q [b 39 3 2,c1 40 146 39,a 41 10,s 6 40 2,e 7 41] .ret) .skip)) (q [b 42 3 2,c1 43 146 42,z 11 z6,s 11 43 2] (q [f 44 8 4,b' 45 44 1,a 46 9,f 47 3 1,b' 48 47 1,n 49 (bld 49 [.str [],.int .i64 0] [(0,1,v 46),(1,1,v 48)]),c2 50 264 45 49,f 51 8 4,s 51 50 1] (d' [0,0,3,0,8,0,56,127,255] [b 52 11 2,b 53 8 6,c2 54 258 52 53,f 55 3 1,b' 56 55 1,a 57 2,n 58 (bld 58 zi [(0,1,v 56),(1,1,v 57),(2,1,k 1)]),c2 59 258 54 58,s 11 59 2] (q [f 60 3 1,b' 61 60 1,gk 62 .add 61 1,f 63 11 1,s 63 62 1] (q [b 64 11 2,s 6 64 2,e' 7 (k 0)] .ret)))))))))):=kr
theorem pU:Cp 256 59 [.t 2,.t 3] (q [e' 2 (.c (.own 1 [])),e' 3 k0] (q [o 8 1 [],e 4 8] (Q (q [a 9 0,g 10 .eql (v 9) (.c (.str [47]))] (u 10 (q [a 11 4,e 2 11,e' 3 k1] .ret) .skip)) (q [e' 5 (k 0)] (Q (q [e' 6 (k 0)] (j 0 [a 12 6,a 13 0,n 14 (lens 14 (v 13)),g' 15 .leq 12 14] 15 (Q (.blk 1 (Q (q [a 18 6,a 19 0,n 20 (lens 20 (v 19)),g' 21 .lss 18 20,a 22 21,ha 22 w 23 0,ha 22 w 24 6,h 22 w 25 (sidx 25 (v 23) (v 24)),hg 22 w 26 .neq (v 25) (.c (.int .u8 47)),p 27 22 (v 26) k0] (u 27 (.exit 1) .skip)) (Q (q [a 28 6,gk 29 .gtr 28 0] (u 29 (q [a 30 0,a 31 5,a 32 6,n 33 (sls 33 (v 30) (some (v 31)) (some (v 32))),e 7 33] (Q (q [a 34 7,c1 35 147 34,n' 36 .not 35,a 37 36,ha 37 r 38 4,h 37 r 39 (len 39 (v 38)),hk 37 r 40 .eql 39 30,p 41 37 k1 (v 40)] (u 41 (q [o 42 1 [],e 2 42,e' 3 k0] .ret) .skip)) (R [a 43 4,a 44 7,o 45 1 [v 44],n 46 (app 46 (v 43) (v 45) 1 16),e 4 46]))) .skip)) (R [a 47 6,gk 48 .add 47 1,e 5 48])))) (R [a 16 6,gk 17 .add 16 1,e 6 17])))) (Q (q [a 49 0,n 50 (lens 50 (v 49)),gk 51 .eql 50 0,a 52 51,ha 52 r 53 0,h 52 r 54 (sidx 54 (v 53) (k 0)),hg 52 r 55 .neq (v 54) (.c (.int .u8 47)),p 56 52 k1 (v 55)] (u 56 (q [o 57 1 [],e 2 57,e' 3 k0] .ret) .skip)) (q [a 58 4,e 2 58,e' 3 k1] .ret))))))):=kr
theorem rA:Cp 257 24 [.c 4 6 true,.t 5] (q [bo 2 0,z 4 zi,e' 5 (k 0)] (q [b 9 2 2,a 10 1,c2 11 262 9 10,a 8 11,x 12 8 0,x 13 8 1,z 6 zi,s 6 12 6,e 7 13] (Q (q [a 14 7,gk 15 .eql 14 0,a 16 15,hf 16 w 17 6 1,hl 16 w 18 17 1,hk 16 w 19 .neq 18 1,p 20 16 (v 19) k0] (u 20 (q [n 21 (bld 21 zi []),s 4 21 6,e' 5 (k 3)] .ret) .skip)) (q [b 22 6 6,a 23 7,s 4 22 6,e 5 23] .ret)))):=kr
theorem rW:Cp 258 59 [.c 4 2 true] (q [bo 2 0,bo 3 1,z 4 z6] (q [b 8 2 2,c1 9 146 8,z 5 z6,s 5 9 2] (q [b 10 2 2,f 11 3 0,b' 12 11 1,c2 13 69 10 12,e 6 13] (Q (q [a 14 6,gk 15 .geq 14 0] (u 15 (d' [0,1,0,0,8,31,63] [f 16 5 0,b' 17 16 1,a 18 6,b 19 3 6,c1 20 200 19,i 21 17 18 6,s 21 20 6] (q [b 22 5 2,s 4 22 2] .ret)) .skip)) (q [e' 6 (k 0)] (Q (.blk 0 (.loop (Q (d' [0,0,2,6,15,31,63,127,63,511,1023,2047,63,4159,16383,32767] [a 23 6,f 24 2 0,b' 25 24 1,l 26 25,g' 27 .lss 23 26,a 28 27,hf 28 w 29 2 0,hl 28 w 30 29 1,ha 28 w 31 6,h 28 w 32 (idx 32 (v 30) (v 31) 6),hf 28 w 33 32 0,hl 28 w 34 33 1,hf 28 w 35 3 0,hl 28 w 36 35 1,hg 28 w 37 .lss (v 34) (v 36),p 38 28 (v 37) k0] (u 38 .skip (.exit 0))) (.blk 1 (R [a 39 6,gk 40 .add 39 1,e 6 40]))))) (d' [0,0,2,0,14,31,0,127,255,511,1023] [o 41 6 [],f 42 5 0,b' 43 42 1,a 44 6,n 45 (slc 45 (v 43) none (some (v 44)) 6),n 46 (app 46 (v 41) (v 45) 6 96),b 47 3 6,c1 48 200 47,o 49 6 [v 48],n 50 (app 50 (v 46) (v 49) 6 96),e 7 50] (q [a 51 7,f 52 5 0,b' 53 52 1,a 54 6,n 55 (slc 55 (v 53) (some (v 54)) none 6),n 56 (app 56 (v 51) (v 55) 6 96),f 57 5 0,s 57 56 1] (q [b 58 5 2,s 4 58 2] .ret))))))))):=kr
theorem m4:Cp 259 31 [.t 2,.t 3,.t 4] (q [e' 2 (.c (.str [])),e' 3 (.c (.str [])),e' 4 k0] (q [a 9 0,c1 10 256 9,a 8 10,x 11 8 0,x 12 8 1,e 5 11,e 6 12] (Q (q [a 13 6,n' 14 .not 13,a 15 14,ha 15 r 16 5,h 15 r 17 (len 17 (v 16)),hk 15 r 18 .eql 17 0,p 19 15 k1 (v 18)] (u 19 (q [e' 2 (.c (.str [])),e' 3 (.c (.str [])),e' 4 k0] .ret) .skip)) (q [a 20 5,l 21 20,gk 22 .sub 21 1,e 7 22] (d' [0,0,3,7,0,0,48,112,15,511,1023] [a 23 5,a 24 7,n 25 (slc 25 (v 23) none (some (v 24)) 1),c1 26 287 25,a 27 5,a 28 7,i 29 27 28 1,b' 30 29 1,e 2 26,e 3 30,e' 4 k1] .ret))))):=kr
theorem ag0:Cp 260 30 [.c 4 2 true] (q [bo 2 0,z 4 z6] (q [a 11 1,c1 12 259 11,a 10 12,x 13 10 0,x 14 10 1,x 15 10 2,e 5 13,e 6 14,e 7 15] (q [b 17 2 2,a 18 5,c2 19 262 17 18,a 16 19,x 20 16 0,x 21 16 1,z 8 zi,s 8 20 6,e 9 21] (q [f 22 8 4,b' 23 22 1,a 24 6,c2 25 288 23 24,f 26 8 4,s 26 25 1] (q [b 27 2 2,b 28 8 6,c2 29 258 27 28,s 4 29 2] .ret))))):=kr
theorem aac:Cp 261 37 [.c 4 2 true] (q [bo 2 0,z 4 z6] (q [f 7 2 1,b' 8 7 1,n 9 (bld 9 z6 [(1,1,v 8)]),z 5 z6,s 5 9 2] (Q (q [e' 6 (k 0)] (j 0 [a 10 6,f 11 2 0,b' 12 11 1,l 13 12,g' 14 .lss 10 13] 14 (Q (.blk 1 (q [f 17 2 0,b' 18 17 1,a 19 6,i 20 18 19 6,f 21 20 0,b' 22 21 1,a 23 1,g' 24 .neq 22 23] (u 24 (D [0,1,0,4,0,28,60,124,252,511,1023,2047] [f 25 5 0,b' 26 25 1,f 27 2 0,b' 28 27 1,a 29 6,i 30 28 29 6,b 31 30 6,c1 32 200 31,o 33 6 [v 32],n 34 (app 34 (v 26) (v 33) 6 96),f 35 5 0,s 35 34 1]) .skip))) (R [a 15 6,gk 16 .add 15 1,e 6 16])))) (q [b 36 5 2,s 4 36 2] .ret)))):=kr
theorem aad:Cp 262 30 [.c 4 6 true,.t 5] (q [bo 2 0,z 4 zi,e' 5 (k 0)] (q [b 11 2 2,a 12 1,c2 13 265 11 12,a 10 13,x 14 10 0,x 15 10 1,e 6 14,e 7 15] (Q (q [a 16 7,gk 17 .neq 16 0] (u 17 (q [n 18 (bld 18 zi []),a 19 7,s 4 18 6,e 5 19] .ret) .skip)) (q [b 21 2 2,a 22 6,c2 23 136 21 22,a 20 23,x 24 20 0,x 25 20 1,z 8 zi,s 8 24 6,e 9 25] (Q (q [a 26 9,n' 27 .not 26] (u 27 (q [n 28 (bld 28 zi []),s 4 28 6,e' 5 (k 2)] .ret) .skip)) (q [b 29 8 6,s 4 29 6,e' 5 (k 0)] .ret)))))):=kr
theorem gM:Cp 263 59 [.c 6 6 true,.t 7,.t 8] (q [bo 3 0,z 6 zi,e' 7 (.c (.str [])),e' 8 (k 0)] (q [a 15 1,c1 16 259 15,a 14 16,x 17 14 0,x 18 14 1,x 19 14 2,e 9 17,e 10 18,e 11 19] (Q (q [a 20 11,n' 21 .not 20] (u 21 (q [n 22 (bld 22 zi []),s 6 22 6,e' 7 (.c (.str [])),e' 8 (k 1)] .ret) .skip)) (q [b 24 3 2,a 25 9,c2 26 262 24 25,a 23 26,x 27 23 0,x 28 23 1,z 12 zi,s 12 27 6,e 13 28] (Q (.blk 0 (q [a 30 13,gk 31 .neq 30 0,e 29 31] (u 29 (q [n 32 (bld 32 zi []),a 33 13,s 6 32 6,e' 7 (.c (.str [])),e 8 33] .ret) (q [f 35 12 1,b' 36 35 1,gk 37 .neq 36 2,e 34 37] (u 34 (q [n 38 (bld 38 zi []),s 6 38 6,e' 7 (.c (.str [])),e' 8 (k 3)] .ret) (q [b 40 12 6,a 41 10,c2 42 289 40 41,gk 43 .neq 42 0,e 39 43] (u 39 (q [n 44 (bld 44 zi []),s 6 44 6,e' 7 (.c (.str [])),e' 8 (k 4)] .ret) (q [f 46 12 4,b' 47 46 1,l 48 47,gk 49 .geq 48 10,a 50 49,hf 50 w 51 12 0,hl 50 w 52 51 1,ha 50 w 53 2,hg 50 w 54 .neq (v 52) (v 53),p 55 50 (v 54) k0,e 45 55] (u 45 (q [n 56 (bld 56 zi []),s 6 56 6,e' 7 (.c (.str [])),e' 8 (k 5)] .ret) .skip))))))))) (q [b 57 12 6,a 58 10,s 6 57 6,e 7 58,e' 8 (k 0)] .ret)))))):=kr
theorem ajw:Cp 264 44 [.t 4] (q [bo 3 1,e' 4 (.c (.own 2 []))] (d' [0,0,3,0,8,31,63] [o 7 2 [],a 8 0,n 9 (app 9 (v 7) (v 8) 2 24),b 10 3 2,o 11 2 [v 10],n 12 (app 12 (v 9) (v 11) 2 24),e 5 12] (q [a 13 5,l 14 13,gk 15 .sub 14 1,e 6 15] (Q (.blk 0 (.loop (Q (d' [0,1,3,7,7,23,63,127,255,7,519,2047,4095] [a 16 6,gk 17 .gtr 16 0,a 18 17,ha 18 w 19 5,ha 18 w 20 6,hk 18 w 21 .sub 20 1,h 18 w 22 (idx 22 (v 19) (v 21) 2),hf 18 w 23 22 0,hl 18 w 24 23 1,hf 18 w 25 3 0,hl 18 w 26 25 1,hg 18 w 27 .gtr (v 24) (v 26),p 28 18 (v 27) k0] (u 28 .skip (.exit 0))) (.blk 1 (q [a 29 5,a 30 6,a 31 5,a 32 6,gk 33 .sub 32 1,i 34 31 33 2,b 35 34 2,i 36 29 30 2,s 36 35 2] (R [a 37 6,gk 38 .sub 37 1,e 6 38])))))) (q [a 39 5,a 40 6,b 41 3 2,i 42 39 40 2,s 42 41 2] (q [a 43 5,e 4 43] .ret)))))):=kr
theorem afm:Cp 265 20 [.t 4,.t 5] (q [bo 2 0,e' 4 (k 0),e' 5 (k 0)] (q [a 9 1,c1 10 256 9,a 8 10,x 11 8 0,x 12 8 1,e 6 11,e 7 12] (Q (q [a 13 7,n' 14 .not 13] (u 14 (q [e' 4 (k 0),e' 5 (k 1)] .ret) .skip)) (q [b 15 2 2,a 16 6,c2 17 290 15 16,x 18 17 0,x 19 17 1,e 4 18,e 5 19] .ret)))):=kr
theorem pV:Cp 266 48 [.t 4] (q [e' 4 k0] (q [a 11 0,c1 12 256 11,a 10 12,x 13 10 0,x 14 10 1,e 5 13,e 6 14] (q [a 16 1,c1 17 256 16,a 15 17,x 18 15 0,x 19 15 1,e 7 18,e 8 19] (y' [a 20 6,n' 21 .not 20,a 22 21,ha 22 r 23 8,h 22 r 24 (un 24 .not (v 23)),p 25 22 k1 (v 24),a 26 25,ha 26 r 27 5,h 26 r 28 (len 28 (v 27)),ha 26 r 29 7,h 26 r 30 (len 30 (v 29)),hg 26 r 31 .gtr (v 28) (v 30),p 32 26 k1 (v 31)] 32 4 k0 (Q (q [e' 9 (k 0)] (j 0 [a 33 9,a 34 5,l 35 34,g' 36 .lss 33 35] 36 (Q (.blk 1 (d' [0,0,3,7,0,0,48,112,255] [a 39 5,a 40 9,i 41 39 40 1,b' 42 41 1,a 43 7,a 44 9,i 45 43 44 1,b' 46 45 1,g' 47 .neq 42 46] (u 47 (q [e' 4 k0] .ret) .skip))) (R [a 37 9,gk 38 .add 37 1,e 9 38])))) (q [e' 4 k1] .ret)))))):=kr
theorem ag1:Cp 267 44 [.t 4] (q [bo 3 1,e' 4 (.c (.own 2 []))] (d' [0,0,3,0,8,31,63] [o 7 2 [],a 8 0,n 9 (app 9 (v 7) (v 8) 2 32),b 10 3 2,o 11 2 [v 10],n 12 (app 12 (v 9) (v 11) 2 32),e 5 12] (q [a 13 5,l 14 13,gk 15 .sub 14 1,e 6 15] (Q (.blk 0 (.loop (Q (d' [0,1,3,7,7,23,63,127,255,7,519,2047,4095] [a 16 6,gk 17 .gtr 16 0,a 18 17,ha 18 w 19 5,ha 18 w 20 6,hk 18 w 21 .sub 20 1,h 18 w 22 (idx 22 (v 19) (v 21) 2),hf 18 w 23 22 0,hl 18 w 24 23 1,hf 18 w 25 3 0,hl 18 w 26 25 1,hg 18 w 27 .gtr (v 24) (v 26),p 28 18 (v 27) k0] (u 28 .skip (.exit 0))) (.blk 1 (q [a 29 5,a 30 6,a 31 5,a 32 6,gk 33 .sub 32 1,i 34 31 33 2,b 35 34 2,i 36 29 30 2,s 36 35 2] (R [a 37 6,gk 38 .sub 37 1,e 6 38])))))) (q [a 39 5,a 40 6,b 41 3 2,i 42 39 40 2,s 42 41 2] (q [a 43 5,e 4 43] .ret)))))):=kr
theorem abE:Cp 268 23 [.t 2] (q [e' 2 (.c (.own 6 []))] (q [a 5 0,l 6 5,n 7 (mks 7 (v 6) (v 6) 6 96 zi),e 3 7] (Q (q [e' 4 (k 0)] (j 0 [a 8 4,a 9 0,l 10 9,g' 11 .lss 8 10] 11 (Q (.blk 1 (R [a 14 3,a 15 4,a 16 0,a 17 4,i 18 16 17 6,b 19 18 6,c1 20 291 19,i 21 14 15 6,s 21 20 6])) (R [a 12 4,gk 13 .add 12 1,e 4 13])))) (q [a 22 3,e 2 22] .ret)))):=kr
theorem jN:Cp 269 42 [.t 4] (q [e' 4 (.c (.own 2 []))] (q [a 8 0,a 9 1,c2 10 177 8 9,e 5 10] (Q (q [a 11 5,gk 12 .eql 11 (-1)] (u 12 (q [a 13 0,e 4 13] .ret) .skip)) (Q (q [a 14 5,gk 15 .add 14 1,e 6 15] (j 0 [a 16 6,a 17 0,l 18 17,g' 19 .lss 16 18] 19 (Q (.blk 1 (q [a 22 0,a 23 6,i 24 22 23 2,b 25 24 2,z 7 [.str [],.int .i64 0],s 7 25 2] (q [a 26 1,b 27 7 2,n 28 (callv (some 28) (v 26) [v 27]),n' 29 .not 28] (u 29 (q [a 30 0,a 31 5,b 32 7 2,i 33 30 31 2,s 33 32 2] (R [a 34 5,gk 35 .add 34 1,e 5 35])) .skip)))) (R [a 20 6,gk 21 .add 20 1,e 6 21])))) (q [a 36 0,a 37 5,n 38 (slc 38 (v 36) (some (v 37)) none 2),m (.clr (v 38) 2 [.str [],.int .i64 0])] (q [a 39 0,a 40 5,n 41 (slc 41 (v 39) none (some (v 40)) 2),e 4 41] .ret)))))):=kr
theorem sG:Cp 270 9 [.t 3] (q [bo 2 0,e' 3 k0] (q [f 4 2 0,b' 5 4 1,f 6 1 6,b' 7 6 1,g' 8 .eql 5 7,e 3 8] .ret)):=kr
theorem iO:Cp 271 42 [.t 4] (q [e' 4 (.c (.own 6 []))] (q [a 8 0,a 9 1,c2 10 119 8 9,e 5 10] (Q (q [a 11 5,gk 12 .eql 11 (-1)] (u 12 (q [a 13 0,e 4 13] .ret) .skip)) (Q (q [a 14 5,gk 15 .add 14 1,e 6 15] (j 0 [a 16 6,a 17 0,l 18 17,g' 19 .lss 16 18] 19 (Q (.blk 1 (q [a 22 0,a 23 6,i 24 22 23 6,b 25 24 6,z 7 zi,s 7 25 6] (q [a 26 1,b 27 7 6,n 28 (callv (some 28) (v 26) [v 27]),n' 29 .not 28] (u 29 (q [a 30 0,a 31 5,b 32 7 6,i 33 30 31 6,s 33 32 6] (R [a 34 5,gk 35 .add 34 1,e 5 35])) .skip)))) (R [a 20 6,gk 21 .add 20 1,e 6 21])))) (q [a 36 0,a 37 5,n 38 (slc 38 (v 36) (some (v 37)) none 6),m (.clr (v 38) 6 zi)] (q [a 39 0,a 40 5,n 41 (slc 41 (v 39) none (some (v 40)) 6),e 4 41] .ret)))))):=kr
theorem u6:Cp 272 8 [.t 3] (q [bo 2 0,e' 3 k0] (q [f 4 2 0,b' 5 4 1,b' 6 1 1,g' 7 .eql 5 6,e 3 7] .ret)):=kr
theorem sH:Cp 273 26 [.t 4] (q [e' 4 k0] (y' [a 6 0,l 7 6,a 8 1,l 9 8,g' 10 .neq 7 9] 10 4 k0 (Q (q [a 11 0,l 12 11,n 13 (mov 13 (k 0))] (.blk 0 (.loop (q [g' 14 .lss 13 12] (Q (u 14 .skip (.exit 0)) (Q (.blk 1 (q [a 15 13,e 5 15] (d' [0,0,3,7,0,0,48,112,255] [a 16 0,a 17 5,i 18 16 17 1,b' 19 18 1,a 20 1,a 21 5,i 22 20 21 1,b' 23 22 1,g' 24 .neq 19 23] (u 24 (q [e' 4 k0] .ret) .skip)))) (R [gk 25 .add 13 1,a 13 25]))))))) (q [e' 4 k1] .ret)))):=kr
theorem abF:Cp 274 27 [.t 4] (q [e' 4 k0] (y' [a 6 0,l 7 6,a 8 1,l 9 8,g' 10 .neq 7 9] 10 4 k0 (Q (q [e' 5 (k 0)] (j 0 [a 11 5,a 12 0,l 13 12,g' 14 .lss 11 13] 14 (Q (.blk 1 (d' [0,0,3,7,0,0,48,112,255,511] [a 17 0,a 18 5,i 19 17 18 6,b 20 19 6,a 21 1,a 22 5,i 23 21 22 6,b 24 23 6,c2 25 292 20 24,n' 26 .not 25] (u 26 (q [e' 4 k0] .ret) .skip))) (R [a 15 5,gk 16 .add 15 1,e 5 16])))) (q [e' 4 k1] .ret)))):=kr
theorem oD:Cp 282 19 [.t 4] (q [e' 4 (k 0)] (Q (q [a 6 0,l 7 6,n 8 (mov 8 (k 0))] (.blk 0 (.loop (q [g' 9 .lss 8 7] (Q (u 9 .skip (.exit 0)) (Q (.blk 1 (q [a 10 8,e 5 10] (q [a 11 1,a 12 0,a 13 5,i 14 12 13 1,b' 15 14 1,n 16 (callv (some 16) (v 11) [v 15])] (u 16 (q [a 17 5,e 4 17] .ret) .skip)))) (R [gk 18 .add 8 1,a 8 18]))))))) (q [e' 4 (k (-1))] .ret))):=kr
theorem adT:Cp 286 24 [.t 4] (q [bo 2 0,e' 4 (k 0)] (q [f 5 2 3,b' 6 5 1,a 7 1,c2 8 79 6 7,e 1 8] (y' [a 9 1,gk 10 .lss 9 0] 10 4 (k (-1)) (q [f 11 2 4,b' 12 11 1,a 13 1,c2 14 301 12 13,e 1 14] (y' [a 15 1,gk 16 .lss 15 0] 16 4 (k (-1)) (q [f 17 2 5,b' 18 17 1,a 19 1,c2 20 302 18 19,e 1 20] (y' [a 21 1,gk 22 .lss 21 0] 22 4 (k (-1)) (q [a 23 1,e 4 23] .ret)))))))):=kr
theorem rX:Cp 287 33 [.t 2] (q [e' 2 (.c (.str []))] (y' [a 5 0,l 6 5,gk 7 .eql 6 0] 7 2 (.c (.str [47])) (q [e' 3 (.c (.str []))] (Q (q [e' 4 (k 0)] (j 0 [a 8 4,a 9 0,l 10 9,g' 11 .lss 8 10] 11 (Q (.blk 1 (y' [a 14 0,a 15 4,i 16 14 15 1,b' 17 16 1,c1 18 147 17,n' 19 .not 18,a 20 19,ha 20 r 21 0,h 20 r 22 (len 22 (v 21)),hk 20 r 23 .gtr 22 30,p 24 20 k1 (v 23)] 24 2 (.c (.str [])) (R [a 25 3,g 26 .add (v 25) (.c (.str [47])),a 27 0,a 28 4,i 29 27 28 1,b' 30 29 1,g' 31 .add 26 30,e 3 31]))) (R [a 12 4,gk 13 .add 12 1,e 4 13])))) (q [a 32 3,e 2 32] .ret))))):=kr
theorem ajx:Cp 288 29 [.t 4] (q [e' 4 (.c (.own 2 []))] (q [o 7 2 [],e 5 7] (Q (q [e' 6 (k 0)] (j 0 [a 8 6,a 9 0,l 10 9,g' 11 .lss 8 10] 11 (Q (.blk 1 (q [a 14 0,a 15 6,i 16 14 15 2,f 17 16 0,b' 18 17 1,a 19 1,g' 20 .neq 18 19] (u 20 (R [a 21 5,a 22 0,a 23 6,i 24 22 23 2,b 25 24 2,o 26 2 [v 25],n 27 (app 27 (v 21) (v 26) 2 24),e 5 27]) .skip))) (R [a 12 6,gk 13 .add 12 1,e 6 13])))) (q [a 28 5,e 4 28] .ret)))):=kr
theorem ajy:Cp 289 27 [.t 4] (q [bo 2 0,e' 4 (k 0)] (Q (q [e' 5 (k 0)] (j 0 [a 6 5,f 7 2 4,b' 8 7 1,l 9 8,g' 10 .lss 6 9] 10 (Q (.blk 1 (q [f 13 2 4,b' 14 13 1,a 15 5,i 16 14 15 2,f 17 16 0,b' 18 17 1,a 19 1,g' 20 .eql 18 19] (u 20 (q [f 21 2 4,b' 22 21 1,a 23 5,i 24 22 23 2,f 25 24 1,b' 26 25 1,e 4 26] .ret) .skip))) (R [a 11 5,gk 12 .add 11 1,e 5 12])))) (q [e' 4 (k 0)] .ret))):=kr
theorem ag2:Cp 290 40 [.t 4,.t 5] (q [bo 2 0,e' 4 (k 0),e' 5 (k 0)] (q [e' 6 (k 1)] (Q (q [e' 7 (k 0)] (j 0 [a 9 7,a 10 1,l 11 10,g' 12 .lss 9 11] 12 (Q (.blk 1 (q [b 15 2 2,a 16 6,c2 17 69 15 16,e 8 17] (Q (q [a 18 8,gk 19 .lss 18 0] (u 19 (q [e' 4 (k 0),e' 5 (k 2)] .ret) .skip)) (Q (q [f 20 2 0,b' 21 20 1,a 22 8,i 23 21 22 6,f 24 23 1,b' 25 24 1,gk 26 .neq 25 2] (u 26 (q [e' 4 (k 0),e' 5 (k 3)] .ret) .skip)) (d' [0,1,0,7,15,0,0,96,224,511,1023] [f 27 2 0,b' 28 27 1,a 29 8,i 30 28 29 6,b 31 30 6,a 32 1,a 33 7,i 34 32 33 1,b' 35 34 1,c2 36 289 31 35,e 6 36] (q [a 37 6,gk 38 .eql 37 0] (u 38 (q [e' 4 (k 0),e' 5 (k 2)] .ret) .skip))))))) (R [a 13 7,gk 14 .add 13 1,e 7 14])))) (q [a 39 6,e 4 39,e' 5 (k 0)] .ret)))):=kr
theorem adU:Cp 291 26 [.c 2 6 true] (q [bo 1 0,z 2 zi] (q [z 3 zi] (q [f 4 1 0,b' 5 4 1,f 6 3 0,s 6 5 1] (q [f 7 1 1,b' 8 7 1,f 9 3 1,s 9 8 1] (q [f 10 1 2,b' 11 10 1,f 12 3 2,s 12 11 1] (q [f 13 1 3,b' 14 13 1,c1 15 89 14,f 16 3 3,s 16 15 1] (q [f 17 1 4,b' 18 17 1,c1 19 303 18,f 20 3 4,s 20 19 1] (q [f 21 1 5,b' 22 21 1,c1 23 304 22,f 24 3 5,s 24 23 1] (q [b 25 3 6,s 2 25 6] .ret))))))))):=kr
theorem adV:Cp 292 38 [.t 4] (q [bo 2 0,bo 3 1,e' 4 k0] (y' [f 5 2 0,b' 6 5 1,f 7 3 0,b' 8 7 1,g' 9 .neq 6 8] 9 4 k0 (y' [f 10 2 1,b' 11 10 1,f 12 3 1,b' 13 12 1,g' 14 .neq 11 13] 14 4 k0 (y' [f 15 2 2,b' 16 15 1,f 17 3 2,b' 18 17 1,g' 19 .neq 16 18] 19 4 k0 (y' [f 20 2 3,b' 21 20 1,f 22 3 3,b' 23 22 1,c2 24 93 21 23,n' 25 .not 24] 25 4 k0 (y' [f 26 2 4,b' 27 26 1,f 28 3 4,b' 29 28 1,c2 30 305 27 29,n' 31 .not 30] 31 4 k0 (y' [f 32 2 5,b' 33 32 1,f 34 3 5,b' 35 34 1,c2 36 306 33 35,n' 37 .not 36] 37 4 k0 (q [e' 4 k1] .ret)))))))):=kr
theorem ag3:Cp 301 27 [.t 4] (q [e' 4 (k 0)] (q [a 6 1,a 7 0,l 8 7,g' 9 .sub 6 8,e 1 9] (y' [a 10 1,gk 11 .lss 10 0] 11 4 (k (-1)) (Q (q [e' 5 (k 0)] (j 0 [a 12 5,a 13 0,l 14 13,g' 15 .lss 12 14] 15 (Q (.blk 1 (q [a 18 0,a 19 5,i 20 18 19 2,b 21 20 2,a 22 1,c2 23 314 21 22,e 1 23] (q [a 24 1,gk 25 .lss 24 0] (u 25 (q [e' 4 (k (-1))] .ret) .skip)))) (R [a 16 5,gk 17 .add 16 1,e 5 17])))) (q [a 26 1,e 4 26] .ret))))):=kr
theorem adW:Cp 302 27 [.t 4] (q [e' 4 (k 0)] (q [a 6 1,a 7 0,l 8 7,g' 9 .sub 6 8,e 1 9] (y' [a 10 1,gk 11 .lss 10 0] 11 4 (k (-1)) (Q (q [e' 5 (k 0)] (j 0 [a 12 5,a 13 0,l 14 13,g' 15 .lss 12 14] 15 (Q (.blk 1 (q [a 18 0,a 19 5,i 20 18 19 2,b 21 20 2,a 22 1,c2 23 315 21 22,e 1 23] (q [a 24 1,gk 25 .lss 24 0] (u 25 (q [e' 4 (k (-1))] .ret) .skip)))) (R [a 16 5,gk 17 .add 16 1,e 5 17])))) (q [a 26 1,e 4 26] .ret))))):=kr
theorem ag4:Cp 303 23 [.t 2] (q [e' 2 (.c (.own 2 []))] (q [a 5 0,l 6 5,n 7 (mks 7 (v 6) (v 6) 2 24 [.str [],.int .i64 0]),e 3 7] (Q (q [e' 4 (k 0)] (j 0 [a 8 4,a 9 0,l 10 9,g' 11 .lss 8 10] 11 (Q (.blk 1 (R [a 14 3,a 15 4,a 16 0,a 17 4,i 18 16 17 2,b 19 18 2,c1 20 316 19,i 21 14 15 2,s 21 20 2])) (R [a 12 4,gk 13 .add 12 1,e 4 13])))) (q [a 22 3,e 2 22] .ret)))):=kr
theorem adX:Cp 304 23 [.t 2] (q [e' 2 (.c (.own 2 []))] (q [a 5 0,l 6 5,n 7 (mks 7 (v 6) (v 6) 2 32 [.str [],.str []]),e 3 7] (Q (q [e' 4 (k 0)] (j 0 [a 8 4,a 9 0,l 10 9,g' 11 .lss 8 10] 11 (Q (.blk 1 (R [a 14 3,a 15 4,a 16 0,a 17 4,i 18 16 17 2,b 19 18 2,c1 20 317 19,i 21 14 15 2,s 21 20 2])) (R [a 12 4,gk 13 .add 12 1,e 4 13])))) (q [a 22 3,e 2 22] .ret)))):=kr
theorem ag5:Cp 305 27 [.t 4] (q [e' 4 k0] (y' [a 6 0,l 7 6,a 8 1,l 9 8,g' 10 .neq 7 9] 10 4 k0 (Q (q [e' 5 (k 0)] (j 0 [a 11 5,a 12 0,l 13 12,g' 14 .lss 11 13] 14 (Q (.blk 1 (d' [0,0,3,7,0,0,48,112,255,511] [a 17 0,a 18 5,i 19 17 18 2,b 20 19 2,a 21 1,a 22 5,i 23 21 22 2,b 24 23 2,c2 25 318 20 24,n' 26 .not 25] (u 26 (q [e' 4 k0] .ret) .skip))) (R [a 15 5,gk 16 .add 15 1,e 5 16])))) (q [e' 4 k1] .ret)))):=kr
theorem adY:Cp 306 27 [.t 4] (q [e' 4 k0] (y' [a 6 0,l 7 6,a 8 1,l 9 8,g' 10 .neq 7 9] 10 4 k0 (Q (q [e' 5 (k 0)] (j 0 [a 11 5,a 12 0,l 13 12,g' 14 .lss 11 13] 14 (Q (.blk 1 (d' [0,0,3,7,0,0,48,112,255,511] [a 17 0,a 18 5,i 19 17 18 2,b 20 19 2,a 21 1,a 22 5,i 23 21 22 2,b 24 23 2,c2 25 319 20 24,n' 26 .not 25] (u 26 (q [e' 4 k0] .ret) .skip))) (R [a 15 5,gk 16 .add 15 1,e 5 16])))) (q [e' 4 k1] .ret)))):=kr
theorem ajz:Cp 314 13 [.t 4] (q [bo 2 0,e' 4 (k 0)] (q [a 5 1,f 6 2 0,b' 7 6 1,n 8 (lens 8 (v 7)),g' 9 .sub 5 8,e 1 9] (y' [a 10 1,gk 11 .lss 10 0] 11 4 (k (-1)) (q [a 12 1,e 4 12] .ret)))):=kr
theorem ag6:Cp 315 20 [.t 4] (q [bo 2 0,e' 4 (k 0)] (q [a 5 1,f 6 2 0,b' 7 6 1,n 8 (lens 8 (v 7)),g' 9 .sub 5 8,e 1 9] (y' [a 10 1,gk 11 .lss 10 0] 11 4 (k (-1)) (q [a 12 1,f 13 2 1,b' 14 13 1,n 15 (lens 15 (v 14)),g' 16 .sub 12 15,e 1 16] (y' [a 17 1,gk 18 .lss 17 0] 18 4 (k (-1)) (q [a 19 1,e 4 19] .ret)))))):=kr
theorem ajA:Cp 316 11 [.c 2 2 true] (q [bo 1 0,z 2 [.str [],.int .i64 0]] (q [z 3 [.str [],.int .i64 0]] (q [f 4 1 0,b' 5 4 1,f 6 3 0,s 6 5 1] (q [f 7 1 1,b' 8 7 1,f 9 3 1,s 9 8 1] (q [b 10 3 2,s 2 10 2] .ret))))):=kr
theorem ag7:Cp 317 11 [.c 2 2 true] (q [bo 1 0,z 2 [.str [],.str []]] (q [z 3 [.str [],.str []]] (q [f 4 1 0,b' 5 4 1,f 6 3 0,s 6 5 1] (q [f 7 1 1,b' 8 7 1,f 9 3 1,s 9 8 1] (q [b 10 3 2,s 2 10 2] .ret))))):=kr
theorem ajB:Cp 318 15 [.t 4] (q [bo 2 0,bo 3 1,e' 4 k0] (y' [f 5 2 0,b' 6 5 1,f 7 3 0,b' 8 7 1,g' 9 .neq 6 8] 9 4 k0 (y' [f 10 2 1,b' 11 10 1,f 12 3 1,b' 13 12 1,g' 14 .neq 11 13] 14 4 k0 (q [e' 4 k1] .ret)))):=kr
theorem ag8:Cp 319 15 [.t 4] (q [bo 2 0,bo 3 1,e' 4 k0] (y' [f 5 2 0,b' 6 5 1,f 7 3 0,b' 8 7 1,g' 9 .neq 6 8] 9 4 k0 (y' [f 10 2 1,b' 11 10 1,f 12 3 1,b' 13 12 1,g' 14 .neq 11 13] 14 4 k0 (q [e' 4 k1] .ret)))):=kr
end
section
open Go.Proofs Go.Shelf
def sI:Go.Shelf.Ren:=⟨fun | 143=>281 | 219=>300 | 217=>310 | 225=>311 | 224=>312 | 267=>313 | 266=>322 | 314=>323 | n=>n,
 fun | 9=>9 | 3=>3 | 4=>4 | 5=>5 | 46=>157 | 146=>292 | 51=>200 | n=>n,
 fun | 1=>0 | n=>n⟩
theorem abG:Lays.n143 Tryz.prog sI where
 mixed:=by kernel_rfl
 f143:=Tryz.func281.trans (congrArg some (by kernel_rfl))
 f217:=Tryz.func310.trans (congrArg some (by kernel_rfl))
 f219:=Tryz.func300.trans (congrArg some (by kernel_rfl))
 f224:=Tryz.func312.trans (congrArg some (by kernel_rfl))
 f225:=Tryz.func311.trans (congrArg some (by kernel_rfl))
 f266:=Tryz.func322.trans (congrArg some (by kernel_rfl))
 f267:=Tryz.func313.trans (congrArg some (by kernel_rfl))
 f314:=Tryz.func323.trans (congrArg some (by kernel_rfl))
 t3:=Tryz.underlying3
 a3:=Tryz.isAgg3
 z3:=Tryz.sizeOf3
 v3:=Tryz.zeroValue3
 t4:=Tryz.underlying4
 a4:=Tryz.isAgg4
 z4:=Tryz.sizeOf4
 v4:=Tryz.zeroValue4
 t5:=Tryz.underlying5
 a5:=Tryz.isAgg5
 z5:=Tryz.sizeOf5
 v5:=Tryz.zeroValue5
 t9:=Tryz.underlying9
 a9:=Tryz.isAgg9
 z9:=Tryz.sizeOf9
 v9:=Tryz.zeroValue9
 t46:=Tryz.underlying157
 a46:=Tryz.isAgg157
 z46:=Tryz.sizeOf157
 v46:=Tryz.zeroValue157
 t51:=Tryz.underlying200
 a51:=Tryz.isAgg200
 z51:=Tryz.sizeOf200
 v51:=Tryz.zeroValue200
 t146:=Tryz.underlying292
 a146:=Tryz.isAgg292
 z146:=Tryz.sizeOf292
 v146:=Tryz.zeroValue292
 g1:=by kernel_rfl
def sJ:Go.Shelf.Ren:=⟨fun | 138=>280 | 195=>297 | 218=>299 | 143=>281 | 219=>300 | 217=>310 | 225=>311 | 224=>312 | 267=>313 | 266=>322 | 314=>323 | n=>n,
 fun | 9=>9 | 3=>3 | 4=>4 | 5=>5 | 0=>0 | 46=>157 | 146=>292 | 51=>200 | n=>n,
 fun | 1=>0 | n=>n⟩
theorem abH:Lays.n138 Tryz.prog sJ where
 mixed:=by kernel_rfl
 f138:=Tryz.func280.trans (congrArg some (by kernel_rfl))
 f143:=Tryz.func281.trans (congrArg some (by kernel_rfl))
 f195:=Tryz.func297.trans (congrArg some (by kernel_rfl))
 f217:=Tryz.func310.trans (congrArg some (by kernel_rfl))
 f218:=Tryz.func299.trans (congrArg some (by kernel_rfl))
 f219:=Tryz.func300.trans (congrArg some (by kernel_rfl))
 f224:=Tryz.func312.trans (congrArg some (by kernel_rfl))
 f225:=Tryz.func311.trans (congrArg some (by kernel_rfl))
 f266:=Tryz.func322.trans (congrArg some (by kernel_rfl))
 f267:=Tryz.func313.trans (congrArg some (by kernel_rfl))
 f314:=Tryz.func323.trans (congrArg some (by kernel_rfl))
 t0:=Tryz.underlying0
 a0:=Tryz.isAgg0
 z0:=Tryz.sizeOf0
 v0:=Tryz.zeroValue0
 t3:=Tryz.underlying3
 a3:=Tryz.isAgg3
 z3:=Tryz.sizeOf3
 v3:=Tryz.zeroValue3
 t4:=Tryz.underlying4
 a4:=Tryz.isAgg4
 z4:=Tryz.sizeOf4
 v4:=Tryz.zeroValue4
 t5:=Tryz.underlying5
 a5:=Tryz.isAgg5
 z5:=Tryz.sizeOf5
 v5:=Tryz.zeroValue5
 t9:=Tryz.underlying9
 a9:=Tryz.isAgg9
 z9:=Tryz.sizeOf9
 v9:=Tryz.zeroValue9
 t46:=Tryz.underlying157
 a46:=Tryz.isAgg157
 z46:=Tryz.sizeOf157
 v46:=Tryz.zeroValue157
 t51:=Tryz.underlying200
 a51:=Tryz.isAgg200
 z51:=Tryz.sizeOf200
 v51:=Tryz.zeroValue200
 t146:=Tryz.underlying292
 a146:=Tryz.isAgg292
 z146:=Tryz.sizeOf292
 v146:=Tryz.zeroValue292
 g1:=by kernel_rfl
def mH:Go.Shelf.Ren:=⟨fun | 156=>277 | 165=>293 | 166=>294 | 169=>295 | 240=>307 | 241=>308 | 276=>320 | 277=>321 | n=>n,
 fun | 31=>36 | 9=>9 | 3=>3 | 4=>4 | 0=>0 | 20=>20 | 72=>259 | 76=>263 | 70=>257 | 37=>22 | 75=>262 | 127=>275 | 164=>285 | 5=>5 | 80=>265 | n=>n,
 fun | n=>n⟩
theorem rY:Lays.n156 Tryz.prog mH where
 mixed:=by kernel_rfl
 f156:=Tryz.func277.trans (congrArg some (by kernel_rfl))
 f165:=Tryz.func293.trans (congrArg some (by kernel_rfl))
 f166:=Tryz.func294.trans (congrArg some (by kernel_rfl))
 f169:=Tryz.func295.trans (congrArg some (by kernel_rfl))
 f240:=Tryz.func307.trans (congrArg some (by kernel_rfl))
 f241:=Tryz.func308.trans (congrArg some (by kernel_rfl))
 f276:=Tryz.func320.trans (congrArg some (by kernel_rfl))
 f277:=Tryz.func321.trans (congrArg some (by kernel_rfl))
 t0:=Tryz.underlying0
 a0:=Tryz.isAgg0
 z0:=Tryz.sizeOf0
 v0:=Tryz.zeroValue0
 t3:=Tryz.underlying3
 a3:=Tryz.isAgg3
 z3:=Tryz.sizeOf3
 v3:=Tryz.zeroValue3
 t4:=Tryz.underlying4
 a4:=Tryz.isAgg4
 z4:=Tryz.sizeOf4
 v4:=Tryz.zeroValue4
 t9:=Tryz.underlying9
 a9:=Tryz.isAgg9
 z9:=Tryz.sizeOf9
 v9:=Tryz.zeroValue9
 t20:=Tryz.underlying20
 a20:=Tryz.isAgg20
 z20:=Tryz.sizeOf20
 v20:=Tryz.zeroValue20
 t31:=Tryz.underlying36
 a31:=Tryz.isAgg36
 z31:=Tryz.sizeOf36
 v31:=Tryz.zeroValue36
 t37:=Tryz.underlying22
 a37:=Tryz.isAgg22
 z37:=Tryz.sizeOf22
 v37:=Tryz.zeroValue22
 t70:=Tryz.underlying257
 a70:=Tryz.isAgg257
 z70:=Tryz.sizeOf257
 v70:=Tryz.zeroValue257
 t72:=Tryz.underlying259
 a72:=Tryz.isAgg259
 z72:=Tryz.sizeOf259
 v72:=Tryz.zeroValue259
 t75:=Tryz.underlying262
 a75:=Tryz.isAgg262
 z75:=Tryz.sizeOf262
 v75:=Tryz.zeroValue262
 t76:=Tryz.underlying263
 a76:=Tryz.isAgg263
 z76:=Tryz.sizeOf263
 v76:=Tryz.zeroValue263
 t127:=Tryz.underlying275
 a127:=Tryz.isAgg275
 z127:=Tryz.sizeOf275
 v127:=Tryz.zeroValue275
 t164:=Tryz.underlying285
 a164:=Tryz.isAgg285
 z164:=Tryz.sizeOf285
 v164:=Tryz.zeroValue285
end
section
@[congr] theorem bind_congr_l {α β:Type} {a b:Option α} {f:α->Option β} (h:a=b):a.bind f=b.bind f:=by rw[h]
@[congr] theorem map_congr_l {α β:Type} {a b:Option α} {f:α->β} (h:a=b):a.map f=b.map f:=by rw[h]
def aoG (E:Env):List Plc->Bool
 | []=>true
 | (_,_,r,p)::l=>isU (b9 (E.f r) p) && aoG E l
theorem aoH (E:Env):∀ l:List Plc,aoG E l=l.all (fun q=>isU (b9 (E.f q.2.2.1) q.2.2.2)):=by
 intro l;induction l with
 | nil=>rfl
 | cons q l ih=>obtain⟨k,j,r,p⟩:=q; simp[aoG,ih]
theorem aqJ:∀ (E:Env) (q:Plc) (pls:List Plc) (outs:List AV),mM E none (q::pls) outs=if aoG E (q::pls)=true then mT E outs (q::pls) else none:=by
 intro E q pls outs;rw[aoH]; rfl
theorem SAU:(∀ E:Env,aoG E []=true)/\(∀ (E:Env) (k:Nat) (j:Option Nat) (r:Nat) (p:bA) (l:List Plc),aoG E ((k,j,r,p)::l)=(isU (b9 (E.f r) p) && aoG E l)):=⟨fun _=>rfl,fun _ _ _ _ _ _=>rfl⟩
theorem SBK:∀ (E:Env) (outs:List AV),mM E none [] outs=mT E outs []:=by
 intro E outs;simp[mM]
theorem SB0:type_of% (And.intro SBK aqJ):=And.intro SBK aqJ
abbrev aA:=List UInt8
theorem m5 {α:Type} {f:α->Nat} {l:List α} {x:α} (h:x ∈ l):f x<=(l.map f).sum:=by
 induction l with
 | nil=>simp at h
 | cons y l ih=>
  rcases lN.1 h with rfl | h
  ·simp
  ·have:=ih h; simp; omega
theorem aL {α:Type} {l:List α} {i:Nat} (h:(i:Int)<(l.length:Nat)):l[i]?=some (l[i]'A7):=by simp
theorem l5 {α:Type} (f:α->Nat) {l:List α} {i:Nat} (h:i<l.length):f l[i]<=(l.map f).sum:=m5 (lI h)
theorem cR {α:Type} (f:α->Nat) (l:List α) (i:Nat) (h:i<l.length):((l.take (i+1)).map f).sum=((l.take i).map f).sum+f l[i]:=by
 rw[lV h,lP2,List.sum_append];simp only[lR,lW2,lK2,List.sum_nil,lT3]
theorem aX {α:Type} (f:α->Nat) (l:List α) (i:Nat):((l.take i).map f).sum<=(l.map f).sum:=by
 conv=>rhs; rw[<-lJ i l,lP2,List.sum_append]
 omega
theorem eL {α:Type} {a b:List α} {i:Nat} (h:a.take i=b.take i) (h1:i<a.length) (h2:i<b.length) (e:a[i]=b[i]):a.take (i+1)=b.take (i+1):=by
 rw[lV h1,lV h2,h,e]
theorem nY {α:Type} {a b:List α} {i:Nat} (h:a.take i=b.take i) (h1:a.length<=i) (h2:b.length<=i):a=b:=by
 rwa [lW1 h1,lW1 h2] at h
def adZ {α β:Type} (f:α->Int->β) (g:α->β) (c:α->Nat):List α->Int->Nat->List β
 | [],_,_=>[]
 | x::l,_,0=>g x::l.map g
 | x::l,k,i+1=>f x k::adZ f g c l (k+c x) i
def eR {α β:Type} (f:α->Int->β) (c:α->Nat):List α->Int->List β
 | [],_=>[]
 | x::l,k=>f x k::eR f c l (k+c x)
section
variable {α β γ:Type} (f:α->Int->β) (g:α->β) (c:α->Nat)
theorem ajC (l:List α) (k:Int):adZ f g c l k 0=l.map g:=by cases l <;> rfl
theorem afn:∀ (l:List α) (k:Int) (i:Nat),(adZ f g c l k i).length=l.length:=by
 intro l;induction l with
 | nil=>intro k i; rfl
 | cons x l ih=>intro k i; cases i <;> simp[adZ,ih]
theorem afo:∀ (l:List α) (k:Int) (i:Nat),l.length<=i->adZ f g c l k i=eR f c l k:=by
 intro l;induction l with
 | nil=>intro k i h; rfl
 | cons x l ih=>
  intro k i h;cases i with
  | zero=>simp at h
  | succ i=>simp only[adZ,eR]; rw[ih _ _ (by simpa using h)]
theorem amm:∀ (l:List α) (k:Int) (i:Nat),(adZ f g c l k i)[i]?=(l[i]?).map g:=by
 intro l;induction l with
 | nil=>intro k i; simp[adZ]
 | cons x l ih=>intro k i; cases i <;> simp[adZ,ih]
theorem afp:∀ (l:List α) (k:Int) (i:Nat) (hi:i<l.length) (h:β->β) (e:h (g l[i])=f l[i] (k+((l.take i).map c).sum)),(adZ f g c l k i).modify i h=adZ f g c l k (i+1):=by
 intro l;induction l with
 | nil=>intro k i hi; simp at hi
 | cons x l ih=>
  intro k i hi h e;cases i with
  | zero=>simp only[adZ,lM3]; simp at e; rw[e,ajC]
  | succ i=>
   simp only[adZ,lN3];rw[ih _ i (by simpa using hi) h];simp only[List.getElem_cons_succ,List.take_succ_cons,lR,lK2] at e;rw[e]; congr 1; omega
theorem abI:∀ (l:List α) (k:Int),(eR f c l k).length=l.length:=by
 intro l;induction l with
 | nil=>intro k; rfl
 | cons x l ih=>intro k; simp[eR,ih]
theorem abJ:∀ (l:List α) (k:Int) (i:Nat),(eR f c l k)[i]?=(l[i]?).map fun x=>f x (k+((l.take i).map c).sum):=by
 intro l;induction l with
 | nil=>intro k i; simp[eR]
 | cons x l ih=>
  intro k i;cases i with
  | zero=>simp[eR]
  | succ i=>
   simp only[eR,lT4,ih,List.take_succ_cons,lR,lK2];congr 1; funext y; congr 1; omega
theorem ajD (r:β->γ):∀ (l:List α) (k:Int),(eR f c l k).map r=eR (fun x k=>r (f x k)) c l k:=by
 intro l;induction l with
 | nil=>intro k; rfl
 | cons x l ih=>intro k; simp[eR,ih]
end
def rB {α:Type} (f:α->List TV) (z:List TV) (l:List α) (i:Nat):List (List TV):=adZ (fun x _=>f x) (fun _=>z) (fun _=>0) l 0 i
theorem u7 {α:Type} (f:α->List TV) (z:List TV) (l:List α):rB f z l 0=List.replicate l.length z:=by
 rw[rB,ajC,List.map_const']
theorem m6 {α:Type} (f:α->List TV) (z:List TV) (l:List α) (i:Nat) (h:l.length<=i):rB f z l i=l.map f:=by
 rw[rB,afo _ _ _ _ _ _ h];generalize (0:Int)=k;induction l generalizing k i with
 | nil=>rfl
 | cons x l ih=>simp only[eR,lR]; rw[ih l.length A7]
theorem ajE {α:Type} (f:α->List TV) (z:List TV) (l:List α) (i:Nat):(rB f z l i).length=l.length:=afn ..
theorem m7 {α:Type} (f:α->List TV) (z:List TV) (l:List α) (i:Nat) (h:i<l.length) (g:List TV->List TV) (hg:g z=f l[i]):(rB f z l i).modify i g=rB f z l (i+1):=
 afp _ _ _ _ _ _ h _ hg
def ad0 {α:Type} (r:α->List TV) (f:α->Int->α) (c:α->Nat) (l:List α) (k:Int) (i:Nat):List (List TV):=adZ (fun x k=>r (f x k)) r c l k i
section
variable {α:Type} (r:α->List TV) (f:α->Int->α) (c:α->Nat)
theorem abK (l:List α) (k:Int):ad0 r f c l k 0=l.map r:=ajC ..
theorem amn (l:List α) (k:Int) (i:Nat):(ad0 r f c l k i).length=l.length:=afn ..
theorem amo (l:List α) (k:Int) (i:Nat):(ad0 r f c l k i)[i]?=(l[i]?).map r:=amm ..
theorem pY (l:List α) (k:Int) (i:Nat) (h:l.length<=i):ad0 r f c l k i=(eR f c l k).map r:=by rw[ad0,afo _ _ _ _ _ _ h,ajD]
theorem pZ (l:List α) (k:Int) (i:Nat) (hi:i<l.length) (h:List TV->List TV) (e:h (r l[i])=r (f l[i] (k+((l.take i).map c).sum))):(ad0 r f c l k i).modify i h=ad0 r f c l k (i+1):=
 afp _ _ _ _ _ _ hi _ e
end
def rC (x:UInt8):List TV:=[.int .u8 x.toNat]
def mI (b:aA) (k:Int):aA:=eR (fun _ k=>UInt8.ofInt k) (fun _=>1) b k
theorem ajF {α:Type} (l:List α):(l.map fun _=>1).sum=l.length:=by induction l with | nil=>rfl | cons x l ih=>simp[ih]; omega
theorem ag9 (b:aA) (k:Int):(mI b k).length=b.length:=abI ..
theorem aha (b:aA) (k:Int) (i:Nat):(mI b k)[i]?=(b[i]?).map fun _=>UInt8.ofInt (k+i):=by
 rw[mI,abJ];by_cases h:i<b.length
 ·simp only[ajF,lH,lB1 (Nat.le_of_lt h)]
 ·rw[lC2 A7]; rfl
theorem xR (k:Int):IntKind.u8.wrap k=((UInt8.ofInt k).toNat:Int):=by
 have e:IntKind.u8.wrap k=k%256:=by
  have h1:((2:Int)^IntKind.u8.bits)=256:=by decide
  unfold IntKind.wrap;simp only[h1];simp[IntKind.signed]
 rw[e];simp[UInt8.ofInt];omega
theorem xS (b:aA):aJ b=b.map rC:=rfl
theorem ahb (b:aA) (k:Int) (i:Nat) (h:b.length<=i):ad0 rC (fun _ k=>UInt8.ofInt k) (fun _=>1) b k i=aJ (mI b k):=pY _ _ _ _ _ _ h
theorem SF:(∀ (α:Type) (f:α->List TV) (z:List TV) (l:List α) (i:Nat),(rB f z l i).length=l.length) /\
  (∀ (α:Type) (r:α->List TV) (f:α->Int->α) (c:α->Nat) (l:List α) (k:Int) (i:Nat),(ad0 r f c l k i).length=l.length) /\
  (∀ (α:Type) (r:α->List TV) (f:α->Int->α) (c:α->Nat) (l:List α) (k:Int) (i:Nat),(ad0 r f c l k i)[i]?=(l[i]?).map r) /\
  (∀ (α β:Type) (f:α->Int->β) (c:α->Nat) (l:List α) (k:Int),(eR f c l k).length=l.length) /\
  (∀ (α β:Type) (f:α->Int->β) (c:α->Nat) (l:List α) (k:Int) (i:Nat),(eR f c l k)[i]?=(l[i]?).map fun x=>f x (k+((l.take i).map c).sum)) /\
  (∀ (b:aA) (k:Int),(mI b k).length=b.length)/\(∀ (b:aA) (k:Int) (i:Nat),(mI b k)[i]?=(b[i]?).map fun _=>UInt8.ofInt (k+i)) /\
  (∀ (α:Type) (l:List α) (i:Nat) (f g:α->α),(l.modify i f).modify i g=l.modify i (fun x=>g (f x)))/\(∀ (α:Type) (l:List α) (i:Nat) (f:α->α),(l.modify i f)[i]?=(l[i]?).map f) /\
  (∀ (α:Type) (l:List α) (i:Nat) (f:α->α),(l.modify i f).length=l.length):=
 ⟨fun _=>ajE,fun _=>amn,fun _=>amo,fun _ _=>abI,fun _ _=>abJ,ag9,aha,
  fun _ l i f g=>List.modify_modify_eq f g i l,fun _ l i f=>by simp,fun _ l i f=>by simp⟩
theorem u9 (b:aA):eV (aJ b)=true:=by
 simp[eV,aJ]
 intros; rfl
theorem abL (b:aA):gC (aJ b)=true:=by
 simp[gC,aJ]
 intros; rfl
theorem ad1 (b:aA):cZ (aJ b)=some b:=by
 induction b with
 | nil=>rfl
 | cons x b ih=>
  simp only[aJ,lR];simp only[aJ] at ih;have h1:qP [.int .u8 x.toNat]=some x:=by
   have:=x.toNat_lt;simp[qP]
   try omega
  simp[cZ,ih,h1]
theorem SK:gC []=true/\(∀ (e:List TV) (l:List (List TV)),gC (e::l)=(e.all b5 && gC l))/\(∀ (t:TV) (e:List TV),(t::e).all b5=(b5 t && e.all b5))/\([]:List TV).all b5=true /\
  (∀ b,b5 (.bool b)=true)/\(∀ k n,b5 (.int k n)=true)/\(∀ s,b5 (.str s)=true)/\(∀ s es,b5 (.sl s es)=true) /\
  eV []=true/\(∀ (e:List TV) (l:List (List TV)),eV (e::l)=(e.all lA && eV l))/\(∀ (t:TV) (e:List TV),(t::e).all lA=(lA t && e.all lA))/\([]:List TV).all lA=true /\
  (∀ b,lA (.bool b)=true)/\(∀ k n,lA (.int k n)=true)/\(∀ s,lA (.str s)=true) /\
  (∀ b:aA,eV (aJ b)=true)/\(∀ b:aA,gC (aJ b)=true)/\(∀ b:aA,cZ (aJ b)=some b):=
 ⟨rfl,fun _ _=>rfl,fun _ _=>rfl,rfl,fun _=>rfl,fun _ _=>rfl,fun _=>rfl,fun _ _=>rfl,rfl,fun _ _=>rfl,fun _ _=>rfl,rfl,fun _=>rfl,fun _ _=>rfl,fun _=>rfl,u9,abL,ad1⟩
theorem SB:min 1 IntKind.i64.bits=1/\min 7 IntKind.i64.bits=7/\min 8 IntKind.i64.bits=8/\min 14 IntKind.i64.bits=14/\min 16 IntKind.i64.bits=16/\min 24 IntKind.i64.bits=24/\min 33 IntKind.i64.bits=33/\min 47 IntKind.i64.bits=47/\min 1 IntKind.u32.bits=1/\min 8 IntKind.u32.bits=8/\min 16 IntKind.u32.bits=16/\min 24 IntKind.u32.bits=24:=by decide
theorem m8 {α:Type} (c:α->Nat) (h:∀ x,1<=c x) (l:List α):l.length<=(l.map c).sum:=by
 induction l with
 | nil=>simp
 | cons x l ih=>have:=h x; simp; omega
def szC (l:Int) (n:Nat):Int:=if l<n then -1 else l-n
theorem b7 {l:Int} {n:Nat} (h:l<n):szC l n=-1:=lK h
theorem dI {l:Int} {n:Nat} (h:¬ l<n):szC l n=l-n:=lO h
def ak4 (n:Nat):aA:=if h:n=0 then [] else ak4 (n/10)++[UInt8.ofNat (48+n%10)]
termination_by n
def jO (k:Int):aA:=if k<=0 then [109,48] else 109::ak4 k.toNat
def fH {α:Type} (c:α->Nat) (l:List α):Nat:=(l.map c).sum
def szM {α:Type} (c:α->Nat) (l:List α):Nat:=l.length+(l.map c).sum
structure Ent where
 name:aA
 ino:Int
 deriving DecidableEq,Inhabited
def Ent.row (a:Ent):List TV:=[.str a.name,.int .i64 a.ino]
def Ent.x (a:Ent):AV:=.agg [.str a.name,.int .i64 a.ino]
def Ent.o (a:Ent):AV:=.agg [.str a.name,.int .i64 a.ino]
def Ent.sz (a:Ent):Nat:=a.name.length
def Ent.fine (a:Ent):Prop:=(a.name.length<2^48)
def Ent.cnt (a:Ent):Nat:=1+1
def Ent.cntT (a:Ent):Nat:=0
def Ent.marked (a:Ent) (k:Int):Ent:={ name:=jO (k),ino:=k+1 }
def Ent.markT (a:Ent) (k:Int):Ent:={ name:=a.name,ino:=a.ino }
def Ent.zero:List TV:=[.str [],.int .i64 0]
theorem Ent.eq' {a b:Ent} (h0:a.name=b.name) (h1:a.ino=b.ino):a=b:=by cases a; cases b; simp_all
theorem Ent.cnt1 (a:Ent):1<=a.cnt:=by simp only[Ent.cnt]; omega
structure Attr where
 name:aA
 val:aA
 deriving DecidableEq,Inhabited
def Attr.row (a:Attr):List TV:=[.str a.name,.str a.val]
def Attr.x (a:Attr):AV:=.agg [.str a.name,.str a.val]
def Attr.o (a:Attr):AV:=.agg [.str a.name,.str a.val]
def Attr.sz (a:Attr):Nat:=a.name.length+a.val.length
def Attr.fine (a:Attr):Prop:=(a.name.length<2^48)/\(a.val.length<2^48)
def Attr.cnt (a:Attr):Nat:=1+1
def Attr.cntT (a:Attr):Nat:=0
def Attr.marked (a:Attr) (k:Int):Attr:={ name:=jO (k),val:=jO (k+1) }
def Attr.markT (a:Attr) (k:Int):Attr:={ name:=a.name,val:=a.val }
def Attr.zero:List TV:=[.str [],.str []]
theorem Attr.eq' {a b:Attr} (h0:a.name=b.name) (h1:a.val=b.val):a=b:=by cases a; cases b; simp_all
theorem Attr.cnt1 (a:Attr):1<=a.cnt:=by simp only[Attr.cnt]; omega
structure Inode where
 ino:Int
 kind:Int
 links:Int
 data:aA
 ents:List Ent
 attrs:List Attr
 deriving DecidableEq,Inhabited
def Inode.row (a:Inode):List TV:=[.int .i64 a.ino,.int .i64 a.kind,.int .i64 a.links,.sl 1 (aJ a.data),.sl 2 (a.ents.map Ent.row),.sl 2 (a.attrs.map Attr.row)]
def Inode.x (a:Inode):AV:=.agg [.int .i64 a.ino,.int .i64 a.kind,.int .i64 a.links,.ext 1 (aJ a.data),.ext 2 (a.ents.map Ent.row),.ext 2 (a.attrs.map Attr.row)]
def Inode.o (a:Inode):AV:=.agg [.int .i64 a.ino,.int .i64 a.kind,.int .i64 a.links,.own 1 (aJ a.data),.own 2 (a.ents.map Ent.row),.own 2 (a.attrs.map Attr.row)]
def Inode.sz (a:Inode):Nat:=a.data.length+szM Ent.sz a.ents+szM Attr.sz a.attrs
def Inode.fine (a:Inode):Prop:=(a.data.length<2^48)/\(a.ents.length<2^48/\∀ x ∈ a.ents,x.fine)/\(a.attrs.length<2^48/\∀ x ∈ a.attrs,x.fine)
def Inode.cnt (a:Inode):Nat:=1+1+1+a.data.length+fH Ent.cnt a.ents+fH Attr.cnt a.attrs
def Inode.cntT (a:Inode):Nat:=a.data.length+fH Ent.cnt a.ents+fH Attr.cnt a.attrs
def Inode.marked (a:Inode) (k:Int):Inode:={ ino:=k,kind:=k+1,links:=k+1+1,data:=mI a.data (k+1+1+1),ents:=eR Ent.marked Ent.cnt a.ents (k+1+1+1+(a.data.length:Nat)),attrs:=eR Attr.marked Attr.cnt a.attrs (k+1+1+1+(a.data.length:Nat)+(fH Ent.cnt a.ents:Nat)) }
def Inode.markT (a:Inode) (k:Int):Inode:={ ino:=a.ino,kind:=a.kind,links:=a.links,data:=mI a.data (k),ents:=eR Ent.marked Ent.cnt a.ents (k+(a.data.length:Nat)),attrs:=eR Attr.marked Attr.cnt a.attrs (k+(a.data.length:Nat)+(fH Ent.cnt a.ents:Nat)) }
def Inode.zero:List TV:=[.int .i64 0,.int .i64 0,.int .i64 0,.sl 1 [],.sl 2 [],.sl 2 []]
theorem Inode.eq' {a b:Inode} (h0:a.ino=b.ino) (h1:a.kind=b.kind) (h2:a.links=b.links) (h3:a.data=b.data) (h4:a.ents=b.ents) (h5:a.attrs=b.attrs):a=b:=by cases a; cases b; simp_all
theorem Inode.cnt1 (a:Inode):1<=a.cnt:=by simp only[Inode.cnt]; omega
structure Tab where
 inodes:List Inode
 next:Int
 deriving DecidableEq,Inhabited
def Tab.row (a:Tab):List TV:=[.sl 6 (a.inodes.map Inode.row),.int .i64 a.next]
def Tab.x (a:Tab):AV:=.agg [.ext 6 (a.inodes.map Inode.row),.int .i64 a.next]
def Tab.o (a:Tab):AV:=.agg [.own 6 (a.inodes.map Inode.row),.int .i64 a.next]
def Tab.sz (a:Tab):Nat:=szM Inode.sz a.inodes
def Tab.fine (a:Tab):Prop:=(a.inodes.length<2^48/\∀ x ∈ a.inodes,x.fine)
def Tab.cnt (a:Tab):Nat:=fH Inode.cnt a.inodes+1
def Tab.cntT (a:Tab):Nat:=fH Inode.cnt a.inodes
def Tab.marked (a:Tab) (k:Int):Tab:={ inodes:=eR Inode.marked Inode.cnt a.inodes (k),next:=k+(fH Inode.cnt a.inodes:Nat) }
def Tab.markT (a:Tab) (k:Int):Tab:={ inodes:=eR Inode.marked Inode.cnt a.inodes (k),next:=a.next }
def Tab.zero:List TV:=[.sl 6 [],.int .i64 0]
theorem Tab.eq' {a b:Tab} (h0:a.inodes=b.inodes) (h1:a.next=b.next):a=b:=by cases a; cases b; simp_all
theorem Tab.cnt1 (a:Tab):1<=a.cnt:=by simp only[Tab.cnt]; omega
structure Vol where
 id:Int
 name:aA
 ro:Bool
 limit:Int
 t:Tab
 deriving DecidableEq,Inhabited
def Vol.row (a:Vol):List TV:=[.int .i64 a.id,.str a.name,.bool a.ro,.int .i64 a.limit,.sl 6 (a.t.inodes.map Inode.row),.int .i64 a.t.next]
def Vol.x (a:Vol):AV:=.agg [.int .i64 a.id,.str a.name,.bool a.ro,.int .i64 a.limit,.ext 6 (a.t.inodes.map Inode.row),.int .i64 a.t.next]
def Vol.o (a:Vol):AV:=.agg [.int .i64 a.id,.str a.name,.bool a.ro,.int .i64 a.limit,.own 6 (a.t.inodes.map Inode.row),.int .i64 a.t.next]
def Vol.sz (a:Vol):Nat:=a.name.length+a.t.sz
def Vol.fine (a:Vol):Prop:=(a.name.length<2^48)/\(a.t.fine)
def Vol.cnt (a:Vol):Nat:=1+1+1+1+fH Inode.cnt a.t.inodes+1
def Vol.cntT (a:Vol):Nat:=a.t.cntT
def Vol.marked (a:Vol) (k:Int):Vol:={ id:=k,name:=jO (k+1),ro:=decide ((k+1+1).tmod 3=0),limit:=k+1+1+1,t:={ inodes:=eR Inode.marked Inode.cnt a.t.inodes (k+1+1+1+1),next:=k+1+1+1+1+(fH Inode.cnt a.t.inodes:Nat) } }
def Vol.markT (a:Vol) (k:Int):Vol:={ id:=a.id,name:=a.name,ro:=a.ro,limit:=a.limit,t:=a.t.markT (k) }
def Vol.zero:List TV:=[.int .i64 0,.str [],.bool false,.int .i64 0,.sl 6 [],.int .i64 0]
theorem Vol.eq' {a b:Vol} (h0:a.id=b.id) (h1:a.name=b.name) (h2:a.ro=b.ro) (h3:a.limit=b.limit) (h4:a.t=b.t):a=b:=by cases a; cases b; simp_all
theorem Vol.cnt1 (a:Vol):1<=a.cnt:=by simp only[Vol.cnt]; omega
structure Fs where
 vols:List Vol
 next:Int
 deriving DecidableEq,Inhabited
def Fs.row (a:Fs):List TV:=[.sl 6 (a.vols.map Vol.row),.int .i64 a.next]
def Fs.x (a:Fs):AV:=.agg [.ext 6 (a.vols.map Vol.row),.int .i64 a.next]
def Fs.o (a:Fs):AV:=.agg [.own 6 (a.vols.map Vol.row),.int .i64 a.next]
def Fs.sz (a:Fs):Nat:=szM Vol.sz a.vols
def Fs.fine (a:Fs):Prop:=(a.vols.length<2^48/\∀ x ∈ a.vols,x.fine)
def Fs.cnt (a:Fs):Nat:=fH Vol.cnt a.vols+1
def Fs.cntT (a:Fs):Nat:=fH Vol.cnt a.vols
def Fs.marked (a:Fs) (k:Int):Fs:={ vols:=eR Vol.marked Vol.cnt a.vols (k),next:=k+(fH Vol.cnt a.vols:Nat) }
def Fs.markT (a:Fs) (k:Int):Fs:={ vols:=eR Vol.marked Vol.cnt a.vols (k),next:=a.next }
def Fs.zero:List TV:=[.sl 6 [],.int .i64 0]
theorem Fs.eq' {a b:Fs} (h0:a.vols=b.vols) (h1:a.next=b.next):a=b:=by cases a; cases b; simp_all
theorem Fs.cnt1 (a:Fs):1<=a.cnt:=by simp only[Fs.cnt]; omega
structure Op where
 kind:Int
 vol:Int
 path:aA
 to':aA
 off:Int
 data:aA
 deriving DecidableEq,Inhabited
def Op.row (a:Op):List TV:=[.int .i64 a.kind,.int .i64 a.vol,.str a.path,.str a.to',.int .i64 a.off,.sl 1 (aJ a.data)]
def Op.x (a:Op):AV:=.agg [.int .i64 a.kind,.int .i64 a.vol,.str a.path,.str a.to',.int .i64 a.off,.ext 1 (aJ a.data)]
def Op.o (a:Op):AV:=.agg [.int .i64 a.kind,.int .i64 a.vol,.str a.path,.str a.to',.int .i64 a.off,.own 1 (aJ a.data)]
def Op.sz (a:Op):Nat:=a.path.length+a.to'.length+a.data.length
def Op.fine (a:Op):Prop:=(a.path.length<2^48)/\(a.to'.length<2^48)/\(a.data.length<2^48)
def Op.cnt (a:Op):Nat:=1+1+1+1+1+a.data.length
def Op.cntT (a:Op):Nat:=a.data.length
def Op.marked (a:Op) (k:Int):Op:={ kind:=k,vol:=k+1,path:=jO (k+1+1),to':=jO (k+1+1+1),off:=k+1+1+1+1,data:=mI a.data (k+1+1+1+1+1) }
def Op.markT (a:Op) (k:Int):Op:={ kind:=a.kind,vol:=a.vol,path:=a.path,to':=a.to',off:=a.off,data:=mI a.data (k) }
def Op.zero:List TV:=[.int .i64 0,.int .i64 0,.str [],.str [],.int .i64 0,.sl 1 []]
theorem Op.eq' {a b:Op} (h0:a.kind=b.kind) (h1:a.vol=b.vol) (h2:a.path=b.path) (h3:a.to'=b.to') (h4:a.off=b.off) (h5:a.data=b.data):a=b:=by cases a; cases b; simp_all
theorem Op.cnt1 (a:Op):1<=a.cnt:=by simp only[Op.cnt]; omega
theorem ST :
  (∀ a:Ent,a.row=[.str a.name,.int .i64 a.ino]) /\
  (∀ a:Ent,a.x=.agg [.str a.name,.int .i64 a.ino]) /\
  (∀ a:Ent,a.o=.agg [.str a.name,.int .i64 a.ino]) /\
  (∀ a:Attr,a.row=[.str a.name,.str a.val]) /\
  (∀ a:Attr,a.x=.agg [.str a.name,.str a.val]) /\
  (∀ a:Attr,a.o=.agg [.str a.name,.str a.val]) /\
  (∀ a:Inode,a.row=[.int .i64 a.ino,.int .i64 a.kind,.int .i64 a.links,.sl 1 (aJ a.data),.sl 2 (a.ents.map Ent.row),.sl 2 (a.attrs.map Attr.row)]) /\
  (∀ a:Inode,a.x=.agg [.int .i64 a.ino,.int .i64 a.kind,.int .i64 a.links,.ext 1 (aJ a.data),.ext 2 (a.ents.map Ent.row),.ext 2 (a.attrs.map Attr.row)]) /\
  (∀ a:Inode,a.o=.agg [.int .i64 a.ino,.int .i64 a.kind,.int .i64 a.links,.own 1 (aJ a.data),.own 2 (a.ents.map Ent.row),.own 2 (a.attrs.map Attr.row)]) /\
  (∀ a:Tab,a.row=[.sl 6 (a.inodes.map Inode.row),.int .i64 a.next]) /\
  (∀ a:Tab,a.x=.agg [.ext 6 (a.inodes.map Inode.row),.int .i64 a.next]) /\
  (∀ a:Tab,a.o=.agg [.own 6 (a.inodes.map Inode.row),.int .i64 a.next]) /\
  (∀ a:Vol,a.row=[.int .i64 a.id,.str a.name,.bool a.ro,.int .i64 a.limit,.sl 6 (a.t.inodes.map Inode.row),.int .i64 a.t.next]) /\
  (∀ a:Vol,a.x=.agg [.int .i64 a.id,.str a.name,.bool a.ro,.int .i64 a.limit,.ext 6 (a.t.inodes.map Inode.row),.int .i64 a.t.next]) /\
  (∀ a:Vol,a.o=.agg [.int .i64 a.id,.str a.name,.bool a.ro,.int .i64 a.limit,.own 6 (a.t.inodes.map Inode.row),.int .i64 a.t.next]) /\
  (∀ a:Fs,a.row=[.sl 6 (a.vols.map Vol.row),.int .i64 a.next]) /\
  (∀ a:Fs,a.x=.agg [.ext 6 (a.vols.map Vol.row),.int .i64 a.next]) /\
  (∀ a:Fs,a.o=.agg [.own 6 (a.vols.map Vol.row),.int .i64 a.next]) /\
  (∀ a:Op,a.row=[.int .i64 a.kind,.int .i64 a.vol,.str a.path,.str a.to',.int .i64 a.off,.sl 1 (aJ a.data)]) /\
  (∀ a:Op,a.x=.agg [.int .i64 a.kind,.int .i64 a.vol,.str a.path,.str a.to',.int .i64 a.off,.ext 1 (aJ a.data)]) /\
  (∀ a:Op,a.o=.agg [.int .i64 a.kind,.int .i64 a.vol,.str a.path,.str a.to',.int .i64 a.off,.own 1 (aJ a.data)]) /\
  (∀ (α β:Type) (f:α->β) (l:List α),(l.map f).length=l.length)/\(∀ (α β:Type) (f:α->β) (l:List α) (i:Nat),(l.map f)[i]?=(l[i]?).map f):=by
 refine⟨?_,?_,?_,?_,?_,?_,?_,?_,?_,?_,?_,?_,?_,?_,?_,?_,?_,?_,?_,?_,?_,?_,?_⟩ <;> intros <;> first | rfl | simp
theorem SX:type_of% (And.intro SAU <| And.intro SU <| And.intro SGs <| And.intro SD <| And.intro S1 <| And.intro S2 <| And.intro S3 <| And.intro SE <| And.intro SC <| And.intro SO <| And.intro ST <| And.intro SF <| And.intro SK <| And.intro @i9 <| And.intro @uS <| And.intro @Bool.beq_eq_decide_eq.{0} <| And.intro @Int.natCast_zero <| And.intro @Int.add_zero <| And.intro @ge_iff_le.{0} <| And.intro @gt_iff_lt.{0} <| And.intro @Option.isNone_none.{0} <| And.intro @Option.isNone_some.{0} <| And.intro @List.nil_append.{0} <| And.intro @List.append_nil.{0} <| And.intro @Bool.and_true <| And.intro @Bool.and_self <| SB):=And.intro SAU <| And.intro SU <| And.intro SGs <| And.intro SD <| And.intro S1 <| And.intro S2 <| And.intro S3 <| And.intro SE <| And.intro SC <| And.intro SO <| And.intro ST <| And.intro SF <| And.intro SK <| And.intro @i9 <| And.intro @uS <| And.intro @Bool.beq_eq_decide_eq.{0} <| And.intro @Int.natCast_zero <| And.intro @Int.add_zero <| And.intro @ge_iff_le.{0} <| And.intro @gt_iff_lt.{0} <| And.intro @Option.isNone_none.{0} <| And.intro @Option.isNone_some.{0} <| And.intro @List.nil_append.{0} <| And.intro @List.append_nil.{0} <| And.intro @Bool.and_true <| And.intro @Bool.and_self <| SB
end
section
theorem abM {l m:List Int} (h:l.Nodup) (hs:∀ x ∈ l,x ∈ m):l.length<=m.length:=by
 induction l generalizing m with
 | nil=>simp
 | cons x l ih=>
  obtain⟨hx,hl⟩:=List.nodup_cons.1 h;have hm:=hs x A8;have:=ih (m:=m.erase x) hl fun y hy=>(List.mem_erase_of_ne (by rintro rfl; exact hx hy)).2 (hs y B8)
  rw[List.length_erase_of_mem hm] at this;have:0<m.length:=List.length_pos_of_mem hm;simp only[lZ]; omega
abbrev Up (l:List Int):Prop:=l.Pairwise (·<·)
theorem aae {l:List Int} (h:Up l):l.Nodup:=h.imp fun h=>by omega
theorem anz {l m:List Int} (hl:Up l) (hm:Up m) (h:∀ x,x ∈ l↔x ∈ m):l=m:=by
 induction l generalizing m with
 | nil=>
  cases m with
  | nil=>rfl
  | cons y m=>exact absurd ((h y).2 A8) A8
 | cons x l ih=>
  cases m with
  | nil=>exact absurd ((h x).1 A8) A8
  | cons y m=>
   obtain⟨a1,a2⟩:=lF2.1 hl;obtain⟨b1,b2⟩:=lF2.1 hm;have e:x=y:=by
    have h1:=(h x).1 A8;have h2:=(h y).2 A8;simp only[lN] at h1 h2;rcases h1 with h1 | h1
    ·exact h1
    rcases h2 with h2 | h2
    ·exact h2.symm
    have:=a1 y h2; have:=b1 x h1; omega
   subst e;congr 1;refine ih a2 b2 fun z=>⟨fun hz=>?_,fun hz=>?_⟩
   ·have:=(h z).1 C0;simp only[lN] at this;rcases this with rfl | this
    ·exact absurd (a1 _ hz) A7
    ·exact this
   ·have:=(h z).2 C0;simp only[lN] at this;rcases this with rfl | this
    ·exact absurd (b1 _ hz) A7
    ·exact this
def ajG (l:List Int) (n:Int):List Int:=if n ∈ l then l else l.takeWhile (·<n)++n::l.dropWhile (·<n)
theorem amp (l:List Int) (n x:Int):x ∈ ajG l n↔x=n\/x ∈ l:=by
 unfold ajG;split
 ·rename_i h;constructor
  ·exact .inr
  ·rintro(rfl | h')
   ·exact h
   ·exact h'
 ·have e:x ∈ l↔x ∈ l.takeWhile (·<n)\/x ∈ l.dropWhile (·<n):=by
   rw[<-lL,List.takeWhile_append_dropWhile]
  rw[e];simp only[lL,lN];constructor
  ·rintro(h | h | h)
   ·exact .inr (.inl h)
   ·exact .inl h
   ·exact .inr (.inr h)
  ·rintro(h | h | h)
   ·exact .inr (.inl h)
   ·exact .inl h
   ·exact .inr (.inr h)
theorem aoI {l:List Int} (h:Up l) (n:Int):Up (ajG l n):=by
 unfold ajG;split
 ·exact h
 ·rename_i hn;induction l with
  | nil=>simp[Up]
  | cons x l ih=>
   obtain⟨a1,a2⟩:=lF2.1 h;have oz:n≠x:=fun e=>hn (by simp[e])
   have ih:=ih a2 fun h=>hn D0
   by_cases hx:x<n
   ·rw[List.takeWhile_cons_of_pos (by simpa using hx),List.dropWhile_cons_of_pos (by simpa using hx)];refine lF2.2 ⟨fun y hy=>?_,ih⟩;have hy:y ∈ l.takeWhile (·<n)++n::l.dropWhile (·<n):=hy;rw[lL,lN] at hy;rcases hy with hy | rfl | hy
    ·exact a1 y (List.takeWhile_sublist _ |>.subset hy)
    ·exact hx
    ·exact a1 y (List.dropWhile_sublist _ |>.subset hy)
   ·rw[List.takeWhile_cons_of_neg (by simpa using hx),List.dropWhile_cons_of_neg (by simpa using hx)];refine lF2.2 ⟨fun y hy=>?_,h⟩;simp only[lN] at hy;rcases hy with rfl | hy
    ·omega
    ·have:=a1 y hy; omega
section
variable (nb:Int->Option (List Int))
inductive Reach:Int->Prop where
 | root (h:(nb 1).isSome=true):Reach 1
 | step (i j:Int) (l:List Int) (hi:Reach i) (hl:nb i=some l) (hj:j ∈ l) (hs:(nb j).isSome=true):Reach j
def afq (out:List Int) (j:Int):List Int:=if (nb j).isSome then ajG out j else out
def afr (out:List Int) (i:Int):List Int:=((nb i).getD []).foldl (afq nb) out
def ajH (l:List Int):List Int:=l.foldl (afr nb) l
def cO:Nat->List Int
 | 0=>[1]
 | k+1=>ajH nb (cO k)
def p3 (n:Nat):List Int:=if (nb 1).isSome then cO nb n else []
theorem abN (js:List Int):∀ (out:List Int) (x:Int),x ∈ js.foldl (afq nb) out↔x ∈ out\/(x ∈ js/\(nb x).isSome=true):=by
 induction js with
 | nil=>intro out x; simp
 | cons j js ih=>
  intro out x;rw[lG3,ih];unfold afq;split
  ·rename_i hj;rw[amp,lN];constructor
   ·rintro((rfl | h) | h)
    ·exact .inr ⟨.inl rfl,hj⟩
    ·exact .inl h
    ·exact .inr ⟨.inr h.1,h.2⟩
   ·rintro(h | ⟨rfl | h,hs⟩)
    ·exact .inl (.inr h)
    ·exact .inl (.inl rfl)
    ·exact .inr ⟨h,hs⟩
  ·rename_i hj;rw[lN];constructor
   ·rintro(h | h)
    ·exact .inl h
    ·exact .inr ⟨.inr h.1,h.2⟩
   ·rintro(h | ⟨rfl | h,hs⟩)
    ·exact .inl h
    ·exact absurd hs hj
    ·exact .inr ⟨h,hs⟩
theorem afs (js:List Int):∀ (out:List Int),Up out->Up (js.foldl (afq nb) out):=by
 induction js with
 | nil=>intro out h; exact h
 | cons j js ih=>
  intro out h;rw[lG3];refine ih _ ?_;unfold afq;split
  ·exact aoI h j
  ·exact h
theorem abO (l:List Int):∀ (out:List Int) (x:Int),x ∈ l.foldl (afr nb) out↔x ∈ out\/(∃ i ∈ l,x ∈ (nb i).getD [])/\(nb x).isSome=true:=by
 induction l with
 | nil=>intro out x; simp
 | cons i l ih=>
  intro out x;rw[lG3,ih];unfold afr;rw[abN];simp only[lN,exists_eq_or_imp];constructor
  ·rintro((h | h) | h)
   ·exact .inl h
   ·exact .inr ⟨.inl h.1,h.2⟩
   ·exact .inr ⟨.inr h.1,h.2⟩
  ·rintro(h | ⟨h | h,hs⟩)
   ·exact .inl (.inl h)
   ·exact .inl (.inr ⟨h,hs⟩)
   ·exact .inr ⟨h,hs⟩
theorem aft (l:List Int):∀ (out:List Int),Up out->Up (l.foldl (afr nb) out):=by
 induction l with
 | nil=>intro out h; exact h
 | cons i l ih=>intro out h; rw[lG3]; exact ih _ (afs nb _ _ h)
theorem m9 (l:List Int) (x:Int):x ∈ ajH nb l↔x ∈ l\/(∃ i ∈ l,x ∈ (nb i).getD [])/\(nb x).isSome=true:=abO nb l l x
theorem amq {l:List Int} (h:Up l):Up (ajH nb l):=aft nb l l h
theorem iW (k:Nat):Up (cO nb k):=by
 induction k with
 | zero=>simp[cO,Up]
 | succ k ih=>exact amq nb ih
theorem ajI (n:Nat):Up (p3 nb n):=by
 unfold p3;split
 ·exact iW nb n
 ·simp[Up]
theorem nA (h1:(nb 1).isSome=true) (k:Nat):∀ x ∈ cO nb k,Reach nb x:=by
 induction k with
 | zero=>intro x hx; simp only[cO,lH1] at hx; subst hx; exact .root h1
 | succ k ih=>
  intro x hx;rcases(m9 nb _ _).1 hx with h | ⟨⟨i,hi,hx⟩,hs⟩
  ·exact ih x h
  ·cases hn:nb i with
   | none=>rw[hn] at hx; exact absurd hx A8
   | some l=>rw[hn] at hx; exact .step i x l (ih i hi) hn hx hs
theorem rD {x:Int} (h:Reach nb x):(nb x).isSome=true:=by
 cases h with
 | root h=>exact h
 | step _ _ _ _ _ _ h=>exact h
def aoJ (l:List Int):Prop:=∀ i ∈ l,∀ x ∈ (nb i).getD [],(nb x).isSome=true->x ∈ l
theorem ad3 (k:Nat):aoJ nb (cO nb k)\/k+1<=(cO nb k).length:=by
 induction k with
 | zero=>exact .inr (by simp[cO])
 | succ k ih=>
  by_cases hs:aoJ nb (cO nb k)
  ·left;have e:cO nb (k+1)=cO nb k:=by
    refine anz (iW nb _) (iW nb _) fun x=>?_
    show x ∈ ajH nb _↔_;rw[m9];exact⟨fun h=>h.elim id fun ⟨⟨i,hi,hx⟩,hx'⟩=>hs i hi x hx hx',.inl⟩
   rw[e]; exact hs
  ·right;have ih:=ih.resolve_left hs;obtain⟨x,kv,mc⟩:∃ x,x ∈ cO nb (k+1)/\x ∉ cO nb k:=by
    apply Classical.byContradiction;intro hc;apply hs;intro i hi x hx hx';apply Classical.byContradiction;intro hn;exact hc ⟨x,(m9 nb _ _).2 (.inr ⟨⟨i,hi,hx⟩,hx'⟩),hn⟩
   have:=abM (l:=x::cO nb k) (m:=cO nb (k+1)) (List.nodup_cons.2 ⟨mc,aae (iW nb k)⟩) (by
    intro y hy;rcases lN.1 hy with rfl | hy
    ·exact kv
    ·exact(m9 nb _ _).2 (.inl hy))
   simp only[lZ] at this;omega
theorem ahc {n:Nat} (hn:∀ l:List Int,l.Nodup->(∀ x ∈ l,(nb x).isSome=true)->l.length<=n) (x:Int):x ∈ p3 nb n↔Reach nb x:=by
 by_cases h1:(nb 1).isSome=true
 ·rw[p3,lK h1];refine⟨nA nb h1 n x,fun h=>?_⟩;have hl:=hn _ (aae (iW nb n)) fun y hy=>rD nb (nA nb h1 n y hy)
  have hs:aoJ nb (cO nb n):=(ad3 nb n).resolve_right A7;have af:∀ k,1 ∈ cO nb k:=by
   intro k;induction k with
   | zero=>simp[cO]
   | succ k ih=>exact(m9 nb _ _).2 (.inl ih)
  induction h with
  | root _=>exact af n
  | step i j l hi hl hj hs' ih=>exact hs i ih j (by rw[hl]; exact hj) hs'
 ·rw[p3,lO h1];refine⟨fun h=>absurd h A8,fun h=>?_⟩;exfalso;apply h1;clear hn;induction h with
  | root h=>exact h
  | step _ _ _ _ _ _ _ ih=>exact ih
structure Que (out next:List Int):Prop where
 nodup:out.Nodup
 reach:∀ x ∈ out,Reach nb x
 from':∀ x ∈ next,(nb x).isSome=true->Reach nb x
 shut:∀ i ∈ out,∀ x ∈ (nb i).getD [],(nb x).isSome=true->x ∈ out\/x ∈ next
 root:(nb 1).isSome=true->1 ∈ out\/1 ∈ next
theorem amr:Que nb [] [1]:=⟨by simp,by simp,fun x hx h=>by simp only[lH1] at hx; subst hx; exact .root h,by simp,fun _=>.inr A8⟩
theorem afu {out next:List Int} {i:Int} (q:Que nb out (i::next)) (h:nb i=none\/i ∈ out):Que nb out next:=by
 refine⟨q.nodup,q.reach,fun x hx=>q.from' x D6,fun k hk x hx hs=>?_,fun h1=>?_⟩
 ·rcases q.shut k hk x hx hs with h' | h'
  ·exact .inl h'
  ·rcases lN.1 h' with rfl | h'
   ·rcases h with h | h
    ·rw[h] at hs; exact absurd hs A8
    ·exact .inl h
   ·exact .inr h'
 ·rcases q.root h1 with h' | h'
  ·exact .inl h'
  ·rcases lN.1 h' with rfl | h'
   ·rcases h with h | h
    ·rw[h] at h1; exact absurd h1 A8
    ·exact .inl h
   ·exact .inr h'
theorem afv {out next l:List Int} {i:Int} (q:Que nb out (i::next)) (h:nb i=some l) (hn:i ∉ out):Que nb (out++[i]) (next++l):=by
 have hr:Reach nb i:=q.from' i A8 (by rw[h]; rfl);refine⟨?_,fun x hx=>?_,fun x hx hs=>?_,fun k hk x hx hs=>?_,fun h1=>?_⟩
 ·rw[List.nodup_append];refine⟨q.nodup,by simp,fun a ha b hb=>?_⟩;rw[lH1.1 hb];rintro rfl;exact hn ha
 ·rcases lL.1 hx with hx | hx
  ·exact q.reach x hx
  ·rw[lH1.1 hx]; exact hr
 ·rcases lL.1 hx with hx | hx
  ·exact q.from' x D6 hs
  ·exact .step i x l hr h hx hs
 ·rcases lL.1 hk with hk | hk
  ·rcases q.shut k hk x hx hs with h' | h'
   ·exact .inl (by simp[h'])
   ·rcases lN.1 h' with rfl | h'
    ·exact .inl A8
    ·exact .inr (by simp[h'])
  ·rw[lH1.1 hk,h] at hx;exact .inr (by simpa using .inr hx)
 ·rcases q.root h1 with h' | h'
  ·exact .inl (by simp[h'])
  ·rcases lN.1 h' with rfl | h'
   ·exact .inl A8
   ·exact .inr (by simp[h'])
theorem aoK {out:List Int} (q:Que nb out []) (x:Int):x ∈ out↔Reach nb x:=by
 refine⟨q.reach x,fun h=>?_⟩;induction h with
 | root h=>exact(q.root h).resolve_right A8
 | step i j l hi hl hj hs ih=>exact(q.shut i ih j (by rw[hl]; exact hj) hs).resolve_right A8
theorem ahd {n:Nat} (hn:∀ l:List Int,l.Nodup->(∀ x ∈ l,(nb x).isSome=true)->l.length<=n) {out:List Int} (q:Que nb out []) :
  out.mergeSort (fun x y=>decide (x<=y))=p3 nb n:=by
 refine anz ?_ (ajI nb n) fun x=>?_
 ·have h1:=List.pairwise_mergeSort (le:=fun x y:Int=>decide (x<=y)) (by intro a b c; simp; omega) (by intro a b; simp; omega) out;have h2:(out.mergeSort (fun x y=>decide (x<=y))).Nodup:=(List.mergeSort_perm out _).nodup_iff.2 q.nodup;have:Up (out.mergeSort (fun x y=>decide (x<=y))):=(h1.and h2).imp fun ⟨a,b⟩=>by simp at a; omega
  exact this
 ·rw[(List.mergeSort_perm out _).mem_iff,aoK nb q,ahc nb hn]
theorem aoL {n:Nat} (hn:∀ l:List Int,l.Nodup->(∀ x ∈ l,(nb x).isSome=true)->l.length<=n) {out next:List Int} (q:Que nb out next):out.length<=n:=
 hn out q.nodup fun x hx=>rD nb (q.reach x hx)
end
end
def okc (c:UInt8):Bool:=(decide (97<=c) && decide (c<=122)) || (decide (48<=c) && decide (c<=57)) || decide (c=95) || decide (c=45) || decide (c=46)
def aP (s:aA):Bool:=s.all okc && decide (1<=s.length) && decide (s.length<=14) && decide (s≠[46]) && decide (s≠[46,46])
def bD:aA->List aA
 | []=>[[]]
 | c::s=>if c=47 then []::bD s else match bD s with
  | []=>[[c]]
  | h::t=>(c::h)::t
def bW (l:List aA):Bool:=decide (l.length<=30) && l.all aP
def wX:List aA->Option (List aA)
 | []::n::l=>some (n::l)
 | _=>none
def aB (s:aA):List aA × Bool:=if s=[47] then ([],true) else match wX (bD s) with
 | some l=>if bW l=true then (l,true) else ([],false)
 | none=>([],false)
def fM (l:List aA):aA:=l.flatMap fun n=>47::n
def bY (l:List aA):aA:=if bW l=true then (if l=[] then [47] else fM l) else []
def aF (s:aA):aA × aA × Bool:=if (aB s).2=true/\(aB s).1≠[] then (bY (aB s).1.dropLast,(aB s).1.getLastD [],true) else ([],[],false)
def rE (a b:aA):Bool:=(aB a).2 && ((aB b).2 && (aB a).1.isPrefixOf (aB b).1)
theorem p4 (s:aA):bD s≠[]:=by
 cases s with
 | nil=>simp[bD]
 | cons c s=>
  rw[bD];split
  ·simp
  ·split <;> simp
theorem l6 (c:UInt8) (s:aA) (h:c≠47):∃ a t,bD s=a::t/\bD (c::s)=(c::a)::t:=by
 cases e:bD s with
 | nil=>exact absurd e (p4 s)
 | cons a t=>exact⟨a,t,rfl,by rw[bD,lO h,e]⟩
theorem vA (n s:aA) (h:∀ c ∈ n,c≠47):bD (n++47::s)=n::bD s:=by
 induction n with
 | nil=>rw[lI1,bD,lK rfl]
 | cons c n ih=>
  have ih:=ih fun x hx=>h x D6
  rw[lD2,bD,lO (h c A8),ih]
theorem vB (n:aA) (h:∀ c ∈ n,c≠47):bD n=[n]:=by
 induction n with
 | nil=>rfl
 | cons c n ih=>
  have ih:=ih fun x hx=>h x D6
  rw[bD,lO (h c A8),ih]
theorem ad4 (l:List aA) (h:∀ n ∈ l,∀ c ∈ n,c≠47) (s:aA) (hs:∀ c ∈ s,c≠47):bD (s++fM l)=s::l:=by
 induction l generalizing s with
 | nil=>rw[fM]; simpa using vB s hs
 | cons n l ih=>
  have ih:=ih (fun m hm=>h m (by simp[hm])) n (h n A8);have e:s++fM (n::l)=s++47::(n++fM l):=by simp[fM]
  rw[e,vA s _ hs,ih]
theorem ad5 (s:aA):∀ a t,bD s=a::t->s=a++fM t/\(∀ n ∈ a::t,∀ c ∈ n,c≠47):=by
 induction s with
 | nil=>
  intro a t h;rw[bD] at h;injection h with h1 h2
  subst h1; subst h2;simp[fM]
 | cons c s ih=>
  intro a t h;by_cases hc:c=47
  ·rw[bD,lK hc] at h;injection h with h1 h2
   subst h1;cases e:bD s with
   | nil=>exact absurd e (p4 s)
   | cons b u=>
    rw[e] at h2;subst h2;obtain⟨i1,i2⟩:=ih b u e;refine⟨?_,fun n hn=>?_⟩
    ·rw[i1,hc]; simp[fM]
    ·rcases lN.1 hn with rfl | hn
     ·simp
     ·exact i2 n hn
  ·obtain⟨b,u,e1,e2⟩:=l6 c s hc;rw[e2] at h;injection h with h1 h2
   subst h1; subst h2;obtain⟨i1,i2⟩:=ih b u e1;refine⟨by rw[i1]; rfl,fun n hn x hx=>?_⟩;rcases lN.1 hn with rfl | hn
   ·rcases lN.1 hx with rfl | hx
    ·exact hc
    ·exact i2 b A8 x hx
   ·exact i2 n (by simp[hn]) x hx
theorem ahe {n:aA} (h:aP n=true):∀ c ∈ n,c≠47:=by
 intro c hc;simp only[aP,lM] at h;have:=lP.1 h.1.1.1.1 c hc;rintro rfl;exact absurd this C3
theorem p5 {n:aA} (h:aP n=true):1<=n.length/\n.length<=14:=by
 simp only[aP,lM,decide_eq_true_eq] at h;exact⟨h.1.1.1.2,h.1.1.2⟩
theorem kK {l:List aA} (h:bW l=true):l.length<=30/\∀ n ∈ l,aP n=true:=by
 simp only[bW,lM,decide_eq_true_eq,lP] at h;exact h
theorem nZ {l:List aA} (h1:l.length<=30) (h2:∀ n ∈ l,aP n=true):bW l=true:=by
 simp only[bW,lM,decide_eq_true_eq,lP];exact⟨h1,h2⟩
theorem ad6 {l:List aA} (h:bW l=true) (am:l≠[]):aB (fM l)=(l,true):=by
 obtain⟨h1,h2⟩:=kK h;have e:=ad4 l (fun n hn=>ahe (h2 n hn)) [] A8;rw[lI1] at e;cases l with
 | nil=>exact absurd rfl am
 | cons n l=>
  have hn:=p5 (h2 n A8);have hs:fM (n::l)≠[47]:=by
   intro hc;have h3:(fM (n::l)).length=1:=by rw[hc]; rfl
   have h4:fM (n::l)=47::(n++fM l):=by simp[fM]
   rw[h4] at h3;simp only[lZ,lU] at h3;omega
  rw[aB,lO hs,e];simp only[wX,h,lK]
theorem ad7 {l:List aA} (h:bW l=true):aB (bY l)=(l,true):=by
 rw[bY,lK h];split
 ·rename_i e; subst e; rw[aB,lK rfl]
 ·rename_i e; exact ad6 h e
theorem n5 {s:aA} (h:(aB s).2=true):bW (aB s).1=true/\bY (aB s).1=s:=by
 unfold aB at h ⊢;split
 ·rename_i e; subst e; exact⟨by decide,by decide⟩
 ·rename_i hs;rw[lO hs] at h;cases e:wX (bD s) with
  | none=>rw[e] at h; exact absurd h A8
  | some l=>
   rw[e] at h;simp only at h ⊢;by_cases hn:bW l=true
   ·rw[lK hn];refine⟨hn,?_⟩;show bY l=s;cases e2:bD s with
    | nil=>rw[e2] at e; exact absurd e (by simp[wX])
    | cons a t=>
     obtain⟨i1,_⟩:=ad5 s a t e2;rw[e2] at e;cases a with
     | cons c a=>exact absurd e (by simp[wX])
     | nil=>
      cases t with
      | nil=>exact absurd e (by simp[wX])
      | cons m t=>
       simp only[wX,Option.some.injEq] at e;subst e;rw[bY,lK hn,lO A8,i1,lI1]
   ·rw[lO hn] at h; exact absurd h A8
theorem afw {s:aA} (h:(aB s).2=false):aB s=([],false):=by
 unfold aB at h ⊢;split
 ·rename_i e; rw[lK e] at h; exact absurd h A8
 ·rename_i hs;rw[lO hs] at h;cases e:wX (bD s) with
  | none=>rfl
  | some l=>
   rw[e] at h;simp only at h ⊢;by_cases hn:bW l=true
   ·rw[lK hn] at h; exact absurd h A8
   ·rw[lO hn]
theorem abP {l:List aA} (h:bW l=true) (n:Nat):bW (l.take n)=true:=by
 obtain⟨h1,h2⟩:=kK h;exact nZ (by rw[lH]; omega) fun m hm=>h2 m (List.take_subset _ _ hm)
theorem mJ {l:List aA} (h:bW l=true):bW l.dropLast=true:=by
 rw[List.dropLast_eq_take]; exact abP h _
theorem xT {s:aA} (h:(aB s).2=true):(aB s).1=[]↔s=[47]:=by
 constructor
 ·intro e;have:=(n5 h).2;rw[e] at this;rw[<-this]; decide
 ·intro e; rw[e]; decide
theorem abQ (s:aA):(aF s).2.2=true↔(aB s).2=true/\(aB s).1≠[]:=by
 unfold aF;split
 ·rename_i h; exact⟨fun _=>h,fun _=>rfl⟩
 ·rename_i h; exact⟨fun h'=>absurd h' A8,fun h'=>absurd h' h⟩
theorem ajJ {s:aA} (h:(aB s).2=true) (am:(aB s).1≠[]) :
  aF s=(bY (aB s).1.dropLast,(aB s).1.getLastD [],true)/\aB (bY (aB s).1.dropLast)=((aB s).1.dropLast,true):=by
 refine⟨by rw[aF,lK ⟨h,am⟩],ad7 (mJ (n5 h).1)⟩
def cA (x:Inode) (n:aA):Int:=((x.ents.find? fun e=>decide (e.name=n)).map Ent.ino).getD 0
def aU (t:Tab) (i:Int):Option Inode:=t.inodes.find? fun x=>decide (x.ino=i)
def abR (x:Inode):List Int:=if x.kind=2 then x.ents.map Ent.ino else []
def nbT (t:Tab) (i:Int):Option (List Int):=(aU t i).map abR
def gN (t:Tab):List Int:=p3 (nbT t) t.inodes.length
def nB (t:Tab) (i:Int):Nat:=(t.inodes.map fun x=>(abR x).count i).sum
def dD (t:Tab):Nat:=(t.inodes.map fun x=>32+x.data.length+(x.attrs.map fun a=>a.name.length+a.val.length).sum).sum
def jF (t:Tab):List aA->Int->Int × Int
 | [],i=>(i,0)
 | n::l,i=>match aU t i with
  | none=>(0,2)
  | some x=>if x.kind=2 then (if cA x n=0 then (0,2) else jF t l (cA x n)) else (0,3)
def n6 (t:Tab) (s:aA):Int × Int:=if (aB s).2=true then jF t (aB s).1 1 else (0,1)
structure EntsOk (l:List Ent):Prop where
 len:l.length<=10
 ok:∀ e ∈ l,aP e.name=true/\2<=e.ino/\e.ino<=1000
 up:l.Pairwise fun a b=>a.name<b.name
structure AttrsOk (l:List Attr):Prop where
 len:l.length<=4
 ok:∀ a ∈ l,aP a.name=true/\1<=a.val.length/\a.val.length<=16
 up:l.Pairwise fun a b=>a.name<b.name
structure InodeOk (x:Inode):Prop where
 ino:1<=x.ino/\x.ino<=1000
 links:0<=x.links/\x.links<=1000
 root:x.links=0↔x.ino=1
 data:x.data.length<=100
 ents:EntsOk x.ents
 attrs:AttrsOk x.attrs
 kind:(x.kind=1/\x.ents=[])\/(x.kind=2/\x.data=[]/\x.links<=1)
structure TabOk (t:Tab):Prop where
 len:t.inodes.length<=30
 next:2<=t.next/\t.next<=1000
 ok:∀ x ∈ t.inodes,InodeOk x/\x.ino<t.next
 up:t.inodes.Pairwise fun a b=>a.ino<b.ino
 root:∃ x,aU t 1=some x/\x.kind=2
structure TreeOk (t:Tab):Prop where
 tab:TabOk t
 reach:(gN t).length=t.inodes.length
 links:∀ x ∈ t.inodes,((nB t x.ino:Nat):Int)=x.links
 there:∀ x ∈ t.inodes,∀ e ∈ x.ents,(aU t e.ino).isSome=true
theorem bH {t:Tab} {i:Int} {x:Inode} (h:aU t i=some x):x ∈ t.inodes/\x.ino=i:=by
 refine⟨List.mem_of_find?_eq_some h,?_⟩;have:=List.find?_some h;simpa using this
theorem abS {t:Tab} (h:t.inodes.Pairwise fun a b=>a.ino<b.ino) {x:Inode} (hx:x ∈ t.inodes):aU t x.ino=some x:=by
 unfold aU;generalize t.inodes=l at *;induction l with
 | nil=>exact absurd hx A8
 | cons y l ih=>
  obtain⟨a1,a2⟩:=lF2.1 h;rcases lN.1 hx with rfl | hx
  ·rw[lA3 A8]
  ·rw[lT2 (by have:=a1 x hx; simp; omega)];exact ih a2 hx
theorem aaf (t:Tab):∀ l:List Int,l.Nodup->(∀ x ∈ l,(nbT t x).isSome=true)->l.length<=t.inodes.length:=by
 intro l hl hs;have:=abM (m:=t.inodes.map Inode.ino) hl fun x hx=>by
  have:=hs x hx;cases e:aU t x with
  | none=>rw[nbT,e] at this; exact absurd this A8
  | some y=>obtain⟨h1,h2⟩:=bH e; exact lV2.2 ⟨y,h1,h2⟩
 simpa using this
abbrev IM:=Int->Option Inode
def eS (M:IM):List aA->Int->Option Int
 | [],i=>some i
 | n::l,i=>match M i with
  | none=>none
  | some x=>if x.kind=2/\cA x n≠0 then eS M l (cA x n) else none
theorem aoM (t:Tab) (l:List aA):∀ i j,jF t l i=(j,0)↔eS (aU t) l i=some j:=by
 induction l with
 | nil=>intro i j; simp[jF,eS]
 | cons n l ih=>
  intro i j;rw[jF,eS];cases aU t i with
  | none=>simp
  | some x=>
   simp only;by_cases hk:x.kind=2
   ·by_cases he:cA x n=0
    ·rw[lK hk,lK he,lO (by simp[he])]; simp
    ·rw[lK hk,lO he,lK ⟨hk,he⟩]; exact ih _ _
   ·rw[lO hk,lO (by simp[hk])]; simp
theorem rZ (M:IM) (a b:List aA):∀ i,eS M (a++b) i=(eS M a i).bind fun j=>eS M b j:=by
 induction a with
 | nil=>intro i; simp[eS]
 | cons n a ih=>
  intro i;rw[lD2,eS,eS];cases M i with
  | none=>rfl
  | some x=>
   simp only;split
   ·exact ih _
   ·rfl
theorem abT (M:IM) (n:aA) (i j:Int):eS M [n] i=some j↔∃ x,M i=some x/\x.kind=2/\cA x n=j/\j≠0:=by
 rw[eS];cases M i with
 | none=>simp
 | some x=>
  simp only[eS];constructor
  ·intro h;split at h
   ·rename_i hc;injection h with h
    subst h;exact⟨x,rfl,hc.1,rfl,hc.2⟩
   ·exact absurd h A8
  ·rintro⟨y,hy,h1,h2,h3⟩;injection hy with hy
   subst hy;subst h2;rw[lK ⟨h1,h3⟩]
theorem ajK {x:Inode} {n:aA} (h:cA x n≠0):∃ e ∈ x.ents,e.name=n/\e.ino=cA x n:=by
 unfold cA at h ⊢;cases e:x.ents.find? fun e=>decide (e.name=n) with
 | none=>rw[e] at h; exact absurd rfl h
 | some y=>exact⟨y,List.mem_of_find?_eq_some e,by simpa using List.find?_some e,by simp⟩
section
theorem n7 {α:Type} (f:α->Nat) (l:List α) {p:α} (hp:p ∈ l):f p<=(l.map f).sum:=by
 induction l with
 | nil=>exact absurd hp A8
 | cons x l ih=>
  rw[lR,lK2];rcases lN.1 hp with rfl | hp
  ·omega
  ·have:=ih hp; omega
theorem xU {α:Type} (f:α->Nat) (l:List α) {p q:α} (hp:p ∈ l) (hq:q ∈ l) (am:p≠q):f p+f q<=(l.map f).sum:=by
 induction l with
 | nil=>exact absurd hp A8
 | cons x l ih=>
  rw[lR,lK2];rcases lN.1 hp with rfl | hp'
  ·rcases lN.1 hq with rfl | hq'
   ·exact absurd rfl am
   ·have:=n7 f l hq'; omega
  ·rcases lN.1 hq with rfl | hq'
   ·have:=n7 f l hp'; omega
   ·have:=ih hp' hq'; omega
theorem ajL (l:List Ent) (i:Int):(l.map Ent.ino).count i=(l.map fun e=>if e.ino=i then 1 else 0).sum:=by
 induction l with
 | nil=>rfl
 | cons e l ih=>
  rw[lR,lR,lK2,List.count_cons,ih];by_cases h:e.ino=i <;> simp[h] <;> omega
variable {t:Tab}
theorem l7 (h:TreeOk t) {x:Inode} (hx:x ∈ t.inodes):EntsOk x.ents:=(h.tab.ok x hx).1.ents
theorem p6 (h:TreeOk t) {x:Inode} (hx:x ∈ t.inodes):aU t x.ino=some x:=abS h.tab.up hx
theorem abU (h:TreeOk t) {x:Inode} (hx:x ∈ t.inodes) (hk:x.kind=2):x.links<=1:=by
 rcases(h.tab.ok x hx).1.kind with ⟨h1,_⟩ | ⟨_,_,h1⟩
 ·omega
 ·exact h1
theorem ad8 (h:TreeOk t) {x p q:Inode} (hx:x ∈ t.inodes) (hl:x.links<=1) (hp:p ∈ t.inodes) (hq:q ∈ t.inodes) (kp:p.kind=2) (kq:q.kind=2)
  {e f:Ent} (he:e ∈ p.ents) (hf:f ∈ q.ents) (e1:e.ino=x.ino) (f1:f.ino=x.ino):p=q/\e=f:=by
 have hs:nB t x.ino<=1:=by have:=h.links x hx; omega
 have cp:∀ y:Inode,y.kind=2->(abR y).count x.ino=(y.ents.map fun e=>if e.ino=x.ino then 1 else 0).sum:=fun y hy=>by rw[abR,lK hy,ajL]
 have one:∀ (y:Inode) (g:Ent),y.kind=2->g ∈ y.ents->g.ino=x.ino->1<=(abR y).count x.ino:=fun y g hy hg hi=>by
  rw[cp y hy];have:=n7 (fun e:Ent=>if e.ino=x.ino then 1 else 0) y.ents hg;simpa [hi] using this
 have epq:p=q:=by
  apply Classical.byContradiction;intro am;have:=xU (fun y:Inode=>(abR y).count x.ino) t.inodes hp hq am;have a:=one p e kp he e1;have b:=one q f kq hf f1;unfold nB at hs;omega
 subst epq;refine⟨rfl,?_⟩;apply Classical.byContradiction;intro am;have a:=xU (fun e:Ent=>if e.ino=x.ino then 1 else 0) p.ents he hf am;have b:=n7 (fun y:Inode=>(abR y).count x.ino) t.inodes hp;have c:=cp p kp;simp only[e1,f1,lQ] at a;unfold nB at hs;omega
theorem ahf (h:TreeOk t):∃ x,aU t 1=some x/\x.kind=2/\x ∈ t.inodes:=by
 obtain⟨x,h1,h2⟩:=h.tab.root;exact⟨x,h1,h2,(bH h1).1⟩
theorem p7 (_:TreeOk t) {a:List aA} {n:aA} {i j:Int} (hw:eS (aU t) (a++[n]) i=some j) :
  ∃ p y e,eS (aU t) a i=some p/\aU t p=some y/\y ∈ t.inodes/\y.ino=p/\y.kind=2/\e ∈ y.ents/\e.name=n/\e.ino=j:=by
 rw[rZ] at hw;cases ha:eS (aU t) a i with
 | none=>rw[ha] at hw; exact absurd hw A8
 | some p=>
  rw[ha] at hw;obtain⟨y,h1,h2,h3,h4⟩:=(abT _ n p j).1 hw;obtain⟨hy1,hy2⟩:=bH h1;obtain⟨e,he,e1,e2⟩:=ajK (x:=y) (n:=n) (by rw[h3]; exact h4);exact⟨p,y,e,rfl,h1,hy1,hy2,h2,he,e1,by rw[e2,h3]⟩
theorem ahg (h:TreeOk t) {l:List aA} {i:Int} (hw:eS (aU t) l 1=some i):∃ x,aU t i=some x/\x ∈ t.inodes/\x.ino=i:=by
 rcases lC5 l with rfl | ⟨a,n,rfl⟩
 ·simp only[eS,Option.some.injEq] at hw;subst hw;obtain⟨x,h1,_,h3⟩:=ahf h;exact⟨x,h1,h3,(bH h1).2⟩
 ·rw[lD5] at hw;obtain⟨p,y,e,_,_,hy,_,_,he,_,e2⟩:=p7 h hw;have:=h.there y hy e he;rw[e2] at this;obtain⟨x,hx⟩:=lI2.1 this;exact⟨x,hx,(bH hx).1,(bH hx).2⟩
theorem ad9 (h:TreeOk t):∀ (l l':List aA) (i:Int) (x:Inode),aU t i=some x->x.links<=1->eS (aU t) l 1=some i->eS (aU t) l' 1=some i->l=l':=by
 have noroot:∀ (a:List aA) (n:aA),eS (aU t) (a++[n]) 1≠some 1:=by
  intro a n hw;obtain⟨p,y,e,_,_,hy,_,_,he,_,e2⟩:=p7 h hw;have:=((l7 h hy).ok e he).2.1;omega
 suffices ∀ (k:Nat) (l l':List aA) (i:Int) (x:Inode),l.length=k->aU t i=some x->x.links<=1->eS (aU t) l 1=some i->eS (aU t) l' 1=some i->l=l' from
  fun l l' i x=>this l.length l l' i x rfl
 intro k;induction k with
 | zero=>
  intro l l' i x hk hx hl h1 h2;have:l=[]:=lO1.1 hk;subst this;simp only[eS,Option.some.injEq] at h1;subst h1;rcases lC5 l' with rfl | ⟨b,m,rfl⟩
  ·rfl
  ·rw[lD5] at h2; exact absurd h2 (noroot b m)
 | succ k ih=>
  intro l l' i x hk hx hl h1 h2;rcases lC5 l with rfl | ⟨a,n,rfl⟩
  ·exact absurd hk A8
  rw[lD5] at h1 hk ⊢;rcases lC5 l' with rfl | ⟨b,m,rfl⟩
  ·simp only[eS,Option.some.injEq] at h2;subst h2;exact absurd h1 (noroot a n)
  rw[lD5] at h2 ⊢;obtain⟨p,y,e,w1,y1,y2,y3,y4,e1,e2,e3⟩:=p7 h h1;obtain⟨q,z,f,w2,z1,z2,z3,z4,f1,f2,f3⟩:=p7 h h2;obtain⟨kv,mc⟩:=bH hx;obtain⟨r1,r2⟩:=ad8 h kv hl y2 z2 y4 z4 e1 f1 (by rw[e3,mc]) (by rw[f3,mc]);subst r1; subst r2;rw[<-e2,<-f2];have:=ih a b p y (by simpa using hk) y1 (abU h y2 y4) w1 (by rw[<-y3,z3]; exact w2);rw[this]
end
section
def oX (s:Int->aA->Option Int):List aA->Int->Option Int
 | [],i=>some i
 | n::l,i=>(s i n).bind (oX s l)
def aag (M:IM) (i:Int) (n:aA):Option Int:=match M i with
 | none=>none
 | some x=>if x.kind=2/\cA x n≠0 then some (cA x n) else none
theorem aea (M:IM) (l:List aA):∀ i,eS M l i=oX (aag M) l i:=by
 induction l with
 | nil=>intro i; rfl
 | cons n l ih=>
  intro i;rw[eS,oX,aag];cases M i with
  | none=>rfl
  | some x=>
   simp only;split
   ·exact ih _
   ·rfl
section
variable {s s':Int->aA->Option Int}
theorem ajM {D:Int} {n:aA} (hs:∀ i m,i≠D\/m≠n->s' i m=s i m):∀ (l:List aA) (i:Int),(∀ a b,l=a++n::b->oX s a i≠some D)->oX s' l i=oX s l i:=by
 intro l;induction l with
 | nil=>intro i _; rfl
 | cons m l ih=>
  intro i h;rw[oX,oX];have e:s' i m=s i m:=by
   apply hs;by_cases hm:m=n
   ·left;rintro rfl;exact h [] l (by rw[hm]; rfl) rfl
   ·exact .inr hm
  rw[e];cases hc:s i m with
  | none=>rfl
  | some j=>
   show oX s' l j=oX s l j;refine ih j fun a b hl hw=>h (m::a) b (by rw[hl]; rfl) ?_
   rw[oX,hc]; exact hw
theorem aeb {D:Int} {n:aA} {d:List aA} (hs:∀ i m,i≠D\/m≠n->s' i m=s i m) (hu:∀ a,oX s a 1=some D->a=d) {l:List aA} (hp:¬ (d++[n]) <+: l) :
  oX s' l 1=oX s l 1:=by
 refine ajM hs l 1 fun a b hl hw=>hp ?_
 rw[<-hu a hw];exact⟨b,by rw[hl]; simp⟩
end
def dJ:List Inode->Inode->List Inode
 | [],x=>[x]
 | y::l,x=>if y.ino=x.ino then x::l else if x.ino<y.ino then x::y::l else y::dJ l x
def aG (t:Tab) (x:Inode):Tab:={ inodes:=dJ t.inodes x,next:=t.next }
def jX (t:Tab) (i:Int):Tab:={ inodes:=t.inodes.filter fun x=>decide (x.ino≠i),next:=t.next }
abbrev UpI (l:List Inode):Prop:=l.Pairwise fun a b=>a.ino<b.ino
theorem xV {l:List Inode} {x y:Inode} (h:y ∈ dJ l x):y=x\/y ∈ l:=by
 induction l with
 | nil=>simpa [dJ] using h
 | cons z l ih=>
  rw[dJ] at h;split at h
  ·rcases lN.1 h with h | h
   ·exact .inl h
   ·exact .inr D0
  ·split at h
   ·rcases lN.1 h with h | h
    ·exact .inl h
    ·exact .inr h
   ·rcases lN.1 h with h | h
    ·exact .inr D0
    ·rcases ih h with h | h
     ·exact .inl h
     ·exact .inr D0
theorem ajN {l:List Inode} (h:UpI l) (x:Inode):UpI (dJ l x):=by
 induction l with
 | nil=>simp[dJ,UpI]
 | cons y l ih=>
  obtain⟨a1,a2⟩:=lF2.1 h;rw[dJ];split
  ·rename_i e;exact lF2.2 ⟨fun z hz=>by have:=a1 z hz; omega,a2⟩
  ·split
   ·rename_i e1 e2;refine lF2.2 ⟨fun z hz=>?_,h⟩;rcases lN.1 hz with rfl | hz
    ·exact e2
    ·have:=a1 z hz; omega
   ·rename_i e1 e2;refine lF2.2 ⟨fun z hz=>?_,ih a2⟩;rcases xV hz with rfl | hz
    ·omega
    ·exact a1 z hz
theorem aec {l:List Inode} (h:UpI l) (x:Inode) (j:Int) :
  (dJ l x).find? (fun y=>decide (y.ino=j))=if x.ino=j then some x else l.find? fun y=>decide (y.ino=j):=by
 induction l with
 | nil=>
  rw[dJ];by_cases e:x.ino=j <;> simp[e]
 | cons y l ih=>
  obtain⟨a1,a2⟩:=lF2.1 h;have nl:∀ k,k<=y.ino->l.find? (fun z=>decide (z.ino=k))=none:=fun k hk=>by
   rw[List.find?_eq_none];intro z hz;have:=a1 z hz;simp; omega
  rw[dJ];split
  ·rename_i e;by_cases hj:x.ino=j
   ·rw[lA3 (by simpa using hj),lK hj]
   ·rw[lT2 (by simpa using hj),lO hj,lT2 B0]
  ·split
   ·rename_i e1 e2;by_cases hj:x.ino=j
    ·rw[lA3 (by simpa using hj),lK hj]
    ·rw[lT2 (by simpa using hj),lO hj]
   ·rename_i e1 e2;by_cases hy:y.ino=j
    ·rw[lA3 (by simpa using hy),lO A7,lA3 (by simpa using hy)]
    ·rw[lT2 (by simpa using hy),ih a2,lT2 (by simpa using hy)]
theorem f6 {t:Tab} (h:UpI t.inodes) (x:Inode) (j:Int):aU (aG t x) j=if x.ino=j then some x else aU t j:=aec h x j
theorem nC {t:Tab} (h:UpI t.inodes) (x:Inode):UpI (aG t x).inodes:=ajN h x
theorem anA {t:Tab} (h:UpI t.inodes) (x:Inode):x ∈ t.inodes↔aU t x.ino=some x:=⟨abS h,fun e=>(bH e).1⟩
theorem aoN {t u:Tab} (ht:UpI t.inodes) (hu:UpI u.inodes) (hn:t.next=u.next) (h:∀ i,aU t i=aU u i):t=u:=by
 have key:∀ (l m:List Inode),UpI l->UpI m->(∀ x,x ∈ l↔x ∈ m)->l=m:=by
  intro l;induction l with
  | nil=>
   intro m _ _ h;cases m with
   | nil=>rfl
   | cons y m=>exact absurd ((h y).2 A8) A8
  | cons x l ih=>
   intro m hl hm h;cases m with
   | nil=>exact absurd ((h x).1 A8) A8
   | cons y m=>
    obtain⟨a1,a2⟩:=lF2.1 hl;obtain⟨b1,b2⟩:=lF2.1 hm;have e:x=y:=by
     have h1:=(h x).1 A8;have h2:=(h y).2 A8;rcases lN.1 h1 with h1 | h1
     ·exact h1
     rcases lN.1 h2 with h2 | h2
     ·exact h2.symm
     have:=a1 y h2; have:=b1 x h1; omega
    subst e;congr 1;refine ih m a2 b2 fun z=>⟨fun hz=>?_,fun hz=>?_⟩
    ·rcases lN.1 ((h z).1 C0) with rfl | h'
     ·exact absurd (a1 _ hz) A7
     ·exact h'
    ·rcases lN.1 ((h z).2 C0) with rfl | h'
     ·exact absurd (b1 _ hz) A7
     ·exact h'
 have e:t.inodes=u.inodes:=key _ _ ht hu fun x=>by rw[anA ht,anA hu,h]
 cases t; cases u; simp_all
end
section
section
variable {α:Type} (key:α->aA)
def aed:List α->α->List α
 | [],e=>[e]
 | f::l,e=>if key e<key f then e::f::l else f::aed l e
def acJ (l:List α) (n:aA):List α:=l.filter fun e=>decide (key e≠n)
abbrev UpK (l:List α):Prop:=l.Pairwise fun a b=>key a<key b
variable {key}
theorem aah (l:List α) (e:α):(aed key l e).length=l.length+1:=by
 induction l with
 | nil=>rfl
 | cons f l ih=>
  rw[aed];split
  ·rfl
  ·rw[lZ,ih,lZ]
theorem ajO {l:List α} (h:UpK key l) (n:aA):UpK key (acJ key l n):=h.filter _
theorem afx {l:List α} {n:aA} (hn:∀ x ∈ l,key x≠n):acJ key l n=l:=by
 rw[acJ,lU4];intro x hx;simpa using hn x hx
end
def nD (l:List Ent) (e:Ent):List Ent:=aed Ent.name l e
def fU (l:List Ent) (n:aA):List Ent:=acJ Ent.name l n
theorem ajP (x:Inode) (n m:aA):cA { x with ents:=fU x.ents n } m=if m=n then 0 else cA x m:=by
 unfold cA;show (Option.map Ent.ino ((fU x.ents n).find? _)).getD 0=_;generalize x.ents=l;induction l with
 | nil=>simp[fU,acJ]
 | cons f l ih=>
  unfold fU acJ at ih ⊢;rw[List.filter_cons];by_cases hf:f.name=n
  ·rw[lO (by simp[hf]),ih];by_cases hm:m=n
   ·rw[lK hm,lK hm]
   ·rw[lO hm,lO hm,lT2 (by simp[hf]; exact Ne.symm hm)]
  ·rw[lK (by simpa using hf)];by_cases hm:f.name=m
   ·rw[lA3 (by simpa using hm),lO (by rw[<-hm]; exact hf),lA3 (by simpa using hm)]
   ·rw[lT2 (by simpa using hm),ih,lT2 (by simpa using hm)]
end
theorem afy {M:IM} {i:Int} {x:Inode} (h:M i=some x) (n:aA):aag M i n=if x.kind=2/\cA x n≠0 then some (cA x n) else none:=by rw[aag,h]
theorem ams {M M':IM} {i:Int} (h:M' i=M i) (n:aA):aag M' i n=aag M i n:=by rw[aag,aag,h]
def gT (D:Inode) (n:aA):Inode:={ D with ents:=fU D.ents n }
def p8 (D:Inode) (n:aA) (j:Int):Inode:={ D with ents:=nD D.ents ⟨n,j⟩ }
structure Spot (t:Tab) (D:Inode) (d:List aA):Prop where
 mem:D ∈ t.inodes
 kind:D.kind=2
 at':eS (aU t) d 1=some D.ino
theorem aee {t:Tab} (h:TreeOk t) {D:Inode} {d:List aA} (s:Spot t D d):∀ a,oX (aag (aU t)) a 1=some D.ino->a=d:=fun a ha=>
 ad9 h a d D.ino D (p6 h s.mem) (abU h s.mem s.kind) (by rw[aea]; exact ha) s.at'
def ajQ (X:Inode):Inode:={ X with links:=X.links-1 }
def oY (t:Tab) (D:Inode) (n:aA) (X:Inode):Tab:=if X.links=1 then jX (aG t (gT D n)) X.ino else aG (aG t (gT D n)) (ajQ X)
def apz (i k:Int):Inode:={ ino:=i,kind:=k,links:=1,data:=[],ents:=[],attrs:=[] }
def aoO (t:Tab) (D:Inode) (n:aA) (k:Int):Tab:={ inodes:=(aG (aG t (p8 D n t.next)) (apz t.next k)).inodes,next:=t.next+1 }
theorem xW {α:Type} (f:α->Nat) (l:List α) (c:Nat) (h:∀ x ∈ l,f x<=c):(l.map f).sum<=l.length*c:=by
 induction l with
 | nil=>simp
 | cons x l ih=>
  have a:=h x A8;have b:=ih fun y hy=>h y B8
  rw[lR,lK2,lZ,lI4];omega
def oZ (X:Inode):Inode:={ X with links:=X.links+1 }
def ajR (t:Tab) (D:Inode) (n:aA) (X:Inode):Tab:=aG (aG t (p8 D n X.ino)) (oZ X)
def sK (D1 D2:Inode) (n1:aA):Inode:=if D1.ino=D2.ino then gT D1 n1 else D2
def aef (t:Tab) (D1 D2:Inode) (n1 n2:aA) (j:Int):Tab:=aG (aG t (gT D1 n1)) (p8 (sK D1 D2 n1) n2 j)
def inR (x a b:Int):Bool:=decide (a<=x/\x<=b)
section
theorem iR (a b:aA):strLt a b=decide (a<b):=bytesLess_eq a b
section
variable {α:Type} (p:Nat->α->Bool) (lt:α->α->Bool)
def ajS (l:List α) (x:α):Nat->Bool
 | 0=>true
 | k+1=>match l[k]? with
  | none=>true
  | some y=>lt y x
def cD (l:List α) (i:Nat):Bool:=match l[i]? with
 | none=>true
 | some x=>p i x && ajS lt l x i
def wY (l:List α):Bool:=(List.range l.length).all (cD p lt l)
variable {p lt}
theorem l8 {l:List α} {i:Nat} (h:i<l.length) (e:cD p lt l i=false):wY p lt l=false:=by
 rw[wY,lP4];exact⟨i,by simpa using h,by simp[e]⟩
theorem f7 {l:List α} (h:∀ i,i<l.length->cD p lt l i=true):wY p lt l=true:=by
 rw[wY,lP];intro k hk;exact h k (by simpa using hk)
theorem dP {l:List α} (h:0<l.length):cD p lt l 0=p 0 l[0]:=by
 rw[cD,lF h]; simp[ajS]
theorem aY {l:List α} {i:Nat} (h:i+1<l.length):cD p lt l (i+1)=(p (i+1) l[i+1] && lt l[i] l[i+1]):=by
 rw[cD,lF h];simp only[ajS];rw[lF (show i<l.length by omega)]
theorem nE (htr:∀ a b c,lt a b=true->lt b c=true->lt a c=true) (l:List α):wY p lt l=true↔(∀ i,(h:i<l.length)->p i l[i]=true)/\l.Pairwise (fun a b=>lt a b=true):=by
 constructor
 ·intro h;have h':∀ i,i<l.length->cD p lt l i=true:=by
   intro i hi;rw[wY,lP] at h;exact h i (by simpa using hi)
  refine⟨fun i hi=>?_,?_⟩
  ·have:=h' i hi;rw[cD,lF hi] at this;simp only[lM] at this;exact this.1
  ·rw[lN2];intro i j hi hj kz;induction j with
   | zero=>omega
   | succ j ih=>
    have hs:=h' (j+1) hj;rw[aY hj,lM] at hs;by_cases e:i=j
    ·subst e; exact hs.2
    ·exact htr _ _ _ (ih A7 A7) hs.2
 ·rintro⟨h1,h2⟩;refine f7 fun i hi=>?_
  cases i with
  | zero=>rw[dP hi]; exact h1 0 hi
  | succ i=>
   rw[aY hi,lM];exact⟨h1 _ hi,lN2.1 h2 i (i+1) A7 hi A7⟩
end
theorem aqb:∀ a b c:aA,decide (a<b)=true->decide (b<c)=true->decide (a<c)=true:=by
 intro a b c h1 h2;simp only[decide_eq_true_eq] at *;exact List.lt_trans h1 h2
theorem aeg {α:Type} {l:List α} {p:α->Prop}:(∀ i,(h:i<l.length)->p l[i])↔∀ x ∈ l,p x:=by
 constructor
 ·intro h x hx;obtain⟨i,hi,rfl⟩:=lM1 hx;exact h i hi
 ·intro h i hi; exact h _ (lI hi)
def p9 (a:Attr):Bool:=aP a.name && inR a.val.length 1 16
def nG (a b:Attr):Bool:=decide (a.name<b.name)
def rF (l:List Attr):Bool:=wY (fun _=>p9) nG l
def kL (l:List Attr):Bool:=rF l && decide (l.length<=4)
def afz (e:Ent):Bool:=aP e.name && inR e.ino 2 1000
def vC (a b:Ent):Bool:=decide (a.name<b.name)
def xX (l:List Ent):Bool:=wY (fun _=>afz) vC l
def vD (l:List Ent):Bool:=xX l && decide (l.length<=10)
def rG (x:Inode):Bool:=if x.kind=1 then decide (x.ents.length=0) else if x.kind=2 then decide (x.data.length=0) && decide (x.links<=1) else false
def dK (x:Inode):Bool:=inR x.ino 1 1000 && (inR x.links 0 1000 && (decide (x.links=0) == decide (x.ino=1)) && (decide (x.data.length<=100) && (vD x.ents && (kL x.attrs && rG x))))
def jD (t:Tab) (x:Inode):Bool:=dK x && decide (x.ino<t.next)
def gO (a b:Inode):Bool:=decide (a.ino<b.ino)
def l9 (t:Tab):Bool:=wY (fun _=>jD t) gO t.inodes
def qA (t:Tab):Bool:=match aU t 1 with
 | none=>false
 | some x=>decide (x.kind=2)
def xY (t:Tab):Bool:=decide (t.inodes.length<=30) && (inR t.next 2 1000 && (l9 t && qA t))
def xZ (t:Tab) (x:Inode):Bool:=x.ents.all fun e=>(aU t e.ino).isSome
def kN (t:Tab) (x:Inode):Bool:=decide (x.links=(nB t x.ino:Nat)) && xZ t x
def bE (t:Tab):Bool:=xY t && (decide ((gN t).length=t.inodes.length) && t.inodes.all (kN t))
theorem fN (x a b:Int):inR x a b=true↔a<=x/\x<=b:=by simp[inR]
theorem ahh (l:List Attr):kL l=true↔AttrsOk l:=by
 rw[kL,lM,rF,nE (lt:=nG) (fun a b c h1 h2=>aqb a.name b.name c.name h1 h2)];simp only[p9,nG,lM,decide_eq_true_eq,fN];rw[aeg (p:=fun a:Attr=>aP a.name=true/\(1:Int)<=(a.val.length:Int)/\(a.val.length:Int)<=16)];constructor
 ·rintro⟨⟨h1,h2⟩,h3⟩;exact⟨h3,fun a ha=>⟨(h1 a ha).1,by have:=(h1 a ha).2.1; omega,by have:=(h1 a ha).2.2; omega⟩,h2⟩
 ·rintro⟨h3,h1,h2⟩;exact⟨⟨fun a ha=>⟨(h1 a ha).1,by have:=(h1 a ha).2.1; omega,by have:=(h1 a ha).2.2; omega⟩,h2⟩,h3⟩
theorem ajT (l:List Ent):vD l=true↔EntsOk l:=by
 rw[vD,lM,xX,nE (lt:=vC) (fun a b c h1 h2=>aqb a.name b.name c.name h1 h2)];simp only[afz,vC,lM,decide_eq_true_eq,fN];rw[aeg (p:=fun a:Ent=>aP a.name=true/\(2:Int)<=a.ino/\a.ino<=1000)];constructor
 ·rintro⟨⟨h1,h2⟩,h3⟩; exact⟨h3,h1,h2⟩
 ·rintro⟨h3,h1,h2⟩; exact⟨⟨h1,h2⟩,h3⟩
theorem ajU (x:Inode):rG x=true↔(x.kind=1/\x.ents=[])\/(x.kind=2/\x.data=[]/\x.links<=1):=by
 unfold rG;by_cases h1:x.kind=1
 ·rw[lK h1];simp only[decide_eq_true_eq,lO1];constructor
  ·exact fun h=>.inl ⟨h1,h⟩
  ·rintro(⟨_,h⟩ | ⟨h,_⟩)
   ·exact h
   ·omega
 ·rw[lO h1];by_cases h2:x.kind=2
  ·rw[lK h2];simp only[lM,decide_eq_true_eq,lO1];constructor
   ·exact fun h=>.inr ⟨h2,h⟩
   ·rintro(⟨h,_⟩ | ⟨_,h⟩)
    ·exact absurd h h1
    ·exact h
  ·rw[lO h2];constructor
   ·intro h; cases h
   ·rintro(⟨h,_⟩ | ⟨h,_⟩)
    ·exact absurd h h1
    ·exact absurd h h2
theorem x3 (x:Inode):dK x=true↔InodeOk x:=by
 unfold dK;simp only[lM,fN,decide_eq_true_eq,ajT,ahh,ajU,beq_iff_eq,decide_eq_decide];constructor
 ·rintro⟨h1,⟨h2,h3⟩,h4,h5,h6,h7⟩; exact⟨h1,h2,h3,h4,h5,h6,h7⟩
 ·rintro⟨h1,h2,h3,h4,h5,h6,h7⟩; exact⟨h1,⟨h2,h3⟩,h4,h5,h6,h7⟩
theorem ajV (t:Tab):qA t=true↔∃ x,aU t 1=some x/\x.kind=2:=by
 unfold qA;cases aU t 1 with
 | none=>simp
 | some x=>simp
theorem amt (t:Tab):xY t=true↔TabOk t:=by
 unfold xY;rw[l9];simp only[lM,decide_eq_true_eq,fN,ajV];rw[nE (fun a b c h1 h2=>by simp only[gO,decide_eq_true_eq] at *; omega)];simp only[jD,gO,lM,decide_eq_true_eq,x3];rw[aeg (p:=fun x:Inode=>InodeOk x/\x.ino<t.next)];constructor
 ·rintro⟨h1,h2,⟨h3,h4⟩,h5⟩; exact⟨h1,h2,h3,h4,h5⟩
 ·rintro⟨h1,h2,h3,h4,h5⟩; exact⟨h1,h2,⟨h3,h4⟩,h5⟩
theorem c9 (t:Tab):bE t=true↔TreeOk t:=by
 unfold bE;simp only[lM,decide_eq_true_eq,amt,lP,kN,xZ];constructor
 ·rintro⟨h1,h2,h3⟩; exact⟨h1,h2,fun x hx=>(h3 x hx).1.symm,fun x hx=>(h3 x hx).2⟩
 ·rintro⟨h1,h2,h3,h4⟩; exact⟨h1,h2,fun x hx=>⟨(h3 x hx).symm,h4 x hx⟩⟩
def cG (f:Fs) (n:aA):Option Nat:=f.vols.findIdx? fun v=>decide (v.name=n)
def mP (f:Fs) (i:Int):Option Nat:=f.vols.findIdx? fun v=>decide (v.id=i)
def gU (o:Option Nat):Int:=match o with
 | none=>-1
 | some i=>i
def iC (f:Fs) (i:Nat) (v:Vol):Bool:=decide (1<=v.id) && (decide (v.id<f.next) && (aP v.name && (decide (gU (cG f v.name)=(i:Int)) && (inR v.limit 32 4000 && (bE v.t && decide ((dD v.t:Nat)<=v.limit))))))
def mQ (a b:Vol):Bool:=decide (a.id<b.id)
def fsB (f:Fs):Bool:=decide (f.vols.length<=6) && (inR f.next 1 99 && wY (iC f) mQ f.vols)
end
def zN:Inode:={ ino:=0,kind:=0,links:=0,data:=[],ents:=[],attrs:=[] }
abbrev Rs (α:Type):=Except Int α
def exC {α:Type}:Rs α->Int
 | .ok _=>0
 | .error c=>c
def exI:Rs Inode->Inode
 | .ok x=>x
 | .error _=>zN
def cE (t:Tab) (s:aA):Rs Inode:=if (n6 t s).2=0 then (match aU t (n6 t s).1 with
 | some x=>.ok x
 | none=>.error 2) else .error (n6 t s).2
def iK (t:Tab) (s:aA):Rs Inode:=match cE t s with
 | .ok x=>if x.kind=1 then .ok x else .error 3
 | .error c=>.error c
def bQ (t:Tab) (s:aA):Rs Inode:=match cE t (aF s).1 with
 | .ok D=>if D.kind=2 then .ok D else .error 3
 | .error c=>.error c
def o0 (t:Tab) (s:aA) (from':Int):Rs Inode:=match bQ t s with
 | .ok D=>if cA D (aF s).2.1=0 then (if D.ents.length<10\/D.ino=from' then .ok D else .error 5) else .error 4
 | .error c=>.error c
def b4 (s:aA):Bool:=(aB s).2
def iX (s:aA):Bool:=(aF s).2.2
def aD (s:aA):aA:=(aF s).2.1
def b3 (t:Tab) (s:aA) (k:Int):Tab × Int:=if bE t=true/\iX s=true then (match o0 t s 0 with
 | .ok D=>if t.inodes.length<30/\t.next<1000 then (aoO t D (aD s) k,0) else (t,5)
 | .error c=>(t,c)) else (t,1)
def bZ (t:Tab) (s:aA):Tab × Int:=if bE t=true/\iX s=true then (match iK t s with
 | .ok X=>(oY t (exI (bQ t s)) (aD s) X,0)
 | .error c=>(t,c)) else (t,1)
def cU (t:Tab) (s:aA):Tab × Int:=if bE t=true/\iX s=true then (match cE t s with
 | .ok X=>if X.kind=2 then (if X.ents=[] then (jX (aG t (gT (exI (bQ t s)) (aD s))) X.ino,0) else (t,6)) else (t,3)
 | .error c=>(t,c)) else (t,1)
def eG (t:Tab) (p q:aA):Tab × Int:=if bE t=true/\b4 p=true/\iX q=true then (match iK t p with
 | .ok X=>(match o0 t q 0 with
  | .ok D=>(ajR t D (aD q) X,0)
  | .error c=>(t,c))
 | .error c=>(t,c)) else (t,1)
def eT (t:Tab) (p q:aA):Tab × Int:=if bE t=true/\iX p=true/\iX q=true then (match cE t p with
 | .ok X=>if rE p q=true then (t,6) else (match o0 t q (exI (bQ t p)).ino with
  | .ok D=>(aef t (exI (bQ t p)) D (aD p) (aD q) X.ino,0)
  | .error c=>(t,c))
 | .error c=>(t,c)) else (t,1)
def jP (b:aA) (n:Nat):aA:=b++List.replicate (n-b.length) 0
def x4 (b:aA) (o:Nat) (d:aA):aA:=(jP b (o+d.length)).take o++d++b.drop (o+d.length)
def mA (X:Inode) (b:aA):Inode:={ X with data:=b }
def jG (X:Inode) (l:List Attr):Inode:={ X with attrs:=l }
def cV (t:Tab) (p:aA) (o:Int) (d:aA):Tab × Int:=if bE t=true/\b4 p=true/\inR o 0 100=true then (match iK t p with
 | .ok X=>if o+(d.length:Nat)<=100 then (aG t (mA X (x4 X.data o.toNat d)),0) else (t,5)
 | .error c=>(t,c)) else (t,1)
def jH (t:Tab) (p:aA) (n:Int):Tab × Int:=if bE t=true/\b4 p=true/\inR n 0 100=true then (match iK t p with
 | .ok X=>(aG t (mA X ((jP X.data n.toNat).take n.toNat)),0)
 | .error c=>(t,c)) else (t,1)
def gD (l:List Attr) (n:aA):List Attr:=acJ Attr.name l n
def sL (l:List Attr) (a:Attr):List Attr:=aed Attr.name l a
def eU (t:Tab) (p n v:aA):Tab × Int:=if bE t=true/\b4 p=true/\aP n=true/\v.length<=16 then (match cE t p with
 | .ok X=>if v=[] then (aG t (jG X (gD X.attrs n)),0) else if (gD X.attrs n).length<4 then (aG t (jG X (sL (gD X.attrs n) ⟨n,v⟩)),0) else (t,5)
 | .error c=>(t,c)) else (t,1)
theorem ahi (l:List Inode) (x:Inode):(dJ l x).length<=l.length+1:=by
 induction l with
 | nil=>simp[dJ]
 | cons y l ih=>
  rw[dJ];split
  ·simp
  ·split <;> simp;omega
theorem ahj (f:Inode->Nat) (l:List Inode) (x:Inode):((dJ l x).map f).sum<=(l.map f).sum+f x:=by
 induction l with
 | nil=>simp[dJ]
 | cons y l ih=>
  rw[dJ];split
  ·simp only[lR,lK2]; omega
  ·split <;> simp only[lR,lK2] <;> omega
theorem amu (t:Tab):t.sz=t.inodes.length+(t.inodes.map Inode.sz).sum:=rfl
theorem bF (t:Tab) (x:Inode):(aG t x).sz<=t.sz+x.sz+1:=by
 rw[amu,amu];have:=ahi t.inodes x;have:=ahj Inode.sz t.inodes x;show (dJ t.inodes x).length+((dJ t.inodes x).map Inode.sz).sum<=_;omega
theorem rH {α:Type} (f:α->Nat) (p:α->Bool) (l:List α):((l.filter p).map f).sum<=(l.map f).sum:=by
 induction l with
 | nil=>simp
 | cons y l ih=>rw[List.filter_cons]; split <;> simp <;> omega
theorem x5 (t:Tab) (i:Int):(jX t i).sz<=t.sz:=by
 rw[amu,amu];have:(t.inodes.filter fun x=>decide (x.ino≠i)).length<=t.inodes.length:=lH3 _ _;have:=rH Inode.sz (fun x=>decide (x.ino≠i)) t.inodes;show (t.inodes.filter fun x=>decide (x.ino≠i)).length+((t.inodes.filter fun x=>decide (x.ino≠i)).map Inode.sz).sum<=_;omega
theorem ajW {α:Type} (f:α->Nat) (l:List α) (c n:Nat) (hn:l.length<=n) (h:∀ x ∈ l,f x<=c):szM f l<=n+n*c:=by
 have:=xW f l c h;have h2:l.length*c<=n*c:=lJ1 c hn;simp only[szM]; omega
theorem aeh {x:Inode} (h:InodeOk x):x.sz<=400:=by
 have e:x.sz=x.data.length+szM Ent.sz x.ents+szM Attr.sz x.attrs:=rfl;have h1:=ajW Ent.sz x.ents 14 10 h.ents.len fun e he=>(p5 (h.ents.ok e he).1).2
 have h2:=ajW Attr.sz x.attrs 30 4 h.attrs.len fun a ha=>by
  have:=(p5 (h.attrs.ok a ha).1).2;have:=(h.attrs.ok a ha).2.2;show a.name.length+a.val.length<=30;omega
 have:=h.data;omega
theorem ajX {t:Tab} (h:TabOk t):t.sz<=12030:=ajW Inode.sz t.inodes 400 30 h.len fun x hx=>aeh (h.ok x hx).1
theorem ahk {t:Tab} (h:bE t=true):t.sz<=12030:=ajX ((c9 t).1 h).tab
theorem nH {t:Tab} {s:aA} {x:Inode} (h:cE t s=.ok x):n6 t s=(x.ino,0)/\aU t x.ino=some x:=by
 unfold cE at h;split at h
 ·rename_i e;cases hx:aU t (n6 t s).1 with
  | none=>rw[hx] at h; cases h
  | some y=>
   rw[hx] at h;cases h;have:=(bH hx).2;rw[this];exact⟨by rw[<-e],hx⟩
 ·cases h
theorem f8 {t:Tab} {s:aA} {x:Inode} (h:iK t s=.ok x):cE t s=.ok x/\x.kind=1:=by
 unfold iK at h;split at h
 ·split at h
  ·cases h; rename_i e k; exact⟨e,k⟩
  ·cases h
 ·cases h
theorem f9 {t:Tab} {s:aA} {x:Inode} (h:bQ t s=.ok x):cE t (aF s).1=.ok x/\x.kind=2:=by
 unfold bQ at h;split at h
 ·split at h
  ·cases h; rename_i e k; exact⟨e,k⟩
  ·cases h
 ·cases h
theorem vE {t:Tab} {s:aA} {f:Int} {x:Inode} (h:o0 t s f=.ok x):bQ t s=.ok x/\cA x (aD s)=0/\(x.ents.length<10\/x.ino=f):=by
 unfold o0 at h;split at h
 ·split at h
  ·split at h
   ·cases h; rename_i e k l; exact⟨e,k,l⟩
   ·cases h
  ·cases h
 ·cases h
theorem vF {s:aA} (h:iX s=true):(aB s).2=true/\(aB s).1≠[]:=(abQ s).1 h
theorem tQ {s:aA} (h:iX s=true):(aB s).1=(aB (aF s).1).1++[aD s]/\(aB (aF s).1).2=true/\aP (aD s)=true:=by
 obtain⟨h1,h2⟩:=vF h;obtain⟨e1,e2⟩:=ajJ h1 h2;have e3:(aF s).1=bY (aB s).1.dropLast:=by rw[e1]
 have e4:aD s=(aB s).1.getLastD []:=by rw[aD,e1]
 rw[e3,e2,e4];have e5:(aB s).1.getLastD []=(aB s).1.getLast h2:=by rw[List.getLastD_eq_getLast?,List.getLast?_eq_some_getLast h2]; rfl
 refine⟨by rw[e5,List.dropLast_concat_getLast],rfl,?_⟩;rw[e5];exact(kK (n5 h1).1).2 _ (List.getLast_mem h2)
theorem afA {t:Tab} {s:aA} (h:(aB s).2=true) {i:Int}:n6 t s=(i,0)↔eS (aU t) (aB s).1 1=some i:=by
 rw[n6,lK h]; exact aoM t _ 1 i
theorem abV {t:Tab} {s:aA} (h:(n6 t s).2=0):(aB s).2=true:=by
 unfold n6 at h;split at h
 ·assumption
 ·cases h
theorem vG {t:Tab} {s:aA} {x:Inode} (h:cE t s=.ok x):(aB s).2=true/\eS (aU t) (aB s).1 1=some x.ino:=by
 have h1:=(nH h).1;have h2:=abV (by rw[h1]);exact⟨h2,(afA h2).1 h1⟩
theorem abW {t:Tab} {s:aA} {D:Inode} (h:bQ t s=.ok D):Spot t D (aB (aF s).1).1:=by
 obtain⟨h1,h2⟩:=f9 h;exact⟨(bH (nH h1).2).1,h2,(vG h1).2⟩
theorem aai {t:Tab} (ht:TreeOk t) {s:aA} (hs:iX s=true) {X:Inode} (h:cE t s=.ok X):∃ D,bQ t s=.ok D/\cA D (aD s)=X.ino/\∃ e ∈ D.ents,e.name=aD s/\e.ino=X.ino:=by
 obtain⟨h1,h2⟩:=vG h;obtain⟨e1,e2,e3⟩:=tQ hs;rw[e1,rZ] at h2;cases hw:eS (aU t) (aB (aF s).1).1 1 with
 | none=>rw[hw] at h2; cases h2
 | some j=>
  rw[hw] at h2;obtain⟨D,d1,d2,d3,d4⟩:=(abT _ _ _ _).1 h2;obtain⟨_,d5⟩:=bH d1;have eh:cE t (aF s).1=.ok D:=by
   rw[cE,(afA e2).2 hw,lK rfl,d1]
  refine⟨D,by rw[bQ,eh]; simp only[d2,lK],d3,?_⟩;obtain⟨e,he,f1,f2⟩:=ajK (x:=D) (n:=aD s) (by rw[d3]; exact d4);exact⟨e,he,f1,by rw[f2,d3]⟩
section
variable {t:Tab}
theorem aS {s:aA} {X:Inode} (h:cE t s=.ok X):X ∈ t.inodes/\aU t X.ino=some X:=⟨(bH (nH h).2).1,(nH h).2⟩
theorem fJ {s:aA} {D:Inode} (h:bQ t s=.ok D):D ∈ t.inodes:=(aS (f9 h).1).1
theorem ajY (ht:TreeOk t) {X:Inode} (h:X ∈ t.inodes):1<=X.ino/\X.ino<=1000:=(ht.tab.ok X h).1.ino
theorem amv (ht:TreeOk t) {s:aA} (hs:iX s=true) {X:Inode} (h:cE t s=.ok X):X.ino≠1:=by
 intro e;obtain⟨D,h1,h2,⟨x,hx,h3,h4⟩⟩:=aai ht hs h;have:=((l7 ht (fJ h1)).ok x hx).2.1;omega
theorem ajZ {p q:aA} (hp:b4 p=true) (hq:b4 q=true):rE p q=true↔(aB p).1 <+: (aB q).1:=by
 unfold b4 at *;rw[rE,hp,hq]; simp
theorem aoP (ht:TreeOk t) {p q:aA} {X D2:Inode} (hp:iX p=true) (hq:iX q=true) (h1:cE t p=.ok X) (hb:rE p q=false) (h2:o0 t q (exI (bQ t p)).ino=.ok D2) :
  ∃ D1 e,bQ t p=.ok D1/\Spot t D1 (aB (aF p).1).1/\e ∈ D1.ents/\e.name=aD p/\e.ino=X.ino/\Spot t D2 (aB (aF q).1).1/\aP (aD q)=true/\cA D2 (aD q)=0 /\
   (D2.ents.length<10\/D1.ino=D2.ino)/\¬ ((aB (aF p).1).1++[e.name]) <+: ((aB (aF q).1).1++[aD q]):=by
 obtain⟨D1,d1,d2,⟨e,he,d3,d4⟩⟩:=aai ht hp h1;obtain⟨n1,n2,n3⟩:=vE h2;rw[d1] at n3;refine⟨D1,e,d1,abW d1,he,d3,d4,abW n1,(tQ hq).2.2,n2,?_,?_⟩
 ·rcases n3 with n | n
  ·exact .inl n
  ·exact .inr n.symm
 ·rw[d3,<-(tQ hp).1,<-(tQ hq).1,<-ajZ (vF hp).1 (vF hq).1,hb];simp
theorem tR (b:aA) (n:Nat):(jP b n).length=max b.length n:=by simp[jP]; omega
theorem afB (b:aA) (o:Nat) (d:aA):(x4 b o d).length=max b.length (o+d.length):=by
 simp only[x4,lU,lH,lK1,tR]; omega
end
theorem vH {s:aA} {m:Nat} (h:m<s.length) (h1:s[m]=47) (h2:∀ k,k<m->(hk:k<s.length)->s[k]≠47):bD s=s.take m::bD (s.drop (m+1)):=by
 have e:s=s.take m++47::s.drop (m+1):=by
  rw[<-h1,<-lE2 h,lJ]
 have h3:∀ c ∈ s.take m,c≠47:=by
  intro c hc;obtain⟨k,hk,rfl⟩:=lM1 hc;rw[lG5];exact h2 k (by simp at hk; omega) _
 have:=vA (s.take m) (s.drop (m+1)) h3
 rwa [<-e] at this
theorem vI {s:aA} (h:∀ k,(hk:k<s.length)->s[k]≠47):bD s=[s]:=vB s fun c hc=>by
 obtain⟨k,hk,rfl⟩:=lM1 hc;exact h k hk
theorem nI (s:aA):(bD s).length=s.count 47+1:=by
 induction s with
 | nil=>rfl
 | cons c s ih=>
  by_cases hc:c=47
  ·rw[bD,lK hc,lZ,ih,hc,List.count_cons_self]
  ·obtain⟨a,t,e1,e2⟩:=l6 c s hc;rw[e2,List.count_cons_of_ne hc,<-ih,e1]; rfl
theorem aj0 {s:aA} {m:Nat} (h:m<s.length) (h1:s[m]=47) (h2:∀ k,k<m->(hk:k<s.length)->s[k]≠47):s.count 47=(s.drop (m+1)).count 47+1:=by
 have:=nI s;rw[vH h h1 h2,lZ,nI] at this;omega
theorem rI {s:aA} (h:s.head?≠some 47):aB s=([],false):=by
 have hs:s≠[47]:=fun e=>h (by rw[e]; rfl)
 rw[aB,lO hs];cases s with
 | nil=>rfl
 | cons c s=>
  have hc:c≠47:=fun e=>h (by rw[e]; rfl)
  obtain⟨a,t,e1,e2⟩:=l6 c s hc;rw[e2]; rfl
theorem abX {s:aA} {l:List aA} (h:bD s=[]::l) (hb:bW l=false) (hs:s≠[47]):aB s=([],false):=by
 rw[aB,lO hs,h];cases l with
 | nil=>rfl
 | cons n l=>simp only[wX,hb]; rfl
theorem x6 {s:aA} {l:List aA} (h:bD s=[]::l) (hl:l≠[]) (hb:bW l=true) (hs:s≠[47]):aB s=(l,true):=by
 rw[aB,lO hs,h];cases l with
 | nil=>exact absurd rfl hl
 | cons n l=>simp only[wX,hb]; rfl
theorem abY {l:List aA} {n:aA} (h:n ∈ l) (hn:aP n=false):bW l=false:=by
 have:l.all aP=false:=by rw[lP4]; exact⟨n,h,by simp[hn]⟩
 simp[bW,this]
theorem x7 {l:List aA} (h:30<l.length):bW l=false:=by rw[bW,lB A7,lG1]
structure Cut (s:aA) (i j:Nat) (out:List aA):Prop where
 le:j<=i
 end':i<=s.length+1
 no:∀ k,j<=k->k<i->(h:k<s.length)->s[k]≠47
 len:out.length<=30
 ok:∀ n ∈ out,aP n=true
 z:i=0->out=[]
 cut:s.head?=some 47->(i=0/\j=0/\out=[])\/(0<i/\bD s=[]::(out++if i<=s.length then bD (s.drop j) else []))
theorem Cut.zero (s:aA):Cut s 0 0 []:=⟨lE1 _,lP3 _,fun _ _ h=>absurd h (Nat.not_lt_zero _),lP3 _,by simp,fun _=>rfl,fun _=>.inl ⟨rfl,rfl,rfl⟩⟩
theorem Cut.skip {s:aA} {i j:Nat} {out:List aA} (h:Cut s i j out) (hi:i<s.length) (hc:s[i]≠47):Cut s (i+1) j out:=by
 obtain⟨a1,a2,a3,a4,a5,_,a6⟩:=h;refine⟨by omega,by omega,fun k h1 h2 h3=>?_,a4,a5,fun h=>absurd h (Nat.succ_ne_zero _),fun h0=>?_⟩
 ·by_cases e:k=i
  ·subst e; exact hc
  ·exact a3 k h1 A7 h3
 ·rcases a6 h0 with ⟨e1,e2,e3⟩ | ⟨e1,e2⟩
  ·subst e1;exfalso;rw[List.head?_eq_getElem?,lF hi] at h0;exact hc (Option.some.inj h0)
  ·refine .inr ⟨by omega,?_⟩;rw[lK A7] at e2;rw[lK A7];exact e2
theorem Cut.first {s:aA} (h:s.length=0\/∃ h:0<s.length,s[0]=47):Cut s 1 1 []:=by
 refine⟨lE1 _,by omega,fun k h1 h2=>by omega,lP3 _,by simp,fun h=>rfl,fun h0=>.inr ⟨by omega,?_⟩⟩;cases s with
 | nil=>cases h0
 | cons c s=>
  injection h0 with h0
  subst h0;rw[bD,lK rfl,lK A8];rfl
theorem Cut.name {s:aA} {i j:Nat} {out:List aA} (h:Cut s i j out) (h0:0<i) (hi:i<=s.length) (hc:i=s.length\/∃ h:i<s.length,s[i]=47) (hh:s.head?=some 47) :
  bD s=[]::(out++(s.drop j).take (i-j)::if i+1<=s.length then bD (s.drop (i+1)) else []):=by
 obtain⟨a1,a2,a3,a4,a5,_,a6⟩:=h;rcases a6 hh with ⟨e1,_⟩ | ⟨_,e2⟩
 ·omega
 ·rw[lK hi] at e2;rw[e2];congr 2;have no:∀ k,k<i-j->(hk:k<(s.drop j).length)->(s.drop j)[k]≠47:=fun k h1 h2=>by
   rw[List.getElem_drop];exact a3 _ A7 A7 _
  rcases hc with rfl | ⟨hc,hx⟩
  ·rw[lO A7,vI (fun k hk=>no k (by simpa using hk) hk),lW1 A8]
  ·rw[lK A7,vH (m:=i-j) B0 (by rw[List.getElem_drop]; simpa [show j+(i-j)=i by omega] using hx) no,lA2,show j+(i-j+1)=i+1 by omega]
theorem Cut.next {s:aA} {i j:Nat} {out:List aA} (h:Cut s i j out) (h0:0<i) (hi:i<=s.length) (hc:i=s.length\/∃ h:i<s.length,s[i]=47) (hn:aP ((s.drop j).take (i-j))=true) (hl:out.length<30) :
  Cut s (i+1) (i+1) (out++[(s.drop j).take (i-j)]):=by
 refine⟨lE1 _,by omega,fun k h1 h2=>by omega,by simp; omega,fun n hm=>?_,fun h=>absurd h (Nat.succ_ne_zero _),fun hh=>.inr ⟨by omega,?_⟩⟩
 ·rcases lL.1 hm with hm | hm
  ·exact h.ok n hm
  ·simp at hm; subst hm; exact hn
 ·rw[h.name h0 hi hc hh,lM2]; rfl
theorem Cut.bad {s:aA} {i j:Nat} {out:List aA} (h:Cut s i j out) (h0:0<i) (hi:i<=s.length) (hc:i=s.length\/∃ h:i<s.length,s[i]=47) (hn:aP ((s.drop j).take (i-j))=false\/out.length=30) (hs:s≠[47]) :
  aB s=([],false):=by
 by_cases hh:s.head?=some 47
 ·refine abX (h.name h0 hi hc hh) ?_ hs;rcases hn with hn | hn
  ·exact abY A8 hn
  ·exact x7 B0
 ·exact rI hh
theorem Cut.done {s:aA} {j:Nat} {out:List aA} (h:Cut s (s.length+1) j out) (hh:s.head?=some 47) (hs:s≠[47]):aB s=(out,true):=by
 obtain⟨a1,a2,a3,a4,a5,_,a6⟩:=h;rcases a6 hh with ⟨e1,_⟩ | ⟨_,e2⟩
 ·omega
 ·rw[lO A7,lX2] at e2;refine x6 e2 (fun e=>?_) (nZ a4 a5) hs;rw[e] at e2;cases s with
  | nil=>cases hh
  | cons c s=>
   injection hh with hh
   subst hh;rw[bD,lK rfl] at e2;injection e2 with _ e2
   exact p4 _ e2
theorem ahl (n:aA) (l:List aA):fM (n::l)=47::(n++fM l):=by simp[fM]
theorem ahm (l:List aA) (n:aA):fM (l++[n])=fM l++47::n:=by simp[fM]
theorem vJ {l:List aA} (h:bW l=true):(fM l).length<=450:=by
 obtain⟨h1,h2⟩:=kK h;have:=xW (fun n:aA=>n.length+1) l 15 fun n hn=>by have:=(p5 (h2 n hn)).2; omega
 have e:(fM l).length=(l.map fun n:aA=>n.length+1).sum:=by rw[fM,List.length_flatMap]; rfl
 rw[e];have:l.length*15<=30*15:=lJ1 _ h1;omega
theorem abZ (a b:aA) (hl:a.length<2^40):Sp 93 [.ext 1 (aJ a),.ext 1 (aJ b)] (.bool (decide (a=b))) U2:=by
 refine Vw adJ [] 51 [] fun w hP hQ=>?_
 refine Jf (fun h=>?_) fun h=>?_
 ·refine N ?_;refine eE (fun i:Nat=>[(5,.int .i64 i)]) (fun i=>i<=a.length/\a.take i=b.take i) (fun i=>a.length-i) (0) hP hQ (rfl) A8 ?_;rintro i ⟨hi,dt⟩ w1 hP1 hQ1;refine N1 ?_;refine Jf (fun h1=>?_) fun h1=>?_
  ·refine Nz1 (And.intro (aL h1) (aL (h ▸ h1))) ?_;refine Jf (fun h2=>?_) fun h2=>?_
   ·refine N1 ?_;exact⟨i+1,rfl,⟨by omega,eL dt _ _ (UInt8.toNat_inj.1 A7)⟩,by omega⟩
   ·refine N1 ?_;rw[lB];rintro rfl; exact h2 rfl
  ·refine N1 ?_;rw[lC (nY dt A7 A7)]
 ·refine Nz hQ ?_;rw[lB];rintro rfl; exact h rfl
theorem qB (a:aA) (left:Int) (hl:a.length<2^48) (h0:0<=left) (h1:left<2^40) :
  Sp 79 [.ext 1 (aJ a),.int .i64 left] (.int .i64 (szC left a.length)) U2:=by
 refine Vw adF [] 19 [] fun w hP hQ=>?_
 refine Jf (fun h=>?_) fun h=>?_
 ·refine N ?_;rw[b7 A7]
 ·refine N ?_;rw[dI A7]
theorem ab0 (a:aA) (hl:a.length<2^40):Sp 89 [.ext 1 (aJ a)] (.own 1 (aJ a)) U1:=by
 refine Vw adI [] 29 [] fun w hP hQ=>?_
 refine eE (fun i:Nat=>[(3,.own 1 (rB rC [.int .u8 0] a i)),(4,.int .i64 i)]) (fun i=>i<=a.length) (fun i=>a.length-i) (0) hP hQ (by simp +decide (maxSteps:=9^9) (disch:=omega) only[↓SB0,SX,seval,hQ,u7]) A7 ?_;rintro i hi w1 hP1 hQ1;refine N1 ?_;refine Jf (fun h1=>?_) fun h1=>?_
 ·refine Nz1 (aL h1) ?_;rw[m7 _ _ _ _ A7 _ (by rfl)];exact⟨i+1,rfl,by omega,by omega⟩
 ·simp +decide (maxSteps:=9^9) (disch:=omega) only[↓SB0,SX,seval,hQ,hQ1,m6,xS]
theorem vK (a:aA) (k:Int) (h0:0<=k) (hl:k+a.length<2^40):Sp 95 [.own 1 (aJ a),.int .i64 k] (.int .i64 (k+a.length)) [.own 1 (aJ (mI a k)),.undef]:=by
 refine Vw zU [] 51 [true,false] fun w hP hQ=>?_
 refine eE (fun i:Nat=>[(1000,.own 1 (ad0 rC (fun _ k=>UInt8.ofInt k) (fun _=>1) a k i)),(1,.int .i64 (k+i)),(5,.int .i64 i)]) (fun i=>i<=a.length) (fun i=>a.length-i) (0) hP hQ (by simp +decide (maxSteps:=9^9) (disch:=omega) only[↓SB0,SX,seval,hQ,abK,<-xS]) A7 ?_;rintro i hi w1 hP1 hQ1;refine N1 ?_;refine Jf (fun h1=>?_) fun h1=>?_
 ·refine N1 ?_;rw[pZ _ _ _ _ _ _ A7 _ (by simp only[ajF,lH,lB1 hi,xR]; rfl)];exact⟨i+1,by simp[lC3],by omega,by omega⟩
 ·obtain rfl:i=a.length:=by omega
  exact Nz1 ahb trivial
theorem vL (a:aA) (k:Int) (h0:0<=k) (hl:k+a.length<2^40):Sp 231 [.ext 1 (aJ (mI a k)),.int .i64 k] (.int .i64 (k+a.length)) U2:=by
 refine Vw z8 [] 51 [] fun w hP hQ=>?_
 refine eE (fun i:Nat=>[(1,.int .i64 (k+i)),(5,.int .i64 i)]) (fun i=>i<=a.length) (fun i=>a.length-i) (0) hP hQ (by simp +decide (maxSteps:=9^9) (disch:=omega) only[↓SB0,SX,seval,hQ]) A7 ?_;rintro i hi w1 hP1 hQ1;refine N1 ?_;refine Jf (fun h1=>?_) fun h1=>?_
 ·refine Nz1 (And.intro (aL h1) xR) ?_;exact⟨i+1,by simp[lC3],by omega,by omega⟩
 ·obtain rfl:i=a.length:=by omega
  exact N1 trivial
theorem aoQ (a b:Ent) (hl:a.sz<2^40):Sp 318 [a.x,b.x] (.bool (decide (a=b))) U2:=by
 simp only[Ent.sz] at hl;refine Vw ajB [] 31 [] fun w hP hQ=>?_
 refine Jf (fun h0=>?_) fun h0=>?_
 rotate_left
 ·refine N ?_;rw[lB (by rintro rfl; exact h0 rfl)]
 refine N ?_;refine Jf (fun h1=>?_) fun h1=>?_
 rotate_left
 ·refine N ?_;rw[lB (by rintro rfl; exact h1 rfl)]
 refine N ?_;rw[lC (Ent.eq' h0 h1)]
theorem amw (a b:List Ent) (hl:szM Ent.sz a<2^40):Sp 305 [.ext 2 (a.map Ent.row),.ext 2 (b.map Ent.row)] (.bool (decide (a=b))) U2:=by
 simp only[szM] at hl;refine Vw ag5 [] 51 [] fun w hP hQ=>?_
 refine Jf (fun h=>?_) fun h=>?_
 rotate_left
 ·refine N ?_;rw[lB (by rintro rfl; exact h rfl)]
 refine N ?_;refine eE (fun i:Nat=>[(5,.int .i64 i)]) (fun i=>i<=a.length/\a.take i=b.take i) (fun i=>a.length-i) (0) hP hQ (rfl) A8 ?_;rintro i ⟨hi,dt⟩ w1 hP1 hQ1;refine N1 ?_;refine Jf (fun h1=>?_) fun h1=>?_
 ·refine Nz1 (And.intro (aL h1) (aL (h ▸ h1))) ?_;refine K1 (aoQ (a[i]'A7) (b[i]'A7) (lR2 (l5 Ent.sz _) A7)) ?_;refine Jf (fun h2=>?_) fun h2=>?_
  ·refine N1 ?_;exact⟨i+1,rfl,⟨by omega,eL dt _ _ h2⟩,by omega⟩
  ·refine N1 ?_;rw[lB (by rintro rfl; exact h2 rfl)]
 ·refine N1 ?_;rw[lC (nY dt A7 A7)]
theorem amx (a b:Attr) (hl:a.sz<2^40):Sp 319 [a.x,b.x] (.bool (decide (a=b))) U2:=by
 simp only[Attr.sz] at hl;refine Vw ag8 [] 31 [] fun w hP hQ=>?_
 refine Jf (fun h0=>?_) fun h0=>?_
 rotate_left
 ·refine N ?_;rw[lB (by rintro rfl; exact h0 rfl)]
 refine N ?_;refine Jf (fun h1=>?_) fun h1=>?_
 rotate_left
 ·refine N ?_;rw[lB (by rintro rfl; exact h1 rfl)]
 refine N ?_;rw[lC (Attr.eq' h0 h1)]
theorem aj1 (a b:List Attr) (hl:szM Attr.sz a<2^40):Sp 306 [.ext 2 (a.map Attr.row),.ext 2 (b.map Attr.row)] (.bool (decide (a=b))) U2:=by
 simp only[szM] at hl;refine Vw adY [] 51 [] fun w hP hQ=>?_
 refine Jf (fun h=>?_) fun h=>?_
 rotate_left
 ·refine N ?_;rw[lB (by rintro rfl; exact h rfl)]
 refine N ?_;refine eE (fun i:Nat=>[(5,.int .i64 i)]) (fun i=>i<=a.length/\a.take i=b.take i) (fun i=>a.length-i) (0) hP hQ (rfl) A8 ?_;rintro i ⟨hi,dt⟩ w1 hP1 hQ1;refine N1 ?_;refine Jf (fun h1=>?_) fun h1=>?_
 ·refine Nz1 (And.intro (aL h1) (aL (h ▸ h1))) ?_;refine K1 (amx (a[i]'A7) (b[i]'A7) (lR2 (l5 Attr.sz _) A7)) ?_;refine Jf (fun h2=>?_) fun h2=>?_
  ·refine N1 ?_;exact⟨i+1,rfl,⟨by omega,eL dt _ _ h2⟩,by omega⟩
  ·refine N1 ?_;rw[lB (by rintro rfl; exact h2 rfl)]
 ·refine N1 ?_;rw[lC (nY dt A7 A7)]
theorem aj2 (a b:Inode) (hl:a.sz<2^40):Sp 292 [a.x,b.x] (.bool (decide (a=b))) U2:=by
 simp only[Inode.sz] at hl;refine Vw adV [] 31 [] fun w hP hQ=>?_
 refine Jf (fun h0=>?_) fun h0=>?_
 rotate_left
 ·refine N ?_;rw[lB (by rintro rfl; exact h0 rfl)]
 refine N ?_;refine Jf (fun h1=>?_) fun h1=>?_
 rotate_left
 ·refine N ?_;rw[lB (by rintro rfl; exact h1 rfl)]
 refine N ?_;refine Jf (fun h2=>?_) fun h2=>?_
 rotate_left
 ·refine N ?_;rw[lB (by rintro rfl; exact h2 rfl)]
 refine N ?_;refine K (abZ a.data b.data A7) ?_;refine Jf (fun h3=>?_) fun h3=>?_
 rotate_left
 ·refine N ?_;rw[lB (by rintro rfl; exact h3 rfl)]
 refine N ?_;refine K (amw a.ents b.ents A7) ?_;refine Jf (fun h4=>?_) fun h4=>?_
 rotate_left
 ·refine N ?_;rw[lB (by rintro rfl; exact h4 rfl)]
 refine N ?_;refine K (aj1 a.attrs b.attrs A7) ?_;refine Jf (fun h5=>?_) fun h5=>?_
 rotate_left
 ·refine N ?_;rw[lB (by rintro rfl; exact h5 rfl)]
 refine N ?_;rw[lC (Inode.eq' h0 h1 h2 h3 h4 h5)]
theorem ahn (a b:List Inode) (hl:szM Inode.sz a<2^40):Sp 274 [.ext 6 (a.map Inode.row),.ext 6 (b.map Inode.row)] (.bool (decide (a=b))) U2:=by
 simp only[szM] at hl;refine Vw abF [] 51 [] fun w hP hQ=>?_
 refine Jf (fun h=>?_) fun h=>?_
 rotate_left
 ·refine N ?_;rw[lB (by rintro rfl; exact h rfl)]
 refine N ?_;refine eE (fun i:Nat=>[(5,.int .i64 i)]) (fun i=>i<=a.length/\a.take i=b.take i) (fun i=>a.length-i) (0) hP hQ (rfl) A8 ?_;rintro i ⟨hi,dt⟩ w1 hP1 hQ1;refine N1 ?_;refine Jf (fun h1=>?_) fun h1=>?_
 ·refine Nz1 (And.intro (aL h1) (aL (h ▸ h1))) ?_;refine K1 (aj2 (a[i]'A7) (b[i]'A7) (lR2 (l5 Inode.sz _) A7)) ?_;refine Jf (fun h2=>?_) fun h2=>?_
  ·refine N1 ?_;exact⟨i+1,rfl,⟨by omega,eL dt _ _ h2⟩,by omega⟩
  ·refine N1 ?_;rw[lB (by rintro rfl; exact h2 rfl)]
 ·refine N1 ?_;rw[lC (nY dt A7 A7)]
theorem aoR (a b:Tab) (hl:a.sz<2^40):Sp 228 [a.x,b.x] (.bool (decide (a=b))) U2:=by
 simp only[Tab.sz] at hl;refine Vw ajv [] 31 [] fun w hP hQ=>?_
 refine K (ahn a.inodes b.inodes A7) ?_;refine Jf (fun h0=>?_) fun h0=>?_
 rotate_left
 ·refine N ?_;rw[lB (by rintro rfl; exact h0 rfl)]
 refine N ?_;refine Jf (fun h1=>?_) fun h1=>?_
 rotate_left
 ·refine N ?_;rw[lB (by rintro rfl; exact h1 rfl)]
 refine N ?_;rw[lC (Tab.eq' h0 h1)]
theorem aoS (a b:Vol) (hl:a.sz<2^40):Sp 159 [a.x,b.x] (.bool (decide (a=b))) U2:=by
 simp only[Vol.sz] at hl;refine Vw ajp [] 31 [] fun w hP hQ=>?_
 refine Jf (fun h0=>?_) fun h0=>?_
 rotate_left
 ·refine N ?_;rw[lB (by rintro rfl; exact h0 rfl)]
 refine N ?_;refine Jf (fun h1=>?_) fun h1=>?_
 rotate_left
 ·refine N ?_;rw[lB (by rintro rfl; exact h1 rfl)]
 refine N ?_;refine Jf (fun h2=>?_) fun h2=>?_
 rotate_left
 ·refine N ?_;rw[lB (by rintro rfl; exact h2 rfl)]
 refine N ?_;refine Jf (fun h3=>?_) fun h3=>?_
 rotate_left
 ·refine N ?_;rw[lB (by rintro rfl; exact h3 rfl)]
 refine N ?_;refine K (aoR a.t b.t A7) ?_;refine Jf (fun h4=>?_) fun h4=>?_
 rotate_left
 ·refine N ?_;rw[lB (by rintro rfl; exact h4 rfl)]
 refine N ?_;rw[lC (Vol.eq' h0 h1 h2 h3 h4)]
theorem amy (a b:List Vol) (hl:szM Vol.sz a<2^40):Sp 92 [.ext 6 (a.map Vol.row),.ext 6 (b.map Vol.row)] (.bool (decide (a=b))) U2:=by
 simp only[szM] at hl;refine Vw agT [] 51 [] fun w hP hQ=>?_
 refine Jf (fun h=>?_) fun h=>?_
 rotate_left
 ·refine N ?_;rw[lB (by rintro rfl; exact h rfl)]
 refine N ?_;refine eE (fun i:Nat=>[(5,.int .i64 i)]) (fun i=>i<=a.length/\a.take i=b.take i) (fun i=>a.length-i) (0) hP hQ (rfl) A8 ?_;rintro i ⟨hi,dt⟩ w1 hP1 hQ1;refine N1 ?_;refine Jf (fun h1=>?_) fun h1=>?_
 ·refine Nz1 (And.intro (aL h1) (aL (h ▸ h1))) ?_;refine K1 (aoS (a[i]'A7) (b[i]'A7) (lR2 (l5 Vol.sz _) A7)) ?_;refine Jf (fun h2=>?_) fun h2=>?_
  ·refine N1 ?_;exact⟨i+1,rfl,⟨by omega,eL dt _ _ h2⟩,by omega⟩
  ·refine N1 ?_;rw[lB (by rintro rfl; exact h2 rfl)]
 ·refine N1 ?_;rw[lC (nY dt A7 A7)]
theorem aqc (a b:Fs) (hl:a.sz<2^40):Sp 29 [a.x,b.x] (.bool (decide (a=b))) U2:=by
 simp only[Fs.sz] at hl;refine Vw amg [] 31 [] fun w hP hQ=>?_
 refine K (amy a.vols b.vols A7) ?_;refine Jf (fun h0=>?_) fun h0=>?_
 rotate_left
 ·refine N ?_;rw[lB (by rintro rfl; exact h0 rfl)]
 refine N ?_;refine Jf (fun h1=>?_) fun h1=>?_
 rotate_left
 ·refine N ?_;rw[lB (by rintro rfl; exact h1 rfl)]
 refine N ?_;rw[lC (Fs.eq' h0 h1)]
theorem aqd (a b:Op) (hl:a.sz<2^40):Sp 30 [a.x,b.x] (.bool (decide (a=b))) U2:=by
 simp only[Op.sz] at hl;refine Vw amh [] 31 [] fun w hP hQ=>?_
 refine Jf (fun h0=>?_) fun h0=>?_
 rotate_left
 ·refine N ?_;rw[lB (by rintro rfl; exact h0 rfl)]
 refine N ?_;refine Jf (fun h1=>?_) fun h1=>?_
 rotate_left
 ·refine N ?_;rw[lB (by rintro rfl; exact h1 rfl)]
 refine N ?_;refine Jf (fun h2=>?_) fun h2=>?_
 rotate_left
 ·refine N ?_;rw[lB (by rintro rfl; exact h2 rfl)]
 refine N ?_;refine Jf (fun h3=>?_) fun h3=>?_
 rotate_left
 ·refine N ?_;rw[lB (by rintro rfl; exact h3 rfl)]
 refine N ?_;refine Jf (fun h4=>?_) fun h4=>?_
 rotate_left
 ·refine N ?_;rw[lB (by rintro rfl; exact h4 rfl)]
 refine N ?_;refine K (abZ a.data b.data A7) ?_;refine Jf (fun h5=>?_) fun h5=>?_
 rotate_left
 ·refine N ?_;rw[lB (by rintro rfl; exact h5 rfl)]
 refine N ?_;rw[lC (Op.eq' h0 h1 h2 h3 h4 h5)]
theorem aoT (a:Ent) (hl:a.sz<2^40):Sp 316 [a.x] a.o U1:=by
 simp only[Ent.sz] at hl;refine U ajA [] 15 [] fun w hP hQ=>?_
 exact N trivial
theorem amz (a:List Ent) (hl:szM Ent.sz a<2^40):Sp 303 [.ext 2 (a.map Ent.row)] (.own 2 (a.map Ent.row)) U1:=by
 simp only[szM] at hl;refine Vw ag4 [] 29 [] fun w hP hQ=>?_
 refine eE (fun i:Nat=>[(3,.own 2 (rB Ent.row Ent.zero a i)),(4,.int .i64 i)]) (fun i=>i<=a.length) (fun i=>a.length-i) (0) hP hQ (by simp +decide (maxSteps:=9^9) (disch:=omega) only[↓SB0,SX,seval,hQ,u7]; rfl) A7 ?_;rintro i hi w1 hP1 hQ1;refine N1 ?_;refine Jf (fun h1=>?_) fun h1=>?_
 ·refine Nz1 (aL h1) ?_;refine K1 (aoT (a[i]'A7) (lR2 (l5 Ent.sz _) A7)) ?_;rw[m7 _ _ _ _ A7 _ (by rfl)];exact⟨i+1,rfl,by omega,by omega⟩
 ·simp +decide (maxSteps:=9^9) (disch:=omega) only[↓SB0,SX,seval,hQ,hQ1,m6]
theorem amA (a:Attr) (hl:a.sz<2^40):Sp 317 [a.x] a.o U1:=by
 simp only[Attr.sz] at hl;refine U ag7 [] 15 [] fun w hP hQ=>?_
 exact N trivial
theorem aj3 (a:List Attr) (hl:szM Attr.sz a<2^40):Sp 304 [.ext 2 (a.map Attr.row)] (.own 2 (a.map Attr.row)) U1:=by
 simp only[szM] at hl;refine Vw adX [] 29 [] fun w hP hQ=>?_
 refine eE (fun i:Nat=>[(3,.own 2 (rB Attr.row Attr.zero a i)),(4,.int .i64 i)]) (fun i=>i<=a.length) (fun i=>a.length-i) (0) hP hQ (by simp +decide (maxSteps:=9^9) (disch:=omega) only[↓SB0,SX,seval,hQ,u7]; rfl) A7 ?_;rintro i hi w1 hP1 hQ1;refine N1 ?_;refine Jf (fun h1=>?_) fun h1=>?_
 ·refine Nz1 (aL h1) ?_;refine K1 (amA (a[i]'A7) (lR2 (l5 Attr.sz _) A7)) ?_;rw[m7 _ _ _ _ A7 _ (by rfl)];exact⟨i+1,rfl,by omega,by omega⟩
 ·simp +decide (maxSteps:=9^9) (disch:=omega) only[↓SB0,SX,seval,hQ,hQ1,m6]
theorem aj4 (a:Inode) (hl:a.sz<2^40):Sp 291 [a.x] a.o U1:=by
 simp only[Inode.sz] at hl;refine Vw adU [] 15 [] fun w hP hQ=>?_
 refine K (ab0 a.data A7) ?_;refine K (amz a.ents A7) ?_;exact K (aj3 a.attrs A7) trivial
theorem aho (a:List Inode) (hl:szM Inode.sz a<2^40):Sp 268 [.ext 6 (a.map Inode.row)] (.own 6 (a.map Inode.row)) U1:=by
 simp only[szM] at hl;refine Vw abE [] 29 [] fun w hP hQ=>?_
 refine eE (fun i:Nat=>[(3,.own 6 (rB Inode.row Inode.zero a i)),(4,.int .i64 i)]) (fun i=>i<=a.length) (fun i=>a.length-i) (0) hP hQ (by simp +decide (maxSteps:=9^9) (disch:=omega) only[↓SB0,SX,seval,hQ,u7]; rfl) A7 ?_;rintro i hi w1 hP1 hQ1;refine N1 ?_;refine Jf (fun h1=>?_) fun h1=>?_
 ·refine Nz1 (aL h1) ?_;refine K1 (aj4 (a[i]'A7) (lR2 (l5 Inode.sz _) A7)) ?_;rw[m7 _ _ _ _ A7 _ (by rfl)];exact⟨i+1,rfl,by omega,by omega⟩
 ·simp +decide (maxSteps:=9^9) (disch:=omega) only[↓SB0,SX,seval,hQ,hQ1,m6]
theorem aoU (a:Tab) (hl:a.sz<2^40):Sp 222 [a.x] a.o U1:=by
 simp only[Tab.sz] at hl;refine Vw ajt [] 15 [] fun w hP hQ=>?_
 exact K (aho a.inodes A7) trivial
theorem aoV (a:Vol) (hl:a.sz<2^40):Sp 151 [a.x] a.o U1:=by
 simp only[Vol.sz] at hl;refine Vw ajo [] 15 [] fun w hP hQ=>?_
 exact K (aoU a.t A7) trivial
theorem amB (a:List Vol) (hl:szM Vol.sz a<2^40):Sp 88 [.ext 6 (a.map Vol.row)] (.own 6 (a.map Vol.row)) U1:=by
 simp only[szM] at hl;refine Vw agR [] 29 [] fun w hP hQ=>?_
 refine eE (fun i:Nat=>[(3,.own 6 (rB Vol.row Vol.zero a i)),(4,.int .i64 i)]) (fun i=>i<=a.length) (fun i=>a.length-i) (0) hP hQ (by simp +decide (maxSteps:=9^9) (disch:=omega) only[↓SB0,SX,seval,hQ,u7]; rfl) A7 ?_;rintro i hi w1 hP1 hQ1;refine N1 ?_;refine Jf (fun h1=>?_) fun h1=>?_
 ·refine Nz1 (aL h1) ?_;refine K1 (aoV (a[i]'A7) (lR2 (l5 Vol.sz _) A7)) ?_;rw[m7 _ _ _ _ A7 _ (by rfl)];exact⟨i+1,rfl,by omega,by omega⟩
 ·simp +decide (maxSteps:=9^9) (disch:=omega) only[↓SB0,SX,seval,hQ,hQ1,m6]
theorem afC (a:Fs) (hl:a.sz<2^40):Sp 26 [a.x] a.o U1:=by
 simp only[Fs.sz] at hl;refine Vw ame [] 15 [] fun w hP hQ=>?_
 exact K (amB a.vols A7) trivial
theorem afD (a:Op) (hl:a.sz<2^40):Sp 27 [a.x] a.o U1:=by
 simp only[Op.sz] at hl;refine Vw amf [] 15 [] fun w hP hQ=>?_
 exact K (ab0 a.data A7) trivial
theorem aj5 (a:Ent) (left:Int) (hf:a.fine) (h0:0<=left) (hl:left<2^40) :
  Sp 314 [a.x,.int .i64 left] (.int .i64 (szC left a.sz)) U2:=by
 have ar:a.sz=a.name.length:=rfl;simp only[Ent.fine] at hf;have et:=hf;refine Vw ajz [] 23 [] fun w hP hQ=>?_
 refine Jf (fun g0=>?_) fun g0=>?_
 ·refine N ?_;rw[b7 A7]
 refine N ?_;rw[dI A7];simp only[ar,lY2,lN4,lC3]
theorem afE (a:List Ent) (left:Int) (hf:a.length<2^48) (hf':∀ x ∈ a,x.fine) (h0:0<=left) (hl:left<2^40) :
  Sp 301 [.ext 2 (a.map Ent.row),.int .i64 left] (.int .i64 (szC left (szM Ent.sz a))) U2:=by
 have ar:szM Ent.sz a=a.length+(a.map Ent.sz).sum:=rfl;refine Vw ag3 [] 51 [] fun w hP hQ=>?_
 refine Jf (fun h=>?_) fun h=>?_
 ·refine N ?_;rw[b7 A7]
 refine N ?_;refine eE (fun s:Nat × Int=>[(1,.int .i64 s.2),(5,.int .i64 s.1)]) (fun s=>s.1<=a.length/\0<=s.2/\s.2=left-a.length-((a.take s.1).map Ent.sz).sum) (fun s=>a.length-s.1) ((0,left-a.length)) hP hQ (rfl) B0 ?_;rintro⟨i,c⟩ ⟨hi,h0',hc⟩ w1 hP1 hQ1;refine N1 ?_;simp only at hi h0' hc;refine Jf (fun h1=>?_) fun h1=>?_
 ·have hs:=cR Ent.sz a i A7;have hs':=aX Ent.sz a (i+1);refine Nz1 (aL h1) ?_;by_cases g:c<((a[i].sz:Nat):Int)
  ·refine Kz1 (b7 g) (aj5 a[i] c (hf' _ (lI _)) A7 A7) ?_;rw[b7 A7]
  ·refine Kz1 (dI g) (aj5 a[i] c (hf' _ (lI _)) A7 A7) ?_;refine Jf (fun k=>?_) fun k=>?_
   ·exfalso; omega
   refine N1 ?_;exact⟨(i+1,c-a[i].sz),rfl,⟨by simp only; omega,by simp only; omega,by simp only; omega⟩,by simp only; omega⟩
 ·obtain rfl:i=a.length:=by omega
  rw[lX] at hc;refine N1 ?_;rw[dI A7];simp only[ar,hc,lY2,lN4,lC3]
theorem afF (a:Attr) (left:Int) (hf:a.fine) (h0:0<=left) (hl:left<2^40) :
  Sp 315 [a.x,.int .i64 left] (.int .i64 (szC left a.sz)) U2:=by
 have ar:a.sz=a.name.length+a.val.length:=rfl;simp only[Attr.fine] at hf;obtain⟨et,jc⟩:=hf;refine Vw ag6 [] 23 [] fun w hP hQ=>?_
 refine Jf (fun g0=>?_) fun g0=>?_
 ·refine N ?_;rw[b7 A7]
 refine N ?_;refine Jf (fun g1=>?_) fun g1=>?_
 ·refine N ?_;rw[b7 A7]
 refine N ?_;rw[dI A7];simp only[ar,lY2,lN4,lC3]
theorem ab1 (a:List Attr) (left:Int) (hf:a.length<2^48) (hf':∀ x ∈ a,x.fine) (h0:0<=left) (hl:left<2^40) :
  Sp 302 [.ext 2 (a.map Attr.row),.int .i64 left] (.int .i64 (szC left (szM Attr.sz a))) U2:=by
 have ar:szM Attr.sz a=a.length+(a.map Attr.sz).sum:=rfl;refine Vw adW [] 51 [] fun w hP hQ=>?_
 refine Jf (fun h=>?_) fun h=>?_
 ·refine N ?_;rw[b7 A7]
 refine N ?_;refine eE (fun s:Nat × Int=>[(1,.int .i64 s.2),(5,.int .i64 s.1)]) (fun s=>s.1<=a.length/\0<=s.2/\s.2=left-a.length-((a.take s.1).map Attr.sz).sum) (fun s=>a.length-s.1) ((0,left-a.length)) hP hQ (rfl) B0 ?_;rintro⟨i,c⟩ ⟨hi,h0',hc⟩ w1 hP1 hQ1;refine N1 ?_;simp only at hi h0' hc;refine Jf (fun h1=>?_) fun h1=>?_
 ·have hs:=cR Attr.sz a i A7;have hs':=aX Attr.sz a (i+1);refine Nz1 (aL h1) ?_;by_cases g:c<((a[i].sz:Nat):Int)
  ·refine Kz1 (b7 g) (afF a[i] c (hf' _ (lI _)) A7 A7) ?_;rw[b7 A7]
  ·refine Kz1 (dI g) (afF a[i] c (hf' _ (lI _)) A7 A7) ?_;refine Jf (fun k=>?_) fun k=>?_
   ·exfalso; omega
   refine N1 ?_;exact⟨(i+1,c-a[i].sz),rfl,⟨by simp only; omega,by simp only; omega,by simp only; omega⟩,by simp only; omega⟩
 ·obtain rfl:i=a.length:=by omega
  rw[lX] at hc;refine N1 ?_;rw[dI A7];simp only[ar,hc,lY2,lN4,lC3]
theorem ab2 (a:Inode) (left:Int) (hf:a.fine) (h0:0<=left) (hl:left<2^40) :
  Sp 286 [a.x,.int .i64 left] (.int .i64 (szC left a.sz)) U2:=by
 have ar:a.sz=a.data.length+szM Ent.sz a.ents+szM Attr.sz a.attrs:=rfl;simp only[Inode.fine] at hf;obtain⟨et,jc,ic⟩:=hf;refine Vw adT [] 23 [] fun w hP hQ=>?_
 by_cases g0:left<((a.data.length:Nat):Int)
 ·refine Kz (b7 g0) (qB a.data (left) et A7 A7) ?_;rw[b7 A7]
 refine Kz (dI g0) (qB a.data (left) et A7 A7) ?_;refine Jf (fun k0=>?_) fun k0=>?_
 ·exfalso; omega
 refine N ?_;by_cases g1:left-((a.data.length:Nat):Int)<((szM Ent.sz a.ents:Nat):Int)
 ·refine Kz (b7 g1) (afE a.ents (left-((a.data.length:Nat):Int)) jc.1 jc.2 A7 A7) ?_;rw[b7 A7]
 refine Kz (dI g1) (afE a.ents (left-((a.data.length:Nat):Int)) jc.1 jc.2 A7 A7) ?_;refine Jf (fun k1=>?_) fun k1=>?_
 ·exfalso; omega
 refine N ?_;by_cases g2:left-((a.data.length:Nat):Int)-((szM Ent.sz a.ents:Nat):Int)<((szM Attr.sz a.attrs:Nat):Int)
 ·refine Kz (b7 g2) (ab1 a.attrs (left-((a.data.length:Nat):Int)-((szM Ent.sz a.ents:Nat):Int)) ic.1 ic.2 A7 A7) ?_;rw[b7 A7]
 refine Kz (dI g2) (ab1 a.attrs (left-((a.data.length:Nat):Int)-((szM Ent.sz a.ents:Nat):Int)) ic.1 ic.2 A7 A7) ?_;refine Jf (fun k2=>?_) fun k2=>?_
 ·exfalso; omega
 refine N ?_;rw[dI A7];simp only[ar,lY2,lN4,lC3]
theorem x8 (a:List Inode) (left:Int) (hf:a.length<2^48) (hf':∀ x ∈ a,x.fine) (h0:0<=left) (hl:left<2^40) :
  Sp 254 [.ext 6 (a.map Inode.row),.int .i64 left] (.int .i64 (szC left (szM Inode.sz a))) U2:=by
 have ar:szM Inode.sz a=a.length+(a.map Inode.sz).sum:=rfl;refine Vw abD [] 51 [] fun w hP hQ=>?_
 refine Jf (fun h=>?_) fun h=>?_
 ·refine N ?_;rw[b7 A7]
 refine N ?_;refine eE (fun s:Nat × Int=>[(1,.int .i64 s.2),(5,.int .i64 s.1)]) (fun s=>s.1<=a.length/\0<=s.2/\s.2=left-a.length-((a.take s.1).map Inode.sz).sum) (fun s=>a.length-s.1) ((0,left-a.length)) hP hQ (rfl) B0 ?_;rintro⟨i,c⟩ ⟨hi,h0',hc⟩ w1 hP1 hQ1;refine N1 ?_;simp only at hi h0' hc;refine Jf (fun h1=>?_) fun h1=>?_
 ·have hs:=cR Inode.sz a i A7;have hs':=aX Inode.sz a (i+1);refine Nz1 (aL h1) ?_;by_cases g:c<((a[i].sz:Nat):Int)
  ·refine Kz1 (b7 g) (ab2 a[i] c (hf' _ (lI _)) A7 A7) ?_;rw[b7 A7]
  ·refine Kz1 (dI g) (ab2 a[i] c (hf' _ (lI _)) A7 A7) ?_;refine Jf (fun k=>?_) fun k=>?_
   ·exfalso; omega
   refine N1 ?_;exact⟨(i+1,c-a[i].sz),rfl,⟨by simp only; omega,by simp only; omega,by simp only; omega⟩,by simp only; omega⟩
 ·obtain rfl:i=a.length:=by omega
  rw[lX] at hc;refine N1 ?_;rw[dI A7];simp only[ar,hc,lY2,lN4,lC3]
theorem aj6 (a:Tab) (left:Int) (hf:a.fine) (h0:0<=left) (hl:left<2^40) :
  Sp 211 [a.x,.int .i64 left] (.int .i64 (szC left a.sz)) U2:=by
 have ar:a.sz=szM Inode.sz a.inodes:=rfl;simp only[Tab.fine] at hf;have et:=hf;refine Vw ajs [] 23 [] fun w hP hQ=>?_
 by_cases g0:left<((szM Inode.sz a.inodes:Nat):Int)
 ·refine Kz (b7 g0) (x8 a.inodes (left) et.1 et.2 A7 A7) ?_;rw[b7 A7]
 refine Kz (dI g0) (x8 a.inodes (left) et.1 et.2 A7 A7) ?_;refine Jf (fun k0=>?_) fun k0=>?_
 ·exfalso; omega
 refine N ?_;rw[dI A7];simp only[ar,lY2,lN4,lC3]
theorem aj7 (a:Vol) (left:Int) (hf:a.fine) (h0:0<=left) (hl:left<2^40) :
  Sp 142 [a.x,.int .i64 left] (.int .i64 (szC left a.sz)) U2:=by
 have ar:a.sz=a.name.length+a.t.sz:=rfl;simp only[Vol.fine] at hf;obtain⟨et,jc⟩:=hf;refine Vw ajm [] 23 [] fun w hP hQ=>?_
 refine Jf (fun g0=>?_) fun g0=>?_
 ·refine N ?_;rw[b7 A7]
 refine N ?_;by_cases g1:left-((a.name.length:Nat):Int)<((a.t.sz:Nat):Int)
 ·refine Kz (b7 g1) (aj6 a.t (left-((a.name.length:Nat):Int)) jc A7 A7) ?_;rw[b7 A7]
 refine Kz (dI g1) (aj6 a.t (left-((a.name.length:Nat):Int)) jc A7 A7) ?_;refine Jf (fun k1=>?_) fun k1=>?_
 ·exfalso; omega
 refine N ?_;rw[dI A7];simp only[ar,lY2,lN4,lC3]
theorem afG (a:List Vol) (left:Int) (hf:a.length<2^48) (hf':∀ x ∈ a,x.fine) (h0:0<=left) (hl:left<2^40) :
  Sp 78 [.ext 6 (a.map Vol.row),.int .i64 left] (.int .i64 (szC left (szM Vol.sz a))) U2:=by
 have ar:szM Vol.sz a=a.length+(a.map Vol.sz).sum:=rfl;refine Vw agP [] 51 [] fun w hP hQ=>?_
 refine Jf (fun h=>?_) fun h=>?_
 ·refine N ?_;rw[b7 A7]
 refine N ?_;refine eE (fun s:Nat × Int=>[(1,.int .i64 s.2),(5,.int .i64 s.1)]) (fun s=>s.1<=a.length/\0<=s.2/\s.2=left-a.length-((a.take s.1).map Vol.sz).sum) (fun s=>a.length-s.1) ((0,left-a.length)) hP hQ (rfl) B0 ?_;rintro⟨i,c⟩ ⟨hi,h0',hc⟩ w1 hP1 hQ1;refine N1 ?_;simp only at hi h0' hc;refine Jf (fun h1=>?_) fun h1=>?_
 ·have hs:=cR Vol.sz a i A7;have hs':=aX Vol.sz a (i+1);refine Nz1 (aL h1) ?_;by_cases g:c<((a[i].sz:Nat):Int)
  ·refine Kz1 (b7 g) (aj7 a[i] c (hf' _ (lI _)) A7 A7) ?_;rw[b7 A7]
  ·refine Kz1 (dI g) (aj7 a[i] c (hf' _ (lI _)) A7 A7) ?_;refine Jf (fun k=>?_) fun k=>?_
   ·exfalso; omega
   refine N1 ?_;exact⟨(i+1,c-a[i].sz),rfl,⟨by simp only; omega,by simp only; omega,by simp only; omega⟩,by simp only; omega⟩
 ·obtain rfl:i=a.length:=by omega
  rw[lX] at hc;refine N1 ?_;rw[dI A7];simp only[ar,hc,lY2,lN4,lC3]
theorem aj8 (a:Fs) (left:Int) (hf:a.fine) (h0:0<=left) (hl:left<2^40) :
  Sp 23 [a.x,.int .i64 left] (.int .i64 (szC left a.sz)) U2:=by
 have ar:a.sz=szM Vol.sz a.vols:=rfl;simp only[Fs.fine] at hf;have et:=hf;refine Vw amc [] 23 [] fun w hP hQ=>?_
 by_cases g0:left<((szM Vol.sz a.vols:Nat):Int)
 ·refine Kz (b7 g0) (afG a.vols (left) et.1 et.2 A7 A7) ?_;rw[b7 A7]
 refine Kz (dI g0) (afG a.vols (left) et.1 et.2 A7 A7) ?_;refine Jf (fun k0=>?_) fun k0=>?_
 ·exfalso; omega
 refine N ?_;rw[dI A7];simp only[ar,lY2,lN4,lC3]
theorem anB (a:Op) (left:Int) (hf:a.fine) (h0:0<=left) (hl:left<2^40) :
  Sp 24 [a.x,.int .i64 left] (.int .i64 (szC left a.sz)) U2:=by
 have ar:a.sz=a.path.length+a.to'.length+a.data.length:=rfl;simp only[Op.fine] at hf;obtain⟨et,jc,ic⟩:=hf;refine Vw amd [] 23 [] fun w hP hQ=>?_
 refine Jf (fun g0=>?_) fun g0=>?_
 ·refine N ?_;rw[b7 A7]
 refine N ?_;refine Jf (fun g1=>?_) fun g1=>?_
 ·refine N ?_;rw[b7 A7]
 refine N ?_;by_cases g2:left-((a.path.length:Nat):Int)-((a.to'.length:Nat):Int)<((a.data.length:Nat):Int)
 ·refine Kz (b7 g2) (qB a.data (left-((a.path.length:Nat):Int)-((a.to'.length:Nat):Int)) ic A7 A7) ?_;rw[b7 A7]
 refine Kz (dI g2) (qB a.data (left-((a.path.length:Nat):Int)-((a.to'.length:Nat):Int)) ic A7 A7) ?_;refine Jf (fun k2=>?_) fun k2=>?_
 ·exfalso; omega
 refine N ?_;rw[dI A7];simp only[ar,lY2,lN4,lC3]
theorem anC:ak4 0=[]:=by rw[ak4]; simp
theorem afH {n:Nat} (h:0<n):ak4 n=ak4 (n/10)++[UInt8.ofNat (48+n%10)]:=by rw[ak4,dif_neg A7]
theorem amC (n:Nat):(ak4 n).length<=n:=by
 induction n using Nat.strongRecOn with
 | _ n ih=>
  by_cases h:n=0
  ·subst h; rw[anC]; simp
  ·rw[afH A7,lU];have:=ih (n/10) A7;simp only[lZ,List.length_nil]; omega
theorem rb2 (m:Nat):cZ [[.int .u8 (48+((m%10:Nat):Int))]]=some [UInt8.ofNat (48+m%10)]:=by
 have:(48+((m%10:Nat):Int)).toNat=48+m%10:=by omega
 simp only[cZ,qP,this,lE,lD]
theorem cW (k:Int) (h0:0<=k) (hl:k<2^40):Sp 160 [.int .i64 k] (.str (jO k)) U1:=by
 obtain⟨n,rfl⟩:∃ n:Nat,k=n:=⟨k.toNat,by omega⟩
 have hn:n<2^40:=by omega
 refine Vw abx [] 13 [] fun w hP hQ=>?_
 refine Jf (fun h=>?_) fun h=>?_
 ·have:n=0:=by omega
  subst this;refine N ?_;rfl
 ·refine N ?_;refine fB [] ?_;refine N ?_;refine aN [] (fun s:Nat × aA=>[(0,.int .i64 s.1),(3,.str s.2)]) (fun s=>ak4 n=ak4 s.1++s.2/\s.1<2^40) (fun s=>s.1) ((n,[])) hP hQ (rfl) (by simp; exact hn) ?_;rintro⟨m,s⟩ ⟨hd,hm⟩ w1 hP1 hQ1;refine N1 ?_;simp only at hd hm;have ac:s.length<=n:=by
   have:=amC n;rw[hd,lU] at this;omega
  refine Jf (fun h1=>?_) fun h1=>?_
  ·have e1:((m:Int).tmod 10)=((m%10:Nat):Int):=rfl;have e2:((m:Int).tdiv 10)=((m/10:Nat):Int):=rfl;refine Nz1 (And.intro e1 (And.intro e2 rb2)) ?_;exact⟨(m/10,UInt8.ofNat (48+m%10)::s),rfl,⟨by rw[hd,afH A7]; simp,by simp only; omega⟩,by simp only; omega⟩
  ·obtain rfl:m=0:=by omega
   rw[anC,lI1] at hd;refine N1 ?_;rw[jO,lO A7,Int.toNat_natCast,hd]
theorem ahp (a:List Ent) (k:Int) (h0:0<=k) (hl:k+(fH Ent.cnt a:Nat)<2^40):Sp 229 [.own 2 (a.map Ent.row),.int .i64 k] (.int .i64 (k+(fH Ent.cnt a:Nat))) [.own 2 ((eR Ent.marked Ent.cnt a k).map Ent.row),.undef]:=by
 simp only[fH] at hl;have ac:=m8 Ent.cnt Ent.cnt1 a;refine Vw abA [] 51 [true,false] fun w hP hQ=>?_
 refine eE (fun s:Nat × Int=>[(1000,.own 2 (ad0 Ent.row Ent.marked Ent.cnt a k s.1)),(1,.int .i64 s.2),(5,.int .i64 s.1)]) (fun s=>s.1<=a.length/\s.2=k+((a.take s.1).map Ent.cnt).sum) (fun s=>a.length-s.1) ((0,k)) hP hQ (by simp +decide (maxSteps:=9^9) (disch:=omega) only[↓SB0,SX,seval,hQ,abK]) A8 ?_;rintro⟨i,c⟩ ⟨hi,hc⟩ w1 hP1 hQ1;refine N1 ?_;simp only at hi hc;refine Jf (fun h1=>?_) fun h1=>?_
 ·have hs:=cR Ent.cnt a i A7;have hs':=aX Ent.cnt a (i+1);have hn:a[i].cnt=1+1:=rfl;refine Nz1 (aL h1) ?_;refine Kz1 (aL h1) (cW (c) A7 A7) ?_;rw[pZ _ _ _ _ _ _ A7 _ (by subst hc; rfl)];exact⟨(i+1,c+1+1),rfl,⟨by simp only; omega,by simp only; omega⟩,by simp only; omega⟩
 ·obtain rfl:i=a.length:=by omega
  rw[lX] at hc;simp +decide (maxSteps:=9^9) (disch:=omega) only[↓SB0,SX,seval,hQ,hQ1,pY,hc,fH]
theorem aei (a:List Attr) (k:Int) (h0:0<=k) (hl:k+(fH Attr.cnt a:Nat)<2^40):Sp 230 [.own 2 (a.map Attr.row),.int .i64 k] (.int .i64 (k+(fH Attr.cnt a:Nat))) [.own 2 ((eR Attr.marked Attr.cnt a k).map Attr.row),.undef]:=by
 simp only[fH] at hl;have ac:=m8 Attr.cnt Attr.cnt1 a;refine Vw z7 [] 51 [true,false] fun w hP hQ=>?_
 refine eE (fun s:Nat × Int=>[(1000,.own 2 (ad0 Attr.row Attr.marked Attr.cnt a k s.1)),(1,.int .i64 s.2),(5,.int .i64 s.1)]) (fun s=>s.1<=a.length/\s.2=k+((a.take s.1).map Attr.cnt).sum) (fun s=>a.length-s.1) ((0,k)) hP hQ (by simp +decide (maxSteps:=9^9) (disch:=omega) only[↓SB0,SX,seval,hQ,abK]) A8 ?_;rintro⟨i,c⟩ ⟨hi,hc⟩ w1 hP1 hQ1;refine N1 ?_;simp only at hi hc;refine Jf (fun h1=>?_) fun h1=>?_
 ·have hs:=cR Attr.cnt a i A7;have hs':=aX Attr.cnt a (i+1);have hn:a[i].cnt=1+1:=rfl;refine Nz1 (aL h1) ?_;refine Kz1 (aL h1) (cW (c) A7 A7) ?_;refine Kz1 (aL h1) (cW (c+1) A7 A7) ?_;rw[pZ _ _ _ _ _ _ A7 _ (by subst hc; rfl)];exact⟨(i+1,c+1+1),rfl,⟨by simp only; omega,by simp only; omega⟩,by simp only; omega⟩
 ·obtain rfl:i=a.length:=by omega
  rw[lX] at hc;simp +decide (maxSteps:=9^9) (disch:=omega) only[↓SB0,SX,seval,hQ,hQ1,pY,hc,fH]
theorem ab3 (a:List Inode) (k:Int) (h0:0<=k) (hl:k+(fH Inode.cnt a:Nat)<2^40):Sp 161 [.own 6 (a.map Inode.row),.int .i64 k] (.int .i64 (k+(fH Inode.cnt a:Nat))) [.own 6 ((eR Inode.marked Inode.cnt a k).map Inode.row),.undef]:=by
 simp only[fH] at hl;have ac:=m8 Inode.cnt Inode.cnt1 a;refine Vw wT [(95,[.l,.b],[]),(229,[.l,.b],[]),(230,[.l,.b],[])] 51 [true,false] fun w hP hQ=>?_
 refine eE (fun s:Nat × Int=>[(1000,.own 6 (ad0 Inode.row Inode.marked Inode.cnt a k s.1)),(1,.int .i64 s.2),(5,.int .i64 s.1)]) (fun s=>s.1<=a.length/\s.2=k+((a.take s.1).map Inode.cnt).sum) (fun s=>a.length-s.1) ((0,k)) hP hQ (by simp +decide (maxSteps:=9^9) (disch:=omega) only[↓SB0,SX,seval,hQ,abK]) A8 ?_;rintro⟨i,c⟩ ⟨hi,hc⟩ w1 hP1 hQ1;refine N1 ?_;simp only at hi hc;refine Jf (fun h1=>?_) fun h1=>?_
 ·have hs:=cR Inode.cnt a i A7;have hs':=aX Inode.cnt a (i+1);have hn:a[i].cnt=1+1+1+a[i].data.length+fH Ent.cnt a[i].ents+fH Attr.cnt a[i].attrs:=rfl;refine Nz1 (aL h1) ?_;refine Kz1 (aL h1) (vK a[i].data (c+1+1+1) A7 A7) ?_;refine Kz1 (aL h1) (ahp a[i].ents (c+1+1+1+(a[i].data.length:Nat)) A7 A7) ?_;refine Kz1 (aL h1) (aei a[i].attrs (c+1+1+1+(a[i].data.length:Nat)+(fH Ent.cnt a[i].ents:Nat)) A7 A7) ?_;rw[pZ _ _ _ _ _ _ A7 _ (by subst hc; rfl)];exact⟨(i+1,c+1+1+1+(a[i].data.length:Nat)+(fH Ent.cnt a[i].ents:Nat)+(fH Attr.cnt a[i].attrs:Nat)),rfl,⟨by simp only; omega,by simp only; omega⟩,by simp only; omega⟩
 ·obtain rfl:i=a.length:=by omega
  rw[lX] at hc;simp +decide (maxSteps:=9^9) (disch:=omega) only[↓SB0,SX,seval,hQ,hQ1,pY,hc,fH]
theorem ahq (a:List Vol) (k:Int) (h0:0<=k) (hl:k+(fH Vol.cnt a:Nat)<2^40):Sp 94 [.own 6 (a.map Vol.row),.int .i64 k] (.int .i64 (k+(fH Vol.cnt a:Nat))) [.own 6 ((eR Vol.marked Vol.cnt a k).map Vol.row),.undef]:=by
 simp only[fH] at hl;have ac:=m8 Vol.cnt Vol.cnt1 a;refine Vw abt [(161,[.l,.b],[])] 51 [true,false] fun w hP hQ=>?_
 refine eE (fun s:Nat × Int=>[(1000,.own 6 (ad0 Vol.row Vol.marked Vol.cnt a k s.1)),(1,.int .i64 s.2),(5,.int .i64 s.1)]) (fun s=>s.1<=a.length/\s.2=k+((a.take s.1).map Vol.cnt).sum) (fun s=>a.length-s.1) ((0,k)) hP hQ (by simp +decide (maxSteps:=9^9) (disch:=omega) only[↓SB0,SX,seval,hQ,abK]) A8 ?_;rintro⟨i,c⟩ ⟨hi,hc⟩ w1 hP1 hQ1;refine N1 ?_;simp only at hi hc;refine Jf (fun h1=>?_) fun h1=>?_
 ·have hs:=cR Vol.cnt a i A7;have hs':=aX Vol.cnt a (i+1);have hn:a[i].cnt=1+1+1+1+fH Inode.cnt a[i].t.inodes+1:=rfl;refine Nz1 (aL h1) ?_;refine Kz1 (aL h1) (cW (c+1) A7 A7) ?_;refine Kz1 (aL h1) (ab3 a[i].t.inodes (c+1+1+1+1) A7 A7) ?_;rw[pZ _ _ _ _ _ _ A7 _ (by subst hc; rfl)];exact⟨(i+1,c+1+1+1+1+(fH Inode.cnt a[i].t.inodes:Nat)+1),rfl,⟨by simp only; omega,by simp only; omega⟩,by simp only; omega⟩
 ·obtain rfl:i=a.length:=by omega
  rw[lX] at hc;simp +decide (maxSteps:=9^9) (disch:=omega) only[↓SB0,SX,seval,hQ,hQ1,pY,hc,fH]
theorem afI (a:Fs) (k:Int) (h0:0<=k) (hl:k+(a.cntT:Nat)<2^40):Sp 31 [a.o,.int .i64 k] (.int .i64 (k+(a.cntT:Nat))) [(a.markT k).o,.undef]:=by
 simp only[Fs.cntT] at hl;refine Vw agK [(94,[.l,.b],[])] 23 [true,false] fun w hP hQ=>?_
 refine K (ahq a.vols (k) A7 A7) ?_;exact⟨by simp only[Fs.cntT,lY2,lC3],rfl⟩
theorem amD (a:Op) (k:Int) (h0:0<=k) (hl:k+(a.cntT:Nat)<2^40):Sp 32 [a.o,.int .i64 k] (.int .i64 (k+(a.cntT:Nat))) [(a.markT k).o,.undef]:=by
 simp only[Op.cntT] at hl;refine Vw agL [(95,[.l,.b],[])] 23 [true,false] fun w hP hQ=>?_
 refine K (vK a.data (k) A7 A7) ?_;exact⟨by simp only[Op.cntT,lY2,lC3],rfl⟩
theorem x9 (a:List Ent) (k:Int) (h0:0<=k) (hl:k+(fH Ent.cnt a:Nat)<2^40):Sp 232 [.ext 2 ((eR Ent.marked Ent.cnt a k).map Ent.row),.int .i64 k] (.int .i64 (k+(fH Ent.cnt a:Nat))) U2:=by
 simp only[fH] at hl;have ac:=m8 Ent.cnt Ent.cnt1 a;refine Vw abB [] 51 [] fun w hP hQ=>?_
 refine eE (fun s:Nat × Int=>[(1,.int .i64 s.2),(5,.int .i64 s.1)]) (fun s=>s.1<=a.length/\s.2=k+((a.take s.1).map Ent.cnt).sum) (fun s=>a.length-s.1) ((0,k)) hP hQ (by simp +decide (maxSteps:=9^9) (disch:=omega) only[↓SB0,SX,seval,hQ]) A8 ?_;rintro⟨i,c⟩ ⟨hi,hc⟩ w1 hP1 hQ1;refine N1 ?_;simp only at hi hc;refine Jf (fun h1=>?_) fun h1=>?_
 ·have hs:=cR Ent.cnt a i A7;have hs':=aX Ent.cnt a (i+1);have hn:a[i].cnt=1+1:=rfl;simp +decide (maxSteps:=9^9) (disch:=omega) only[↓SB0,SX,seval,hQ,hQ1,aL h1,<-hc,Ent.marked]
  (first|refine cI hP1 (cW (c) A7 A7) rfl rfl ?_|refine cH hP1 (cW (c) A7 A7) rfl rfl ?_)
  simp +decide (maxSteps:=9^9) (disch:=omega) only[↓SB0,SX,seval,hQ,hQ1,aL h1,<-hc,Ent.marked];exact⟨(i+1,c+1+1),rfl,⟨by simp only; omega,by simp only; omega⟩,by simp only; omega⟩
 ·obtain rfl:i=a.length:=by omega
  rw[lX] at hc;simp +decide (maxSteps:=9^9) (disch:=omega) only[↓SB0,SX,seval,hQ,hQ1,hc,fH]
theorem vM (a:List Attr) (k:Int) (h0:0<=k) (hl:k+(fH Attr.cnt a:Nat)<2^40):Sp 233 [.ext 2 ((eR Attr.marked Attr.cnt a k).map Attr.row),.int .i64 k] (.int .i64 (k+(fH Attr.cnt a:Nat))) U2:=by
 simp only[fH] at hl;have ac:=m8 Attr.cnt Attr.cnt1 a;refine Vw aaa [] 51 [] fun w hP hQ=>?_
 refine eE (fun s:Nat × Int=>[(1,.int .i64 s.2),(5,.int .i64 s.1)]) (fun s=>s.1<=a.length/\s.2=k+((a.take s.1).map Attr.cnt).sum) (fun s=>a.length-s.1) ((0,k)) hP hQ (by simp +decide (maxSteps:=9^9) (disch:=omega) only[↓SB0,SX,seval,hQ]) A8 ?_;rintro⟨i,c⟩ ⟨hi,hc⟩ w1 hP1 hQ1;refine N1 ?_;simp only at hi hc;refine Jf (fun h1=>?_) fun h1=>?_
 ·have hs:=cR Attr.cnt a i A7;have hs':=aX Attr.cnt a (i+1);have hn:a[i].cnt=1+1:=rfl;simp +decide (maxSteps:=9^9) (disch:=omega) only[↓SB0,SX,seval,hQ,hQ1,aL h1,<-hc,Attr.marked]
  (first|refine cI hP1 (cW (c) A7 A7) rfl rfl ?_|refine cH hP1 (cW (c) A7 A7) rfl rfl ?_)
  simp +decide (maxSteps:=9^9) (disch:=omega) only[↓SB0,SX,seval,hQ,hQ1,aL h1,<-hc,Attr.marked]
  (first|refine cI hP1 (cW (c+1) A7 A7) rfl rfl ?_|refine cH hP1 (cW (c+1) A7 A7) rfl rfl ?_)
  simp +decide (maxSteps:=9^9) (disch:=omega) only[↓SB0,SX,seval,hQ,hQ1,aL h1,<-hc,Attr.marked];exact⟨(i+1,c+1+1),rfl,⟨by simp only; omega,by simp only; omega⟩,by simp only; omega⟩
 ·obtain rfl:i=a.length:=by omega
  rw[lX] at hc;simp +decide (maxSteps:=9^9) (disch:=omega) only[↓SB0,SX,seval,hQ,hQ1,hc,fH]
theorem r6 (a:List Inode) (k:Int) (h0:0<=k) (hl:k+(fH Inode.cnt a:Nat)<2^40):Sp 162 [.ext 6 ((eR Inode.marked Inode.cnt a k).map Inode.row),.int .i64 k] (.int .i64 (k+(fH Inode.cnt a:Nat))) U2:=by
 simp only[fH] at hl;have ac:=m8 Inode.cnt Inode.cnt1 a;refine Vw wU [] 51 [] fun w hP hQ=>?_
 refine eE (fun s:Nat × Int=>[(1,.int .i64 s.2),(5,.int .i64 s.1)]) (fun s=>s.1<=a.length/\s.2=k+((a.take s.1).map Inode.cnt).sum) (fun s=>a.length-s.1) ((0,k)) hP hQ (by simp +decide (maxSteps:=9^9) (disch:=omega) only[↓SB0,SX,seval,hQ]) A8 ?_;rintro⟨i,c⟩ ⟨hi,hc⟩ w1 hP1 hQ1;refine N1 ?_;simp only at hi hc;refine Jf (fun h1=>?_) fun h1=>?_
 ·have hs:=cR Inode.cnt a i A7;have hs':=aX Inode.cnt a (i+1);have hn:a[i].cnt=1+1+1+a[i].data.length+fH Ent.cnt a[i].ents+fH Attr.cnt a[i].attrs:=rfl;simp +decide (maxSteps:=9^9) (disch:=omega) only[↓SB0,SX,seval,hQ,hQ1,aL h1,<-hc,Inode.marked]
  (first|refine cI hP1 (vL a[i].data (c+1+1+1) A7 A7) rfl rfl ?_|refine cH hP1 (vL a[i].data (c+1+1+1) A7 A7) rfl rfl ?_)
  simp +decide (maxSteps:=9^9) (disch:=omega) only[↓SB0,SX,seval,hQ,hQ1,aL h1,<-hc,Inode.marked];refine Jf (fun g=>?_) fun g=>?_
  ·exfalso; omega
  simp +decide (maxSteps:=9^9) (disch:=omega) only[↓SB0,SX,seval,hQ,hQ1,aL h1,<-hc,Inode.marked]
  (first|refine cI hP1 (x9 a[i].ents (c+1+1+1+(a[i].data.length:Nat)) A7 A7) rfl rfl ?_|refine cH hP1 (x9 a[i].ents (c+1+1+1+(a[i].data.length:Nat)) A7 A7) rfl rfl ?_)
  simp +decide (maxSteps:=9^9) (disch:=omega) only[↓SB0,SX,seval,hQ,hQ1,aL h1,<-hc,Inode.marked];refine Jf (fun g=>?_) fun g=>?_
  ·exfalso; omega
  simp +decide (maxSteps:=9^9) (disch:=omega) only[↓SB0,SX,seval,hQ,hQ1,aL h1,<-hc,Inode.marked]
  (first|refine cI hP1 (vM a[i].attrs (c+1+1+1+(a[i].data.length:Nat)+(fH Ent.cnt a[i].ents:Nat)) A7 A7) rfl rfl ?_|refine cH hP1 (vM a[i].attrs (c+1+1+1+(a[i].data.length:Nat)+(fH Ent.cnt a[i].ents:Nat)) A7 A7) rfl rfl ?_)
  simp +decide (maxSteps:=9^9) (disch:=omega) only[↓SB0,SX,seval,hQ,hQ1,aL h1,<-hc,Inode.marked];refine Jf (fun g=>?_) fun g=>?_
  ·exfalso; omega
  simp +decide (maxSteps:=9^9) (disch:=omega) only[↓SB0,SX,seval,hQ,hQ1,aL h1,<-hc,Inode.marked];exact⟨(i+1,c+1+1+1+(a[i].data.length:Nat)+(fH Ent.cnt a[i].ents:Nat)+(fH Attr.cnt a[i].attrs:Nat)),rfl,⟨by simp only; omega,by simp only; omega⟩,by simp only; omega⟩
 ·obtain rfl:i=a.length:=by omega
  rw[lX] at hc;simp +decide (maxSteps:=9^9) (disch:=omega) only[↓SB0,SX,seval,hQ,hQ1,hc,fH]
theorem ahr (a:List Vol) (k:Int) (h0:0<=k) (hl:k+(fH Vol.cnt a:Nat)<2^40):Sp 96 [.ext 6 ((eR Vol.marked Vol.cnt a k).map Vol.row),.int .i64 k] (.int .i64 (k+(fH Vol.cnt a:Nat))) U2:=by
 simp only[fH] at hl;have ac:=m8 Vol.cnt Vol.cnt1 a;refine Vw abu [] 51 [] fun w hP hQ=>?_
 refine eE (fun s:Nat × Int=>[(1,.int .i64 s.2),(5,.int .i64 s.1)]) (fun s=>s.1<=a.length/\s.2=k+((a.take s.1).map Vol.cnt).sum) (fun s=>a.length-s.1) ((0,k)) hP hQ (by simp +decide (maxSteps:=9^9) (disch:=omega) only[↓SB0,SX,seval,hQ]) A8 ?_;rintro⟨i,c⟩ ⟨hi,hc⟩ w1 hP1 hQ1;refine N1 ?_;simp only at hi hc;refine Jf (fun h1=>?_) fun h1=>?_
 ·have hs:=cR Vol.cnt a i A7;have hs':=aX Vol.cnt a (i+1);have hn:a[i].cnt=1+1+1+1+fH Inode.cnt a[i].t.inodes+1:=rfl;simp +decide (maxSteps:=9^9) (disch:=omega) only[↓SB0,SX,seval,hQ,hQ1,aL h1,<-hc,Vol.marked]
  (first|refine cI hP1 (cW (c+1) A7 A7) rfl rfl ?_|refine cH hP1 (cW (c+1) A7 A7) rfl rfl ?_)
  simp +decide (maxSteps:=9^9) (disch:=omega) only[↓SB0,SX,seval,hQ,hQ1,aL h1,<-hc,Vol.marked]
  (first|refine cI hP1 (r6 a[i].t.inodes (c+1+1+1+1) A7 A7) rfl rfl ?_|refine cH hP1 (r6 a[i].t.inodes (c+1+1+1+1) A7 A7) rfl rfl ?_)
  simp +decide (maxSteps:=9^9) (disch:=omega) only[↓SB0,SX,seval,hQ,hQ1,aL h1,<-hc,Vol.marked];refine Jf (fun g=>?_) fun g=>?_
  ·exfalso; omega
  simp +decide (maxSteps:=9^9) (disch:=omega) only[↓SB0,SX,seval,hQ,hQ1,aL h1,<-hc,Vol.marked];exact⟨(i+1,c+1+1+1+1+(fH Inode.cnt a[i].t.inodes:Nat)+1),rfl,⟨by simp only; omega,by simp only; omega⟩,by simp only; omega⟩
 ·obtain rfl:i=a.length:=by omega
  rw[lX] at hc;simp +decide (maxSteps:=9^9) (disch:=omega) only[↓SB0,SX,seval,hQ,hQ1,hc,fH]
theorem afJ (a:Fs) (k:Int) (h0:0<=k) (hl:k+(a.cntT:Nat)<2^40):Sp 33 [(a.markT k).x,.int .i64 k] (.int .i64 (k+(a.cntT:Nat))) U2:=by
 simp only[Fs.cntT] at hl;refine Vw agM [] 23 [] fun w hP hQ=>?_
 refine K (ahr a.vols (k) A7 A7) ?_;refine Jf (fun g=>?_) fun g=>?_
 ·exfalso; omega
 refine N ?_;simp only[Fs.cntT,lY2,lC3]
theorem cL (x a b:Int):Sp 131 [.int .i64 x,.int .i64 a,.int .i64 b] (.bool (inR x a b)) U3:=by
 refine Vw afl [] 71 [] fun w hP hQ=>?_
 refine Jg (fun h1=>?_) fun h1=>?_
 ·refine Nz h1 ?_;simp[inR,h1]
 ·refine Nz h1 ?_;simp[inR,h1]
theorem fV (x a b:Int):Sp 99 [.int .i64 x,.int .i64 a,.int .i64 b] (.bool (inR x a b)) U3:=by
 refine Vw amk [] 71 [] fun w hP hQ=>?_
 refine Jg (fun h1=>?_) fun h1=>?_
 ·refine Nz h1 ?_;simp[inR,h1]
 ·refine Nz h1 ?_;simp[inR,h1]
theorem kO (x:Int):Sp 101 [.int .i64 x] (.bool (inR x 32 4000)) U1:=by
 refine Vw adK [] 5 [] fun w hP hQ=>?_
 exact K (fV x 32 4000) trivial
theorem gY {α:Type} {l:List α} {p:α->Bool} {i:Nat} (hk:∀ k,k<i->(h:k<l.length)->p l[k]=false) (h:i<l.length) (hi:p l[i]=true):l.findIdx? p=some i:=by
 rw[lC1];exact⟨h,hi,fun j hj=>by simp[hk j hj A7]⟩
theorem gZ {α:Type} {l:List α} {p:α->Bool} (hk:∀ k,(h:k<l.length)->p l[k]=false):l.findIdx? p=none:=by
 rw[lO2];intro x hx;obtain⟨k,h,rfl⟩:=lM1 hx;exact hk k h
theorem iL {α:Type} {l:List α} {p:α->Bool} {i:Nat} (hk:∀ k,k<i->(h:k<l.length)->p l[k]=false) (h:i<l.length) (hi:p l[i]=false):∀ k,k<i+1->(h:k<l.length)->p l[k]=false:=by
 intro k aa hl;by_cases e:k=i
 ·subst e; exact hi
 ·exact hk k A7 hl
theorem tS (f:Fs) (n:Int) (hl:f.vols.length<2^48):Sp 143 [f.x,.int .i64 n] (.int .i64 (gU (mP f n))) U2:=by
 refine Vw ajn [] 55 [] fun w hP hQ=>?_
 refine fB [4] ?_;refine N ?_;refine aN [4] (fun i:Nat=>[(5,.int .i64 i)]) (fun i=>i<=f.vols.length/\∀ k,k<i->(h:k<f.vols.length)->decide (f.vols[k].id=n)=false) (fun i=>f.vols.length-i) (0) hP hQ (rfl) A8 ?_;rintro i ⟨hi,hk⟩ w1 hP1 hQ1;refine N1 ?_;refine Jf (fun h1=>?_) fun h1=>?_
 ·refine Nz1 (aL h1) ?_;refine Jf (fun h2=>?_) fun h2=>?_
  ·refine N1 ?_;rw[mP,gY (p:=fun v:Vol=>decide (v.id=n)) hk A7 (lC h2)]; rfl
  ·refine N1 ?_;exact⟨i+1,rfl,⟨by omega,iL (p:=fun v:Vol=>decide (v.id=n)) hk A7 (lB h2)⟩,by omega⟩
 ·obtain rfl:i=f.vols.length:=by omega
  refine N1 ?_;rw[mP,gZ (p:=fun v:Vol=>decide (v.id=n)) fun k h=>hk k h h]; rfl
theorem o4 (f:Fs) (n:aA) (hl:f.vols.length<2^48):Sp 212 [f.x,.str n] (.int .i64 (gU (cG f n))) U2:=by
 refine Vw aby [] 55 [] fun w hP hQ=>?_
 refine fB [4] ?_;refine N ?_;refine aN [4] (fun i:Nat=>[(5,.int .i64 i)]) (fun i=>i<=f.vols.length/\∀ k,k<i->(h:k<f.vols.length)->decide (f.vols[k].name=n)=false) (fun i=>f.vols.length-i) (0) hP hQ (rfl) A8 ?_;rintro i ⟨hi,hk⟩ w1 hP1 hQ1;refine N1 ?_;refine Jf (fun h1=>?_) fun h1=>?_
 ·refine Nz1 (aL h1) ?_;refine Jf (fun h2=>?_) fun h2=>?_
  ·refine N1 ?_;rw[cG,gY (p:=fun v:Vol=>decide (v.name=n)) hk A7 (lC h2)]; rfl
  ·refine N1 ?_;exact⟨i+1,rfl,⟨by omega,iL (p:=fun v:Vol=>decide (v.name=n)) hk A7 (lB h2)⟩,by omega⟩
 ·obtain rfl:i=f.vols.length:=by omega
  refine N1 ?_;rw[cG,gZ (p:=fun v:Vol=>decide (v.name=n)) fun k h=>hk k h h]; rfl
theorem nJ {g:Nat} {cs:List TV} {p:Vol->Bool} (hc:∀ v:Vol,mU Tryz.prog g [v.x,.xbox cs] (.bool (p v)) [.undef,.undef]) (l:List Vol) (hl:l.length<2^48) :
  Sp 108 [.ext 6 (l.map Vol.row),.fn g [.xbox cs]] (.int .i64 (gU (l.findIdx? p))) U2:=by
 refine Vw q0 [] 435 [] fun w hP hQ=>?_
 refine fB [4,5] ?_;refine N ?_;refine aN [4,5] (fun i:Nat=>[(8,.int .i64 i)]) (fun i=>i<=l.length/\∀ k,k<i->(h:k<l.length)->p l[k]=false) (fun i=>l.length-i) (0) hP hQ (rfl) A8 ?_;rintro i ⟨hi,hk⟩ w1 hP1 hQ1;refine N1 ?_;refine Jf (fun h1=>?_) fun h1=>?_
 ·refine Nz1 (aL h1) ?_;cases h2:p (l[i]'A7) with
  | true=>
   refine Kz1 h2 (hc (l[i]'A7)) ?_;rw[gY hk A7 h2]; rfl
  | false=>
   refine Kz1 h2 (hc (l[i]'A7)) ?_;exact⟨i+1,rfl,⟨by omega,iL hk A7 h2⟩,by omega⟩
 ·obtain rfl:i=l.length:=by omega
  refine N1 ?_;rw[gZ fun k h=>hk k h h]; rfl
theorem ahs (v:Vol) (n:Int):Sp 109 [v.x,.xbox [.int .i64 n]] (.bool (decide (v.id=n))) U2:=by
 refine U adL [] 15 [] fun w hP hQ=>?_
 exact N trivial
theorem aaj (v:Vol) (n:aA):Sp 163 [v.x,.xbox [.str n]] (.bool (decide (v.name=n))) U2:=by
 refine U wV [] 15 [] fun w hP hQ=>?_
 exact N trivial
theorem tT (f:Fs) (n:Int) (hl:f.vols.length<2^48):Sp 46 [f.x,.int .i64 n] (.int .i64 (gU (mP f n))) U2:=by
 refine Vw ajh [] 31 [] fun w hP hQ=>?_
 refine K (nJ (fun v=>ahs v n) f.vols hl) ?_;rfl
theorem mB (f:Fs) (n:aA) (hl:f.vols.length<2^48):Sp 100 [f.x,.str n] (.int .i64 (gU (cG f n))) U2:=by
 refine Vw abv [] 31 [] fun w hP hQ=>?_
 refine K (nJ (fun v=>aaj v n) f.vols hl) ?_;rfl
theorem afK {x a b:Int} (h:inR x a b=false):¬ (a<=x/\x<=b):=fun h'=>by rw[(fN x a b).2 h'] at h; cases h
theorem aj9 (c:UInt8):okc c=true↔(97<=c.toNat/\c.toNat<=122)\/(48<=c.toNat/\c.toNat<=57)\/c.toNat=95\/c.toNat=45\/c.toNat=46:=by
 unfold okc;simp only[lA5,lM,decide_eq_true_eq,UInt8.le_iff_toNat_le,<-UInt8.toNat_inj];simp;omega
theorem aak {c:UInt8} (h:(97<=c.toNat/\c.toNat<=122)\/(48<=c.toNat/\c.toNat<=57)\/c.toNat=95\/c.toNat=45\/c.toNat=46):okc c=true:=(aj9 c).2 h
theorem anD {c:UInt8} (h:¬ ((97<=c.toNat/\c.toNat<=122)\/(48<=c.toNat/\c.toNat<=57)\/c.toNat=95\/c.toNat=45\/c.toNat=46)):okc c=false:=by
 cases e:okc c with
 | false=>rfl
 | true=>exact absurd ((aj9 c).1 e) h
theorem afL {s:aA} {i:Nat} (h:i<s.length) (hc:okc s[i]=false):aP s=false:=by
 unfold aP;have:s.all okc=false:=by
  rw[lP4];exact⟨s[i],lI h,by simp[hc]⟩
 simp[this]
theorem aqe (n:Nat):n<45\/n=45\/n=46\/n=47\/(48<=n/\n<=57)\/(58<=n/\n<=94)\/n=95\/n=96\/(97<=n/\n<=122)\/122<n:=by omega
theorem afM {s:aA} {i:Nat} (hk:∀ k,k<i->(h:k<s.length)->okc s[k]=true) (h:i<s.length) (hi:okc s[i]=true):∀ k,k<i+1->(h:k<s.length)->okc s[k]=true:=by
 intro k aa hl;by_cases e:k=i
 ·subst e; exact hi
 ·exact hk k A7 hl
theorem anE {s:aA} (hk:∀ k,(h:k<s.length)->okc s[k]=true):s.all okc=true:=by
 rw[lP];intro x hx;obtain⟨k,h,rfl⟩:=lM1 hx;exact hk k h
theorem b0 (s:aA) (hl:s.length<2^48):Sp 60 [.str s] (.bool (aP s)) U1:=by
 refine Vw agN [] 221 [] fun w hP hQ=>?_
 refine fB [2,3,4] ?_;refine N ?_;refine aN [2,3,4] (fun i:Nat=>[(7,.int .i64 i)]) (fun i=>i<=s.length/\∀ k,k<i->(h:k<s.length)->okc s[k]=true) (fun i=>s.length-i) (0) hP hQ (rfl) A8 ?_;rintro i ⟨hi,hk⟩ w1 hP1 hQ1;refine N1 ?_;refine Jf (fun h1=>?_) fun h1=>?_
 ·have aa:i<s.length:=by omega
  have aw:okc s[i]=false->aP s=false:=fun h=>afL aa h
  have bj:okc s[i]=true->_:=fun h=>afM hk aa h
  refine Nz1 (aL h1) ?_;generalize s[i]=c at *;rcases aqe c.toNat with h | h | h | h | h | h | h | h | h | h
  all_goals (simp +decide (maxSteps:=9^9) (disch:=omega) only[↓SB0,SX,seval,hQ,hQ1,ap7,ap8])
  all_goals first
   | (rw[aw (anD A7)]; done)
   | exact⟨i+1,rfl,⟨by omega,bj (aak A7)⟩,by omega⟩
 ·obtain rfl:i=s.length:=by omega
  have bi:s.all okc=true:=anE fun k h=>hk k h h
  refine N1 ?_;refine Jg (fun g1=>?_) fun g1=>?_
  rotate_left
  ·refine Nz g1 ?_;simp[aP,bi]; omega
  refine Nz g1 ?_;refine Jg (fun g2=>?_) fun g2=>?_
  rotate_left
  ·refine Nz g2 ?_;simp[aP,bi]; omega
  refine Nz g2 ?_;refine Jg (fun g3=>?_) fun g3=>?_
  ·refine Nz g3 ?_;simp[aP,g3]
  refine Nz g3 ?_;simp[aP,bi,g3]
  try omega
theorem bT (s:aA) (hl:s.length<2^48):Sp 147 [.str s] (.bool (aP s)) U1:=by
 refine Vw agW [] 29 [] fun w hP hQ=>?_
 refine fB [2,4] ?_;refine N ?_;refine aN [2,4] (fun i:Nat=>[(3,.int .i64 i)]) (fun i=>i<=s.length/\∀ k,k<i->(h:k<s.length)->okc s[k]=true) (fun i=>s.length-i) (0) hP hQ (rfl) A8 ?_;rintro i ⟨hi,hk⟩ w1 hP1 hQ1;refine N1 ?_;refine Jf (fun h1=>?_) fun h1=>?_
 ·have aa:i<s.length:=by omega
  have aw:okc s[i]=false->aP s=false:=fun h=>afL aa h
  have bj:okc s[i]=true->_:=fun h=>afM hk aa h
  refine Nz1 (aL h1) ?_;generalize s[i]=c at *;have hc:c.toNat<256:=c.toNat_lt;cases hA:inR (c.toNat) 97 122 with
  | true=>
   have hA':=(fN _ _ _).1 hA;refine N1 ?_;refine Kz1 hA (cL (c.toNat) 97 122) ?_;exact⟨i+1,rfl,⟨by omega,bj (aak A7)⟩,by omega⟩
  | false=>
   have hA':=afK hA;cases hB:inR (c.toNat) 48 57 with
   | true=>
    have hB':=(fN _ _ _).1 hB;refine N1 ?_;refine Kz1 hA (cL (c.toNat) 97 122) ?_;refine Kz1 hB (cL (c.toNat) 48 57) ?_;exact⟨i+1,rfl,⟨by omega,bj (aak A7)⟩,by omega⟩
   | false=>
    have hB':=afK hB;have hr:c.toNat=95\/c.toNat=45\/c.toNat=46\/(c.toNat≠95/\c.toNat≠45/\c.toNat≠46):=by omega
    rcases hr with h | h | h | h
    all_goals (simp +decide (maxSteps:=9^9) (disch:=omega) only[↓SB0,SX,seval,hQ,hQ1])
    all_goals (first | refine uQ hP1 (cL (c.toNat) 97 122) (.inl ⟨rfl,fun _ hx=>nomatch hx⟩) ?_ | skip)
    all_goals (simp +decide (maxSteps:=9^9) (disch:=omega) only[↓SB0,SX,seval,hQ,hQ1,hA])
    all_goals (first | refine uQ hP1 (cL (c.toNat) 48 57) (.inl ⟨rfl,fun _ hx=>nomatch hx⟩) ?_ | skip)
    all_goals (simp +decide (maxSteps:=9^9) (disch:=omega) only[↓SB0,SX,seval,hQ,hQ1,hB,ap7,ap8])
    all_goals first
     | (rw[aw (anD A7)]; done)
     | exact⟨i+1,rfl,⟨by omega,bj (aak A7)⟩,by omega⟩
 ·obtain rfl:i=s.length:=by omega
  have bi:s.all okc=true:=anE fun k h=>hk k h h
  refine N1 ?_;cases g1:inR (s.length:Nat) 1 14 with
  | false=>
   have g1':=afK g1;refine Kz g1 (cL (s.length:Nat) 1 14) ?_;simp[aP,bi]; omega
  | true=>
   have g1':=(fN _ _ _).1 g1;refine Kz g1 (cL (s.length:Nat) 1 14) ?_;refine Jg (fun g3=>?_) fun g3=>?_
   ·refine Nz g3 ?_;simp[aP,g3]
   refine Nz g3 ?_;simp[aP,bi,g3]
   try omega
section
open Go.Proofs Go.RowKit
def fD (s:aA):List TV:=[.str s]
theorem ab4 {P:Program} {f:Nat} {a b:aA} {r:Int} (hE:mE P f) (run:∀ w,Calls P f #[cN a,cN b] w fun e w'=>e=.returned (.int .i64 r)/\w'=w):mU P f [.str a,.str b] (.int .i64 r) U2:=by
 refine⟨hE,rfl,?_⟩;intro w vs F X h h1 h2 h3;cases h with
 | str _ _ _ vs _ h=>
  cases h with
  | str _ _ _ vs _ h=>
   cases h with
   | nil _ _ hF hX=>
    refine(run w).mono ?_;rintro e w' ⟨rfl,rfl⟩;exact⟨_,F,X,rfl,.int _ _ _ _ _ _ (.undef _ _ _ _ _ (.undef _ _ _ _ _ (.nil _ _ hF hX))),h1,h2,⟨lE1 _,.refl _⟩,fun b _ _=>rfl,fun b hb=>.inl hb,fun b hb=>⟨.inl hb,h3 b hb⟩⟩
theorem amE (s:aA):Sp 281 [.str s,.str [47]] (.int .i64 (Lib.indexByte s 47)) U2:=
 ab4 ⟨_,Tryz.func281,by kernel_rfl,by kernel_rfl⟩ fun w=>Any.strings_Index_one abG ⟨s.toArray⟩ 47 w
theorem amF (s:aA):Sp 280 [.str s,.str [47]] (.int .i64 (s.count 47:Nat)) U2:=
 ab4 ⟨_,Tryz.func280,by kernel_rfl,by kernel_rfl⟩ fun w=>Any.strings_Count_one abH ⟨s.toArray⟩ 47 w
theorem aqC (s:aA):(Lib.indexByte s 47=-1/\∀ k,(h:k<s.length)->s[k]≠47)\/∃ m,∃ h:m<s.length,Lib.indexByte s 47=(m:Nat)/\s[m]=47/\∀ k,k<m->(h:k<s.length)->s[k]≠47:=by
 induction s with
 | nil=>exact .inl ⟨rfl,fun k h=>by simp at h⟩
 | cons c s ih=>
  by_cases hc:c=47
  ·exact .inr ⟨0,by simp,by simp[Lib.indexByte,hc],by simpa using hc,fun k hk=>absurd hk (Nat.not_lt_zero _)⟩
  ·have hb:(c == 47)=false:=by simpa using hc
   rcases ih with ⟨h1,h2⟩ | ⟨m,h1,h2,h3,h4⟩
   ·refine .inl ⟨by simp[Lib.indexByte,hb,h1],fun k hk=>?_⟩;cases k with
    | zero=>simpa using hc
    | succ k=>simpa using h2 k (by simpa using hk)
   ·refine .inr ⟨m+1,by simpa using h1,?_,by simpa using h3,fun k hk hl=>?_⟩
    ·have:((m:Int) == -1)=false:=by simp
     simp[Lib.indexByte,hb,h2,this]
    ·cases k with
     | zero=>simpa using hc
     | succ k=>simpa using h4 k A7 (by simpa using hl)
theorem ab5:Builder.Extra Tryz.prog mH where
 sizeBuilder:=by kernel_rfl
 liesBuilder:=by kernel_rfl
 t5:=Tryz.underlying5
 a5:=Tryz.isAgg5
 z5:=Tryz.sizeOf5
 v5:=Tryz.zeroValue5
 infoByte:=by kernel_rfl
 cellsByte:=by kernel_rfl
 sizeByte:=by kernel_rfl
 neB5:=by decide
theorem amG {w:World} {o:Bool} {F:aH}:∀ (l:List aA) {cs:List Value},Row w o F cs (l.map fD).flatten->cs=l.map cN/\∀ b,F b=0:=by
 intro l;induction l generalizing F with
 | nil=>
  intro cs h;cases h with
  | nil _ _ hF=>exact⟨rfl,hF⟩
 | cons n l ih=>
  intro cs h;have e:((n::l).map fD).flatten=.str n::(l.map fD).flatten:=by simp[fD]
  rw[e] at h;cases h with
  | str _ _ _ vs _ h=>
   obtain⟨e1,e2⟩:=ih h;exact⟨by rw[e1]; rfl,e2⟩
theorem aqf (l:List aA) (hl:l.length<2^40) (hn:(Lib.join l [47]).length<2^47):Sp 277 [.ext 1 (l.map fD),.str [47]] (.str (Lib.join l [47])) U2:=by
 refine⟨⟨_,Tryz.func277,by kernel_rfl,by kernel_rfl⟩,rfl,?_⟩;intro w vs F X h h1 h2 h3;have fin:∀ {e:Ending} {w':World} (h0:∀ b,F b=0),e=.returned (.string ⟨(Lib.join l [47]).toArray⟩)->Below w.heap.size w w'->∃ v F' X',e=.returned v/\RepA w' lk0 F' X' (v::vs) [.str (Lib.join l [47]),.undef,.undef]/\(∀ b,F' b<=1)/\(∀ b,F' b=0\/X' b=0) /\
   Grows w w'/\(∀ b,b<w.heap.size->F b=0->w'.heap[b]?=w.heap[b]?)/\(∀ b,F' b≠0->F b≠0\/w.heap.size<=b)/\(∀ b,X' b≠0->(X b≠0\/F b≠0\/w.heap.size<=b)/\b<w'.heap.size):=by
  intro e w' h0 he hb;have ac:=h.length
  match vs,ac with
  | [v1,v2],_=>exact⟨_,fun _=>0,fun _=>0,he,.str _ _ _ _ _ (.undef _ _ _ _ _ (.undef _ _ _ _ _ (.nil _ _ (fun _=>rfl) (fun _=>rfl)))),fun b=>lP3 _,fun b=>.inl rfl,⟨hb.size,⟨hb.os,hb.output⟩⟩,fun b aa _=>hb.block b aa,fun b hb=>absurd rfl hb,fun b hb=>absurd rfl hb⟩
 cases h with
 | ext _ _ X1 X2 _ _ v vs _ hr hn' hX=>
  cases hn' with
  | str _ _ _ vs _ h0=>
   cases h0 with
   | nil _ _ hF hX2=>
    by_cases he:l=[]
    ·subst he;have hv:∃ a c,v=.slice a 0 c:=by
      cases hr with
      | ext0 _ _ a cap _ _ _=>exact⟨a,cap,rfl⟩
      | ext _ _ _ _ _ a cap _ _ _ _ _ _ _ _ _ _=>exact⟨some a,cap,rfl⟩
     obtain⟨a,c,rfl⟩:=hv;refine(Any.strings_Join_none rY ab5 a c ⟨#[47]⟩ w).mono ?_;rintro e w' ⟨he,rfl⟩;exact fin hF he (Below.refl _ _)
    ·generalize ap:l.map fD=es at hr;cases hr with
     | ext0 _ _ a cap _ _ _=>simp at ap; exact absurd ap he
     | ext _ F1 F2 _ _ a cap cs _ _ hle hs hcs hc g1 g2 ki=>
      subst ap;obtain⟨e1,_⟩:=amG l g1;have bk:cs.length=l.length:=by rw[e1,lU1]
      have hpos:0<l.length:=lR4.2 he;have fx:=hc 0 A7;rw[show a.add 0=a from rfl,lF A7] at fx;have du:a.spot=none:=by
       unfold World.cell? at fx;split at fx
       ·split at fx
        ·cases fx
        ·rename_i h; simpa using h
       ·cases fx
      obtain⟨ab,ao,asp⟩:=a;simp only at du;subst du;have kj:ab<w.heap.size:=World.block_lt_of_cell? _ _ fx;have fj:(l.map fD).length=l.length:=lU1 _;rw[fj] at hle;have hxs:(l.map fun s=>(⟨s.toArray⟩:ByteArray)).map (fun x=>x.data.toList)=l:=by rw[lK5]; simp[Function.comp_def]
      have:=Any.strings_Join rY ab5 ab ao cap (l.map fun s=>(⟨s.toArray⟩:ByteArray)) ⟨#[47]⟩ w (fun j x hx=>by
       rw[lP1] at hx;cases hj:l[j]? with
       | none=>rw[hj] at hx; cases hx
       | some s=>
        rw[hj] at hx;have ea:j<l.length:=(lG.1 hj).1;have:=hc j A7;rw[e1,lP1,hj] at this;simp only[lD,Option.some.injEq] at hx;subst hx;rw[<-Addr.add_lit]; exact this) kj (by rw[lU1]; omega) (by rw[lU1]; exact hle) (by rw[hxs]; show (Lib.join l [47]).length<=_; omega)
      rw[hxs,lU1,<-fj] at this;refine this.mono ?_;rintro e w' ⟨he,hb⟩;exact fin hF he hb
end
def ahU (done:List aA) (n:Nat):List aA:=done++List.replicate (n-done.length) []
theorem aka (n:Nat):(ahU [] n).map fD=List.replicate n [TV.str []]:=by simp[ahU,fD]
theorem aal {done:List aA} {n:Nat} (h:done.length<=n):(ahU done n).length=n:=by simp[ahU]; omega
theorem afN {done:List aA} {n:Nat} (h:done.length<n) (x:aA):((ahU done n).map fD).modify done.length (fun r=>TV.str x::r.drop 1)=(ahU (done++[x]) n).map fD:=by
 obtain⟨m,hm⟩:∃ m,n-done.length=m+1:=⟨n-done.length-1,by omega⟩
 have e:n-(done++[x]).length=m:=by simp; omega
 rw[ahU,ahU,hm,e,lP2,lP2,lP2,List.replicate_succ,lR];have:=pB (done.map fD) (fD []::(List.replicate m []).map fD) done.length (fun r=>TV.str x::r.drop 1) A8;rw[this,lU1,lL5,lM3,lM2]; rfl
theorem akb {done:List aA} {n:Nat}:((ahU done n).map fD).take done.length=done.map fD:=by
 rw[<-lL3,ahU,List.take_left']; rfl
theorem ab6 (s:aA):s.count 47<=s.length:=List.count_le_length
theorem aej (s:aA) (hl:s.length<2^40):Sp 239 [.str s,.str [47],.int .i64 0,.int .i64 (-1)] (.own 1 ((bD s).map fD)) U4:=by
 have hc:=ab6 s;have hm:¬ ((s.length:Nat):Int)+1<((s.count 47:Nat):Int)+1:=by omega
 refine Vw abC [] 3855 [] fun w hP hQ=>?_
 refine K (amF s) ?_;have ha:((s.count 47:Nat):Int)+1-1=(s.count 47:Nat):=by omega
 have hb:(((s.count 47:Nat):Int)+1).toNat=s.count 47+1:=by omega
 simp only[lO hm,ha,hb,<-aka];refine fB [11] ?_;refine N ?_;refine aN [11] (fun x:List aA × aA=>[(0,.str x.2),(9,.own 1 ((ahU x.1 (s.count 47+1)).map fD)),(10,.int .i64 (x.1.length:Nat))]) (fun x=>x.1++bD x.2=bD s/\x.2.length<2^40) (fun x=>x.2.count 47) (([],s)) hP hQ (rfl) (⟨rfl,hl⟩) ?_;rintro⟨done,rest⟩ ⟨hd,hr⟩ w1 hP1 hQ1;refine N1 ?_;simp only at hd hr;have hn:done.length+rest.count 47=s.count 47:=by
  have:=congrArg List.length hd;rw[lU,nI,nI] at this; omega
 have fu:=aal (done:=done) (n:=s.count 47+1) A7;rcases aqC rest with ⟨h1,h2⟩ | ⟨m,h1,h2,h3,h4⟩
 ·have fin:done++[rest]=bD s:=by rw[<-hd,vI h2]
  have hz:rest.count 47=0:=List.count_eq_zero.2 fun hmem=>by
   obtain⟨k,hk,e⟩:=lM1 hmem;exact h2 k hk e
  refine Jf (fun g=>?_) fun g=>?_
  ·exfalso; omega
  ·have gh:((done.length:Nat):Int)<((ahU done (s.count 47+1)).length:Nat):=by omega
   have e1:(((done.length:Nat):Int)+1-0).toNat=done.length+1:=by omega
   have e2:0+(done.length+1)<=s.count 47+1:=by omega
   have e3:=afN (done:=done) (n:=s.count 47+1) A7 rest;have e4:=akb (done:=done++[rest]) (n:=s.count 47+1);rw[fin,<-fin,lU] at e4;have hp2:=aal (done:=done++[rest]) (n:=s.count 47+1) B0;refine Nz1 (And.intro fu (And.intro hp2 (And.intro e1 (And.intro e2 e3)))) ?_;rw[<-fin];exact congrArg (AV.own 1) e4
 ·have hx:=aj0 h1 h3 h4;have hy:=vH h1 h3 h4;refine Jf (fun g=>?_) fun g=>?_
  ·have e5:¬ ((m:Nat):Int)<0:=by omega
   have e6:(((m:Nat):Int)-0).toNat=m:=by omega
   have e7:(((rest.length:Nat):Int)-((m:Int)+1)).toNat=rest.length-(m+1):=by omega
   have e9:(rest.drop (m+1)).take (rest.length-(m+1))=rest.drop (m+1):=lW1 A8;have e8:(((m:Nat):Int)+1).toNat=m+1:=by omega
   have e3:=afN (done:=done) (n:=s.count 47+1) A7 (rest.take m);have hp2:=aal (done:=done++[rest.take m]) (n:=s.count 47+1) B0;refine N1 ?_;refine Kz1 (And.intro h2 (And.intro e5 (And.intro e6 (And.intro e7 (And.intro e8 (And.intro e9 (And.intro fu (And.intro hp2 e3)))))))) (amE rest) ?_;exact⟨(done++[rest.take m],rest.drop (m+1)),by simp,⟨by rw[<-hd,hy,lM2]; rfl,by simp only[lK1]; omega⟩,by simp only; omega⟩
  ·exfalso; omega
theorem aoW (s:aA) (hl:s.length<2^40):Sp 182 [.str s,.str [47]] (.own 1 ((bD s).map fD)) U2:=by
 refine Vw ajq [] 19 [] fun w hP hQ=>?_
 exact K (aej s hl) trivial
theorem ab7 (s:aA) (hl:s.length<2^48):Sp 241 [.str s] (.bool (!aP s)) U1:=by
 refine Vw aab [] 5 [] fun w hP hQ=>?_
 exact K (b0 s hl) trivial
theorem qC {g:Nat} {p:aA->Bool} (l:List aA) (hl:l.length<2^48) (hc:∀ v ∈ l,mU Tryz.prog g [.str v] (.bool (p v)) [.undef]) :
  Sp 282 [.ext 1 (l.map fD),.fn g []] (.int .i64 (gU (l.findIdx? p))) U2:=by
 refine Vw oD [] 435 [] fun w hP hQ=>?_
 refine fB [4,5] ?_;refine N ?_;refine aN [4,5] (fun i:Nat=>[(8,.int .i64 i)]) (fun i=>i<=l.length/\∀ k,k<i->(h:k<l.length)->p l[k]=false) (fun i=>l.length-i) (0) hP hQ (rfl) A8 ?_;rintro i ⟨hi,hk⟩ w1 hP1 hQ1;refine N1 ?_;refine Jf (fun h1=>?_) fun h1=>?_
 ·simp +decide (maxSteps:=9^9) (disch:=omega) only[↓SB0,SX,seval,hQ,hQ1,aL h1,fD];cases h2:p (l[i]'A7) with
  | true=>
   refine Kz1 h2 (hc (l[i]'A7) (lI _)) ?_;rw[gY hk A7 h2]; rfl
  | false=>
   refine Kz1 h2 (hc (l[i]'A7) (lI _)) ?_;exact⟨i+1,rfl,⟨by omega,iL hk A7 h2⟩,by omega⟩
 ·obtain rfl:i=l.length:=by omega
  refine N1 ?_;rw[gZ fun k h=>hk k h h]; rfl
theorem nK {g:Nat} {p:aA->Bool} (l:List aA) (hl:l.length<2^48) (hc:∀ v ∈ l,mU Tryz.prog g [.str v] (.bool (p v)) [.undef]) :
  Sp 240 [.ext 1 (l.map fD),.fn g []] (.bool (l.any p)) U2:=by
 have hI:=qC l hl hc;cases e:l.findIdx? p with
 | none=>
  have:l.any p=false:=by
   rw[List.any_eq_false];intro x hx;rw[lO2] at e;simp[e x hx]
  rw[e] at hI;rw[this];refine Vw f5 [] 19 [] fun w hP hQ=>?_
  exact K hI trivial
 | some k=>
  have:l.any p=true:=by
   rw[lC1] at e;rw[List.any_eq_true];exact⟨_,lI e.1,e.2.1⟩
  rw[e,show gU (some k)=(k:Int) from rfl] at hI;rw[this];have hz:decide ((0:Int)<=(k:Nat))=true:=lC A7;refine Vw f5 [] 19 [] fun w hP hQ=>?_
  exact Kz hz (hI) trivial
theorem yA (l:List aA) (hl:l.length<2^48) (hs:∀ n ∈ l,n.length<2^48):Sp 183 [.ext 1 (l.map fD)] (.bool (bW l)) U1:=by
 have hC:=nK (g:=241) (p:=fun s=>!aP s) l hl fun v hv=>ab7 v (hs v hv)
 have e:bW l=(decide (((l.length:Nat):Int)<=30) && !(l.any fun s=>!aP s)):=by
  rw[bW,List.not_any_eq_all_not,show decide (l.length<=30)=decide (((l.length:Nat):Int)<=30) by rw[decide_eq_decide]; omega];simp
 rw[e];refine Vw adQ [] 5 [] fun w hP hQ=>?_
 refine Jg (fun h=>?_) fun h=>?_
 ·refine Nz h ?_;refine K hC ?_;rw[lC h]; rfl
 ·exact Nz h trivial
theorem aek (s:aA):∀ n ∈ bD s,n.length<=s.length:=by
 induction s with
 | nil=>simp[bD]
 | cons c s ih=>
  intro n hn;by_cases hc:c=47
  ·rw[bD,lK hc] at hn;rcases lN.1 hn with rfl | hn
   ·simp
   ·have:=ih n hn; simp; omega
  ·obtain⟨a,t,e1,e2⟩:=l6 c s hc;rw[e2] at hn;rcases lN.1 hn with rfl | hn
   ·have:=ih a (by rw[e1]; simp); simp; omega
   ·have:=ih n (by rw[e1]; simp[hn]); simp; omega
theorem aht (s:aA):(bD s).length<=s.length+1:=by rw[nI]; have:=ab6 s; omega
theorem iD (s:aA) (hl:s.length<2^40):Sp 125 [.str s] (.tup [.own 1 ((aB s).1.map fD),.bool (aB s).2]) U1:=by
 have hS:=aoW s hl;have hp:=aek s;have hf:=aht s;by_cases h0:s=[47]
 ·subst h0;refine Vw f0 [] 29 [] fun w hP hQ=>?_
  rfl
 cases e:bD s with
 | nil=>exact absurd e (p4 s)
 | cons a t=>
  rw[e] at hS hp hf;cases a with
  | cons c a=>
   have er:aB s=([],false):=by rw[aB,lO h0,e]; rfl
   rw[er];refine Vw f0 [] 29 [] fun w hP hQ=>?_
   refine Nz h0 ?_
   (first|refine cI hP (hS) rfl rfl ?_|refine cH hP (hS) rfl rfl ?_)
   simp +decide (maxSteps:=9^9) (disch:=omega) only[↓SB0,SX,seval,hQ,lR,fD]
  | nil=>
   cases t with
   | nil=>
    have er:aB s=([],false):=by rw[aB,lO h0,e]; rfl
    rw[er];refine Vw f0 [] 29 [] fun w hP hQ=>?_
    refine Nz h0 ?_
    (first|refine cI hP (hS) rfl rfl ?_|refine cH hP (hS) rfl rfl ?_)
    simp +decide (maxSteps:=9^9) (disch:=omega) only[↓SB0,SX,seval,hQ,lR,lW2,fD]
   | cons n t=>
    have hN:=yA (n::t) (by simp only[lZ] at hf ⊢; omega) fun x hx=>by have:=hp x D6; omega
    have hw:decide (((t.length+1+1:Nat):Int)<2)=false:=lB A7;have hy:1+(t.length+1)<=t.length+1+1:=by omega
    have hz:(((t.length+1+1:Nat):Int)-1).toNat=t.length+1:=by omega
    have ht:([TV.str n]::List.map fD t).take (t.length+1)=[TV.str n]::List.map fD t:=lW1 A8;simp only[lR,show fD n=[TV.str n] from rfl] at hN;cases hn:bW (n::t) with
    | false=>
     have er:aB s=([],false):=abX e hn h0;rw[hn] at hN;rw[er];refine Vw f0 [] 29 [] fun w hP hQ=>?_
     simp +decide (maxSteps:=9^9) (disch:=omega) only[↓SB0,SX,seval,hQ,h0]
     (first|refine cI hP (hS) rfl rfl ?_|refine cH hP (hS) rfl rfl ?_)
     simp +decide (maxSteps:=9^9) (disch:=omega) only[↓SB0,SX,seval,hQ,lR,fD,hw,hz,ht,hy]
     (first|refine cI hP (hN) rfl rfl ?_|refine cH hP (hN) rfl rfl ?_)
     simp +decide (maxSteps:=9^9) (disch:=omega) only[↓SB0,SX,seval,hQ,hw,hz,ht,hy,lR,fD]
    | true=>
     have er:aB s=(n::t,true):=x6 e A8 hn h0;rw[hn] at hN;rw[er];refine Vw f0 [] 29 [] fun w hP hQ=>?_
     simp +decide (maxSteps:=9^9) (disch:=omega) only[↓SB0,SX,seval,hQ,h0]
     (first|refine cI hP (hS) rfl rfl ?_|refine cH hP (hS) rfl rfl ?_)
     simp +decide (maxSteps:=9^9) (disch:=omega) only[↓SB0,SX,seval,hQ,lR,fD,hw,hz,ht,hy]
     (first|refine cI hP (hN) rfl rfl ?_|refine cH hP (hN) rfl rfl ?_)
     simp +decide (maxSteps:=9^9) (disch:=omega) only[↓SB0,SX,seval,hQ,hw,hz,ht,hy,lR,fD]
theorem anF {n:Nat} (h:n<2^63):IntKind.i64.wrap (n:Int)=n:=by
 have h1:((2:Int)^IntKind.i64.bits)=2^64:=by decide
 have h2:((2:Int)^(IntKind.i64.bits-1))=2^63:=by decide
 unfold IntKind.wrap;simp only[h1,h2,IntKind.signed];simp;omega
theorem ab8 (n:aA) (l:List aA):(47:UInt8)::Lib.join (n::l) [47]=fM (n::l):=by
 rw[Lib.join_cons,ahl];congr 2
theorem yB {l:List aA} (h:bW l=true):(Lib.join l [47]).length<=450:=by
 cases l with
 | nil=>simp[Lib.join_nil]
 | cons n l=>
  have:=vJ h;rw[<-ab8] at this;simp at this; omega
theorem ael (l:List aA) (hl:l.length<2^40) (hs:∀ n ∈ l,n.length<2^48):Sp 236 [.ext 1 (l.map fD)] (.str (bY l)) U1:=by
 have hN:=yA l A7 hs;cases e:bW l with
 | false=>
  rw[e] at hN;rw[bY,lO (by simp[e])];refine Vw rV [] 5 [] fun w hP hQ=>?_
  exact K hN trivial
 | true=>
  rw[e] at hN;have hJ:=aqf l hl (by have:=yB e; omega);have er:(47:UInt8)::Lib.join l [47]=bY l:=by
   rw[bY,lK e];cases l with
   | nil=>rfl
   | cons n l=>rw[ab8,lO A8]
  rw[<-er];refine Vw rV [] 5 [] fun w hP hQ=>?_
  refine K hN ?_;have hb:1+(Lib.join l [47]).length<=4611686018427387904:=by have:=yB e; omega
  exact Kz hb (hJ) trivial
theorem rJ {s:aA}:∀ n ∈ (aB s).1,n.length<=14:=by
 intro n hn;cases h:(aB s).2 with
 | false=>rw[afw h] at hn; simp at hn
 | true=>exact(p5 ((kK (n5 h).1).2 n hn)).2
theorem iF (s:aA):(aB s).1.length<=30:=by
 cases h:(aB s).2 with
 | false=>rw[afw h]; simp
 | true=>exact(kK (n5 h).1).1
theorem vN {l:List aA} {k:Nat} (h:l.length=k+1):l[k]?=some (l.getLastD []):=by
 have am:l≠[]:=fun e=>by rw[e] at h; simp at h
 rw[List.getLastD_eq_getLast?,List.getLast?_eq_some_getLast am,List.getLast_eq_getElem];simp[h]
theorem aem (s:aA) (hl:s.length<2^40):Sp 176 [.str s] (.tup [.str (aF s).1,.str (aF s).2.1,.bool (aF s).2.2]) U1:=by
 have hS:=iD s hl;have hp:=rJ (s:=s);have hf:=iF s;unfold aF;generalize aB s=x at *;obtain⟨l,b⟩:=x;cases b with
 | false=>
  rw[lO A8];refine Vw m3 [] 253 [] fun w hP hQ=>?_
  exact K hS trivial
 | true=>
  cases hk:l.length with
  | zero=>
   obtain rfl:l=[]:=lO1.1 hk;rw[lO A8];refine Vw m3 [] 253 [] fun w hP hQ=>?_
   exact K hS trivial
  | succ k=>
   have am:l≠[]:=fun e=>by rw[e] at hk; simp at hk
   rw[lK ⟨rfl,am⟩];have hJ:=ael l.dropLast (by simp; simp only at hf; omega) fun n hn=>by have:=hp n (List.dropLast_subset _ hn); omega
   rw[List.dropLast_eq_take,hk] at hJ ⊢;simp only[Nat.add_sub_cancel,lL3] at hJ ⊢;have hg:=vN hk;have h0:(decide (((k+1:Nat):Int)=0))=false:=lB A7;have h1:(((k+1:Nat):Int)-1)=(k:Int):=by omega
   have h2:((k:Int)-0).toNat=k:=by omega
   have h3:0+k<=k+1:=by omega
   have h4:=anF (n:=k) (by simp only[hk] at hf; omega);refine Vw m3 [] 253 [] fun w hP hQ=>?_
   refine Kz (And.intro hk (And.intro h0 (And.intro h1 (And.intro h2 (And.intro h3 h4))))) (hS) ?_
   (first|refine cI hP (hJ) rfl rfl ?_|refine cH hP (hJ) rfl rfl ?_)
   simp +decide (maxSteps:=9^9) (disch:=omega) only[↓SB0,SX,seval,hQ,hk,h0,h1,h2,h3,h4,hg,fD]
theorem wZ (l m:List aA) (hl:l.length<2^40) (hm:m.length<2^40):Sp 273 [.ext 1 (l.map fD),.ext 1 (m.map fD)] (.bool (decide (l=m))) U2:=by
 refine Vw sH [] 12339 [] fun w hP hQ=>?_
 refine Jf (fun h=>?_) fun h=>?_
 ·refine N ?_;refine fB [4,5] ?_;refine N ?_;refine aN [4,5] (fun i:Nat=>[(13,.int .i64 i)]) (fun i=>i<=l.length/\l.take i=m.take i) (fun i=>l.length-i) (0) hP hQ (rfl) A8 ?_;rintro i ⟨hi,dt⟩ w1 hP1 hQ1;refine N1 ?_;refine Jf (fun h1=>?_) fun h1=>?_
  ·simp +decide (maxSteps:=9^9) (disch:=omega) only[↓SB0,SX,seval,hQ,hQ1,aL h1,aL (h ▸ h1),fD];refine Jf (fun h2=>?_) fun h2=>?_
   ·refine N1 ?_;exact⟨i+1,rfl,⟨by omega,eL dt _ _ h2⟩,by omega⟩
   ·refine N1 ?_;rw[lB (show ¬ l=m from fun e=>by subst e; exact h2 rfl)]
  ·refine N1 ?_;rw[lC (nY dt A7 A7)]
 ·refine N ?_;rw[lB (show ¬ l=m from fun e=>h (by rw[e]))]
theorem vO {l m:List aA} (h:l.length<=m.length):l.isPrefixOf m=decide (l=m.take l.length):=by
 rw[lX3,List.isPrefixOf_iff_prefix,decide_eq_true_eq];exact List.prefix_iff_eq_take
theorem vP {l m:List aA} (h:m.length<l.length):l.isPrefixOf m=false:=by
 cases e:l.isPrefixOf m with
 | false=>rfl
 | true=>have:=(List.isPrefixOf_iff_prefix.1 e).length_le; omega
theorem amH (a b:aA) (ha:a.length<2^40) (hb:b.length<2^40):Sp 227 [.str a,.str b] (.bool (rE a b)) U2:=by
 have hS:=iD a ha;have hT:=iD b hb;have hf:=iF a;have hg:=iF b;unfold rE;generalize aB a=x at *;generalize aB b=y at *;obtain⟨l,u⟩:=x;obtain⟨m,v⟩:=y;simp only at *;cases u with
 | false=>
  refine Vw pT [] 499 [] fun w hP hQ=>?_
  refine K hS ?_;exact K hT trivial
 | true=>
  cases v with
  | false=>
   refine Vw pT [] 499 [] fun w hP hQ=>?_
   refine K hS ?_;exact K hT trivial
  | true=>
   by_cases hn:l.length<=m.length
   ·have hE:=wZ l (m.take l.length) A7 B0;rw[<-vO hn,lL3] at hE;have h0:decide (((l.length:Nat):Int)<=(m.length:Nat))=true:=lC A7;have h2:(((l.length:Nat):Int)-0).toNat=l.length:=by omega
    have h3:0+l.length<=m.length:=by omega
    refine Vw pT [] 499 [] fun w hP hQ=>?_
    refine K hS ?_;refine Kz (And.intro h0 (And.intro h2 h3)) (hT) ?_;exact K hE trivial
   ·rw[vP A7];have h0:decide (((l.length:Nat):Int)<=(m.length:Nat))=false:=lB A7;refine Vw pT [] 499 [] fun w hP hQ=>?_
    refine K hS ?_;exact Kz h0 (hT) trivial
theorem aqg (l:List aA) (n:aA):l.map fD++[[TV.str n]]=(l++[n]).map fD:=by simp[fD]
theorem amI (c:UInt8):((c.toNat:Int)=47)↔c=47:=by
 rw[<-UInt8.toNat_inj];show _↔c.toNat=47;omega
theorem dL (s:aA) (hl:s.length<2^40):Sp 256 [.str s] (.tup [.own 1 ((aB s).1.map fD),.bool (aB s).2]) U1:=by
 by_cases h0:s=[47]
 ·subst h0;refine Vw pU [] 253 [] fun w hP hQ=>?_
  rfl
 refine Vw pU [] 253 [] fun w hP hQ=>?_
 refine Nz h0 ?_;refine fB [2,3,7] ?_;refine N ?_;refine aN [2,3,7] (fun x:Nat × Nat × List aA=>[(4,.own 1 (x.2.2.map fD)),(5,.int .i64 (x.2.1:Nat)),(6,.int .i64 (x.1:Nat))]) (fun x=>Cut s x.1 x.2.1 x.2.2) (fun x=>s.length+1-x.1) ((0,0,[])) hP hQ (rfl) (Cut.zero s) ?_;rintro⟨i,j,out⟩ hC w1 hP1 hQ1;refine N1 ?_;simp only at hC;have c1:=hC.le;have c2:=hC.end';have c3:=hC.len;refine Jf (fun h1=>?_) fun h1=>?_
 ·have next:(i=s.length\/∃ h:i<s.length,s[i]=47)->_:=fun hc=>hc
  by_cases hi:i<s.length/\∃ h:i<s.length,s[i]≠47
  ·obtain⟨_,h2,h3⟩:=hi;have e1:decide (((i:Nat):Int)<(s.length:Nat))=true:=lC A7;have e2:decide (((s[i].toNat:Nat):Int)=47)=false:=lB fun e=>h3 ((amI _).1 e)
   refine Nz1 (And.intro e1 (And.intro e2 (aL (show ((i:Nat):Int)<(s.length:Nat) by omega)))) ?_;exact⟨(i+1,j,out),rfl,hC.skip h2 h3,by simp only; omega⟩
  ·have hc:i=s.length\/∃ h:i<s.length,s[i]=47:=by
    by_cases e:i<s.length
    ·exact .inr ⟨e,Classical.byContradiction fun h=>hi ⟨e,e,h⟩⟩
    ·exact .inl A7
   have hw:1<=s.length->i<s.length->∃ h:i<s.length,s[i]=47:=fun _ h=>hc.resolve_left A7
   have e1:∃ b:Bool,decide (((i:Nat):Int)<(s.length:Nat))=b:=⟨_,rfl⟩
   rcases Nat.eq_zero_or_pos i with rfl | hp
   ·obtain rfl:=hC.z rfl;have hF:Cut s 1 1 []:=Cut.first (hc.imp (fun h=>h.symm) id);rcases hc with hc | ⟨hc,hx⟩
    ·have e1:decide (((0:Nat):Int)<(s.length:Nat))=false:=lB A7;have e1':decide ((0:Int)<(s.length:Nat))=false:=lB A7;refine Nz1 (And.intro e1 e1') ?_;exact⟨(1,1,[]),rfl,hF,by simp only; omega⟩
    ·have e1:decide (((0:Nat):Int)<(s.length:Nat))=true:=lC A7;have e1':decide ((0:Int)<(s.length:Nat))=true:=lC A7;have e2:decide (((s[0].toNat:Nat):Int)=47)=true:=lC ((amI _).2 hx);refine Nz1 (And.intro e1 (And.intro e1' (And.intro e2 (aL (show ((0:Nat):Int)<(s.length:Nat) by omega))))) ?_;exact⟨(1,1,[]),rfl,hF,by simp only; omega⟩
   ·have na:i<=s.length:=by omega
    have e3:decide ((0:Int)<((i:Nat):Int))=true:=lC A7;have e4:(((i:Nat):Int)-(j:Nat)).toNat=i-j:=by omega
    have e5:(0:Int)<=(j:Nat)/\((j:Nat):Int)<=(i:Nat)/\((i:Nat):Int)<=(s.length:Nat):=by omega
    have hB:=hC.bad hp na hc;have hN:=hC.next hp na hc;have hO:=bT ((s.drop j).take (i-j)) B0;obtain⟨nm,mr⟩:∃ nm,(s.drop j).take (i-j)=nm:=⟨_,rfl⟩
    rw[mr] at hB hN hO;rcases hc with hc | ⟨hc,hx⟩
    ·have e1:decide (((i:Nat):Int)<(s.length:Nat))=false:=lB A7;refine Nz1 (And.intro e1 (And.intro e3 (And.intro e4 (And.intro e5 mr)))) ?_;cases hn:aP nm with
     | false=>
      rw[hn] at hO
      (first|refine cI hP1 (hO) rfl rfl ?_|refine cH hP1 (hO) rfl rfl ?_)
      simp +decide (maxSteps:=9^9) (disch:=omega) only[↓SB0,SX,seval,hQ,hQ1,hB (.inl hn) h0,lW2]
     | true=>
      rw[hn] at hO;by_cases lf:out.length=30
      ·(first|refine cI hP1 (hO) rfl rfl ?_|refine cH hP1 (hO) rfl rfl ?_)
       simp +decide (maxSteps:=9^9) (disch:=omega) only[↓SB0,SX,seval,hQ,hQ1,lf,hB (.inr lf) h0,lW2]
      ·have e6:decide (((out.length:Nat):Int)=30)=false:=lB A7;have dz:=hN hn A7;refine Kz1 (And.intro e6 aqg) (hO) ?_;exact⟨(i+1,i+1,out++[nm]),rfl,dz,by simp only; omega⟩
    ·have e1:decide (((i:Nat):Int)<(s.length:Nat))=true:=lC A7;have e2:decide (((s[i].toNat:Nat):Int)=47)=true:=lC ((amI _).2 hx);refine Nz1 (And.intro e1 (And.intro e2 (And.intro e3 (And.intro e4 (And.intro e5 (And.intro mr (aL (show ((i:Nat):Int)<(s.length:Nat) by omega)))))))) ?_;cases hn:aP nm with
     | false=>
      rw[hn] at hO
      (first|refine cI hP1 (hO) rfl rfl ?_|refine cH hP1 (hO) rfl rfl ?_)
      simp +decide (maxSteps:=9^9) (disch:=omega) only[↓SB0,SX,seval,hQ,hQ1,hB (.inl hn) h0,lW2]
     | true=>
      rw[hn] at hO;by_cases lf:out.length=30
      ·(first|refine cI hP1 (hO) rfl rfl ?_|refine cH hP1 (hO) rfl rfl ?_)
       simp +decide (maxSteps:=9^9) (disch:=omega) only[↓SB0,SX,seval,hQ,hQ1,lf,hB (.inr lf) h0,lW2]
      ·have e6:decide (((out.length:Nat):Int)=30)=false:=lB A7;have dz:=hN hn A7;refine Kz1 (And.intro e6 aqg) (hO) ?_;exact⟨(i+1,i+1,out++[nm]),rfl,dz,by simp only; omega⟩
 ·obtain rfl:i=s.length+1:=by omega
  cases s with
  | nil=>
   simp +decide (maxSteps:=9^9) (disch:=omega) only[↓SB0,SX,seval,hQ,hQ1,rI (s:=[]) A8,lW2]
  | cons c s=>
   have e7:decide ((((s.length+1:Nat)):Int)=0)=false:=lB A7;have e8:(0:Int)<((s.length+1:Nat):Int):=by omega
   by_cases hc:c=47
   ·subst hc;simp +decide (maxSteps:=9^9) (disch:=omega) only[↓SB0,SX,seval,hQ,hQ1,e7,e8,lC4,hC.done rfl h0]
   ·have e9:decide (((c.toNat:Nat):Int)=47)=false:=lB fun e=>hc ((amI _).1 e)
    simp +decide (maxSteps:=9^9) (disch:=omega) only[↓SB0,SX,seval,hQ,hQ1,e7,e8,lC4,e9,rI (s:=c::s) (by simpa using hc),lW2]
theorem aen (l:List aA) (hl:l.length<2^30) (hs:∀ n ∈ l,n.length<=14):Sp 287 [.ext 1 (l.map fD)] (.str (bY l)) U1:=by
 by_cases h0:l=[]
 ·subst h0;refine Vw rX [] 29 [] fun w hP hQ=>?_
  rfl
 have hp:0<l.length:=lR4.2 h0;have hd:decide (((l.length:Nat):Int)=0)=false:=lB A7;refine Vw rX [] 29 [] fun w hP hQ=>?_
 refine Nz hd ?_;refine fB [2] ?_;refine N ?_;refine aN [2] (fun i:Nat=>[(3,.str (fM (l.take i))),(4,.int .i64 (i:Nat))]) (fun i=>i<=l.length/\(i=0\/l.length<=30)/\∀ k,k<i->(h:k<l.length)->aP l[k]=true) (fun i=>l.length-i) (0) hP hQ (rfl) A8 ?_;rintro i ⟨hi,lf,hk⟩ w1 hP1 hQ1;refine N1 ?_;refine Jf (fun h1=>?_) fun h1=>?_
 ·have aa:i<l.length:=by omega
  have hO:=bT (l[i]) (by have:=hs _ (lI aa); omega);have hm:=lI aa;simp +decide (maxSteps:=9^9) (disch:=omega) only[↓SB0,SX,seval,hQ,hQ1,aL h1,fD];cases hn:aP (l[i]'A7) with
  | false=>
   rw[hn] at hO;have e:bY l=[]:=by rw[bY,lO (by simp[abY hm hn])]
   exact Kz1 e (hO) trivial
  | true=>
   rw[hn] at hO;by_cases hg:30<l.length
   ·have e:bY l=[]:=by rw[bY,lO (by simp[x7 hg])]
    have hg':decide ((30:Int)<(l.length:Nat))=true:=lC A7;exact Kz1 (And.intro e hg') (hO) trivial
   ·have hg':decide ((30:Int)<(l.length:Nat))=false:=lB A7;have hb:(fM (l.take i)).length<=450:=vJ (nZ (by rw[lH]; omega) fun n hn=>by
     obtain⟨k,cn,rfl⟩:=lM1 hn;rw[lG5];exact hk k (by simp at cn; omega) _)
    have hc:=hs _ hm;have fl:(fM (l.take i)++[47]).length+(l[i]).length<=4611686018427387904:=by simp only[lU,List.length_singleton]; omega
    have he:fM (l.take i)++[47]++l[i]=fM (l.take (i+1)):=by rw[lV aa,ahm]; simp
    (first|refine cI hP1 (hO) rfl rfl ?_|refine cH hP1 (hO) rfl rfl ?_)
    simp +decide (maxSteps:=9^9) (disch:=omega) only[↓SB0,SX,seval,hQ,hQ1,hg',aL h1,fD,fl,he];exact⟨i+1,rfl,⟨by omega,.inr A7,fun k cn bd=>by
     by_cases e:k=i
     ·subst e; exact hn
     ·exact hk k A7 bd⟩,by omega⟩
 ·obtain rfl:i=l.length:=by omega
  have e:bY l=fM l:=by
   rw[bY,lK (nZ A7 fun n hn=>by obtain⟨k,h,rfl⟩:=lM1 hn; exact hk k h h),lO h0]
  simp +decide (maxSteps:=9^9) (disch:=omega) only[↓SB0,SX,seval,hQ,hQ1,e,lX]
theorem fO (s:aA) (hl:s.length<2^40):Sp 259 [.str s] (.tup [.str (aF s).1,.str (aF s).2.1,.bool (aF s).2.2]) U1:=by
 have hS:=dL s hl;have hp:=rJ (s:=s);have hf:=iF s;unfold aF;generalize aB s=x at *;obtain⟨l,b⟩:=x;cases b with
 | false=>
  rw[lO A8];refine Vw m4 [] 253 [] fun w hP hQ=>?_
  exact K hS trivial
 | true=>
  cases hk:l.length with
  | zero=>
   obtain rfl:l=[]:=lO1.1 hk;rw[lO A8];refine Vw m4 [] 253 [] fun w hP hQ=>?_
   exact K hS trivial
  | succ k=>
   have am:l≠[]:=fun e=>by rw[e] at hk; simp at hk
   rw[lK ⟨rfl,am⟩];have hJ:=aen l.dropLast (by simp; simp only at hf; omega) fun n hn=>hp n (List.dropLast_subset _ hn)
   rw[List.dropLast_eq_take,hk] at hJ ⊢;simp only[Nat.add_sub_cancel,lL3] at hJ ⊢;have hg:=vN hk;have h0:(decide (((k+1:Nat):Int)=0))=false:=lB A7;have h1:(((k+1:Nat):Int)-1)=(k:Int):=by omega
   have h2:((k:Int)-0).toNat=k:=by omega
   have h3:0+k<=k+1:=by omega
   have h4:=anF (n:=k) (by simp only[hk] at hf; omega);refine Vw m4 [] 253 [] fun w hP hQ=>?_
   refine Kz (And.intro hk (And.intro h0 (And.intro h1 (And.intro h2 (And.intro h3 h4))))) (hS) ?_
   (first|refine cI hP (hJ) rfl rfl ?_|refine cH hP (hJ) rfl rfl ?_)
   simp +decide (maxSteps:=9^9) (disch:=omega) only[↓SB0,SX,seval,hQ,hk,h0,h1,h2,h3,h4,hg,fD]
theorem amJ (a b:aA) (ha:a.length<2^40) (hb:b.length<2^40):Sp 266 [.str a,.str b] (.bool (rE a b)) U2:=by
 have hS:=dL a ha;have hT:=dL b hb;have hf:=iF a;have hg:=iF b;unfold rE;generalize aB a=x at *;generalize aB b=y at *;obtain⟨l,u⟩:=x;obtain⟨m,v⟩:=y;simp only at *;cases u with
 | false=>
  refine Vw pV [] 1011 [] fun w hP hQ=>?_
  refine K hS ?_;exact K hT trivial
 | true=>
  cases v with
  | false=>
   refine Vw pV [] 1011 [] fun w hP hQ=>?_
   refine K hS ?_;exact K hT trivial
  | true=>
   by_cases hn:l.length<=m.length
   ·rw[vO hn];have h0:decide (((m.length:Nat):Int)<(l.length:Nat))=false:=lB A7;refine Vw pV [] 1011 [] fun w hP hQ=>?_
    refine K hS ?_;refine Kz h0 (hT) ?_;refine fB [4] ?_;refine N ?_;refine aN [4] (fun i:Nat=>[(9,.int .i64 i)]) (fun i=>i<=l.length/\l.take i=m.take i) (fun i=>l.length-i) (0) hP hQ (rfl) A8 ?_;rintro i ⟨hi,dt⟩ w1 hP1 hQ1;refine N1 ?_;refine Jf (fun h1=>?_) fun h1=>?_
    ·have h5:((i:Nat):Int)<(m.length:Nat):=by omega
     simp +decide (maxSteps:=9^9) (disch:=omega) only[↓SB0,SX,seval,hQ,hQ1,aL h1,aL h5,fD];refine Jf (fun h2=>?_) fun h2=>?_
     ·refine N1 ?_;exact⟨i+1,rfl,⟨by omega,eL dt _ _ h2⟩,by omega⟩
     ·refine N1 ?_;rw[lB (show ¬ l=m.take l.length from fun e=>h2 (by
       have:=congrArg (fun x=>x[i]?) e;simp only[lT] at this;rw[lK A7,lF A7,lF A7] at this;exact Option.some.inj this))]
    ·obtain rfl:i=l.length:=by omega
     rw[lX] at dt;refine N1 ?_;rw[lC dt]
   ·rw[vP A7];have h0:decide (((m.length:Nat):Int)<(l.length:Nat))=true:=lC A7;refine Vw pV [] 1011 [] fun w hP hQ=>?_
    refine K hS ?_;exact Kz h0 (hT) trivial
section
section
variable {α:Type} {key:α->aA}
theorem iY {l:List α} {e:α} {k:Nat} (hk:k<=l.length) (h1:∀ j,j<k->(h:j<l.length)->¬ key e<key l[j]) (h2:∀ h:k<l.length,key e<key l[k]):aed key l e=l.take k++e::l.drop k:=by
 induction l generalizing k with
 | nil=>simp at hk; subst hk; rfl
 | cons f l ih=>
  rw[aed];cases k with
  | zero=>have h:=h2 A8; simp only[lU3] at h; rw[lK h]; rfl
  | succ k=>
   have h:=h1 0 A7 A8;simp only[lU3] at h;rw[lO h,ih (k:=k) (by simpa using hk) (fun j hj h=>h1 (j+1) A7 (by simpa using h)) (fun h=>h2 (by simpa using h))];rfl
theorem qD {l:List α} (hu:UpK key l) {e:α} {k:Nat} (hk:k<=l.length) (h1:∀ j,k<=j->(h:j<l.length)->key e<key l[j]) (h2:k=0\/∃ h:k-1<l.length,¬ key e<key l[k-1]):aed key l e=l.take k++e::l.drop k:=by
 refine iY hk (fun j hj h aa=>?_) (fun h=>h1 k (lE1 _) h);rcases h2 with h2 | ⟨h2,h3⟩
 ·omega
 ·by_cases e1:j=k-1
  ·subst e1; exact h3 aa
  ·exact h3 (List.lt_trans aa (lN2.1 hu j (k-1) h h2 A7))
theorem amK {l:List α} {e:α} {k:Nat} (h:l.findIdx? (fun x=>decide (key e<key x))=some k):k<l.length/\aed key l e=l.take k++e::l.drop k:=by
 obtain⟨h1,h2,h3⟩:=lC1.1 h;refine⟨h1,iY A7 (fun j hj hl=>?_) (fun _=>by simpa using h2)⟩;simpa using h3 j hj
theorem amL {l:List α} {e:α} (h:l.findIdx? (fun x=>decide (key e<key x))=none):aed key l e=l.take l.length++e::l.drop l.length:=by
 rw[lO2] at h;exact iY (lE1 _) (fun j hj hl=>by simpa using h _ (lI hl)) (fun h=>absurd h (Nat.lt_irrefl _))
theorem afO {l:List α} (hu:UpK key l) {n:aA} {k:Nat} (h:l.findIdx? (fun x=>decide (n<=key x))=some k):∃ hk:k<l.length,(key l[k]=n->acJ key l n=l.eraseIdx k)/\(key l[k]≠n->acJ key l n=l):=by
 obtain⟨h1,h2,h3⟩:=lC1.1 h;have low:∀ j,j<k->(h:j<l.length)->key l[j]≠n:=fun j hj hl e=>by
  have:=h3 j hj;simp only[decide_eq_true_eq] at this;exact this (by rw[e]; exact List.le_refl _)
 simp only[decide_eq_true_eq] at h2;have high:∀ j,k<j->(h:j<l.length)->key l[j]≠n:=fun j hj hl e=>by
  have:=lN2.1 hu k j h1 hl hj;rw[e] at this;exact absurd h2 (List.not_le.2 this)
 refine⟨h1,fun he=>?_,fun he=>afx fun x hx=>?_⟩
 ·have e1:l=l.take k++l[k]::l.drop (k+1):=by rw[<-lE2 h1,lJ]
  have a1:(l.take k).filter (fun e=>decide (key e≠n))=l.take k:=lU4.2 fun x hx=>by
   obtain⟨j,hj,rfl⟩:=lM1 hx;rw[lG5];simpa using low j (by simp at hj; omega) _
  have a2:(l.drop (k+1)).filter (fun e=>decide (key e≠n))=l.drop (k+1):=lU4.2 fun x hx=>by
   obtain⟨j,hj,rfl⟩:=lM1 hx;rw[List.getElem_drop];simpa using high _ A7 _
  rw[lB3]
  conv=>lhs; rw[e1]
  rw[acJ,lQ3,List.filter_cons,lO (by simpa using he),a1,a2]
 ·obtain⟨j,hj,rfl⟩:=lM1 hx;by_cases e1:j=k
  ·subst e1; exact he
  ·by_cases e2:j<k
   ·exact low j e2 hj
   ·exact high j A7 hj
theorem amM {l:List α} {n:aA} (h:l.findIdx? (fun x=>decide (n<=key x))=none):acJ key l n=l:=by
 rw[lO2] at h;refine afx fun x hx e=>?_
 have:=h x hx;rw[e] at this;simp[List.le_refl] at this
theorem amN {l:List α} (hu:UpK key l) {e:α} {k:Nat} (hk:k<l.length) (he:key l[k]=key e):aed key (acJ key l (key e)) e=l.set k e:=by
 have hc:acJ key l (key e)=l.eraseIdx k:=by
  have:l.findIdx? (fun x=>decide (key e<=key x))=some k:=by
   rw[lC1];refine⟨hk,by simp[he,List.le_refl],fun j hj=>?_⟩;have:=lN2.1 hu j k A7 hk hj;rw[he] at this;simpa using List.not_le.2 this
  exact(afO hu this).2.1 he
 rw[hc,iY (k:=k)]
 ·apply lB2;intro j;rw[lB3,lV3];have lt:(l.take k).length=k:=by simp; omega
  rw[lA4 A7,List.take_take,Nat.min_self,List.drop_append_of_le_length A7,List.drop_take,lL5,List.take_zero,lI1];by_cases e1:j<k
  ·rw[lS1 A7,lT,lK e1,lO A7]
  ·rw[lJ2 A7,lt];by_cases e2:k=j
   ·subst e2; simp[hk]
   ·rw[lO e2];obtain⟨m,rfl⟩:∃ m,j=k+(m+1):=⟨j-k-1,by omega⟩
    rw[show k+(m+1)-k=m+1 by omega,lT4,lY];congr 1; omega
 ·rw[List.length_eraseIdx]; split <;> omega
 ·intro j hj h;rw[List.getElem_eraseIdx_of_lt (h':=hj),<-he];exact List.lt_asymm (lN2.1 hu j k A7 hk hj)
 ·intro h;rw[List.length_eraseIdx,lK hk] at h;rw[List.getElem_eraseIdx_of_ge (h':=lE1 _),<-he];exact lN2.1 hu k (k+1) hk A7 A7
end
theorem yC {l:List Inode} (h:UpI l) {x:Inode} {k:Nat} (hk:l.findIdx? (fun y=>decide (y.ino=x.ino))=some k):dJ l x=l.set k x:=by
 induction l generalizing k with
 | nil=>simp at hk
 | cons y l ih=>
  obtain⟨a1,a2⟩:=lF2.1 h;rw[List.findIdx?_cons] at hk;rw[dJ];by_cases e:y.ino=x.ino
  ·rw[lK (by simpa using e)] at hk;injection hk with hk
   subst hk;rw[lK e]; rfl
  ·rw[lO (by simpa using e)] at hk;cases hf:l.findIdx? (fun y=>decide (y.ino=x.ino)) with
   | none=>rw[hf] at hk; cases hk
   | some j=>
    rw[hf] at hk;injection hk with hk
    subst hk;obtain⟨j1,j2,_⟩:=lC1.1 hf;have:=a1 _ (lI j1);simp only[decide_eq_true_eq] at j2;rw[lO e,lO A7,ih a2 hf]; rfl
theorem ab9 {l:List Inode} {x:Inode} {k:Nat} (hk:k<=l.length) (h1:∀ j,j<k->(h:j<l.length)->l[j].ino<x.ino) (h2:∀ h:k<l.length,x.ino<l[k].ino):dJ l x=l.take k++x::l.drop k:=by
 induction l generalizing k with
 | nil=>simp at hk; subst hk; rfl
 | cons y l ih=>
  rw[dJ];cases k with
  | zero=>
   have:=h2 A8;simp only[lU3] at this;rw[lO A7,lK this]; rfl
  | succ k=>
   have:=h1 0 A7 A8;simp only[lU3] at this;rw[lO A7,lO A7,ih (k:=k) (by simpa using hk) (fun j hj h=>h1 (j+1) A7 (by simpa using h)) (fun h=>h2 (by simpa using h))];rfl
theorem set_comm {t:Tab} (h:UpI t.inodes) {x y:Inode} (am:x.ino≠y.ino):aG (aG t x) y=aG (aG t y) x:=by
 refine aoN (nC (nC h x) y) (nC (nC h y) x) rfl fun i=>?_
 rw[f6 (nC h x),f6 h,f6 (nC h y),f6 h];by_cases e1:y.ino=i <;> by_cases e2:x.ino=i <;> simp[e1,e2] <;> omega
theorem aca {α:Type} {l:List α} {k:Nat} {h:α} (hk:k<=l.length):(l.take k++h::l.drop k).length=l.length+1:=by simp; omega
theorem acb {α:Type} {l:List α} {k:Nat} {h:α} (hk:k<l.length):((l.take (k+1)++h::l.drop (k+1)))[k]?=some l[k]:=by
 rw[lS1 B0,lT,lK A7,lF hk]
theorem qE {α:Type} {l:List α} {k:Nat} (h x:α) (hk:k<=l.length):(l.take k++h::l.drop k).set k x=l.take k++x::l.drop k:=by
 have:(l.take k).length=k:=by simp; omega
 rw[List.set_append_right _ _ A7];congr 1;rw[this,lL5]; rfl
theorem yD {α:Type} {l:List α} {k:Nat} (hk:k<l.length):l.take (k+1)++l[k]::l.drop (k+1)=l.take k++l[k]::l.drop k:=by
 rw[lV hk,lM2];congr 1;rw[<-lE2 hk]; rfl
end
section
variable {t:Tab}
theorem aoX {s:aA} (hs:(aB s).2=true) {i:Int} (h:eS (aU t) (aB s).1 1=some i):cE t s=match aU t i with
  | some x=>.ok x
  | none=>.error 2:=by
 rw[cE,(afA hs).2 h,lK rfl]
 all_goals (cases aU t i <;> rfl)
theorem fP {s:aA} {c:Int} (h:cE t s=.error c):c≠0:=by
 unfold cE at h;split at h
 ·split at h
  ·cases h
  ·cases h; decide
 ·rename_i e; cases h; exact e
theorem jQ {s:aA} {c:Int} (h:iK t s=.error c):c≠0:=by
 unfold iK at h;split at h
 ·split at h
  ·cases h
  ·cases h; decide
 ·rename_i e; cases h; exact fP e
end
end Go.Proofs.YtnfeefcnblondaaGreatDoor.Awp
