/- Contracts of the functions that laws.FnExactDropVol reaches are proved here (part 1). Condition: none. -/
import Derived.Test.YtjmnolhflcjpgaaGreatAwp4
import Derived.Test.YtjmnolhflcjpgaaGreatRows
import Derived.Sort.Walk0
import Derived.Shelf.Lays
import Derived.Shelf.Sort.Plain
import Derived.Shelf.Slices.In.SortNone
import Derived.Shelf.RegionOpenPlain
import Derived.WalkKit
import Derived.Deep.MidRow
import Derived.Deep.LoopGhost
import Derived.Deep.RegionLaw
import Derived.Lib.Walk
import Derived.Sort.WalkB12
import Derived.OpenShut
import Derived.KernelRfl
namespace Go.Proofs.YtjmnolhflcjpgaaGreat.Awp
open I
def c_L_FnExactDropVol:Cmd:=Q (R [n 2 (box 2 (v 0)),n 4 (asg 4 k0)]) (Q (R [n 5 (asg 5 (k 1048576))]) (Q (R [n 16 (ld 16 (v 2) 2 true),n 17 (mov 17 (v 5)),n 18 (call (some 18) 8 [v 16,v 17]),n 5 (asg 5 (v 18))]) (Q (Q (R [n 19 (mov 19 (v 5)),n 20 (bin 20 .lss (v 19) (k 0))]) (F (v 20) (Q (R [n 4 (asg 4 k1)]) .ret) .skip)) (Q (R [n 22 (ld 22 (v 2) 2 true),n 23 (call (some 23) 10 [v 22]),n 24 (mov 24 (v 1)),n 25 (call (some 25) 17 [v 23,v 24]),n 21 (mov 21 (v 25)),n 26 (xtr 26 (v 21) 0),n 27 (xtr 27 (v 21) 1),n 6 (alc 6 [.sl 6 [],.int .i64 0]),m (st (v 6) (v 26) 2),n 7 (asg 7 (v 27))]) (Q (R [n 28 (ld 28 (v 2) 2 true),n 29 (call (some 29) 10 [v 28]),n 8 (alc 8 [.sl 6 [],.int .i64 0]),m (st (v 8) (v 29) 2)]) (Q (R [n 31 (ld 31 (v 8) 2 true),n 32 (mov 32 (v 1)),n 33 (call (some 33) 18 [v 31,v 32]),n 30 (mov 30 (v 33)),n 34 (xtr 34 (v 30) 0),n 35 (xtr 35 (v 30) 1),n 9 (alc 9 [.sl 6 [],.int .i64 0]),m (st (v 9) (v 34) 2),n 10 (asg 10 (v 35))]) (Q (Q (R [n 36 (ld 36 (v 9) 2 true),n 37 (ld 37 (v 6) 2 true),n 38 (call (some 38) 12 [v 36,v 37]),n 39 (un 39 .not (v 38)),n 40 (mov 40 (v 39)),h 40 false 41 (mov 41 (v 10)),h 40 false 42 (mov 42 (v 7)),h 40 false 43 (bin 43 .neq (v 41) (v 42)),n 44 (pck 44 (v 40) k1 (v 43))]) (F (v 44) (Q (R [n 4 (asg 4 k0)]) .ret) .skip)) (Q (Q (D [0,0,2,7,15] [n 45 (ld 45 (v 8) 2 true),n 46 (ld 46 (v 2) 2 true),n 47 (call (some 47) 10 [v 46]),n 48 (call (some 48) 12 [v 45,v 47]),n 49 (un 49 .not (v 48))]) (F (v 49) (Q (R [n 4 (asg 4 k0)]) .ret) .skip)) (Q (R [n 11 (asg 11 (k 1))]) (Q (R [n 50 (ld 50 (v 8) 2 true),n 51 (mov 51 (v 11)),n 52 (call (some 52) 13 [v 50,v 51]),n 11 (asg 11 (v 52))]) (Q (Q (R [n 53 (mov 53 (v 11)),n 54 (bin 54 .lss (v 53) (k 0)),n 55 (mov 55 (v 54)),h 55 false 56 (ld 56 (v 9) 2 true),h 55 false 57 (ld 57 (v 6) 2 true),h 55 false 58 (call (some 58) 12 [v 56,v 57]),h 55 false 59 (un 59 .not (v 58)),n 60 (pck 60 (v 55) k1 (v 59)),n 61 (mov 61 (v 60)),h 61 false 62 (mov 62 (v 10)),h 61 false 63 (mov 63 (v 7)),h 61 false 64 (bin 64 .neq (v 62) (v 63)),n 65 (pck 65 (v 61) k1 (v 64))]) (F (v 65) (Q (R [n 4 (asg 4 k0)]) .ret) .skip)) (Q (R [n 12 (asg 12 (k 1))]) (Q (R [n 66 (ld 66 (v 9) 2 true),n 67 (mov 67 (v 12)),n 68 (call (some 68) 13 [v 66,v 67]),n 12 (asg 12 (v 68))]) (Q (R [n 13 (asg 13 (k 1))]) (Q (R [n 69 (ld 69 (v 9) 2 true),n 70 (mov 70 (v 13)),n 71 (call (some 71) 14 [v 69,v 70]),n 13 (asg 13 (v 71))]) (Q (Q (R [n 72 (mov 72 (v 13)),n 73 (bin 73 .lss (v 72) (k 0))]) (F (v 73) (Q (R [n 4 (asg 4 k0)]) .ret) .skip)) (Q (Q (R [n 74 (mov 74 (v 13)),n 75 (mov 75 (v 12)),n 76 (bin 76 .neq (v 74) (v 75))]) (F (v 76) (Q (R [n 4 (asg 4 k0)]) .ret) .skip)) (Q (R [n 78 (ld 78 (v 2) 2 true),n 79 (call (some 79) 10 [v 78]),n 80 (mov 80 (v 1)),n 81 (call (some 81) 18 [v 79,v 80]),n 77 (mov 77 (v 81)),n 82 (xtr 82 (v 77) 0),n 83 (xtr 83 (v 77) 1),n 14 (alc 14 [.sl 6 [],.int .i64 0]),m (st (v 14) (v 82) 2),n 15 (asg 15 (v 83))]) (Q (Q (R [n 84 (ld 84 (v 14) 2 true),n 85 (ld 85 (v 6) 2 true),n 86 (call (some 86) 12 [v 84,v 85]),n 87 (un 87 .not (v 86)),n 88 (mov 88 (v 87)),h 88 false 89 (mov 89 (v 15)),h 88 false 90 (mov 90 (v 7)),h 88 false 91 (bin 91 .neq (v 89) (v 90)),n 92 (pck 92 (v 88) k1 (v 91))]) (F (v 92) (Q (R [n 4 (asg 4 k0)]) .ret) .skip)) (Q (R [n 13 (asg 13 (k 1))]) (Q (R [n 93 (ld 93 (v 9) 2 true),n 94 (mov 94 (v 13)),n 95 (call (some 95) 14 [v 93,v 94]),n 13 (asg 13 (v 95))]) (Q (Q (R [n 96 (mov 96 (v 13)),n 97 (bin 97 .lss (v 96) (k 0))]) (F (v 97) (Q (R [n 4 (asg 4 k0)]) .ret) .skip)) (Q (Q (R [n 98 (mov 98 (v 13)),n 99 (mov 99 (v 12)),n 100 (bin 100 .neq (v 98) (v 99))]) (F (v 100) (Q (R [n 4 (asg 4 k0)]) .ret) .skip)) (Q (R [n 4 (asg 4 k1)]) .ret))))))))))))))))))))))))
def c_L_szFs:Cmd:=Q (R [n 2 (box 2 (v 0)),n 4 (asg 4 (k 0))]) (Q (R [n 5 (fld 5 (v 2) 0),n 6 (ld 6 (v 5) 1 false),n 7 (mov 7 (v 1)),n 8 (call (some 8) 23 [v 6,v 7]),n 1 (asg 1 (v 8))]) (Q (Q (R [n 9 (mov 9 (v 1)),n 10 (bin 10 .lss (v 9) (k 0))]) (F (v 10) (Q (R [n 4 (asg 4 (k (-1)))]) .ret) .skip)) (Q (R [n 11 (mov 11 (v 1)),n 4 (asg 4 (v 11))]) .ret)))
def c_L_toFs:Cmd:=Q (R [n 1 (box 1 (v 0)),n 2 (alc 2 [.sl 6 [],.int .i64 0])]) (Q (R [n 3 (alc 3 [.sl 6 [],.int .i64 0])]) (Q (R [n 4 (fld 4 (v 1) 0),n 5 (ld 5 (v 4) 1 false),n 6 (call (some 6) 29 [v 5]),n 7 (fld 7 (v 3) 0),m (st (v 7) (v 6) 1)]) (Q (R [n 8 (fld 8 (v 1) 1),n 9 (ld 9 (v 8) 1 false),n 10 (fld 10 (v 3) 1),m (st (v 10) (v 9) 1)]) (Q (R [n 11 (ld 11 (v 3) 2 true),m (st (v 2) (v 11) 2)]) .ret))))
def c_L_eqFs:Cmd:=Q (R [n 2 (box 2 (v 0)),n 3 (box 3 (v 1)),n 4 (asg 4 k0)]) (Q (Q (R [n 5 (fld 5 (v 2) 0),n 6 (ld 6 (v 5) 1 false),n 7 (fld 7 (v 3) 0),n 8 (ld 8 (v 7) 1 false),n 9 (call (some 9) 35 [v 6,v 8]),n 10 (un 10 .not (v 9))]) (F (v 10) (Q (R [n 4 (asg 4 k0)]) .ret) .skip)) (Q (Q (R [n 11 (fld 11 (v 2) 1),n 12 (ld 12 (v 11) 1 false),n 13 (fld 13 (v 3) 1),n 14 (ld 14 (v 13) 1 false),n 15 (bin 15 .neq (v 12) (v 14))]) (F (v 15) (Q (R [n 4 (asg 4 k0)]) .ret) .skip)) (Q (R [n 4 (asg 4 k1)]) .ret)))
def c_L_markFs:Cmd:=Q (R [n 2 (box 2 (v 0)),n 4 (asg 4 (k 0))]) (Q (R [n 5 (fld 5 (v 2) 0),n 6 (ld 6 (v 5) 1 false),n 7 (mov 7 (v 1)),n 8 (call (some 8) 36 [v 6,v 7]),n 1 (asg 1 (v 8))]) (Q (R [n 9 (mov 9 (v 1)),n 4 (asg 4 (v 9))]) .ret))
def c_L_heldFs:Cmd:=Q (R [n 2 (box 2 (v 0)),n 4 (asg 4 (k 0))]) (Q (R [n 5 (fld 5 (v 2) 0),n 6 (ld 6 (v 5) 1 false),n 7 (mov 7 (v 1)),n 8 (call (some 8) 37 [v 6,v 7]),n 1 (asg 1 (v 8))]) (Q (Q (R [n 9 (mov 9 (v 1)),n 10 (bin 10 .lss (v 9) (k 0))]) (F (v 10) (Q (R [n 4 (asg 4 (k (-1)))]) .ret) .skip)) (Q (R [n 11 (mov 11 (v 1)),n 4 (asg 4 (v 11))]) .ret)))
def c_S_DropVol:Cmd:=Q (R [n 2 (box 2 (v 0)),n 4 (alc 4 [.sl 6 [],.int .i64 0]),n 5 (asg 5 (k 0))]) (Q (R [n 8 (ld 8 (v 2) 2 true),n 9 (call (some 9) 24 [v 8]),n 6 (alc 6 [.sl 6 [],.int .i64 0]),m (st (v 6) (v 9) 2)]) (Q (R [n 10 (ld 10 (v 2) 2 true),n 11 (mov 11 (v 1)),n 12 (call (some 12) 25 [v 10,v 11]),n 7 (asg 7 (v 12))]) (Q (.blk 0 (Q (R [n 14 (ld 14 (v 2) 2 true),n 15 (call (some 15) 26 [v 14]),n 16 (un 16 .not (v 15)),n 13 (asg 13 (v 16))]) (F (v 13) (Q (R [n 17 (ld 17 (v 6) 2 true),m (st (v 4) (v 17) 2),n 5 (asg 5 (k 1))]) .ret) (Q (R [n 19 (mov 19 (v 7)),n 20 (bin 20 .lss (v 19) (k 0)),n 18 (asg 18 (v 20))]) (F (v 18) (Q (R [n 21 (ld 21 (v 6) 2 true),m (st (v 4) (v 21) 2),n 5 (asg 5 (k 2))]) .ret) .skip))))) (Q (D [0,0,2,0,14,31,0,64,0,256,960,2047,4095,8191] [n 22 (bsl 22 6 []),n 23 (fld 23 (v 6) 0),n 24 (ld 24 (v 23) 1 false),n 25 (mov 25 (v 7)),n 26 (slc 26 (v 24) none (some (v 25)) 6),n 27 (app 27 (v 22) (v 26) 6 72),n 28 (fld 28 (v 6) 0),n 29 (ld 29 (v 28) 1 false),n 30 (mov 30 (v 7)),n 31 (bin 31 .add (v 30) (k 1)),n 32 (slc 32 (v 29) (some (v 31)) none 6),n 33 (app 33 (v 27) (v 32) 6 72),n 34 (fld 34 (v 6) 0),m (st (v 34) (v 33) 1)]) (Q (R [n 35 (ld 35 (v 6) 2 true),m (st (v 4) (v 35) 2),n 5 (asg 5 (k 0))]) .ret)))))
def c_I_DropVol:Cmd:=Q (R [n 2 (box 2 (v 0)),n 4 (alc 4 [.sl 6 [],.int .i64 0]),n 5 (asg 5 (k 0))]) (Q (R [n 7 (ld 7 (v 2) 2 true),n 8 (call (some 8) 30 [v 7]),m (st (v 2) (v 8) 2)]) (Q (Q (R [n 9 (ld 9 (v 2) 2 true),n 10 (call (some 10) 31 [v 9]),n 11 (un 11 .not (v 10))]) (F (v 11) (Q (R [n 12 (ld 12 (v 2) 2 true),m (st (v 4) (v 12) 2),n 5 (asg 5 (k 1))]) .ret) .skip)) (Q (R [n 13 (ld 13 (v 2) 2 true),n 14 (mov 14 (v 1)),n 15 (call (some 15) 33 [v 13,v 14]),n 6 (asg 6 (v 15))]) (Q (Q (R [n 16 (mov 16 (v 6)),n 17 (bin 17 .lss (v 16) (k 0))]) (F (v 17) (Q (R [n 18 (ld 18 (v 2) 2 true),m (st (v 4) (v 18) 2),n 5 (asg 5 (k 2))]) .ret) .skip)) (Q (R [n 19 (fld 19 (v 2) 0),n 20 (ld 20 (v 19) 1 false),n 21 (mov 21 (v 6)),n 22 (mov 22 (v 6)),n 23 (bin 23 .add (v 22) (k 1)),n 24 (call (some 24) 44 [v 20,v 21,v 23]),n 25 (fld 25 (v 2) 0),m (st (v 25) (v 24) 1)]) (Q (R [n 26 (ld 26 (v 2) 2 true),m (st (v 4) (v 26) 2),n 5 (asg 5 (k 0))]) .ret))))))
def c_L_szVolS:Cmd:=Q (R [n 4 (asg 4 (k 0))]) (Q (R [n 6 (mov 6 (v 1)),n 7 (mov 7 (v 0)),n 8 (len 8 (v 7)),n 9 (bin 9 .sub (v 6) (v 8)),n 1 (asg 1 (v 9))]) (Q (Q (R [n 10 (mov 10 (v 1)),n 11 (bin 11 .lss (v 10) (k 0))]) (F (v 11) (Q (R [n 4 (asg 4 (k (-1)))]) .ret) .skip)) (Q (Q (R [n 5 (asg 5 (k 0))]) (.blk 0 (.loop (Q (Q (R [n 12 (mov 12 (v 5)),n 13 (mov 13 (v 0)),n 14 (len 14 (v 13)),n 15 (bin 15 .lss (v 12) (v 14))]) (F (v 15) .skip (.exit 0))) (Q (.blk 1 (Q (R [n 18 (mov 18 (v 0)),n 19 (mov 19 (v 5)),n 20 (idx 20 (v 18) (v 19) 6),n 21 (ld 21 (v 20) 6 true),n 22 (mov 22 (v 1)),n 23 (call (some 23) 47 [v 21,v 22]),n 1 (asg 1 (v 23))]) (Q (R [n 24 (mov 24 (v 1)),n 25 (bin 25 .lss (v 24) (k 0))]) (F (v 25) (Q (R [n 4 (asg 4 (k (-1)))]) .ret) .skip)))) (R [n 16 (mov 16 (v 5)),n 17 (bin 17 .add (v 16) (k 1)),n 5 (asg 5 (v 17))])))))) (Q (R [n 26 (mov 26 (v 1)),n 4 (asg 4 (v 26))]) .ret))))
def c_S_l8Copy:Cmd:=Q (R [n 1 (box 1 (v 0)),n 2 (alc 2 [.sl 6 [],.int .i64 0])]) (Q (R [n 6 (fld 6 (v 1) 1),n 7 (ld 7 (v 6) 1 false),n 8 (bld 8 [.sl 6 [],.int .i64 0] [(1,1,v 7)]),n 3 (alc 3 [.sl 6 [],.int .i64 0]),m (st (v 3) (v 8) 2)]) (Q (Q (R [n 4 (asg 4 (k 0))]) (.blk 0 (.loop (Q (Q (R [n 9 (mov 9 (v 4)),n 10 (fld 10 (v 1) 0),n 11 (ld 11 (v 10) 1 false),n 12 (len 12 (v 11)),n 13 (bin 13 .lss (v 9) (v 12))]) (F (v 13) .skip (.exit 0))) (Q (.blk 1 (Q (R [n 16 (fld 16 (v 1) 0),n 17 (ld 17 (v 16) 1 false),n 18 (mov 18 (v 4)),n 19 (idx 19 (v 17) (v 18) 6),n 20 (ld 20 (v 19) 6 true),n 5 (alc 5 [.int .i64 0,.str [],.bool false,.int .i64 0,.sl 6 [],.int .i64 0]),m (st (v 5) (v 20) 6)]) (Q (R [n 21 (fld 21 (v 5) 4),n 22 (ld 22 (v 21) 2 true),n 23 (call (some 23) 48 [v 22]),n 24 (fld 24 (v 5) 4),m (st (v 24) (v 23) 2)]) (R [n 25 (fld 25 (v 3) 0),n 26 (ld 26 (v 25) 1 false),n 27 (ld 27 (v 5) 6 true),n 28 (bsl 28 6 [v 27]),n 29 (app 29 (v 26) (v 28) 6 72),n 30 (fld 30 (v 3) 0),m (st (v 30) (v 29) 1)])))) (R [n 14 (mov 14 (v 4)),n 15 (bin 15 .add (v 14) (k 1)),n 4 (asg 4 (v 15))])))))) (Q (R [n 31 (ld 31 (v 3) 2 true),m (st (v 2) (v 31) 2)]) .ret)))
def c_S_VolAt:Cmd:=Q (R [n 2 (box 2 (v 0)),n 4 (asg 4 (k 0))]) (Q (Q (R [n 5 (asg 5 (k 0))]) (.blk 0 (.loop (Q (Q (R [n 6 (mov 6 (v 5)),n 7 (fld 7 (v 2) 0),n 8 (ld 8 (v 7) 1 false),n 9 (len 9 (v 8)),n 10 (bin 10 .lss (v 6) (v 9))]) (F (v 10) .skip (.exit 0))) (Q (.blk 1 (Q (R [n 13 (fld 13 (v 2) 0),n 14 (ld 14 (v 13) 1 false),n 15 (mov 15 (v 5)),n 16 (idx 16 (v 14) (v 15) 6),n 17 (fld 17 (v 16) 0),n 18 (ld 18 (v 17) 1 false),n 19 (mov 19 (v 1)),n 20 (bin 20 .eql (v 18) (v 19))]) (F (v 20) (Q (R [n 21 (mov 21 (v 5)),n 4 (asg 4 (v 21))]) .ret) .skip))) (R [n 11 (mov 11 (v 5)),n 12 (bin 12 .add (v 11) (k 1)),n 5 (asg 5 (v 12))])))))) (Q (R [n 4 (asg 4 (k (-1)))]) .ret))
def c_S_FsOk:Cmd:=Q (R [n 1 (box 1 (v 0)),n 2 (asg 2 k0)]) (Q (Q (R [n 5 (fld 5 (v 1) 0),n 6 (ld 6 (v 5) 1 false),n 7 (len 7 (v 6)),n 8 (bin 8 .gtr (v 7) (k 6)),n 9 (mov 9 (v 8)),h 9 false 10 (fld 10 (v 1) 1),h 9 false 11 (ld 11 (v 10) 1 false),h 9 false 12 (call (some 12) 27 [v 11,k 1,k 99]),h 9 false 13 (un 13 .not (v 12)),n 14 (pck 14 (v 9) k1 (v 13))]) (F (v 14) (Q (R [n 2 (asg 2 k0)]) .ret) .skip)) (Q (Q (R [n 3 (asg 3 (k 0))]) (.blk 0 (.loop (Q (Q (R [n 15 (mov 15 (v 3)),n 16 (fld 16 (v 1) 0),n 17 (ld 17 (v 16) 1 false),n 18 (len 18 (v 17)),n 19 (bin 19 .lss (v 15) (v 18))]) (F (v 19) .skip (.exit 0))) (Q (.blk 1 (Q (R [n 22 (fld 22 (v 1) 0),n 23 (ld 23 (v 22) 1 false),n 24 (mov 24 (v 3)),n 25 (idx 25 (v 23) (v 24) 6),n 26 (ld 26 (v 25) 6 true),n 4 (alc 4 [.int .i64 0,.str [],.bool false,.int .i64 0,.sl 6 [],.int .i64 0]),m (st (v 4) (v 26) 6)]) (Q (D [0,1,3,7,15,31,15,79,255,511,1023,2047,4095,8191,16383,32767,16383,81919,262143,524287,1048575,16383,2113535,8388607,16777215,33554431,67108863,134217727,268435455,536870911,1073741823,2147483647,4294967295,8589934591,8589934591,25769803775,68719476735,8589934591,274877906943,549755813887,1099511627775,2199023255551,4398046511103,8796093022207,17592186044415,35184372088831,70368744177663,140737488355327,281474976710655,562949953421311,1125899906842623,2251799813685247,4503599627370495,9007199254740991,18014398509481983,36028797018963967,9007199254740991,81064793292668927,288230376151711743,576460752303423487] [n 27 (fld 27 (v 4) 0),n 28 (ld 28 (v 27) 1 false),n 29 (bin 29 .lss (v 28) (k 1)),n 30 (mov 30 (v 29)),h 30 false 31 (fld 31 (v 4) 0),h 30 false 32 (ld 32 (v 31) 1 false),h 30 false 33 (fld 33 (v 1) 1),h 30 false 34 (ld 34 (v 33) 1 false),h 30 false 35 (bin 35 .geq (v 32) (v 34)),n 36 (pck 36 (v 30) k1 (v 35)),n 37 (mov 37 (v 36)),h 37 false 38 (mov 38 (v 3)),h 37 false 39 (bin 39 .gtr (v 38) (k 0)),h 37 false 40 (mov 40 (v 39)),h 40 true 41 (fld 41 (v 1) 0),h 40 true 42 (ld 42 (v 41) 1 false),h 40 true 43 (mov 43 (v 3)),h 40 true 44 (bin 44 .sub (v 43) (k 1)),h 40 true 45 (idx 45 (v 42) (v 44) 6),h 40 true 46 (fld 46 (v 45) 0),h 40 true 47 (ld 47 (v 46) 1 false),h 40 true 48 (fld 48 (v 4) 0),h 40 true 49 (ld 49 (v 48) 1 false),h 40 true 50 (bin 50 .geq (v 47) (v 49)),h 37 false 51 (pck 51 (v 40) (v 50) k0),n 52 (pck 52 (v 37) k1 (v 51)),n 53 (mov 53 (v 52)),h 53 false 54 (fld 54 (v 4) 1),h 53 false 55 (ld 55 (v 54) 1 false),h 53 false 56 (call (some 56) 38 [v 55]),h 53 false 57 (un 57 .not (v 56)),n 58 (pck 58 (v 53) k1 (v 57)),n 59 (mov 59 (v 58)),h 59 false 60 (ld 60 (v 1) 2 true),h 59 false 61 (fld 61 (v 4) 1),h 59 false 62 (ld 62 (v 61) 1 false),h 59 false 63 (call (some 63) 49 [v 60,v 62]),h 59 false 64 (mov 64 (v 3)),h 59 false 65 (bin 65 .neq (v 63) (v 64)),n 66 (pck 66 (v 59) k1 (v 65)),n 67 (mov 67 (v 66)),h 67 false 68 (fld 68 (v 4) 3),h 67 false 69 (ld 69 (v 68) 1 false),h 67 false 70 (call (some 70) 27 [v 69,k 32,k 4000]),h 67 false 71 (un 71 .not (v 70)),n 72 (pck 72 (v 67) k1 (v 71)),n 73 (mov 73 (v 72)),h 73 false 74 (fld 74 (v 4) 4),h 73 false 75 (ld 75 (v 74) 2 true),h 73 false 76 (call (some 76) 50 [v 75]),h 73 false 77 (un 77 .not (v 76)),n 78 (pck 78 (v 73) k1 (v 77)),n 79 (mov 79 (v 78)),h 79 false 80 (fld 80 (v 4) 4),h 79 false 81 (ld 81 (v 80) 2 true),h 79 false 82 (call (some 82) 28 [v 81]),h 79 false 83 (fld 83 (v 4) 3),h 79 false 84 (ld 84 (v 83) 1 false),h 79 false 85 (bin 85 .gtr (v 82) (v 84)),n 86 (pck 86 (v 79) k1 (v 85))]) (F (v 86) (Q (R [n 2 (asg 2 k0)]) .ret) .skip)))) (R [n 20 (mov 20 (v 3)),n 21 (bin 21 .add (v 20) (k 1)),n 3 (asg 3 (v 21))])))))) (Q (R [n 2 (asg 2 k1)]) .ret)))
def c_S_l1In:Cmd:=Q (R [n 6 (asg 6 k0)]) (Q (R [n 7 (mov 7 (v 0)),n 8 (mov 8 (v 1)),n 9 (bin 9 .geq (v 7) (v 8)),n 10 (mov 10 (v 9)),h 10 true 11 (mov 11 (v 0)),h 10 true 12 (mov 12 (v 2)),h 10 true 13 (bin 13 .leq (v 11) (v 12)),n 14 (pck 14 (v 10) (v 13) k0),n 6 (asg 6 (v 14))]) .ret)
def c_S_UsageOf:Cmd:=Q (R [n 1 (box 1 (v 0)),n 2 (asg 2 (k 0))]) (Q (R [n 3 (asg 3 (k 0))]) (Q (Q (R [n 4 (asg 4 (k 0))]) (.blk 0 (.loop (Q (Q (R [n 7 (mov 7 (v 4)),n 8 (fld 8 (v 1) 0),n 9 (ld 9 (v 8) 1 false),n 10 (len 10 (v 9)),n 11 (bin 11 .lss (v 7) (v 10))]) (F (v 11) .skip (.exit 0))) (Q (.blk 1 (Q (R [n 14 (fld 14 (v 1) 0),n 15 (ld 15 (v 14) 1 false),n 16 (mov 16 (v 4)),n 17 (idx 17 (v 15) (v 16) 6),n 18 (ld 18 (v 17) 6 true),n 5 (alc 5 [.int .i64 0,.int .i64 0,.int .i64 0,.sl 1 [],.sl 2 [],.sl 2 []]),m (st (v 5) (v 18) 6)]) (Q (R [n 19 (mov 19 (v 3)),n 20 (bin 20 .add (v 19) (k 32)),n 21 (fld 21 (v 5) 3),n 22 (ld 22 (v 21) 1 false),n 23 (len 23 (v 22)),n 24 (bin 24 .add (v 20) (v 23)),n 3 (asg 3 (v 24))]) (Q (R [n 6 (asg 6 (k 0))]) (.blk 2 (.loop (Q (Q (R [n 25 (mov 25 (v 6)),n 26 (fld 26 (v 5) 5),n 27 (ld 27 (v 26) 1 false),n 28 (len 28 (v 27)),n 29 (bin 29 .lss (v 25) (v 28))]) (F (v 29) .skip (.exit 2))) (Q (.blk 3 (D [0,0,2,0,14,30,62,126,255,0,512,0,3584,7680,15872,32256,65535,131071] [n 32 (mov 32 (v 3)),n 33 (fld 33 (v 5) 5),n 34 (ld 34 (v 33) 1 false),n 35 (mov 35 (v 6)),n 36 (idx 36 (v 34) (v 35) 2),n 37 (fld 37 (v 36) 0),n 38 (ld 38 (v 37) 1 false),n 39 (lens 39 (v 38)),n 40 (bin 40 .add (v 32) (v 39)),n 41 (fld 41 (v 5) 5),n 42 (ld 42 (v 41) 1 false),n 43 (mov 43 (v 6)),n 44 (idx 44 (v 42) (v 43) 2),n 45 (fld 45 (v 44) 1),n 46 (ld 46 (v 45) 1 false),n 47 (lens 47 (v 46)),n 48 (bin 48 .add (v 40) (v 47)),n 3 (asg 3 (v 48))])) (R [n 30 (mov 30 (v 6)),n 31 (bin 31 .add (v 30) (k 1)),n 6 (asg 6 (v 31))]))))))))) (R [n 12 (mov 12 (v 4)),n 13 (bin 13 .add (v 12) (k 1)),n 4 (asg 4 (v 13))])))))) (Q (R [n 49 (mov 49 (v 3)),n 2 (asg 2 (v 49))]) .ret)))
def c_L_toVolS:Cmd:=Q (R [n 2 (asg 2 (.c (.own 6 [])))]) (Q (R [n 5 (mov 5 (v 0)),n 6 (len 6 (v 5)),n 7 (mks 7 (v 6) (v 6) 6 72 [.int .i64 0,.str [],.bool false,.int .i64 0,.sl 6 [],.int .i64 0]),n 3 (asg 3 (v 7))]) (Q (Q (R [n 4 (asg 4 (k 0))]) (.blk 0 (.loop (Q (Q (R [n 8 (mov 8 (v 4)),n 9 (mov 9 (v 0)),n 10 (len 10 (v 9)),n 11 (bin 11 .lss (v 8) (v 10))]) (F (v 11) .skip (.exit 0))) (Q (.blk 1 (R [n 14 (mov 14 (v 3)),n 15 (mov 15 (v 4)),n 16 (mov 16 (v 0)),n 17 (mov 17 (v 4)),n 18 (idx 18 (v 16) (v 17) 6),n 19 (ld 19 (v 18) 6 true),n 20 (call (some 20) 51 [v 19]),n 21 (idx 21 (v 14) (v 15) 6),m (st (v 21) (v 20) 6)])) (R [n 12 (mov 12 (v 4)),n 13 (bin 13 .add (v 12) (k 1)),n 4 (asg 4 (v 13))])))))) (Q (R [n 22 (mov 22 (v 3)),n 2 (asg 2 (v 22))]) .ret)))
def c_I_copyFs:Cmd:=Q (R [n 1 (box 1 (v 0)),n 2 (alc 2 [.sl 6 [],.int .i64 0])]) (Q (R [n 6 (fld 6 (v 1) 1),n 7 (ld 7 (v 6) 1 false),n 8 (bld 8 [.sl 6 [],.int .i64 0] [(1,1,v 7)]),n 3 (alc 3 [.sl 6 [],.int .i64 0]),m (st (v 3) (v 8) 2)]) (Q (Q (R [n 9 (fld 9 (v 1) 0),n 10 (ld 10 (v 9) 1 false),n 11 (len 11 (v 10)),n 12 (mov 12 (k 0))]) (.blk 0 (.loop (Q (R [n 13 (bin 13 .lss (v 12) (v 11))]) (Q (F (v 13) .skip (.exit 0)) (Q (.blk 1 (Q (R [n 14 (idx 14 (v 10) (v 12) 6),n 15 (ld 15 (v 14) 6 true),n 5 (alc 5 [.int .i64 0,.str [],.bool false,.int .i64 0,.sl 6 [],.int .i64 0]),m (st (v 5) (v 15) 6)]) (Q (R [n 16 (fld 16 (v 5) 4),n 17 (ld 17 (v 16) 2 true),n 18 (call (some 18) 52 [v 17]),n 19 (fld 19 (v 5) 4),m (st (v 19) (v 18) 2)]) (R [n 20 (fld 20 (v 3) 0),n 21 (ld 21 (v 20) 1 false),n 22 (ld 22 (v 5) 6 true),n 23 (bsl 23 6 [v 22]),n 24 (app 24 (v 21) (v 23) 6 72),n 25 (fld 25 (v 3) 0),m (st (v 25) (v 24) 1)])))) (R [n 26 (bin 26 .add (v 12) (k 1)),n 12 (mov 12 (v 26))]))))))) (Q (R [n 27 (ld 27 (v 3) 2 true),m (st (v 2) (v 27) 2)]) .ret)))
def c_I_FsOk:Cmd:=Q (R [n 1 (box 1 (v 0)),n 2 (asg 2 k0)]) (Q (Q (R [n 5 (fld 5 (v 1) 0),n 6 (ld 6 (v 5) 1 false),n 7 (len 7 (v 6)),n 8 (bin 8 .gtr (v 7) (k 6)),n 9 (mov 9 (v 8)),h 9 false 10 (fld 10 (v 1) 1),h 9 false 11 (ld 11 (v 10) 1 false),h 9 false 12 (call (some 12) 53 [v 11,k 1,k 99]),h 9 false 13 (un 13 .not (v 12)),n 14 (pck 14 (v 9) k1 (v 13))]) (F (v 14) (Q (R [n 2 (asg 2 k0)]) .ret) .skip)) (Q (Q (R [n 15 (fld 15 (v 1) 0),n 16 (ld 16 (v 15) 1 false),n 17 (len 17 (v 16)),n 18 (mov 18 (k 0))]) (.blk 0 (.loop (Q (R [n 19 (bin 19 .lss (v 18) (v 17))]) (Q (F (v 19) .skip (.exit 0)) (Q (.blk 1 (Q (R [n 20 (mov 20 (v 18)),n 21 (idx 21 (v 16) (v 18) 6),n 22 (ld 22 (v 21) 6 true),n 4 (alc 4 [.int .i64 0,.str [],.bool false,.int .i64 0,.sl 6 [],.int .i64 0]),n 3 (asg 3 (v 20)),m (st (v 4) (v 22) 6)]) (Q (D [0,1,3,7,15,31,15,79,255,511,1023,2047,4095,8191,16383,32767,16383,81919,262143,524287,1048575,16383,2113535,8388607,16777215,33554431,67108863,134217727,268435455,536870911,1073741823,2147483647,4294967295,8589934591,8589934591,25769803775,68719476735,8589934591,274877906943,549755813887,1099511627775,2199023255551,4398046511103,8796093022207,17592186044415,35184372088831,70368744177663,140737488355327,281474976710655,562949953421311,1125899906842623,2251799813685247,4503599627370495,9007199254740991,18014398509481983,36028797018963967,9007199254740991,81064793292668927,288230376151711743,576460752303423487] [n 23 (fld 23 (v 4) 0),n 24 (ld 24 (v 23) 1 false),n 25 (bin 25 .lss (v 24) (k 1)),n 26 (mov 26 (v 25)),h 26 false 27 (fld 27 (v 4) 0),h 26 false 28 (ld 28 (v 27) 1 false),h 26 false 29 (fld 29 (v 1) 1),h 26 false 30 (ld 30 (v 29) 1 false),h 26 false 31 (bin 31 .geq (v 28) (v 30)),n 32 (pck 32 (v 26) k1 (v 31)),n 33 (mov 33 (v 32)),h 33 false 34 (mov 34 (v 3)),h 33 false 35 (bin 35 .gtr (v 34) (k 0)),h 33 false 36 (mov 36 (v 35)),h 36 true 37 (fld 37 (v 1) 0),h 36 true 38 (ld 38 (v 37) 1 false),h 36 true 39 (mov 39 (v 3)),h 36 true 40 (bin 40 .sub (v 39) (k 1)),h 36 true 41 (idx 41 (v 38) (v 40) 6),h 36 true 42 (fld 42 (v 41) 0),h 36 true 43 (ld 43 (v 42) 1 false),h 36 true 44 (fld 44 (v 4) 0),h 36 true 45 (ld 45 (v 44) 1 false),h 36 true 46 (bin 46 .geq (v 43) (v 45)),h 33 false 47 (pck 47 (v 36) (v 46) k0),n 48 (pck 48 (v 33) k1 (v 47)),n 49 (mov 49 (v 48)),h 49 false 50 (fld 50 (v 4) 1),h 49 false 51 (ld 51 (v 50) 1 false),h 49 false 52 (call (some 52) 41 [v 51]),h 49 false 53 (un 53 .not (v 52)),n 54 (pck 54 (v 49) k1 (v 53)),n 55 (mov 55 (v 54)),h 55 false 56 (ld 56 (v 1) 2 true),h 55 false 57 (fld 57 (v 4) 1),h 55 false 58 (ld 58 (v 57) 1 false),h 55 false 59 (call (some 59) 54 [v 56,v 58]),h 55 false 60 (mov 60 (v 3)),h 55 false 61 (bin 61 .neq (v 59) (v 60)),n 62 (pck 62 (v 55) k1 (v 61)),n 63 (mov 63 (v 62)),h 63 false 64 (fld 64 (v 4) 3),h 63 false 65 (ld 65 (v 64) 1 false),h 63 false 66 (call (some 66) 32 [v 65]),h 63 false 67 (un 67 .not (v 66)),n 68 (pck 68 (v 63) k1 (v 67)),n 69 (mov 69 (v 68)),h 69 false 70 (fld 70 (v 4) 4),h 69 false 71 (ld 71 (v 70) 2 true),h 69 false 72 (call (some 72) 55 [v 71]),h 69 false 73 (un 73 .not (v 72)),n 74 (pck 74 (v 69) k1 (v 73)),n 75 (mov 75 (v 74)),h 75 false 76 (fld 76 (v 4) 4),h 75 false 77 (ld 77 (v 76) 2 true),h 75 false 78 (call (some 78) 34 [v 77]),h 75 false 79 (fld 79 (v 4) 3),h 75 false 80 (ld 80 (v 79) 1 false),h 75 false 81 (bin 81 .gtr (v 78) (v 80)),n 82 (pck 82 (v 75) k1 (v 81))]) (F (v 82) (Q (R [n 2 (asg 2 k0)]) .ret) .skip)))) (R [n 83 (bin 83 .add (v 18) (k 1)),n 18 (mov 18 (v 83))]))))))) (Q (R [n 2 (asg 2 k1)]) .ret)))
def c_I_isLimit:Cmd:=Q (R [n 2 (asg 2 k0)]) (Q (R [n 3 (mov 3 (v 0)),n 4 (call (some 4) 53 [v 3,k 32,k 4000]),n 2 (asg 2 (v 4))]) .ret)
def c_I_VolAt:Cmd:=Q (R [n 2 (box 2 (v 0)),n 3 (box 3 (v 1)),n 4 (asg 4 (k 0))]) (Q (R [n 5 (fld 5 (v 2) 0),n 6 (ld 6 (v 5) 1 false),n 7 (mkf 7 57 [v 3]),n 8 (call (some 8) 56 [v 6,v 7]),n 4 (asg 4 (v 8))]) .ret)
def c_I_UsageOf:Cmd:=Q (R [n 1 (box 1 (v 0)),n 2 (asg 2 (k 0))]) (Q (R [n 3 (asg 3 (k 0))]) (Q (Q (R [n 8 (fld 8 (v 1) 0),n 9 (ld 9 (v 8) 1 false),n 10 (len 10 (v 9)),n 11 (mov 11 (k 0))]) (.blk 0 (.loop (Q (R [n 12 (bin 12 .lss (v 11) (v 10))]) (Q (F (v 12) .skip (.exit 0)) (Q (.blk 1 (Q (R [n 13 (idx 13 (v 9) (v 11) 6),n 14 (ld 14 (v 13) 6 true),n 5 (alc 5 [.int .i64 0,.int .i64 0,.int .i64 0,.sl 1 [],.sl 2 [],.sl 2 []]),m (st (v 5) (v 14) 6)]) (Q (R [n 15 (mov 15 (v 3)),n 16 (fld 16 (v 5) 3),n 17 (ld 17 (v 16) 1 false),n 18 (len 18 (v 17)),n 19 (bin 19 .add (k 32) (v 18)),n 20 (bin 20 .add (v 15) (v 19)),n 3 (asg 3 (v 20))]) (Q (R [n 21 (fld 21 (v 5) 5),n 22 (ld 22 (v 21) 1 false),n 23 (len 23 (v 22)),n 24 (mov 24 (k 0))]) (.blk 2 (.loop (Q (R [n 25 (bin 25 .lss (v 24) (v 23))]) (Q (F (v 25) .skip (.exit 2)) (Q (.blk 3 (Q (R [n 26 (idx 26 (v 22) (v 24) 2),n 27 (ld 27 (v 26) 2 true),n 7 (alc 7 [.str [],.str []]),m (st (v 7) (v 27) 2)]) (R [n 28 (mov 28 (v 3)),n 29 (fld 29 (v 7) 0),n 30 (ld 30 (v 29) 1 false),n 31 (lens 31 (v 30)),n 32 (fld 32 (v 7) 1),n 33 (ld 33 (v 32) 1 false),n 34 (lens 34 (v 33)),n 35 (bin 35 .add (v 31) (v 34)),n 36 (bin 36 .add (v 28) (v 35)),n 3 (asg 3 (v 36))]))) (R [n 37 (bin 37 .add (v 24) (k 1)),n 24 (mov 24 (v 37))])))))))))) (R [n 38 (bin 38 .add (v 11) (k 1)),n 11 (mov 11 (v 38))]))))))) (Q (R [n 39 (mov 39 (v 3)),n 2 (asg 2 (v 39))]) .ret)))
def c_L_eqVolS:Cmd:=Q (R [n 4 (asg 4 k0)]) (Q (Q (R [n 6 (mov 6 (v 0)),n 7 (len 7 (v 6)),n 8 (mov 8 (v 1)),n 9 (len 9 (v 8)),n 10 (bin 10 .neq (v 7) (v 9))]) (F (v 10) (Q (R [n 4 (asg 4 k0)]) .ret) .skip)) (Q (Q (R [n 5 (asg 5 (k 0))]) (.blk 0 (.loop (Q (Q (R [n 11 (mov 11 (v 5)),n 12 (mov 12 (v 0)),n 13 (len 13 (v 12)),n 14 (bin 14 .lss (v 11) (v 13))]) (F (v 14) .skip (.exit 0))) (Q (.blk 1 (Q (D [0,0,3,7,0,0,48,112,255,511] [n 17 (mov 17 (v 0)),n 18 (mov 18 (v 5)),n 19 (idx 19 (v 17) (v 18) 6),n 20 (ld 20 (v 19) 6 true),n 21 (mov 21 (v 1)),n 22 (mov 22 (v 5)),n 23 (idx 23 (v 21) (v 22) 6),n 24 (ld 24 (v 23) 6 true),n 25 (call (some 25) 58 [v 20,v 24]),n 26 (un 26 .not (v 25))]) (F (v 26) (Q (R [n 4 (asg 4 k0)]) .ret) .skip))) (R [n 15 (mov 15 (v 5)),n 16 (bin 16 .add (v 15) (k 1)),n 5 (asg 5 (v 16))])))))) (Q (R [n 4 (asg 4 k1)]) .ret)))
def c_L_markVolS:Cmd:=Q (R [n 4 (asg 4 (k 0))]) (Q (Q (R [n 5 (asg 5 (k 0))]) (.blk 0 (.loop (Q (Q (R [n 6 (mov 6 (v 5)),n 7 (mov 7 (v 0)),n 8 (len 8 (v 7)),n 9 (bin 9 .lss (v 6) (v 8))]) (F (v 9) .skip (.exit 0))) (Q (.blk 1 (Q (R [n 12 (mov 12 (v 0)),n 13 (mov 13 (v 5)),n 14 (mov 14 (v 1)),n 15 (idx 15 (v 12) (v 13) 6),n 16 (fld 16 (v 15) 0),m (st (v 16) (v 14) 1)]) (Q (R [n 17 (mov 17 (v 1)),n 18 (bin 18 .add (v 17) (k 1)),n 1 (asg 1 (v 18))]) (Q (R [n 19 (mov 19 (v 0)),n 20 (mov 20 (v 5)),n 21 (mov 21 (v 1)),n 22 (call (some 22) 59 [v 21]),n 23 (idx 23 (v 19) (v 20) 6),n 24 (fld 24 (v 23) 1),m (st (v 24) (v 22) 1)]) (Q (R [n 25 (mov 25 (v 1)),n 26 (bin 26 .add (v 25) (k 1)),n 1 (asg 1 (v 26))]) (Q (R [n 27 (mov 27 (v 0)),n 28 (mov 28 (v 5)),n 29 (mov 29 (v 1)),n 30 (bin 30 .rem (v 29) (k 3)),n 31 (bin 31 .eql (v 30) (k 0)),n 32 (idx 32 (v 27) (v 28) 6),n 33 (fld 33 (v 32) 2),m (st (v 33) (v 31) 1)]) (Q (R [n 34 (mov 34 (v 1)),n 35 (bin 35 .add (v 34) (k 1)),n 1 (asg 1 (v 35))]) (Q (R [n 36 (mov 36 (v 0)),n 37 (mov 37 (v 5)),n 38 (mov 38 (v 1)),n 39 (idx 39 (v 36) (v 37) 6),n 40 (fld 40 (v 39) 3),m (st (v 40) (v 38) 1)]) (Q (R [n 41 (mov 41 (v 1)),n 42 (bin 42 .add (v 41) (k 1)),n 1 (asg 1 (v 42))]) (Q (R [n 43 (mov 43 (v 0)),n 44 (mov 44 (v 5)),n 45 (idx 45 (v 43) (v 44) 6),n 46 (fld 46 (v 45) 4),n 47 (fld 47 (v 46) 0),n 48 (ld 48 (v 47) 1 false),n 49 (mov 49 (v 1)),n 50 (call (some 50) 60 [v 48,v 49]),n 1 (asg 1 (v 50))]) (Q (R [n 51 (mov 51 (v 0)),n 52 (mov 52 (v 5)),n 53 (mov 53 (v 1)),n 54 (idx 54 (v 51) (v 52) 6),n 55 (fld 55 (v 54) 4),n 56 (fld 56 (v 55) 1),m (st (v 56) (v 53) 1)]) (R [n 57 (mov 57 (v 1)),n 58 (bin 58 .add (v 57) (k 1)),n 1 (asg 1 (v 58))])))))))))))) (R [n 10 (mov 10 (v 5)),n 11 (bin 11 .add (v 10) (k 1)),n 5 (asg 5 (v 11))])))))) (Q (R [n 59 (mov 59 (v 1)),n 4 (asg 4 (v 59))]) .ret))
def c_L_heldVolS:Cmd:=Q (R [n 4 (asg 4 (k 0))]) (Q (Q (R [n 5 (asg 5 (k 0))]) (.blk 0 (.loop (Q (Q (R [n 6 (mov 6 (v 5)),n 7 (mov 7 (v 0)),n 8 (len 8 (v 7)),n 9 (bin 9 .lss (v 6) (v 8))]) (F (v 9) .skip (.exit 0))) (Q (.blk 1 (Q (Q (R [n 12 (mov 12 (v 0)),n 13 (mov 13 (v 5)),n 14 (idx 14 (v 12) (v 13) 6),n 15 (fld 15 (v 14) 0),n 16 (ld 16 (v 15) 1 false),n 17 (mov 17 (v 1)),n 18 (bin 18 .neq (v 16) (v 17))]) (F (v 18) (Q (R [n 4 (asg 4 (k (-1)))]) .ret) .skip)) (Q (R [n 19 (mov 19 (v 1)),n 20 (bin 20 .add (v 19) (k 1)),n 1 (asg 1 (v 20))]) (Q (Q (D [0,0,3,7,15,0,32,127] [n 21 (mov 21 (v 0)),n 22 (mov 22 (v 5)),n 23 (idx 23 (v 21) (v 22) 6),n 24 (fld 24 (v 23) 1),n 25 (ld 25 (v 24) 1 false),n 26 (mov 26 (v 1)),n 27 (call (some 27) 59 [v 26]),n 28 (bin 28 .neq (v 25) (v 27))]) (F (v 28) (Q (R [n 4 (asg 4 (k (-1)))]) .ret) .skip)) (Q (R [n 29 (mov 29 (v 1)),n 30 (bin 30 .add (v 29) (k 1)),n 1 (asg 1 (v 30))]) (Q (Q (R [n 31 (mov 31 (v 0)),n 32 (mov 32 (v 5)),n 33 (idx 33 (v 31) (v 32) 6),n 34 (fld 34 (v 33) 2),n 35 (ld 35 (v 34) 1 false),n 36 (mov 36 (v 1)),n 37 (bin 37 .rem (v 36) (k 3)),n 38 (bin 38 .eql (v 37) (k 0)),n 39 (beq 39 true (v 35) (v 38))]) (F (v 39) (Q (R [n 4 (asg 4 (k (-1)))]) .ret) .skip)) (Q (R [n 40 (mov 40 (v 1)),n 41 (bin 41 .add (v 40) (k 1)),n 1 (asg 1 (v 41))]) (Q (Q (R [n 42 (mov 42 (v 0)),n 43 (mov 43 (v 5)),n 44 (idx 44 (v 42) (v 43) 6),n 45 (fld 45 (v 44) 3),n 46 (ld 46 (v 45) 1 false),n 47 (mov 47 (v 1)),n 48 (bin 48 .neq (v 46) (v 47))]) (F (v 48) (Q (R [n 4 (asg 4 (k (-1)))]) .ret) .skip)) (Q (R [n 49 (mov 49 (v 1)),n 50 (bin 50 .add (v 49) (k 1)),n 1 (asg 1 (v 50))]) (Q (R [n 51 (mov 51 (v 0)),n 52 (mov 52 (v 5)),n 53 (idx 53 (v 51) (v 52) 6),n 54 (fld 54 (v 53) 4),n 55 (fld 55 (v 54) 0),n 56 (ld 56 (v 55) 1 false),n 57 (mov 57 (v 1)),n 58 (call (some 58) 61 [v 56,v 57]),n 1 (asg 1 (v 58))]) (Q (Q (R [n 59 (mov 59 (v 1)),n 60 (bin 60 .lss (v 59) (k 0))]) (F (v 60) (Q (R [n 4 (asg 4 (k (-1)))]) .ret) .skip)) (Q (Q (R [n 61 (mov 61 (v 0)),n 62 (mov 62 (v 5)),n 63 (idx 63 (v 61) (v 62) 6),n 64 (fld 64 (v 63) 4),n 65 (fld 65 (v 64) 1),n 66 (ld 66 (v 65) 1 false),n 67 (mov 67 (v 1)),n 68 (bin 68 .neq (v 66) (v 67))]) (F (v 68) (Q (R [n 4 (asg 4 (k (-1)))]) .ret) .skip)) (R [n 69 (mov 69 (v 1)),n 70 (bin 70 .add (v 69) (k 1)),n 1 (asg 1 (v 70))]))))))))))))) (R [n 10 (mov 10 (v 5)),n 11 (bin 11 .add (v 10) (k 1)),n 5 (asg 5 (v 11))])))))) (Q (R [n 71 (mov 71 (v 1)),n 4 (asg 4 (v 71))]) .ret))
def c_S_NameOk:Cmd:=Q (R [n 2 (asg 2 k0)]) (Q (Q (R [n 3 (asg 3 (k 0))]) (.blk 0 (.loop (Q (Q (R [n 5 (mov 5 (v 3)),n 6 (mov 6 (v 0)),n 7 (lens 7 (v 6)),n 8 (bin 8 .lss (v 5) (v 7))]) (F (v 8) .skip (.exit 0))) (Q (.blk 1 (Q (R [n 11 (mov 11 (v 0)),n 12 (mov 12 (v 3)),n 13 (sidx 13 (v 11) (v 12)),n 14 (conv 14 .i64 (v 13)),n 4 (asg 4 (v 14))]) (Q (R [n 15 (mov 15 (v 4)),n 16 (call (some 16) 27 [v 15,k 97,k 122]),n 17 (un 17 .not (v 16)),n 18 (mov 18 (v 17)),h 18 true 19 (mov 19 (v 4)),h 18 true 20 (call (some 20) 27 [v 19,k 48,k 57]),h 18 true 21 (un 21 .not (v 20)),n 22 (pck 22 (v 18) (v 21) k0),n 23 (mov 23 (v 22)),h 23 true 24 (mov 24 (v 4)),h 23 true 25 (bin 25 .neq (v 24) (k 95)),n 26 (pck 26 (v 23) (v 25) k0),n 27 (mov 27 (v 26)),h 27 true 28 (mov 28 (v 4)),h 27 true 29 (bin 29 .neq (v 28) (k 45)),n 30 (pck 30 (v 27) (v 29) k0),n 31 (mov 31 (v 30)),h 31 true 32 (mov 32 (v 4)),h 31 true 33 (bin 33 .neq (v 32) (k 46)),n 34 (pck 34 (v 31) (v 33) k0)]) (F (v 34) (Q (R [n 2 (asg 2 k0)]) .ret) .skip)))) (R [n 9 (mov 9 (v 3)),n 10 (bin 10 .add (v 9) (k 1)),n 3 (asg 3 (v 10))])))))) (Q (R [n 35 (mov 35 (v 0)),n 36 (lens 36 (v 35)),n 37 (call (some 37) 27 [v 36,k 1,k 14]),n 38 (mov 38 (v 37)),h 38 true 39 (mov 39 (v 0)),h 38 true 40 (bin 40 .neq (v 39) (.c (.str [46]))),n 41 (pck 41 (v 38) (v 40) k0),n 42 (mov 42 (v 41)),h 42 true 43 (mov 43 (v 0)),h 42 true 44 (bin 44 .neq (v 43) (.c (.str [46,46]))),n 45 (pck 45 (v 42) (v 44) k0),n 2 (asg 2 (v 45))]) .ret))
def c_I_NameOk:Cmd:=Q (R [n 2 (asg 2 k0)]) (Q (Q (R [n 5 (mov 5 (v 0)),n 6 (lens 6 (v 5)),n 7 (mov 7 (k 0))]) (.blk 0 (.loop (Q (R [n 8 (bin 8 .lss (v 7) (v 6))]) (Q (F (v 8) .skip (.exit 0)) (Q (.blk 1 (Q (R [n 9 (mov 9 (v 7)),n 3 (asg 3 (v 9))]) (Q (R [n 10 (mov 10 (v 0)),n 11 (mov 11 (v 3)),n 12 (sidx 12 (v 10) (v 11)),n 4 (asg 4 (v 12))]) (Q (R [n 13 (mov 13 (v 4)),n 14 (bin 14 .lss (v 13) (.c (.int .u8 97))),n 15 (mov 15 (v 14)),h 15 false 16 (mov 16 (v 4)),h 15 false 17 (bin 17 .gtr (v 16) (.c (.int .u8 122))),n 18 (pck 18 (v 15) k1 (v 17)),n 19 (mov 19 (v 18)),h 19 true 20 (mov 20 (v 4)),h 19 true 21 (bin 21 .lss (v 20) (.c (.int .u8 48))),h 19 true 22 (mov 22 (v 21)),h 22 false 23 (mov 23 (v 4)),h 22 false 24 (bin 24 .gtr (v 23) (.c (.int .u8 57))),h 19 true 25 (pck 25 (v 22) k1 (v 24)),n 26 (pck 26 (v 19) (v 25) k0),n 27 (mov 27 (v 26)),h 27 true 28 (mov 28 (v 4)),h 27 true 29 (bin 29 .neq (v 28) (.c (.int .u8 95))),n 30 (pck 30 (v 27) (v 29) k0),n 31 (mov 31 (v 30)),h 31 true 32 (mov 32 (v 4)),h 31 true 33 (bin 33 .neq (v 32) (.c (.int .u8 45))),n 34 (pck 34 (v 31) (v 33) k0),n 35 (mov 35 (v 34)),h 35 true 36 (mov 36 (v 4)),h 35 true 37 (bin 37 .neq (v 36) (.c (.int .u8 46))),n 38 (pck 38 (v 35) (v 37) k0)]) (F (v 38) (Q (R [n 2 (asg 2 k0)]) .ret) .skip))))) (R [n 39 (bin 39 .add (v 7) (k 1)),n 7 (mov 7 (v 39))]))))))) (Q (R [n 40 (mov 40 (v 0)),n 41 (lens 41 (v 40)),n 42 (bin 42 .geq (v 41) (k 1)),n 43 (mov 43 (v 42)),h 43 true 44 (mov 44 (v 0)),h 43 true 45 (lens 45 (v 44)),h 43 true 46 (bin 46 .leq (v 45) (k 14)),n 47 (pck 47 (v 43) (v 46) k0),n 48 (mov 48 (v 47)),h 48 true 49 (mov 49 (v 0)),h 48 true 50 (bin 50 .neq (v 49) (.c (.str [46]))),n 51 (pck 51 (v 48) (v 50) k0),n 52 (mov 52 (v 51)),h 52 true 53 (mov 53 (v 0)),h 52 true 54 (bin 54 .neq (v 53) (.c (.str [46,46]))),n 55 (pck 55 (v 52) (v 54) k0),n 2 (asg 2 (v 55))]) .ret))
def c_L_szVol:Cmd:=Q (R [n 2 (box 2 (v 0)),n 4 (asg 4 (k 0))]) (Q (R [n 5 (mov 5 (v 1)),n 6 (fld 6 (v 2) 1),n 7 (ld 7 (v 6) 1 false),n 8 (lens 8 (v 7)),n 9 (bin 9 .sub (v 5) (v 8)),n 1 (asg 1 (v 9))]) (Q (Q (R [n 10 (mov 10 (v 1)),n 11 (bin 11 .lss (v 10) (k 0))]) (F (v 11) (Q (R [n 4 (asg 4 (k (-1)))]) .ret) .skip)) (Q (R [n 12 (fld 12 (v 2) 4),n 13 (ld 13 (v 12) 2 true),n 14 (mov 14 (v 1)),n 15 (call (some 15) 62 [v 13,v 14]),n 1 (asg 1 (v 15))]) (Q (Q (R [n 16 (mov 16 (v 1)),n 17 (bin 17 .lss (v 16) (k 0))]) (F (v 17) (Q (R [n 4 (asg 4 (k (-1)))]) .ret) .skip)) (Q (R [n 18 (mov 18 (v 1)),n 4 (asg 4 (v 18))]) .ret)))))
def c_S_l4Copy:Cmd:=Q (R [n 1 (box 1 (v 0)),n 2 (alc 2 [.sl 6 [],.int .i64 0])]) (Q (R [n 5 (fld 5 (v 1) 1),n 6 (ld 6 (v 5) 1 false),n 7 (bld 7 [.sl 6 [],.int .i64 0] [(1,1,v 6)]),n 3 (alc 3 [.sl 6 [],.int .i64 0]),m (st (v 3) (v 7) 2)]) (Q (Q (R [n 4 (asg 4 (k 0))]) (.blk 0 (.loop (Q (Q (R [n 8 (mov 8 (v 4)),n 9 (fld 9 (v 1) 0),n 10 (ld 10 (v 9) 1 false),n 11 (len 11 (v 10)),n 12 (bin 12 .lss (v 8) (v 11))]) (F (v 12) .skip (.exit 0))) (Q (.blk 1 (D [0,1,0,4,0,28,60,124,252,511,1023,2047] [n 15 (fld 15 (v 3) 0),n 16 (ld 16 (v 15) 1 false),n 17 (fld 17 (v 1) 0),n 18 (ld 18 (v 17) 1 false),n 19 (mov 19 (v 4)),n 20 (idx 20 (v 18) (v 19) 6),n 21 (ld 21 (v 20) 6 true),n 22 (call (some 22) 63 [v 21]),n 23 (bsl 23 6 [v 22]),n 24 (app 24 (v 16) (v 23) 6 96),n 25 (fld 25 (v 3) 0),m (st (v 25) (v 24) 1)])) (R [n 13 (mov 13 (v 4)),n 14 (bin 14 .add (v 13) (k 1)),n 4 (asg 4 (v 14))])))))) (Q (R [n 26 (ld 26 (v 3) 2 true),m (st (v 2) (v 26) 2)]) .ret)))
def c_S_VolNamed:Cmd:=Q (R [n 2 (box 2 (v 0)),n 4 (asg 4 (k 0))]) (Q (Q (R [n 5 (asg 5 (k 0))]) (.blk 0 (.loop (Q (Q (R [n 6 (mov 6 (v 5)),n 7 (fld 7 (v 2) 0),n 8 (ld 8 (v 7) 1 false),n 9 (len 9 (v 8)),n 10 (bin 10 .lss (v 6) (v 9))]) (F (v 10) .skip (.exit 0))) (Q (.blk 1 (Q (R [n 13 (fld 13 (v 2) 0),n 14 (ld 14 (v 13) 1 false),n 15 (mov 15 (v 5)),n 16 (idx 16 (v 14) (v 15) 6),n 17 (fld 17 (v 16) 1),n 18 (ld 18 (v 17) 1 false),n 19 (mov 19 (v 1)),n 20 (bin 20 .eql (v 18) (v 19))]) (F (v 20) (Q (R [n 21 (mov 21 (v 5)),n 4 (asg 4 (v 21))]) .ret) .skip))) (R [n 11 (mov 11 (v 5)),n 12 (bin 12 .add (v 11) (k 1)),n 5 (asg 5 (v 12))])))))) (Q (R [n 4 (asg 4 (k (-1)))]) .ret))
def c_S_TreeOk:Cmd:=Q (R [n 1 (box 1 (v 0)),n 2 (asg 2 k0)]) (Q (Q (D [0,1,3,7,15,31,63,15,143,399,1023,2047] [n 6 (ld 6 (v 1) 2 true),n 7 (call (some 7) 64 [v 6]),n 8 (un 8 .not (v 7)),n 9 (mov 9 (v 8)),h 9 false 10 (ld 10 (v 1) 2 true),h 9 false 11 (call (some 11) 65 [v 10]),h 9 false 12 (len 12 (v 11)),h 9 false 13 (fld 13 (v 1) 0),h 9 false 14 (ld 14 (v 13) 1 false),h 9 false 15 (len 15 (v 14)),h 9 false 16 (bin 16 .neq (v 12) (v 15)),n 17 (pck 17 (v 9) k1 (v 16))]) (F (v 17) (Q (R [n 2 (asg 2 k0)]) .ret) .skip)) (Q (Q (R [n 3 (asg 3 (k 0))]) (.blk 0 (.loop (Q (Q (R [n 18 (mov 18 (v 3)),n 19 (fld 19 (v 1) 0),n 20 (ld 20 (v 19) 1 false),n 21 (len 21 (v 20)),n 22 (bin 22 .lss (v 18) (v 21))]) (F (v 22) .skip (.exit 0))) (Q (.blk 1 (Q (R [n 25 (fld 25 (v 1) 0),n 26 (ld 26 (v 25) 1 false),n 27 (mov 27 (v 3)),n 28 (idx 28 (v 26) (v 27) 6),n 29 (ld 29 (v 28) 6 true),n 4 (alc 4 [.int .i64 0,.int .i64 0,.int .i64 0,.sl 1 [],.sl 2 [],.sl 2 []]),m (st (v 4) (v 29) 6)]) (Q (Q (D [0,0,2,7,0,16,63] [n 30 (ld 30 (v 1) 2 true),n 31 (fld 31 (v 4) 0),n 32 (ld 32 (v 31) 1 false),n 33 (call (some 33) 66 [v 30,v 32]),n 34 (fld 34 (v 4) 2),n 35 (ld 35 (v 34) 1 false),n 36 (bin 36 .neq (v 33) (v 35))]) (F (v 36) (Q (R [n 2 (asg 2 k0)]) .ret) .skip)) (Q (R [n 5 (asg 5 (k 0))]) (.blk 2 (.loop (Q (Q (R [n 37 (mov 37 (v 5)),n 38 (fld 38 (v 4) 4),n 39 (ld 39 (v 38) 1 false),n 40 (len 40 (v 39)),n 41 (bin 41 .lss (v 37) (v 40))]) (F (v 41) .skip (.exit 2))) (Q (.blk 3 (Q (D [0,0,2,0,14,30,62,127,255] [n 44 (ld 44 (v 1) 2 true),n 45 (fld 45 (v 4) 4),n 46 (ld 46 (v 45) 1 false),n 47 (mov 47 (v 5)),n 48 (idx 48 (v 46) (v 47) 2),n 49 (fld 49 (v 48) 1),n 50 (ld 50 (v 49) 1 false),n 51 (call (some 51) 67 [v 44,v 50]),n 52 (bin 52 .lss (v 51) (k 0))]) (F (v 52) (Q (R [n 2 (asg 2 k0)]) .ret) .skip))) (R [n 42 (mov 42 (v 5)),n 43 (bin 43 .add (v 42) (k 1)),n 5 (asg 5 (v 43))]))))))))) (R [n 23 (mov 23 (v 3)),n 24 (bin 24 .add (v 23) (k 1)),n 3 (asg 3 (v 24))])))))) (Q (R [n 2 (asg 2 k1)]) .ret)))
def c_L_toVol:Cmd:=Q (R [n 1 (box 1 (v 0)),n 2 (alc 2 [.int .i64 0,.str [],.bool false,.int .i64 0,.sl 6 [],.int .i64 0])]) (Q (R [n 3 (alc 3 [.int .i64 0,.str [],.bool false,.int .i64 0,.sl 6 [],.int .i64 0])]) (Q (R [n 4 (fld 4 (v 1) 0),n 5 (ld 5 (v 4) 1 false),n 6 (fld 6 (v 3) 0),m (st (v 6) (v 5) 1)]) (Q (R [n 7 (fld 7 (v 1) 1),n 8 (ld 8 (v 7) 1 false),n 9 (fld 9 (v 3) 1),m (st (v 9) (v 8) 1)]) (Q (R [n 10 (fld 10 (v 1) 2),n 11 (ld 11 (v 10) 1 false),n 12 (fld 12 (v 3) 2),m (st (v 12) (v 11) 1)]) (Q (R [n 13 (fld 13 (v 1) 3),n 14 (ld 14 (v 13) 1 false),n 15 (fld 15 (v 3) 3),m (st (v 15) (v 14) 1)]) (Q (R [n 16 (fld 16 (v 1) 4),n 17 (ld 17 (v 16) 2 true),n 18 (call (some 18) 68 [v 17]),n 19 (fld 19 (v 3) 4),m (st (v 19) (v 18) 2)]) (Q (R [n 20 (ld 20 (v 3) 6 true),m (st (v 2) (v 20) 6)]) .ret)))))))
def c_I_copyTab:Cmd:=Q (R [n 1 (box 1 (v 0)),n 2 (alc 2 [.sl 6 [],.int .i64 0])]) (Q (R [n 6 (fld 6 (v 1) 1),n 7 (ld 7 (v 6) 1 false),n 8 (bld 8 [.sl 6 [],.int .i64 0] [(1,1,v 7)]),n 3 (alc 3 [.sl 6 [],.int .i64 0]),m (st (v 3) (v 8) 2)]) (Q (Q (R [n 9 (fld 9 (v 1) 0),n 10 (ld 10 (v 9) 1 false),n 11 (len 11 (v 10)),n 12 (mov 12 (k 0))]) (.blk 0 (.loop (Q (R [n 13 (bin 13 .lss (v 12) (v 11))]) (Q (F (v 13) .skip (.exit 0)) (Q (.blk 1 (Q (R [n 14 (idx 14 (v 10) (v 12) 6),n 15 (ld 15 (v 14) 6 true),n 5 (alc 5 [.int .i64 0,.int .i64 0,.int .i64 0,.sl 1 [],.sl 2 [],.sl 2 []]),m (st (v 5) (v 15) 6)]) (D [0,1,0,4,12,31,63,127] [n 16 (fld 16 (v 3) 0),n 17 (ld 17 (v 16) 1 false),n 18 (ld 18 (v 5) 6 true),n 19 (call (some 19) 69 [v 18]),n 20 (bsl 20 6 [v 19]),n 21 (app 21 (v 17) (v 20) 6 96),n 22 (fld 22 (v 3) 0),m (st (v 22) (v 21) 1)]))) (R [n 23 (bin 23 .add (v 12) (k 1)),n 12 (mov 12 (v 23))]))))))) (Q (R [n 24 (ld 24 (v 3) 2 true),m (st (v 2) (v 24) 2)]) .ret)))
def c_I_from:Cmd:=Q (R [n 6 (asg 6 k0)]) (Q (R [n 7 (mov 7 (v 0)),n 8 (mov 8 (v 1)),n 9 (bin 9 .geq (v 7) (v 8)),n 10 (mov 10 (v 9)),h 10 true 11 (mov 11 (v 0)),h 10 true 12 (mov 12 (v 2)),h 10 true 13 (bin 13 .leq (v 11) (v 12)),n 14 (pck 14 (v 10) (v 13) k0),n 6 (asg 6 (v 14))]) .ret)
def c_I_VolNamed:Cmd:=Q (R [n 2 (box 2 (v 0)),n 3 (box 3 (v 1)),n 4 (asg 4 (k 0))]) (Q (R [n 5 (fld 5 (v 2) 0),n 6 (ld 6 (v 5) 1 false),n 7 (mkf 7 70 [v 3]),n 8 (call (some 8) 56 [v 6,v 7]),n 4 (asg 4 (v 8))]) .ret)
def c_I_TreeOk:Cmd:=Q (R [n 1 (box 1 (v 0)),n 2 (asg 2 k0)]) (Q (Q (D [0,1,3,7,15,31,63,15,143,399,1023,2047] [n 7 (ld 7 (v 1) 2 true),n 8 (call (some 8) 71 [v 7]),n 9 (un 9 .not (v 8)),n 10 (mov 10 (v 9)),h 10 false 11 (ld 11 (v 1) 2 true),h 10 false 12 (call (some 12) 72 [v 11]),h 10 false 13 (len 13 (v 12)),h 10 false 14 (fld 14 (v 1) 0),h 10 false 15 (ld 15 (v 14) 1 false),h 10 false 16 (len 16 (v 15)),h 10 false 17 (bin 17 .neq (v 13) (v 16)),n 18 (pck 18 (v 10) k1 (v 17))]) (F (v 18) (Q (R [n 2 (asg 2 k0)]) .ret) .skip)) (Q (Q (R [n 19 (fld 19 (v 1) 0),n 20 (ld 20 (v 19) 1 false),n 21 (len 21 (v 20)),n 22 (mov 22 (k 0))]) (.blk 0 (.loop (Q (R [n 23 (bin 23 .lss (v 22) (v 21))]) (Q (F (v 23) .skip (.exit 0)) (Q (.blk 1 (Q (R [n 24 (idx 24 (v 20) (v 22) 6),n 25 (ld 25 (v 24) 6 true),n 4 (alc 4 [.int .i64 0,.int .i64 0,.int .i64 0,.sl 1 [],.sl 2 [],.sl 2 []]),m (st (v 4) (v 25) 6)]) (Q (Q (D [0,1,0,0,8,28,63] [n 26 (fld 26 (v 4) 2),n 27 (ld 27 (v 26) 1 false),n 28 (ld 28 (v 1) 2 true),n 29 (fld 29 (v 4) 0),n 30 (ld 30 (v 29) 1 false),n 31 (call (some 31) 73 [v 28,v 30]),n 32 (bin 32 .neq (v 27) (v 31))]) (F (v 32) (Q (R [n 2 (asg 2 k0)]) .ret) .skip)) (Q (R [n 33 (fld 33 (v 4) 4),n 34 (ld 34 (v 33) 1 false),n 35 (len 35 (v 34)),n 36 (mov 36 (k 0))]) (.blk 2 (.loop (Q (R [n 37 (bin 37 .lss (v 36) (v 35))]) (Q (F (v 37) .skip (.exit 2)) (Q (.blk 3 (Q (R [n 38 (idx 38 (v 34) (v 36) 2),n 39 (ld 39 (v 38) 2 true),n 6 (alc 6 [.str [],.int .i64 0]),m (st (v 6) (v 39) 2)]) (Q (R [n 40 (ld 40 (v 1) 2 true),n 41 (fld 41 (v 6) 1),n 42 (ld 42 (v 41) 1 false),n 43 (call (some 43) 74 [v 40,v 42]),n 44 (bin 44 .lss (v 43) (k 0))]) (F (v 44) (Q (R [n 2 (asg 2 k0)]) .ret) .skip)))) (R [n 45 (bin 45 .add (v 36) (k 1)),n 36 (mov 36 (v 45))])))))))))) (R [n 46 (bin 46 .add (v 22) (k 1)),n 22 (mov 22 (v 46))]))))))) (Q (R [n 2 (asg 2 k1)]) .ret)))
def c_X_IndexFunc_Vol:Cmd:=Q (R [n 4 (asg 4 (k 0))]) (Q (Q (R [n 6 (mov 6 (v 0)),n 7 (len 7 (v 6)),n 8 (mov 8 (k 0))]) (.blk 0 (.loop (Q (R [n 9 (bin 9 .lss (v 8) (v 7))]) (Q (F (v 9) .skip (.exit 0)) (Q (.blk 1 (Q (R [n 10 (mov 10 (v 8)),n 5 (asg 5 (v 10))]) (Q (R [n 11 (mov 11 (v 1)),n 12 (mov 12 (v 0)),n 13 (mov 13 (v 5)),n 14 (idx 14 (v 12) (v 13) 6),n 15 (ld 15 (v 14) 6 true),n 16 (callv (some 16) (v 11) [v 15])]) (F (v 16) (Q (R [n 17 (mov 17 (v 5)),n 4 (asg 4 (v 17))]) .ret) .skip)))) (R [n 18 (bin 18 .add (v 8) (k 1)),n 8 (mov 8 (v 18))]))))))) (Q (R [n 4 (asg 4 (k (-1)))]) .ret))
def c_I_VolAt_1:Cmd:=Q (R [n 2 (box 2 (v 0)),n 3 (asg 3 k0)]) (Q (R [n 4 (fld 4 (v 2) 0),n 5 (ld 5 (v 4) 1 false),n 6 (ld 6 (v 1) 1 false),n 7 (bin 7 .eql (v 5) (v 6)),n 3 (asg 3 (v 7))]) .ret)
def c_L_eqVol:Cmd:=Q (R [n 2 (box 2 (v 0)),n 3 (box 3 (v 1)),n 4 (asg 4 k0)]) (Q (Q (R [n 5 (fld 5 (v 2) 0),n 6 (ld 6 (v 5) 1 false),n 7 (fld 7 (v 3) 0),n 8 (ld 8 (v 7) 1 false),n 9 (bin 9 .neq (v 6) (v 8))]) (F (v 9) (Q (R [n 4 (asg 4 k0)]) .ret) .skip)) (Q (Q (R [n 10 (fld 10 (v 2) 1),n 11 (ld 11 (v 10) 1 false),n 12 (fld 12 (v 3) 1),n 13 (ld 13 (v 12) 1 false),n 14 (bin 14 .neq (v 11) (v 13))]) (F (v 14) (Q (R [n 4 (asg 4 k0)]) .ret) .skip)) (Q (Q (R [n 15 (fld 15 (v 2) 2),n 16 (ld 16 (v 15) 1 false),n 17 (fld 17 (v 3) 2),n 18 (ld 18 (v 17) 1 false),n 19 (beq 19 true (v 16) (v 18))]) (F (v 19) (Q (R [n 4 (asg 4 k0)]) .ret) .skip)) (Q (Q (R [n 20 (fld 20 (v 2) 3),n 21 (ld 21 (v 20) 1 false),n 22 (fld 22 (v 3) 3),n 23 (ld 23 (v 22) 1 false),n 24 (bin 24 .neq (v 21) (v 23))]) (F (v 24) (Q (R [n 4 (asg 4 k0)]) .ret) .skip)) (Q (Q (R [n 25 (fld 25 (v 2) 4),n 26 (ld 26 (v 25) 2 true),n 27 (fld 27 (v 3) 4),n 28 (ld 28 (v 27) 2 true),n 29 (call (some 29) 75 [v 26,v 28]),n 30 (un 30 .not (v 29))]) (F (v 30) (Q (R [n 4 (asg 4 k0)]) .ret) .skip)) (Q (R [n 4 (asg 4 k1)]) .ret))))))
def c_L_markText:Cmd:=Q (R [n 2 (asg 2 (.c (.str [])))]) (Q (Q (R [n 4 (mov 4 (v 0)),n 5 (bin 5 .leq (v 4) (k 0))]) (F (v 5) (Q (R [n 2 (asg 2 (.c (.str [109,48])))]) .ret) .skip)) (Q (R [n 3 (asg 3 (.c (.str [])))]) (Q (.blk 0 (.loop (Q (Q (R [n 6 (mov 6 (v 0)),n 7 (bin 7 .gtr (v 6) (k 0))]) (F (v 7) .skip (.exit 0))) (.blk 1 (Q (R [n 8 (mov 8 (v 0)),n 9 (bin 9 .rem (v 8) (k 10)),n 10 (bin 10 .add (k 48) (v 9)),n 11 (conv 11 .u8 (v 10)),n 12 (bsl 12 1 [v 11]),n 13 (b2s 13 (v 12)),n 14 (mov 14 (v 3)),n 15 (bin 15 .add (v 13) (v 14)),n 3 (asg 3 (v 15))]) (R [n 16 (mov 16 (v 0)),n 17 (bin 17 .quo (v 16) (k 10)),n 0 (asg 0 (v 17))])))))) (Q (R [n 18 (mov 18 (v 3)),n 19 (bin 19 .add (.c (.str [109])) (v 18)),n 2 (asg 2 (v 19))]) .ret))))
def c_L_markInodeS:Cmd:=Q (R [n 4 (asg 4 (k 0))]) (Q (Q (R [n 5 (asg 5 (k 0))]) (.blk 0 (.loop (Q (Q (R [n 6 (mov 6 (v 5)),n 7 (mov 7 (v 0)),n 8 (len 8 (v 7)),n 9 (bin 9 .lss (v 6) (v 8))]) (F (v 9) .skip (.exit 0))) (Q (.blk 1 (Q (R [n 12 (mov 12 (v 0)),n 13 (mov 13 (v 5)),n 14 (mov 14 (v 1)),n 15 (idx 15 (v 12) (v 13) 6),n 16 (fld 16 (v 15) 0),m (st (v 16) (v 14) 1)]) (Q (R [n 17 (mov 17 (v 1)),n 18 (bin 18 .add (v 17) (k 1)),n 1 (asg 1 (v 18))]) (Q (R [n 19 (mov 19 (v 0)),n 20 (mov 20 (v 5)),n 21 (mov 21 (v 1)),n 22 (idx 22 (v 19) (v 20) 6),n 23 (fld 23 (v 22) 1),m (st (v 23) (v 21) 1)]) (Q (R [n 24 (mov 24 (v 1)),n 25 (bin 25 .add (v 24) (k 1)),n 1 (asg 1 (v 25))]) (Q (R [n 26 (mov 26 (v 0)),n 27 (mov 27 (v 5)),n 28 (mov 28 (v 1)),n 29 (idx 29 (v 26) (v 27) 6),n 30 (fld 30 (v 29) 2),m (st (v 30) (v 28) 1)]) (Q (R [n 31 (mov 31 (v 1)),n 32 (bin 32 .add (v 31) (k 1)),n 1 (asg 1 (v 32))]) (Q (R [n 33 (mov 33 (v 0)),n 34 (mov 34 (v 5)),n 35 (idx 35 (v 33) (v 34) 6),n 36 (fld 36 (v 35) 3),n 37 (ld 37 (v 36) 1 false),n 38 (mov 38 (v 1)),n 39 (call (some 39) 76 [v 37,v 38]),n 1 (asg 1 (v 39))]) (Q (R [n 40 (mov 40 (v 0)),n 41 (mov 41 (v 5)),n 42 (idx 42 (v 40) (v 41) 6),n 43 (fld 43 (v 42) 4),n 44 (ld 44 (v 43) 1 false),n 45 (mov 45 (v 1)),n 46 (call (some 46) 77 [v 44,v 45]),n 1 (asg 1 (v 46))]) (R [n 47 (mov 47 (v 0)),n 48 (mov 48 (v 5)),n 49 (idx 49 (v 47) (v 48) 6),n 50 (fld 50 (v 49) 5),n 51 (ld 51 (v 50) 1 false),n 52 (mov 52 (v 1)),n 53 (call (some 53) 78 [v 51,v 52]),n 1 (asg 1 (v 53))])))))))))) (R [n 10 (mov 10 (v 5)),n 11 (bin 11 .add (v 10) (k 1)),n 5 (asg 5 (v 11))])))))) (Q (R [n 54 (mov 54 (v 1)),n 4 (asg 4 (v 54))]) .ret))
def c_L_heldInodeS:Cmd:=Q (R [n 4 (asg 4 (k 0))]) (Q (Q (R [n 5 (asg 5 (k 0))]) (.blk 0 (.loop (Q (Q (R [n 6 (mov 6 (v 5)),n 7 (mov 7 (v 0)),n 8 (len 8 (v 7)),n 9 (bin 9 .lss (v 6) (v 8))]) (F (v 9) .skip (.exit 0))) (Q (.blk 1 (Q (Q (R [n 12 (mov 12 (v 0)),n 13 (mov 13 (v 5)),n 14 (idx 14 (v 12) (v 13) 6),n 15 (fld 15 (v 14) 0),n 16 (ld 16 (v 15) 1 false),n 17 (mov 17 (v 1)),n 18 (bin 18 .neq (v 16) (v 17))]) (F (v 18) (Q (R [n 4 (asg 4 (k (-1)))]) .ret) .skip)) (Q (R [n 19 (mov 19 (v 1)),n 20 (bin 20 .add (v 19) (k 1)),n 1 (asg 1 (v 20))]) (Q (Q (R [n 21 (mov 21 (v 0)),n 22 (mov 22 (v 5)),n 23 (idx 23 (v 21) (v 22) 6),n 24 (fld 24 (v 23) 1),n 25 (ld 25 (v 24) 1 false),n 26 (mov 26 (v 1)),n 27 (bin 27 .neq (v 25) (v 26))]) (F (v 27) (Q (R [n 4 (asg 4 (k (-1)))]) .ret) .skip)) (Q (R [n 28 (mov 28 (v 1)),n 29 (bin 29 .add (v 28) (k 1)),n 1 (asg 1 (v 29))]) (Q (Q (R [n 30 (mov 30 (v 0)),n 31 (mov 31 (v 5)),n 32 (idx 32 (v 30) (v 31) 6),n 33 (fld 33 (v 32) 2),n 34 (ld 34 (v 33) 1 false),n 35 (mov 35 (v 1)),n 36 (bin 36 .neq (v 34) (v 35))]) (F (v 36) (Q (R [n 4 (asg 4 (k (-1)))]) .ret) .skip)) (Q (R [n 37 (mov 37 (v 1)),n 38 (bin 38 .add (v 37) (k 1)),n 1 (asg 1 (v 38))]) (Q (R [n 39 (mov 39 (v 0)),n 40 (mov 40 (v 5)),n 41 (idx 41 (v 39) (v 40) 6),n 42 (fld 42 (v 41) 3),n 43 (ld 43 (v 42) 1 false),n 44 (mov 44 (v 1)),n 45 (call (some 45) 79 [v 43,v 44]),n 1 (asg 1 (v 45))]) (Q (Q (R [n 46 (mov 46 (v 1)),n 47 (bin 47 .lss (v 46) (k 0))]) (F (v 47) (Q (R [n 4 (asg 4 (k (-1)))]) .ret) .skip)) (Q (R [n 48 (mov 48 (v 0)),n 49 (mov 49 (v 5)),n 50 (idx 50 (v 48) (v 49) 6),n 51 (fld 51 (v 50) 4),n 52 (ld 52 (v 51) 1 false),n 53 (mov 53 (v 1)),n 54 (call (some 54) 80 [v 52,v 53]),n 1 (asg 1 (v 54))]) (Q (Q (R [n 55 (mov 55 (v 1)),n 56 (bin 56 .lss (v 55) (k 0))]) (F (v 56) (Q (R [n 4 (asg 4 (k (-1)))]) .ret) .skip)) (Q (R [n 57 (mov 57 (v 0)),n 58 (mov 58 (v 5)),n 59 (idx 59 (v 57) (v 58) 6),n 60 (fld 60 (v 59) 5),n 61 (ld 61 (v 60) 1 false),n 62 (mov 62 (v 1)),n 63 (call (some 63) 81 [v 61,v 62]),n 1 (asg 1 (v 63))]) (Q (R [n 64 (mov 64 (v 1)),n 65 (bin 65 .lss (v 64) (k 0))]) (F (v 65) (Q (R [n 4 (asg 4 (k (-1)))]) .ret) .skip)))))))))))))) (R [n 10 (mov 10 (v 5)),n 11 (bin 11 .add (v 10) (k 1)),n 5 (asg 5 (v 11))])))))) (Q (R [n 66 (mov 66 (v 1)),n 4 (asg 4 (v 66))]) .ret))
def c_L_szTab:Cmd:=Q (R [n 2 (box 2 (v 0)),n 4 (asg 4 (k 0))]) (Q (R [n 5 (fld 5 (v 2) 0),n 6 (ld 6 (v 5) 1 false),n 7 (mov 7 (v 1)),n 8 (call (some 8) 82 [v 6,v 7]),n 1 (asg 1 (v 8))]) (Q (Q (R [n 9 (mov 9 (v 1)),n 10 (bin 10 .lss (v 9) (k 0))]) (F (v 10) (Q (R [n 4 (asg 4 (k (-1)))]) .ret) .skip)) (Q (R [n 11 (mov 11 (v 1)),n 4 (asg 4 (v 11))]) .ret)))
def c_S_l3Copy:Cmd:=Q (R [n 1 (box 1 (v 0)),n 2 (alc 2 [.int .i64 0,.int .i64 0,.int .i64 0,.sl 1 [],.sl 2 [],.sl 2 []])]) (Q (R [n 4 (ld 4 (v 1) 6 true),n 3 (alc 3 [.int .i64 0,.int .i64 0,.int .i64 0,.sl 1 [],.sl 2 [],.sl 2 []]),m (st (v 3) (v 4) 6)]) (Q (R [n 5 (bsl 5 1 []),n 6 (fld 6 (v 1) 3),n 7 (ld 7 (v 6) 1 false),n 8 (app 8 (v 5) (v 7) 1 1),n 9 (fld 9 (v 3) 3),m (st (v 9) (v 8) 1)]) (Q (R [n 10 (bsl 10 2 []),n 11 (fld 11 (v 1) 4),n 12 (ld 12 (v 11) 1 false),n 13 (app 13 (v 10) (v 12) 2 24),n 14 (fld 14 (v 3) 4),m (st (v 14) (v 13) 1)]) (Q (R [n 15 (bsl 15 2 []),n 16 (fld 16 (v 1) 5),n 17 (ld 17 (v 16) 1 false),n 18 (app 18 (v 15) (v 17) 2 32),n 19 (fld 19 (v 3) 5),m (st (v 19) (v 18) 1)]) (Q (R [n 20 (ld 20 (v 3) 6 true),m (st (v 2) (v 20) 6)]) .ret)))))
def c_S_TabOk:Cmd:=Q (R [n 1 (box 1 (v 0)),n 2 (asg 2 k0)]) (Q (Q (R [n 5 (fld 5 (v 1) 0),n 6 (ld 6 (v 5) 1 false),n 7 (len 7 (v 6)),n 8 (call (some 8) 27 [v 7,k 1,k 30]),n 9 (un 9 .not (v 8)),n 10 (mov 10 (v 9)),h 10 false 11 (fld 11 (v 1) 1),h 10 false 12 (ld 12 (v 11) 1 false),h 10 false 13 (call (some 13) 27 [v 12,k 2,k 1000]),h 10 false 14 (un 14 .not (v 13)),n 15 (pck 15 (v 10) k1 (v 14))]) (F (v 15) (Q (R [n 2 (asg 2 k0)]) .ret) .skip)) (Q (Q (R [n 3 (asg 3 (k 0))]) (.blk 0 (.loop (Q (Q (R [n 16 (mov 16 (v 3)),n 17 (fld 17 (v 1) 0),n 18 (ld 18 (v 17) 1 false),n 19 (len 19 (v 18)),n 20 (bin 20 .lss (v 16) (v 19))]) (F (v 20) .skip (.exit 0))) (Q (.blk 1 (Q (R [n 23 (fld 23 (v 1) 0),n 24 (ld 24 (v 23) 1 false),n 25 (mov 25 (v 3)),n 26 (idx 26 (v 24) (v 25) 6),n 27 (ld 27 (v 26) 6 true),n 4 (alc 4 [.int .i64 0,.int .i64 0,.int .i64 0,.sl 1 [],.sl 2 [],.sl 2 []]),m (st (v 4) (v 27) 6)]) (Q (D [0,1,3,7,15,31,15,79,255,511,1023,2047,4095,8191,16383,32767,16383,81919,262143,524287,1048575,16383,2113535,8388607,16777215,33554431] [n 28 (ld 28 (v 4) 6 true),n 29 (call (some 29) 83 [v 28]),n 30 (un 30 .not (v 29)),n 31 (mov 31 (v 30)),h 31 false 32 (fld 32 (v 4) 0),h 31 false 33 (ld 33 (v 32) 1 false),h 31 false 34 (fld 34 (v 1) 1),h 31 false 35 (ld 35 (v 34) 1 false),h 31 false 36 (bin 36 .geq (v 33) (v 35)),n 37 (pck 37 (v 31) k1 (v 36)),n 38 (mov 38 (v 37)),h 38 false 39 (mov 39 (v 3)),h 38 false 40 (bin 40 .gtr (v 39) (k 0)),h 38 false 41 (mov 41 (v 40)),h 41 true 42 (fld 42 (v 1) 0),h 41 true 43 (ld 43 (v 42) 1 false),h 41 true 44 (mov 44 (v 3)),h 41 true 45 (bin 45 .sub (v 44) (k 1)),h 41 true 46 (idx 46 (v 43) (v 45) 6),h 41 true 47 (fld 47 (v 46) 0),h 41 true 48 (ld 48 (v 47) 1 false),h 41 true 49 (fld 49 (v 4) 0),h 41 true 50 (ld 50 (v 49) 1 false),h 41 true 51 (bin 51 .geq (v 48) (v 50)),h 38 false 52 (pck 52 (v 41) (v 51) k0),n 53 (pck 53 (v 38) k1 (v 52))]) (F (v 53) (Q (R [n 2 (asg 2 k0)]) .ret) .skip)))) (R [n 21 (mov 21 (v 3)),n 22 (bin 22 .add (v 21) (k 1)),n 3 (asg 3 (v 22))])))))) (Q (R [n 54 (fld 54 (v 1) 0),n 55 (ld 55 (v 54) 1 false),n 56 (idx 56 (v 55) (k 0) 6),n 57 (fld 57 (v 56) 0),n 58 (ld 58 (v 57) 1 false),n 59 (bin 59 .eql (v 58) (k 1)),n 60 (mov 60 (v 59)),h 60 true 61 (fld 61 (v 1) 0),h 60 true 62 (ld 62 (v 61) 1 false),h 60 true 63 (idx 63 (v 62) (k 0) 6),h 60 true 64 (fld 64 (v 63) 1),h 60 true 65 (ld 65 (v 64) 1 false),h 60 true 66 (bin 66 .eql (v 65) (k 2)),n 67 (pck 67 (v 60) (v 66) k0),n 2 (asg 2 (v 67))]) .ret)))
def c_S_Reached:Cmd:=Q (R [n 1 (box 1 (v 0)),n 2 (asg 2 (.c (.own 1 [])))]) (Q (R [n 5 (bsl 5 1 []),n 3 (asg 3 (v 5))]) (Q (Q (R [n 6 (ld 6 (v 1) 2 true),n 7 (call (some 7) 67 [v 6,k 1]),n 8 (bin 8 .lss (v 7) (k 0))]) (F (v 8) (Q (R [n 9 (mov 9 (v 3)),n 2 (asg 2 (v 9))]) .ret) .skip)) (Q (R [n 10 (mov 10 (v 3)),n 11 (bsl 11 1 [k 1]),n 12 (app 12 (v 10) (v 11) 1 8),n 3 (asg 3 (v 12))]) (Q (Q (R [n 4 (asg 4 (k 0))]) (.blk 0 (.loop (Q (Q (R [n 13 (mov 13 (v 4)),n 14 (fld 14 (v 1) 0),n 15 (ld 15 (v 14) 1 false),n 16 (len 16 (v 15)),n 17 (bin 17 .lss (v 13) (v 16))]) (F (v 17) .skip (.exit 0))) (Q (.blk 1 (R [n 20 (ld 20 (v 1) 2 true),n 21 (mov 21 (v 3)),n 22 (call (some 22) 84 [v 20,v 21]),n 3 (asg 3 (v 22))])) (R [n 18 (mov 18 (v 4)),n 19 (bin 19 .add (v 18) (k 1)),n 4 (asg 4 (v 19))])))))) (Q (R [n 23 (mov 23 (v 3)),n 2 (asg 2 (v 23))]) .ret)))))
def c_S_LinksOf:Cmd:=Q (R [n 2 (box 2 (v 0)),n 4 (asg 4 (k 0))]) (Q (R [n 5 (asg 5 (k 0))]) (Q (Q (R [n 6 (asg 6 (k 0))]) (.blk 0 (.loop (Q (Q (R [n 8 (mov 8 (v 6)),n 9 (fld 9 (v 2) 0),n 10 (ld 10 (v 9) 1 false),n 11 (len 11 (v 10)),n 12 (bin 12 .lss (v 8) (v 11))]) (F (v 12) .skip (.exit 0))) (Q (.blk 1 (Q (R [n 7 (asg 7 (k 0))]) (.blk 2 (.loop (Q (Q (R [n 15 (mov 15 (v 7)),n 16 (fld 16 (v 2) 0),n 17 (ld 17 (v 16) 1 false),n 18 (mov 18 (v 6)),n 19 (idx 19 (v 17) (v 18) 6),n 20 (fld 20 (v 19) 4),n 21 (ld 21 (v 20) 1 false),n 22 (len 22 (v 21)),n 23 (bin 23 .lss (v 15) (v 22)),n 24 (mov 24 (v 23)),h 24 true 25 (fld 25 (v 2) 0),h 24 true 26 (ld 26 (v 25) 1 false),h 24 true 27 (mov 27 (v 6)),h 24 true 28 (idx 28 (v 26) (v 27) 6),h 24 true 29 (fld 29 (v 28) 1),h 24 true 30 (ld 30 (v 29) 1 false),h 24 true 31 (bin 31 .eql (v 30) (k 2)),n 32 (pck 32 (v 24) (v 31) k0)]) (F (v 32) .skip (.exit 2))) (Q (.blk 3 (Q (R [n 35 (fld 35 (v 2) 0),n 36 (ld 36 (v 35) 1 false),n 37 (mov 37 (v 6)),n 38 (idx 38 (v 36) (v 37) 6),n 39 (fld 39 (v 38) 4),n 40 (ld 40 (v 39) 1 false),n 41 (mov 41 (v 7)),n 42 (idx 42 (v 40) (v 41) 2),n 43 (fld 43 (v 42) 1),n 44 (ld 44 (v 43) 1 false),n 45 (mov 45 (v 1)),n 46 (bin 46 .eql (v 44) (v 45))]) (F (v 46) (R [n 47 (mov 47 (v 5)),n 48 (bin 48 .add (v 47) (k 1)),n 5 (asg 5 (v 48))]) .skip))) (R [n 33 (mov 33 (v 7)),n 34 (bin 34 .add (v 33) (k 1)),n 7 (asg 7 (v 34))]))))))) (R [n 13 (mov 13 (v 6)),n 14 (bin 14 .add (v 13) (k 1)),n 6 (asg 6 (v 14))])))))) (Q (R [n 49 (mov 49 (v 5)),n 4 (asg 4 (v 49))]) .ret)))
def c_S_l4At:Cmd:=Q (R [n 2 (box 2 (v 0)),n 4 (asg 4 (k 0))]) (Q (Q (R [n 5 (asg 5 (k 0))]) (.blk 0 (.loop (Q (Q (R [n 6 (mov 6 (v 5)),n 7 (fld 7 (v 2) 0),n 8 (ld 8 (v 7) 1 false),n 9 (len 9 (v 8)),n 10 (bin 10 .lss (v 6) (v 9))]) (F (v 10) .skip (.exit 0))) (Q (.blk 1 (Q (R [n 13 (fld 13 (v 2) 0),n 14 (ld 14 (v 13) 1 false),n 15 (mov 15 (v 5)),n 16 (idx 16 (v 14) (v 15) 6),n 17 (fld 17 (v 16) 0),n 18 (ld 18 (v 17) 1 false),n 19 (mov 19 (v 1)),n 20 (bin 20 .eql (v 18) (v 19))]) (F (v 20) (Q (R [n 21 (mov 21 (v 5)),n 4 (asg 4 (v 21))]) .ret) .skip))) (R [n 11 (mov 11 (v 5)),n 12 (bin 12 .add (v 11) (k 1)),n 5 (asg 5 (v 12))])))))) (Q (R [n 4 (asg 4 (k (-1)))]) .ret))
def c_L_toTab:Cmd:=Q (R [n 1 (box 1 (v 0)),n 2 (alc 2 [.sl 6 [],.int .i64 0])]) (Q (R [n 3 (alc 3 [.sl 6 [],.int .i64 0])]) (Q (R [n 4 (fld 4 (v 1) 0),n 5 (ld 5 (v 4) 1 false),n 6 (call (some 6) 85 [v 5]),n 7 (fld 7 (v 3) 0),m (st (v 7) (v 6) 1)]) (Q (R [n 8 (fld 8 (v 1) 1),n 9 (ld 9 (v 8) 1 false),n 10 (fld 10 (v 3) 1),m (st (v 10) (v 9) 1)]) (Q (R [n 11 (ld 11 (v 3) 2 true),m (st (v 2) (v 11) 2)]) .ret))))
def c_I_copyInode:Cmd:=Q (R [n 1 (box 1 (v 0)),n 2 (alc 2 [.int .i64 0,.int .i64 0,.int .i64 0,.sl 1 [],.sl 2 [],.sl 2 []])]) (Q (R [n 3 (fld 3 (v 1) 3),n 4 (ld 4 (v 3) 1 false),n 5 (call (some 5) 86 [v 4]),n 6 (fld 6 (v 1) 3),m (st (v 6) (v 5) 1)]) (Q (R [n 7 (fld 7 (v 1) 4),n 8 (ld 8 (v 7) 1 false),n 9 (call (some 9) 87 [v 8]),n 10 (fld 10 (v 1) 4),m (st (v 10) (v 9) 1)]) (Q (R [n 11 (fld 11 (v 1) 5),n 12 (ld 12 (v 11) 1 false),n 13 (call (some 13) 88 [v 12]),n 14 (fld 14 (v 1) 5),m (st (v 14) (v 13) 1)]) (Q (R [n 15 (ld 15 (v 1) 6 true),m (st (v 2) (v 15) 6)]) .ret))))
def c_I_VolNamed_1:Cmd:=Q (R [n 2 (box 2 (v 0)),n 3 (asg 3 k0)]) (Q (R [n 4 (fld 4 (v 2) 1),n 5 (ld 5 (v 4) 1 false),n 6 (ld 6 (v 1) 1 false),n 7 (bin 7 .eql (v 5) (v 6)),n 3 (asg 3 (v 7))]) .ret)
def c_I_TabOk:Cmd:=Q (R [n 1 (box 1 (v 0)),n 2 (asg 2 k0)]) (Q (Q (R [n 7 (fld 7 (v 1) 0),n 8 (ld 8 (v 7) 1 false),n 9 (len 9 (v 8)),n 10 (bin 10 .gtr (v 9) (k 30)),n 11 (mov 11 (v 10)),h 11 false 12 (fld 12 (v 1) 1),h 11 false 13 (ld 13 (v 12) 1 false),h 11 false 14 (call (some 14) 53 [v 13,k 2,k 1000]),h 11 false 15 (un 15 .not (v 14)),n 16 (pck 16 (v 11) k1 (v 15))]) (F (v 16) (Q (R [n 2 (asg 2 k0)]) .ret) .skip)) (Q (Q (R [n 17 (fld 17 (v 1) 0),n 18 (ld 18 (v 17) 1 false),n 19 (len 19 (v 18)),n 20 (mov 20 (k 0))]) (.blk 0 (.loop (Q (R [n 21 (bin 21 .lss (v 20) (v 19))]) (Q (F (v 21) .skip (.exit 0)) (Q (.blk 1 (Q (R [n 22 (mov 22 (v 20)),n 23 (idx 23 (v 18) (v 20) 6),n 24 (ld 24 (v 23) 6 true),n 4 (alc 4 [.int .i64 0,.int .i64 0,.int .i64 0,.sl 1 [],.sl 2 [],.sl 2 []]),n 3 (asg 3 (v 22)),m (st (v 4) (v 24) 6)]) (Q (D [0,1,3,7,15,31,15,79,255,511,1023,2047,4095,8191,16383,32767,16383,81919,262143,524287,1048575,16383,2113535,8388607,16777215,33554431] [n 25 (ld 25 (v 4) 6 true),n 26 (call (some 26) 89 [v 25]),n 27 (un 27 .not (v 26)),n 28 (mov 28 (v 27)),h 28 false 29 (fld 29 (v 4) 0),h 28 false 30 (ld 30 (v 29) 1 false),h 28 false 31 (fld 31 (v 1) 1),h 28 false 32 (ld 32 (v 31) 1 false),h 28 false 33 (bin 33 .geq (v 30) (v 32)),n 34 (pck 34 (v 28) k1 (v 33)),n 35 (mov 35 (v 34)),h 35 false 36 (mov 36 (v 3)),h 35 false 37 (bin 37 .gtr (v 36) (k 0)),h 35 false 38 (mov 38 (v 37)),h 38 true 39 (fld 39 (v 1) 0),h 38 true 40 (ld 40 (v 39) 1 false),h 38 true 41 (mov 41 (v 3)),h 38 true 42 (bin 42 .sub (v 41) (k 1)),h 38 true 43 (idx 43 (v 40) (v 42) 6),h 38 true 44 (fld 44 (v 43) 0),h 38 true 45 (ld 45 (v 44) 1 false),h 38 true 46 (fld 46 (v 4) 0),h 38 true 47 (ld 47 (v 46) 1 false),h 38 true 48 (bin 48 .geq (v 45) (v 47)),h 35 false 49 (pck 49 (v 38) (v 48) k0),n 50 (pck 50 (v 35) k1 (v 49))]) (F (v 50) (Q (R [n 2 (asg 2 k0)]) .ret) .skip)))) (R [n 51 (bin 51 .add (v 20) (k 1)),n 20 (mov 20 (v 51))]))))))) (Q (R [n 53 (ld 53 (v 1) 2 true),n 54 (call (some 54) 90 [v 53,k 1]),n 52 (mov 52 (v 54)),n 55 (xtr 55 (v 52) 0),n 56 (xtr 56 (v 52) 1),n 5 (alc 5 [.int .i64 0,.int .i64 0,.int .i64 0,.sl 1 [],.sl 2 [],.sl 2 []]),m (st (v 5) (v 55) 6),n 6 (asg 6 (v 56))]) (Q (R [n 57 (mov 57 (v 6)),n 58 (mov 58 (v 57)),h 58 true 59 (fld 59 (v 5) 1),h 58 true 60 (ld 60 (v 59) 1 false),h 58 true 61 (bin 61 .eql (v 60) (k 2)),n 62 (pck 62 (v 58) (v 61) k0),n 2 (asg 2 (v 62))]) .ret))))
def c_I_Reached:Cmd:=Q (R [n 1 (box 1 (v 0)),n 2 (asg 2 (.c (.own 1 [])))]) (Q (R [n 10 (bsl 10 1 []),n 3 (asg 3 (v 10))]) (Q (R [n 11 (bsl 11 1 [k 1]),n 4 (asg 4 (v 11))]) (Q (.blk 0 (.loop (Q (Q (R [n 12 (mov 12 (v 4)),n 13 (len 13 (v 12)),n 14 (bin 14 .gtr (v 13) (k 0))]) (F (v 14) .skip (.exit 0))) (.blk 1 (Q (R [n 15 (mov 15 (v 4)),n 16 (idx 16 (v 15) (k 0) 1),n 17 (ld 17 (v 16) 1 false),n 5 (asg 5 (v 17))]) (Q (R [n 18 (mov 18 (v 4)),n 19 (slc 19 (v 18) (some (k 1)) none 1),n 4 (asg 4 (v 19))]) (Q (R [n 21 (ld 21 (v 1) 2 true),n 22 (mov 22 (v 5)),n 23 (call (some 23) 90 [v 21,v 22]),n 20 (mov 20 (v 23)),n 24 (xtr 24 (v 20) 0),n 25 (xtr 25 (v 20) 1),n 6 (alc 6 [.int .i64 0,.int .i64 0,.int .i64 0,.sl 1 [],.sl 2 [],.sl 2 []]),m (st (v 6) (v 24) 6),n 7 (asg 7 (v 25))]) (Q (Q (R [n 26 (mov 26 (v 7)),n 27 (un 27 .not (v 26)),n 28 (mov 28 (v 27)),h 28 false 29 (mov 29 (v 3)),h 28 false 30 (mov 30 (v 5)),h 28 false 31 (call (some 31) 91 [v 29,v 30]),n 32 (pck 32 (v 28) k1 (v 31))]) (F (v 32) (.exit 1) .skip)) (Q (R [n 33 (mov 33 (v 3)),n 34 (mov 34 (v 5)),n 35 (bsl 35 1 [v 34]),n 36 (app 36 (v 33) (v 35) 1 8),n 3 (asg 3 (v 36))]) (Q (R [n 37 (fld 37 (v 6) 1),n 38 (ld 38 (v 37) 1 false),n 39 (bin 39 .eql (v 38) (k 2))]) (F (v 39) (Q (R [n 40 (fld 40 (v 6) 4),n 41 (ld 41 (v 40) 1 false),n 42 (len 42 (v 41)),n 43 (mov 43 (k 0))]) (.blk 2 (.loop (Q (R [n 44 (bin 44 .lss (v 43) (v 42))]) (Q (F (v 44) .skip (.exit 2)) (Q (.blk 3 (Q (R [n 45 (idx 45 (v 41) (v 43) 2),n 46 (ld 46 (v 45) 2 true),n 9 (alc 9 [.str [],.int .i64 0]),m (st (v 9) (v 46) 2)]) (R [n 47 (mov 47 (v 4)),n 48 (fld 48 (v 9) 1),n 49 (ld 49 (v 48) 1 false),n 50 (bsl 50 1 [v 49]),n 51 (app 51 (v 47) (v 50) 1 8),n 4 (asg 4 (v 51))]))) (R [n 52 (bin 52 .add (v 43) (k 1)),n 43 (mov 43 (v 52))]))))))) .skip))))))))))) (Q (R [n 53 (mov 53 (v 3)),n 54 (call (some 54) 92 [v 53])]) (Q (R [n 55 (mov 55 (v 3)),n 2 (asg 2 (v 55))]) .ret)))))
def c_I_LinksOf:Cmd:=Q (R [n 2 (box 2 (v 0)),n 4 (asg 4 (k 0))]) (Q (R [n 5 (asg 5 (k 0))]) (Q (Q (R [n 10 (fld 10 (v 2) 0),n 11 (ld 11 (v 10) 1 false),n 12 (len 12 (v 11)),n 13 (mov 13 (k 0))]) (.blk 0 (.loop (Q (R [n 14 (bin 14 .lss (v 13) (v 12))]) (Q (F (v 14) .skip (.exit 0)) (Q (.blk 1 (Q (R [n 15 (idx 15 (v 11) (v 13) 6),n 16 (ld 16 (v 15) 6 true),n 7 (alc 7 [.int .i64 0,.int .i64 0,.int .i64 0,.sl 1 [],.sl 2 [],.sl 2 []]),m (st (v 7) (v 16) 6)]) (Q (Q (R [n 17 (fld 17 (v 7) 1),n 18 (ld 18 (v 17) 1 false),n 19 (bin 19 .neq (v 18) (k 2))]) (F (v 19) (.exit 1) .skip)) (Q (R [n 20 (fld 20 (v 7) 4),n 21 (ld 21 (v 20) 1 false),n 22 (len 22 (v 21)),n 23 (mov 23 (k 0))]) (.blk 2 (.loop (Q (R [n 24 (bin 24 .lss (v 23) (v 22))]) (Q (F (v 24) .skip (.exit 2)) (Q (.blk 3 (Q (R [n 25 (idx 25 (v 21) (v 23) 2),n 26 (ld 26 (v 25) 2 true),n 9 (alc 9 [.str [],.int .i64 0]),m (st (v 9) (v 26) 2)]) (Q (R [n 27 (fld 27 (v 9) 1),n 28 (ld 28 (v 27) 1 false),n 29 (mov 29 (v 1)),n 30 (bin 30 .eql (v 28) (v 29))]) (F (v 30) (R [n 31 (mov 31 (v 5)),n 32 (bin 32 .add (v 31) (k 1)),n 5 (asg 5 (v 32))]) .skip)))) (R [n 33 (bin 33 .add (v 23) (k 1)),n 23 (mov 23 (v 33))])))))))))) (R [n 34 (bin 34 .add (v 13) (k 1)),n 13 (mov 13 (v 34))]))))))) (Q (R [n 35 (mov 35 (v 5)),n 4 (asg 4 (v 35))]) .ret)))
def c_I_placeOf:Cmd:=Q (R [n 2 (box 2 (v 0)),n 3 (box 3 (v 1)),n 4 (asg 4 (k 0))]) (Q (R [n 5 (fld 5 (v 2) 0),n 6 (ld 6 (v 5) 1 false),n 7 (mkf 7 94 [v 3]),n 8 (call (some 8) 93 [v 6,v 7]),n 4 (asg 4 (v 8))]) .ret)
def c_L_eqTab:Cmd:=Q (R [n 2 (box 2 (v 0)),n 3 (box 3 (v 1)),n 4 (asg 4 k0)]) (Q (Q (R [n 5 (fld 5 (v 2) 0),n 6 (ld 6 (v 5) 1 false),n 7 (fld 7 (v 3) 0),n 8 (ld 8 (v 7) 1 false),n 9 (call (some 9) 95 [v 6,v 8]),n 10 (un 10 .not (v 9))]) (F (v 10) (Q (R [n 4 (asg 4 k0)]) .ret) .skip)) (Q (Q (R [n 11 (fld 11 (v 2) 1),n 12 (ld 12 (v 11) 1 false),n 13 (fld 13 (v 3) 1),n 14 (ld 14 (v 13) 1 false),n 15 (bin 15 .neq (v 12) (v 14))]) (F (v 15) (Q (R [n 4 (asg 4 k0)]) .ret) .skip)) (Q (R [n 4 (asg 4 k1)]) .ret)))
def c_L_markByteS:Cmd:=Q (R [n 4 (asg 4 (k 0))]) (Q (Q (R [n 5 (asg 5 (k 0))]) (.blk 0 (.loop (Q (Q (R [n 6 (mov 6 (v 5)),n 7 (mov 7 (v 0)),n 8 (len 8 (v 7)),n 9 (bin 9 .lss (v 6) (v 8))]) (F (v 9) .skip (.exit 0))) (Q (.blk 1 (Q (R [n 12 (mov 12 (v 0)),n 13 (mov 13 (v 5)),n 14 (mov 14 (v 1)),n 15 (conv 15 .u8 (v 14)),n 16 (idx 16 (v 12) (v 13) 1),m (st (v 16) (v 15) 1)]) (R [n 17 (mov 17 (v 1)),n 18 (bin 18 .add (v 17) (k 1)),n 1 (asg 1 (v 18))]))) (R [n 10 (mov 10 (v 5)),n 11 (bin 11 .add (v 10) (k 1)),n 5 (asg 5 (v 11))])))))) (Q (R [n 19 (mov 19 (v 1)),n 4 (asg 4 (v 19))]) .ret))
def c_L_markEntS:Cmd:=Q (R [n 4 (asg 4 (k 0))]) (Q (Q (R [n 5 (asg 5 (k 0))]) (.blk 0 (.loop (Q (Q (R [n 6 (mov 6 (v 5)),n 7 (mov 7 (v 0)),n 8 (len 8 (v 7)),n 9 (bin 9 .lss (v 6) (v 8))]) (F (v 9) .skip (.exit 0))) (Q (.blk 1 (Q (R [n 12 (mov 12 (v 0)),n 13 (mov 13 (v 5)),n 14 (mov 14 (v 1)),n 15 (call (some 15) 59 [v 14]),n 16 (idx 16 (v 12) (v 13) 2),n 17 (fld 17 (v 16) 0),m (st (v 17) (v 15) 1)]) (Q (R [n 18 (mov 18 (v 1)),n 19 (bin 19 .add (v 18) (k 1)),n 1 (asg 1 (v 19))]) (Q (R [n 20 (mov 20 (v 0)),n 21 (mov 21 (v 5)),n 22 (mov 22 (v 1)),n 23 (idx 23 (v 20) (v 21) 2),n 24 (fld 24 (v 23) 1),m (st (v 24) (v 22) 1)]) (R [n 25 (mov 25 (v 1)),n 26 (bin 26 .add (v 25) (k 1)),n 1 (asg 1 (v 26))]))))) (R [n 10 (mov 10 (v 5)),n 11 (bin 11 .add (v 10) (k 1)),n 5 (asg 5 (v 11))])))))) (Q (R [n 27 (mov 27 (v 1)),n 4 (asg 4 (v 27))]) .ret))
def c_L_markAttrS:Cmd:=Q (R [n 4 (asg 4 (k 0))]) (Q (Q (R [n 5 (asg 5 (k 0))]) (.blk 0 (.loop (Q (Q (R [n 6 (mov 6 (v 5)),n 7 (mov 7 (v 0)),n 8 (len 8 (v 7)),n 9 (bin 9 .lss (v 6) (v 8))]) (F (v 9) .skip (.exit 0))) (Q (.blk 1 (Q (R [n 12 (mov 12 (v 0)),n 13 (mov 13 (v 5)),n 14 (mov 14 (v 1)),n 15 (call (some 15) 59 [v 14]),n 16 (idx 16 (v 12) (v 13) 2),n 17 (fld 17 (v 16) 0),m (st (v 17) (v 15) 1)]) (Q (R [n 18 (mov 18 (v 1)),n 19 (bin 19 .add (v 18) (k 1)),n 1 (asg 1 (v 19))]) (Q (R [n 20 (mov 20 (v 0)),n 21 (mov 21 (v 5)),n 22 (mov 22 (v 1)),n 23 (call (some 23) 59 [v 22]),n 24 (idx 24 (v 20) (v 21) 2),n 25 (fld 25 (v 24) 1),m (st (v 25) (v 23) 1)]) (R [n 26 (mov 26 (v 1)),n 27 (bin 27 .add (v 26) (k 1)),n 1 (asg 1 (v 27))]))))) (R [n 10 (mov 10 (v 5)),n 11 (bin 11 .add (v 10) (k 1)),n 5 (asg 5 (v 11))])))))) (Q (R [n 28 (mov 28 (v 1)),n 4 (asg 4 (v 28))]) .ret))
def c_L_heldByteS:Cmd:=Q (R [n 4 (asg 4 (k 0))]) (Q (Q (R [n 5 (asg 5 (k 0))]) (.blk 0 (.loop (Q (Q (R [n 6 (mov 6 (v 5)),n 7 (mov 7 (v 0)),n 8 (len 8 (v 7)),n 9 (bin 9 .lss (v 6) (v 8))]) (F (v 9) .skip (.exit 0))) (Q (.blk 1 (Q (Q (R [n 12 (mov 12 (v 0)),n 13 (mov 13 (v 5)),n 14 (idx 14 (v 12) (v 13) 1),n 15 (ld 15 (v 14) 1 false),n 16 (mov 16 (v 1)),n 17 (conv 17 .u8 (v 16)),n 18 (bin 18 .neq (v 15) (v 17))]) (F (v 18) (Q (R [n 4 (asg 4 (k (-1)))]) .ret) .skip)) (R [n 19 (mov 19 (v 1)),n 20 (bin 20 .add (v 19) (k 1)),n 1 (asg 1 (v 20))]))) (R [n 10 (mov 10 (v 5)),n 11 (bin 11 .add (v 10) (k 1)),n 5 (asg 5 (v 11))])))))) (Q (R [n 21 (mov 21 (v 1)),n 4 (asg 4 (v 21))]) .ret))
def c_L_heldEntS:Cmd:=Q (R [n 4 (asg 4 (k 0))]) (Q (Q (R [n 5 (asg 5 (k 0))]) (.blk 0 (.loop (Q (Q (R [n 6 (mov 6 (v 5)),n 7 (mov 7 (v 0)),n 8 (len 8 (v 7)),n 9 (bin 9 .lss (v 6) (v 8))]) (F (v 9) .skip (.exit 0))) (Q (.blk 1 (Q (Q (D [0,0,3,7,15,0,32,127] [n 12 (mov 12 (v 0)),n 13 (mov 13 (v 5)),n 14 (idx 14 (v 12) (v 13) 2),n 15 (fld 15 (v 14) 0),n 16 (ld 16 (v 15) 1 false),n 17 (mov 17 (v 1)),n 18 (call (some 18) 59 [v 17]),n 19 (bin 19 .neq (v 16) (v 18))]) (F (v 19) (Q (R [n 4 (asg 4 (k (-1)))]) .ret) .skip)) (Q (R [n 20 (mov 20 (v 1)),n 21 (bin 21 .add (v 20) (k 1)),n 1 (asg 1 (v 21))]) (Q (Q (R [n 22 (mov 22 (v 0)),n 23 (mov 23 (v 5)),n 24 (idx 24 (v 22) (v 23) 2),n 25 (fld 25 (v 24) 1),n 26 (ld 26 (v 25) 1 false),n 27 (mov 27 (v 1)),n 28 (bin 28 .neq (v 26) (v 27))]) (F (v 28) (Q (R [n 4 (asg 4 (k (-1)))]) .ret) .skip)) (R [n 29 (mov 29 (v 1)),n 30 (bin 30 .add (v 29) (k 1)),n 1 (asg 1 (v 30))]))))) (R [n 10 (mov 10 (v 5)),n 11 (bin 11 .add (v 10) (k 1)),n 5 (asg 5 (v 11))])))))) (Q (R [n 31 (mov 31 (v 1)),n 4 (asg 4 (v 31))]) .ret))
def c_L_heldAttrS:Cmd:=Q (R [n 4 (asg 4 (k 0))]) (Q (Q (R [n 5 (asg 5 (k 0))]) (.blk 0 (.loop (Q (Q (R [n 6 (mov 6 (v 5)),n 7 (mov 7 (v 0)),n 8 (len 8 (v 7)),n 9 (bin 9 .lss (v 6) (v 8))]) (F (v 9) .skip (.exit 0))) (Q (.blk 1 (Q (Q (D [0,0,3,7,15,0,32,127] [n 12 (mov 12 (v 0)),n 13 (mov 13 (v 5)),n 14 (idx 14 (v 12) (v 13) 2),n 15 (fld 15 (v 14) 0),n 16 (ld 16 (v 15) 1 false),n 17 (mov 17 (v 1)),n 18 (call (some 18) 59 [v 17]),n 19 (bin 19 .neq (v 16) (v 18))]) (F (v 19) (Q (R [n 4 (asg 4 (k (-1)))]) .ret) .skip)) (Q (R [n 20 (mov 20 (v 1)),n 21 (bin 21 .add (v 20) (k 1)),n 1 (asg 1 (v 21))]) (Q (Q (D [0,0,3,7,15,0,32,127] [n 22 (mov 22 (v 0)),n 23 (mov 23 (v 5)),n 24 (idx 24 (v 22) (v 23) 2),n 25 (fld 25 (v 24) 1),n 26 (ld 26 (v 25) 1 false),n 27 (mov 27 (v 1)),n 28 (call (some 28) 59 [v 27]),n 29 (bin 29 .neq (v 26) (v 28))]) (F (v 29) (Q (R [n 4 (asg 4 (k (-1)))]) .ret) .skip)) (R [n 30 (mov 30 (v 1)),n 31 (bin 31 .add (v 30) (k 1)),n 1 (asg 1 (v 31))]))))) (R [n 10 (mov 10 (v 5)),n 11 (bin 11 .add (v 10) (k 1)),n 5 (asg 5 (v 11))])))))) (Q (R [n 32 (mov 32 (v 1)),n 4 (asg 4 (v 32))]) .ret))
def c_L_szInodeS:Cmd:=Q (R [n 4 (asg 4 (k 0))]) (Q (R [n 6 (mov 6 (v 1)),n 7 (mov 7 (v 0)),n 8 (len 8 (v 7)),n 9 (bin 9 .sub (v 6) (v 8)),n 1 (asg 1 (v 9))]) (Q (Q (R [n 10 (mov 10 (v 1)),n 11 (bin 11 .lss (v 10) (k 0))]) (F (v 11) (Q (R [n 4 (asg 4 (k (-1)))]) .ret) .skip)) (Q (Q (R [n 5 (asg 5 (k 0))]) (.blk 0 (.loop (Q (Q (R [n 12 (mov 12 (v 5)),n 13 (mov 13 (v 0)),n 14 (len 14 (v 13)),n 15 (bin 15 .lss (v 12) (v 14))]) (F (v 15) .skip (.exit 0))) (Q (.blk 1 (Q (R [n 18 (mov 18 (v 0)),n 19 (mov 19 (v 5)),n 20 (idx 20 (v 18) (v 19) 6),n 21 (ld 21 (v 20) 6 true),n 22 (mov 22 (v 1)),n 23 (call (some 23) 96 [v 21,v 22]),n 1 (asg 1 (v 23))]) (Q (R [n 24 (mov 24 (v 1)),n 25 (bin 25 .lss (v 24) (k 0))]) (F (v 25) (Q (R [n 4 (asg 4 (k (-1)))]) .ret) .skip)))) (R [n 16 (mov 16 (v 5)),n 17 (bin 17 .add (v 16) (k 1)),n 5 (asg 5 (v 17))])))))) (Q (R [n 26 (mov 26 (v 1)),n 4 (asg 4 (v 26))]) .ret))))
def c_S_InodeOk:Cmd:=Q (R [n 1 (box 1 (v 0)),n 2 (asg 2 k0)]) (Q (Q (R [n 3 (fld 3 (v 1) 0),n 4 (ld 4 (v 3) 1 false),n 5 (call (some 5) 27 [v 4,k 1,k 1000]),n 6 (un 6 .not (v 5)),n 7 (mov 7 (v 6)),h 7 false 8 (fld 8 (v 1) 2),h 7 false 9 (ld 9 (v 8) 1 false),h 7 false 10 (call (some 10) 27 [v 9,k 0,k 1000]),h 7 false 11 (un 11 .not (v 10)),n 12 (pck 12 (v 7) k1 (v 11)),n 13 (mov 13 (v 12)),h 13 false 14 (fld 14 (v 1) 2),h 13 false 15 (ld 15 (v 14) 1 false),h 13 false 16 (bin 16 .eql (v 15) (k 0)),h 13 false 17 (fld 17 (v 1) 0),h 13 false 18 (ld 18 (v 17) 1 false),h 13 false 19 (bin 19 .eql (v 18) (k 1)),h 13 false 20 (beq 20 true (v 16) (v 19)),n 21 (pck 21 (v 13) k1 (v 20)),n 22 (mov 22 (v 21)),h 22 false 23 (fld 23 (v 1) 3),h 22 false 24 (ld 24 (v 23) 1 false),h 22 false 25 (len 25 (v 24)),h 22 false 26 (bin 26 .gtr (v 25) (k 100)),n 27 (pck 27 (v 22) k1 (v 26)),n 28 (mov 28 (v 27)),h 28 false 29 (fld 29 (v 1) 4),h 28 false 30 (ld 30 (v 29) 1 false),h 28 false 31 (call (some 31) 97 [v 30]),h 28 false 32 (un 32 .not (v 31)),n 33 (pck 33 (v 28) k1 (v 32)),n 34 (mov 34 (v 33)),h 34 false 35 (fld 35 (v 1) 5),h 34 false 36 (ld 36 (v 35) 1 false),h 34 false 37 (call (some 37) 98 [v 36]),h 34 false 38 (un 38 .not (v 37)),n 39 (pck 39 (v 34) k1 (v 38))]) (F (v 39) (Q (R [n 2 (asg 2 k0)]) .ret) .skip)) (Q (Q (R [n 40 (fld 40 (v 1) 1),n 41 (ld 41 (v 40) 1 false)]) (.blk 0 (Q (R [n 43 (bin 43 .eql (v 41) (k 1)),n 42 (asg 42 (v 43))]) (F (v 42) (Q (R [n 44 (fld 44 (v 1) 4),n 45 (ld 45 (v 44) 1 false),n 46 (len 46 (v 45)),n 47 (bin 47 .eql (v 46) (k 0)),n 2 (asg 2 (v 47))]) .ret) (Q (R [n 49 (bin 49 .eql (v 41) (k 2)),n 48 (asg 48 (v 49))]) (F (v 48) (Q (R [n 50 (fld 50 (v 1) 3),n 51 (ld 51 (v 50) 1 false),n 52 (len 52 (v 51)),n 53 (bin 53 .eql (v 52) (k 0)),n 54 (mov 54 (v 53)),h 54 true 55 (fld 55 (v 1) 2),h 54 true 56 (ld 56 (v 55) 1 false),h 54 true 57 (bin 57 .leq (v 56) (k 1)),n 58 (pck 58 (v 54) (v 57) k0),n 2 (asg 2 (v 58))]) .ret) .skip)))))) (Q (R [n 2 (asg 2 k0)]) .ret)))
def c_S_l7Next:Cmd:=Q (R [n 2 (box 2 (v 0)),n 4 (asg 4 (.c (.own 1 [])))]) (Q (R [n 10 (mov 10 (v 1)),n 5 (asg 5 (v 10))]) (Q (Q (R [n 6 (asg 6 (k 0))]) (.blk 0 (.loop (Q (Q (R [n 11 (mov 11 (v 6)),n 12 (mov 12 (v 1)),n 13 (len 13 (v 12)),n 14 (bin 14 .lss (v 11) (v 13))]) (F (v 14) .skip (.exit 0))) (Q (.blk 1 (Q (D [0,0,0,6,14,31,63,127,255,0,767,2047] [n 18 (ld 18 (v 2) 2 true),n 19 (mov 19 (v 1)),n 20 (mov 20 (v 6)),n 21 (idx 21 (v 19) (v 20) 1),n 22 (ld 22 (v 21) 1 false),n 23 (call (some 23) 99 [v 18,v 22]),n 17 (mov 17 (v 23)),n 24 (xtr 24 (v 17) 0),n 25 (xtr 25 (v 17) 1),n 7 (alc 7 [.int .i64 0,.int .i64 0,.int .i64 0,.sl 1 [],.sl 2 [],.sl 2 []]),m (st (v 7) (v 24) 6),n 8 (asg 8 (v 25))]) (Q (R [n 9 (asg 9 (k 0))]) (.blk 2 (.loop (Q (Q (R [n 26 (mov 26 (v 9)),n 27 (fld 27 (v 7) 4),n 28 (ld 28 (v 27) 1 false),n 29 (len 29 (v 28)),n 30 (bin 30 .lss (v 26) (v 29)),n 31 (mov 31 (v 30)),h 31 true 32 (mov 32 (v 8)),n 33 (pck 33 (v 31) (v 32) k0),n 34 (mov 34 (v 33)),h 34 true 35 (fld 35 (v 7) 1),h 34 true 36 (ld 36 (v 35) 1 false),h 34 true 37 (bin 37 .eql (v 36) (k 2)),n 38 (pck 38 (v 34) (v 37) k0)]) (F (v 38) .skip (.exit 2))) (Q (.blk 3 (Q (D [0,0,2,0,14,30,62,127,255] [n 41 (ld 41 (v 2) 2 true),n 42 (fld 42 (v 7) 4),n 43 (ld 43 (v 42) 1 false),n 44 (mov 44 (v 9)),n 45 (idx 45 (v 43) (v 44) 2),n 46 (fld 46 (v 45) 1),n 47 (ld 47 (v 46) 1 false),n 48 (call (some 48) 67 [v 41,v 47]),n 49 (bin 49 .geq (v 48) (k 0))]) (F (v 49) (R [n 50 (mov 50 (v 5)),n 51 (fld 51 (v 7) 4),n 52 (ld 52 (v 51) 1 false),n 53 (mov 53 (v 9)),n 54 (idx 54 (v 52) (v 53) 2),n 55 (fld 55 (v 54) 1),n 56 (ld 56 (v 55) 1 false),n 57 (call (some 57) 100 [v 50,v 56]),n 5 (asg 5 (v 57))]) .skip))) (R [n 39 (mov 39 (v 9)),n 40 (bin 40 .add (v 39) (k 1)),n 9 (asg 9 (v 40))])))))))) (R [n 15 (mov 15 (v 6)),n 16 (bin 16 .add (v 15) (k 1)),n 6 (asg 6 (v 16))])))))) (Q (R [n 58 (mov 58 (v 5)),n 4 (asg 4 (v 58))]) .ret)))
def c_L_toInodeS:Cmd:=Q (R [n 2 (asg 2 (.c (.own 6 [])))]) (Q (R [n 5 (mov 5 (v 0)),n 6 (len 6 (v 5)),n 7 (mks 7 (v 6) (v 6) 6 96 [.int .i64 0,.int .i64 0,.int .i64 0,.sl 1 [],.sl 2 [],.sl 2 []]),n 3 (asg 3 (v 7))]) (Q (Q (R [n 4 (asg 4 (k 0))]) (.blk 0 (.loop (Q (Q (R [n 8 (mov 8 (v 4)),n 9 (mov 9 (v 0)),n 10 (len 10 (v 9)),n 11 (bin 11 .lss (v 8) (v 10))]) (F (v 11) .skip (.exit 0))) (Q (.blk 1 (R [n 14 (mov 14 (v 3)),n 15 (mov 15 (v 4)),n 16 (mov 16 (v 0)),n 17 (mov 17 (v 4)),n 18 (idx 18 (v 16) (v 17) 6),n 19 (ld 19 (v 18) 6 true),n 20 (call (some 20) 101 [v 19]),n 21 (idx 21 (v 14) (v 15) 6),m (st (v 21) (v 20) 6)])) (R [n 12 (mov 12 (v 4)),n 13 (bin 13 .add (v 12) (k 1)),n 4 (asg 4 (v 13))])))))) (Q (R [n 22 (mov 22 (v 3)),n 2 (asg 2 (v 22))]) .ret)))
def c_X_Clone_byte:Cmd:=Q (R [n 2 (asg 2 (.c (.own 1 [])))]) (Q (Q (R [n 3 (mov 3 (v 0)),n 4 (isn 4 false (v 3) (.c (.own 1 [])))]) (F (v 4) (Q (R [n 2 (asg 2 (.c (.own 1 [])))]) .ret) .skip)) (Q (R [n 5 (bsl 5 1 []),n 6 (mov 6 (v 0)),n 7 (app 7 (v 5) (v 6) 1 1),n 2 (asg 2 (v 7))]) .ret))
def c_X_Clone_Ent:Cmd:=Q (R [n 2 (asg 2 (.c (.own 2 [])))]) (Q (Q (R [n 3 (mov 3 (v 0)),n 4 (isn 4 false (v 3) (.c (.own 2 [])))]) (F (v 4) (Q (R [n 2 (asg 2 (.c (.own 2 [])))]) .ret) .skip)) (Q (R [n 5 (bsl 5 2 []),n 6 (mov 6 (v 0)),n 7 (app 7 (v 5) (v 6) 2 24),n 2 (asg 2 (v 7))]) .ret))
def c_X_Clone_Attr:Cmd:=Q (R [n 2 (asg 2 (.c (.own 2 [])))]) (Q (Q (R [n 3 (mov 3 (v 0)),n 4 (isn 4 false (v 3) (.c (.own 2 [])))]) (F (v 4) (Q (R [n 2 (asg 2 (.c (.own 2 [])))]) .ret) .skip)) (Q (R [n 5 (bsl 5 2 []),n 6 (mov 6 (v 0)),n 7 (app 7 (v 5) (v 6) 2 32),n 2 (asg 2 (v 7))]) .ret))
def c_I_InodeOk:Cmd:=Q (R [n 1 (box 1 (v 0)),n 2 (asg 2 k0)]) (Q (Q (R [n 5 (fld 5 (v 1) 0),n 6 (ld 6 (v 5) 1 false),n 7 (call (some 7) 53 [v 6,k 1,k 1000]),n 8 (un 8 .not (v 7)),n 9 (mov 9 (v 8)),h 9 false 10 (fld 10 (v 1) 3),h 9 false 11 (ld 11 (v 10) 1 false),h 9 false 12 (len 12 (v 11)),h 9 false 13 (bin 13 .gtr (v 12) (k 100)),n 14 (pck 14 (v 9) k1 (v 13)),n 15 (mov 15 (v 14)),h 15 false 16 (fld 16 (v 1) 4),h 15 false 17 (ld 17 (v 16) 1 false),h 15 false 18 (len 18 (v 17)),h 15 false 19 (bin 19 .gtr (v 18) (k 10)),n 20 (pck 20 (v 15) k1 (v 19)),n 21 (mov 21 (v 20)),h 21 false 22 (fld 22 (v 1) 5),h 21 false 23 (ld 23 (v 22) 1 false),h 21 false 24 (call (some 24) 102 [v 23]),h 21 false 25 (un 25 .not (v 24)),n 26 (pck 26 (v 21) k1 (v 25))]) (F (v 26) (Q (R [n 2 (asg 2 k0)]) .ret) .skip)) (Q (Q (R [n 27 (fld 27 (v 1) 4),n 28 (ld 28 (v 27) 1 false),n 29 (len 29 (v 28)),n 30 (mov 30 (k 0))]) (.blk 0 (.loop (Q (R [n 31 (bin 31 .lss (v 30) (v 29))]) (Q (F (v 31) .skip (.exit 0)) (Q (.blk 1 (Q (R [n 32 (mov 32 (v 30)),n 33 (idx 33 (v 28) (v 30) 2),n 34 (ld 34 (v 33) 2 true),n 4 (alc 4 [.str [],.int .i64 0]),n 3 (asg 3 (v 32)),m (st (v 4) (v 34) 2)]) (Q (D [0,1,3,7,15,31,63,127,255,511,1023,2047,4095,8191,16383,32767,16383,81919,262143,524287,1048575,16383,2113535,8388607,16777215,33554431] [n 35 (fld 35 (v 4) 0),n 36 (ld 36 (v 35) 1 false),n 37 (call (some 37) 41 [v 36]),n 38 (un 38 .not (v 37)),n 39 (mov 39 (v 38)),h 39 false 40 (fld 40 (v 4) 1),h 39 false 41 (ld 41 (v 40) 1 false),h 39 false 42 (call (some 42) 53 [v 41,k 2,k 1000]),h 39 false 43 (un 43 .not (v 42)),n 44 (pck 44 (v 39) k1 (v 43)),n 45 (mov 45 (v 44)),h 45 false 46 (mov 46 (v 3)),h 45 false 47 (bin 47 .gtr (v 46) (k 0)),h 45 false 48 (mov 48 (v 47)),h 48 true 49 (fld 49 (v 1) 4),h 48 true 50 (ld 50 (v 49) 1 false),h 48 true 51 (mov 51 (v 3)),h 48 true 52 (bin 52 .sub (v 51) (k 1)),h 48 true 53 (idx 53 (v 50) (v 52) 2),h 48 true 54 (fld 54 (v 53) 0),h 48 true 55 (ld 55 (v 54) 1 false),h 48 true 56 (fld 56 (v 4) 0),h 48 true 57 (ld 57 (v 56) 1 false),h 48 true 58 (bin 58 .geq (v 55) (v 57)),h 45 false 59 (pck 59 (v 48) (v 58) k0),n 60 (pck 60 (v 45) k1 (v 59))]) (F (v 60) (Q (R [n 2 (asg 2 k0)]) .ret) .skip)))) (R [n 61 (bin 61 .add (v 30) (k 1)),n 30 (mov 30 (v 61))]))))))) (Q (Q (R [n 62 (fld 62 (v 1) 2),n 63 (ld 63 (v 62) 1 false),n 64 (call (some 64) 53 [v 63,k 0,k 1000]),n 65 (un 65 .not (v 64)),n 66 (mov 66 (v 65)),h 66 false 67 (fld 67 (v 1) 2),h 66 false 68 (ld 68 (v 67) 1 false),h 66 false 69 (bin 69 .eql (v 68) (k 0)),h 66 false 70 (fld 70 (v 1) 0),h 66 false 71 (ld 71 (v 70) 1 false),h 66 false 72 (bin 72 .eql (v 71) (k 1)),h 66 false 73 (beq 73 true (v 69) (v 72)),n 74 (pck 74 (v 66) k1 (v 73))]) (F (v 74) (Q (R [n 2 (asg 2 k0)]) .ret) .skip)) (Q (Q (R [n 75 (fld 75 (v 1) 1),n 76 (ld 76 (v 75) 1 false)]) (.blk 2 (Q (R [n 78 (bin 78 .eql (v 76) (k 1)),n 77 (asg 77 (v 78))]) (F (v 77) (Q (R [n 79 (fld 79 (v 1) 4),n 80 (ld 80 (v 79) 1 false),n 81 (len 81 (v 80)),n 82 (bin 82 .eql (v 81) (k 0)),n 2 (asg 2 (v 82))]) .ret) (Q (R [n 84 (bin 84 .eql (v 76) (k 2)),n 83 (asg 83 (v 84))]) (F (v 83) (Q (R [n 85 (fld 85 (v 1) 3),n 86 (ld 86 (v 85) 1 false),n 87 (len 87 (v 86)),n 88 (bin 88 .eql (v 87) (k 0)),n 89 (mov 89 (v 88)),h 89 true 90 (fld 90 (v 1) 2),h 89 true 91 (ld 91 (v 90) 1 false),h 89 true 92 (bin 92 .leq (v 91) (k 1)),n 93 (pck 93 (v 89) (v 92) k0),n 2 (asg 2 (v 93))]) .ret) .skip)))))) (Q (R [n 2 (asg 2 k0)]) .ret)))))
def c_I_InodeAt:Cmd:=Q (R [n 2 (box 2 (v 0)),n 4 (alc 4 [.int .i64 0,.int .i64 0,.int .i64 0,.sl 1 [],.sl 2 [],.sl 2 []]),n 5 (asg 5 k0)]) (Q (R [n 7 (ld 7 (v 2) 2 true),n 8 (mov 8 (v 1)),n 9 (call (some 9) 74 [v 7,v 8]),n 6 (asg 6 (v 9))]) (Q (Q (R [n 10 (mov 10 (v 6)),n 11 (bin 11 .lss (v 10) (k 0))]) (F (v 11) (Q (R [n 12 (bld 12 [.int .i64 0,.int .i64 0,.int .i64 0,.sl 1 [],.sl 2 [],.sl 2 []] []),m (st (v 4) (v 12) 6),n 5 (asg 5 k0)]) .ret) .skip)) (Q (R [n 13 (fld 13 (v 2) 0),n 14 (ld 14 (v 13) 1 false),n 15 (mov 15 (v 6)),n 16 (idx 16 (v 14) (v 15) 6),n 17 (ld 17 (v 16) 6 true),n 18 (call (some 18) 69 [v 17]),m (st (v 4) (v 18) 6),n 5 (asg 5 k1)]) .ret)))
def c_X_Contains_int:Cmd:=Q (R [n 4 (asg 4 k0)]) (Q (R [n 5 (mov 5 (v 0)),n 6 (mov 6 (v 1)),n 7 (call (some 7) 103 [v 5,v 6]),n 8 (bin 8 .geq (v 7) (k 0)),n 4 (asg 4 (v 8))]) .ret)
def c_X_IndexFunc_Inode:Cmd:=Q (R [n 4 (asg 4 (k 0))]) (Q (Q (R [n 6 (mov 6 (v 0)),n 7 (len 7 (v 6)),n 8 (mov 8 (k 0))]) (.blk 0 (.loop (Q (R [n 9 (bin 9 .lss (v 8) (v 7))]) (Q (F (v 9) .skip (.exit 0)) (Q (.blk 1 (Q (R [n 10 (mov 10 (v 8)),n 5 (asg 5 (v 10))]) (Q (R [n 11 (mov 11 (v 1)),n 12 (mov 12 (v 0)),n 13 (mov 13 (v 5)),n 14 (idx 14 (v 12) (v 13) 6),n 15 (ld 15 (v 14) 6 true),n 16 (callv (some 16) (v 11) [v 15])]) (F (v 16) (Q (R [n 17 (mov 17 (v 5)),n 4 (asg 4 (v 17))]) .ret) .skip)))) (R [n 18 (bin 18 .add (v 8) (k 1)),n 8 (mov 8 (v 18))]))))))) (Q (R [n 4 (asg 4 (k (-1)))]) .ret))
def c_I_placeOf_1:Cmd:=Q (R [n 2 (box 2 (v 0)),n 3 (asg 3 k0)]) (Q (R [n 4 (fld 4 (v 2) 0),n 5 (ld 5 (v 4) 1 false),n 6 (ld 6 (v 1) 1 false),n 7 (bin 7 .eql (v 5) (v 6)),n 3 (asg 3 (v 7))]) .ret)
def c_L_eqInodeS:Cmd:=Q (R [n 4 (asg 4 k0)]) (Q (Q (R [n 6 (mov 6 (v 0)),n 7 (len 7 (v 6)),n 8 (mov 8 (v 1)),n 9 (len 9 (v 8)),n 10 (bin 10 .neq (v 7) (v 9))]) (F (v 10) (Q (R [n 4 (asg 4 k0)]) .ret) .skip)) (Q (Q (R [n 5 (asg 5 (k 0))]) (.blk 0 (.loop (Q (Q (R [n 11 (mov 11 (v 5)),n 12 (mov 12 (v 0)),n 13 (len 13 (v 12)),n 14 (bin 14 .lss (v 11) (v 13))]) (F (v 14) .skip (.exit 0))) (Q (.blk 1 (Q (D [0,0,3,7,0,0,48,112,255,511] [n 17 (mov 17 (v 0)),n 18 (mov 18 (v 5)),n 19 (idx 19 (v 17) (v 18) 6),n 20 (ld 20 (v 19) 6 true),n 21 (mov 21 (v 1)),n 22 (mov 22 (v 5)),n 23 (idx 23 (v 21) (v 22) 6),n 24 (ld 24 (v 23) 6 true),n 25 (call (some 25) 106 [v 20,v 24]),n 26 (un 26 .not (v 25))]) (F (v 26) (Q (R [n 4 (asg 4 k0)]) .ret) .skip))) (R [n 15 (mov 15 (v 5)),n 16 (bin 16 .add (v 15) (k 1)),n 5 (asg 5 (v 16))])))))) (Q (R [n 4 (asg 4 k1)]) .ret)))
def c_L_szInode:Cmd:=Q (R [n 2 (box 2 (v 0)),n 4 (asg 4 (k 0))]) (Q (R [n 5 (fld 5 (v 2) 3),n 6 (ld 6 (v 5) 1 false),n 7 (mov 7 (v 1)),n 8 (call (some 8) 107 [v 6,v 7]),n 1 (asg 1 (v 8))]) (Q (Q (R [n 9 (mov 9 (v 1)),n 10 (bin 10 .lss (v 9) (k 0))]) (F (v 10) (Q (R [n 4 (asg 4 (k (-1)))]) .ret) .skip)) (Q (R [n 11 (fld 11 (v 2) 4),n 12 (ld 12 (v 11) 1 false),n 13 (mov 13 (v 1)),n 14 (call (some 14) 108 [v 12,v 13]),n 1 (asg 1 (v 14))]) (Q (Q (R [n 15 (mov 15 (v 1)),n 16 (bin 16 .lss (v 15) (k 0))]) (F (v 16) (Q (R [n 4 (asg 4 (k (-1)))]) .ret) .skip)) (Q (R [n 17 (fld 17 (v 2) 5),n 18 (ld 18 (v 17) 1 false),n 19 (mov 19 (v 1)),n 20 (call (some 20) 109 [v 18,v 19]),n 1 (asg 1 (v 20))]) (Q (Q (R [n 21 (mov 21 (v 1)),n 22 (bin 22 .lss (v 21) (k 0))]) (F (v 22) (Q (R [n 4 (asg 4 (k (-1)))]) .ret) .skip)) (Q (R [n 23 (mov 23 (v 1)),n 4 (asg 4 (v 23))]) .ret)))))))
def c_S_l3Ents:Cmd:=Q (R [n 2 (asg 2 k0)]) (Q (Q (R [n 3 (asg 3 (k 0))]) (.blk 0 (.loop (Q (Q (R [n 4 (mov 4 (v 3)),n 5 (mov 5 (v 0)),n 6 (len 6 (v 5)),n 7 (bin 7 .lss (v 4) (v 6))]) (F (v 7) .skip (.exit 0))) (Q (.blk 1 (Q (D [0,0,3,7,15,31,63,127,255,255,1023,2047,4095,8191,16383,32767,65535,131071,262143,524287,1048575,1048575,3145727,8388607,16777215,33554431,1048575,1048575,202375167,470810623,1007681535,2147483647,4294967295,8589934591] [n 10 (mov 10 (v 0)),n 11 (mov 11 (v 3)),n 12 (idx 12 (v 10) (v 11) 2),n 13 (fld 13 (v 12) 0),n 14 (ld 14 (v 13) 1 false),n 15 (call (some 15) 38 [v 14]),n 16 (un 16 .not (v 15)),n 17 (mov 17 (v 16)),h 17 false 18 (mov 18 (v 0)),h 17 false 19 (mov 19 (v 3)),h 17 false 20 (idx 20 (v 18) (v 19) 2),h 17 false 21 (fld 21 (v 20) 1),h 17 false 22 (ld 22 (v 21) 1 false),h 17 false 23 (call (some 23) 27 [v 22,k 2,k 1000]),h 17 false 24 (un 24 .not (v 23)),n 25 (pck 25 (v 17) k1 (v 24)),n 26 (mov 26 (v 25)),h 26 false 27 (mov 27 (v 3)),h 26 false 28 (bin 28 .gtr (v 27) (k 0)),h 26 false 29 (mov 29 (v 28)),h 29 true 30 (mov 30 (v 0)),h 29 true 31 (mov 31 (v 3)),h 29 true 32 (bin 32 .sub (v 31) (k 1)),h 29 true 33 (idx 33 (v 30) (v 32) 2),h 29 true 34 (fld 34 (v 33) 0),h 29 true 35 (ld 35 (v 34) 1 false),h 29 true 36 (mov 36 (v 0)),h 29 true 37 (mov 37 (v 3)),h 29 true 38 (idx 38 (v 36) (v 37) 2),h 29 true 39 (fld 39 (v 38) 0),h 29 true 40 (ld 40 (v 39) 1 false),h 29 true 41 (bin 41 .geq (v 35) (v 40)),h 26 false 42 (pck 42 (v 29) (v 41) k0),n 43 (pck 43 (v 26) k1 (v 42))]) (F (v 43) (Q (R [n 2 (asg 2 k0)]) .ret) .skip))) (R [n 8 (mov 8 (v 3)),n 9 (bin 9 .add (v 8) (k 1)),n 3 (asg 3 (v 9))])))))) (Q (R [n 44 (mov 44 (v 0)),n 45 (len 45 (v 44)),n 46 (bin 46 .leq (v 45) (k 10)),n 2 (asg 2 (v 46))]) .ret))
def c_S_l3Attrs:Cmd:=Q (R [n 2 (asg 2 k0)]) (Q (Q (R [n 3 (asg 3 (k 0))]) (.blk 0 (.loop (Q (Q (R [n 4 (mov 4 (v 3)),n 5 (mov 5 (v 0)),n 6 (len 6 (v 5)),n 7 (bin 7 .lss (v 4) (v 6))]) (F (v 7) .skip (.exit 0))) (Q (.blk 1 (Q (D [0,0,3,7,15,31,63,127,255,255,1023,2047,4095,8191,16383,32767,65535,131071,262143,524287,1048575,2097151,2097151,6291455,16777215,33554431,67108863,2097151,2097151,404750335,941621247,2015363071,4294967295,8589934591,17179869183] [n 10 (mov 10 (v 0)),n 11 (mov 11 (v 3)),n 12 (idx 12 (v 10) (v 11) 2),n 13 (fld 13 (v 12) 0),n 14 (ld 14 (v 13) 1 false),n 15 (call (some 15) 38 [v 14]),n 16 (un 16 .not (v 15)),n 17 (mov 17 (v 16)),h 17 false 18 (mov 18 (v 0)),h 17 false 19 (mov 19 (v 3)),h 17 false 20 (idx 20 (v 18) (v 19) 2),h 17 false 21 (fld 21 (v 20) 1),h 17 false 22 (ld 22 (v 21) 1 false),h 17 false 23 (lens 23 (v 22)),h 17 false 24 (call (some 24) 27 [v 23,k 1,k 16]),h 17 false 25 (un 25 .not (v 24)),n 26 (pck 26 (v 17) k1 (v 25)),n 27 (mov 27 (v 26)),h 27 false 28 (mov 28 (v 3)),h 27 false 29 (bin 29 .gtr (v 28) (k 0)),h 27 false 30 (mov 30 (v 29)),h 30 true 31 (mov 31 (v 0)),h 30 true 32 (mov 32 (v 3)),h 30 true 33 (bin 33 .sub (v 32) (k 1)),h 30 true 34 (idx 34 (v 31) (v 33) 2),h 30 true 35 (fld 35 (v 34) 0),h 30 true 36 (ld 36 (v 35) 1 false),h 30 true 37 (mov 37 (v 0)),h 30 true 38 (mov 38 (v 3)),h 30 true 39 (idx 39 (v 37) (v 38) 2),h 30 true 40 (fld 40 (v 39) 0),h 30 true 41 (ld 41 (v 40) 1 false),h 30 true 42 (bin 42 .geq (v 36) (v 41)),h 27 false 43 (pck 43 (v 30) (v 42) k0),n 44 (pck 44 (v 27) k1 (v 43))]) (F (v 44) (Q (R [n 2 (asg 2 k0)]) .ret) .skip))) (R [n 8 (mov 8 (v 3)),n 9 (bin 9 .add (v 8) (k 1)),n 3 (asg 3 (v 9))])))))) (Q (R [n 45 (mov 45 (v 0)),n 46 (len 46 (v 45)),n 47 (bin 47 .leq (v 46) (k 4)),n 2 (asg 2 (v 47))]) .ret))
def c_S_InodeAt:Cmd:=Q (R [n 2 (box 2 (v 0)),n 4 (alc 4 [.int .i64 0,.int .i64 0,.int .i64 0,.sl 1 [],.sl 2 [],.sl 2 []]),n 5 (asg 5 k0)]) (Q (R [n 7 (ld 7 (v 2) 2 true),n 8 (mov 8 (v 1)),n 9 (call (some 9) 67 [v 7,v 8]),n 6 (asg 6 (v 9))]) (Q (Q (R [n 10 (mov 10 (v 6)),n 11 (bin 11 .lss (v 10) (k 0))]) (F (v 11) (Q (R [n 12 (bld 12 [.int .i64 0,.int .i64 0,.int .i64 0,.sl 1 [],.sl 2 [],.sl 2 []] []),m (st (v 4) (v 12) 6),n 5 (asg 5 k0)]) .ret) .skip)) (Q (R [n 13 (fld 13 (v 2) 0),n 14 (ld 14 (v 13) 1 false),n 15 (mov 15 (v 6)),n 16 (idx 16 (v 14) (v 15) 6),n 17 (ld 17 (v 16) 6 true),n 18 (call (some 18) 63 [v 17]),m (st (v 4) (v 18) 6),n 5 (asg 5 k1)]) .ret)))
def c_S_l7Put:Cmd:=Q (R [n 4 (asg 4 (.c (.own 1 [])))]) (Q (Q (R [n 7 (mov 7 (v 0)),n 8 (mov 8 (v 1)),n 9 (call (some 9) 110 [v 7,v 8])]) (F (v 9) (Q (R [n 10 (mov 10 (v 0)),n 4 (asg 4 (v 10))]) .ret) .skip)) (Q (R [n 11 (bsl 11 1 []),n 12 (mov 12 (v 0)),n 13 (app 13 (v 11) (v 12) 1 8),n 14 (mov 14 (v 1)),n 15 (bsl 15 1 [v 14]),n 16 (app 16 (v 13) (v 15) 1 8),n 5 (asg 5 (v 16))]) (Q (R [n 17 (mov 17 (v 5)),n 18 (len 18 (v 17)),n 19 (bin 19 .sub (v 18) (k 1)),n 6 (asg 6 (v 19))]) (Q (.blk 0 (.loop (Q (Q (R [n 20 (mov 20 (v 6)),n 21 (bin 21 .gtr (v 20) (k 0)),n 22 (mov 22 (v 21)),h 22 true 23 (mov 23 (v 5)),h 22 true 24 (mov 24 (v 6)),h 22 true 25 (bin 25 .sub (v 24) (k 1)),h 22 true 26 (idx 26 (v 23) (v 25) 1),h 22 true 27 (ld 27 (v 26) 1 false),h 22 true 28 (mov 28 (v 1)),h 22 true 29 (bin 29 .gtr (v 27) (v 28)),n 30 (pck 30 (v 22) (v 29) k0)]) (F (v 30) .skip (.exit 0))) (.blk 1 (Q (R [n 31 (mov 31 (v 5)),n 32 (mov 32 (v 6)),n 33 (mov 33 (v 5)),n 34 (mov 34 (v 6)),n 35 (bin 35 .sub (v 34) (k 1)),n 36 (idx 36 (v 33) (v 35) 1),n 37 (ld 37 (v 36) 1 false),n 38 (idx 38 (v 31) (v 32) 1),m (st (v 38) (v 37) 1)]) (R [n 39 (mov 39 (v 6)),n 40 (bin 40 .sub (v 39) (k 1)),n 6 (asg 6 (v 40))])))))) (Q (R [n 41 (mov 41 (v 5)),n 42 (mov 42 (v 6)),n 43 (mov 43 (v 1)),n 44 (idx 44 (v 41) (v 42) 1),m (st (v 44) (v 43) 1)]) (Q (R [n 45 (mov 45 (v 5)),n 4 (asg 4 (v 45))]) .ret))))))
def c_L_toInode:Cmd:=Q (R [n 1 (box 1 (v 0)),n 2 (alc 2 [.int .i64 0,.int .i64 0,.int .i64 0,.sl 1 [],.sl 2 [],.sl 2 []])]) (Q (R [n 3 (alc 3 [.int .i64 0,.int .i64 0,.int .i64 0,.sl 1 [],.sl 2 [],.sl 2 []])]) (Q (R [n 4 (fld 4 (v 1) 0),n 5 (ld 5 (v 4) 1 false),n 6 (fld 6 (v 3) 0),m (st (v 6) (v 5) 1)]) (Q (R [n 7 (fld 7 (v 1) 1),n 8 (ld 8 (v 7) 1 false),n 9 (fld 9 (v 3) 1),m (st (v 9) (v 8) 1)]) (Q (R [n 10 (fld 10 (v 1) 2),n 11 (ld 11 (v 10) 1 false),n 12 (fld 12 (v 3) 2),m (st (v 12) (v 11) 1)]) (Q (R [n 13 (fld 13 (v 1) 3),n 14 (ld 14 (v 13) 1 false),n 15 (call (some 15) 111 [v 14]),n 16 (fld 16 (v 3) 3),m (st (v 16) (v 15) 1)]) (Q (R [n 17 (fld 17 (v 1) 4),n 18 (ld 18 (v 17) 1 false),n 19 (call (some 19) 112 [v 18]),n 20 (fld 20 (v 3) 4),m (st (v 20) (v 19) 1)]) (Q (R [n 21 (fld 21 (v 1) 5),n 22 (ld 22 (v 21) 1 false),n 23 (call (some 23) 113 [v 22]),n 24 (fld 24 (v 3) 5),m (st (v 24) (v 23) 1)]) (Q (R [n 25 (ld 25 (v 3) 6 true),m (st (v 2) (v 25) 6)]) .ret))))))))
def c_I_attrsOk:Cmd:=Q (R [n 2 (asg 2 k0)]) (Q (Q (R [n 5 (mov 5 (v 0)),n 6 (len 6 (v 5)),n 7 (mov 7 (k 0))]) (.blk 0 (.loop (Q (R [n 8 (bin 8 .lss (v 7) (v 6))]) (Q (F (v 8) .skip (.exit 0)) (Q (.blk 1 (Q (R [n 9 (mov 9 (v 7)),n 10 (idx 10 (v 5) (v 7) 2),n 11 (ld 11 (v 10) 2 true),n 4 (alc 4 [.str [],.str []]),n 3 (asg 3 (v 9)),m (st (v 4) (v 11) 2)]) (Q (D [0,1,3,7,15,31,63,127,255,511,1023,2047,4095,8191,16383,32767,32767,98303,262143,524287,1048575,32767,2129919,8388607,16777215,33554431] [n 12 (fld 12 (v 4) 0),n 13 (ld 13 (v 12) 1 false),n 14 (call (some 14) 41 [v 13]),n 15 (un 15 .not (v 14)),n 16 (mov 16 (v 15)),h 16 false 17 (fld 17 (v 4) 1),h 16 false 18 (ld 18 (v 17) 1 false),h 16 false 19 (lens 19 (v 18)),h 16 false 20 (call (some 20) 53 [v 19,k 1,k 16]),h 16 false 21 (un 21 .not (v 20)),n 22 (pck 22 (v 16) k1 (v 21)),n 23 (mov 23 (v 22)),h 23 false 24 (mov 24 (v 3)),h 23 false 25 (bin 25 .gtr (v 24) (k 0)),h 23 false 26 (mov 26 (v 25)),h 26 true 27 (mov 27 (v 0)),h 26 true 28 (mov 28 (v 3)),h 26 true 29 (bin 29 .sub (v 28) (k 1)),h 26 true 30 (idx 30 (v 27) (v 29) 2),h 26 true 31 (fld 31 (v 30) 0),h 26 true 32 (ld 32 (v 31) 1 false),h 26 true 33 (fld 33 (v 4) 0),h 26 true 34 (ld 34 (v 33) 1 false),h 26 true 35 (bin 35 .geq (v 32) (v 34)),h 23 false 36 (pck 36 (v 26) (v 35) k0),n 37 (pck 37 (v 23) k1 (v 36))]) (F (v 37) (Q (R [n 2 (asg 2 k0)]) .ret) .skip)))) (R [n 38 (bin 38 .add (v 7) (k 1)),n 7 (mov 7 (v 38))]))))))) (Q (R [n 39 (mov 39 (v 0)),n 40 (len 40 (v 39)),n 41 (bin 41 .leq (v 40) (k 4)),n 2 (asg 2 (v 41))]) .ret))
def c_X_Index_int:Cmd:=Q (R [n 4 (asg 4 (k 0))]) (Q (Q (R [n 6 (mov 6 (v 0)),n 7 (len 7 (v 6)),n 8 (mov 8 (k 0))]) (.blk 0 (.loop (Q (R [n 9 (bin 9 .lss (v 8) (v 7))]) (Q (F (v 9) .skip (.exit 0)) (Q (.blk 1 (Q (R [n 10 (mov 10 (v 8)),n 5 (asg 5 (v 10))]) (Q (R [n 11 (mov 11 (v 1)),n 12 (mov 12 (v 0)),n 13 (mov 13 (v 5)),n 14 (idx 14 (v 12) (v 13) 1),n 15 (ld 15 (v 14) 1 false),n 16 (bin 16 .eql (v 11) (v 15))]) (F (v 16) (Q (R [n 17 (mov 17 (v 5)),n 4 (asg 4 (v 17))]) .ret) .skip)))) (R [n 18 (bin 18 .add (v 8) (k 1)),n 8 (mov 8 (v 18))]))))))) (Q (R [n 4 (asg 4 (k (-1)))]) .ret))
def c_L_eqInode:Cmd:=Q (R [n 2 (box 2 (v 0)),n 3 (box 3 (v 1)),n 4 (asg 4 k0)]) (Q (Q (R [n 5 (fld 5 (v 2) 0),n 6 (ld 6 (v 5) 1 false),n 7 (fld 7 (v 3) 0),n 8 (ld 8 (v 7) 1 false),n 9 (bin 9 .neq (v 6) (v 8))]) (F (v 9) (Q (R [n 4 (asg 4 k0)]) .ret) .skip)) (Q (Q (R [n 10 (fld 10 (v 2) 1),n 11 (ld 11 (v 10) 1 false),n 12 (fld 12 (v 3) 1),n 13 (ld 13 (v 12) 1 false),n 14 (bin 14 .neq (v 11) (v 13))]) (F (v 14) (Q (R [n 4 (asg 4 k0)]) .ret) .skip)) (Q (Q (R [n 15 (fld 15 (v 2) 2),n 16 (ld 16 (v 15) 1 false),n 17 (fld 17 (v 3) 2),n 18 (ld 18 (v 17) 1 false),n 19 (bin 19 .neq (v 16) (v 18))]) (F (v 19) (Q (R [n 4 (asg 4 k0)]) .ret) .skip)) (Q (Q (R [n 20 (fld 20 (v 2) 3),n 21 (ld 21 (v 20) 1 false),n 22 (fld 22 (v 3) 3),n 23 (ld 23 (v 22) 1 false),n 24 (call (some 24) 125 [v 21,v 23]),n 25 (un 25 .not (v 24))]) (F (v 25) (Q (R [n 4 (asg 4 k0)]) .ret) .skip)) (Q (Q (R [n 26 (fld 26 (v 2) 4),n 27 (ld 27 (v 26) 1 false),n 28 (fld 28 (v 3) 4),n 29 (ld 29 (v 28) 1 false),n 30 (call (some 30) 126 [v 27,v 29]),n 31 (un 31 .not (v 30))]) (F (v 31) (Q (R [n 4 (asg 4 k0)]) .ret) .skip)) (Q (Q (R [n 32 (fld 32 (v 2) 5),n 33 (ld 33 (v 32) 1 false),n 34 (fld 34 (v 3) 5),n 35 (ld 35 (v 34) 1 false),n 36 (call (some 36) 127 [v 33,v 35]),n 37 (un 37 .not (v 36))]) (F (v 37) (Q (R [n 4 (asg 4 k0)]) .ret) .skip)) (Q (R [n 4 (asg 4 k1)]) .ret)))))))
def c_L_szByteS:Cmd:=Q (R [n 4 (asg 4 (k 0))]) (Q (R [n 5 (mov 5 (v 1)),n 6 (mov 6 (v 0)),n 7 (len 7 (v 6)),n 8 (bin 8 .sub (v 5) (v 7)),n 1 (asg 1 (v 8))]) (Q (Q (R [n 9 (mov 9 (v 1)),n 10 (bin 10 .lss (v 9) (k 0))]) (F (v 10) (Q (R [n 4 (asg 4 (k (-1)))]) .ret) .skip)) (Q (R [n 11 (mov 11 (v 1)),n 4 (asg 4 (v 11))]) .ret)))
def c_L_szEntS:Cmd:=Q (R [n 4 (asg 4 (k 0))]) (Q (R [n 6 (mov 6 (v 1)),n 7 (mov 7 (v 0)),n 8 (len 8 (v 7)),n 9 (bin 9 .sub (v 6) (v 8)),n 1 (asg 1 (v 9))]) (Q (Q (R [n 10 (mov 10 (v 1)),n 11 (bin 11 .lss (v 10) (k 0))]) (F (v 11) (Q (R [n 4 (asg 4 (k (-1)))]) .ret) .skip)) (Q (Q (R [n 5 (asg 5 (k 0))]) (.blk 0 (.loop (Q (Q (R [n 12 (mov 12 (v 5)),n 13 (mov 13 (v 0)),n 14 (len 14 (v 13)),n 15 (bin 15 .lss (v 12) (v 14))]) (F (v 15) .skip (.exit 0))) (Q (.blk 1 (Q (R [n 18 (mov 18 (v 0)),n 19 (mov 19 (v 5)),n 20 (idx 20 (v 18) (v 19) 2),n 21 (ld 21 (v 20) 2 true),n 22 (mov 22 (v 1)),n 23 (call (some 23) 128 [v 21,v 22]),n 1 (asg 1 (v 23))]) (Q (R [n 24 (mov 24 (v 1)),n 25 (bin 25 .lss (v 24) (k 0))]) (F (v 25) (Q (R [n 4 (asg 4 (k (-1)))]) .ret) .skip)))) (R [n 16 (mov 16 (v 5)),n 17 (bin 17 .add (v 16) (k 1)),n 5 (asg 5 (v 17))])))))) (Q (R [n 26 (mov 26 (v 1)),n 4 (asg 4 (v 26))]) .ret))))
def c_L_szAttrS:Cmd:=Q (R [n 4 (asg 4 (k 0))]) (Q (R [n 6 (mov 6 (v 1)),n 7 (mov 7 (v 0)),n 8 (len 8 (v 7)),n 9 (bin 9 .sub (v 6) (v 8)),n 1 (asg 1 (v 9))]) (Q (Q (R [n 10 (mov 10 (v 1)),n 11 (bin 11 .lss (v 10) (k 0))]) (F (v 11) (Q (R [n 4 (asg 4 (k (-1)))]) .ret) .skip)) (Q (Q (R [n 5 (asg 5 (k 0))]) (.blk 0 (.loop (Q (Q (R [n 12 (mov 12 (v 5)),n 13 (mov 13 (v 0)),n 14 (len 14 (v 13)),n 15 (bin 15 .lss (v 12) (v 14))]) (F (v 15) .skip (.exit 0))) (Q (.blk 1 (Q (R [n 18 (mov 18 (v 0)),n 19 (mov 19 (v 5)),n 20 (idx 20 (v 18) (v 19) 2),n 21 (ld 21 (v 20) 2 true),n 22 (mov 22 (v 1)),n 23 (call (some 23) 129 [v 21,v 22]),n 1 (asg 1 (v 23))]) (Q (R [n 24 (mov 24 (v 1)),n 25 (bin 25 .lss (v 24) (k 0))]) (F (v 25) (Q (R [n 4 (asg 4 (k (-1)))]) .ret) .skip)))) (R [n 16 (mov 16 (v 5)),n 17 (bin 17 .add (v 16) (k 1)),n 5 (asg 5 (v 17))])))))) (Q (R [n 26 (mov 26 (v 1)),n 4 (asg 4 (v 26))]) .ret))))
def c_S_l7Has:Cmd:=Q (R [n 4 (asg 4 k0)]) (Q (Q (R [n 5 (asg 5 (k 0))]) (.blk 0 (.loop (Q (Q (R [n 6 (mov 6 (v 5)),n 7 (mov 7 (v 0)),n 8 (len 8 (v 7)),n 9 (bin 9 .lss (v 6) (v 8))]) (F (v 9) .skip (.exit 0))) (Q (.blk 1 (Q (R [n 12 (mov 12 (v 0)),n 13 (mov 13 (v 5)),n 14 (idx 14 (v 12) (v 13) 1),n 15 (ld 15 (v 14) 1 false),n 16 (mov 16 (v 1)),n 17 (bin 17 .eql (v 15) (v 16))]) (F (v 17) (Q (R [n 4 (asg 4 k1)]) .ret) .skip))) (R [n 10 (mov 10 (v 5)),n 11 (bin 11 .add (v 10) (k 1)),n 5 (asg 5 (v 11))])))))) (Q (R [n 4 (asg 4 k0)]) .ret))
def c_L_toByteS:Cmd:=Q (R [n 2 (asg 2 (.c (.own 1 [])))]) (Q (R [n 5 (mov 5 (v 0)),n 6 (len 6 (v 5)),n 7 (mks 7 (v 6) (v 6) 1 1 [.int .u8 0]),n 3 (asg 3 (v 7))]) (Q (Q (R [n 4 (asg 4 (k 0))]) (.blk 0 (.loop (Q (Q (R [n 8 (mov 8 (v 4)),n 9 (mov 9 (v 0)),n 10 (len 10 (v 9)),n 11 (bin 11 .lss (v 8) (v 10))]) (F (v 11) .skip (.exit 0))) (Q (.blk 1 (R [n 14 (mov 14 (v 3)),n 15 (mov 15 (v 4)),n 16 (mov 16 (v 0)),n 17 (mov 17 (v 4)),n 18 (idx 18 (v 16) (v 17) 1),n 19 (ld 19 (v 18) 1 false),n 20 (idx 20 (v 14) (v 15) 1),m (st (v 20) (v 19) 1)])) (R [n 12 (mov 12 (v 4)),n 13 (bin 13 .add (v 12) (k 1)),n 4 (asg 4 (v 13))])))))) (Q (R [n 21 (mov 21 (v 3)),n 2 (asg 2 (v 21))]) .ret)))
def c_L_toEntS:Cmd:=Q (R [n 2 (asg 2 (.c (.own 2 [])))]) (Q (R [n 5 (mov 5 (v 0)),n 6 (len 6 (v 5)),n 7 (mks 7 (v 6) (v 6) 2 24 [.str [],.int .i64 0]),n 3 (asg 3 (v 7))]) (Q (Q (R [n 4 (asg 4 (k 0))]) (.blk 0 (.loop (Q (Q (R [n 8 (mov 8 (v 4)),n 9 (mov 9 (v 0)),n 10 (len 10 (v 9)),n 11 (bin 11 .lss (v 8) (v 10))]) (F (v 11) .skip (.exit 0))) (Q (.blk 1 (R [n 14 (mov 14 (v 3)),n 15 (mov 15 (v 4)),n 16 (mov 16 (v 0)),n 17 (mov 17 (v 4)),n 18 (idx 18 (v 16) (v 17) 2),n 19 (ld 19 (v 18) 2 true),n 20 (call (some 20) 130 [v 19]),n 21 (idx 21 (v 14) (v 15) 2),m (st (v 21) (v 20) 2)])) (R [n 12 (mov 12 (v 4)),n 13 (bin 13 .add (v 12) (k 1)),n 4 (asg 4 (v 13))])))))) (Q (R [n 22 (mov 22 (v 3)),n 2 (asg 2 (v 22))]) .ret)))
def c_L_toAttrS:Cmd:=Q (R [n 2 (asg 2 (.c (.own 2 [])))]) (Q (R [n 5 (mov 5 (v 0)),n 6 (len 6 (v 5)),n 7 (mks 7 (v 6) (v 6) 2 32 [.str [],.str []]),n 3 (asg 3 (v 7))]) (Q (Q (R [n 4 (asg 4 (k 0))]) (.blk 0 (.loop (Q (Q (R [n 8 (mov 8 (v 4)),n 9 (mov 9 (v 0)),n 10 (len 10 (v 9)),n 11 (bin 11 .lss (v 8) (v 10))]) (F (v 11) .skip (.exit 0))) (Q (.blk 1 (R [n 14 (mov 14 (v 3)),n 15 (mov 15 (v 4)),n 16 (mov 16 (v 0)),n 17 (mov 17 (v 4)),n 18 (idx 18 (v 16) (v 17) 2),n 19 (ld 19 (v 18) 2 true),n 20 (call (some 20) 131 [v 19]),n 21 (idx 21 (v 14) (v 15) 2),m (st (v 21) (v 20) 2)])) (R [n 12 (mov 12 (v 4)),n 13 (bin 13 .add (v 12) (k 1)),n 4 (asg 4 (v 13))])))))) (Q (R [n 22 (mov 22 (v 3)),n 2 (asg 2 (v 22))]) .ret)))
def c_L_eqByteS:Cmd:=Q (R [n 4 (asg 4 k0)]) (Q (Q (R [n 6 (mov 6 (v 0)),n 7 (len 7 (v 6)),n 8 (mov 8 (v 1)),n 9 (len 9 (v 8)),n 10 (bin 10 .neq (v 7) (v 9))]) (F (v 10) (Q (R [n 4 (asg 4 k0)]) .ret) .skip)) (Q (Q (R [n 5 (asg 5 (k 0))]) (.blk 0 (.loop (Q (Q (R [n 11 (mov 11 (v 5)),n 12 (mov 12 (v 0)),n 13 (len 13 (v 12)),n 14 (bin 14 .lss (v 11) (v 13))]) (F (v 14) .skip (.exit 0))) (Q (.blk 1 (Q (D [0,0,3,7,0,0,48,112,255] [n 17 (mov 17 (v 0)),n 18 (mov 18 (v 5)),n 19 (idx 19 (v 17) (v 18) 1),n 20 (ld 20 (v 19) 1 false),n 21 (mov 21 (v 1)),n 22 (mov 22 (v 5)),n 23 (idx 23 (v 21) (v 22) 1),n 24 (ld 24 (v 23) 1 false),n 25 (bin 25 .neq (v 20) (v 24))]) (F (v 25) (Q (R [n 4 (asg 4 k0)]) .ret) .skip))) (R [n 15 (mov 15 (v 5)),n 16 (bin 16 .add (v 15) (k 1)),n 5 (asg 5 (v 16))])))))) (Q (R [n 4 (asg 4 k1)]) .ret)))
def c_L_eqEntS:Cmd:=Q (R [n 4 (asg 4 k0)]) (Q (Q (R [n 6 (mov 6 (v 0)),n 7 (len 7 (v 6)),n 8 (mov 8 (v 1)),n 9 (len 9 (v 8)),n 10 (bin 10 .neq (v 7) (v 9))]) (F (v 10) (Q (R [n 4 (asg 4 k0)]) .ret) .skip)) (Q (Q (R [n 5 (asg 5 (k 0))]) (.blk 0 (.loop (Q (Q (R [n 11 (mov 11 (v 5)),n 12 (mov 12 (v 0)),n 13 (len 13 (v 12)),n 14 (bin 14 .lss (v 11) (v 13))]) (F (v 14) .skip (.exit 0))) (Q (.blk 1 (Q (D [0,0,3,7,0,0,48,112,255,511] [n 17 (mov 17 (v 0)),n 18 (mov 18 (v 5)),n 19 (idx 19 (v 17) (v 18) 2),n 20 (ld 20 (v 19) 2 true),n 21 (mov 21 (v 1)),n 22 (mov 22 (v 5)),n 23 (idx 23 (v 21) (v 22) 2),n 24 (ld 24 (v 23) 2 true),n 25 (call (some 25) 138 [v 20,v 24]),n 26 (un 26 .not (v 25))]) (F (v 26) (Q (R [n 4 (asg 4 k0)]) .ret) .skip))) (R [n 15 (mov 15 (v 5)),n 16 (bin 16 .add (v 15) (k 1)),n 5 (asg 5 (v 16))])))))) (Q (R [n 4 (asg 4 k1)]) .ret)))
def c_L_eqAttrS:Cmd:=Q (R [n 4 (asg 4 k0)]) (Q (Q (R [n 6 (mov 6 (v 0)),n 7 (len 7 (v 6)),n 8 (mov 8 (v 1)),n 9 (len 9 (v 8)),n 10 (bin 10 .neq (v 7) (v 9))]) (F (v 10) (Q (R [n 4 (asg 4 k0)]) .ret) .skip)) (Q (Q (R [n 5 (asg 5 (k 0))]) (.blk 0 (.loop (Q (Q (R [n 11 (mov 11 (v 5)),n 12 (mov 12 (v 0)),n 13 (len 13 (v 12)),n 14 (bin 14 .lss (v 11) (v 13))]) (F (v 14) .skip (.exit 0))) (Q (.blk 1 (Q (D [0,0,3,7,0,0,48,112,255,511] [n 17 (mov 17 (v 0)),n 18 (mov 18 (v 5)),n 19 (idx 19 (v 17) (v 18) 2),n 20 (ld 20 (v 19) 2 true),n 21 (mov 21 (v 1)),n 22 (mov 22 (v 5)),n 23 (idx 23 (v 21) (v 22) 2),n 24 (ld 24 (v 23) 2 true),n 25 (call (some 25) 139 [v 20,v 24]),n 26 (un 26 .not (v 25))]) (F (v 26) (Q (R [n 4 (asg 4 k0)]) .ret) .skip))) (R [n 15 (mov 15 (v 5)),n 16 (bin 16 .add (v 15) (k 1)),n 5 (asg 5 (v 16))])))))) (Q (R [n 4 (asg 4 k1)]) .ret)))
def c_L_szEnt:Cmd:=Q (R [n 2 (box 2 (v 0)),n 4 (asg 4 (k 0))]) (Q (R [n 5 (mov 5 (v 1)),n 6 (fld 6 (v 2) 0),n 7 (ld 7 (v 6) 1 false),n 8 (lens 8 (v 7)),n 9 (bin 9 .sub (v 5) (v 8)),n 1 (asg 1 (v 9))]) (Q (Q (R [n 10 (mov 10 (v 1)),n 11 (bin 11 .lss (v 10) (k 0))]) (F (v 11) (Q (R [n 4 (asg 4 (k (-1)))]) .ret) .skip)) (Q (R [n 12 (mov 12 (v 1)),n 4 (asg 4 (v 12))]) .ret)))
def c_L_szAttr:Cmd:=Q (R [n 2 (box 2 (v 0)),n 4 (asg 4 (k 0))]) (Q (R [n 5 (mov 5 (v 1)),n 6 (fld 6 (v 2) 0),n 7 (ld 7 (v 6) 1 false),n 8 (lens 8 (v 7)),n 9 (bin 9 .sub (v 5) (v 8)),n 1 (asg 1 (v 9))]) (Q (Q (R [n 10 (mov 10 (v 1)),n 11 (bin 11 .lss (v 10) (k 0))]) (F (v 11) (Q (R [n 4 (asg 4 (k (-1)))]) .ret) .skip)) (Q (R [n 12 (mov 12 (v 1)),n 13 (fld 13 (v 2) 1),n 14 (ld 14 (v 13) 1 false),n 15 (lens 15 (v 14)),n 16 (bin 16 .sub (v 12) (v 15)),n 1 (asg 1 (v 16))]) (Q (Q (R [n 17 (mov 17 (v 1)),n 18 (bin 18 .lss (v 17) (k 0))]) (F (v 18) (Q (R [n 4 (asg 4 (k (-1)))]) .ret) .skip)) (Q (R [n 19 (mov 19 (v 1)),n 4 (asg 4 (v 19))]) .ret)))))
def c_L_toEnt:Cmd:=Q (R [n 1 (box 1 (v 0)),n 2 (alc 2 [.str [],.int .i64 0])]) (Q (R [n 3 (alc 3 [.str [],.int .i64 0])]) (Q (R [n 4 (fld 4 (v 1) 0),n 5 (ld 5 (v 4) 1 false),n 6 (fld 6 (v 3) 0),m (st (v 6) (v 5) 1)]) (Q (R [n 7 (fld 7 (v 1) 1),n 8 (ld 8 (v 7) 1 false),n 9 (fld 9 (v 3) 1),m (st (v 9) (v 8) 1)]) (Q (R [n 10 (ld 10 (v 3) 2 true),m (st (v 2) (v 10) 2)]) .ret))))
def c_L_toAttr:Cmd:=Q (R [n 1 (box 1 (v 0)),n 2 (alc 2 [.str [],.str []])]) (Q (R [n 3 (alc 3 [.str [],.str []])]) (Q (R [n 4 (fld 4 (v 1) 0),n 5 (ld 5 (v 4) 1 false),n 6 (fld 6 (v 3) 0),m (st (v 6) (v 5) 1)]) (Q (R [n 7 (fld 7 (v 1) 1),n 8 (ld 8 (v 7) 1 false),n 9 (fld 9 (v 3) 1),m (st (v 9) (v 8) 1)]) (Q (R [n 10 (ld 10 (v 3) 2 true),m (st (v 2) (v 10) 2)]) .ret))))
def c_L_eqEnt:Cmd:=Q (R [n 2 (box 2 (v 0)),n 3 (box 3 (v 1)),n 4 (asg 4 k0)]) (Q (Q (R [n 5 (fld 5 (v 2) 0),n 6 (ld 6 (v 5) 1 false),n 7 (fld 7 (v 3) 0),n 8 (ld 8 (v 7) 1 false),n 9 (bin 9 .neq (v 6) (v 8))]) (F (v 9) (Q (R [n 4 (asg 4 k0)]) .ret) .skip)) (Q (Q (R [n 10 (fld 10 (v 2) 1),n 11 (ld 11 (v 10) 1 false),n 12 (fld 12 (v 3) 1),n 13 (ld 13 (v 12) 1 false),n 14 (bin 14 .neq (v 11) (v 13))]) (F (v 14) (Q (R [n 4 (asg 4 k0)]) .ret) .skip)) (Q (R [n 4 (asg 4 k1)]) .ret)))
def c_L_eqAttr:Cmd:=Q (R [n 2 (box 2 (v 0)),n 3 (box 3 (v 1)),n 4 (asg 4 k0)]) (Q (Q (R [n 5 (fld 5 (v 2) 0),n 6 (ld 6 (v 5) 1 false),n 7 (fld 7 (v 3) 0),n 8 (ld 8 (v 7) 1 false),n 9 (bin 9 .neq (v 6) (v 8))]) (F (v 9) (Q (R [n 4 (asg 4 k0)]) .ret) .skip)) (Q (Q (R [n 10 (fld 10 (v 2) 1),n 11 (ld 11 (v 10) 1 false),n 12 (fld 12 (v 3) 1),n 13 (ld 13 (v 12) 1 false),n 14 (bin 14 .neq (v 11) (v 13))]) (F (v 14) (Q (R [n 4 (asg 4 k0)]) .ret) .skip)) (Q (R [n 4 (asg 4 k1)]) .ret)))
end Go.Proofs.YtjmnolhflcjpgaaGreat.Awp
namespace Go.Proofs.YtjmnolhflcjpgaaGreat.Awp
open Go.Proofs
theorem hmx:Tryz.prog.follows .mixedOrders=true:=by kernel_rfl
theorem p_L_FnExactDropVol:compile Tryz.prog 5=some (101,[.t 4],c_L_FnExactDropVol):=by kernel_rfl
theorem p_L_szFs:compile Tryz.prog 8=some (12,[.t 4],c_L_szFs):=by kernel_rfl
theorem p_L_toFs:compile Tryz.prog 10=some (12,[.c 2 2 true],c_L_toFs):=by kernel_rfl
theorem p_L_eqFs:compile Tryz.prog 12=some (16,[.t 4],c_L_eqFs):=by kernel_rfl
theorem p_L_markFs:compile Tryz.prog 13=some (10,[.t 4],c_L_markFs):=by kernel_rfl
theorem p_L_heldFs:compile Tryz.prog 14=some (12,[.t 4],c_L_heldFs):=by kernel_rfl
theorem p_S_DropVol:compile Tryz.prog 17=some (36,[.c 4 2 true,.t 5],c_S_DropVol):=by kernel_rfl
theorem p_I_DropVol:compile Tryz.prog 18=some (27,[.c 4 2 true,.t 5],c_I_DropVol):=by kernel_rfl
theorem p_L_szVolS:compile Tryz.prog 23=some (27,[.t 4],c_L_szVolS):=by kernel_rfl
theorem p_S_l8Copy:compile Tryz.prog 24=some (32,[.c 2 2 true],c_S_l8Copy):=by kernel_rfl
theorem p_S_VolAt:compile Tryz.prog 25=some (22,[.t 4],c_S_VolAt):=by kernel_rfl
theorem p_S_FsOk:compile Tryz.prog 26=some (87,[.t 2],c_S_FsOk):=by kernel_rfl
theorem p_S_l1In:compile Tryz.prog 27=some (15,[.t 6],c_S_l1In):=by kernel_rfl
theorem p_S_UsageOf:compile Tryz.prog 28=some (50,[.t 2],c_S_UsageOf):=by kernel_rfl
theorem p_L_toVolS:compile Tryz.prog 29=some (23,[.t 2],c_L_toVolS):=by kernel_rfl
theorem p_I_copyFs:compile Tryz.prog 30=some (28,[.c 2 2 true],c_I_copyFs):=by kernel_rfl
theorem p_I_FsOk:compile Tryz.prog 31=some (84,[.t 2],c_I_FsOk):=by kernel_rfl
theorem p_I_isLimit:compile Tryz.prog 32=some (5,[.t 2],c_I_isLimit):=by kernel_rfl
theorem p_I_VolAt:compile Tryz.prog 33=some (9,[.t 4],c_I_VolAt):=by kernel_rfl
theorem p_I_UsageOf:compile Tryz.prog 34=some (40,[.t 2],c_I_UsageOf):=by kernel_rfl
theorem p_L_eqVolS:compile Tryz.prog 35=some (27,[.t 4],c_L_eqVolS):=by kernel_rfl
theorem p_L_markVolS:compile Tryz.prog 36=some (60,[.t 4],c_L_markVolS):=by kernel_rfl
theorem p_L_heldVolS:compile Tryz.prog 37=some (72,[.t 4],c_L_heldVolS):=by kernel_rfl
theorem p_S_NameOk:compile Tryz.prog 38=some (46,[.t 2],c_S_NameOk):=by kernel_rfl
theorem p_I_NameOk:compile Tryz.prog 41=some (56,[.t 2],c_I_NameOk):=by kernel_rfl
theorem p_L_szVol:compile Tryz.prog 47=some (19,[.t 4],c_L_szVol):=by kernel_rfl
theorem p_S_l4Copy:compile Tryz.prog 48=some (27,[.c 2 2 true],c_S_l4Copy):=by kernel_rfl
theorem p_S_VolNamed:compile Tryz.prog 49=some (22,[.t 4],c_S_VolNamed):=by kernel_rfl
theorem p_S_TreeOk:compile Tryz.prog 50=some (53,[.t 2],c_S_TreeOk):=by kernel_rfl
theorem p_L_toVol:compile Tryz.prog 51=some (21,[.c 2 6 true],c_L_toVol):=by kernel_rfl
theorem p_I_copyTab:compile Tryz.prog 52=some (25,[.c 2 2 true],c_I_copyTab):=by kernel_rfl
theorem p_I_from:compile Tryz.prog 53=some (15,[.t 6],c_I_from):=by kernel_rfl
theorem p_I_VolNamed:compile Tryz.prog 54=some (9,[.t 4],c_I_VolNamed):=by kernel_rfl
theorem p_I_TreeOk:compile Tryz.prog 55=some (47,[.t 2],c_I_TreeOk):=by kernel_rfl
theorem p_X_IndexFunc_Vol:compile Tryz.prog 56=some (19,[.t 4],c_X_IndexFunc_Vol):=by kernel_rfl
theorem p_I_VolAt_1:compile Tryz.prog 57=some (8,[.t 3],c_I_VolAt_1):=by kernel_rfl
theorem p_L_eqVol:compile Tryz.prog 58=some (31,[.t 4],c_L_eqVol):=by kernel_rfl
theorem p_L_markText:compile Tryz.prog 59=some (20,[.t 2],c_L_markText):=by kernel_rfl
theorem p_L_markInodeS:compile Tryz.prog 60=some (55,[.t 4],c_L_markInodeS):=by kernel_rfl
theorem p_L_heldInodeS:compile Tryz.prog 61=some (67,[.t 4],c_L_heldInodeS):=by kernel_rfl
theorem p_L_szTab:compile Tryz.prog 62=some (12,[.t 4],c_L_szTab):=by kernel_rfl
theorem p_S_l3Copy:compile Tryz.prog 63=some (21,[.c 2 6 true],c_S_l3Copy):=by kernel_rfl
theorem p_S_TabOk:compile Tryz.prog 64=some (68,[.t 2],c_S_TabOk):=by kernel_rfl
theorem p_S_Reached:compile Tryz.prog 65=some (24,[.t 2],c_S_Reached):=by kernel_rfl
theorem p_S_LinksOf:compile Tryz.prog 66=some (50,[.t 4],c_S_LinksOf):=by kernel_rfl
theorem p_S_l4At:compile Tryz.prog 67=some (22,[.t 4],c_S_l4At):=by kernel_rfl
theorem p_L_toTab:compile Tryz.prog 68=some (12,[.c 2 2 true],c_L_toTab):=by kernel_rfl
theorem p_I_copyInode:compile Tryz.prog 69=some (16,[.c 2 6 true],c_I_copyInode):=by kernel_rfl
theorem p_I_VolNamed_1:compile Tryz.prog 70=some (8,[.t 3],c_I_VolNamed_1):=by kernel_rfl
theorem p_I_TabOk:compile Tryz.prog 71=some (63,[.t 2],c_I_TabOk):=by kernel_rfl
theorem p_I_Reached:compile Tryz.prog 72=some (56,[.t 2],c_I_Reached):=by kernel_rfl
theorem p_I_LinksOf:compile Tryz.prog 73=some (36,[.t 4],c_I_LinksOf):=by kernel_rfl
theorem p_I_placeOf:compile Tryz.prog 74=some (9,[.t 4],c_I_placeOf):=by kernel_rfl
theorem p_L_eqTab:compile Tryz.prog 75=some (16,[.t 4],c_L_eqTab):=by kernel_rfl
theorem p_L_markByteS:compile Tryz.prog 76=some (20,[.t 4],c_L_markByteS):=by kernel_rfl
theorem p_L_markEntS:compile Tryz.prog 77=some (28,[.t 4],c_L_markEntS):=by kernel_rfl
theorem p_L_markAttrS:compile Tryz.prog 78=some (29,[.t 4],c_L_markAttrS):=by kernel_rfl
theorem p_L_heldByteS:compile Tryz.prog 79=some (22,[.t 4],c_L_heldByteS):=by kernel_rfl
theorem p_L_heldEntS:compile Tryz.prog 80=some (32,[.t 4],c_L_heldEntS):=by kernel_rfl
theorem p_L_heldAttrS:compile Tryz.prog 81=some (33,[.t 4],c_L_heldAttrS):=by kernel_rfl
theorem p_L_szInodeS:compile Tryz.prog 82=some (27,[.t 4],c_L_szInodeS):=by kernel_rfl
theorem p_S_InodeOk:compile Tryz.prog 83=some (59,[.t 2],c_S_InodeOk):=by kernel_rfl
theorem p_S_l7Next:compile Tryz.prog 84=some (59,[.t 4],c_S_l7Next):=by kernel_rfl
theorem p_L_toInodeS:compile Tryz.prog 85=some (23,[.t 2],c_L_toInodeS):=by kernel_rfl
theorem p_X_Clone_byte:compile Tryz.prog 86=some (8,[.t 2],c_X_Clone_byte):=by kernel_rfl
theorem p_X_Clone_Ent:compile Tryz.prog 87=some (8,[.t 2],c_X_Clone_Ent):=by kernel_rfl
theorem p_X_Clone_Attr:compile Tryz.prog 88=some (8,[.t 2],c_X_Clone_Attr):=by kernel_rfl
theorem p_I_InodeOk:compile Tryz.prog 89=some (94,[.t 2],c_I_InodeOk):=by kernel_rfl
theorem p_I_InodeAt:compile Tryz.prog 90=some (19,[.c 4 6 true,.t 5],c_I_InodeAt):=by kernel_rfl
theorem p_X_Contains_int:compile Tryz.prog 91=some (9,[.t 4],c_X_Contains_int):=by kernel_rfl
theorem p_X_IndexFunc_Inode:compile Tryz.prog 93=some (19,[.t 4],c_X_IndexFunc_Inode):=by kernel_rfl
theorem p_I_placeOf_1:compile Tryz.prog 94=some (8,[.t 3],c_I_placeOf_1):=by kernel_rfl
theorem p_L_eqInodeS:compile Tryz.prog 95=some (27,[.t 4],c_L_eqInodeS):=by kernel_rfl
theorem p_L_szInode:compile Tryz.prog 96=some (24,[.t 4],c_L_szInode):=by kernel_rfl
theorem p_S_l3Ents:compile Tryz.prog 97=some (47,[.t 2],c_S_l3Ents):=by kernel_rfl
theorem p_S_l3Attrs:compile Tryz.prog 98=some (48,[.t 2],c_S_l3Attrs):=by kernel_rfl
theorem p_S_InodeAt:compile Tryz.prog 99=some (19,[.c 4 6 true,.t 5],c_S_InodeAt):=by kernel_rfl
theorem p_S_l7Put:compile Tryz.prog 100=some (46,[.t 4],c_S_l7Put):=by kernel_rfl
theorem p_L_toInode:compile Tryz.prog 101=some (26,[.c 2 6 true],c_L_toInode):=by kernel_rfl
theorem p_I_attrsOk:compile Tryz.prog 102=some (42,[.t 2],c_I_attrsOk):=by kernel_rfl
theorem p_X_Index_int:compile Tryz.prog 103=some (19,[.t 4],c_X_Index_int):=by kernel_rfl
theorem p_L_eqInode:compile Tryz.prog 106=some (38,[.t 4],c_L_eqInode):=by kernel_rfl
theorem p_L_szByteS:compile Tryz.prog 107=some (12,[.t 4],c_L_szByteS):=by kernel_rfl
theorem p_L_szEntS:compile Tryz.prog 108=some (27,[.t 4],c_L_szEntS):=by kernel_rfl
theorem p_L_szAttrS:compile Tryz.prog 109=some (27,[.t 4],c_L_szAttrS):=by kernel_rfl
theorem p_S_l7Has:compile Tryz.prog 110=some (18,[.t 4],c_S_l7Has):=by kernel_rfl
theorem p_L_toByteS:compile Tryz.prog 111=some (22,[.t 2],c_L_toByteS):=by kernel_rfl
theorem p_L_toEntS:compile Tryz.prog 112=some (23,[.t 2],c_L_toEntS):=by kernel_rfl
theorem p_L_toAttrS:compile Tryz.prog 113=some (23,[.t 2],c_L_toAttrS):=by kernel_rfl
theorem p_L_eqByteS:compile Tryz.prog 125=some (26,[.t 4],c_L_eqByteS):=by kernel_rfl
theorem p_L_eqEntS:compile Tryz.prog 126=some (27,[.t 4],c_L_eqEntS):=by kernel_rfl
theorem p_L_eqAttrS:compile Tryz.prog 127=some (27,[.t 4],c_L_eqAttrS):=by kernel_rfl
theorem p_L_szEnt:compile Tryz.prog 128=some (13,[.t 4],c_L_szEnt):=by kernel_rfl
theorem p_L_szAttr:compile Tryz.prog 129=some (20,[.t 4],c_L_szAttr):=by kernel_rfl
theorem p_L_toEnt:compile Tryz.prog 130=some (11,[.c 2 2 true],c_L_toEnt):=by kernel_rfl
theorem p_L_toAttr:compile Tryz.prog 131=some (11,[.c 2 2 true],c_L_toAttr):=by kernel_rfl
theorem p_L_eqEnt:compile Tryz.prog 138=some (15,[.t 4],c_L_eqEnt):=by kernel_rfl
theorem p_L_eqAttr:compile Tryz.prog 139=some (15,[.t 4],c_L_eqAttr):=by kernel_rfl
end Go.Proofs.YtjmnolhflcjpgaaGreat.Awp
namespace Go.Proofs.YtjmnolhflcjpgaaGreat.Awp
set_option linter.unusedVariables false
@[congr] theorem bind_congr_l {α β:Type} {a b:Option α} {f:α→Option β} (h:a=b):a.bind f=b.bind f:=by rw [h]
@[congr] theorem map_congr_l {α β:Type} {a b:Option α} {f:α→β} (h:a=b):a.map f=b.map f:=by rw [h]
def allU (E:Env):List Plc→Bool
 | []=>true
 | (_,_,r,p)::l=>isU (aget (E.f r) p) && allU E l
theorem allU_eq (E:Env):∀ l:List Plc,allU E l=l.all (fun q=>isU (aget (E.f q.2.2.1) q.2.2.2)):=by
 intro l
 induction l with
 | nil=>rfl
 | cons q l ih=>obtain ⟨k,j,r,p⟩:=q; simp [allU,ih]
theorem SBK2:∀ (E:Env) (q:Plc) (pls:List Plc) (outs:List AV),backA E none (q::pls) outs=if allU E (q::pls)=true then backP E outs (q::pls) else none:=by
 intro E q pls outs
 rw [allU_eq]; rfl
theorem SAU:(∀ E:Env,allU E []=true)∧(∀ (E:Env) (k:Nat) (j:Option Nat) (r:Nat) (p:Path) (l:List Plc),allU E ((k,j,r,p)::l)=(isU (aget (E.f r) p) && allU E l)):=⟨fun _=>rfl,fun _ _ _ _ _ _=>rfl⟩
theorem SBK:∀ (E:Env) (outs:List AV),backA E none [] outs=backP E outs []:=by
 intro E outs
 simp [backA]
theorem SB0:type_of% (And.intro SBK SBK2):=And.intro SBK SBK2
abbrev Bytes:=List UInt8
theorem sum_mem {α:Type} {f:α→Nat} {l:List α} {x:α} (h:x ∈ l):f x≤(l.map f).sum:=by
 induction l with
 | nil=>simp at h
 | cons y l ih=>
  rcases List.mem_cons.1 h with rfl | h
  ·simp
  ·have:=ih h; simp; omega
theorem getE {α:Type} {l:List α} {i:Nat} (h:(i:Int)<(l.length:Nat)):l[i]?=some (l[i]'(by omega)):=by simp
theorem sum_get {α:Type} (f:α→Nat) {l:List α} {i:Nat} (h:i<l.length):f l[i]≤(l.map f).sum:=sum_mem (List.getElem_mem h)
theorem sum_take {α:Type} (f:α→Nat) (l:List α) (i:Nat) (h:i<l.length):((l.take (i+1)).map f).sum=((l.take i).map f).sum+f l[i]:=by
 rw [List.take_succ_eq_append_getElem h,List.map_append,List.sum_append]
 simp only [List.map_cons,List.map_nil,List.sum_cons,List.sum_nil,Nat.add_zero]
theorem sum_take_le {α:Type} (f:α→Nat) (l:List α) (i:Nat):((l.take i).map f).sum≤(l.map f).sum:=by
 conv=>rhs; rw [← List.take_append_drop i l,List.map_append,List.sum_append]
 omega
theorem take_eq_succ {α:Type} {a b:List α} {i:Nat} (h:a.take i=b.take i) (h1:i<a.length) (h2:i<b.length) (e:a[i]=b[i]):a.take (i+1)=b.take (i+1):=by
 rw [List.take_succ_eq_append_getElem h1,List.take_succ_eq_append_getElem h2,h,e]
theorem take_all {α:Type} {a b:List α} {i:Nat} (h:a.take i=b.take i) (h1:a.length≤i) (h2:b.length≤i):a=b:=by
 rwa [List.take_of_length_le h1,List.take_of_length_le h2] at h
def mixM {α β:Type} (f:α→Int→β) (g:α→β) (c:α→Nat):List α→Int→Nat→List β
 | [],_,_=>[]
 | x::l,_,0=>g x::l.map g
 | x::l,k,i+1=>f x k::mixM f g c l (k+c x) i
def markL {α β:Type} (f:α→Int→β) (c:α→Nat):List α→Int→List β
 | [],_=>[]
 | x::l,k=>f x k::markL f c l (k+c x)
section
variable {α β γ:Type} (f:α→Int→β) (g:α→β) (c:α→Nat)
theorem mixM_0 (l:List α) (k:Int):mixM f g c l k 0=l.map g:=by cases l <;> rfl
theorem mixM_len:∀ (l:List α) (k:Int) (i:Nat),(mixM f g c l k i).length=l.length:=by
 intro l
 induction l with
 | nil=>intro k i; rfl
 | cons x l ih=>intro k i; cases i <;> simp [mixM,ih]
theorem mixM_all:∀ (l:List α) (k:Int) (i:Nat),l.length≤i→mixM f g c l k i=markL f c l k:=by
 intro l
 induction l with
 | nil=>intro k i h; rfl
 | cons x l ih=>
  intro k i h
  cases i with
  | zero=>simp at h
  | succ i=>simp only [mixM,markL]; rw [ih _ _ (by simpa using h)]
theorem mixM_get:∀ (l:List α) (k:Int) (i:Nat),(mixM f g c l k i)[i]?=(l[i]?).map g:=by
 intro l
 induction l with
 | nil=>intro k i; simp [mixM]
 | cons x l ih=>intro k i; cases i <;> simp [mixM,ih]
theorem mixM_set:∀ (l:List α) (k:Int) (i:Nat) (hi:i<l.length) (h:β→β) (e:h (g l[i])=f l[i] (k+((l.take i).map c).sum)),(mixM f g c l k i).modify i h=mixM f g c l k (i+1):=by
 intro l
 induction l with
 | nil=>intro k i hi; simp at hi
 | cons x l ih=>
  intro k i hi h e
  cases i with
  | zero=>simp only [mixM,List.modify_zero_cons]; simp at e; rw [e,mixM_0]
  | succ i=>
   simp only [mixM,List.modify_succ_cons]
   rw [ih _ i (by simpa using hi) h]
   simp only [List.getElem_cons_succ,List.take_succ_cons,List.map_cons,List.sum_cons] at e
   rw [e]; congr 1; omega
theorem markL_len:∀ (l:List α) (k:Int),(markL f c l k).length=l.length:=by
 intro l
 induction l with
 | nil=>intro k; rfl
 | cons x l ih=>intro k; simp [markL,ih]
theorem markL_get:∀ (l:List α) (k:Int) (i:Nat),(markL f c l k)[i]?=(l[i]?).map fun x=>f x (k+((l.take i).map c).sum):=by
 intro l
 induction l with
 | nil=>intro k i; simp [markL]
 | cons x l ih=>
  intro k i
  cases i with
  | zero=>simp [markL]
  | succ i=>
   simp only [markL,List.getElem?_cons_succ,ih,List.take_succ_cons,List.map_cons,List.sum_cons]
   congr 1; funext y; congr 1; omega
theorem markL_map (r:β→γ):∀ (l:List α) (k:Int),(markL f c l k).map r=markL (fun x k=>r (f x k)) c l k:=by
 intro l
 induction l with
 | nil=>intro k; rfl
 | cons x l ih=>intro k; simp [markL,ih]
end
def fillR {α:Type} (f:α→List TV) (z:List TV) (l:List α) (i:Nat):List (List TV):=mixM (fun x _=>f x) (fun _=>z) (fun _=>0) l 0 i
theorem fillR_0 {α:Type} (f:α→List TV) (z:List TV) (l:List α):fillR f z l 0=List.replicate l.length z:=by
 rw [fillR,mixM_0,List.map_const']
theorem fillR_all {α:Type} (f:α→List TV) (z:List TV) (l:List α) (i:Nat) (h:l.length≤i):fillR f z l i=l.map f:=by
 rw [fillR,mixM_all _ _ _ _ _ _ h]
 generalize (0:Int)=k
 induction l generalizing k i with
 | nil=>rfl
 | cons x l ih=>simp only [markL,List.map_cons]; rw [ih l.length (by omega)]
theorem fillR_len {α:Type} (f:α→List TV) (z:List TV) (l:List α) (i:Nat):(fillR f z l i).length=l.length:=mixM_len ..
theorem fillR_set {α:Type} (f:α→List TV) (z:List TV) (l:List α) (i:Nat) (h:i<l.length) (g:List TV→List TV) (hg:g z=f l[i]):(fillR f z l i).modify i g=fillR f z l (i+1):=
 mixM_set _ _ _ _ _ _ h _ hg
def mixR {α:Type} (r:α→List TV) (f:α→Int→α) (c:α→Nat) (l:List α) (k:Int) (i:Nat):List (List TV):=mixM (fun x k=>r (f x k)) r c l k i
section
variable {α:Type} (r:α→List TV) (f:α→Int→α) (c:α→Nat)
theorem mixR_0 (l:List α) (k:Int):mixR r f c l k 0=l.map r:=mixM_0 ..
theorem mixR_len (l:List α) (k:Int) (i:Nat):(mixR r f c l k i).length=l.length:=mixM_len ..
theorem mixR_get (l:List α) (k:Int) (i:Nat):(mixR r f c l k i)[i]?=(l[i]?).map r:=mixM_get ..
theorem mixR_all (l:List α) (k:Int) (i:Nat) (h:l.length≤i):mixR r f c l k i=(markL f c l k).map r:=by rw [mixR,mixM_all _ _ _ _ _ _ h,markL_map]
theorem mixR_set (l:List α) (k:Int) (i:Nat) (hi:i<l.length) (h:List TV→List TV) (e:h (r l[i])=r (f l[i] (k+((l.take i).map c).sum))):(mixR r f c l k i).modify i h=mixR r f c l k (i+1):=
 mixM_set _ _ _ _ _ _ hi _ e
end
def byteRow (x:UInt8):List TV:=[.int .u8 x.toNat]
def markBy (b:Bytes) (k:Int):Bytes:=markL (fun _ k=>UInt8.ofInt k) (fun _=>1) b k
theorem sum_one {α:Type} (l:List α):(l.map fun _=>1).sum=l.length:=by induction l with | nil=>rfl | cons x l ih=>simp [ih]; omega
theorem markBy_len (b:Bytes) (k:Int):(markBy b k).length=b.length:=markL_len ..
theorem markBy_get (b:Bytes) (k:Int) (i:Nat):(markBy b k)[i]?=(b[i]?).map fun _=>UInt8.ofInt (k+i):=by
 rw [markBy,markL_get]
 by_cases h:i<b.length
 ·simp only [sum_one,List.length_take,Nat.min_eq_left (Nat.le_of_lt h)]
 ·rw [List.getElem?_eq_none (by omega)]; rfl
theorem wrap_ofInt (k:Int):IntKind.u8.wrap k=((UInt8.ofInt k).toNat:Int):=by
 have e:IntKind.u8.wrap k=k%256:=by
  have h1:((2:Int)^IntKind.u8.bits)=256:=by decide
  unfold IntKind.wrap
  simp only [h1]
  simp [IntKind.signed]
 rw [e]
 simp [UInt8.ofInt]
 omega
theorem bytesR_row (b:Bytes):bytesR b=b.map byteRow:=rfl
theorem markBy_row (b:Bytes) (k:Int) (i:Nat) (h:b.length≤i):mixR byteRow (fun _ k=>UInt8.ofInt k) (fun _=>1) b k i=bytesR (markBy b k):=mixR_all _ _ _ _ _ _ h
theorem SF:(∀ (α:Type) (f:α→List TV) (z:List TV) (l:List α) (i:Nat),(fillR f z l i).length=l.length) ∧
  (∀ (α:Type) (r:α→List TV) (f:α→Int→α) (c:α→Nat) (l:List α) (k:Int) (i:Nat),(mixR r f c l k i).length=l.length) ∧
  (∀ (α:Type) (r:α→List TV) (f:α→Int→α) (c:α→Nat) (l:List α) (k:Int) (i:Nat),(mixR r f c l k i)[i]?=(l[i]?).map r) ∧
  (∀ (α β:Type) (f:α→Int→β) (c:α→Nat) (l:List α) (k:Int),(markL f c l k).length=l.length) ∧
  (∀ (α β:Type) (f:α→Int→β) (c:α→Nat) (l:List α) (k:Int) (i:Nat),(markL f c l k)[i]?=(l[i]?).map fun x=>f x (k+((l.take i).map c).sum)) ∧
  (∀ (b:Bytes) (k:Int),(markBy b k).length=b.length)∧(∀ (b:Bytes) (k:Int) (i:Nat),(markBy b k)[i]?=(b[i]?).map fun _=>UInt8.ofInt (k+i)) ∧
  (∀ (α:Type) (l:List α) (i:Nat) (f g:α→α),(l.modify i f).modify i g=l.modify i (fun x=>g (f x)))∧(∀ (α:Type) (l:List α) (i:Nat) (f:α→α),(l.modify i f)[i]?=(l[i]?).map f) ∧
  (∀ (α:Type) (l:List α) (i:Nat) (f:α→α),(l.modify i f).length=l.length):=
 ⟨fun _=>fillR_len,fun _=>mixR_len,fun _=>mixR_get,fun _ _=>markL_len,fun _ _=>markL_get,markBy_len,markBy_get,
  fun _ l i f g=>List.modify_modify_eq f g i l,fun _ l i f=>by simp,fun _ l i f=>by simp⟩
theorem flatR_bytes (b:Bytes):flatR (bytesR b)=true:=by
 simp [flatR,bytesR]
 intros; rfl
theorem knownR_bytes (b:Bytes):knownR (bytesR b)=true:=by
 simp [knownR,bytesR]
 intros; rfl
theorem rowsBytes_R (b:Bytes):rowsBytes (bytesR b)=some b:=by
 induction b with
 | nil=>rfl
 | cons x b ih=>
  simp only [bytesR,List.map_cons]
  simp only [bytesR] at ih
  have h1:rowByte [.int .u8 x.toNat]=some x:=by
   have:=x.toNat_lt
   simp [rowByte]
   try omega
  simp [rowsBytes,ih,h1]
theorem SK:knownR []=true∧(∀ (e:List TV) (l:List (List TV)),knownR (e::l)=(e.all knownT && knownR l))∧(∀ (t:TV) (e:List TV),(t::e).all knownT=(knownT t && e.all knownT))∧([]:List TV).all knownT=true ∧
  (∀ b,knownT (.bool b)=true)∧(∀ k n,knownT (.int k n)=true)∧(∀ s,knownT (.str s)=true)∧(∀ s es,knownT (.sl s es)=true) ∧
  flatR []=true∧(∀ (e:List TV) (l:List (List TV)),flatR (e::l)=(e.all flatT && flatR l))∧(∀ (t:TV) (e:List TV),(t::e).all flatT=(flatT t && e.all flatT))∧([]:List TV).all flatT=true ∧
  (∀ b,flatT (.bool b)=true)∧(∀ k n,flatT (.int k n)=true)∧(∀ s,flatT (.str s)=true) ∧
  (∀ b:Bytes,flatR (bytesR b)=true)∧(∀ b:Bytes,knownR (bytesR b)=true)∧(∀ b:Bytes,rowsBytes (bytesR b)=some b):=
 ⟨rfl,fun _ _=>rfl,fun _ _=>rfl,rfl,fun _=>rfl,fun _ _=>rfl,fun _=>rfl,fun _ _=>rfl,rfl,fun _ _=>rfl,fun _ _=>rfl,rfl,fun _=>rfl,fun _ _=>rfl,fun _=>rfl,flatR_bytes,knownR_bytes,rowsBytes_R⟩
theorem SB:min 1 IntKind.i64.bits=1∧min 7 IntKind.i64.bits=7∧min 8 IntKind.i64.bits=8∧min 14 IntKind.i64.bits=14∧min 16 IntKind.i64.bits=16∧min 24 IntKind.i64.bits=24∧min 33 IntKind.i64.bits=33∧min 47 IntKind.i64.bits=47∧min 1 IntKind.u32.bits=1∧min 8 IntKind.u32.bits=8∧min 16 IntKind.u32.bits=16∧min 24 IntKind.u32.bits=24:=by decide
theorem bytesR_map (b:Bytes):bytesR b=b.map fun x=>[.int .u8 x.toNat]:=rfl
theorem cnt_len {α:Type} (c:α→Nat) (h:∀ x,1≤c x) (l:List α):l.length≤(l.map c).sum:=by
 induction l with
 | nil=>simp
 | cons x l ih=>have:=h x; simp; omega
def szC (l:Int) (n:Nat):Int:=if l<n then -1 else l-n
theorem szC_lt {l:Int} {n:Nat} (h:l<n):szC l n=-1:=if_pos h
theorem szC_ge {l:Int} {n:Nat} (h:¬ l<n):szC l n=l-n:=if_neg h
def digB (n:Nat):Bytes:=if h:n=0 then [] else digB (n/10)++[UInt8.ofNat (48+n%10)]
termination_by n
def markText (k:Int):Bytes:=if k≤0 then [109,48] else 109::digB k.toNat
def cntM {α:Type} (c:α→Nat) (l:List α):Nat:=(l.map c).sum
def szM {α:Type} (c:α→Nat) (l:List α):Nat:=l.length+(l.map c).sum
structure Ent where
 name:Bytes
 ino:Int
 deriving DecidableEq,Inhabited
def Ent.row (a:Ent):List TV:=[.str a.name,.int .i64 a.ino]
def Ent.x (a:Ent):AV:=.agg [.str a.name,.int .i64 a.ino]
def Ent.o (a:Ent):AV:=.agg [.str a.name,.int .i64 a.ino]
def Ent.sz (a:Ent):Nat:=a.name.length
def Ent.fine (a:Ent):Prop:=(a.name.length<2^48)
def Ent.cnt (a:Ent):Nat:=1+1
def Ent.cntT (a:Ent):Nat:=0
def Ent.marked (a:Ent) (k:Int):Ent:={ name:=markText (k),ino:=k+1 }
def Ent.markT (a:Ent) (k:Int):Ent:={ name:=a.name,ino:=a.ino }
def Ent.zero:List TV:=[.str [],.int .i64 0]
theorem Ent.eq' {a b:Ent} (h0:a.name=b.name) (h1:a.ino=b.ino):a=b:=by cases a; cases b; simp_all
theorem Ent.cnt1 (a:Ent):1≤a.cnt:=by simp only [Ent.cnt]; omega
structure Attr where
 name:Bytes
 val:Bytes
 deriving DecidableEq,Inhabited
def Attr.row (a:Attr):List TV:=[.str a.name,.str a.val]
def Attr.x (a:Attr):AV:=.agg [.str a.name,.str a.val]
def Attr.o (a:Attr):AV:=.agg [.str a.name,.str a.val]
def Attr.sz (a:Attr):Nat:=a.name.length+a.val.length
def Attr.fine (a:Attr):Prop:=(a.name.length<2^48)∧(a.val.length<2^48)
def Attr.cnt (a:Attr):Nat:=1+1
def Attr.cntT (a:Attr):Nat:=0
def Attr.marked (a:Attr) (k:Int):Attr:={ name:=markText (k),val:=markText (k+1) }
def Attr.markT (a:Attr) (k:Int):Attr:={ name:=a.name,val:=a.val }
def Attr.zero:List TV:=[.str [],.str []]
theorem Attr.eq' {a b:Attr} (h0:a.name=b.name) (h1:a.val=b.val):a=b:=by cases a; cases b; simp_all
theorem Attr.cnt1 (a:Attr):1≤a.cnt:=by simp only [Attr.cnt]; omega
structure Inode where
 ino:Int
 kind:Int
 links:Int
 data:Bytes
 ents:List Ent
 attrs:List Attr
 deriving DecidableEq,Inhabited
def Inode.row (a:Inode):List TV:=[.int .i64 a.ino,.int .i64 a.kind,.int .i64 a.links,.sl 1 (bytesR a.data),.sl 2 (a.ents.map Ent.row),.sl 2 (a.attrs.map Attr.row)]
def Inode.x (a:Inode):AV:=.agg [.int .i64 a.ino,.int .i64 a.kind,.int .i64 a.links,.ext 1 (bytesR a.data),.ext 2 (a.ents.map Ent.row),.ext 2 (a.attrs.map Attr.row)]
def Inode.o (a:Inode):AV:=.agg [.int .i64 a.ino,.int .i64 a.kind,.int .i64 a.links,.own 1 (bytesR a.data),.own 2 (a.ents.map Ent.row),.own 2 (a.attrs.map Attr.row)]
def Inode.sz (a:Inode):Nat:=a.data.length+szM Ent.sz a.ents+szM Attr.sz a.attrs
def Inode.fine (a:Inode):Prop:=(a.data.length<2^48)∧(a.ents.length<2^48∧∀ x ∈ a.ents,x.fine)∧(a.attrs.length<2^48∧∀ x ∈ a.attrs,x.fine)
def Inode.cnt (a:Inode):Nat:=1+1+1+a.data.length+cntM Ent.cnt a.ents+cntM Attr.cnt a.attrs
def Inode.cntT (a:Inode):Nat:=a.data.length+cntM Ent.cnt a.ents+cntM Attr.cnt a.attrs
def Inode.marked (a:Inode) (k:Int):Inode:={ ino:=k,kind:=k+1,links:=k+1+1,data:=markBy a.data (k+1+1+1),ents:=markL Ent.marked Ent.cnt a.ents (k+1+1+1+(a.data.length:Nat)),attrs:=markL Attr.marked Attr.cnt a.attrs (k+1+1+1+(a.data.length:Nat)+(cntM Ent.cnt a.ents:Nat)) }
def Inode.markT (a:Inode) (k:Int):Inode:={ ino:=a.ino,kind:=a.kind,links:=a.links,data:=markBy a.data (k),ents:=markL Ent.marked Ent.cnt a.ents (k+(a.data.length:Nat)),attrs:=markL Attr.marked Attr.cnt a.attrs (k+(a.data.length:Nat)+(cntM Ent.cnt a.ents:Nat)) }
def Inode.zero:List TV:=[.int .i64 0,.int .i64 0,.int .i64 0,.sl 1 [],.sl 2 [],.sl 2 []]
theorem Inode.eq' {a b:Inode} (h0:a.ino=b.ino) (h1:a.kind=b.kind) (h2:a.links=b.links) (h3:a.data=b.data) (h4:a.ents=b.ents) (h5:a.attrs=b.attrs):a=b:=by cases a; cases b; simp_all
theorem Inode.cnt1 (a:Inode):1≤a.cnt:=by simp only [Inode.cnt]; omega
structure Tab where
 inodes:List Inode
 next:Int
 deriving DecidableEq,Inhabited
def Tab.row (a:Tab):List TV:=[.sl 6 (a.inodes.map Inode.row),.int .i64 a.next]
def Tab.x (a:Tab):AV:=.agg [.ext 6 (a.inodes.map Inode.row),.int .i64 a.next]
def Tab.o (a:Tab):AV:=.agg [.own 6 (a.inodes.map Inode.row),.int .i64 a.next]
def Tab.sz (a:Tab):Nat:=szM Inode.sz a.inodes
def Tab.fine (a:Tab):Prop:=(a.inodes.length<2^48∧∀ x ∈ a.inodes,x.fine)
def Tab.cnt (a:Tab):Nat:=cntM Inode.cnt a.inodes+1
def Tab.cntT (a:Tab):Nat:=cntM Inode.cnt a.inodes
def Tab.marked (a:Tab) (k:Int):Tab:={ inodes:=markL Inode.marked Inode.cnt a.inodes (k),next:=k+(cntM Inode.cnt a.inodes:Nat) }
def Tab.markT (a:Tab) (k:Int):Tab:={ inodes:=markL Inode.marked Inode.cnt a.inodes (k),next:=a.next }
def Tab.zero:List TV:=[.sl 6 [],.int .i64 0]
theorem Tab.eq' {a b:Tab} (h0:a.inodes=b.inodes) (h1:a.next=b.next):a=b:=by cases a; cases b; simp_all
theorem Tab.cnt1 (a:Tab):1≤a.cnt:=by simp only [Tab.cnt]; omega
structure Vol where
 id:Int
 name:Bytes
 ro:Bool
 limit:Int
 t:Tab
 deriving DecidableEq,Inhabited
def Vol.row (a:Vol):List TV:=[.int .i64 a.id,.str a.name,.bool a.ro,.int .i64 a.limit,.sl 6 (a.t.inodes.map Inode.row),.int .i64 a.t.next]
def Vol.x (a:Vol):AV:=.agg [.int .i64 a.id,.str a.name,.bool a.ro,.int .i64 a.limit,.ext 6 (a.t.inodes.map Inode.row),.int .i64 a.t.next]
def Vol.o (a:Vol):AV:=.agg [.int .i64 a.id,.str a.name,.bool a.ro,.int .i64 a.limit,.own 6 (a.t.inodes.map Inode.row),.int .i64 a.t.next]
def Vol.sz (a:Vol):Nat:=a.name.length+a.t.sz
def Vol.fine (a:Vol):Prop:=(a.name.length<2^48)∧(a.t.fine)
def Vol.cnt (a:Vol):Nat:=1+1+1+1+cntM Inode.cnt a.t.inodes+1
def Vol.cntT (a:Vol):Nat:=a.t.cntT
def Vol.marked (a:Vol) (k:Int):Vol:={ id:=k,name:=markText (k+1),ro:=decide ((k+1+1).tmod 3=0),limit:=k+1+1+1,t:={ inodes:=markL Inode.marked Inode.cnt a.t.inodes (k+1+1+1+1),next:=k+1+1+1+1+(cntM Inode.cnt a.t.inodes:Nat) } }
def Vol.markT (a:Vol) (k:Int):Vol:={ id:=a.id,name:=a.name,ro:=a.ro,limit:=a.limit,t:=a.t.markT (k) }
def Vol.zero:List TV:=[.int .i64 0,.str [],.bool false,.int .i64 0,.sl 6 [],.int .i64 0]
theorem Vol.eq' {a b:Vol} (h0:a.id=b.id) (h1:a.name=b.name) (h2:a.ro=b.ro) (h3:a.limit=b.limit) (h4:a.t=b.t):a=b:=by cases a; cases b; simp_all
theorem Vol.cnt1 (a:Vol):1≤a.cnt:=by simp only [Vol.cnt]; omega
structure Fs where
 vols:List Vol
 next:Int
 deriving DecidableEq,Inhabited
def Fs.row (a:Fs):List TV:=[.sl 6 (a.vols.map Vol.row),.int .i64 a.next]
def Fs.x (a:Fs):AV:=.agg [.ext 6 (a.vols.map Vol.row),.int .i64 a.next]
def Fs.o (a:Fs):AV:=.agg [.own 6 (a.vols.map Vol.row),.int .i64 a.next]
def Fs.sz (a:Fs):Nat:=szM Vol.sz a.vols
def Fs.fine (a:Fs):Prop:=(a.vols.length<2^48∧∀ x ∈ a.vols,x.fine)
def Fs.cnt (a:Fs):Nat:=cntM Vol.cnt a.vols+1
def Fs.cntT (a:Fs):Nat:=cntM Vol.cnt a.vols
def Fs.marked (a:Fs) (k:Int):Fs:={ vols:=markL Vol.marked Vol.cnt a.vols (k),next:=k+(cntM Vol.cnt a.vols:Nat) }
def Fs.markT (a:Fs) (k:Int):Fs:={ vols:=markL Vol.marked Vol.cnt a.vols (k),next:=a.next }
def Fs.zero:List TV:=[.sl 6 [],.int .i64 0]
theorem Fs.eq' {a b:Fs} (h0:a.vols=b.vols) (h1:a.next=b.next):a=b:=by cases a; cases b; simp_all
theorem Fs.cnt1 (a:Fs):1≤a.cnt:=by simp only [Fs.cnt]; omega
structure Op where
 kind:Int
 vol:Int
 path:Bytes
 to':Bytes
 off:Int
 data:Bytes
 deriving DecidableEq,Inhabited
def Op.row (a:Op):List TV:=[.int .i64 a.kind,.int .i64 a.vol,.str a.path,.str a.to',.int .i64 a.off,.sl 1 (bytesR a.data)]
def Op.x (a:Op):AV:=.agg [.int .i64 a.kind,.int .i64 a.vol,.str a.path,.str a.to',.int .i64 a.off,.ext 1 (bytesR a.data)]
def Op.o (a:Op):AV:=.agg [.int .i64 a.kind,.int .i64 a.vol,.str a.path,.str a.to',.int .i64 a.off,.own 1 (bytesR a.data)]
def Op.sz (a:Op):Nat:=a.path.length+a.to'.length+a.data.length
def Op.fine (a:Op):Prop:=(a.path.length<2^48)∧(a.to'.length<2^48)∧(a.data.length<2^48)
def Op.cnt (a:Op):Nat:=1+1+1+1+1+a.data.length
def Op.cntT (a:Op):Nat:=a.data.length
def Op.marked (a:Op) (k:Int):Op:={ kind:=k,vol:=k+1,path:=markText (k+1+1),to':=markText (k+1+1+1),off:=k+1+1+1+1,data:=markBy a.data (k+1+1+1+1+1) }
def Op.markT (a:Op) (k:Int):Op:={ kind:=a.kind,vol:=a.vol,path:=a.path,to':=a.to',off:=a.off,data:=markBy a.data (k) }
def Op.zero:List TV:=[.int .i64 0,.int .i64 0,.str [],.str [],.int .i64 0,.sl 1 []]
theorem Op.eq' {a b:Op} (h0:a.kind=b.kind) (h1:a.vol=b.vol) (h2:a.path=b.path) (h3:a.to'=b.to') (h4:a.off=b.off) (h5:a.data=b.data):a=b:=by cases a; cases b; simp_all
theorem Op.cnt1 (a:Op):1≤a.cnt:=by simp only [Op.cnt]; omega
theorem ST :
  (∀ a:Ent,a.row=[.str a.name,.int .i64 a.ino]) ∧
  (∀ a:Ent,a.x=.agg [.str a.name,.int .i64 a.ino]) ∧
  (∀ a:Ent,a.o=.agg [.str a.name,.int .i64 a.ino]) ∧
  (∀ a:Attr,a.row=[.str a.name,.str a.val]) ∧
  (∀ a:Attr,a.x=.agg [.str a.name,.str a.val]) ∧
  (∀ a:Attr,a.o=.agg [.str a.name,.str a.val]) ∧
  (∀ a:Inode,a.row=[.int .i64 a.ino,.int .i64 a.kind,.int .i64 a.links,.sl 1 (bytesR a.data),.sl 2 (a.ents.map Ent.row),.sl 2 (a.attrs.map Attr.row)]) ∧
  (∀ a:Inode,a.x=.agg [.int .i64 a.ino,.int .i64 a.kind,.int .i64 a.links,.ext 1 (bytesR a.data),.ext 2 (a.ents.map Ent.row),.ext 2 (a.attrs.map Attr.row)]) ∧
  (∀ a:Inode,a.o=.agg [.int .i64 a.ino,.int .i64 a.kind,.int .i64 a.links,.own 1 (bytesR a.data),.own 2 (a.ents.map Ent.row),.own 2 (a.attrs.map Attr.row)]) ∧
  (∀ a:Tab,a.row=[.sl 6 (a.inodes.map Inode.row),.int .i64 a.next]) ∧
  (∀ a:Tab,a.x=.agg [.ext 6 (a.inodes.map Inode.row),.int .i64 a.next]) ∧
  (∀ a:Tab,a.o=.agg [.own 6 (a.inodes.map Inode.row),.int .i64 a.next]) ∧
  (∀ a:Vol,a.row=[.int .i64 a.id,.str a.name,.bool a.ro,.int .i64 a.limit,.sl 6 (a.t.inodes.map Inode.row),.int .i64 a.t.next]) ∧
  (∀ a:Vol,a.x=.agg [.int .i64 a.id,.str a.name,.bool a.ro,.int .i64 a.limit,.ext 6 (a.t.inodes.map Inode.row),.int .i64 a.t.next]) ∧
  (∀ a:Vol,a.o=.agg [.int .i64 a.id,.str a.name,.bool a.ro,.int .i64 a.limit,.own 6 (a.t.inodes.map Inode.row),.int .i64 a.t.next]) ∧
  (∀ a:Fs,a.row=[.sl 6 (a.vols.map Vol.row),.int .i64 a.next]) ∧
  (∀ a:Fs,a.x=.agg [.ext 6 (a.vols.map Vol.row),.int .i64 a.next]) ∧
  (∀ a:Fs,a.o=.agg [.own 6 (a.vols.map Vol.row),.int .i64 a.next]) ∧
  (∀ a:Op,a.row=[.int .i64 a.kind,.int .i64 a.vol,.str a.path,.str a.to',.int .i64 a.off,.sl 1 (bytesR a.data)]) ∧
  (∀ a:Op,a.x=.agg [.int .i64 a.kind,.int .i64 a.vol,.str a.path,.str a.to',.int .i64 a.off,.ext 1 (bytesR a.data)]) ∧
  (∀ a:Op,a.o=.agg [.int .i64 a.kind,.int .i64 a.vol,.str a.path,.str a.to',.int .i64 a.off,.own 1 (bytesR a.data)]) ∧
  (∀ (α β:Type) (f:α→β) (l:List α),(l.map f).length=l.length)∧(∀ (α β:Type) (f:α→β) (l:List α) (i:Nat),(l.map f)[i]?=(l[i]?).map f):=by
 refine ⟨?_,?_,?_,?_,?_,?_,?_,?_,?_,?_,?_,?_,?_,?_,?_,?_,?_,?_,?_,?_,?_,?_,?_⟩ <;> intros <;> first | rfl | simp
theorem SX:type_of% (And.intro SAU <| And.intro SU <| And.intro SGs <| And.intro SD <| And.intro S1 <| And.intro S2 <| And.intro S3 <| And.intro SE <| And.intro SC <| And.intro SO <| And.intro ST <| And.intro SF <| And.intro SK <| And.intro @bytes_len <| And.intro @bytes_get <| And.intro @Bool.beq_eq_decide_eq.{0} <| And.intro @Int.natCast_zero <| And.intro @Int.add_zero <| And.intro @ge_iff_le.{0} <| And.intro @gt_iff_lt.{0} <| And.intro @Option.isNone_none.{0} <| And.intro @Option.isNone_some.{0} <| And.intro @List.nil_append.{0} <| And.intro @List.append_nil.{0} <| And.intro @Bool.and_true <| And.intro @Bool.and_self <| SB):=And.intro SAU <| And.intro SU <| And.intro SGs <| And.intro SD <| And.intro S1 <| And.intro S2 <| And.intro S3 <| And.intro SE <| And.intro SC <| And.intro SO <| And.intro ST <| And.intro SF <| And.intro SK <| And.intro @bytes_len <| And.intro @bytes_get <| And.intro @Bool.beq_eq_decide_eq.{0} <| And.intro @Int.natCast_zero <| And.intro @Int.add_zero <| And.intro @ge_iff_le.{0} <| And.intro @gt_iff_lt.{0} <| And.intro @Option.isNone_none.{0} <| And.intro @Option.isNone_some.{0} <| And.intro @List.nil_append.{0} <| And.intro @List.append_nil.{0} <| And.intro @Bool.and_true <| And.intro @Bool.and_self <| SB
end Go.Proofs.YtjmnolhflcjpgaaGreat.Awp
namespace Go.Proofs.YtjmnolhflcjpgaaGreat.Awp
def inR (x a b:Int):Bool:=decide (a≤x∧x≤b)
end Go.Proofs.YtjmnolhflcjpgaaGreat.Awp

namespace Go.Proofs.YtjmnolhflcjpgaaGreat.Awp
theorem nodup_len {l m:List Int} (h:l.Nodup) (hs:∀ x ∈ l,x ∈ m):l.length≤m.length:=by
 induction l generalizing m with
 | nil=>simp
 | cons x l ih=>
  obtain ⟨hx,hl⟩:=List.nodup_cons.1 h
  have hm:=hs x (by simp)
  have:=ih (m:=m.erase x) hl fun y hy=>(List.mem_erase_of_ne (by rintro rfl; exact hx hy)).2 (hs y (by simp [hy]))
  rw [List.length_erase_of_mem hm] at this
  have:0<m.length:=List.length_pos_of_mem hm
  simp only [List.length_cons]; omega
abbrev Up (l:List Int):Prop:=l.Pairwise (·<·)
theorem up_nodup {l:List Int} (h:Up l):l.Nodup:=h.imp fun h=>by omega
theorem up_ext {l m:List Int} (hl:Up l) (hm:Up m) (h:∀ x,x ∈ l↔x ∈ m):l=m:=by
 induction l generalizing m with
 | nil=>
  cases m with
  | nil=>rfl
  | cons y m=>exact absurd ((h y).2 (by simp)) (by simp)
 | cons x l ih=>
  cases m with
  | nil=>exact absurd ((h x).1 (by simp)) (by simp)
  | cons y m=>
   obtain ⟨a1,a2⟩:=List.pairwise_cons.1 hl
   obtain ⟨b1,b2⟩:=List.pairwise_cons.1 hm
   have e:x=y:=by
    have h1:=(h x).1 (by simp)
    have h2:=(h y).2 (by simp)
    simp only [List.mem_cons] at h1 h2
    rcases h1 with h1 | h1
    ·exact h1
    rcases h2 with h2 | h2
    ·exact h2.symm
    have:=a1 y h2; have:=b1 x h1; omega
   subst e
   congr 1
   refine ih a2 b2 fun z=>⟨fun hz=>?_,fun hz=>?_⟩
   ·have:=(h z).1 (by simp [hz])
    simp only [List.mem_cons] at this
    rcases this with rfl | this
    ·exact absurd (a1 _ hz) (by omega)
    ·exact this
   ·have:=(h z).2 (by simp [hz])
    simp only [List.mem_cons] at this
    rcases this with rfl | this
    ·exact absurd (b1 _ hz) (by omega)
    ·exact this
def putI (l:List Int) (n:Int):List Int:=if n ∈ l then l else l.takeWhile (·<n)++n::l.dropWhile (·<n)
theorem mem_putI (l:List Int) (n x:Int):x ∈ putI l n↔x=n∨x ∈ l:=by
 unfold putI
 split
 ·rename_i h
  constructor
  ·exact .inr
  ·rintro (rfl | h')
   ·exact h
   ·exact h'
 ·have e:x ∈ l↔x ∈ l.takeWhile (·<n)∨x ∈ l.dropWhile (·<n):=by
   rw [← List.mem_append,List.takeWhile_append_dropWhile]
  rw [e]
  simp only [List.mem_append,List.mem_cons]
  constructor
  ·rintro (h | h | h)
   ·exact .inr (.inl h)
   ·exact .inl h
   ·exact .inr (.inr h)
  ·rintro (h | h | h)
   ·exact .inr (.inl h)
   ·exact .inl h
   ·exact .inr (.inr h)
theorem putI_up {l:List Int} (h:Up l) (n:Int):Up (putI l n):=by
 unfold putI
 split
 ·exact h
 ·rename_i hn
  induction l with
  | nil=>simp [Up]
  | cons x l ih=>
   obtain ⟨a1,a2⟩:=List.pairwise_cons.1 h
   have hnx:n≠x:=fun e=>hn (by simp [e])
   have ih:=ih a2 fun h=>hn (by simp [h])
   by_cases hx:x<n
   ·rw [List.takeWhile_cons_of_pos (by simpa using hx),List.dropWhile_cons_of_pos (by simpa using hx)]
    refine List.pairwise_cons.2 ⟨fun y hy=>?_,ih⟩
    have hy:y ∈ l.takeWhile (·<n)++n::l.dropWhile (·<n):=hy
    rw [List.mem_append,List.mem_cons] at hy
    rcases hy with hy | rfl | hy
    ·exact a1 y (List.takeWhile_sublist _ |>.subset hy)
    ·exact hx
    ·exact a1 y (List.dropWhile_sublist _ |>.subset hy)
   ·rw [List.takeWhile_cons_of_neg (by simpa using hx),List.dropWhile_cons_of_neg (by simpa using hx)]
    refine List.pairwise_cons.2 ⟨fun y hy=>?_,h⟩
    simp only [List.mem_cons] at hy
    rcases hy with rfl | hy
    ·omega
    ·have:=a1 y hy; omega
section
variable (nb:Int→Option (List Int))
inductive Reach:Int→Prop where
 | root (h:(nb 1).isSome=true):Reach 1
 | step (i j:Int) (l:List Int) (hi:Reach i) (hl:nb i=some l) (hj:j ∈ l) (hs:(nb j).isSome=true):Reach j
def addJ (out:List Int) (j:Int):List Int:=if (nb j).isSome then putI out j else out
def addI (out:List Int) (i:Int):List Int:=((nb i).getD []).foldl (addJ nb) out
def nextR (l:List Int):List Int:=l.foldl (addI nb) l
def roundsR:Nat→List Int
 | 0=>[1]
 | k+1=>nextR nb (roundsR k)
def reachR (n:Nat):List Int:=if (nb 1).isSome then roundsR nb n else []
theorem mem_addJs (js:List Int):∀ (out:List Int) (x:Int),x ∈ js.foldl (addJ nb) out↔x ∈ out∨(x ∈ js∧(nb x).isSome=true):=by
 induction js with
 | nil=>intro out x; simp
 | cons j js ih=>
  intro out x
  rw [List.foldl_cons,ih]
  unfold addJ
  split
  ·rename_i hj
   rw [mem_putI,List.mem_cons]
   constructor
   ·rintro ((rfl | h) | h)
    ·exact .inr ⟨.inl rfl,hj⟩
    ·exact .inl h
    ·exact .inr ⟨.inr h.1,h.2⟩
   ·rintro (h | ⟨rfl | h,hs⟩)
    ·exact .inl (.inr h)
    ·exact .inl (.inl rfl)
    ·exact .inr ⟨h,hs⟩
  ·rename_i hj
   rw [List.mem_cons]
   constructor
   ·rintro (h | h)
    ·exact .inl h
    ·exact .inr ⟨.inr h.1,h.2⟩
   ·rintro (h | ⟨rfl | h,hs⟩)
    ·exact .inl h
    ·exact absurd hs hj
    ·exact .inr ⟨h,hs⟩
theorem addJs_up (js:List Int):∀ (out:List Int),Up out→Up (js.foldl (addJ nb) out):=by
 induction js with
 | nil=>intro out h; exact h
 | cons j js ih=>
  intro out h
  rw [List.foldl_cons]
  refine ih _ ?_
  unfold addJ
  split
  ·exact putI_up h j
  ·exact h
theorem mem_addIs (l:List Int):∀ (out:List Int) (x:Int),x ∈ l.foldl (addI nb) out↔x ∈ out∨(∃ i ∈ l,x ∈ (nb i).getD [])∧(nb x).isSome=true:=by
 induction l with
 | nil=>intro out x; simp
 | cons i l ih=>
  intro out x
  rw [List.foldl_cons,ih]
  unfold addI
  rw [mem_addJs]
  simp only [List.mem_cons,exists_eq_or_imp]
  constructor
  ·rintro ((h | h) | h)
   ·exact .inl h
   ·exact .inr ⟨.inl h.1,h.2⟩
   ·exact .inr ⟨.inr h.1,h.2⟩
  ·rintro (h | ⟨h | h,hs⟩)
   ·exact .inl (.inl h)
   ·exact .inl (.inr ⟨h,hs⟩)
   ·exact .inr ⟨h,hs⟩
theorem addIs_up (l:List Int):∀ (out:List Int),Up out→Up (l.foldl (addI nb) out):=by
 induction l with
 | nil=>intro out h; exact h
 | cons i l ih=>intro out h; rw [List.foldl_cons]; exact ih _ (addJs_up nb _ _ h)
theorem mem_nextR (l:List Int) (x:Int):x ∈ nextR nb l↔x ∈ l∨(∃ i ∈ l,x ∈ (nb i).getD [])∧(nb x).isSome=true:=mem_addIs nb l l x
theorem nextR_up {l:List Int} (h:Up l):Up (nextR nb l):=addIs_up nb l l h
theorem roundsR_up (k:Nat):Up (roundsR nb k):=by
 induction k with
 | zero=>simp [roundsR,Up]
 | succ k ih=>exact nextR_up nb ih
theorem reachR_up (n:Nat):Up (reachR nb n):=by
 unfold reachR
 split
 ·exact roundsR_up nb n
 ·simp [Up]
theorem rounds_reach (h1:(nb 1).isSome=true) (k:Nat):∀ x ∈ roundsR nb k,Reach nb x:=by
 induction k with
 | zero=>intro x hx; simp only [roundsR,List.mem_singleton] at hx; subst hx; exact .root h1
 | succ k ih=>
  intro x hx
  rcases (mem_nextR nb _ _).1 hx with h | ⟨⟨i,hi,hx⟩,hs⟩
  ·exact ih x h
  ·cases hn:nb i with
   | none=>rw [hn] at hx; exact absurd hx (by simp)
   | some l=>rw [hn] at hx; exact .step i x l (ih i hi) hn hx hs
theorem reach_some {x:Int} (h:Reach nb x):(nb x).isSome=true:=by
 cases h with
 | root h=>exact h
 | step _ _ _ _ _ _ h=>exact h
def shutR (l:List Int):Prop:=∀ i ∈ l,∀ x ∈ (nb i).getD [],(nb x).isSome=true→x ∈ l
theorem rounds_step (k:Nat):shutR nb (roundsR nb k)∨k+1≤(roundsR nb k).length:=by
 induction k with
 | zero=>exact .inr (by simp [roundsR])
 | succ k ih=>
  by_cases hs:shutR nb (roundsR nb k)
  ·left
   have e:roundsR nb (k+1)=roundsR nb k:=by
    refine up_ext (roundsR_up nb _) (roundsR_up nb _) fun x=>?_
    show x ∈ nextR nb _↔_
    rw [mem_nextR]
    exact ⟨fun h=>h.elim id fun ⟨⟨i,hi,hx⟩,hx'⟩=>hs i hi x hx hx',.inl⟩
   rw [e]; exact hs
  ·right
   have ih:=ih.resolve_left hs
   obtain ⟨x,hx1,hx2⟩:∃ x,x ∈ roundsR nb (k+1)∧x ∉ roundsR nb k:=by
    apply Classical.byContradiction
    intro hc
    apply hs
    intro i hi x hx hx'
    apply Classical.byContradiction
    intro hn
    exact hc ⟨x,(mem_nextR nb _ _).2 (.inr ⟨⟨i,hi,hx⟩,hx'⟩),hn⟩
   have:=nodup_len (l:=x::roundsR nb k) (m:=roundsR nb (k+1)) (List.nodup_cons.2 ⟨hx2,up_nodup (roundsR_up nb k)⟩) (by
    intro y hy
    rcases List.mem_cons.1 hy with rfl | hy
    ·exact hx1
    ·exact (mem_nextR nb _ _).2 (.inl hy))
   simp only [List.length_cons] at this
   omega
theorem mem_reachR {n:Nat} (hn:∀ l:List Int,l.Nodup→(∀ x ∈ l,(nb x).isSome=true)→l.length≤n) (x:Int):x ∈ reachR nb n↔Reach nb x:=by
 by_cases h1:(nb 1).isSome=true
 ·rw [reachR,if_pos h1]
  refine ⟨rounds_reach nb h1 n x,fun h=>?_⟩
  have hl:=hn _ (up_nodup (roundsR_up nb n)) fun y hy=>reach_some nb (rounds_reach nb h1 n y hy)
  have hs:shutR nb (roundsR nb n):=(rounds_step nb n).resolve_right (by omega)
  have hroot:∀ k,1 ∈ roundsR nb k:=by
   intro k
   induction k with
   | zero=>simp [roundsR]
   | succ k ih=>exact (mem_nextR nb _ _).2 (.inl ih)
  induction h with
  | root _=>exact hroot n
  | step i j l hi hl hj hs' ih=>exact hs i ih j (by rw [hl]; exact hj) hs'
 ·rw [reachR,if_neg h1]
  refine ⟨fun h=>absurd h (by simp),fun h=>?_⟩
  exfalso
  apply h1
  clear hn
  induction h with
  | root h=>exact h
  | step _ _ _ _ _ _ _ ih=>exact ih
structure Que (out next:List Int):Prop where
 nodup:out.Nodup
 reach:∀ x ∈ out,Reach nb x
 from':∀ x ∈ next,(nb x).isSome=true→Reach nb x
 shut:∀ i ∈ out,∀ x ∈ (nb i).getD [],(nb x).isSome=true→x ∈ out∨x ∈ next
 root:(nb 1).isSome=true→1 ∈ out∨1 ∈ next
theorem que_init:Que nb [] [1]:=⟨by simp,by simp,fun x hx h=>by simp only [List.mem_singleton] at hx; subst hx; exact .root h,by simp,fun _=>.inr (by simp)⟩
theorem que_skip {out next:List Int} {i:Int} (q:Que nb out (i::next)) (h:nb i=none∨i ∈ out):Que nb out next:=by
 refine ⟨q.nodup,q.reach,fun x hx=>q.from' x (by simp [hx]),fun k hk x hx hs=>?_,fun h1=>?_⟩
 ·rcases q.shut k hk x hx hs with h' | h'
  ·exact .inl h'
  ·rcases List.mem_cons.1 h' with rfl | h'
   ·rcases h with h | h
    ·rw [h] at hs; exact absurd hs (by simp)
    ·exact .inl h
   ·exact .inr h'
 ·rcases q.root h1 with h' | h'
  ·exact .inl h'
  ·rcases List.mem_cons.1 h' with rfl | h'
   ·rcases h with h | h
    ·rw [h] at h1; exact absurd h1 (by simp)
    ·exact .inl h
   ·exact .inr h'
theorem que_take {out next l:List Int} {i:Int} (q:Que nb out (i::next)) (h:nb i=some l) (hn:i ∉ out):Que nb (out++[i]) (next++l):=by
 have hr:Reach nb i:=q.from' i (by simp) (by rw [h]; rfl)
 refine ⟨?_,fun x hx=>?_,fun x hx hs=>?_,fun k hk x hx hs=>?_,fun h1=>?_⟩
 ·rw [List.nodup_append]
  refine ⟨q.nodup,by simp,fun a ha b hb=>?_⟩
  rw [List.mem_singleton.1 hb]
  rintro rfl
  exact hn ha
 ·rcases List.mem_append.1 hx with hx | hx
  ·exact q.reach x hx
  ·rw [List.mem_singleton.1 hx]; exact hr
 ·rcases List.mem_append.1 hx with hx | hx
  ·exact q.from' x (by simp [hx]) hs
  ·exact .step i x l hr h hx hs
 ·rcases List.mem_append.1 hk with hk | hk
  ·rcases q.shut k hk x hx hs with h' | h'
   ·exact .inl (by simp [h'])
   ·rcases List.mem_cons.1 h' with rfl | h'
    ·exact .inl (by simp)
    ·exact .inr (by simp [h'])
  ·rw [List.mem_singleton.1 hk,h] at hx
   exact .inr (by simpa using .inr hx)
 ·rcases q.root h1 with h' | h'
  ·exact .inl (by simp [h'])
  ·rcases List.mem_cons.1 h' with rfl | h'
   ·exact .inl (by simp)
   ·exact .inr (by simp [h'])
theorem que_end {out:List Int} (q:Que nb out []) (x:Int):x ∈ out↔Reach nb x:=by
 refine ⟨q.reach x,fun h=>?_⟩
 induction h with
 | root h=>exact (q.root h).resolve_right (by simp)
 | step i j l hi hl hj hs ih=>exact (q.shut i ih j (by rw [hl]; exact hj) hs).resolve_right (by simp)
theorem que_sorted {n:Nat} (hn:∀ l:List Int,l.Nodup→(∀ x ∈ l,(nb x).isSome=true)→l.length≤n) {out:List Int} (q:Que nb out []) :
  out.mergeSort (fun x y=>decide (x≤y))=reachR nb n:=by
 refine up_ext ?_ (reachR_up nb n) fun x=>?_
 ·have h1:=List.pairwise_mergeSort (le:=fun x y:Int=>decide (x≤y)) (by intro a b c; simp; omega) (by intro a b; simp; omega) out
  have h2:(out.mergeSort (fun x y=>decide (x≤y))).Nodup:=(List.mergeSort_perm out _).nodup_iff.2 q.nodup
  have:Up (out.mergeSort (fun x y=>decide (x≤y))):=(h1.and h2).imp fun ⟨a,b⟩=>by simp at a; omega
  exact this
 ·rw [(List.mergeSort_perm out _).mem_iff,que_end nb q,mem_reachR nb hn]
theorem que_len {n:Nat} (hn:∀ l:List Int,l.Nodup→(∀ x ∈ l,(nb x).isSome=true)→l.length≤n) {out next:List Int} (q:Que nb out next):out.length≤n:=
 hn out q.nodup fun x hx=>reach_some nb (q.reach x hx)
end
end Go.Proofs.YtjmnolhflcjpgaaGreat.Awp
namespace Go.Proofs.YtjmnolhflcjpgaaGreat.Awp
def okc (c:UInt8):Bool:=(decide (97≤c) && decide (c≤122)) || (decide (48≤c) && decide (c≤57)) || decide (c=95) || decide (c=45) || decide (c=46)
def nameOk (s:Bytes):Bool:=s.all okc && decide (1≤s.length) && decide (s.length≤14) && decide (s≠[46]) && decide (s≠[46,46])
end Go.Proofs.YtjmnolhflcjpgaaGreat.Awp
namespace Go.Proofs.YtjmnolhflcjpgaaGreat.Awp
def inoAt (t:Tab) (i:Int):Option Inode:=t.inodes.find? fun x=>decide (x.ino=i)
def nbOf (x:Inode):List Int:=if x.kind=2 then x.ents.map Ent.ino else []
def nbT (t:Tab) (i:Int):Option (List Int):=(inoAt t i).map nbOf
def reached (t:Tab):List Int:=reachR (nbT t) t.inodes.length
def linksOf (t:Tab) (i:Int):Nat:=(t.inodes.map fun x=>(nbOf x).count i).sum
def usageOf (t:Tab):Nat:=(t.inodes.map fun x=>32+x.data.length+(x.attrs.map fun a=>a.name.length+a.val.length).sum).sum
structure EntsOk (l:List Ent):Prop where
 len:l.length≤10
 ok:∀ e ∈ l,nameOk e.name=true∧2≤e.ino∧e.ino≤1000
 up:l.Pairwise fun a b=>a.name<b.name
structure AttrsOk (l:List Attr):Prop where
 len:l.length≤4
 ok:∀ a ∈ l,nameOk a.name=true∧1≤a.val.length∧a.val.length≤16
 up:l.Pairwise fun a b=>a.name<b.name
structure InodeOk (x:Inode):Prop where
 ino:1≤x.ino∧x.ino≤1000
 links:0≤x.links∧x.links≤1000
 root:x.links=0↔x.ino=1
 data:x.data.length≤100
 ents:EntsOk x.ents
 attrs:AttrsOk x.attrs
 kind:(x.kind=1∧x.ents=[])∨(x.kind=2∧x.data=[]∧x.links≤1)
theorem inoAt_some {t:Tab} {i:Int} {x:Inode} (h:inoAt t i=some x):x ∈ t.inodes∧x.ino=i:=by
 refine ⟨List.mem_of_find?_eq_some h,?_⟩
 have:=List.find?_some h
 simpa using this
theorem nb_bound (t:Tab):∀ l:List Int,l.Nodup→(∀ x ∈ l,(nbT t x).isSome=true)→l.length≤t.inodes.length:=by
 intro l hl hs
 have:=nodup_len (m:=t.inodes.map Inode.ino) hl fun x hx=>by
  have:=hs x hx
  cases e:inoAt t x with
  | none=>rw [nbT,e] at this; exact absurd this (by simp)
  | some y=>obtain ⟨h1,h2⟩:=inoAt_some e; exact List.mem_map.2 ⟨y,h1,h2⟩
 simpa using this
end Go.Proofs.YtjmnolhflcjpgaaGreat.Awp
namespace Go.Proofs.YtjmnolhflcjpgaaGreat.Awp
variable {t:Tab}
end Go.Proofs.YtjmnolhflcjpgaaGreat.Awp
namespace Go.Proofs.YtjmnolhflcjpgaaGreat.Awp
section
variable {s s':Int→Bytes→Option Int}
end
end Go.Proofs.YtjmnolhflcjpgaaGreat.Awp
namespace Go.Proofs.YtjmnolhflcjpgaaGreat.Awp
section
variable {α:Type} (key:α→Bytes)
variable {key}
end
end Go.Proofs.YtjmnolhflcjpgaaGreat.Awp
namespace Go.Proofs.YtjmnolhflcjpgaaGreat.Awp
end Go.Proofs.YtjmnolhflcjpgaaGreat.Awp
namespace Go.Proofs.YtjmnolhflcjpgaaGreat.Awp
end Go.Proofs.YtjmnolhflcjpgaaGreat.Awp
namespace Go.Proofs.YtjmnolhflcjpgaaGreat.Awp
end Go.Proofs.YtjmnolhflcjpgaaGreat.Awp
namespace Go.Proofs.YtjmnolhflcjpgaaGreat.Awp
end Go.Proofs.YtjmnolhflcjpgaaGreat.Awp
namespace Go.Proofs.YtjmnolhflcjpgaaGreat.Awp
end Go.Proofs.YtjmnolhflcjpgaaGreat.Awp
namespace Go.Proofs.YtjmnolhflcjpgaaGreat.Awp
end Go.Proofs.YtjmnolhflcjpgaaGreat.Awp
namespace Go.Proofs.YtjmnolhflcjpgaaGreat.Awp
end Go.Proofs.YtjmnolhflcjpgaaGreat.Awp
namespace Go.Proofs.YtjmnolhflcjpgaaGreat.Awp
open Go.Proofs
set_option linter.unusedSimpArgs false
set_option linter.unusedVariables false
theorem strLt_eq (a b:Bytes):strLt a b=decide (a<b):=bytesLess_eq a b
section
variable {α:Type} (p:Nat→α→Bool) (lt:α→α→Bool)
def prevOk (l:List α) (x:α):Nat→Bool
 | 0=>true
 | k+1=>match l[k]? with
  | none=>true
  | some y=>lt y x
def stepOk (l:List α) (i:Nat):Bool:=match l[i]? with
 | none=>true
 | some x=>p i x && prevOk lt l x i
def allOk (l:List α):Bool:=(List.range l.length).all (stepOk p lt l)
variable {p lt}
theorem allOk_no {l:List α} {i:Nat} (h:i<l.length) (e:stepOk p lt l i=false):allOk p lt l=false:=by
 rw [allOk,List.all_eq_false]
 exact ⟨i,by simpa using h,by simp [e]⟩
theorem allOk_yes {l:List α} (h:∀ i,i<l.length→stepOk p lt l i=true):allOk p lt l=true:=by
 rw [allOk,List.all_eq_true]
 intro k hk
 exact h k (by simpa using hk)
theorem stepOk_zero {l:List α} (h:0<l.length):stepOk p lt l 0=p 0 l[0]:=by
 rw [stepOk,List.getElem?_eq_getElem h]; simp [prevOk]
theorem stepOk_succ {l:List α} {i:Nat} (h:i+1<l.length):stepOk p lt l (i+1)=(p (i+1) l[i+1] && lt l[i] l[i+1]):=by
 rw [stepOk,List.getElem?_eq_getElem h]
 simp only [prevOk]
 rw [List.getElem?_eq_getElem (show i<l.length by omega)]
theorem allOk_iff (htr:∀ a b c,lt a b=true→lt b c=true→lt a c=true) (l:List α):allOk p lt l=true↔(∀ i,(h:i<l.length)→p i l[i]=true)∧l.Pairwise (fun a b=>lt a b=true):=by
 constructor
 ·intro h
  have h':∀ i,i<l.length→stepOk p lt l i=true:=by
   intro i hi
   rw [allOk,List.all_eq_true] at h
   exact h i (by simpa using hi)
  refine ⟨fun i hi=>?_,?_⟩
  ·have:=h' i hi
   rw [stepOk,List.getElem?_eq_getElem hi] at this
   simp only [Bool.and_eq_true] at this
   exact this.1
  ·rw [List.pairwise_iff_getElem]
   intro i j hi hj hij
   induction j with
   | zero=>omega
   | succ j ih=>
    have hs:=h' (j+1) hj
    rw [stepOk_succ hj,Bool.and_eq_true] at hs
    by_cases e:i=j
    ·subst e; exact hs.2
    ·exact htr _ _ _ (ih (by omega) (by omega)) hs.2
 ·rintro ⟨h1,h2⟩
  refine allOk_yes fun i hi=>?_
  cases i with
  | zero=>rw [stepOk_zero hi]; exact h1 0 hi
  | succ i=>
   rw [stepOk_succ hi,Bool.and_eq_true]
   exact ⟨h1 _ hi,List.pairwise_iff_getElem.1 h2 i (i+1) (by omega) hi (by omega)⟩
end
theorem lt_tr:∀ a b c:Bytes,decide (a<b)=true→decide (b<c)=true→decide (a<c)=true:=by
 intro a b c h1 h2
 simp only [decide_eq_true_eq] at *
 exact List.lt_trans h1 h2
theorem all_mem {α:Type} {l:List α} {p:α→Prop}:(∀ i,(h:i<l.length)→p l[i])↔∀ x ∈ l,p x:=by
 constructor
 ·intro h x hx
  obtain ⟨i,hi,rfl⟩:=List.getElem_of_mem hx
  exact h i hi
 ·intro h i hi; exact h _ (List.getElem_mem hi)
def attrP (a:Attr):Bool:=nameOk a.name && inR a.val.length 1 16
def attrLt (a b:Attr):Bool:=decide (a.name<b.name)
def attrsIn (l:List Attr):Bool:=allOk (fun _=>attrP) attrLt l
def attrsB (l:List Attr):Bool:=attrsIn l && decide (l.length≤4)
def entP (e:Ent):Bool:=nameOk e.name && inR e.ino 2 1000
def entLt (a b:Ent):Bool:=decide (a.name<b.name)
def entsIn (l:List Ent):Bool:=allOk (fun _=>entP) entLt l
def entsB (l:List Ent):Bool:=entsIn l && decide (l.length≤10)
def kindB (x:Inode):Bool:=if x.kind=1 then decide (x.ents.length=0) else if x.kind=2 then decide (x.data.length=0) && decide (x.links≤1) else false
def inodeB (x:Inode):Bool:=inR x.ino 1 1000 && (inR x.links 0 1000 && (decide (x.links=0) == decide (x.ino=1)) && (decide (x.data.length≤100) && (entsB x.ents && (attrsB x.attrs && kindB x))))
def inodeP (t:Tab) (x:Inode):Bool:=inodeB x && decide (x.ino<t.next)
def inodeLt (a b:Inode):Bool:=decide (a.ino<b.ino)
def inodesIn (t:Tab):Bool:=allOk (fun _=>inodeP t) inodeLt t.inodes
def rootB (t:Tab):Bool:=match inoAt t 1 with
 | none=>false
 | some x=>decide (x.kind=2)
def tabB (t:Tab):Bool:=decide (t.inodes.length≤30) && (inR t.next 2 1000 && (inodesIn t && rootB t))
def thereB (t:Tab) (x:Inode):Bool:=x.ents.all fun e=>(inoAt t e.ino).isSome
def treeP (t:Tab) (x:Inode):Bool:=decide (x.links=(linksOf t x.ino:Nat)) && thereB t x
def treeB (t:Tab):Bool:=tabB t && (decide ((reached t).length=t.inodes.length) && t.inodes.all (treeP t))
theorem inR_iff (x a b:Int):inR x a b=true↔a≤x∧x≤b:=by simp [inR]
theorem attrsB_iff (l:List Attr):attrsB l=true↔AttrsOk l:=by
 rw [attrsB,Bool.and_eq_true,attrsIn,allOk_iff (lt:=attrLt) (fun a b c h1 h2=>lt_tr a.name b.name c.name h1 h2)]
 simp only [attrP,attrLt,Bool.and_eq_true,decide_eq_true_eq,inR_iff]
 rw [all_mem (p:=fun a:Attr=>nameOk a.name=true∧(1:Int)≤(a.val.length:Int)∧(a.val.length:Int)≤16)]
 constructor
 ·rintro ⟨⟨h1,h2⟩,h3⟩
  exact ⟨h3,fun a ha=>⟨(h1 a ha).1,by have:=(h1 a ha).2.1; omega,by have:=(h1 a ha).2.2; omega⟩,h2⟩
 ·rintro ⟨h3,h1,h2⟩
  exact ⟨⟨fun a ha=>⟨(h1 a ha).1,by have:=(h1 a ha).2.1; omega,by have:=(h1 a ha).2.2; omega⟩,h2⟩,h3⟩
theorem entsB_iff (l:List Ent):entsB l=true↔EntsOk l:=by
 rw [entsB,Bool.and_eq_true,entsIn,allOk_iff (lt:=entLt) (fun a b c h1 h2=>lt_tr a.name b.name c.name h1 h2)]
 simp only [entP,entLt,Bool.and_eq_true,decide_eq_true_eq,inR_iff]
 rw [all_mem (p:=fun a:Ent=>nameOk a.name=true∧(2:Int)≤a.ino∧a.ino≤1000)]
 constructor
 ·rintro ⟨⟨h1,h2⟩,h3⟩; exact ⟨h3,h1,h2⟩
 ·rintro ⟨h3,h1,h2⟩; exact ⟨⟨h1,h2⟩,h3⟩
theorem kindB_iff (x:Inode):kindB x=true↔(x.kind=1∧x.ents=[])∨(x.kind=2∧x.data=[]∧x.links≤1):=by
 unfold kindB
 by_cases h1:x.kind=1
 ·rw [if_pos h1]
  simp only [decide_eq_true_eq,List.length_eq_zero_iff]
  constructor
  ·exact fun h=>.inl ⟨h1,h⟩
  ·rintro (⟨_,h⟩ | ⟨h,_⟩)
   ·exact h
   ·omega
 ·rw [if_neg h1]
  by_cases h2:x.kind=2
  ·rw [if_pos h2]
   simp only [Bool.and_eq_true,decide_eq_true_eq,List.length_eq_zero_iff]
   constructor
   ·exact fun h=>.inr ⟨h2,h⟩
   ·rintro (⟨h,_⟩ | ⟨_,h⟩)
    ·exact absurd h h1
    ·exact h
  ·rw [if_neg h2]
   constructor
   ·intro h; cases h
   ·rintro (⟨h,_⟩ | ⟨h,_⟩)
    ·exact absurd h h1
    ·exact absurd h h2
theorem inodeB_iff (x:Inode):inodeB x=true↔InodeOk x:=by
 unfold inodeB
 simp only [Bool.and_eq_true,inR_iff,decide_eq_true_eq,entsB_iff,attrsB_iff,kindB_iff,beq_iff_eq,decide_eq_decide]
 constructor
 ·rintro ⟨h1,⟨h2,h3⟩,h4,h5,h6,h7⟩; exact ⟨h1,h2,h3,h4,h5,h6,h7⟩
 ·rintro ⟨h1,h2,h3,h4,h5,h6,h7⟩; exact ⟨h1,⟨h2,h3⟩,h4,h5,h6,h7⟩
def volNamed (f:Fs) (n:Bytes):Option Nat:=f.vols.findIdx? fun v=>decide (v.name=n)
def volAt (f:Fs) (i:Int):Option Nat:=f.vols.findIdx? fun v=>decide (v.id=i)
def idxI (o:Option Nat):Int:=match o with
 | none=>-1
 | some i=>i
def volP (f:Fs) (i:Nat) (v:Vol):Bool:=decide (1≤v.id) && (decide (v.id<f.next) && (nameOk v.name && (decide (idxI (volNamed f v.name)=(i:Int)) && (inR v.limit 32 4000 && (treeB v.t && decide ((usageOf v.t:Nat)≤v.limit))))))
def volLt (a b:Vol):Bool:=decide (a.id<b.id)
def fsB (f:Fs):Bool:=decide (f.vols.length≤6) && (inR f.next 1 99 && allOk (volP f) volLt f.vols)
end Go.Proofs.YtjmnolhflcjpgaaGreat.Awp
namespace Go.Proofs.YtjmnolhflcjpgaaGreat.Awp
open Go.Proofs
set_option linter.unusedSimpArgs false
set_option linter.unusedVariables false
open Nat (reduceEqDiff reduceAdd reduceMul reduceSub)
open Int (reduceNeg reduceToNat reducePow)
set_option maxRecDepth 100000
set_option maxHeartbeats 20000000
theorem s_eqByteS (a b:Bytes) (hl:a.length<2^40):Spec Tryz.prog 125 [.ext 1 (bytesR a),.ext 1 (bytesR b)] (.bool (decide (a=b))) [.undef,.undef]:=by
 refine spec_c hmx p_L_eqByteS [] 51 [] ⟨Nat.le_of_ble_eq_true rfl,Nat.le_of_ble_eq_true rfl⟩ rfl rfl ?_
 intro w hP hQ
 unfold c_L_eqByteS
 simp +decide (maxSteps:=9^9) (disch:=omega) only[↓SB0,SX,seval,hQ]
 (first | with_reducible refine if_d _ ?_ ?_ | refine if_i _ ?_ ?_) <;> intro h
 ·simp +decide (maxSteps:=9^9) (disch:=omega) only[↓SB0,SX,seval,hQ]
  refine loop_f (fun i:Nat=>[(5,.int .i64 i)]) (fun i=>i≤a.length∧a.take i=b.take i) (fun i=>a.length-i) (0) hP hQ (rfl) (by simp) ?_
  rintro i ⟨hi,hab⟩ w1 hP1 hQ1
  simp +decide (maxSteps:=9^9) (disch:=omega) only[↓SB0,SX,seval,hQ,hQ1]
  (first | with_reducible refine if_d _ ?_ ?_ | refine if_i _ ?_ ?_) <;> intro h1
  ·simp +decide (maxSteps:=9^9) (disch:=omega) only[↓SB0,SX,seval,hQ,hQ1,getE h1,getE (h ▸ h1)]
   (first | with_reducible refine if_d _ ?_ ?_ | refine if_i _ ?_ ?_) <;> intro h2
   ·simp +decide (maxSteps:=9^9) (disch:=omega) only[↓SB0,SX,seval,hQ,hQ1]
    exact ⟨i+1,rfl,⟨by omega,take_eq_succ hab _ _ (UInt8.toNat_inj.1 (by omega))⟩,by omega⟩
   ·simp +decide (maxSteps:=9^9) (disch:=omega) only[↓SB0,SX,seval,hQ,hQ1]
    rw [decide_eq_false]
    rintro rfl; exact h2 rfl
  ·simp +decide (maxSteps:=9^9) (disch:=omega) only[↓SB0,SX,seval,hQ,hQ1]
   rw [decide_eq_true (take_all hab (by omega) (by omega))]
 ·simp +decide (maxSteps:=9^9) (disch:=omega) only[↓SB0,SX,seval,hQ,hQ]
  rw [decide_eq_false]
  rintro rfl; exact h rfl
theorem s_szByteS (a:Bytes) (left:Int) (hl:a.length<2^48) (h0:0≤left) (h1:left<2^40) :
  Spec Tryz.prog 107 [.ext 1 (bytesR a),.int .i64 left] (.int .i64 (szC left a.length)) [.undef,.undef]:=by
 refine spec_c hmx p_L_szByteS [] 19 [] ⟨Nat.le_of_ble_eq_true rfl,Nat.le_of_ble_eq_true rfl⟩ rfl rfl ?_
 intro w hP hQ
 unfold c_L_szByteS
 simp +decide (maxSteps:=9^9) (disch:=omega) only[↓SB0,SX,seval,hQ]
 (first | with_reducible refine if_d _ ?_ ?_ | refine if_i _ ?_ ?_) <;> intro h
 ·simp +decide (maxSteps:=9^9) (disch:=omega) only[↓SB0,SX,seval,hQ]
  rw [szC_lt (by omega)]
 ·simp +decide (maxSteps:=9^9) (disch:=omega) only[↓SB0,SX,seval,hQ]
  rw [szC_ge (by omega)]
theorem s_toByteS (a:Bytes) (hl:a.length<2^40):Spec Tryz.prog 111 [.ext 1 (bytesR a)] (.own 1 (bytesR a)) [.undef]:=by
 refine spec_c hmx p_L_toByteS [] 29 [] ⟨Nat.le_of_ble_eq_true rfl,Nat.le_of_ble_eq_true rfl⟩ rfl rfl ?_
 intro w hP hQ
 unfold c_L_toByteS
 simp +decide (maxSteps:=9^9) (disch:=omega) only[↓SB0,SX,seval,hQ]
 refine loop_f (fun i:Nat=>[(3,.own 1 (fillR byteRow [.int .u8 0] a i)),(4,.int .i64 i)]) (fun i=>i≤a.length) (fun i=>a.length-i) (0) hP hQ (by simp +decide (maxSteps:=9^9) (disch:=omega) only[↓SB0,SX,seval,hQ,fillR_0]) (by omega) ?_
 rintro i hi w1 hP1 hQ1
 simp +decide (maxSteps:=9^9) (disch:=omega) only[↓SB0,SX,seval,hQ,hQ1]
 (first | with_reducible refine if_d _ ?_ ?_ | refine if_i _ ?_ ?_) <;> intro h1
 ·simp +decide (maxSteps:=9^9) (disch:=omega) only[↓SB0,SX,seval,hQ,hQ1,getE h1]
  rw [fillR_set _ _ _ _ (by omega) _ (by rfl)]
  exact ⟨i+1,rfl,by omega,by omega⟩
 ·simp +decide (maxSteps:=9^9) (disch:=omega) only[↓SB0,SX,seval,hQ,hQ1,fillR_all,bytesR_row]
theorem s_markByteS (a:Bytes) (k:Int) (h0:0≤k) (hl:k+a.length<2^40):Spec Tryz.prog 76 [.own 1 (bytesR a),.int .i64 k] (.int .i64 (k+a.length)) [.own 1 (bytesR (markBy a k)),.undef]:=by
 refine spec_c hmx p_L_markByteS [] 51 [true,false] ⟨Nat.le_of_ble_eq_true rfl,Nat.le_of_ble_eq_true rfl⟩ rfl rfl ?_
 intro w hP hQ
 unfold c_L_markByteS
 simp +decide (maxSteps:=9^9) (disch:=omega) only[↓SB0,SX,seval,hQ]
 refine loop_f (fun i:Nat=>[(1000,.own 1 (mixR byteRow (fun _ k=>UInt8.ofInt k) (fun _=>1) a k i)),(1,.int .i64 (k+i)),(5,.int .i64 i)]) (fun i=>i≤a.length) (fun i=>a.length-i) (0) hP hQ (by simp +decide (maxSteps:=9^9) (disch:=omega) only[↓SB0,SX,seval,hQ,mixR_0,← bytesR_row]) (by omega) ?_
 rintro i hi w1 hP1 hQ1
 simp +decide (maxSteps:=9^9) (disch:=omega) only[↓SB0,SX,seval,hQ,hQ1]
 (first | with_reducible refine if_d _ ?_ ?_ | refine if_i _ ?_ ?_) <;> intro h1
 ·simp +decide (maxSteps:=9^9) (disch:=omega) only[↓SB0,SX,seval,hQ,hQ1]
  rw [mixR_set _ _ _ _ _ _ (by omega) _ (by simp only [sum_one,List.length_take,Nat.min_eq_left hi,wrap_ofInt]; rfl)]
  exact ⟨i+1,by simp [Int.add_assoc],by omega,by omega⟩
 ·obtain rfl:i=a.length:=by omega
  simp +decide (maxSteps:=9^9) (disch:=omega) only[↓SB0,SX,seval,hQ,hQ1,markBy_row]
theorem s_heldByteS (a:Bytes) (k:Int) (h0:0≤k) (hl:k+a.length<2^40):Spec Tryz.prog 79 [.ext 1 (bytesR (markBy a k)),.int .i64 k] (.int .i64 (k+a.length)) [.undef,.undef]:=by
 refine spec_c hmx p_L_heldByteS [] 51 [] ⟨Nat.le_of_ble_eq_true rfl,Nat.le_of_ble_eq_true rfl⟩ rfl rfl ?_
 intro w hP hQ
 unfold c_L_heldByteS
 simp +decide (maxSteps:=9^9) (disch:=omega) only[↓SB0,SX,seval,hQ]
 refine loop_f (fun i:Nat=>[(1,.int .i64 (k+i)),(5,.int .i64 i)]) (fun i=>i≤a.length) (fun i=>a.length-i) (0) hP hQ (by simp +decide (maxSteps:=9^9) (disch:=omega) only[↓SB0,SX,seval,hQ]) (by omega) ?_
 rintro i hi w1 hP1 hQ1
 simp +decide (maxSteps:=9^9) (disch:=omega) only[↓SB0,SX,seval,hQ,hQ1]
 (first | with_reducible refine if_d _ ?_ ?_ | refine if_i _ ?_ ?_) <;> intro h1
 ·simp +decide (maxSteps:=9^9) (disch:=omega) only[↓SB0,SX,seval,hQ,hQ1,getE h1,wrap_ofInt]
  exact ⟨i+1,by simp [Int.add_assoc],by omega,by omega⟩
 ·obtain rfl:i=a.length:=by omega
  simp +decide (maxSteps:=9^9) (disch:=omega) only[↓SB0,SX,seval,hQ,hQ1]
end Go.Proofs.YtjmnolhflcjpgaaGreat.Awp
namespace Go.Proofs.YtjmnolhflcjpgaaGreat.Awp
open Go.Proofs
set_option linter.unusedSimpArgs false
set_option linter.unusedVariables false
open Nat (reduceEqDiff reduceAdd reduceMul reduceSub)
open Int (reduceNeg reduceToNat reducePow)
set_option maxRecDepth 100000
set_option maxHeartbeats 20000000
theorem s_eqEnt (a b:Ent) (hl:a.sz<2^40):Spec Tryz.prog 138 [a.x,b.x] (.bool (decide (a=b))) [.undef,.undef]:=by
 simp only [Ent.sz] at hl
 refine spec_c hmx p_L_eqEnt [] 31 [] ⟨Nat.le_of_ble_eq_true rfl,Nat.le_of_ble_eq_true rfl⟩ rfl rfl ?_
 intro w hP hQ
 unfold c_L_eqEnt
 simp +decide (maxSteps:=9^9) (disch:=omega) only[↓SB0,SX,seval,hQ]
 (first | with_reducible refine if_d _ ?_ ?_ | refine if_i _ ?_ ?_) <;> intro h0
 rotate_left
 ·simp +decide (maxSteps:=9^9) (disch:=omega) only[↓SB0,SX,seval,hQ]
  rw [decide_eq_false (by rintro rfl; exact h0 rfl)]
 simp +decide (maxSteps:=9^9) (disch:=omega) only[↓SB0,SX,seval,hQ]
 (first | with_reducible refine if_d _ ?_ ?_ | refine if_i _ ?_ ?_) <;> intro h1
 rotate_left
 ·simp +decide (maxSteps:=9^9) (disch:=omega) only[↓SB0,SX,seval,hQ]
  rw [decide_eq_false (by rintro rfl; exact h1 rfl)]
 simp +decide (maxSteps:=9^9) (disch:=omega) only[↓SB0,SX,seval,hQ]
 rw [decide_eq_true (Ent.eq' h0 h1)]
theorem s_eqEntS (a b:List Ent) (hl:szM Ent.sz a<2^40):Spec Tryz.prog 126 [.ext 2 (a.map Ent.row),.ext 2 (b.map Ent.row)] (.bool (decide (a=b))) [.undef,.undef]:=by
 simp only [szM] at hl
 refine spec_c hmx p_L_eqEntS [] 51 [] ⟨Nat.le_of_ble_eq_true rfl,Nat.le_of_ble_eq_true rfl⟩ rfl rfl ?_
 intro w hP hQ
 unfold c_L_eqEntS
 simp +decide (maxSteps:=9^9) (disch:=omega) only[↓SB0,SX,seval,hQ]
 (first | with_reducible refine if_d _ ?_ ?_ | refine if_i _ ?_ ?_) <;> intro h
 rotate_left
 ·simp +decide (maxSteps:=9^9) (disch:=omega) only[↓SB0,SX,seval,hQ]
  rw [decide_eq_false (by rintro rfl; exact h rfl)]
 simp +decide (maxSteps:=9^9) (disch:=omega) only[↓SB0,SX,seval,hQ]
 refine loop_f (fun i:Nat=>[(5,.int .i64 i)]) (fun i=>i≤a.length∧a.take i=b.take i) (fun i=>a.length-i) (0) hP hQ (rfl) (by simp) ?_
 rintro i ⟨hi,hab⟩ w1 hP1 hQ1
 simp +decide (maxSteps:=9^9) (disch:=omega) only[↓SB0,SX,seval,hQ,hQ1]
 (first | with_reducible refine if_d _ ?_ ?_ | refine if_i _ ?_ ?_) <;> intro h1
 ·simp +decide (maxSteps:=9^9) (disch:=omega) only[↓SB0,SX,seval,hQ,hQ1,getE h1,getE (h ▸ h1)]
  (first|refine cI hP1 (s_eqEnt (a[i]'(by omega)) (b[i]'(by omega)) (Nat.lt_of_le_of_lt (sum_get Ent.sz _) (by omega))) rfl rfl ?_|refine cH hP1 (s_eqEnt (a[i]'(by omega)) (b[i]'(by omega)) (Nat.lt_of_le_of_lt (sum_get Ent.sz _) (by omega))) rfl rfl ?_)
  simp +decide (maxSteps:=9^9) (disch:=omega) only[↓SB0,SX,seval,hQ,hQ1]
  (first | with_reducible refine if_d _ ?_ ?_ | refine if_i _ ?_ ?_) <;> intro h2
  ·simp +decide (maxSteps:=9^9) (disch:=omega) only[↓SB0,SX,seval,hQ,hQ1]
   exact ⟨i+1,rfl,⟨by omega,take_eq_succ hab _ _ h2⟩,by omega⟩
  ·simp +decide (maxSteps:=9^9) (disch:=omega) only[↓SB0,SX,seval,hQ,hQ1]
   rw [decide_eq_false (by rintro rfl; exact h2 rfl)]
 ·simp +decide (maxSteps:=9^9) (disch:=omega) only[↓SB0,SX,seval,hQ,hQ1]
  rw [decide_eq_true (take_all hab (by omega) (by omega))]
theorem s_eqAttr (a b:Attr) (hl:a.sz<2^40):Spec Tryz.prog 139 [a.x,b.x] (.bool (decide (a=b))) [.undef,.undef]:=by
 simp only [Attr.sz] at hl
 refine spec_c hmx p_L_eqAttr [] 31 [] ⟨Nat.le_of_ble_eq_true rfl,Nat.le_of_ble_eq_true rfl⟩ rfl rfl ?_
 intro w hP hQ
 unfold c_L_eqAttr
 simp +decide (maxSteps:=9^9) (disch:=omega) only[↓SB0,SX,seval,hQ]
 (first | with_reducible refine if_d _ ?_ ?_ | refine if_i _ ?_ ?_) <;> intro h0
 rotate_left
 ·simp +decide (maxSteps:=9^9) (disch:=omega) only[↓SB0,SX,seval,hQ]
  rw [decide_eq_false (by rintro rfl; exact h0 rfl)]
 simp +decide (maxSteps:=9^9) (disch:=omega) only[↓SB0,SX,seval,hQ]
 (first | with_reducible refine if_d _ ?_ ?_ | refine if_i _ ?_ ?_) <;> intro h1
 rotate_left
 ·simp +decide (maxSteps:=9^9) (disch:=omega) only[↓SB0,SX,seval,hQ]
  rw [decide_eq_false (by rintro rfl; exact h1 rfl)]
 simp +decide (maxSteps:=9^9) (disch:=omega) only[↓SB0,SX,seval,hQ]
 rw [decide_eq_true (Attr.eq' h0 h1)]
theorem s_eqAttrS (a b:List Attr) (hl:szM Attr.sz a<2^40):Spec Tryz.prog 127 [.ext 2 (a.map Attr.row),.ext 2 (b.map Attr.row)] (.bool (decide (a=b))) [.undef,.undef]:=by
 simp only [szM] at hl
 refine spec_c hmx p_L_eqAttrS [] 51 [] ⟨Nat.le_of_ble_eq_true rfl,Nat.le_of_ble_eq_true rfl⟩ rfl rfl ?_
 intro w hP hQ
 unfold c_L_eqAttrS
 simp +decide (maxSteps:=9^9) (disch:=omega) only[↓SB0,SX,seval,hQ]
 (first | with_reducible refine if_d _ ?_ ?_ | refine if_i _ ?_ ?_) <;> intro h
 rotate_left
 ·simp +decide (maxSteps:=9^9) (disch:=omega) only[↓SB0,SX,seval,hQ]
  rw [decide_eq_false (by rintro rfl; exact h rfl)]
 simp +decide (maxSteps:=9^9) (disch:=omega) only[↓SB0,SX,seval,hQ]
 refine loop_f (fun i:Nat=>[(5,.int .i64 i)]) (fun i=>i≤a.length∧a.take i=b.take i) (fun i=>a.length-i) (0) hP hQ (rfl) (by simp) ?_
 rintro i ⟨hi,hab⟩ w1 hP1 hQ1
 simp +decide (maxSteps:=9^9) (disch:=omega) only[↓SB0,SX,seval,hQ,hQ1]
 (first | with_reducible refine if_d _ ?_ ?_ | refine if_i _ ?_ ?_) <;> intro h1
 ·simp +decide (maxSteps:=9^9) (disch:=omega) only[↓SB0,SX,seval,hQ,hQ1,getE h1,getE (h ▸ h1)]
  (first|refine cI hP1 (s_eqAttr (a[i]'(by omega)) (b[i]'(by omega)) (Nat.lt_of_le_of_lt (sum_get Attr.sz _) (by omega))) rfl rfl ?_|refine cH hP1 (s_eqAttr (a[i]'(by omega)) (b[i]'(by omega)) (Nat.lt_of_le_of_lt (sum_get Attr.sz _) (by omega))) rfl rfl ?_)
  simp +decide (maxSteps:=9^9) (disch:=omega) only[↓SB0,SX,seval,hQ,hQ1]
  (first | with_reducible refine if_d _ ?_ ?_ | refine if_i _ ?_ ?_) <;> intro h2
  ·simp +decide (maxSteps:=9^9) (disch:=omega) only[↓SB0,SX,seval,hQ,hQ1]
   exact ⟨i+1,rfl,⟨by omega,take_eq_succ hab _ _ h2⟩,by omega⟩
  ·simp +decide (maxSteps:=9^9) (disch:=omega) only[↓SB0,SX,seval,hQ,hQ1]
   rw [decide_eq_false (by rintro rfl; exact h2 rfl)]
 ·simp +decide (maxSteps:=9^9) (disch:=omega) only[↓SB0,SX,seval,hQ,hQ1]
  rw [decide_eq_true (take_all hab (by omega) (by omega))]
theorem s_eqInode (a b:Inode) (hl:a.sz<2^40):Spec Tryz.prog 106 [a.x,b.x] (.bool (decide (a=b))) [.undef,.undef]:=by
 simp only [Inode.sz] at hl
 refine spec_c hmx p_L_eqInode [] 31 [] ⟨Nat.le_of_ble_eq_true rfl,Nat.le_of_ble_eq_true rfl⟩ rfl rfl ?_
 intro w hP hQ
 unfold c_L_eqInode
 simp +decide (maxSteps:=9^9) (disch:=omega) only[↓SB0,SX,seval,hQ]
 (first | with_reducible refine if_d _ ?_ ?_ | refine if_i _ ?_ ?_) <;> intro h0
 rotate_left
 ·simp +decide (maxSteps:=9^9) (disch:=omega) only[↓SB0,SX,seval,hQ]
  rw [decide_eq_false (by rintro rfl; exact h0 rfl)]
 simp +decide (maxSteps:=9^9) (disch:=omega) only[↓SB0,SX,seval,hQ]
 (first | with_reducible refine if_d _ ?_ ?_ | refine if_i _ ?_ ?_) <;> intro h1
 rotate_left
 ·simp +decide (maxSteps:=9^9) (disch:=omega) only[↓SB0,SX,seval,hQ]
  rw [decide_eq_false (by rintro rfl; exact h1 rfl)]
 simp +decide (maxSteps:=9^9) (disch:=omega) only[↓SB0,SX,seval,hQ]
 (first | with_reducible refine if_d _ ?_ ?_ | refine if_i _ ?_ ?_) <;> intro h2
 rotate_left
 ·simp +decide (maxSteps:=9^9) (disch:=omega) only[↓SB0,SX,seval,hQ]
  rw [decide_eq_false (by rintro rfl; exact h2 rfl)]
 simp +decide (maxSteps:=9^9) (disch:=omega) only[↓SB0,SX,seval,hQ]
 (first|refine cI hP (s_eqByteS a.data b.data (by omega)) rfl rfl ?_|refine cH hP (s_eqByteS a.data b.data (by omega)) rfl rfl ?_)
 simp +decide (maxSteps:=9^9) (disch:=omega) only[↓SB0,SX,seval,hQ]
 (first | with_reducible refine if_d _ ?_ ?_ | refine if_i _ ?_ ?_) <;> intro h3
 rotate_left
 ·simp +decide (maxSteps:=9^9) (disch:=omega) only[↓SB0,SX,seval,hQ]
  rw [decide_eq_false (by rintro rfl; exact h3 rfl)]
 simp +decide (maxSteps:=9^9) (disch:=omega) only[↓SB0,SX,seval,hQ]
 (first|refine cI hP (s_eqEntS a.ents b.ents (by omega)) rfl rfl ?_|refine cH hP (s_eqEntS a.ents b.ents (by omega)) rfl rfl ?_)
 simp +decide (maxSteps:=9^9) (disch:=omega) only[↓SB0,SX,seval,hQ]
 (first | with_reducible refine if_d _ ?_ ?_ | refine if_i _ ?_ ?_) <;> intro h4
 rotate_left
 ·simp +decide (maxSteps:=9^9) (disch:=omega) only[↓SB0,SX,seval,hQ]
  rw [decide_eq_false (by rintro rfl; exact h4 rfl)]
 simp +decide (maxSteps:=9^9) (disch:=omega) only[↓SB0,SX,seval,hQ]
 (first|refine cI hP (s_eqAttrS a.attrs b.attrs (by omega)) rfl rfl ?_|refine cH hP (s_eqAttrS a.attrs b.attrs (by omega)) rfl rfl ?_)
 simp +decide (maxSteps:=9^9) (disch:=omega) only[↓SB0,SX,seval,hQ]
 (first | with_reducible refine if_d _ ?_ ?_ | refine if_i _ ?_ ?_) <;> intro h5
 rotate_left
 ·simp +decide (maxSteps:=9^9) (disch:=omega) only[↓SB0,SX,seval,hQ]
  rw [decide_eq_false (by rintro rfl; exact h5 rfl)]
 simp +decide (maxSteps:=9^9) (disch:=omega) only[↓SB0,SX,seval,hQ]
 rw [decide_eq_true (Inode.eq' h0 h1 h2 h3 h4 h5)]
theorem s_eqInodeS (a b:List Inode) (hl:szM Inode.sz a<2^40):Spec Tryz.prog 95 [.ext 6 (a.map Inode.row),.ext 6 (b.map Inode.row)] (.bool (decide (a=b))) [.undef,.undef]:=by
 simp only [szM] at hl
 refine spec_c hmx p_L_eqInodeS [] 51 [] ⟨Nat.le_of_ble_eq_true rfl,Nat.le_of_ble_eq_true rfl⟩ rfl rfl ?_
 intro w hP hQ
 unfold c_L_eqInodeS
 simp +decide (maxSteps:=9^9) (disch:=omega) only[↓SB0,SX,seval,hQ]
 (first | with_reducible refine if_d _ ?_ ?_ | refine if_i _ ?_ ?_) <;> intro h
 rotate_left
 ·simp +decide (maxSteps:=9^9) (disch:=omega) only[↓SB0,SX,seval,hQ]
  rw [decide_eq_false (by rintro rfl; exact h rfl)]
 simp +decide (maxSteps:=9^9) (disch:=omega) only[↓SB0,SX,seval,hQ]
 refine loop_f (fun i:Nat=>[(5,.int .i64 i)]) (fun i=>i≤a.length∧a.take i=b.take i) (fun i=>a.length-i) (0) hP hQ (rfl) (by simp) ?_
 rintro i ⟨hi,hab⟩ w1 hP1 hQ1
 simp +decide (maxSteps:=9^9) (disch:=omega) only[↓SB0,SX,seval,hQ,hQ1]
 (first | with_reducible refine if_d _ ?_ ?_ | refine if_i _ ?_ ?_) <;> intro h1
 ·simp +decide (maxSteps:=9^9) (disch:=omega) only[↓SB0,SX,seval,hQ,hQ1,getE h1,getE (h ▸ h1)]
  (first|refine cI hP1 (s_eqInode (a[i]'(by omega)) (b[i]'(by omega)) (Nat.lt_of_le_of_lt (sum_get Inode.sz _) (by omega))) rfl rfl ?_|refine cH hP1 (s_eqInode (a[i]'(by omega)) (b[i]'(by omega)) (Nat.lt_of_le_of_lt (sum_get Inode.sz _) (by omega))) rfl rfl ?_)
  simp +decide (maxSteps:=9^9) (disch:=omega) only[↓SB0,SX,seval,hQ,hQ1]
  (first | with_reducible refine if_d _ ?_ ?_ | refine if_i _ ?_ ?_) <;> intro h2
  ·simp +decide (maxSteps:=9^9) (disch:=omega) only[↓SB0,SX,seval,hQ,hQ1]
   exact ⟨i+1,rfl,⟨by omega,take_eq_succ hab _ _ h2⟩,by omega⟩
  ·simp +decide (maxSteps:=9^9) (disch:=omega) only[↓SB0,SX,seval,hQ,hQ1]
   rw [decide_eq_false (by rintro rfl; exact h2 rfl)]
 ·simp +decide (maxSteps:=9^9) (disch:=omega) only[↓SB0,SX,seval,hQ,hQ1]
  rw [decide_eq_true (take_all hab (by omega) (by omega))]
theorem s_eqTab (a b:Tab) (hl:a.sz<2^40):Spec Tryz.prog 75 [a.x,b.x] (.bool (decide (a=b))) [.undef,.undef]:=by
 simp only [Tab.sz] at hl
 refine spec_c hmx p_L_eqTab [] 31 [] ⟨Nat.le_of_ble_eq_true rfl,Nat.le_of_ble_eq_true rfl⟩ rfl rfl ?_
 intro w hP hQ
 unfold c_L_eqTab
 simp +decide (maxSteps:=9^9) (disch:=omega) only[↓SB0,SX,seval,hQ]
 (first|refine cI hP (s_eqInodeS a.inodes b.inodes (by omega)) rfl rfl ?_|refine cH hP (s_eqInodeS a.inodes b.inodes (by omega)) rfl rfl ?_)
 simp +decide (maxSteps:=9^9) (disch:=omega) only[↓SB0,SX,seval,hQ]
 (first | with_reducible refine if_d _ ?_ ?_ | refine if_i _ ?_ ?_) <;> intro h0
 rotate_left
 ·simp +decide (maxSteps:=9^9) (disch:=omega) only[↓SB0,SX,seval,hQ]
  rw [decide_eq_false (by rintro rfl; exact h0 rfl)]
 simp +decide (maxSteps:=9^9) (disch:=omega) only[↓SB0,SX,seval,hQ]
 (first | with_reducible refine if_d _ ?_ ?_ | refine if_i _ ?_ ?_) <;> intro h1
 rotate_left
 ·simp +decide (maxSteps:=9^9) (disch:=omega) only[↓SB0,SX,seval,hQ]
  rw [decide_eq_false (by rintro rfl; exact h1 rfl)]
 simp +decide (maxSteps:=9^9) (disch:=omega) only[↓SB0,SX,seval,hQ]
 rw [decide_eq_true (Tab.eq' h0 h1)]
theorem s_eqVol (a b:Vol) (hl:a.sz<2^40):Spec Tryz.prog 58 [a.x,b.x] (.bool (decide (a=b))) [.undef,.undef]:=by
 simp only [Vol.sz] at hl
 refine spec_c hmx p_L_eqVol [] 31 [] ⟨Nat.le_of_ble_eq_true rfl,Nat.le_of_ble_eq_true rfl⟩ rfl rfl ?_
 intro w hP hQ
 unfold c_L_eqVol
 simp +decide (maxSteps:=9^9) (disch:=omega) only[↓SB0,SX,seval,hQ]
 (first | with_reducible refine if_d _ ?_ ?_ | refine if_i _ ?_ ?_) <;> intro h0
 rotate_left
 ·simp +decide (maxSteps:=9^9) (disch:=omega) only[↓SB0,SX,seval,hQ]
  rw [decide_eq_false (by rintro rfl; exact h0 rfl)]
 simp +decide (maxSteps:=9^9) (disch:=omega) only[↓SB0,SX,seval,hQ]
 (first | with_reducible refine if_d _ ?_ ?_ | refine if_i _ ?_ ?_) <;> intro h1
 rotate_left
 ·simp +decide (maxSteps:=9^9) (disch:=omega) only[↓SB0,SX,seval,hQ]
  rw [decide_eq_false (by rintro rfl; exact h1 rfl)]
 simp +decide (maxSteps:=9^9) (disch:=omega) only[↓SB0,SX,seval,hQ]
 (first | with_reducible refine if_d _ ?_ ?_ | refine if_i _ ?_ ?_) <;> intro h2
 rotate_left
 ·simp +decide (maxSteps:=9^9) (disch:=omega) only[↓SB0,SX,seval,hQ]
  rw [decide_eq_false (by rintro rfl; exact h2 rfl)]
 simp +decide (maxSteps:=9^9) (disch:=omega) only[↓SB0,SX,seval,hQ]
 (first | with_reducible refine if_d _ ?_ ?_ | refine if_i _ ?_ ?_) <;> intro h3
 rotate_left
 ·simp +decide (maxSteps:=9^9) (disch:=omega) only[↓SB0,SX,seval,hQ]
  rw [decide_eq_false (by rintro rfl; exact h3 rfl)]
 simp +decide (maxSteps:=9^9) (disch:=omega) only[↓SB0,SX,seval,hQ]
 (first|refine cI hP (s_eqTab a.t b.t (by omega)) rfl rfl ?_|refine cH hP (s_eqTab a.t b.t (by omega)) rfl rfl ?_)
 simp +decide (maxSteps:=9^9) (disch:=omega) only[↓SB0,SX,seval,hQ]
 (first | with_reducible refine if_d _ ?_ ?_ | refine if_i _ ?_ ?_) <;> intro h4
 rotate_left
 ·simp +decide (maxSteps:=9^9) (disch:=omega) only[↓SB0,SX,seval,hQ]
  rw [decide_eq_false (by rintro rfl; exact h4 rfl)]
 simp +decide (maxSteps:=9^9) (disch:=omega) only[↓SB0,SX,seval,hQ]
 rw [decide_eq_true (Vol.eq' h0 h1 h2 h3 h4)]
theorem s_eqVolS (a b:List Vol) (hl:szM Vol.sz a<2^40):Spec Tryz.prog 35 [.ext 6 (a.map Vol.row),.ext 6 (b.map Vol.row)] (.bool (decide (a=b))) [.undef,.undef]:=by
 simp only [szM] at hl
 refine spec_c hmx p_L_eqVolS [] 51 [] ⟨Nat.le_of_ble_eq_true rfl,Nat.le_of_ble_eq_true rfl⟩ rfl rfl ?_
 intro w hP hQ
 unfold c_L_eqVolS
 simp +decide (maxSteps:=9^9) (disch:=omega) only[↓SB0,SX,seval,hQ]
 (first | with_reducible refine if_d _ ?_ ?_ | refine if_i _ ?_ ?_) <;> intro h
 rotate_left
 ·simp +decide (maxSteps:=9^9) (disch:=omega) only[↓SB0,SX,seval,hQ]
  rw [decide_eq_false (by rintro rfl; exact h rfl)]
 simp +decide (maxSteps:=9^9) (disch:=omega) only[↓SB0,SX,seval,hQ]
 refine loop_f (fun i:Nat=>[(5,.int .i64 i)]) (fun i=>i≤a.length∧a.take i=b.take i) (fun i=>a.length-i) (0) hP hQ (rfl) (by simp) ?_
 rintro i ⟨hi,hab⟩ w1 hP1 hQ1
 simp +decide (maxSteps:=9^9) (disch:=omega) only[↓SB0,SX,seval,hQ,hQ1]
 (first | with_reducible refine if_d _ ?_ ?_ | refine if_i _ ?_ ?_) <;> intro h1
 ·simp +decide (maxSteps:=9^9) (disch:=omega) only[↓SB0,SX,seval,hQ,hQ1,getE h1,getE (h ▸ h1)]
  (first|refine cI hP1 (s_eqVol (a[i]'(by omega)) (b[i]'(by omega)) (Nat.lt_of_le_of_lt (sum_get Vol.sz _) (by omega))) rfl rfl ?_|refine cH hP1 (s_eqVol (a[i]'(by omega)) (b[i]'(by omega)) (Nat.lt_of_le_of_lt (sum_get Vol.sz _) (by omega))) rfl rfl ?_)
  simp +decide (maxSteps:=9^9) (disch:=omega) only[↓SB0,SX,seval,hQ,hQ1]
  (first | with_reducible refine if_d _ ?_ ?_ | refine if_i _ ?_ ?_) <;> intro h2
  ·simp +decide (maxSteps:=9^9) (disch:=omega) only[↓SB0,SX,seval,hQ,hQ1]
   exact ⟨i+1,rfl,⟨by omega,take_eq_succ hab _ _ h2⟩,by omega⟩
  ·simp +decide (maxSteps:=9^9) (disch:=omega) only[↓SB0,SX,seval,hQ,hQ1]
   rw [decide_eq_false (by rintro rfl; exact h2 rfl)]
 ·simp +decide (maxSteps:=9^9) (disch:=omega) only[↓SB0,SX,seval,hQ,hQ1]
  rw [decide_eq_true (take_all hab (by omega) (by omega))]
theorem s_eqFs (a b:Fs) (hl:a.sz<2^40):Spec Tryz.prog 12 [a.x,b.x] (.bool (decide (a=b))) [.undef,.undef]:=by
 simp only [Fs.sz] at hl
 refine spec_c hmx p_L_eqFs [] 31 [] ⟨Nat.le_of_ble_eq_true rfl,Nat.le_of_ble_eq_true rfl⟩ rfl rfl ?_
 intro w hP hQ
 unfold c_L_eqFs
 simp +decide (maxSteps:=9^9) (disch:=omega) only[↓SB0,SX,seval,hQ]
 (first|refine cI hP (s_eqVolS a.vols b.vols (by omega)) rfl rfl ?_|refine cH hP (s_eqVolS a.vols b.vols (by omega)) rfl rfl ?_)
 simp +decide (maxSteps:=9^9) (disch:=omega) only[↓SB0,SX,seval,hQ]
 (first | with_reducible refine if_d _ ?_ ?_ | refine if_i _ ?_ ?_) <;> intro h0
 rotate_left
 ·simp +decide (maxSteps:=9^9) (disch:=omega) only[↓SB0,SX,seval,hQ]
  rw [decide_eq_false (by rintro rfl; exact h0 rfl)]
 simp +decide (maxSteps:=9^9) (disch:=omega) only[↓SB0,SX,seval,hQ]
 (first | with_reducible refine if_d _ ?_ ?_ | refine if_i _ ?_ ?_) <;> intro h1
 rotate_left
 ·simp +decide (maxSteps:=9^9) (disch:=omega) only[↓SB0,SX,seval,hQ]
  rw [decide_eq_false (by rintro rfl; exact h1 rfl)]
 simp +decide (maxSteps:=9^9) (disch:=omega) only[↓SB0,SX,seval,hQ]
 rw [decide_eq_true (Fs.eq' h0 h1)]
end Go.Proofs.YtjmnolhflcjpgaaGreat.Awp
namespace Go.Proofs.YtjmnolhflcjpgaaGreat.Awp
open Go.Proofs
set_option linter.unusedSimpArgs false
set_option linter.unusedVariables false
open Nat (reduceEqDiff reduceAdd reduceMul reduceSub)
open Int (reduceNeg reduceToNat reducePow)
set_option maxRecDepth 100000
set_option maxHeartbeats 20000000
theorem s_toEnt (a:Ent) (hl:a.sz<2^40):Spec Tryz.prog 130 [a.x] a.o [.undef]:=by
 simp only [Ent.sz] at hl
 refine spec_c hmx p_L_toEnt [] 15 [] ⟨Nat.le_of_ble_eq_true rfl,Nat.le_of_ble_eq_true rfl⟩ rfl rfl ?_
 intro w hP hQ
 unfold c_L_toEnt
 simp +decide (maxSteps:=9^9) (disch:=omega) only[↓SB0,SX,seval,hQ]
theorem s_toEntS (a:List Ent) (hl:szM Ent.sz a<2^40):Spec Tryz.prog 112 [.ext 2 (a.map Ent.row)] (.own 2 (a.map Ent.row)) [.undef]:=by
 simp only [szM] at hl
 refine spec_c hmx p_L_toEntS [] 29 [] ⟨Nat.le_of_ble_eq_true rfl,Nat.le_of_ble_eq_true rfl⟩ rfl rfl ?_
 intro w hP hQ
 unfold c_L_toEntS
 simp +decide (maxSteps:=9^9) (disch:=omega) only[↓SB0,SX,seval,hQ]
 refine loop_f (fun i:Nat=>[(3,.own 2 (fillR Ent.row Ent.zero a i)),(4,.int .i64 i)]) (fun i=>i≤a.length) (fun i=>a.length-i) (0) hP hQ (by simp +decide (maxSteps:=9^9) (disch:=omega) only[↓SB0,SX,seval,hQ,fillR_0]; rfl) (by omega) ?_
 rintro i hi w1 hP1 hQ1
 simp +decide (maxSteps:=9^9) (disch:=omega) only[↓SB0,SX,seval,hQ,hQ1]
 (first | with_reducible refine if_d _ ?_ ?_ | refine if_i _ ?_ ?_) <;> intro h1
 ·simp +decide (maxSteps:=9^9) (disch:=omega) only[↓SB0,SX,seval,hQ,hQ1,getE h1]
  (first|refine cI hP1 (s_toEnt (a[i]'(by omega)) (Nat.lt_of_le_of_lt (sum_get Ent.sz _) (by omega))) rfl rfl ?_|refine cH hP1 (s_toEnt (a[i]'(by omega)) (Nat.lt_of_le_of_lt (sum_get Ent.sz _) (by omega))) rfl rfl ?_)
  simp +decide (maxSteps:=9^9) (disch:=omega) only[↓SB0,SX,seval,hQ,hQ1]
  rw [fillR_set _ _ _ _ (by omega) _ (by rfl)]
  exact ⟨i+1,rfl,by omega,by omega⟩
 ·simp +decide (maxSteps:=9^9) (disch:=omega) only[↓SB0,SX,seval,hQ,hQ1,fillR_all]
theorem s_toAttr (a:Attr) (hl:a.sz<2^40):Spec Tryz.prog 131 [a.x] a.o [.undef]:=by
 simp only [Attr.sz] at hl
 refine spec_c hmx p_L_toAttr [] 15 [] ⟨Nat.le_of_ble_eq_true rfl,Nat.le_of_ble_eq_true rfl⟩ rfl rfl ?_
 intro w hP hQ
 unfold c_L_toAttr
 simp +decide (maxSteps:=9^9) (disch:=omega) only[↓SB0,SX,seval,hQ]
theorem s_toAttrS (a:List Attr) (hl:szM Attr.sz a<2^40):Spec Tryz.prog 113 [.ext 2 (a.map Attr.row)] (.own 2 (a.map Attr.row)) [.undef]:=by
 simp only [szM] at hl
 refine spec_c hmx p_L_toAttrS [] 29 [] ⟨Nat.le_of_ble_eq_true rfl,Nat.le_of_ble_eq_true rfl⟩ rfl rfl ?_
 intro w hP hQ
 unfold c_L_toAttrS
 simp +decide (maxSteps:=9^9) (disch:=omega) only[↓SB0,SX,seval,hQ]
 refine loop_f (fun i:Nat=>[(3,.own 2 (fillR Attr.row Attr.zero a i)),(4,.int .i64 i)]) (fun i=>i≤a.length) (fun i=>a.length-i) (0) hP hQ (by simp +decide (maxSteps:=9^9) (disch:=omega) only[↓SB0,SX,seval,hQ,fillR_0]; rfl) (by omega) ?_
 rintro i hi w1 hP1 hQ1
 simp +decide (maxSteps:=9^9) (disch:=omega) only[↓SB0,SX,seval,hQ,hQ1]
 (first | with_reducible refine if_d _ ?_ ?_ | refine if_i _ ?_ ?_) <;> intro h1
 ·simp +decide (maxSteps:=9^9) (disch:=omega) only[↓SB0,SX,seval,hQ,hQ1,getE h1]
  (first|refine cI hP1 (s_toAttr (a[i]'(by omega)) (Nat.lt_of_le_of_lt (sum_get Attr.sz _) (by omega))) rfl rfl ?_|refine cH hP1 (s_toAttr (a[i]'(by omega)) (Nat.lt_of_le_of_lt (sum_get Attr.sz _) (by omega))) rfl rfl ?_)
  simp +decide (maxSteps:=9^9) (disch:=omega) only[↓SB0,SX,seval,hQ,hQ1]
  rw [fillR_set _ _ _ _ (by omega) _ (by rfl)]
  exact ⟨i+1,rfl,by omega,by omega⟩
 ·simp +decide (maxSteps:=9^9) (disch:=omega) only[↓SB0,SX,seval,hQ,hQ1,fillR_all]
theorem s_toInode (a:Inode) (hl:a.sz<2^40):Spec Tryz.prog 101 [a.x] a.o [.undef]:=by
 simp only [Inode.sz] at hl
 refine spec_c hmx p_L_toInode [] 15 [] ⟨Nat.le_of_ble_eq_true rfl,Nat.le_of_ble_eq_true rfl⟩ rfl rfl ?_
 intro w hP hQ
 unfold c_L_toInode
 simp +decide (maxSteps:=9^9) (disch:=omega) only[↓SB0,SX,seval,hQ]
 (first|refine cI hP (s_toByteS a.data (by omega)) rfl rfl ?_|refine cH hP (s_toByteS a.data (by omega)) rfl rfl ?_)
 simp +decide (maxSteps:=9^9) (disch:=omega) only[↓SB0,SX,seval,hQ]
 (first|refine cI hP (s_toEntS a.ents (by omega)) rfl rfl ?_|refine cH hP (s_toEntS a.ents (by omega)) rfl rfl ?_)
 simp +decide (maxSteps:=9^9) (disch:=omega) only[↓SB0,SX,seval,hQ]
 (first|refine cI hP (s_toAttrS a.attrs (by omega)) rfl rfl ?_|refine cH hP (s_toAttrS a.attrs (by omega)) rfl rfl ?_)
 simp +decide (maxSteps:=9^9) (disch:=omega) only[↓SB0,SX,seval,hQ]
theorem s_toInodeS (a:List Inode) (hl:szM Inode.sz a<2^40):Spec Tryz.prog 85 [.ext 6 (a.map Inode.row)] (.own 6 (a.map Inode.row)) [.undef]:=by
 simp only [szM] at hl
 refine spec_c hmx p_L_toInodeS [] 29 [] ⟨Nat.le_of_ble_eq_true rfl,Nat.le_of_ble_eq_true rfl⟩ rfl rfl ?_
 intro w hP hQ
 unfold c_L_toInodeS
 simp +decide (maxSteps:=9^9) (disch:=omega) only[↓SB0,SX,seval,hQ]
 refine loop_f (fun i:Nat=>[(3,.own 6 (fillR Inode.row Inode.zero a i)),(4,.int .i64 i)]) (fun i=>i≤a.length) (fun i=>a.length-i) (0) hP hQ (by simp +decide (maxSteps:=9^9) (disch:=omega) only[↓SB0,SX,seval,hQ,fillR_0]; rfl) (by omega) ?_
 rintro i hi w1 hP1 hQ1
 simp +decide (maxSteps:=9^9) (disch:=omega) only[↓SB0,SX,seval,hQ,hQ1]
 (first | with_reducible refine if_d _ ?_ ?_ | refine if_i _ ?_ ?_) <;> intro h1
 ·simp +decide (maxSteps:=9^9) (disch:=omega) only[↓SB0,SX,seval,hQ,hQ1,getE h1]
  (first|refine cI hP1 (s_toInode (a[i]'(by omega)) (Nat.lt_of_le_of_lt (sum_get Inode.sz _) (by omega))) rfl rfl ?_|refine cH hP1 (s_toInode (a[i]'(by omega)) (Nat.lt_of_le_of_lt (sum_get Inode.sz _) (by omega))) rfl rfl ?_)
  simp +decide (maxSteps:=9^9) (disch:=omega) only[↓SB0,SX,seval,hQ,hQ1]
  rw [fillR_set _ _ _ _ (by omega) _ (by rfl)]
  exact ⟨i+1,rfl,by omega,by omega⟩
 ·simp +decide (maxSteps:=9^9) (disch:=omega) only[↓SB0,SX,seval,hQ,hQ1,fillR_all]
theorem s_toTab (a:Tab) (hl:a.sz<2^40):Spec Tryz.prog 68 [a.x] a.o [.undef]:=by
 simp only [Tab.sz] at hl
 refine spec_c hmx p_L_toTab [] 15 [] ⟨Nat.le_of_ble_eq_true rfl,Nat.le_of_ble_eq_true rfl⟩ rfl rfl ?_
 intro w hP hQ
 unfold c_L_toTab
 simp +decide (maxSteps:=9^9) (disch:=omega) only[↓SB0,SX,seval,hQ]
 (first|refine cI hP (s_toInodeS a.inodes (by omega)) rfl rfl ?_|refine cH hP (s_toInodeS a.inodes (by omega)) rfl rfl ?_)
 simp +decide (maxSteps:=9^9) (disch:=omega) only[↓SB0,SX,seval,hQ]
theorem s_toVol (a:Vol) (hl:a.sz<2^40):Spec Tryz.prog 51 [a.x] a.o [.undef]:=by
 simp only [Vol.sz] at hl
 refine spec_c hmx p_L_toVol [] 15 [] ⟨Nat.le_of_ble_eq_true rfl,Nat.le_of_ble_eq_true rfl⟩ rfl rfl ?_
 intro w hP hQ
 unfold c_L_toVol
 simp +decide (maxSteps:=9^9) (disch:=omega) only[↓SB0,SX,seval,hQ]
 (first|refine cI hP (s_toTab a.t (by omega)) rfl rfl ?_|refine cH hP (s_toTab a.t (by omega)) rfl rfl ?_)
 simp +decide (maxSteps:=9^9) (disch:=omega) only[↓SB0,SX,seval,hQ]
theorem s_toVolS (a:List Vol) (hl:szM Vol.sz a<2^40):Spec Tryz.prog 29 [.ext 6 (a.map Vol.row)] (.own 6 (a.map Vol.row)) [.undef]:=by
 simp only [szM] at hl
 refine spec_c hmx p_L_toVolS [] 29 [] ⟨Nat.le_of_ble_eq_true rfl,Nat.le_of_ble_eq_true rfl⟩ rfl rfl ?_
 intro w hP hQ
 unfold c_L_toVolS
 simp +decide (maxSteps:=9^9) (disch:=omega) only[↓SB0,SX,seval,hQ]
 refine loop_f (fun i:Nat=>[(3,.own 6 (fillR Vol.row Vol.zero a i)),(4,.int .i64 i)]) (fun i=>i≤a.length) (fun i=>a.length-i) (0) hP hQ (by simp +decide (maxSteps:=9^9) (disch:=omega) only[↓SB0,SX,seval,hQ,fillR_0]; rfl) (by omega) ?_
 rintro i hi w1 hP1 hQ1
 simp +decide (maxSteps:=9^9) (disch:=omega) only[↓SB0,SX,seval,hQ,hQ1]
 (first | with_reducible refine if_d _ ?_ ?_ | refine if_i _ ?_ ?_) <;> intro h1
 ·simp +decide (maxSteps:=9^9) (disch:=omega) only[↓SB0,SX,seval,hQ,hQ1,getE h1]
  (first|refine cI hP1 (s_toVol (a[i]'(by omega)) (Nat.lt_of_le_of_lt (sum_get Vol.sz _) (by omega))) rfl rfl ?_|refine cH hP1 (s_toVol (a[i]'(by omega)) (Nat.lt_of_le_of_lt (sum_get Vol.sz _) (by omega))) rfl rfl ?_)
  simp +decide (maxSteps:=9^9) (disch:=omega) only[↓SB0,SX,seval,hQ,hQ1]
  rw [fillR_set _ _ _ _ (by omega) _ (by rfl)]
  exact ⟨i+1,rfl,by omega,by omega⟩
 ·simp +decide (maxSteps:=9^9) (disch:=omega) only[↓SB0,SX,seval,hQ,hQ1,fillR_all]
theorem s_toFs (a:Fs) (hl:a.sz<2^40):Spec Tryz.prog 10 [a.x] a.o [.undef]:=by
 simp only [Fs.sz] at hl
 refine spec_c hmx p_L_toFs [] 15 [] ⟨Nat.le_of_ble_eq_true rfl,Nat.le_of_ble_eq_true rfl⟩ rfl rfl ?_
 intro w hP hQ
 unfold c_L_toFs
 simp +decide (maxSteps:=9^9) (disch:=omega) only[↓SB0,SX,seval,hQ]
 (first|refine cI hP (s_toVolS a.vols (by omega)) rfl rfl ?_|refine cH hP (s_toVolS a.vols (by omega)) rfl rfl ?_)
 simp +decide (maxSteps:=9^9) (disch:=omega) only[↓SB0,SX,seval,hQ]
end Go.Proofs.YtjmnolhflcjpgaaGreat.Awp
namespace Go.Proofs.YtjmnolhflcjpgaaGreat.Awp
open Go.Proofs
set_option linter.unusedSimpArgs false
set_option linter.unusedVariables false
open Nat (reduceEqDiff reduceAdd reduceMul reduceSub)
open Int (reduceNeg reduceToNat reducePow)
set_option maxRecDepth 100000
set_option maxHeartbeats 20000000
theorem s_szEnt (a:Ent) (left:Int) (hf:a.fine) (h0:0≤left) (hl:left<2^40) :
  Spec Tryz.prog 128 [a.x,.int .i64 left] (.int .i64 (szC left a.sz)) [.undef,.undef]:=by
 have hsz:a.sz=a.name.length:=rfl
 simp only [Ent.fine] at hf
 have hf0:=hf
 refine spec_c hmx p_L_szEnt [] 23 [] ⟨Nat.le_of_ble_eq_true rfl,Nat.le_of_ble_eq_true rfl⟩ rfl rfl ?_
 intro w hP hQ
 unfold c_L_szEnt
 simp +decide (maxSteps:=9^9) (disch:=omega) only[↓SB0,SX,seval,hQ]
 (first | with_reducible refine if_d _ ?_ ?_ | refine if_i _ ?_ ?_) <;> intro g0
 ·simp +decide (maxSteps:=9^9) (disch:=omega) only[↓SB0,SX,seval,hQ]
  rw [szC_lt (by omega)]
 simp +decide (maxSteps:=9^9) (disch:=omega) only[↓SB0,SX,seval,hQ]
 rw [szC_ge (by omega)]
 simp only [hsz,Int.natCast_add,Int.sub_sub,Int.add_assoc]
theorem s_szEntS (a:List Ent) (left:Int) (hf:a.length<2^48) (hf':∀ x ∈ a,x.fine) (h0:0≤left) (hl:left<2^40) :
  Spec Tryz.prog 108 [.ext 2 (a.map Ent.row),.int .i64 left] (.int .i64 (szC left (szM Ent.sz a))) [.undef,.undef]:=by
 have hsz:szM Ent.sz a=a.length+(a.map Ent.sz).sum:=rfl
 refine spec_c hmx p_L_szEntS [] 51 [] ⟨Nat.le_of_ble_eq_true rfl,Nat.le_of_ble_eq_true rfl⟩ rfl rfl ?_
 intro w hP hQ
 unfold c_L_szEntS
 simp +decide (maxSteps:=9^9) (disch:=omega) only[↓SB0,SX,seval,hQ]
 (first | with_reducible refine if_d _ ?_ ?_ | refine if_i _ ?_ ?_) <;> intro h
 ·simp +decide (maxSteps:=9^9) (disch:=omega) only[↓SB0,SX,seval,hQ]
  rw [szC_lt (by omega)]
 simp +decide (maxSteps:=9^9) (disch:=omega) only[↓SB0,SX,seval,hQ]
 refine loop_f (fun s:Nat × Int=>[(1,.int .i64 s.2),(5,.int .i64 s.1)]) (fun s=>s.1≤a.length∧0≤s.2∧s.2=left-a.length-((a.take s.1).map Ent.sz).sum) (fun s=>a.length-s.1) ((0,left-a.length)) hP hQ (rfl) (by simp; omega) ?_
 rintro ⟨i,c⟩ ⟨hi,h0',hc⟩ w1 hP1 hQ1
 simp +decide (maxSteps:=9^9) (disch:=omega) only[↓SB0,SX,seval,hQ,hQ1]
 simp only at hi h0' hc
 (first | with_reducible refine if_d _ ?_ ?_ | refine if_i _ ?_ ?_) <;> intro h1
 ·have hs:=sum_take Ent.sz a i (by omega)
  have hs':=sum_take_le Ent.sz a (i+1)
  simp +decide (maxSteps:=9^9) (disch:=omega) only[↓SB0,SX,seval,hQ,hQ1,getE h1]
  by_cases g:c<((a[i].sz:Nat):Int)
  ·(first|refine cI hP1 (s_szEnt a[i] c (hf' _ (List.getElem_mem _)) (by omega) (by omega)) rfl rfl ?_|refine cH hP1 (s_szEnt a[i] c (hf' _ (List.getElem_mem _)) (by omega) (by omega)) rfl rfl ?_)
   simp +decide (maxSteps:=9^9) (disch:=omega) only[↓SB0,SX,seval,hQ,hQ1,szC_lt g]
   rw [szC_lt (by omega)]
  ·(first|refine cI hP1 (s_szEnt a[i] c (hf' _ (List.getElem_mem _)) (by omega) (by omega)) rfl rfl ?_|refine cH hP1 (s_szEnt a[i] c (hf' _ (List.getElem_mem _)) (by omega) (by omega)) rfl rfl ?_)
   simp +decide (maxSteps:=9^9) (disch:=omega) only[↓SB0,SX,seval,hQ,hQ1,szC_ge g]
   (first | with_reducible refine if_d _ ?_ ?_ | refine if_i _ ?_ ?_) <;> intro k
   ·exfalso; omega
   simp +decide (maxSteps:=9^9) (disch:=omega) only[↓SB0,SX,seval,hQ,hQ1]
   exact ⟨(i+1,c-a[i].sz),rfl,⟨by simp only; omega,by simp only; omega,by simp only; omega⟩,by simp only; omega⟩
 ·obtain rfl:i=a.length:=by omega
  rw [List.take_length] at hc
  simp +decide (maxSteps:=9^9) (disch:=omega) only[↓SB0,SX,seval,hQ,hQ1]
  rw [szC_ge (by omega)]
  simp only [hsz,hc,Int.natCast_add,Int.sub_sub,Int.add_assoc]
theorem s_szAttr (a:Attr) (left:Int) (hf:a.fine) (h0:0≤left) (hl:left<2^40) :
  Spec Tryz.prog 129 [a.x,.int .i64 left] (.int .i64 (szC left a.sz)) [.undef,.undef]:=by
 have hsz:a.sz=a.name.length+a.val.length:=rfl
 simp only [Attr.fine] at hf
 obtain ⟨hf0,hf1⟩:=hf
 refine spec_c hmx p_L_szAttr [] 23 [] ⟨Nat.le_of_ble_eq_true rfl,Nat.le_of_ble_eq_true rfl⟩ rfl rfl ?_
 intro w hP hQ
 unfold c_L_szAttr
 simp +decide (maxSteps:=9^9) (disch:=omega) only[↓SB0,SX,seval,hQ]
 (first | with_reducible refine if_d _ ?_ ?_ | refine if_i _ ?_ ?_) <;> intro g0
 ·simp +decide (maxSteps:=9^9) (disch:=omega) only[↓SB0,SX,seval,hQ]
  rw [szC_lt (by omega)]
 simp +decide (maxSteps:=9^9) (disch:=omega) only[↓SB0,SX,seval,hQ]
 (first | with_reducible refine if_d _ ?_ ?_ | refine if_i _ ?_ ?_) <;> intro g1
 ·simp +decide (maxSteps:=9^9) (disch:=omega) only[↓SB0,SX,seval,hQ]
  rw [szC_lt (by omega)]
 simp +decide (maxSteps:=9^9) (disch:=omega) only[↓SB0,SX,seval,hQ]
 rw [szC_ge (by omega)]
 simp only [hsz,Int.natCast_add,Int.sub_sub,Int.add_assoc]
theorem s_szAttrS (a:List Attr) (left:Int) (hf:a.length<2^48) (hf':∀ x ∈ a,x.fine) (h0:0≤left) (hl:left<2^40) :
  Spec Tryz.prog 109 [.ext 2 (a.map Attr.row),.int .i64 left] (.int .i64 (szC left (szM Attr.sz a))) [.undef,.undef]:=by
 have hsz:szM Attr.sz a=a.length+(a.map Attr.sz).sum:=rfl
 refine spec_c hmx p_L_szAttrS [] 51 [] ⟨Nat.le_of_ble_eq_true rfl,Nat.le_of_ble_eq_true rfl⟩ rfl rfl ?_
 intro w hP hQ
 unfold c_L_szAttrS
 simp +decide (maxSteps:=9^9) (disch:=omega) only[↓SB0,SX,seval,hQ]
 (first | with_reducible refine if_d _ ?_ ?_ | refine if_i _ ?_ ?_) <;> intro h
 ·simp +decide (maxSteps:=9^9) (disch:=omega) only[↓SB0,SX,seval,hQ]
  rw [szC_lt (by omega)]
 simp +decide (maxSteps:=9^9) (disch:=omega) only[↓SB0,SX,seval,hQ]
 refine loop_f (fun s:Nat × Int=>[(1,.int .i64 s.2),(5,.int .i64 s.1)]) (fun s=>s.1≤a.length∧0≤s.2∧s.2=left-a.length-((a.take s.1).map Attr.sz).sum) (fun s=>a.length-s.1) ((0,left-a.length)) hP hQ (rfl) (by simp; omega) ?_
 rintro ⟨i,c⟩ ⟨hi,h0',hc⟩ w1 hP1 hQ1
 simp +decide (maxSteps:=9^9) (disch:=omega) only[↓SB0,SX,seval,hQ,hQ1]
 simp only at hi h0' hc
 (first | with_reducible refine if_d _ ?_ ?_ | refine if_i _ ?_ ?_) <;> intro h1
 ·have hs:=sum_take Attr.sz a i (by omega)
  have hs':=sum_take_le Attr.sz a (i+1)
  simp +decide (maxSteps:=9^9) (disch:=omega) only[↓SB0,SX,seval,hQ,hQ1,getE h1]
  by_cases g:c<((a[i].sz:Nat):Int)
  ·(first|refine cI hP1 (s_szAttr a[i] c (hf' _ (List.getElem_mem _)) (by omega) (by omega)) rfl rfl ?_|refine cH hP1 (s_szAttr a[i] c (hf' _ (List.getElem_mem _)) (by omega) (by omega)) rfl rfl ?_)
   simp +decide (maxSteps:=9^9) (disch:=omega) only[↓SB0,SX,seval,hQ,hQ1,szC_lt g]
   rw [szC_lt (by omega)]
  ·(first|refine cI hP1 (s_szAttr a[i] c (hf' _ (List.getElem_mem _)) (by omega) (by omega)) rfl rfl ?_|refine cH hP1 (s_szAttr a[i] c (hf' _ (List.getElem_mem _)) (by omega) (by omega)) rfl rfl ?_)
   simp +decide (maxSteps:=9^9) (disch:=omega) only[↓SB0,SX,seval,hQ,hQ1,szC_ge g]
   (first | with_reducible refine if_d _ ?_ ?_ | refine if_i _ ?_ ?_) <;> intro k
   ·exfalso; omega
   simp +decide (maxSteps:=9^9) (disch:=omega) only[↓SB0,SX,seval,hQ,hQ1]
   exact ⟨(i+1,c-a[i].sz),rfl,⟨by simp only; omega,by simp only; omega,by simp only; omega⟩,by simp only; omega⟩
 ·obtain rfl:i=a.length:=by omega
  rw [List.take_length] at hc
  simp +decide (maxSteps:=9^9) (disch:=omega) only[↓SB0,SX,seval,hQ,hQ1]
  rw [szC_ge (by omega)]
  simp only [hsz,hc,Int.natCast_add,Int.sub_sub,Int.add_assoc]
theorem s_szInode (a:Inode) (left:Int) (hf:a.fine) (h0:0≤left) (hl:left<2^40) :
  Spec Tryz.prog 96 [a.x,.int .i64 left] (.int .i64 (szC left a.sz)) [.undef,.undef]:=by
 have hsz:a.sz=a.data.length+szM Ent.sz a.ents+szM Attr.sz a.attrs:=rfl
 simp only [Inode.fine] at hf
 obtain ⟨hf0,hf1,hf2⟩:=hf
 refine spec_c hmx p_L_szInode [] 23 [] ⟨Nat.le_of_ble_eq_true rfl,Nat.le_of_ble_eq_true rfl⟩ rfl rfl ?_
 intro w hP hQ
 unfold c_L_szInode
 simp +decide (maxSteps:=9^9) (disch:=omega) only[↓SB0,SX,seval,hQ]
 by_cases g0:left<((a.data.length:Nat):Int)
 ·(first|refine cI hP (s_szByteS a.data (left) hf0 (by omega) (by omega)) rfl rfl ?_|refine cH hP (s_szByteS a.data (left) hf0 (by omega) (by omega)) rfl rfl ?_)
  simp +decide (maxSteps:=9^9) (disch:=omega) only[↓SB0,SX,seval,hQ,szC_lt g0]
  rw [szC_lt (by omega)]
 (first|refine cI hP (s_szByteS a.data (left) hf0 (by omega) (by omega)) rfl rfl ?_|refine cH hP (s_szByteS a.data (left) hf0 (by omega) (by omega)) rfl rfl ?_)
 simp +decide (maxSteps:=9^9) (disch:=omega) only[↓SB0,SX,seval,hQ,szC_ge g0]
 (first | with_reducible refine if_d _ ?_ ?_ | refine if_i _ ?_ ?_) <;> intro k0
 ·exfalso; omega
 simp +decide (maxSteps:=9^9) (disch:=omega) only[↓SB0,SX,seval,hQ]
 by_cases g1:left-((a.data.length:Nat):Int)<((szM Ent.sz a.ents:Nat):Int)
 ·(first|refine cI hP (s_szEntS a.ents (left-((a.data.length:Nat):Int)) hf1.1 hf1.2 (by omega) (by omega)) rfl rfl ?_|refine cH hP (s_szEntS a.ents (left-((a.data.length:Nat):Int)) hf1.1 hf1.2 (by omega) (by omega)) rfl rfl ?_)
  simp +decide (maxSteps:=9^9) (disch:=omega) only[↓SB0,SX,seval,hQ,szC_lt g1]
  rw [szC_lt (by omega)]
 (first|refine cI hP (s_szEntS a.ents (left-((a.data.length:Nat):Int)) hf1.1 hf1.2 (by omega) (by omega)) rfl rfl ?_|refine cH hP (s_szEntS a.ents (left-((a.data.length:Nat):Int)) hf1.1 hf1.2 (by omega) (by omega)) rfl rfl ?_)
 simp +decide (maxSteps:=9^9) (disch:=omega) only[↓SB0,SX,seval,hQ,szC_ge g1]
 (first | with_reducible refine if_d _ ?_ ?_ | refine if_i _ ?_ ?_) <;> intro k1
 ·exfalso; omega
 simp +decide (maxSteps:=9^9) (disch:=omega) only[↓SB0,SX,seval,hQ]
 by_cases g2:left-((a.data.length:Nat):Int)-((szM Ent.sz a.ents:Nat):Int)<((szM Attr.sz a.attrs:Nat):Int)
 ·(first|refine cI hP (s_szAttrS a.attrs (left-((a.data.length:Nat):Int)-((szM Ent.sz a.ents:Nat):Int)) hf2.1 hf2.2 (by omega) (by omega)) rfl rfl ?_|refine cH hP (s_szAttrS a.attrs (left-((a.data.length:Nat):Int)-((szM Ent.sz a.ents:Nat):Int)) hf2.1 hf2.2 (by omega) (by omega)) rfl rfl ?_)
  simp +decide (maxSteps:=9^9) (disch:=omega) only[↓SB0,SX,seval,hQ,szC_lt g2]
  rw [szC_lt (by omega)]
 (first|refine cI hP (s_szAttrS a.attrs (left-((a.data.length:Nat):Int)-((szM Ent.sz a.ents:Nat):Int)) hf2.1 hf2.2 (by omega) (by omega)) rfl rfl ?_|refine cH hP (s_szAttrS a.attrs (left-((a.data.length:Nat):Int)-((szM Ent.sz a.ents:Nat):Int)) hf2.1 hf2.2 (by omega) (by omega)) rfl rfl ?_)
 simp +decide (maxSteps:=9^9) (disch:=omega) only[↓SB0,SX,seval,hQ,szC_ge g2]
 (first | with_reducible refine if_d _ ?_ ?_ | refine if_i _ ?_ ?_) <;> intro k2
 ·exfalso; omega
 simp +decide (maxSteps:=9^9) (disch:=omega) only[↓SB0,SX,seval,hQ]
 rw [szC_ge (by omega)]
 simp only [hsz,Int.natCast_add,Int.sub_sub,Int.add_assoc]
theorem s_szInodeS (a:List Inode) (left:Int) (hf:a.length<2^48) (hf':∀ x ∈ a,x.fine) (h0:0≤left) (hl:left<2^40) :
  Spec Tryz.prog 82 [.ext 6 (a.map Inode.row),.int .i64 left] (.int .i64 (szC left (szM Inode.sz a))) [.undef,.undef]:=by
 have hsz:szM Inode.sz a=a.length+(a.map Inode.sz).sum:=rfl
 refine spec_c hmx p_L_szInodeS [] 51 [] ⟨Nat.le_of_ble_eq_true rfl,Nat.le_of_ble_eq_true rfl⟩ rfl rfl ?_
 intro w hP hQ
 unfold c_L_szInodeS
 simp +decide (maxSteps:=9^9) (disch:=omega) only[↓SB0,SX,seval,hQ]
 (first | with_reducible refine if_d _ ?_ ?_ | refine if_i _ ?_ ?_) <;> intro h
 ·simp +decide (maxSteps:=9^9) (disch:=omega) only[↓SB0,SX,seval,hQ]
  rw [szC_lt (by omega)]
 simp +decide (maxSteps:=9^9) (disch:=omega) only[↓SB0,SX,seval,hQ]
 refine loop_f (fun s:Nat × Int=>[(1,.int .i64 s.2),(5,.int .i64 s.1)]) (fun s=>s.1≤a.length∧0≤s.2∧s.2=left-a.length-((a.take s.1).map Inode.sz).sum) (fun s=>a.length-s.1) ((0,left-a.length)) hP hQ (rfl) (by simp; omega) ?_
 rintro ⟨i,c⟩ ⟨hi,h0',hc⟩ w1 hP1 hQ1
 simp +decide (maxSteps:=9^9) (disch:=omega) only[↓SB0,SX,seval,hQ,hQ1]
 simp only at hi h0' hc
 (first | with_reducible refine if_d _ ?_ ?_ | refine if_i _ ?_ ?_) <;> intro h1
 ·have hs:=sum_take Inode.sz a i (by omega)
  have hs':=sum_take_le Inode.sz a (i+1)
  simp +decide (maxSteps:=9^9) (disch:=omega) only[↓SB0,SX,seval,hQ,hQ1,getE h1]
  by_cases g:c<((a[i].sz:Nat):Int)
  ·(first|refine cI hP1 (s_szInode a[i] c (hf' _ (List.getElem_mem _)) (by omega) (by omega)) rfl rfl ?_|refine cH hP1 (s_szInode a[i] c (hf' _ (List.getElem_mem _)) (by omega) (by omega)) rfl rfl ?_)
   simp +decide (maxSteps:=9^9) (disch:=omega) only[↓SB0,SX,seval,hQ,hQ1,szC_lt g]
   rw [szC_lt (by omega)]
  ·(first|refine cI hP1 (s_szInode a[i] c (hf' _ (List.getElem_mem _)) (by omega) (by omega)) rfl rfl ?_|refine cH hP1 (s_szInode a[i] c (hf' _ (List.getElem_mem _)) (by omega) (by omega)) rfl rfl ?_)
   simp +decide (maxSteps:=9^9) (disch:=omega) only[↓SB0,SX,seval,hQ,hQ1,szC_ge g]
   (first | with_reducible refine if_d _ ?_ ?_ | refine if_i _ ?_ ?_) <;> intro k
   ·exfalso; omega
   simp +decide (maxSteps:=9^9) (disch:=omega) only[↓SB0,SX,seval,hQ,hQ1]
   exact ⟨(i+1,c-a[i].sz),rfl,⟨by simp only; omega,by simp only; omega,by simp only; omega⟩,by simp only; omega⟩
 ·obtain rfl:i=a.length:=by omega
  rw [List.take_length] at hc
  simp +decide (maxSteps:=9^9) (disch:=omega) only[↓SB0,SX,seval,hQ,hQ1]
  rw [szC_ge (by omega)]
  simp only [hsz,hc,Int.natCast_add,Int.sub_sub,Int.add_assoc]
theorem s_szTab (a:Tab) (left:Int) (hf:a.fine) (h0:0≤left) (hl:left<2^40) :
  Spec Tryz.prog 62 [a.x,.int .i64 left] (.int .i64 (szC left a.sz)) [.undef,.undef]:=by
 have hsz:a.sz=szM Inode.sz a.inodes:=rfl
 simp only [Tab.fine] at hf
 have hf0:=hf
 refine spec_c hmx p_L_szTab [] 23 [] ⟨Nat.le_of_ble_eq_true rfl,Nat.le_of_ble_eq_true rfl⟩ rfl rfl ?_
 intro w hP hQ
 unfold c_L_szTab
 simp +decide (maxSteps:=9^9) (disch:=omega) only[↓SB0,SX,seval,hQ]
 by_cases g0:left<((szM Inode.sz a.inodes:Nat):Int)
 ·(first|refine cI hP (s_szInodeS a.inodes (left) hf0.1 hf0.2 (by omega) (by omega)) rfl rfl ?_|refine cH hP (s_szInodeS a.inodes (left) hf0.1 hf0.2 (by omega) (by omega)) rfl rfl ?_)
  simp +decide (maxSteps:=9^9) (disch:=omega) only[↓SB0,SX,seval,hQ,szC_lt g0]
  rw [szC_lt (by omega)]
 (first|refine cI hP (s_szInodeS a.inodes (left) hf0.1 hf0.2 (by omega) (by omega)) rfl rfl ?_|refine cH hP (s_szInodeS a.inodes (left) hf0.1 hf0.2 (by omega) (by omega)) rfl rfl ?_)
 simp +decide (maxSteps:=9^9) (disch:=omega) only[↓SB0,SX,seval,hQ,szC_ge g0]
 (first | with_reducible refine if_d _ ?_ ?_ | refine if_i _ ?_ ?_) <;> intro k0
 ·exfalso; omega
 simp +decide (maxSteps:=9^9) (disch:=omega) only[↓SB0,SX,seval,hQ]
 rw [szC_ge (by omega)]
 simp only [hsz,Int.natCast_add,Int.sub_sub,Int.add_assoc]
theorem s_szVol (a:Vol) (left:Int) (hf:a.fine) (h0:0≤left) (hl:left<2^40) :
  Spec Tryz.prog 47 [a.x,.int .i64 left] (.int .i64 (szC left a.sz)) [.undef,.undef]:=by
 have hsz:a.sz=a.name.length+a.t.sz:=rfl
 simp only [Vol.fine] at hf
 obtain ⟨hf0,hf1⟩:=hf
 refine spec_c hmx p_L_szVol [] 23 [] ⟨Nat.le_of_ble_eq_true rfl,Nat.le_of_ble_eq_true rfl⟩ rfl rfl ?_
 intro w hP hQ
 unfold c_L_szVol
 simp +decide (maxSteps:=9^9) (disch:=omega) only[↓SB0,SX,seval,hQ]
 (first | with_reducible refine if_d _ ?_ ?_ | refine if_i _ ?_ ?_) <;> intro g0
 ·simp +decide (maxSteps:=9^9) (disch:=omega) only[↓SB0,SX,seval,hQ]
  rw [szC_lt (by omega)]
 simp +decide (maxSteps:=9^9) (disch:=omega) only[↓SB0,SX,seval,hQ]
 by_cases g1:left-((a.name.length:Nat):Int)<((a.t.sz:Nat):Int)
 ·(first|refine cI hP (s_szTab a.t (left-((a.name.length:Nat):Int)) hf1 (by omega) (by omega)) rfl rfl ?_|refine cH hP (s_szTab a.t (left-((a.name.length:Nat):Int)) hf1 (by omega) (by omega)) rfl rfl ?_)
  simp +decide (maxSteps:=9^9) (disch:=omega) only[↓SB0,SX,seval,hQ,szC_lt g1]
  rw [szC_lt (by omega)]
 (first|refine cI hP (s_szTab a.t (left-((a.name.length:Nat):Int)) hf1 (by omega) (by omega)) rfl rfl ?_|refine cH hP (s_szTab a.t (left-((a.name.length:Nat):Int)) hf1 (by omega) (by omega)) rfl rfl ?_)
 simp +decide (maxSteps:=9^9) (disch:=omega) only[↓SB0,SX,seval,hQ,szC_ge g1]
 (first | with_reducible refine if_d _ ?_ ?_ | refine if_i _ ?_ ?_) <;> intro k1
 ·exfalso; omega
 simp +decide (maxSteps:=9^9) (disch:=omega) only[↓SB0,SX,seval,hQ]
 rw [szC_ge (by omega)]
 simp only [hsz,Int.natCast_add,Int.sub_sub,Int.add_assoc]
theorem s_szVolS (a:List Vol) (left:Int) (hf:a.length<2^48) (hf':∀ x ∈ a,x.fine) (h0:0≤left) (hl:left<2^40) :
  Spec Tryz.prog 23 [.ext 6 (a.map Vol.row),.int .i64 left] (.int .i64 (szC left (szM Vol.sz a))) [.undef,.undef]:=by
 have hsz:szM Vol.sz a=a.length+(a.map Vol.sz).sum:=rfl
 refine spec_c hmx p_L_szVolS [] 51 [] ⟨Nat.le_of_ble_eq_true rfl,Nat.le_of_ble_eq_true rfl⟩ rfl rfl ?_
 intro w hP hQ
 unfold c_L_szVolS
 simp +decide (maxSteps:=9^9) (disch:=omega) only[↓SB0,SX,seval,hQ]
 (first | with_reducible refine if_d _ ?_ ?_ | refine if_i _ ?_ ?_) <;> intro h
 ·simp +decide (maxSteps:=9^9) (disch:=omega) only[↓SB0,SX,seval,hQ]
  rw [szC_lt (by omega)]
 simp +decide (maxSteps:=9^9) (disch:=omega) only[↓SB0,SX,seval,hQ]
 refine loop_f (fun s:Nat × Int=>[(1,.int .i64 s.2),(5,.int .i64 s.1)]) (fun s=>s.1≤a.length∧0≤s.2∧s.2=left-a.length-((a.take s.1).map Vol.sz).sum) (fun s=>a.length-s.1) ((0,left-a.length)) hP hQ (rfl) (by simp; omega) ?_
 rintro ⟨i,c⟩ ⟨hi,h0',hc⟩ w1 hP1 hQ1
 simp +decide (maxSteps:=9^9) (disch:=omega) only[↓SB0,SX,seval,hQ,hQ1]
 simp only at hi h0' hc
 (first | with_reducible refine if_d _ ?_ ?_ | refine if_i _ ?_ ?_) <;> intro h1
 ·have hs:=sum_take Vol.sz a i (by omega)
  have hs':=sum_take_le Vol.sz a (i+1)
  simp +decide (maxSteps:=9^9) (disch:=omega) only[↓SB0,SX,seval,hQ,hQ1,getE h1]
  by_cases g:c<((a[i].sz:Nat):Int)
  ·(first|refine cI hP1 (s_szVol a[i] c (hf' _ (List.getElem_mem _)) (by omega) (by omega)) rfl rfl ?_|refine cH hP1 (s_szVol a[i] c (hf' _ (List.getElem_mem _)) (by omega) (by omega)) rfl rfl ?_)
   simp +decide (maxSteps:=9^9) (disch:=omega) only[↓SB0,SX,seval,hQ,hQ1,szC_lt g]
   rw [szC_lt (by omega)]
  ·(first|refine cI hP1 (s_szVol a[i] c (hf' _ (List.getElem_mem _)) (by omega) (by omega)) rfl rfl ?_|refine cH hP1 (s_szVol a[i] c (hf' _ (List.getElem_mem _)) (by omega) (by omega)) rfl rfl ?_)
   simp +decide (maxSteps:=9^9) (disch:=omega) only[↓SB0,SX,seval,hQ,hQ1,szC_ge g]
   (first | with_reducible refine if_d _ ?_ ?_ | refine if_i _ ?_ ?_) <;> intro k
   ·exfalso; omega
   simp +decide (maxSteps:=9^9) (disch:=omega) only[↓SB0,SX,seval,hQ,hQ1]
   exact ⟨(i+1,c-a[i].sz),rfl,⟨by simp only; omega,by simp only; omega,by simp only; omega⟩,by simp only; omega⟩
 ·obtain rfl:i=a.length:=by omega
  rw [List.take_length] at hc
  simp +decide (maxSteps:=9^9) (disch:=omega) only[↓SB0,SX,seval,hQ,hQ1]
  rw [szC_ge (by omega)]
  simp only [hsz,hc,Int.natCast_add,Int.sub_sub,Int.add_assoc]
theorem s_szFs (a:Fs) (left:Int) (hf:a.fine) (h0:0≤left) (hl:left<2^40) :
  Spec Tryz.prog 8 [a.x,.int .i64 left] (.int .i64 (szC left a.sz)) [.undef,.undef]:=by
 have hsz:a.sz=szM Vol.sz a.vols:=rfl
 simp only [Fs.fine] at hf
 have hf0:=hf
 refine spec_c hmx p_L_szFs [] 23 [] ⟨Nat.le_of_ble_eq_true rfl,Nat.le_of_ble_eq_true rfl⟩ rfl rfl ?_
 intro w hP hQ
 unfold c_L_szFs
 simp +decide (maxSteps:=9^9) (disch:=omega) only[↓SB0,SX,seval,hQ]
 by_cases g0:left<((szM Vol.sz a.vols:Nat):Int)
 ·(first|refine cI hP (s_szVolS a.vols (left) hf0.1 hf0.2 (by omega) (by omega)) rfl rfl ?_|refine cH hP (s_szVolS a.vols (left) hf0.1 hf0.2 (by omega) (by omega)) rfl rfl ?_)
  simp +decide (maxSteps:=9^9) (disch:=omega) only[↓SB0,SX,seval,hQ,szC_lt g0]
  rw [szC_lt (by omega)]
 (first|refine cI hP (s_szVolS a.vols (left) hf0.1 hf0.2 (by omega) (by omega)) rfl rfl ?_|refine cH hP (s_szVolS a.vols (left) hf0.1 hf0.2 (by omega) (by omega)) rfl rfl ?_)
 simp +decide (maxSteps:=9^9) (disch:=omega) only[↓SB0,SX,seval,hQ,szC_ge g0]
 (first | with_reducible refine if_d _ ?_ ?_ | refine if_i _ ?_ ?_) <;> intro k0
 ·exfalso; omega
 simp +decide (maxSteps:=9^9) (disch:=omega) only[↓SB0,SX,seval,hQ]
 rw [szC_ge (by omega)]
 simp only [hsz,Int.natCast_add,Int.sub_sub,Int.add_assoc]
end Go.Proofs.YtjmnolhflcjpgaaGreat.Awp
namespace Go.Proofs.YtjmnolhflcjpgaaGreat.Awp
open Go.Proofs
set_option linter.unusedSimpArgs false
set_option linter.unusedVariables false
open Nat (reduceEqDiff reduceAdd reduceMul reduceSub)
open Int (reduceNeg reduceToNat reducePow)
set_option maxRecDepth 100000
set_option maxHeartbeats 20000000
theorem digB_0:digB 0=[]:=by rw [digB]; simp
theorem digB_pos {n:Nat} (h:0<n):digB n=digB (n/10)++[UInt8.ofNat (48+n%10)]:=by rw [digB,dif_neg (by omega)]
theorem digB_len (n:Nat):(digB n).length≤n:=by
 induction n using Nat.strongRecOn with
 | _ n ih=>
  by_cases h:n=0
  ·subst h; rw [digB_0]; simp
  ·rw [digB_pos (by omega),List.length_append]
   have:=ih (n/10) (by omega)
   simp only [List.length_cons,List.length_nil]; omega
theorem rb2 (m:Nat):rowsBytes [[.int .u8 (48+((m%10:Nat):Int))]]=some [UInt8.ofNat (48+m%10)]:=by
 have:(48+((m%10:Nat):Int)).toNat=48+m%10:=by omega
 simp only [rowsBytes,rowByte,this,Option.bind_some,Option.map_some]
theorem s_markText (k:Int) (h0:0≤k) (hl:k<2^40):Spec Tryz.prog 59 [.int .i64 k] (.str (markText k)) [.undef]:=by
 obtain ⟨n,rfl⟩:∃ n:Nat,k=n:=⟨k.toNat,by omega⟩
 have hn:n<2^40:=by omega
 refine spec_c hmx p_L_markText [] 13 [] ⟨Nat.le_of_ble_eq_true rfl,Nat.le_of_ble_eq_true rfl⟩ rfl rfl ?_
 intro w hP hQ
 unfold c_L_markText
 simp +decide (maxSteps:=9^9) (disch:=omega) only[↓SB0,SX,seval,hQ]
 (first | with_reducible refine if_d _ ?_ ?_ | refine if_i _ ?_ ?_) <;> intro h
 ·have:n=0:=by omega
  subst this
  simp +decide (maxSteps:=9^9) (disch:=omega) only[↓SB0,SX,seval,hQ]
  rfl
 ·simp +decide (maxSteps:=9^9) (disch:=omega) only[↓SB0,SX,seval,hQ]
  refine LH_D [] ?_
  simp +decide (maxSteps:=9^9) (disch:=omega) only[↓SB0,SX,seval,hQ]
  refine loop_e [] (fun s:Nat × Bytes=>[(0,.int .i64 s.1),(3,.str s.2)]) (fun s=>digB n=digB s.1++s.2∧s.1<2^40) (fun s=>s.1) ((n,[])) hP hQ (rfl) (by simp; exact hn) ?_
  rintro ⟨m,s⟩ ⟨hd,hm⟩ w1 hP1 hQ1
  simp +decide (maxSteps:=9^9) (disch:=omega) only[↓SB0,SX,seval,hQ,hQ1]
  simp only at hd hm
  have hlen:s.length≤n:=by
   have:=digB_len n
   rw [hd,List.length_append] at this
   omega
  (first | with_reducible refine if_d _ ?_ ?_ | refine if_i _ ?_ ?_) <;> intro h1
  ·have e1:((m:Int).tmod 10)=((m%10:Nat):Int):=rfl
   have e2:((m:Int).tdiv 10)=((m/10:Nat):Int):=rfl
   simp +decide (maxSteps:=9^9) (disch:=omega) only[↓SB0,SX,seval,hQ,hQ1,e1,e2,rb2]
   exact ⟨(m/10,UInt8.ofNat (48+m%10)::s),rfl,⟨by rw [hd,digB_pos (by omega)]; simp,by simp only; omega⟩,by simp only; omega⟩
  ·obtain rfl:m=0:=by omega
   rw [digB_0,List.nil_append] at hd
   simp +decide (maxSteps:=9^9) (disch:=omega) only[↓SB0,SX,seval,hQ,hQ1]
   rw [markText,if_neg (by omega),Int.toNat_natCast,hd]
end Go.Proofs.YtjmnolhflcjpgaaGreat.Awp
namespace Go.Proofs.YtjmnolhflcjpgaaGreat.Awp
open Go.Proofs
set_option linter.unusedSimpArgs false
set_option linter.unusedVariables false
open Nat (reduceEqDiff reduceAdd reduceMul reduceSub)
open Int (reduceNeg reduceToNat reducePow)
set_option maxRecDepth 100000
set_option maxHeartbeats 20000000
theorem s_markEntS (a:List Ent) (k:Int) (h0:0≤k) (hl:k+(cntM Ent.cnt a:Nat)<2^40):Spec Tryz.prog 77 [.own 2 (a.map Ent.row),.int .i64 k] (.int .i64 (k+(cntM Ent.cnt a:Nat))) [.own 2 ((markL Ent.marked Ent.cnt a k).map Ent.row),.undef]:=by
 simp only [cntM] at hl
 have hlen:=cnt_len Ent.cnt Ent.cnt1 a
 refine spec_c hmx p_L_markEntS [] 51 [true,false] ⟨Nat.le_of_ble_eq_true rfl,Nat.le_of_ble_eq_true rfl⟩ rfl rfl ?_
 intro w hP hQ
 unfold c_L_markEntS
 simp +decide (maxSteps:=9^9) (disch:=omega) only[↓SB0,SX,seval,hQ]
 refine loop_f (fun s:Nat × Int=>[(1000,.own 2 (mixR Ent.row Ent.marked Ent.cnt a k s.1)),(1,.int .i64 s.2),(5,.int .i64 s.1)]) (fun s=>s.1≤a.length∧s.2=k+((a.take s.1).map Ent.cnt).sum) (fun s=>a.length-s.1) ((0,k)) hP hQ (by simp +decide (maxSteps:=9^9) (disch:=omega) only[↓SB0,SX,seval,hQ,mixR_0]) (by simp) ?_
 rintro ⟨i,c⟩ ⟨hi,hc⟩ w1 hP1 hQ1
 simp +decide (maxSteps:=9^9) (disch:=omega) only[↓SB0,SX,seval,hQ,hQ1]
 simp only at hi hc
 (first | with_reducible refine if_d _ ?_ ?_ | refine if_i _ ?_ ?_) <;> intro h1
 ·have hs:=sum_take Ent.cnt a i (by omega)
  have hs':=sum_take_le Ent.cnt a (i+1)
  have hn:a[i].cnt=1+1:=rfl
  simp +decide (maxSteps:=9^9) (disch:=omega) only[↓SB0,SX,seval,hQ,hQ1,getE h1]
  (first|refine cI hP1 (s_markText (c) (by omega) (by omega)) rfl rfl ?_|refine cH hP1 (s_markText (c) (by omega) (by omega)) rfl rfl ?_)
  simp +decide (maxSteps:=9^9) (disch:=omega) only[↓SB0,SX,seval,hQ,hQ1,getE h1]
  rw [mixR_set _ _ _ _ _ _ (by omega) _ (by subst hc; rfl)]
  exact ⟨(i+1,c+1+1),rfl,⟨by simp only; omega,by simp only; omega⟩,by simp only; omega⟩
 ·obtain rfl:i=a.length:=by omega
  rw [List.take_length] at hc
  simp +decide (maxSteps:=9^9) (disch:=omega) only[↓SB0,SX,seval,hQ,hQ1,mixR_all,hc,cntM]
theorem s_markAttrS (a:List Attr) (k:Int) (h0:0≤k) (hl:k+(cntM Attr.cnt a:Nat)<2^40):Spec Tryz.prog 78 [.own 2 (a.map Attr.row),.int .i64 k] (.int .i64 (k+(cntM Attr.cnt a:Nat))) [.own 2 ((markL Attr.marked Attr.cnt a k).map Attr.row),.undef]:=by
 simp only [cntM] at hl
 have hlen:=cnt_len Attr.cnt Attr.cnt1 a
 refine spec_c hmx p_L_markAttrS [] 51 [true,false] ⟨Nat.le_of_ble_eq_true rfl,Nat.le_of_ble_eq_true rfl⟩ rfl rfl ?_
 intro w hP hQ
 unfold c_L_markAttrS
 simp +decide (maxSteps:=9^9) (disch:=omega) only[↓SB0,SX,seval,hQ]
 refine loop_f (fun s:Nat × Int=>[(1000,.own 2 (mixR Attr.row Attr.marked Attr.cnt a k s.1)),(1,.int .i64 s.2),(5,.int .i64 s.1)]) (fun s=>s.1≤a.length∧s.2=k+((a.take s.1).map Attr.cnt).sum) (fun s=>a.length-s.1) ((0,k)) hP hQ (by simp +decide (maxSteps:=9^9) (disch:=omega) only[↓SB0,SX,seval,hQ,mixR_0]) (by simp) ?_
 rintro ⟨i,c⟩ ⟨hi,hc⟩ w1 hP1 hQ1
 simp +decide (maxSteps:=9^9) (disch:=omega) only[↓SB0,SX,seval,hQ,hQ1]
 simp only at hi hc
 (first | with_reducible refine if_d _ ?_ ?_ | refine if_i _ ?_ ?_) <;> intro h1
 ·have hs:=sum_take Attr.cnt a i (by omega)
  have hs':=sum_take_le Attr.cnt a (i+1)
  have hn:a[i].cnt=1+1:=rfl
  simp +decide (maxSteps:=9^9) (disch:=omega) only[↓SB0,SX,seval,hQ,hQ1,getE h1]
  (first|refine cI hP1 (s_markText (c) (by omega) (by omega)) rfl rfl ?_|refine cH hP1 (s_markText (c) (by omega) (by omega)) rfl rfl ?_)
  simp +decide (maxSteps:=9^9) (disch:=omega) only[↓SB0,SX,seval,hQ,hQ1,getE h1]
  (first|refine cI hP1 (s_markText (c+1) (by omega) (by omega)) rfl rfl ?_|refine cH hP1 (s_markText (c+1) (by omega) (by omega)) rfl rfl ?_)
  simp +decide (maxSteps:=9^9) (disch:=omega) only[↓SB0,SX,seval,hQ,hQ1,getE h1]
  rw [mixR_set _ _ _ _ _ _ (by omega) _ (by subst hc; rfl)]
  exact ⟨(i+1,c+1+1),rfl,⟨by simp only; omega,by simp only; omega⟩,by simp only; omega⟩
 ·obtain rfl:i=a.length:=by omega
  rw [List.take_length] at hc
  simp +decide (maxSteps:=9^9) (disch:=omega) only[↓SB0,SX,seval,hQ,hQ1,mixR_all,hc,cntM]
theorem s_markInodeS (a:List Inode) (k:Int) (h0:0≤k) (hl:k+(cntM Inode.cnt a:Nat)<2^40):Spec Tryz.prog 60 [.own 6 (a.map Inode.row),.int .i64 k] (.int .i64 (k+(cntM Inode.cnt a:Nat))) [.own 6 ((markL Inode.marked Inode.cnt a k).map Inode.row),.undef]:=by
 simp only [cntM] at hl
 have hlen:=cnt_len Inode.cnt Inode.cnt1 a
 refine spec_c hmx p_L_markInodeS [(76,[.l,.b],[]),(77,[.l,.b],[]),(78,[.l,.b],[])] 51 [true,false] ⟨Nat.le_of_ble_eq_true rfl,Nat.le_of_ble_eq_true rfl⟩ rfl rfl ?_
 intro w hP hQ
 unfold c_L_markInodeS
 simp +decide (maxSteps:=9^9) (disch:=omega) only[↓SB0,SX,seval,hQ]
 refine loop_f (fun s:Nat × Int=>[(1000,.own 6 (mixR Inode.row Inode.marked Inode.cnt a k s.1)),(1,.int .i64 s.2),(5,.int .i64 s.1)]) (fun s=>s.1≤a.length∧s.2=k+((a.take s.1).map Inode.cnt).sum) (fun s=>a.length-s.1) ((0,k)) hP hQ (by simp +decide (maxSteps:=9^9) (disch:=omega) only[↓SB0,SX,seval,hQ,mixR_0]) (by simp) ?_
 rintro ⟨i,c⟩ ⟨hi,hc⟩ w1 hP1 hQ1
 simp +decide (maxSteps:=9^9) (disch:=omega) only[↓SB0,SX,seval,hQ,hQ1]
 simp only at hi hc
 (first | with_reducible refine if_d _ ?_ ?_ | refine if_i _ ?_ ?_) <;> intro h1
 ·have hs:=sum_take Inode.cnt a i (by omega)
  have hs':=sum_take_le Inode.cnt a (i+1)
  have hn:a[i].cnt=1+1+1+a[i].data.length+cntM Ent.cnt a[i].ents+cntM Attr.cnt a[i].attrs:=rfl
  simp +decide (maxSteps:=9^9) (disch:=omega) only[↓SB0,SX,seval,hQ,hQ1,getE h1]
  (first|refine cI hP1 (s_markByteS a[i].data (c+1+1+1) (by omega) (by omega)) rfl rfl ?_|refine cH hP1 (s_markByteS a[i].data (c+1+1+1) (by omega) (by omega)) rfl rfl ?_)
  simp +decide (maxSteps:=9^9) (disch:=omega) only[↓SB0,SX,seval,hQ,hQ1,getE h1]
  (first|refine cI hP1 (s_markEntS a[i].ents (c+1+1+1+(a[i].data.length:Nat)) (by omega) (by omega)) rfl rfl ?_|refine cH hP1 (s_markEntS a[i].ents (c+1+1+1+(a[i].data.length:Nat)) (by omega) (by omega)) rfl rfl ?_)
  simp +decide (maxSteps:=9^9) (disch:=omega) only[↓SB0,SX,seval,hQ,hQ1,getE h1]
  (first|refine cI hP1 (s_markAttrS a[i].attrs (c+1+1+1+(a[i].data.length:Nat)+(cntM Ent.cnt a[i].ents:Nat)) (by omega) (by omega)) rfl rfl ?_|refine cH hP1 (s_markAttrS a[i].attrs (c+1+1+1+(a[i].data.length:Nat)+(cntM Ent.cnt a[i].ents:Nat)) (by omega) (by omega)) rfl rfl ?_)
  simp +decide (maxSteps:=9^9) (disch:=omega) only[↓SB0,SX,seval,hQ,hQ1,getE h1]
  rw [mixR_set _ _ _ _ _ _ (by omega) _ (by subst hc; rfl)]
  exact ⟨(i+1,c+1+1+1+(a[i].data.length:Nat)+(cntM Ent.cnt a[i].ents:Nat)+(cntM Attr.cnt a[i].attrs:Nat)),rfl,⟨by simp only; omega,by simp only; omega⟩,by simp only; omega⟩
 ·obtain rfl:i=a.length:=by omega
  rw [List.take_length] at hc
  simp +decide (maxSteps:=9^9) (disch:=omega) only[↓SB0,SX,seval,hQ,hQ1,mixR_all,hc,cntM]
theorem s_markVolS (a:List Vol) (k:Int) (h0:0≤k) (hl:k+(cntM Vol.cnt a:Nat)<2^40):Spec Tryz.prog 36 [.own 6 (a.map Vol.row),.int .i64 k] (.int .i64 (k+(cntM Vol.cnt a:Nat))) [.own 6 ((markL Vol.marked Vol.cnt a k).map Vol.row),.undef]:=by
 simp only [cntM] at hl
 have hlen:=cnt_len Vol.cnt Vol.cnt1 a
 refine spec_c hmx p_L_markVolS [(60,[.l,.b],[])] 51 [true,false] ⟨Nat.le_of_ble_eq_true rfl,Nat.le_of_ble_eq_true rfl⟩ rfl rfl ?_
 intro w hP hQ
 unfold c_L_markVolS
 simp +decide (maxSteps:=9^9) (disch:=omega) only[↓SB0,SX,seval,hQ]
 refine loop_f (fun s:Nat × Int=>[(1000,.own 6 (mixR Vol.row Vol.marked Vol.cnt a k s.1)),(1,.int .i64 s.2),(5,.int .i64 s.1)]) (fun s=>s.1≤a.length∧s.2=k+((a.take s.1).map Vol.cnt).sum) (fun s=>a.length-s.1) ((0,k)) hP hQ (by simp +decide (maxSteps:=9^9) (disch:=omega) only[↓SB0,SX,seval,hQ,mixR_0]) (by simp) ?_
 rintro ⟨i,c⟩ ⟨hi,hc⟩ w1 hP1 hQ1
 simp +decide (maxSteps:=9^9) (disch:=omega) only[↓SB0,SX,seval,hQ,hQ1]
 simp only at hi hc
 (first | with_reducible refine if_d _ ?_ ?_ | refine if_i _ ?_ ?_) <;> intro h1
 ·have hs:=sum_take Vol.cnt a i (by omega)
  have hs':=sum_take_le Vol.cnt a (i+1)
  have hn:a[i].cnt=1+1+1+1+cntM Inode.cnt a[i].t.inodes+1:=rfl
  simp +decide (maxSteps:=9^9) (disch:=omega) only[↓SB0,SX,seval,hQ,hQ1,getE h1]
  (first|refine cI hP1 (s_markText (c+1) (by omega) (by omega)) rfl rfl ?_|refine cH hP1 (s_markText (c+1) (by omega) (by omega)) rfl rfl ?_)
  simp +decide (maxSteps:=9^9) (disch:=omega) only[↓SB0,SX,seval,hQ,hQ1,getE h1]
  (first|refine cI hP1 (s_markInodeS a[i].t.inodes (c+1+1+1+1) (by omega) (by omega)) rfl rfl ?_|refine cH hP1 (s_markInodeS a[i].t.inodes (c+1+1+1+1) (by omega) (by omega)) rfl rfl ?_)
  simp +decide (maxSteps:=9^9) (disch:=omega) only[↓SB0,SX,seval,hQ,hQ1,getE h1]
  rw [mixR_set _ _ _ _ _ _ (by omega) _ (by subst hc; rfl)]
  exact ⟨(i+1,c+1+1+1+1+(cntM Inode.cnt a[i].t.inodes:Nat)+1),rfl,⟨by simp only; omega,by simp only; omega⟩,by simp only; omega⟩
 ·obtain rfl:i=a.length:=by omega
  rw [List.take_length] at hc
  simp +decide (maxSteps:=9^9) (disch:=omega) only[↓SB0,SX,seval,hQ,hQ1,mixR_all,hc,cntM]
theorem s_markFs (a:Fs) (k:Int) (h0:0≤k) (hl:k+(a.cntT:Nat)<2^40):Spec Tryz.prog 13 [a.o,.int .i64 k] (.int .i64 (k+(a.cntT:Nat))) [(a.markT k).o,.undef]:=by
 simp only [Fs.cntT] at hl
 refine spec_c hmx p_L_markFs [(36,[.l,.b],[])] 23 [true,false] ⟨Nat.le_of_ble_eq_true rfl,Nat.le_of_ble_eq_true rfl⟩ rfl rfl ?_
 intro w hP hQ
 unfold c_L_markFs
 simp +decide (maxSteps:=9^9) (disch:=omega) only[↓SB0,SX,seval,hQ]
 (first|refine cI hP (s_markVolS a.vols (k) (by omega) (by omega)) rfl rfl ?_|refine cH hP (s_markVolS a.vols (k) (by omega) (by omega)) rfl rfl ?_)
 simp +decide (maxSteps:=9^9) (disch:=omega) only[↓SB0,SX,seval,hQ]
 exact ⟨by simp only [Fs.cntT,Int.natCast_add,Int.add_assoc],rfl⟩
end Go.Proofs.YtjmnolhflcjpgaaGreat.Awp
namespace Go.Proofs.YtjmnolhflcjpgaaGreat.Awp
open Go.Proofs
set_option linter.unusedSimpArgs false
set_option linter.unusedVariables false
open Nat (reduceEqDiff reduceAdd reduceMul reduceSub)
open Int (reduceNeg reduceToNat reducePow)
set_option maxRecDepth 100000
set_option maxHeartbeats 20000000
theorem s_heldEntS (a:List Ent) (k:Int) (h0:0≤k) (hl:k+(cntM Ent.cnt a:Nat)<2^40):Spec Tryz.prog 80 [.ext 2 ((markL Ent.marked Ent.cnt a k).map Ent.row),.int .i64 k] (.int .i64 (k+(cntM Ent.cnt a:Nat))) [.undef,.undef]:=by
 simp only [cntM] at hl
 have hlen:=cnt_len Ent.cnt Ent.cnt1 a
 refine spec_c hmx p_L_heldEntS [] 51 [] ⟨Nat.le_of_ble_eq_true rfl,Nat.le_of_ble_eq_true rfl⟩ rfl rfl ?_
 intro w hP hQ
 unfold c_L_heldEntS
 simp +decide (maxSteps:=9^9) (disch:=omega) only[↓SB0,SX,seval,hQ]
 refine loop_f (fun s:Nat × Int=>[(1,.int .i64 s.2),(5,.int .i64 s.1)]) (fun s=>s.1≤a.length∧s.2=k+((a.take s.1).map Ent.cnt).sum) (fun s=>a.length-s.1) ((0,k)) hP hQ (by simp +decide (maxSteps:=9^9) (disch:=omega) only[↓SB0,SX,seval,hQ]) (by simp) ?_
 rintro ⟨i,c⟩ ⟨hi,hc⟩ w1 hP1 hQ1
 simp +decide (maxSteps:=9^9) (disch:=omega) only[↓SB0,SX,seval,hQ,hQ1]
 simp only at hi hc
 (first | with_reducible refine if_d _ ?_ ?_ | refine if_i _ ?_ ?_) <;> intro h1
 ·have hs:=sum_take Ent.cnt a i (by omega)
  have hs':=sum_take_le Ent.cnt a (i+1)
  have hn:a[i].cnt=1+1:=rfl
  simp +decide (maxSteps:=9^9) (disch:=omega) only[↓SB0,SX,seval,hQ,hQ1,getE h1,← hc,Ent.marked]
  (first|refine cI hP1 (s_markText (c) (by omega) (by omega)) rfl rfl ?_|refine cH hP1 (s_markText (c) (by omega) (by omega)) rfl rfl ?_)
  simp +decide (maxSteps:=9^9) (disch:=omega) only[↓SB0,SX,seval,hQ,hQ1,getE h1,← hc,Ent.marked]
  exact ⟨(i+1,c+1+1),rfl,⟨by simp only; omega,by simp only; omega⟩,by simp only; omega⟩
 ·obtain rfl:i=a.length:=by omega
  rw [List.take_length] at hc
  simp +decide (maxSteps:=9^9) (disch:=omega) only[↓SB0,SX,seval,hQ,hQ1,hc,cntM]
theorem s_heldAttrS (a:List Attr) (k:Int) (h0:0≤k) (hl:k+(cntM Attr.cnt a:Nat)<2^40):Spec Tryz.prog 81 [.ext 2 ((markL Attr.marked Attr.cnt a k).map Attr.row),.int .i64 k] (.int .i64 (k+(cntM Attr.cnt a:Nat))) [.undef,.undef]:=by
 simp only [cntM] at hl
 have hlen:=cnt_len Attr.cnt Attr.cnt1 a
 refine spec_c hmx p_L_heldAttrS [] 51 [] ⟨Nat.le_of_ble_eq_true rfl,Nat.le_of_ble_eq_true rfl⟩ rfl rfl ?_
 intro w hP hQ
 unfold c_L_heldAttrS
 simp +decide (maxSteps:=9^9) (disch:=omega) only[↓SB0,SX,seval,hQ]
 refine loop_f (fun s:Nat × Int=>[(1,.int .i64 s.2),(5,.int .i64 s.1)]) (fun s=>s.1≤a.length∧s.2=k+((a.take s.1).map Attr.cnt).sum) (fun s=>a.length-s.1) ((0,k)) hP hQ (by simp +decide (maxSteps:=9^9) (disch:=omega) only[↓SB0,SX,seval,hQ]) (by simp) ?_
 rintro ⟨i,c⟩ ⟨hi,hc⟩ w1 hP1 hQ1
 simp +decide (maxSteps:=9^9) (disch:=omega) only[↓SB0,SX,seval,hQ,hQ1]
 simp only at hi hc
 (first | with_reducible refine if_d _ ?_ ?_ | refine if_i _ ?_ ?_) <;> intro h1
 ·have hs:=sum_take Attr.cnt a i (by omega)
  have hs':=sum_take_le Attr.cnt a (i+1)
  have hn:a[i].cnt=1+1:=rfl
  simp +decide (maxSteps:=9^9) (disch:=omega) only[↓SB0,SX,seval,hQ,hQ1,getE h1,← hc,Attr.marked]
  (first|refine cI hP1 (s_markText (c) (by omega) (by omega)) rfl rfl ?_|refine cH hP1 (s_markText (c) (by omega) (by omega)) rfl rfl ?_)
  simp +decide (maxSteps:=9^9) (disch:=omega) only[↓SB0,SX,seval,hQ,hQ1,getE h1,← hc,Attr.marked]
  (first|refine cI hP1 (s_markText (c+1) (by omega) (by omega)) rfl rfl ?_|refine cH hP1 (s_markText (c+1) (by omega) (by omega)) rfl rfl ?_)
  simp +decide (maxSteps:=9^9) (disch:=omega) only[↓SB0,SX,seval,hQ,hQ1,getE h1,← hc,Attr.marked]
  exact ⟨(i+1,c+1+1),rfl,⟨by simp only; omega,by simp only; omega⟩,by simp only; omega⟩
 ·obtain rfl:i=a.length:=by omega
  rw [List.take_length] at hc
  simp +decide (maxSteps:=9^9) (disch:=omega) only[↓SB0,SX,seval,hQ,hQ1,hc,cntM]
theorem s_heldInodeS (a:List Inode) (k:Int) (h0:0≤k) (hl:k+(cntM Inode.cnt a:Nat)<2^40):Spec Tryz.prog 61 [.ext 6 ((markL Inode.marked Inode.cnt a k).map Inode.row),.int .i64 k] (.int .i64 (k+(cntM Inode.cnt a:Nat))) [.undef,.undef]:=by
 simp only [cntM] at hl
 have hlen:=cnt_len Inode.cnt Inode.cnt1 a
 refine spec_c hmx p_L_heldInodeS [] 51 [] ⟨Nat.le_of_ble_eq_true rfl,Nat.le_of_ble_eq_true rfl⟩ rfl rfl ?_
 intro w hP hQ
 unfold c_L_heldInodeS
 simp +decide (maxSteps:=9^9) (disch:=omega) only[↓SB0,SX,seval,hQ]
 refine loop_f (fun s:Nat × Int=>[(1,.int .i64 s.2),(5,.int .i64 s.1)]) (fun s=>s.1≤a.length∧s.2=k+((a.take s.1).map Inode.cnt).sum) (fun s=>a.length-s.1) ((0,k)) hP hQ (by simp +decide (maxSteps:=9^9) (disch:=omega) only[↓SB0,SX,seval,hQ]) (by simp) ?_
 rintro ⟨i,c⟩ ⟨hi,hc⟩ w1 hP1 hQ1
 simp +decide (maxSteps:=9^9) (disch:=omega) only[↓SB0,SX,seval,hQ,hQ1]
 simp only at hi hc
 (first | with_reducible refine if_d _ ?_ ?_ | refine if_i _ ?_ ?_) <;> intro h1
 ·have hs:=sum_take Inode.cnt a i (by omega)
  have hs':=sum_take_le Inode.cnt a (i+1)
  have hn:a[i].cnt=1+1+1+a[i].data.length+cntM Ent.cnt a[i].ents+cntM Attr.cnt a[i].attrs:=rfl
  simp +decide (maxSteps:=9^9) (disch:=omega) only[↓SB0,SX,seval,hQ,hQ1,getE h1,← hc,Inode.marked]
  (first|refine cI hP1 (s_heldByteS a[i].data (c+1+1+1) (by omega) (by omega)) rfl rfl ?_|refine cH hP1 (s_heldByteS a[i].data (c+1+1+1) (by omega) (by omega)) rfl rfl ?_)
  simp +decide (maxSteps:=9^9) (disch:=omega) only[↓SB0,SX,seval,hQ,hQ1,getE h1,← hc,Inode.marked]
  (first | with_reducible refine if_d _ ?_ ?_ | refine if_i _ ?_ ?_) <;> intro g
  ·exfalso; omega
  simp +decide (maxSteps:=9^9) (disch:=omega) only[↓SB0,SX,seval,hQ,hQ1,getE h1,← hc,Inode.marked]
  (first|refine cI hP1 (s_heldEntS a[i].ents (c+1+1+1+(a[i].data.length:Nat)) (by omega) (by omega)) rfl rfl ?_|refine cH hP1 (s_heldEntS a[i].ents (c+1+1+1+(a[i].data.length:Nat)) (by omega) (by omega)) rfl rfl ?_)
  simp +decide (maxSteps:=9^9) (disch:=omega) only[↓SB0,SX,seval,hQ,hQ1,getE h1,← hc,Inode.marked]
  (first | with_reducible refine if_d _ ?_ ?_ | refine if_i _ ?_ ?_) <;> intro g
  ·exfalso; omega
  simp +decide (maxSteps:=9^9) (disch:=omega) only[↓SB0,SX,seval,hQ,hQ1,getE h1,← hc,Inode.marked]
  (first|refine cI hP1 (s_heldAttrS a[i].attrs (c+1+1+1+(a[i].data.length:Nat)+(cntM Ent.cnt a[i].ents:Nat)) (by omega) (by omega)) rfl rfl ?_|refine cH hP1 (s_heldAttrS a[i].attrs (c+1+1+1+(a[i].data.length:Nat)+(cntM Ent.cnt a[i].ents:Nat)) (by omega) (by omega)) rfl rfl ?_)
  simp +decide (maxSteps:=9^9) (disch:=omega) only[↓SB0,SX,seval,hQ,hQ1,getE h1,← hc,Inode.marked]
  (first | with_reducible refine if_d _ ?_ ?_ | refine if_i _ ?_ ?_) <;> intro g
  ·exfalso; omega
  simp +decide (maxSteps:=9^9) (disch:=omega) only[↓SB0,SX,seval,hQ,hQ1,getE h1,← hc,Inode.marked]
  exact ⟨(i+1,c+1+1+1+(a[i].data.length:Nat)+(cntM Ent.cnt a[i].ents:Nat)+(cntM Attr.cnt a[i].attrs:Nat)),rfl,⟨by simp only; omega,by simp only; omega⟩,by simp only; omega⟩
 ·obtain rfl:i=a.length:=by omega
  rw [List.take_length] at hc
  simp +decide (maxSteps:=9^9) (disch:=omega) only[↓SB0,SX,seval,hQ,hQ1,hc,cntM]
theorem s_heldVolS (a:List Vol) (k:Int) (h0:0≤k) (hl:k+(cntM Vol.cnt a:Nat)<2^40):Spec Tryz.prog 37 [.ext 6 ((markL Vol.marked Vol.cnt a k).map Vol.row),.int .i64 k] (.int .i64 (k+(cntM Vol.cnt a:Nat))) [.undef,.undef]:=by
 simp only [cntM] at hl
 have hlen:=cnt_len Vol.cnt Vol.cnt1 a
 refine spec_c hmx p_L_heldVolS [] 51 [] ⟨Nat.le_of_ble_eq_true rfl,Nat.le_of_ble_eq_true rfl⟩ rfl rfl ?_
 intro w hP hQ
 unfold c_L_heldVolS
 simp +decide (maxSteps:=9^9) (disch:=omega) only[↓SB0,SX,seval,hQ]
 refine loop_f (fun s:Nat × Int=>[(1,.int .i64 s.2),(5,.int .i64 s.1)]) (fun s=>s.1≤a.length∧s.2=k+((a.take s.1).map Vol.cnt).sum) (fun s=>a.length-s.1) ((0,k)) hP hQ (by simp +decide (maxSteps:=9^9) (disch:=omega) only[↓SB0,SX,seval,hQ]) (by simp) ?_
 rintro ⟨i,c⟩ ⟨hi,hc⟩ w1 hP1 hQ1
 simp +decide (maxSteps:=9^9) (disch:=omega) only[↓SB0,SX,seval,hQ,hQ1]
 simp only at hi hc
 (first | with_reducible refine if_d _ ?_ ?_ | refine if_i _ ?_ ?_) <;> intro h1
 ·have hs:=sum_take Vol.cnt a i (by omega)
  have hs':=sum_take_le Vol.cnt a (i+1)
  have hn:a[i].cnt=1+1+1+1+cntM Inode.cnt a[i].t.inodes+1:=rfl
  simp +decide (maxSteps:=9^9) (disch:=omega) only[↓SB0,SX,seval,hQ,hQ1,getE h1,← hc,Vol.marked]
  (first|refine cI hP1 (s_markText (c+1) (by omega) (by omega)) rfl rfl ?_|refine cH hP1 (s_markText (c+1) (by omega) (by omega)) rfl rfl ?_)
  simp +decide (maxSteps:=9^9) (disch:=omega) only[↓SB0,SX,seval,hQ,hQ1,getE h1,← hc,Vol.marked]
  (first|refine cI hP1 (s_heldInodeS a[i].t.inodes (c+1+1+1+1) (by omega) (by omega)) rfl rfl ?_|refine cH hP1 (s_heldInodeS a[i].t.inodes (c+1+1+1+1) (by omega) (by omega)) rfl rfl ?_)
  simp +decide (maxSteps:=9^9) (disch:=omega) only[↓SB0,SX,seval,hQ,hQ1,getE h1,← hc,Vol.marked]
  (first | with_reducible refine if_d _ ?_ ?_ | refine if_i _ ?_ ?_) <;> intro g
  ·exfalso; omega
  simp +decide (maxSteps:=9^9) (disch:=omega) only[↓SB0,SX,seval,hQ,hQ1,getE h1,← hc,Vol.marked]
  exact ⟨(i+1,c+1+1+1+1+(cntM Inode.cnt a[i].t.inodes:Nat)+1),rfl,⟨by simp only; omega,by simp only; omega⟩,by simp only; omega⟩
 ·obtain rfl:i=a.length:=by omega
  rw [List.take_length] at hc
  simp +decide (maxSteps:=9^9) (disch:=omega) only[↓SB0,SX,seval,hQ,hQ1,hc,cntM]
theorem s_heldFs (a:Fs) (k:Int) (h0:0≤k) (hl:k+(a.cntT:Nat)<2^40):Spec Tryz.prog 14 [(a.markT k).x,.int .i64 k] (.int .i64 (k+(a.cntT:Nat))) [.undef,.undef]:=by
 simp only [Fs.cntT] at hl
 refine spec_c hmx p_L_heldFs [] 23 [] ⟨Nat.le_of_ble_eq_true rfl,Nat.le_of_ble_eq_true rfl⟩ rfl rfl ?_
 intro w hP hQ
 unfold c_L_heldFs
 simp +decide (maxSteps:=9^9) (disch:=omega) only[↓SB0,SX,seval,hQ]
 (first|refine cI hP (s_heldVolS a.vols (k) (by omega) (by omega)) rfl rfl ?_|refine cH hP (s_heldVolS a.vols (k) (by omega) (by omega)) rfl rfl ?_)
 simp +decide (maxSteps:=9^9) (disch:=omega) only[↓SB0,SX,seval,hQ]
 (first | with_reducible refine if_d _ ?_ ?_ | refine if_i _ ?_ ?_) <;> intro g
 ·exfalso; omega
 simp +decide (maxSteps:=9^9) (disch:=omega) only[↓SB0,SX,seval,hQ]
 simp only [Fs.cntT,Int.natCast_add,Int.add_assoc]
end Go.Proofs.YtjmnolhflcjpgaaGreat.Awp
namespace Go.Proofs.YtjmnolhflcjpgaaGreat.Awp
open Go.Proofs
set_option linter.unusedSimpArgs false
set_option linter.unusedVariables false
open Nat (reduceEqDiff reduceAdd reduceMul reduceSub)
open Int (reduceNeg reduceToNat reducePow)
set_option maxRecDepth 100000
set_option maxHeartbeats 20000000
theorem s_l1In (x a b:Int):Spec Tryz.prog 27 [.int .i64 x,.int .i64 a,.int .i64 b] (.bool (inR x a b)) [.undef,.undef,.undef]:=by
 refine spec_c hmx p_S_l1In [] 71 [] ⟨Nat.le_of_ble_eq_true rfl,Nat.le_of_ble_eq_true rfl⟩ rfl rfl ?_
 intro w hP hQ
 unfold c_S_l1In
 simp +decide (maxSteps:=9^9) (disch:=omega) only[↓SB0,SX,seval,hQ]
 (first | with_reducible refine gd_d _ ?_ ?_ | refine gd_i _ ?_ ?_) <;> intro h1
 ·simp +decide (maxSteps:=9^9) (disch:=omega) only[↓SB0,SX,seval,hQ,h1]
  simp [inR,h1]
 ·simp +decide (maxSteps:=9^9) (disch:=omega) only[↓SB0,SX,seval,hQ,h1]
  simp [inR,h1]
theorem s_from (x a b:Int):Spec Tryz.prog 53 [.int .i64 x,.int .i64 a,.int .i64 b] (.bool (inR x a b)) [.undef,.undef,.undef]:=by
 refine spec_c hmx p_I_from [] 71 [] ⟨Nat.le_of_ble_eq_true rfl,Nat.le_of_ble_eq_true rfl⟩ rfl rfl ?_
 intro w hP hQ
 unfold c_I_from
 simp +decide (maxSteps:=9^9) (disch:=omega) only[↓SB0,SX,seval,hQ]
 (first | with_reducible refine gd_d _ ?_ ?_ | refine gd_i _ ?_ ?_) <;> intro h1
 ·simp +decide (maxSteps:=9^9) (disch:=omega) only[↓SB0,SX,seval,hQ,h1]
  simp [inR,h1]
 ·simp +decide (maxSteps:=9^9) (disch:=omega) only[↓SB0,SX,seval,hQ,h1]
  simp [inR,h1]
theorem s_isLimit (x:Int):Spec Tryz.prog 32 [.int .i64 x] (.bool (inR x 32 4000)) [.undef]:=by
 refine spec_c hmx p_I_isLimit [] 5 [] ⟨Nat.le_of_ble_eq_true rfl,Nat.le_of_ble_eq_true rfl⟩ rfl rfl ?_
 intro w hP hQ
 unfold c_I_isLimit
 simp +decide (maxSteps:=9^9) (disch:=omega) only[↓SB0,SX,seval,hQ]
 (first|refine cI hP (s_from x 32 4000) rfl rfl ?_|refine cH hP (s_from x 32 4000) rfl rfl ?_)
 simp +decide (maxSteps:=9^9) (disch:=omega) only[↓SB0,SX,seval,hQ]
theorem idx_step {α:Type} {l:List α} {p:α→Bool} {i:Nat} (hk:∀ k,k<i→(h:k<l.length)→p l[k]=false) (h:i<l.length) (hi:p l[i]=true):l.findIdx? p=some i:=by
 rw [List.findIdx?_eq_some_iff_getElem]
 exact ⟨h,hi,fun j hj=>by simp [hk j hj (by omega)]⟩
theorem idx_none {α:Type} {l:List α} {p:α→Bool} (hk:∀ k,(h:k<l.length)→p l[k]=false):l.findIdx? p=none:=by
 rw [List.findIdx?_eq_none_iff]
 intro x hx
 obtain ⟨k,h,rfl⟩:=List.getElem_of_mem hx
 exact hk k h
theorem no_step {α:Type} {l:List α} {p:α→Bool} {i:Nat} (hk:∀ k,k<i→(h:k<l.length)→p l[k]=false) (h:i<l.length) (hi:p l[i]=false):∀ k,k<i+1→(h:k<l.length)→p l[k]=false:=by
 intro k hlt hl
 by_cases e:k=i
 ·subst e; exact hi
 ·exact hk k (by omega) hl
theorem sS_VolAt (f:Fs) (n:Int) (hl:f.vols.length<2^48):Spec Tryz.prog 25 [f.x,.int .i64 n] (.int .i64 (idxI (volAt f n))) [.undef,.undef]:=by
 refine spec_c hmx p_S_VolAt [] 55 [] ⟨Nat.le_of_ble_eq_true rfl,Nat.le_of_ble_eq_true rfl⟩ rfl rfl ?_
 intro w hP hQ
 unfold c_S_VolAt
 simp +decide (maxSteps:=9^9) (disch:=omega) only[↓SB0,SX,seval,hQ]
 refine LH_D [4] ?_
 simp +decide (maxSteps:=9^9) (disch:=omega) only[↓SB0,SX,seval,hQ]
 refine loop_e [4] (fun i:Nat=>[(5,.int .i64 i)]) (fun i=>i≤f.vols.length∧∀ k,k<i→(h:k<f.vols.length)→decide (f.vols[k].id=n)=false) (fun i=>f.vols.length-i) (0) hP hQ (rfl) (by simp) ?_
 rintro i ⟨hi,hk⟩ w1 hP1 hQ1
 simp +decide (maxSteps:=9^9) (disch:=omega) only[↓SB0,SX,seval,hQ,hQ1]
 (first | with_reducible refine if_d _ ?_ ?_ | refine if_i _ ?_ ?_) <;> intro h1
 ·simp +decide (maxSteps:=9^9) (disch:=omega) only[↓SB0,SX,seval,hQ,hQ1,getE h1]
  (first | with_reducible refine if_d _ ?_ ?_ | refine if_i _ ?_ ?_) <;> intro h2
  ·simp +decide (maxSteps:=9^9) (disch:=omega) only[↓SB0,SX,seval,hQ,hQ1]
   rw [volAt,idx_step (p:=fun v:Vol=>decide (v.id=n)) hk (by omega) (decide_eq_true h2)]; rfl
  ·simp +decide (maxSteps:=9^9) (disch:=omega) only[↓SB0,SX,seval,hQ,hQ1]
   exact ⟨i+1,rfl,⟨by omega,no_step (p:=fun v:Vol=>decide (v.id=n)) hk (by omega) (decide_eq_false h2)⟩,by omega⟩
 ·obtain rfl:i=f.vols.length:=by omega
  simp +decide (maxSteps:=9^9) (disch:=omega) only[↓SB0,SX,seval,hQ,hQ1]
  rw [volAt,idx_none (p:=fun v:Vol=>decide (v.id=n)) fun k h=>hk k h h]; rfl
theorem sS_VolNamed (f:Fs) (n:Bytes) (hl:f.vols.length<2^48):Spec Tryz.prog 49 [f.x,.str n] (.int .i64 (idxI (volNamed f n))) [.undef,.undef]:=by
 refine spec_c hmx p_S_VolNamed [] 55 [] ⟨Nat.le_of_ble_eq_true rfl,Nat.le_of_ble_eq_true rfl⟩ rfl rfl ?_
 intro w hP hQ
 unfold c_S_VolNamed
 simp +decide (maxSteps:=9^9) (disch:=omega) only[↓SB0,SX,seval,hQ]
 refine LH_D [4] ?_
 simp +decide (maxSteps:=9^9) (disch:=omega) only[↓SB0,SX,seval,hQ]
 refine loop_e [4] (fun i:Nat=>[(5,.int .i64 i)]) (fun i=>i≤f.vols.length∧∀ k,k<i→(h:k<f.vols.length)→decide (f.vols[k].name=n)=false) (fun i=>f.vols.length-i) (0) hP hQ (rfl) (by simp) ?_
 rintro i ⟨hi,hk⟩ w1 hP1 hQ1
 simp +decide (maxSteps:=9^9) (disch:=omega) only[↓SB0,SX,seval,hQ,hQ1]
 (first | with_reducible refine if_d _ ?_ ?_ | refine if_i _ ?_ ?_) <;> intro h1
 ·simp +decide (maxSteps:=9^9) (disch:=omega) only[↓SB0,SX,seval,hQ,hQ1,getE h1]
  (first | with_reducible refine if_d _ ?_ ?_ | refine if_i _ ?_ ?_) <;> intro h2
  ·simp +decide (maxSteps:=9^9) (disch:=omega) only[↓SB0,SX,seval,hQ,hQ1]
   rw [volNamed,idx_step (p:=fun v:Vol=>decide (v.name=n)) hk (by omega) (decide_eq_true h2)]; rfl
  ·simp +decide (maxSteps:=9^9) (disch:=omega) only[↓SB0,SX,seval,hQ,hQ1]
   exact ⟨i+1,rfl,⟨by omega,no_step (p:=fun v:Vol=>decide (v.name=n)) hk (by omega) (decide_eq_false h2)⟩,by omega⟩
 ·obtain rfl:i=f.vols.length:=by omega
  simp +decide (maxSteps:=9^9) (disch:=omega) only[↓SB0,SX,seval,hQ,hQ1]
  rw [volNamed,idx_none (p:=fun v:Vol=>decide (v.name=n)) fun k h=>hk k h h]; rfl
theorem s_IndexFunc_Vol {g:Nat} {cs:List TV} {p:Vol→Bool} (hc:∀ v:Vol,Spec Tryz.prog g [v.x,.xbox cs] (.bool (p v)) [.undef,.undef]) (l:List Vol) (hl:l.length<2^48) :
  Spec Tryz.prog 56 [.ext 6 (l.map Vol.row),.fn g [.xbox cs]] (.int .i64 (idxI (l.findIdx? p))) [.undef,.undef]:=by
 refine spec_c hmx p_X_IndexFunc_Vol [] 435 [] ⟨Nat.le_of_ble_eq_true rfl,Nat.le_of_ble_eq_true rfl⟩ rfl rfl ?_
 intro w hP hQ
 unfold c_X_IndexFunc_Vol
 simp +decide (maxSteps:=9^9) (disch:=omega) only[↓SB0,SX,seval,hQ]
 refine LH_D [4,5] ?_
 simp +decide (maxSteps:=9^9) (disch:=omega) only[↓SB0,SX,seval,hQ]
 refine loop_e [4,5] (fun i:Nat=>[(8,.int .i64 i)]) (fun i=>i≤l.length∧∀ k,k<i→(h:k<l.length)→p l[k]=false) (fun i=>l.length-i) (0) hP hQ (rfl) (by simp) ?_
 rintro i ⟨hi,hk⟩ w1 hP1 hQ1
 simp +decide (maxSteps:=9^9) (disch:=omega) only[↓SB0,SX,seval,hQ,hQ1]
 (first | with_reducible refine if_d _ ?_ ?_ | refine if_i _ ?_ ?_) <;> intro h1
 ·simp +decide (maxSteps:=9^9) (disch:=omega) only[↓SB0,SX,seval,hQ,hQ1,getE h1]
  cases h2:p (l[i]'(by omega)) with
  | true=>
   (first|refine cI hP1 (hc (l[i]'(by omega))) rfl rfl ?_|refine cH hP1 (hc (l[i]'(by omega))) rfl rfl ?_)
   simp +decide (maxSteps:=9^9) (disch:=omega) only[↓SB0,SX,seval,hQ,hQ1,h2]
   rw [idx_step hk (by omega) h2]; rfl
  | false=>
   (first|refine cI hP1 (hc (l[i]'(by omega))) rfl rfl ?_|refine cH hP1 (hc (l[i]'(by omega))) rfl rfl ?_)
   simp +decide (maxSteps:=9^9) (disch:=omega) only[↓SB0,SX,seval,hQ,hQ1,h2]
   exact ⟨i+1,rfl,⟨by omega,no_step hk (by omega) h2⟩,by omega⟩
 ·obtain rfl:i=l.length:=by omega
  simp +decide (maxSteps:=9^9) (disch:=omega) only[↓SB0,SX,seval,hQ,hQ1]
  rw [idx_none fun k h=>hk k h h]; rfl
theorem sI_VolAt_1 (v:Vol) (n:Int):Spec Tryz.prog 57 [v.x,.xbox [.int .i64 n]] (.bool (decide (v.id=n))) [.undef,.undef]:=by
 refine spec_c hmx p_I_VolAt_1 [] 15 [] ⟨Nat.le_of_ble_eq_true rfl,Nat.le_of_ble_eq_true rfl⟩ rfl rfl ?_
 intro w hP hQ
 unfold c_I_VolAt_1
 simp +decide (maxSteps:=9^9) (disch:=omega) only[↓SB0,SX,seval,hQ]
theorem sI_VolNamed_1 (v:Vol) (n:Bytes):Spec Tryz.prog 70 [v.x,.xbox [.str n]] (.bool (decide (v.name=n))) [.undef,.undef]:=by
 refine spec_c hmx p_I_VolNamed_1 [] 15 [] ⟨Nat.le_of_ble_eq_true rfl,Nat.le_of_ble_eq_true rfl⟩ rfl rfl ?_
 intro w hP hQ
 unfold c_I_VolNamed_1
 simp +decide (maxSteps:=9^9) (disch:=omega) only[↓SB0,SX,seval,hQ]
theorem sI_VolAt (f:Fs) (n:Int) (hl:f.vols.length<2^48):Spec Tryz.prog 33 [f.x,.int .i64 n] (.int .i64 (idxI (volAt f n))) [.undef,.undef]:=by
 refine spec_c hmx p_I_VolAt [] 31 [] ⟨Nat.le_of_ble_eq_true rfl,Nat.le_of_ble_eq_true rfl⟩ rfl rfl ?_
 intro w hP hQ
 unfold c_I_VolAt
 simp +decide (maxSteps:=9^9) (disch:=omega) only[↓SB0,SX,seval,hQ]
 (first|refine cI hP (s_IndexFunc_Vol (fun v=>sI_VolAt_1 v n) f.vols hl) rfl rfl ?_|refine cH hP (s_IndexFunc_Vol (fun v=>sI_VolAt_1 v n) f.vols hl) rfl rfl ?_)
 simp +decide (maxSteps:=9^9) (disch:=omega) only[↓SB0,SX,seval,hQ]
 rfl
theorem sI_VolNamed (f:Fs) (n:Bytes) (hl:f.vols.length<2^48):Spec Tryz.prog 54 [f.x,.str n] (.int .i64 (idxI (volNamed f n))) [.undef,.undef]:=by
 refine spec_c hmx p_I_VolNamed [] 31 [] ⟨Nat.le_of_ble_eq_true rfl,Nat.le_of_ble_eq_true rfl⟩ rfl rfl ?_
 intro w hP hQ
 unfold c_I_VolNamed
 simp +decide (maxSteps:=9^9) (disch:=omega) only[↓SB0,SX,seval,hQ]
 (first|refine cI hP (s_IndexFunc_Vol (fun v=>sI_VolNamed_1 v n) f.vols hl) rfl rfl ?_|refine cH hP (s_IndexFunc_Vol (fun v=>sI_VolNamed_1 v n) f.vols hl) rfl rfl ?_)
 simp +decide (maxSteps:=9^9) (disch:=omega) only[↓SB0,SX,seval,hQ]
 rfl
end Go.Proofs.YtjmnolhflcjpgaaGreat.Awp
namespace Go.Proofs.YtjmnolhflcjpgaaGreat.Awp
open Go.Proofs
set_option linter.unusedSimpArgs false
set_option linter.unusedVariables false
open Nat (reduceEqDiff reduceAdd reduceMul reduceSub)
open Int (reduceNeg reduceToNat reducePow)
set_option maxRecDepth 100000
set_option maxHeartbeats 20000000
theorem inR_no {x a b:Int} (h:inR x a b=false):¬ (a≤x∧x≤b):=fun h'=>by rw [(inR_iff x a b).2 h'] at h; cases h
theorem okc_iff (c:UInt8):okc c=true↔(97≤c.toNat∧c.toNat≤122)∨(48≤c.toNat∧c.toNat≤57)∨c.toNat=95∨c.toNat=45∨c.toNat=46:=by
 unfold okc
 simp only [Bool.or_eq_true,Bool.and_eq_true,decide_eq_true_eq,UInt8.le_iff_toNat_le,← UInt8.toNat_inj]
 simp
 omega
theorem okc_yes {c:UInt8} (h:(97≤c.toNat∧c.toNat≤122)∨(48≤c.toNat∧c.toNat≤57)∨c.toNat=95∨c.toNat=45∨c.toNat=46):okc c=true:=(okc_iff c).2 h
theorem okc_no {c:UInt8} (h:¬ ((97≤c.toNat∧c.toNat≤122)∨(48≤c.toNat∧c.toNat≤57)∨c.toNat=95∨c.toNat=45∨c.toNat=46)):okc c=false:=by
 cases e:okc c with
 | false=>rfl
 | true=>exact absurd ((okc_iff c).1 e) h
theorem name_bad {s:Bytes} {i:Nat} (h:i<s.length) (hc:okc s[i]=false):nameOk s=false:=by
 unfold nameOk
 have:s.all okc=false:=by
  rw [List.all_eq_false]
  exact ⟨s[i],List.getElem_mem h,by simp [hc]⟩
 simp [this]
theorem ranges (n:Nat):n<45∨n=45∨n=46∨n=47∨(48≤n∧n≤57)∨(58≤n∧n≤94)∨n=95∨n=96∨(97≤n∧n≤122)∨122<n:=by omega
theorem all_step {s:Bytes} {i:Nat} (hk:∀ k,k<i→(h:k<s.length)→okc s[k]=true) (h:i<s.length) (hi:okc s[i]=true):∀ k,k<i+1→(h:k<s.length)→okc s[k]=true:=by
 intro k hlt hl
 by_cases e:k=i
 ·subst e; exact hi
 ·exact hk k (by omega) hl
theorem all_ok {s:Bytes} (hk:∀ k,(h:k<s.length)→okc s[k]=true):s.all okc=true:=by
 rw [List.all_eq_true]
 intro x hx
 obtain ⟨k,h,rfl⟩:=List.getElem_of_mem hx
 exact hk k h
theorem sI_NameOk (s:Bytes) (hl:s.length<2^48):Spec Tryz.prog 41 [.str s] (.bool (nameOk s)) [.undef]:=by
 refine spec_c hmx p_I_NameOk [] 221 [] ⟨Nat.le_of_ble_eq_true rfl,Nat.le_of_ble_eq_true rfl⟩ rfl rfl ?_
 intro w hP hQ
 unfold c_I_NameOk
 simp +decide (maxSteps:=9^9) (disch:=omega) only[↓SB0,SX,seval,hQ]
 refine LH_D [2,3,4] ?_
 simp +decide (maxSteps:=9^9) (disch:=omega) only[↓SB0,SX,seval,hQ]
 refine loop_e [2,3,4] (fun i:Nat=>[(7,.int .i64 i)]) (fun i=>i≤s.length∧∀ k,k<i→(h:k<s.length)→okc s[k]=true) (fun i=>s.length-i) (0) hP hQ (rfl) (by simp) ?_
 rintro i ⟨hi,hk⟩ w1 hP1 hQ1
 simp +decide (maxSteps:=9^9) (disch:=omega) only[↓SB0,SX,seval,hQ,hQ1]
 (first | with_reducible refine if_d _ ?_ ?_ | refine if_i _ ?_ ?_) <;> intro h1
 ·have hlt:i<s.length:=by omega
  have hbad:okc s[i]=false→nameOk s=false:=fun h=>name_bad hlt h
  have hnext:okc s[i]=true→_:=fun h=>all_step hk hlt h
  simp +decide (maxSteps:=9^9) (disch:=omega) only[↓SB0,SX,seval,hQ,hQ1,getE h1]
  generalize s[i]=c at *
  rcases ranges c.toNat with h | h | h | h | h | h | h | h | h | h
  all_goals (simp +decide (maxSteps:=9^9) (disch:=omega) only[↓SB0,SX,seval,hQ,hQ1,dec_t,dec_f])
  all_goals first
   | (rw [hbad (okc_no (by omega))]; done)
   | exact ⟨i+1,rfl,⟨by omega,hnext (okc_yes (by omega))⟩,by omega⟩
 ·obtain rfl:i=s.length:=by omega
  have hall:s.all okc=true:=all_ok fun k h=>hk k h h
  simp +decide (maxSteps:=9^9) (disch:=omega) only[↓SB0,SX,seval,hQ,hQ1]
  (first | with_reducible refine gd_d _ ?_ ?_ | refine gd_i _ ?_ ?_) <;> intro g1
  rotate_left
  ·simp +decide (maxSteps:=9^9) (disch:=omega) only[↓SB0,SX,seval,hQ,g1]
   simp [nameOk,hall]; omega
  simp +decide (maxSteps:=9^9) (disch:=omega) only[↓SB0,SX,seval,hQ,g1]
  (first | with_reducible refine gd_d _ ?_ ?_ | refine gd_i _ ?_ ?_) <;> intro g2
  rotate_left
  ·simp +decide (maxSteps:=9^9) (disch:=omega) only[↓SB0,SX,seval,hQ,g2]
   simp [nameOk,hall]; omega
  simp +decide (maxSteps:=9^9) (disch:=omega) only[↓SB0,SX,seval,hQ,g2]
  (first | with_reducible refine gd_d _ ?_ ?_ | refine gd_i _ ?_ ?_) <;> intro g3
  ·simp +decide (maxSteps:=9^9) (disch:=omega) only[↓SB0,SX,seval,hQ,g3]
   simp [nameOk,g3]
  simp +decide (maxSteps:=9^9) (disch:=omega) only[↓SB0,SX,seval,hQ,g3]
  simp [nameOk,hall,g3]
  try omega
theorem sS_NameOk (s:Bytes) (hl:s.length<2^48):Spec Tryz.prog 38 [.str s] (.bool (nameOk s)) [.undef]:=by
 refine spec_c hmx p_S_NameOk [] 29 [] ⟨Nat.le_of_ble_eq_true rfl,Nat.le_of_ble_eq_true rfl⟩ rfl rfl ?_
 intro w hP hQ
 unfold c_S_NameOk
 simp +decide (maxSteps:=9^9) (disch:=omega) only[↓SB0,SX,seval,hQ]
 refine LH_D [2,4] ?_
 simp +decide (maxSteps:=9^9) (disch:=omega) only[↓SB0,SX,seval,hQ]
 refine loop_e [2,4] (fun i:Nat=>[(3,.int .i64 i)]) (fun i=>i≤s.length∧∀ k,k<i→(h:k<s.length)→okc s[k]=true) (fun i=>s.length-i) (0) hP hQ (rfl) (by simp) ?_
 rintro i ⟨hi,hk⟩ w1 hP1 hQ1
 simp +decide (maxSteps:=9^9) (disch:=omega) only[↓SB0,SX,seval,hQ,hQ1]
 (first | with_reducible refine if_d _ ?_ ?_ | refine if_i _ ?_ ?_) <;> intro h1
 ·have hlt:i<s.length:=by omega
  have hbad:okc s[i]=false→nameOk s=false:=fun h=>name_bad hlt h
  have hnext:okc s[i]=true→_:=fun h=>all_step hk hlt h
  simp +decide (maxSteps:=9^9) (disch:=omega) only[↓SB0,SX,seval,hQ,hQ1,getE h1]
  generalize s[i]=c at *
  have hc:c.toNat<256:=c.toNat_lt
  cases hA:inR (c.toNat) 97 122 with
  | true=>
   have hA':=(inR_iff _ _ _).1 hA
   simp +decide (maxSteps:=9^9) (disch:=omega) only[↓SB0,SX,seval,hQ,hQ1]
   (first|refine cI hP1 (s_l1In (c.toNat) 97 122) rfl rfl ?_|refine cH hP1 (s_l1In (c.toNat) 97 122) rfl rfl ?_)
   simp +decide (maxSteps:=9^9) (disch:=omega) only[↓SB0,SX,seval,hQ,hQ1,hA]
   exact ⟨i+1,rfl,⟨by omega,hnext (okc_yes (by omega))⟩,by omega⟩
  | false=>
   have hA':=inR_no hA
   cases hB:inR (c.toNat) 48 57 with
   | true=>
    have hB':=(inR_iff _ _ _).1 hB
    simp +decide (maxSteps:=9^9) (disch:=omega) only[↓SB0,SX,seval,hQ,hQ1]
    (first|refine cI hP1 (s_l1In (c.toNat) 97 122) rfl rfl ?_|refine cH hP1 (s_l1In (c.toNat) 97 122) rfl rfl ?_)
    simp +decide (maxSteps:=9^9) (disch:=omega) only[↓SB0,SX,seval,hQ,hQ1,hA]
    (first|refine cI hP1 (s_l1In (c.toNat) 48 57) rfl rfl ?_|refine cH hP1 (s_l1In (c.toNat) 48 57) rfl rfl ?_)
    simp +decide (maxSteps:=9^9) (disch:=omega) only[↓SB0,SX,seval,hQ,hQ1,hB]
    exact ⟨i+1,rfl,⟨by omega,hnext (okc_yes (by omega))⟩,by omega⟩
   | false=>
    have hB':=inR_no hB
    have hr:c.toNat=95∨c.toNat=45∨c.toNat=46∨(c.toNat≠95∧c.toNat≠45∧c.toNat≠46):=by omega
    rcases hr with h | h | h | h
    all_goals (simp +decide (maxSteps:=9^9) (disch:=omega) only[↓SB0,SX,seval,hQ,hQ1])
    all_goals (first | refine call_i hP1 (s_l1In (c.toNat) 97 122) (.inl ⟨rfl,fun _ hx=>nomatch hx⟩) ?_ | skip)
    all_goals (simp +decide (maxSteps:=9^9) (disch:=omega) only[↓SB0,SX,seval,hQ,hQ1,hA])
    all_goals (first | refine call_i hP1 (s_l1In (c.toNat) 48 57) (.inl ⟨rfl,fun _ hx=>nomatch hx⟩) ?_ | skip)
    all_goals (simp +decide (maxSteps:=9^9) (disch:=omega) only[↓SB0,SX,seval,hQ,hQ1,hB,dec_t,dec_f])
    all_goals first
     | (rw [hbad (okc_no (by omega))]; done)
     | exact ⟨i+1,rfl,⟨by omega,hnext (okc_yes (by omega))⟩,by omega⟩
 ·obtain rfl:i=s.length:=by omega
  have hall:s.all okc=true:=all_ok fun k h=>hk k h h
  simp +decide (maxSteps:=9^9) (disch:=omega) only[↓SB0,SX,seval,hQ,hQ1]
  cases g1:inR (s.length:Nat) 1 14 with
  | false=>
   have g1':=inR_no g1
   (first|refine cI hP (s_l1In (s.length:Nat) 1 14) rfl rfl ?_|refine cH hP (s_l1In (s.length:Nat) 1 14) rfl rfl ?_)
   simp +decide (maxSteps:=9^9) (disch:=omega) only[↓SB0,SX,seval,hQ,g1]
   simp [nameOk,hall]; omega
  | true=>
   have g1':=(inR_iff _ _ _).1 g1
   (first|refine cI hP (s_l1In (s.length:Nat) 1 14) rfl rfl ?_|refine cH hP (s_l1In (s.length:Nat) 1 14) rfl rfl ?_)
   simp +decide (maxSteps:=9^9) (disch:=omega) only[↓SB0,SX,seval,hQ,g1]
   (first | with_reducible refine gd_d _ ?_ ?_ | refine gd_i _ ?_ ?_) <;> intro g3
   ·simp +decide (maxSteps:=9^9) (disch:=omega) only[↓SB0,SX,seval,hQ,g3]
    simp [nameOk,g3]
   simp +decide (maxSteps:=9^9) (disch:=omega) only[↓SB0,SX,seval,hQ,g3]
   simp [nameOk,hall,g3]
   try omega
end Go.Proofs.YtjmnolhflcjpgaaGreat.Awp
namespace Go.Proofs.YtjmnolhflcjpgaaGreat.Awp
open Go.Proofs
set_option linter.unusedSimpArgs false
set_option linter.unusedVariables false
open Nat (reduceEqDiff reduceAdd reduceMul reduceSub)
open Int (reduceNeg reduceToNat reducePow)
set_option maxRecDepth 100000
set_option maxHeartbeats 20000000
theorem cast_pred (m:Nat):((m+1:Nat):Int)-1=(m:Int):=by omega
theorem ok_next {α:Type} {p:Nat→α→Bool} {lt:α→α→Bool} {l:List α} {i:Nat} (hk:∀ k,k<i→stepOk p lt l k=true) (hi:stepOk p lt l i=true):∀ k,k<i+1→stepOk p lt l k=true:=by
 intro k hlt
 by_cases e:k=i
 ·subst e; exact hi
 ·exact hk k (by omega)
theorem step_bad {α:Type} {p:Nat→α→Bool} {lt:α→α→Bool} {l:List α} {i:Nat} (h:i<l.length) (hp:p i l[i]=false):stepOk p lt l i=false:=by
 rw [stepOk,List.getElem?_eq_getElem h]; simp [hp]
theorem attr_sz {l:List Attr} {n:Nat} (h:szM Attr.sz l<n):l.length<n∧∀ x ∈ l,x.name.length<n∧x.val.length<n:=by
 refine ⟨by simp only [szM] at h; omega,fun x hx=>?_⟩
 have:=sum_mem (f:=Attr.sz) hx
 simp only [szM] at h
 simp only [Attr.sz] at this
 omega
theorem ent_sz {l:List Ent} {n:Nat} (h:szM Ent.sz l<n):l.length<n∧∀ x ∈ l,x.name.length<n:=by
 refine ⟨by simp only [szM] at h; omega,fun x hx=>?_⟩
 have:=sum_mem (f:=Ent.sz) hx
 simp only [szM] at h
 simp only [Ent.sz] at this
 omega
theorem dec_c {p q:Prop} [Decidable p] [Decidable q] (h:p↔q):decide p=decide q:=by simp [h]
theorem sS_l3Attrs (l:List Attr) (hs:szM Attr.sz l<2^48):Spec Tryz.prog 98 [.ext 2 (l.map Attr.row)] (.bool (attrsB l)) [.undef]:=by
 obtain ⟨hl,hls⟩:=attr_sz hs
 refine spec_c hmx p_S_l3Attrs [] 13 [] ⟨Nat.le_of_ble_eq_true rfl,Nat.le_of_ble_eq_true rfl⟩ rfl rfl ?_
 intro w hP hQ
 unfold c_S_l3Attrs
 simp +decide (maxSteps:=9^9) (disch:=omega) only[↓SB0,SX,seval,hQ]
 refine LH_D [2] ?_
 simp +decide (maxSteps:=9^9) (disch:=omega) only[↓SB0,SX,seval,hQ]
 refine loop_e [2] (fun i:Nat=>[(3,.int .i64 i)]) (fun i=>i≤l.length∧∀ k,k<i→stepOk (fun _=>attrP) attrLt l k=true) (fun i=>l.length-i) (0) hP hQ (rfl) (by simp) ?_
 rintro i ⟨hi,hk⟩ w1 hP1 hQ1
 simp +decide (maxSteps:=9^9) (disch:=omega) only[↓SB0,SX,seval,hQ,hQ1]
 (first | with_reducible refine if_d _ ?_ ?_ | refine if_i _ ?_ ?_) <;> intro h1
 ·have hlt:i<l.length:=by omega
  have hno:stepOk (fun _=>attrP) attrLt l i=false→attrsB l=false:=fun e=>(fun e=>by rw [attrsB,attrsIn,e]; rfl) (allOk_no hlt e)
  obtain hla:=hls _ (List.getElem_mem hlt)
  cases hN:nameOk (l[i]'hlt).name with
  | false=>
   simp +decide (maxSteps:=9^9) (disch:=omega) only[↓SB0,SX,seval,hQ,hQ1,getE h1]
   (first|refine cI hP1 (sS_NameOk (l[i]'hlt).name (by omega)) rfl rfl ?_|refine cH hP1 (sS_NameOk (l[i]'hlt).name (by omega)) rfl rfl ?_)
   simp +decide (maxSteps:=9^9) (disch:=omega) only[↓SB0,SX,seval,hQ,hQ1,hN]
   rw [hno (step_bad hlt (by simp [attrP,hN]))]
  | true=>
   cases hV:inR (((l[i]'hlt).val.length:Nat)) 1 16 with
   | false=>
    simp +decide (maxSteps:=9^9) (disch:=omega) only[↓SB0,SX,seval,hQ,hQ1,getE h1]
    (first|refine cI hP1 (sS_NameOk (l[i]'hlt).name (by omega)) rfl rfl ?_|refine cH hP1 (sS_NameOk (l[i]'hlt).name (by omega)) rfl rfl ?_)
    simp +decide (maxSteps:=9^9) (disch:=omega) only[↓SB0,SX,seval,hQ,hQ1,hN,getE h1]
    (first|refine cI hP1 (s_l1In (((l[i]'hlt).val.length:Nat)) 1 16) rfl rfl ?_|refine cH hP1 (s_l1In (((l[i]'hlt).val.length:Nat)) 1 16) rfl rfl ?_)
    simp +decide (maxSteps:=9^9) (disch:=omega) only[↓SB0,SX,seval,hQ,hQ1,hV]
    rw [hno (step_bad hlt (by simp [attrP,hV]))]
   | true=>
    cases i with
    | zero=>
     simp +decide (maxSteps:=9^9) (disch:=omega) only[↓SB0,SX,seval,hQ,hQ1,getE h1]
     (first|refine cI hP1 (sS_NameOk (l[0]'hlt).name (by omega)) rfl rfl ?_|refine cH hP1 (sS_NameOk (l[0]'hlt).name (by omega)) rfl rfl ?_)
     simp +decide (maxSteps:=9^9) (disch:=omega) only[↓SB0,SX,seval,hQ,hQ1,hN,getE h1]
     (first|refine cI hP1 (s_l1In (((l[0]'hlt).val.length:Nat)) 1 16) rfl rfl ?_|refine cH hP1 (s_l1In (((l[0]'hlt).val.length:Nat)) 1 16) rfl rfl ?_)
     simp +decide (maxSteps:=9^9) (disch:=omega) only[↓SB0,SX,seval,hQ,hQ1,hV,getE h1]
     exact ⟨1,rfl,⟨by omega,ok_next hk (by rw [stepOk_zero hlt]; simp [attrP,hN,hV])⟩,by omega⟩
    | succ m=>
     have w4:decide ((0:Int)<((m+1:Nat):Int))=true:=decide_eq_true (by omega)
     have hm:=getE (show ((m:Nat):Int)<(l.length:Nat) by omega)
     cases hD:strLt (l[m]'(by omega)).name (l[m+1]'hlt).name with
     | false=>
      simp +decide (maxSteps:=9^9) (disch:=omega) only[↓SB0,SX,seval,hQ,hQ1,getE h1]
      (first|refine cI hP1 (sS_NameOk (l[m+1]'hlt).name (by omega)) rfl rfl ?_|refine cH hP1 (sS_NameOk (l[m+1]'hlt).name (by omega)) rfl rfl ?_)
      simp +decide (maxSteps:=9^9) (disch:=omega) only[↓SB0,SX,seval,hQ,hQ1,hN,getE h1]
      (first|refine cI hP1 (s_l1In (((l[m+1]'hlt).val.length:Nat)) 1 16) rfl rfl ?_|refine cH hP1 (s_l1In (((l[m+1]'hlt).val.length:Nat)) 1 16) rfl rfl ?_)
      simp +decide (maxSteps:=9^9) (disch:=omega) only[↓SB0,SX,seval,hQ,hQ1,hV,w4,cast_pred,hm,getE h1,hD]
      rw [hno (by rw [stepOk_succ hlt,attrLt,← strLt_eq,hD]; simp)]
     | true=>
      simp +decide (maxSteps:=9^9) (disch:=omega) only[↓SB0,SX,seval,hQ,hQ1,getE h1]
      (first|refine cI hP1 (sS_NameOk (l[m+1]'hlt).name (by omega)) rfl rfl ?_|refine cH hP1 (sS_NameOk (l[m+1]'hlt).name (by omega)) rfl rfl ?_)
      simp +decide (maxSteps:=9^9) (disch:=omega) only[↓SB0,SX,seval,hQ,hQ1,hN,getE h1]
      (first|refine cI hP1 (s_l1In (((l[m+1]'hlt).val.length:Nat)) 1 16) rfl rfl ?_|refine cH hP1 (s_l1In (((l[m+1]'hlt).val.length:Nat)) 1 16) rfl rfl ?_)
      simp +decide (maxSteps:=9^9) (disch:=omega) only[↓SB0,SX,seval,hQ,hQ1,hV,w4,cast_pred,hm,getE h1,hD]
      exact ⟨m+1+1,rfl,⟨by omega,ok_next hk (by rw [stepOk_succ hlt,attrLt,← strLt_eq,hD]; simp [attrP,hN,hV])⟩,by omega⟩
 ·obtain rfl:i=l.length:=by omega
  have e:attrsIn l=true:=allOk_yes fun k h=>hk k h
  simp +decide (maxSteps:=9^9) (disch:=omega) only[↓SB0,SX,seval,hQ,hQ1]
  rw [attrsB,e,Bool.true_and]
  rw [dec_c (p:=(l.length:Int)≤4) (q:=l.length≤4) (by omega)]
theorem sS_l3Ents (l:List Ent) (hs:szM Ent.sz l<2^48):Spec Tryz.prog 97 [.ext 2 (l.map Ent.row)] (.bool (entsB l)) [.undef]:=by
 obtain ⟨hl,hls⟩:=ent_sz hs
 refine spec_c hmx p_S_l3Ents [] 13 [] ⟨Nat.le_of_ble_eq_true rfl,Nat.le_of_ble_eq_true rfl⟩ rfl rfl ?_
 intro w hP hQ
 unfold c_S_l3Ents
 simp +decide (maxSteps:=9^9) (disch:=omega) only[↓SB0,SX,seval,hQ]
 refine LH_D [2] ?_
 simp +decide (maxSteps:=9^9) (disch:=omega) only[↓SB0,SX,seval,hQ]
 refine loop_e [2] (fun i:Nat=>[(3,.int .i64 i)]) (fun i=>i≤l.length∧∀ k,k<i→stepOk (fun _=>entP) entLt l k=true) (fun i=>l.length-i) (0) hP hQ (rfl) (by simp) ?_
 rintro i ⟨hi,hk⟩ w1 hP1 hQ1
 simp +decide (maxSteps:=9^9) (disch:=omega) only[↓SB0,SX,seval,hQ,hQ1]
 (first | with_reducible refine if_d _ ?_ ?_ | refine if_i _ ?_ ?_) <;> intro h1
 ·have hlt:i<l.length:=by omega
  have hno:stepOk (fun _=>entP) entLt l i=false→entsB l=false:=fun e=>(fun e=>by rw [entsB,entsIn,e]; rfl) (allOk_no hlt e)
  obtain hla:=hls _ (List.getElem_mem hlt)
  cases hN:nameOk (l[i]'hlt).name with
  | false=>
   simp +decide (maxSteps:=9^9) (disch:=omega) only[↓SB0,SX,seval,hQ,hQ1,getE h1]
   (first|refine cI hP1 (sS_NameOk (l[i]'hlt).name (by omega)) rfl rfl ?_|refine cH hP1 (sS_NameOk (l[i]'hlt).name (by omega)) rfl rfl ?_)
   simp +decide (maxSteps:=9^9) (disch:=omega) only[↓SB0,SX,seval,hQ,hQ1,hN]
   rw [hno (step_bad hlt (by simp [entP,hN]))]
  | true=>
   cases hV:inR ((l[i]'hlt).ino) 2 1000 with
   | false=>
    simp +decide (maxSteps:=9^9) (disch:=omega) only[↓SB0,SX,seval,hQ,hQ1,getE h1]
    (first|refine cI hP1 (sS_NameOk (l[i]'hlt).name (by omega)) rfl rfl ?_|refine cH hP1 (sS_NameOk (l[i]'hlt).name (by omega)) rfl rfl ?_)
    simp +decide (maxSteps:=9^9) (disch:=omega) only[↓SB0,SX,seval,hQ,hQ1,hN,getE h1]
    (first|refine cI hP1 (s_l1In ((l[i]'hlt).ino) 2 1000) rfl rfl ?_|refine cH hP1 (s_l1In ((l[i]'hlt).ino) 2 1000) rfl rfl ?_)
    simp +decide (maxSteps:=9^9) (disch:=omega) only[↓SB0,SX,seval,hQ,hQ1,hV]
    rw [hno (step_bad hlt (by simp [entP,hV]))]
   | true=>
    cases i with
    | zero=>
     simp +decide (maxSteps:=9^9) (disch:=omega) only[↓SB0,SX,seval,hQ,hQ1,getE h1]
     (first|refine cI hP1 (sS_NameOk (l[0]'hlt).name (by omega)) rfl rfl ?_|refine cH hP1 (sS_NameOk (l[0]'hlt).name (by omega)) rfl rfl ?_)
     simp +decide (maxSteps:=9^9) (disch:=omega) only[↓SB0,SX,seval,hQ,hQ1,hN,getE h1]
     (first|refine cI hP1 (s_l1In ((l[0]'hlt).ino) 2 1000) rfl rfl ?_|refine cH hP1 (s_l1In ((l[0]'hlt).ino) 2 1000) rfl rfl ?_)
     simp +decide (maxSteps:=9^9) (disch:=omega) only[↓SB0,SX,seval,hQ,hQ1,hV,getE h1]
     exact ⟨1,rfl,⟨by omega,ok_next hk (by rw [stepOk_zero hlt]; simp [entP,hN,hV])⟩,by omega⟩
    | succ m=>
     have w4:decide ((0:Int)<((m+1:Nat):Int))=true:=decide_eq_true (by omega)
     have hm:=getE (show ((m:Nat):Int)<(l.length:Nat) by omega)
     cases hD:strLt (l[m]'(by omega)).name (l[m+1]'hlt).name with
     | false=>
      simp +decide (maxSteps:=9^9) (disch:=omega) only[↓SB0,SX,seval,hQ,hQ1,getE h1]
      (first|refine cI hP1 (sS_NameOk (l[m+1]'hlt).name (by omega)) rfl rfl ?_|refine cH hP1 (sS_NameOk (l[m+1]'hlt).name (by omega)) rfl rfl ?_)
      simp +decide (maxSteps:=9^9) (disch:=omega) only[↓SB0,SX,seval,hQ,hQ1,hN,getE h1]
      (first|refine cI hP1 (s_l1In ((l[m+1]'hlt).ino) 2 1000) rfl rfl ?_|refine cH hP1 (s_l1In ((l[m+1]'hlt).ino) 2 1000) rfl rfl ?_)
      simp +decide (maxSteps:=9^9) (disch:=omega) only[↓SB0,SX,seval,hQ,hQ1,hV,w4,cast_pred,hm,getE h1,hD]
      rw [hno (by rw [stepOk_succ hlt,entLt,← strLt_eq,hD]; simp)]
     | true=>
      simp +decide (maxSteps:=9^9) (disch:=omega) only[↓SB0,SX,seval,hQ,hQ1,getE h1]
      (first|refine cI hP1 (sS_NameOk (l[m+1]'hlt).name (by omega)) rfl rfl ?_|refine cH hP1 (sS_NameOk (l[m+1]'hlt).name (by omega)) rfl rfl ?_)
      simp +decide (maxSteps:=9^9) (disch:=omega) only[↓SB0,SX,seval,hQ,hQ1,hN,getE h1]
      (first|refine cI hP1 (s_l1In ((l[m+1]'hlt).ino) 2 1000) rfl rfl ?_|refine cH hP1 (s_l1In ((l[m+1]'hlt).ino) 2 1000) rfl rfl ?_)
      simp +decide (maxSteps:=9^9) (disch:=omega) only[↓SB0,SX,seval,hQ,hQ1,hV,w4,cast_pred,hm,getE h1,hD]
      exact ⟨m+1+1,rfl,⟨by omega,ok_next hk (by rw [stepOk_succ hlt,entLt,← strLt_eq,hD]; simp [entP,hN,hV])⟩,by omega⟩
 ·obtain rfl:i=l.length:=by omega
  have e:entsIn l=true:=allOk_yes fun k h=>hk k h
  simp +decide (maxSteps:=9^9) (disch:=omega) only[↓SB0,SX,seval,hQ,hQ1]
  rw [entsB,e,Bool.true_and]
  rw [dec_c (p:=(l.length:Int)≤10) (q:=l.length≤10) (by omega)]
theorem sI_attrsOk (l:List Attr) (hs:szM Attr.sz l<2^48):Spec Tryz.prog 102 [.ext 2 (l.map Attr.row)] (.bool (attrsB l)) [.undef]:=by
 obtain ⟨hl,hls⟩:=attr_sz hs
 refine spec_c hmx p_I_attrsOk [] 253 [] ⟨Nat.le_of_ble_eq_true rfl,Nat.le_of_ble_eq_true rfl⟩ rfl rfl ?_
 intro w hP hQ
 unfold c_I_attrsOk
 simp +decide (maxSteps:=9^9) (disch:=omega) only[↓SB0,SX,seval,hQ]
 refine LH_D [2,3,4,5004] ?_
 simp +decide (maxSteps:=9^9) (disch:=omega) only[↓SB0,SX,seval,hQ]
 refine loop_e [2,3,4,5004] (fun i:Nat=>[(7,.int .i64 i)]) (fun i=>i≤l.length∧∀ k,k<i→stepOk (fun _=>attrP) attrLt l k=true) (fun i=>l.length-i) (0) hP hQ (rfl) (by simp) ?_
 rintro i ⟨hi,hk⟩ w1 hP1 hQ1
 simp +decide (maxSteps:=9^9) (disch:=omega) only[↓SB0,SX,seval,hQ,hQ1]
 (first | with_reducible refine if_d _ ?_ ?_ | refine if_i _ ?_ ?_) <;> intro h1
 ·have hlt:i<l.length:=by omega
  have hno:stepOk (fun _=>attrP) attrLt l i=false→attrsB l=false:=fun e=>(fun e=>by rw [attrsB,attrsIn,e]; rfl) (allOk_no hlt e)
  obtain hla:=hls _ (List.getElem_mem hlt)
  cases hN:nameOk (l[i]'hlt).name with
  | false=>
   simp +decide (maxSteps:=9^9) (disch:=omega) only[↓SB0,SX,seval,hQ,hQ1,getE h1]
   (first|refine cI hP1 (sI_NameOk (l[i]'hlt).name (by omega)) rfl rfl ?_|refine cH hP1 (sI_NameOk (l[i]'hlt).name (by omega)) rfl rfl ?_)
   simp +decide (maxSteps:=9^9) (disch:=omega) only[↓SB0,SX,seval,hQ,hQ1,hN]
   rw [hno (step_bad hlt (by simp [attrP,hN]))]
  | true=>
   cases hV:inR (((l[i]'hlt).val.length:Nat)) 1 16 with
   | false=>
    simp +decide (maxSteps:=9^9) (disch:=omega) only[↓SB0,SX,seval,hQ,hQ1,getE h1]
    (first|refine cI hP1 (sI_NameOk (l[i]'hlt).name (by omega)) rfl rfl ?_|refine cH hP1 (sI_NameOk (l[i]'hlt).name (by omega)) rfl rfl ?_)
    simp +decide (maxSteps:=9^9) (disch:=omega) only[↓SB0,SX,seval,hQ,hQ1,hN,getE h1]
    (first|refine cI hP1 (s_from (((l[i]'hlt).val.length:Nat)) 1 16) rfl rfl ?_|refine cH hP1 (s_from (((l[i]'hlt).val.length:Nat)) 1 16) rfl rfl ?_)
    simp +decide (maxSteps:=9^9) (disch:=omega) only[↓SB0,SX,seval,hQ,hQ1,hV]
    rw [hno (step_bad hlt (by simp [attrP,hV]))]
   | true=>
    cases i with
    | zero=>
     simp +decide (maxSteps:=9^9) (disch:=omega) only[↓SB0,SX,seval,hQ,hQ1,getE h1]
     (first|refine cI hP1 (sI_NameOk (l[0]'hlt).name (by omega)) rfl rfl ?_|refine cH hP1 (sI_NameOk (l[0]'hlt).name (by omega)) rfl rfl ?_)
     simp +decide (maxSteps:=9^9) (disch:=omega) only[↓SB0,SX,seval,hQ,hQ1,hN,getE h1]
     (first|refine cI hP1 (s_from (((l[0]'hlt).val.length:Nat)) 1 16) rfl rfl ?_|refine cH hP1 (s_from (((l[0]'hlt).val.length:Nat)) 1 16) rfl rfl ?_)
     simp +decide (maxSteps:=9^9) (disch:=omega) only[↓SB0,SX,seval,hQ,hQ1,hV,getE h1]
     exact ⟨1,rfl,⟨by omega,ok_next hk (by rw [stepOk_zero hlt]; simp [attrP,hN,hV])⟩,by omega⟩
    | succ m=>
     have w4:decide ((0:Int)<((m+1:Nat):Int))=true:=decide_eq_true (by omega)
     have hm:=getE (show ((m:Nat):Int)<(l.length:Nat) by omega)
     cases hD:strLt (l[m]'(by omega)).name (l[m+1]'hlt).name with
     | false=>
      simp +decide (maxSteps:=9^9) (disch:=omega) only[↓SB0,SX,seval,hQ,hQ1,getE h1]
      (first|refine cI hP1 (sI_NameOk (l[m+1]'hlt).name (by omega)) rfl rfl ?_|refine cH hP1 (sI_NameOk (l[m+1]'hlt).name (by omega)) rfl rfl ?_)
      simp +decide (maxSteps:=9^9) (disch:=omega) only[↓SB0,SX,seval,hQ,hQ1,hN,getE h1]
      (first|refine cI hP1 (s_from (((l[m+1]'hlt).val.length:Nat)) 1 16) rfl rfl ?_|refine cH hP1 (s_from (((l[m+1]'hlt).val.length:Nat)) 1 16) rfl rfl ?_)
      simp +decide (maxSteps:=9^9) (disch:=omega) only[↓SB0,SX,seval,hQ,hQ1,hV,w4,cast_pred,hm,getE h1,hD]
      rw [hno (by rw [stepOk_succ hlt,attrLt,← strLt_eq,hD]; simp)]
     | true=>
      simp +decide (maxSteps:=9^9) (disch:=omega) only[↓SB0,SX,seval,hQ,hQ1,getE h1]
      (first|refine cI hP1 (sI_NameOk (l[m+1]'hlt).name (by omega)) rfl rfl ?_|refine cH hP1 (sI_NameOk (l[m+1]'hlt).name (by omega)) rfl rfl ?_)
      simp +decide (maxSteps:=9^9) (disch:=omega) only[↓SB0,SX,seval,hQ,hQ1,hN,getE h1]
      (first|refine cI hP1 (s_from (((l[m+1]'hlt).val.length:Nat)) 1 16) rfl rfl ?_|refine cH hP1 (s_from (((l[m+1]'hlt).val.length:Nat)) 1 16) rfl rfl ?_)
      simp +decide (maxSteps:=9^9) (disch:=omega) only[↓SB0,SX,seval,hQ,hQ1,hV,w4,cast_pred,hm,getE h1,hD]
      exact ⟨m+1+1,rfl,⟨by omega,ok_next hk (by rw [stepOk_succ hlt,attrLt,← strLt_eq,hD]; simp [attrP,hN,hV])⟩,by omega⟩
 ·obtain rfl:i=l.length:=by omega
  have e:attrsIn l=true:=allOk_yes fun k h=>hk k h
  simp +decide (maxSteps:=9^9) (disch:=omega) only[↓SB0,SX,seval,hQ,hQ1]
  rw [attrsB,e,Bool.true_and]
  rw [dec_c (p:=(l.length:Int)≤4) (q:=l.length≤4) (by omega)]
end Go.Proofs.YtjmnolhflcjpgaaGreat.Awp
namespace Go.Proofs.YtjmnolhflcjpgaaGreat.Awp
open Go.Proofs
set_option linter.unusedSimpArgs false
set_option linter.unusedVariables false
open Nat (reduceEqDiff reduceAdd reduceMul reduceSub)
open Int (reduceNeg reduceToNat reducePow)
set_option maxRecDepth 100000
set_option maxHeartbeats 20000000
end Go.Proofs.YtjmnolhflcjpgaaGreat.Awp
namespace Go.Proofs.YtjmnolhflcjpgaaGreat.Awp
open Go.Proofs
set_option linter.unusedSimpArgs false
set_option linter.unusedVariables false
open Nat (reduceEqDiff reduceAdd reduceMul reduceSub)
open Int (reduceNeg reduceToNat reducePow)
set_option maxRecDepth 100000
set_option maxHeartbeats 20000000
theorem inode_sz {x:Inode} {n:Nat} (h:x.sz<n):x.data.length<n∧x.ents.length<n∧x.attrs.length<n:=by
 simp only [Inode.sz,szM] at h; omega
end Go.Proofs.YtjmnolhflcjpgaaGreat.Awp
namespace Go.Proofs.YtjmnolhflcjpgaaGreat.Awp
open Go.Proofs
set_option linter.unusedSimpArgs false
set_option linter.unusedVariables false
open Nat (reduceEqDiff reduceAdd reduceMul reduceSub)
open Int (reduceNeg reduceToNat reducePow)
set_option maxRecDepth 100000
set_option maxHeartbeats 20000000
theorem bcase (b:Bool):b=false∨b=true:=by cases b <;> simp
theorem inode_sz2 {x:Inode} (h:x.sz<2^48):x.data.length<2^48∧szM Ent.sz x.ents<2^48∧szM Attr.sz x.attrs<2^48∧x.ents.length<2^48∧x.attrs.length<2^48:=by
 simp only [Inode.sz] at h
 refine ⟨by omega,by omega,by omega,?_,?_⟩
 ·have:szM Ent.sz x.ents=x.ents.length+(x.ents.map Ent.sz).sum:=rfl
  omega
 ·have:szM Attr.sz x.attrs=x.attrs.length+(x.attrs.map Attr.sz).sum:=rfl
  omega
theorem sS_InodeOk (x:Inode) (h:x.sz<2^48):Spec Tryz.prog 83 [x.x] (.bool (inodeB x)) [.undef]:=by
 obtain ⟨h1,h2,h3,h4,h5⟩:=inode_sz2 h
 refine spec_c hmx p_S_InodeOk [] 2199023255559 [] ⟨Nat.le_of_ble_eq_true rfl,Nat.le_of_ble_eq_true rfl⟩ rfl rfl ?_
 intro w hP hQ
 unfold c_S_InodeOk
 simp +decide (maxSteps:=9^9) (disch:=omega) only[↓SB0,SX,seval,hQ]
 rcases bcase (inR x.ino 1 1000) with hA | hA
 ·(first|refine cI hP (s_l1In x.ino 1 1000) rfl rfl ?_|refine cH hP (s_l1In x.ino 1 1000) rfl rfl ?_)
  simp +decide (maxSteps:=9^9) (disch:=omega) only[↓SB0,SX,seval,hQ,hA]
  simp [inodeB,hA]
 (first|refine cI hP (s_l1In x.ino 1 1000) rfl rfl ?_|refine cH hP (s_l1In x.ino 1 1000) rfl rfl ?_)
 simp +decide (maxSteps:=9^9) (disch:=omega) only[↓SB0,SX,seval,hQ,hA]
 rcases bcase (inR x.links 0 1000) with hB | hB
 ·(first|refine cI hP (s_l1In x.links 0 1000) rfl rfl ?_|refine cH hP (s_l1In x.links 0 1000) rfl rfl ?_)
  simp +decide (maxSteps:=9^9) (disch:=omega) only[↓SB0,SX,seval,hQ,hB]
  simp [inodeB,hB]
 (first|refine cI hP (s_l1In x.links 0 1000) rfl rfl ?_|refine cH hP (s_l1In x.links 0 1000) rfl rfl ?_)
 simp +decide (maxSteps:=9^9) (disch:=omega) only[↓SB0,SX,seval,hQ,hB]
 (first | with_reducible refine gd_d _ ?_ ?_ | refine gd_i _ ?_ ?_) <;> intro hC
 rotate_left
 ·simp +decide (maxSteps:=9^9) (disch:=omega) only[↓SB0,SX,seval,hQ,hC]
  simp [inodeB,hC]
 simp +decide (maxSteps:=9^9) (disch:=omega) only[↓SB0,SX,seval,hQ,hC]
 (first | with_reducible refine gd_d _ ?_ ?_ | refine gd_i _ ?_ ?_) <;> intro hD
 ·simp +decide (maxSteps:=9^9) (disch:=omega) only[↓SB0,SX,seval,hQ,hD]
  simp [inodeB]; omega
 simp +decide (maxSteps:=9^9) (disch:=omega) only[↓SB0,SX,seval,hQ,hD]
 rcases bcase (entsB x.ents) with hE | hE
 ·(first|refine cI hP (sS_l3Ents x.ents h2) rfl rfl ?_|refine cH hP (sS_l3Ents x.ents h2) rfl rfl ?_)
  simp +decide (maxSteps:=9^9) (disch:=omega) only[↓SB0,SX,seval,hQ,hE]
  simp [inodeB,hE]
 (first|refine cI hP (sS_l3Ents x.ents h2) rfl rfl ?_|refine cH hP (sS_l3Ents x.ents h2) rfl rfl ?_)
 simp +decide (maxSteps:=9^9) (disch:=omega) only[↓SB0,SX,seval,hQ,hE]
 rcases bcase (attrsB x.attrs) with hF | hF
 ·(first|refine cI hP (sS_l3Attrs x.attrs h3) rfl rfl ?_|refine cH hP (sS_l3Attrs x.attrs h3) rfl rfl ?_)
  simp +decide (maxSteps:=9^9) (disch:=omega) only[↓SB0,SX,seval,hQ,hF]
  simp [inodeB,hF]
 (first|refine cI hP (sS_l3Attrs x.attrs h3) rfl rfl ?_|refine cH hP (sS_l3Attrs x.attrs h3) rfl rfl ?_)
 simp +decide (maxSteps:=9^9) (disch:=omega) only[↓SB0,SX,seval,hQ,hF]
 have key:inodeB x=kindB x:=by
  simp [inodeB,hA,hB,hC,hE,hF]; omega
 (first | with_reducible refine if_d _ ?_ ?_ | refine if_i _ ?_ ?_) <;> intro k1
 ·simp +decide (maxSteps:=9^9) (disch:=omega) only[↓SB0,SX,seval,hQ]
  rw [key,kindB,if_pos k1,dec_c (p:=(x.ents.length:Int)=0) (q:=x.ents.length=0) (by omega)]
 simp +decide (maxSteps:=9^9) (disch:=omega) only[↓SB0,SX,seval,hQ]
 (first | with_reducible refine if_d _ ?_ ?_ | refine if_i _ ?_ ?_) <;> intro k2
 ·simp +decide (maxSteps:=9^9) (disch:=omega) only[↓SB0,SX,seval,hQ]
  (first | with_reducible refine gd_d _ ?_ ?_ | refine gd_i _ ?_ ?_) <;> intro k3
  ·simp +decide (maxSteps:=9^9) (disch:=omega) only[↓SB0,SX,seval,hQ,k3]
   rw [key,kindB,if_neg k1,if_pos k2,decide_eq_true (show x.data.length=0 by omega),Bool.true_and]
  ·simp +decide (maxSteps:=9^9) (disch:=omega) only[↓SB0,SX,seval,hQ,k3]
   rw [key,kindB,if_neg k1,if_pos k2,decide_eq_false (show ¬ x.data.length=0 by omega),Bool.false_and]
 ·simp +decide (maxSteps:=9^9) (disch:=omega) only[↓SB0,SX,seval,hQ]
  rw [key,kindB,if_neg k1,if_neg k2]
theorem ents_bad {x:Inode} (e:entsIn x.ents=false):inodeB x=false:=by simp [inodeB,entsB,e]
theorem sI_InodeOk (x:Inode) (h:x.sz<2^48):Spec Tryz.prog 89 [x.x] (.bool (inodeB x)) [.undef]:=by
 obtain ⟨h1,h2,h3,h4,h5⟩:=inode_sz2 h
 obtain ⟨hl,hls⟩:=ent_sz h2
 refine spec_c hmx p_I_InodeOk [] 75557863725916202467359 [] ⟨Nat.le_of_ble_eq_true rfl,Nat.le_of_ble_eq_true rfl⟩ rfl rfl ?_
 intro w hP hQ
 unfold c_I_InodeOk
 simp +decide (maxSteps:=9^9) (disch:=omega) only[↓SB0,SX,seval,hQ]
 rcases bcase (inR x.ino 1 1000) with hA | hA
 ·(first|refine cI hP (s_from x.ino 1 1000) rfl rfl ?_|refine cH hP (s_from x.ino 1 1000) rfl rfl ?_)
  simp +decide (maxSteps:=9^9) (disch:=omega) only[↓SB0,SX,seval,hQ,hA]
  simp [inodeB,hA]
 (first|refine cI hP (s_from x.ino 1 1000) rfl rfl ?_|refine cH hP (s_from x.ino 1 1000) rfl rfl ?_)
 simp +decide (maxSteps:=9^9) (disch:=omega) only[↓SB0,SX,seval,hQ,hA]
 (first | with_reducible refine gd_d _ ?_ ?_ | refine gd_i _ ?_ ?_) <;> intro hD
 ·simp +decide (maxSteps:=9^9) (disch:=omega) only[↓SB0,SX,seval,hQ,hD]
  simp [inodeB]; omega
 simp +decide (maxSteps:=9^9) (disch:=omega) only[↓SB0,SX,seval,hQ,hD]
 (first | with_reducible refine gd_d _ ?_ ?_ | refine gd_i _ ?_ ?_) <;> intro hG
 ·simp +decide (maxSteps:=9^9) (disch:=omega) only[↓SB0,SX,seval,hQ,hG]
  simp [inodeB,entsB]; omega
 simp +decide (maxSteps:=9^9) (disch:=omega) only[↓SB0,SX,seval,hQ,hG]
 rcases bcase (attrsB x.attrs) with hF | hF
 ·(first|refine cI hP (sI_attrsOk x.attrs h3) rfl rfl ?_|refine cH hP (sI_attrsOk x.attrs h3) rfl rfl ?_)
  simp +decide (maxSteps:=9^9) (disch:=omega) only[↓SB0,SX,seval,hQ,hF]
  simp [inodeB,hF]
 (first|refine cI hP (sI_attrsOk x.attrs h3) rfl rfl ?_|refine cH hP (sI_attrsOk x.attrs h3) rfl rfl ?_)
 simp +decide (maxSteps:=9^9) (disch:=omega) only[↓SB0,SX,seval,hQ,hF]
 refine LH_D [2,3,4,5004] ?_
 simp +decide (maxSteps:=9^9) (disch:=omega) only[↓SB0,SX,seval,hQ]
 refine loop_e [2,3,4,5004] (fun i:Nat=>[(30,.int .i64 i)]) (fun i=>i≤x.ents.length∧∀ k,k<i→stepOk (fun _=>entP) entLt x.ents k=true) (fun i=>x.ents.length-i) (0) hP hQ (rfl) (by simp) ?_
 rintro i ⟨hi,hk⟩ w1 hP1 hQ1
 simp +decide (maxSteps:=9^9) (disch:=omega) only[↓SB0,SX,seval,hQ,hQ1]
 (first | with_reducible refine if_d _ ?_ ?_ | refine if_i _ ?_ ?_) <;> intro h1
 ·have hlt:i<x.ents.length:=by omega
  have hno:stepOk (fun _=>entP) entLt x.ents i=false→inodeB x=false:=fun e=>ents_bad (allOk_no hlt e)
  obtain hla:=hls _ (List.getElem_mem hlt)
  cases hN:nameOk (x.ents[i]'hlt).name with
  | false=>
   simp +decide (maxSteps:=9^9) (disch:=omega) only[↓SB0,SX,seval,hQ,hQ1,getE h1]
   (first|refine cI hP1 (sI_NameOk (x.ents[i]'hlt).name (by omega)) rfl rfl ?_|refine cH hP1 (sI_NameOk (x.ents[i]'hlt).name (by omega)) rfl rfl ?_)
   simp +decide (maxSteps:=9^9) (disch:=omega) only[↓SB0,SX,seval,hQ,hQ1,hN]
   rw [hno (step_bad hlt (by simp [entP,hN]))]
  | true=>
   cases hV:inR ((x.ents[i]'hlt).ino) 2 1000 with
   | false=>
    simp +decide (maxSteps:=9^9) (disch:=omega) only[↓SB0,SX,seval,hQ,hQ1,getE h1]
    (first|refine cI hP1 (sI_NameOk (x.ents[i]'hlt).name (by omega)) rfl rfl ?_|refine cH hP1 (sI_NameOk (x.ents[i]'hlt).name (by omega)) rfl rfl ?_)
    simp +decide (maxSteps:=9^9) (disch:=omega) only[↓SB0,SX,seval,hQ,hQ1,hN,getE h1]
    (first|refine cI hP1 (s_from ((x.ents[i]'hlt).ino) 2 1000) rfl rfl ?_|refine cH hP1 (s_from ((x.ents[i]'hlt).ino) 2 1000) rfl rfl ?_)
    simp +decide (maxSteps:=9^9) (disch:=omega) only[↓SB0,SX,seval,hQ,hQ1,hV]
    rw [hno (step_bad hlt (by simp [entP,hV]))]
   | true=>
    cases i with
    | zero=>
     simp +decide (maxSteps:=9^9) (disch:=omega) only[↓SB0,SX,seval,hQ,hQ1,getE h1]
     (first|refine cI hP1 (sI_NameOk (x.ents[0]'hlt).name (by omega)) rfl rfl ?_|refine cH hP1 (sI_NameOk (x.ents[0]'hlt).name (by omega)) rfl rfl ?_)
     simp +decide (maxSteps:=9^9) (disch:=omega) only[↓SB0,SX,seval,hQ,hQ1,hN,getE h1]
     (first|refine cI hP1 (s_from ((x.ents[0]'hlt).ino) 2 1000) rfl rfl ?_|refine cH hP1 (s_from ((x.ents[0]'hlt).ino) 2 1000) rfl rfl ?_)
     simp +decide (maxSteps:=9^9) (disch:=omega) only[↓SB0,SX,seval,hQ,hQ1,hV,getE h1]
     exact ⟨1,rfl,⟨by omega,ok_next hk (by rw [stepOk_zero hlt]; simp [entP,hN,hV])⟩,by omega⟩
    | succ m=>
     have w4:decide ((0:Int)<((m+1:Nat):Int))=true:=decide_eq_true (by omega)
     have hm:=getE (show ((m:Nat):Int)<(x.ents.length:Nat) by omega)
     cases hD:strLt (x.ents[m]'(by omega)).name (x.ents[m+1]'hlt).name with
     | false=>
      simp +decide (maxSteps:=9^9) (disch:=omega) only[↓SB0,SX,seval,hQ,hQ1,getE h1]
      (first|refine cI hP1 (sI_NameOk (x.ents[m+1]'hlt).name (by omega)) rfl rfl ?_|refine cH hP1 (sI_NameOk (x.ents[m+1]'hlt).name (by omega)) rfl rfl ?_)
      simp +decide (maxSteps:=9^9) (disch:=omega) only[↓SB0,SX,seval,hQ,hQ1,hN,getE h1]
      (first|refine cI hP1 (s_from ((x.ents[m+1]'hlt).ino) 2 1000) rfl rfl ?_|refine cH hP1 (s_from ((x.ents[m+1]'hlt).ino) 2 1000) rfl rfl ?_)
      simp +decide (maxSteps:=9^9) (disch:=omega) only[↓SB0,SX,seval,hQ,hQ1,hV,w4,cast_pred,hm,getE h1,hD]
      rw [hno (by rw [stepOk_succ hlt,entLt,← strLt_eq,hD]; simp)]
     | true=>
      simp +decide (maxSteps:=9^9) (disch:=omega) only[↓SB0,SX,seval,hQ,hQ1,getE h1]
      (first|refine cI hP1 (sI_NameOk (x.ents[m+1]'hlt).name (by omega)) rfl rfl ?_|refine cH hP1 (sI_NameOk (x.ents[m+1]'hlt).name (by omega)) rfl rfl ?_)
      simp +decide (maxSteps:=9^9) (disch:=omega) only[↓SB0,SX,seval,hQ,hQ1,hN,getE h1]
      (first|refine cI hP1 (s_from ((x.ents[m+1]'hlt).ino) 2 1000) rfl rfl ?_|refine cH hP1 (s_from ((x.ents[m+1]'hlt).ino) 2 1000) rfl rfl ?_)
      simp +decide (maxSteps:=9^9) (disch:=omega) only[↓SB0,SX,seval,hQ,hQ1,hV,w4,cast_pred,hm,getE h1,hD]
      exact ⟨m+1+1,rfl,⟨by omega,ok_next hk (by rw [stepOk_succ hlt,entLt,← strLt_eq,hD]; simp [entP,hN,hV])⟩,by omega⟩
 ·obtain rfl:i=x.ents.length:=by omega
  have hE:entsIn x.ents=true:=allOk_yes fun k h=>hk k h
  simp +decide (maxSteps:=9^9) (disch:=omega) only[↓SB0,SX,seval,hQ,hQ1]
  rcases bcase (inR x.links 0 1000) with hB | hB
  ·(first|refine cI hP (s_from x.links 0 1000) rfl rfl ?_|refine cH hP (s_from x.links 0 1000) rfl rfl ?_)
   simp +decide (maxSteps:=9^9) (disch:=omega) only[↓SB0,SX,seval,hQ,hB]
   simp [inodeB,hB]
  (first|refine cI hP (s_from x.links 0 1000) rfl rfl ?_|refine cH hP (s_from x.links 0 1000) rfl rfl ?_)
  simp +decide (maxSteps:=9^9) (disch:=omega) only[↓SB0,SX,seval,hQ,hB]
  (first | with_reducible refine if_d _ ?_ ?_ | refine if_i _ ?_ ?_) <;> intro hC
  rotate_left
  ·simp +decide (maxSteps:=9^9) (disch:=omega) only[↓SB0,SX,seval,hQ]
   simp [inodeB,hC]
  simp +decide (maxSteps:=9^9) (disch:=omega) only[↓SB0,SX,seval,hQ]
  have key:inodeB x=kindB x:=by
   simp [inodeB,entsB,hA,hB,hC,hE,hF,decide_eq_true (show x.data.length≤100 by omega),decide_eq_true (show x.ents.length≤10 by omega)]
  (first | with_reducible refine if_d _ ?_ ?_ | refine if_i _ ?_ ?_) <;> intro k1
  ·simp +decide (maxSteps:=9^9) (disch:=omega) only[↓SB0,SX,seval,hQ]
   rw [key,kindB,if_pos k1,dec_c (p:=(x.ents.length:Int)=0) (q:=x.ents.length=0) (by omega)]
  simp +decide (maxSteps:=9^9) (disch:=omega) only[↓SB0,SX,seval,hQ]
  (first | with_reducible refine if_d _ ?_ ?_ | refine if_i _ ?_ ?_) <;> intro k2
  ·simp +decide (maxSteps:=9^9) (disch:=omega) only[↓SB0,SX,seval,hQ]
   (first | with_reducible refine gd_d _ ?_ ?_ | refine gd_i _ ?_ ?_) <;> intro k3
   ·simp +decide (maxSteps:=9^9) (disch:=omega) only[↓SB0,SX,seval,hQ,k3]
    rw [key,kindB,if_neg k1,if_pos k2,decide_eq_true (show x.data.length=0 by omega),Bool.true_and]
   ·simp +decide (maxSteps:=9^9) (disch:=omega) only[↓SB0,SX,seval,hQ,k3]
    rw [key,kindB,if_neg k1,if_pos k2,decide_eq_false (show ¬ x.data.length=0 by omega),Bool.false_and]
  ·simp +decide (maxSteps:=9^9) (disch:=omega) only[↓SB0,SX,seval,hQ]
   rw [key,kindB,if_neg k1,if_neg k2]
end Go.Proofs.YtjmnolhflcjpgaaGreat.Awp
