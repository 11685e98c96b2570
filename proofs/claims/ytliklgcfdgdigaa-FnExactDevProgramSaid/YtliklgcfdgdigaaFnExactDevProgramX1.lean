/- Contracts of the functions that laws.FnExactDevProgram reaches are proved here (part 1). Condition: none. -/
import Derived.Test.YtliklgcfdgdigaaAwp4
import Derived.Test.YtliklgcfdgdigaaRows
import Derived.OpenShut
import Derived.KernelRfl
namespace Go.Proofs.Ytliklgcfdgdigaa.Awp
open I

def c_L_FnExactDevProgram : Cmd := Q (R [n 3 (box 3 (v 0)), n 6 (asg 6 k0)]) (Q (Q (R [n 19 (mov 19 (v 2)), n 20 (len 20 (v 19)), n 21 (bin 21 .gtr (v 20) (k 1048576))]) (F (v 21) (Q (R [n 6 (asg 6 k1)]) .ret) .skip)) (Q (R [n 7 (asg 7 (k 1048576))]) (Q (R [n 22 (ld 22 (v 3) 4 true), n 23 (mov 23 (v 7)), n 24 (call (some 24) 81 [v 22, v 23]), n 7 (asg 7 (v 24))]) (Q (Q (R [n 25 (mov 25 (v 7)), n 26 (bin 26 .lss (v 25) (k 0))]) (F (v 26) (Q (R [n 6 (asg 6 k1)]) .ret) .skip)) (Q (R [n 28 (ld 28 (v 3) 4 true), n 29 (call (some 29) 83 [v 28]), n 30 (mov 30 (v 1)), n 31 (mov 31 (v 2)), n 32 (call (some 32) 61 [v 31]), n 33 (call (some 33) 113 [v 29, v 30, v 32]), n 27 (mov 27 (v 33)), n 34 (xtr 34 (v 27) 0), n 35 (xtr 35 (v 27) 1), n 8 (alc 8 [.sl 3 [], .int .i64 0, .sl 3 [], .bool false]), m (st (v 8) (v 34) 4), n 9 (asg 9 (v 35))]) (Q (R [n 36 (ld 36 (v 3) 4 true), n 37 (call (some 37) 83 [v 36]), n 10 (alc 10 [.sl 3 [], .int .i64 0, .sl 3 [], .bool false]), m (st (v 10) (v 37) 4)]) (Q (R [n 38 (mov 38 (v 2)), n 39 (call (some 39) 61 [v 38]), n 11 (asg 11 (v 39))]) (Q (R [n 41 (ld 41 (v 10) 4 true), n 42 (mov 42 (v 1)), n 43 (mov 43 (v 11)), n 44 (call (some 44) 112 [v 41, v 42, v 43]), n 40 (mov 40 (v 44)), n 45 (xtr 45 (v 40) 0), n 46 (xtr 46 (v 40) 1), n 12 (alc 12 [.sl 3 [], .int .i64 0, .sl 3 [], .bool false]), m (st (v 12) (v 45) 4), n 13 (asg 13 (v 46))]) (Q (Q (R [n 47 (ld 47 (v 12) 4 true), n 48 (ld 48 (v 8) 4 true), n 49 (call (some 49) 86 [v 47, v 48]), n 50 (un 50 .not (v 49)), n 51 (mov 51 (v 50)), h 51 false 52 (mov 52 (v 13)), h 51 false 53 (mov 53 (v 9)), h 51 false 54 (bin 54 .neq (v 52) (v 53)), n 55 (pck 55 (v 51) k1 (v 54))]) (F (v 55) (Q (R [n 6 (asg 6 k0)]) .ret) .skip)) (Q (Q (D [0, 0, 2, 7, 15] [n 56 (ld 56 (v 10) 4 true), n 57 (ld 57 (v 3) 4 true), n 58 (call (some 58) 83 [v 57]), n 59 (call (some 59) 86 [v 56, v 58]), n 60 (un 60 .not (v 59))]) (F (v 60) (Q (R [n 6 (asg 6 k0)]) .ret) .skip)) (Q (Q (R [n 61 (mov 61 (v 11)), n 62 (mov 62 (v 2)), n 63 (call (some 63) 61 [v 62]), n 64 (call (some 64) 44 [v 61, v 63]), n 65 (un 65 .not (v 64))]) (F (v 65) (Q (R [n 6 (asg 6 k0)]) .ret) .skip)) (Q (R [n 14 (asg 14 (k 1))]) (Q (R [n 66 (ld 66 (v 10) 4 true), n 67 (mov 67 (v 14)), n 68 (call (some 68) 107 [v 66, v 67]), n 14 (asg 14 (v 68))]) (Q (R [n 69 (mov 69 (v 11)), n 70 (mov 70 (v 14)), n 71 (call (some 71) 46 [v 69, v 70]), n 14 (asg 14 (v 71))]) (Q (Q (R [n 72 (mov 72 (v 14)), n 73 (bin 73 .lss (v 72) (k 0)), n 74 (mov 74 (v 73)), h 74 false 75 (ld 75 (v 12) 4 true), h 74 false 76 (ld 76 (v 8) 4 true), h 74 false 77 (call (some 77) 86 [v 75, v 76]), h 74 false 78 (un 78 .not (v 77)), n 79 (pck 79 (v 74) k1 (v 78)), n 80 (mov 80 (v 79)), h 80 false 81 (mov 81 (v 13)), h 80 false 82 (mov 82 (v 9)), h 80 false 83 (bin 83 .neq (v 81) (v 82)), n 84 (pck 84 (v 80) k1 (v 83))]) (F (v 84) (Q (R [n 6 (asg 6 k0)]) .ret) .skip)) (Q (R [n 15 (asg 15 (k 1))]) (Q (R [n 85 (ld 85 (v 12) 4 true), n 86 (mov 86 (v 15)), n 87 (call (some 87) 107 [v 85, v 86]), n 15 (asg 15 (v 87))]) (Q (R [n 16 (asg 16 (k 1))]) (Q (R [n 88 (ld 88 (v 12) 4 true), n 89 (mov 89 (v 16)), n 90 (call (some 90) 108 [v 88, v 89]), n 16 (asg 16 (v 90))]) (Q (Q (R [n 91 (mov 91 (v 16)), n 92 (bin 92 .lss (v 91) (k 0))]) (F (v 92) (Q (R [n 6 (asg 6 k0)]) .ret) .skip)) (Q (Q (R [n 93 (mov 93 (v 16)), n 94 (mov 94 (v 15)), n 95 (bin 95 .neq (v 93) (v 94))]) (F (v 95) (Q (R [n 6 (asg 6 k0)]) .ret) .skip)) (Q (R [n 97 (ld 97 (v 3) 4 true), n 98 (call (some 98) 83 [v 97]), n 99 (mov 99 (v 1)), n 100 (mov 100 (v 2)), n 101 (call (some 101) 61 [v 100]), n 102 (call (some 102) 112 [v 98, v 99, v 101]), n 96 (mov 96 (v 102)), n 103 (xtr 103 (v 96) 0), n 104 (xtr 104 (v 96) 1), n 17 (alc 17 [.sl 3 [], .int .i64 0, .sl 3 [], .bool false]), m (st (v 17) (v 103) 4), n 18 (asg 18 (v 104))]) (Q (Q (R [n 105 (ld 105 (v 17) 4 true), n 106 (ld 106 (v 8) 4 true), n 107 (call (some 107) 86 [v 105, v 106]), n 108 (un 108 .not (v 107)), n 109 (mov 109 (v 108)), h 109 false 110 (mov 110 (v 18)), h 109 false 111 (mov 111 (v 9)), h 109 false 112 (bin 112 .neq (v 110) (v 111)), n 113 (pck 113 (v 109) k1 (v 112))]) (F (v 113) (Q (R [n 6 (asg 6 k0)]) .ret) .skip)) (Q (R [n 16 (asg 16 (k 1))]) (Q (R [n 114 (ld 114 (v 12) 4 true), n 115 (mov 115 (v 16)), n 116 (call (some 116) 108 [v 114, v 115]), n 16 (asg 16 (v 116))]) (Q (Q (R [n 117 (mov 117 (v 16)), n 118 (bin 118 .lss (v 117) (k 0))]) (F (v 118) (Q (R [n 6 (asg 6 k0)]) .ret) .skip)) (Q (Q (R [n 119 (mov 119 (v 16)), n 120 (mov 120 (v 15)), n 121 (bin 121 .neq (v 119) (v 120))]) (F (v 121) (Q (R [n 6 (asg 6 k0)]) .ret) .skip)) (Q (R [n 6 (asg 6 k1)]) .ret))))))))))))))))))))))))))))
def c_L_eqByteS : Cmd := Q (R [n 4 (asg 4 k0)]) (Q (Q (R [n 6 (mov 6 (v 0)), n 7 (len 7 (v 6)), n 8 (mov 8 (v 1)), n 9 (len 9 (v 8)), n 10 (bin 10 .neq (v 7) (v 9))]) (F (v 10) (Q (R [n 4 (asg 4 k0)]) .ret) .skip)) (Q (Q (R [n 5 (asg 5 (k 0))]) (.blk 0 (.loop (Q (Q (R [n 11 (mov 11 (v 5)), n 12 (mov 12 (v 0)), n 13 (len 13 (v 12)), n 14 (bin 14 .lss (v 11) (v 13))]) (F (v 14) .skip (.exit 0))) (Q (.blk 1 (Q (D [0, 0, 3, 7, 0, 0, 48, 112, 255] [n 17 (mov 17 (v 0)), n 18 (mov 18 (v 5)), n 19 (idx 19 (v 17) (v 18) 1), n 20 (ld 20 (v 19) 1 false), n 21 (mov 21 (v 1)), n 22 (mov 22 (v 5)), n 23 (idx 23 (v 21) (v 22) 1), n 24 (ld 24 (v 23) 1 false), n 25 (bin 25 .neq (v 20) (v 24))]) (F (v 25) (Q (R [n 4 (asg 4 k0)]) .ret) .skip))) (R [n 15 (mov 15 (v 5)), n 16 (bin 16 .add (v 15) (k 1)), n 5 (asg 5 (v 16))])))))) (Q (R [n 4 (asg 4 k1)]) .ret)))
def c_L_markByteS : Cmd := Q (R [n 4 (asg 4 (k 0))]) (Q (Q (R [n 5 (asg 5 (k 0))]) (.blk 0 (.loop (Q (Q (R [n 6 (mov 6 (v 5)), n 7 (mov 7 (v 0)), n 8 (len 8 (v 7)), n 9 (bin 9 .lss (v 6) (v 8))]) (F (v 9) .skip (.exit 0))) (Q (.blk 1 (Q (R [n 12 (mov 12 (v 0)), n 13 (mov 13 (v 5)), n 14 (mov 14 (v 1)), n 15 (conv 15 .u8 (v 14)), n 16 (idx 16 (v 12) (v 13) 1), m (st (v 16) (v 15) 1)]) (R [n 17 (mov 17 (v 1)), n 18 (bin 18 .add (v 17) (k 1)), n 1 (asg 1 (v 18))]))) (R [n 10 (mov 10 (v 5)), n 11 (bin 11 .add (v 10) (k 1)), n 5 (asg 5 (v 11))])))))) (Q (R [n 19 (mov 19 (v 1)), n 4 (asg 4 (v 19))]) .ret))
def c_L_heldByteS : Cmd := Q (R [n 4 (asg 4 (k 0))]) (Q (Q (R [n 5 (asg 5 (k 0))]) (.blk 0 (.loop (Q (Q (R [n 6 (mov 6 (v 5)), n 7 (mov 7 (v 0)), n 8 (len 8 (v 7)), n 9 (bin 9 .lss (v 6) (v 8))]) (F (v 9) .skip (.exit 0))) (Q (.blk 1 (Q (Q (R [n 12 (mov 12 (v 0)), n 13 (mov 13 (v 5)), n 14 (idx 14 (v 12) (v 13) 1), n 15 (ld 15 (v 14) 1 false), n 16 (mov 16 (v 1)), n 17 (conv 17 .u8 (v 16)), n 18 (bin 18 .neq (v 15) (v 17))]) (F (v 18) (Q (R [n 4 (asg 4 (k (-1)))]) .ret) .skip)) (R [n 19 (mov 19 (v 1)), n 20 (bin 20 .add (v 19) (k 1)), n 1 (asg 1 (v 20))]))) (R [n 10 (mov 10 (v 5)), n 11 (bin 11 .add (v 10) (k 1)), n 5 (asg 5 (v 11))])))))) (Q (R [n 21 (mov 21 (v 1)), n 4 (asg 4 (v 21))]) .ret))
def c_L_eqChip : Cmd := Q (R [n 2 (box 2 (v 0)), n 3 (box 3 (v 1)), n 4 (asg 4 k0)]) (Q (Q (R [n 5 (fld 5 (v 2) 0), n 6 (ld 6 (v 5) 1 false), n 7 (fld 7 (v 3) 0), n 8 (ld 8 (v 7) 1 false), n 9 (call (some 9) 126 [v 6, v 8]), n 10 (un 10 .not (v 9))]) (F (v 10) (Q (R [n 4 (asg 4 k0)]) .ret) .skip)) (Q (R [n 4 (asg 4 k1)]) .ret))
def c_L_markChip : Cmd := Q (R [n 2 (box 2 (v 0)), n 4 (asg 4 (k 0))]) (Q (R [n 5 (fld 5 (v 2) 0), n 6 (ld 6 (v 5) 1 false), n 7 (mov 7 (v 1)), n 8 (call (some 8) 127 [v 6, v 7]), n 1 (asg 1 (v 8))]) (Q (R [n 9 (mov 9 (v 1)), n 4 (asg 4 (v 9))]) .ret))
def c_L_heldChip : Cmd := Q (R [n 2 (box 2 (v 0)), n 4 (asg 4 (k 0))]) (Q (R [n 5 (fld 5 (v 2) 0), n 6 (ld 6 (v 5) 1 false), n 7 (mov 7 (v 1)), n 8 (call (some 8) 128 [v 6, v 7]), n 1 (asg 1 (v 8))]) (Q (Q (R [n 9 (mov 9 (v 1)), n 10 (bin 10 .lss (v 9) (k 0))]) (F (v 10) (Q (R [n 4 (asg 4 (k (-1)))]) .ret) .skip)) (Q (R [n 11 (mov 11 (v 1)), n 4 (asg 4 (v 11))]) .ret)))
def c_L_szChip : Cmd := Q (R [n 2 (box 2 (v 0)), n 4 (asg 4 (k 0))]) (Q (R [n 5 (fld 5 (v 2) 0), n 6 (ld 6 (v 5) 1 false), n 7 (mov 7 (v 1)), n 8 (call (some 8) 131 [v 6, v 7]), n 1 (asg 1 (v 8))]) (Q (Q (R [n 9 (mov 9 (v 1)), n 10 (bin 10 .lss (v 9) (k 0))]) (F (v 10) (Q (R [n 4 (asg 4 (k (-1)))]) .ret) .skip)) (Q (R [n 11 (mov 11 (v 1)), n 4 (asg 4 (v 11))]) .ret)))
def c_L_toChip : Cmd := Q (R [n 1 (box 1 (v 0)), n 2 (alc 2 [.sl 3 []])]) (Q (R [n 3 (alc 3 [.sl 3 []])]) (Q (R [n 4 (fld 4 (v 1) 0), n 5 (ld 5 (v 4) 1 false), n 6 (call (some 6) 132 [v 5]), n 7 (fld 7 (v 3) 0), m (st (v 7) (v 6) 1)]) (Q (R [n 8 (ld 8 (v 3) 1 true), m (st (v 2) (v 8) 1)]) .ret)))
def c_L_toByteS : Cmd := Q (R [n 2 (asg 2 (.c (.own 1 [])))]) (Q (R [n 5 (mov 5 (v 0)), n 6 (len 6 (v 5)), n 7 (mks 7 (v 6) (v 6) 1 1 [.int .u8 0]), n 3 (asg 3 (v 7))]) (Q (Q (R [n 4 (asg 4 (k 0))]) (.blk 0 (.loop (Q (Q (R [n 8 (mov 8 (v 4)), n 9 (mov 9 (v 0)), n 10 (len 10 (v 9)), n 11 (bin 11 .lss (v 8) (v 10))]) (F (v 11) .skip (.exit 0))) (Q (.blk 1 (R [n 14 (mov 14 (v 3)), n 15 (mov 15 (v 4)), n 16 (mov 16 (v 0)), n 17 (mov 17 (v 4)), n 18 (idx 18 (v 16) (v 17) 1), n 19 (ld 19 (v 18) 1 false), n 20 (idx 20 (v 14) (v 15) 1), m (st (v 20) (v 19) 1)])) (R [n 12 (mov 12 (v 4)), n 13 (bin 13 .add (v 12) (k 1)), n 4 (asg 4 (v 13))])))))) (Q (R [n 21 (mov 21 (v 3)), n 2 (asg 2 (v 21))]) .ret)))
def c_S_NextPage : Cmd := Q (R [n 2 (box 2 (v 0)), n 4 (asg 4 (k 0))]) (Q (Q (R [n 5 (mov 5 (v 1)), n 6 (bin 6 .lss (v 5) (k 0)), n 7 (mov 7 (v 6)), h 7 false 8 (mov 8 (v 1)), h 7 false 9 (fld 9 (v 2) 0), h 7 false 10 (ld 10 (v 9) 1 false), h 7 false 11 (len 11 (v 10)), h 7 false 12 (bin 12 .geq (v 8) (v 11)), n 13 (pck 13 (v 7) k1 (v 12))]) (F (v 13) (Q (R [n 4 (asg 4 (k (-1)))]) .ret) .skip)) (Q (R [n 14 (fld 14 (v 2) 0), n 15 (ld 15 (v 14) 1 false), n 16 (mov 16 (v 1)), n 17 (idx 17 (v 15) (v 16) 3), n 18 (ld 18 (v 17) 3 true), n 19 (call (some 19) 138 [v 18]), n 4 (asg 4 (v 19))]) .ret))
def c_I_NextPage : Cmd := Q (R [n 2 (box 2 (v 0)), n 4 (asg 4 (k 0))]) (Q (Q (R [n 8 (ld 8 (v 2) 1 true), n 9 (mov 9 (v 1)), n 10 (call (some 10) 139 [v 8, v 9]), n 11 (un 11 .not (v 10))]) (F (v 11) (Q (R [n 4 (asg 4 (k (-1)))]) .ret) .skip)) (Q (R [n 5 (asg 5 (k 0))]) (Q (Q (R [n 12 (fld 12 (v 2) 0), n 13 (ld 13 (v 12) 1 false), n 14 (mov 14 (v 1)), n 15 (idx 15 (v 13) (v 14) 3), n 16 (fld 16 (v 15) 0), n 17 (ld 17 (v 16) 1 false), n 18 (len 18 (v 17)), n 19 (mov 19 (k 0))]) (.blk 0 (.loop (Q (R [n 20 (bin 20 .lss (v 19) (v 18))]) (Q (F (v 20) .skip (.exit 0)) (Q (.blk 1 (Q (R [n 21 (idx 21 (v 17) (v 19) 2), n 22 (ld 22 (v 21) 2 true), n 7 (alc 7 [.bool false, .sl 1 []]), m (st (v 7) (v 22) 2)]) (Q (R [n 23 (fld 23 (v 7) 0), n 24 (ld 24 (v 23) 1 false)]) (F (v 24) (R [n 25 (mov 25 (v 5)), n 26 (bin 26 .add (v 25) (k 1)), n 5 (asg 5 (v 26))]) .skip)))) (R [n 27 (bin 27 .add (v 19) (k 1)), n 19 (mov 19 (v 27))]))))))) (Q (R [n 28 (mov 28 (v 5)), n 4 (asg 4 (v 28))]) .ret))))
def c_S_ChipOk : Cmd := Q (R [n 1 (box 1 (v 0)), n 2 (asg 2 k0)]) (Q (Q (R [n 3 (asg 3 (k 0))]) (.blk 0 (.loop (Q (Q (R [n 4 (mov 4 (v 3)), n 5 (fld 5 (v 1) 0), n 6 (ld 6 (v 5) 1 false), n 7 (len 7 (v 6)), n 8 (bin 8 .lss (v 4) (v 7))]) (F (v 8) .skip (.exit 0))) (Q (.blk 1 (Q (R [n 11 (fld 11 (v 1) 0), n 12 (ld 12 (v 11) 1 false), n 13 (mov 13 (v 3)), n 14 (idx 14 (v 12) (v 13) 3), n 15 (ld 15 (v 14) 3 true), n 16 (call (some 16) 140 [v 15]), n 17 (un 17 .not (v 16))]) (F (v 17) (Q (R [n 2 (asg 2 k0)]) .ret) .skip))) (R [n 9 (mov 9 (v 3)), n 10 (bin 10 .add (v 9) (k 1)), n 3 (asg 3 (v 10))])))))) (Q (R [n 18 (fld 18 (v 1) 0), n 19 (ld 19 (v 18) 1 false), n 20 (len 20 (v 19)), n 21 (call (some 21) 120 [v 20, k 3, k 24]), n 2 (asg 2 (v 21))]) .ret))
def c_I_ChipOk : Cmd := Q (R [n 1 (box 1 (v 0)), n 2 (asg 2 k0)]) (Q (Q (R [n 7 (fld 7 (v 1) 0), n 8 (ld 8 (v 7) 1 false), n 9 (len 9 (v 8)), n 10 (mov 10 (k 0))]) (.blk 0 (.loop (Q (R [n 11 (bin 11 .lss (v 10) (v 9))]) (Q (F (v 11) .skip (.exit 0)) (Q (.blk 1 (Q (R [n 12 (idx 12 (v 8) (v 10) 3), n 13 (ld 13 (v 12) 3 true), n 4 (alc 4 [.sl 2 [], .int .i64 0, .bool false]), m (st (v 4) (v 13) 3)]) (Q (Q (R [n 14 (fld 14 (v 4) 0), n 15 (ld 15 (v 14) 1 false), n 16 (len 16 (v 15)), n 17 (bin 17 .neq (v 16) (k 8)), n 18 (mov 18 (v 17)), h 18 false 19 (fld 19 (v 4) 1), h 18 false 20 (ld 20 (v 19) 1 false), h 18 false 21 (call (some 21) 121 [v 20, k 0, k 100000]), h 18 false 22 (un 22 .not (v 21)), n 23 (pck 23 (v 18) k1 (v 22))]) (F (v 23) (Q (R [n 2 (asg 2 k0)]) .ret) .skip)) (Q (R [n 24 (fld 24 (v 4) 0), n 25 (ld 25 (v 24) 1 false), n 26 (len 26 (v 25)), n 27 (mov 27 (k 0))]) (.blk 2 (.loop (Q (R [n 28 (bin 28 .lss (v 27) (v 26))]) (Q (F (v 28) .skip (.exit 2)) (Q (.blk 3 (Q (R [n 29 (mov 29 (v 27)), n 30 (idx 30 (v 25) (v 27) 2), n 31 (ld 31 (v 30) 2 true), n 6 (alc 6 [.bool false, .sl 1 []]), n 5 (asg 5 (v 29)), m (st (v 6) (v 31) 2)]) (Q (R [n 32 (fld 32 (v 6) 1), n 33 (ld 33 (v 32) 1 false), n 34 (len 34 (v 33)), n 35 (bin 35 .gtr (v 34) (k 400)), n 36 (mov 36 (v 35)), h 36 false 37 (fld 37 (v 6) 0), h 36 false 38 (ld 38 (v 37) 1 false), h 36 false 39 (un 39 .not (v 38)), h 36 false 40 (mov 40 (v 39)), h 40 true 41 (fld 41 (v 6) 1), h 40 true 42 (ld 42 (v 41) 1 false), h 40 true 43 (len 43 (v 42)), h 40 true 44 (bin 44 .gtr (v 43) (k 0)), h 36 false 45 (pck 45 (v 40) (v 44) k0), n 46 (pck 46 (v 36) k1 (v 45)), n 47 (mov 47 (v 46)), h 47 false 48 (mov 48 (v 5)), h 47 false 49 (bin 49 .gtr (v 48) (k 0)), h 47 false 50 (mov 50 (v 49)), h 50 true 51 (fld 51 (v 6) 0), h 50 true 52 (ld 52 (v 51) 1 false), h 47 false 53 (pck 53 (v 50) (v 52) k0), h 47 false 54 (mov 54 (v 53)), h 54 true 55 (fld 55 (v 4) 0), h 54 true 56 (ld 56 (v 55) 1 false), h 54 true 57 (mov 57 (v 5)), h 54 true 58 (bin 58 .sub (v 57) (k 1)), h 54 true 59 (idx 59 (v 56) (v 58) 2), h 54 true 60 (fld 60 (v 59) 0), h 54 true 61 (ld 61 (v 60) 1 false), h 54 true 62 (un 62 .not (v 61)), h 47 false 63 (pck 63 (v 54) (v 62) k0), n 64 (pck 64 (v 47) k1 (v 63))]) (F (v 64) (Q (R [n 2 (asg 2 k0)]) .ret) .skip)))) (R [n 65 (bin 65 .add (v 27) (k 1)), n 27 (mov 27 (v 65))])))))))))) (R [n 66 (bin 66 .add (v 10) (k 1)), n 10 (mov 10 (v 66))]))))))) (Q (R [n 67 (fld 67 (v 1) 0), n 68 (ld 68 (v 67) 1 false), n 69 (len 69 (v 68)), n 70 (call (some 70) 121 [v 69, k 3, k 24]), n 2 (asg 2 (v 70))]) .ret))
def c_I_Program : Cmd := Q (R [n 3 (box 3 (v 0)), n 6 (alc 6 [.sl 3 []]), n 7 (asg 7 (k 0))]) (Q (R [n 9 (ld 9 (v 3) 1 true), n 10 (call (some 10) 149 [v 9]), m (st (v 3) (v 10) 1)]) (Q (Q (R [n 11 (ld 11 (v 3) 1 true), n 12 (call (some 12) 67 [v 11]), n 13 (un 13 .not (v 12)), n 14 (mov 14 (v 13)), h 14 false 15 (ld 15 (v 3) 1 true), h 14 false 16 (mov 16 (v 1)), h 14 false 17 (call (some 17) 139 [v 15, v 16]), h 14 false 18 (un 18 .not (v 17)), n 19 (pck 19 (v 14) k1 (v 18)), n 20 (mov 20 (v 19)), h 20 false 21 (mov 21 (v 2)), h 20 false 22 (len 22 (v 21)), h 20 false 23 (bin 23 .gtr (v 22) (k 400)), n 24 (pck 24 (v 20) k1 (v 23))]) (F (v 24) (Q (R [n 25 (ld 25 (v 3) 1 true), m (st (v 6) (v 25) 1), n 7 (asg 7 (k 1))]) .ret) .skip)) (Q (R [n 26 (ld 26 (v 3) 1 true), n 27 (mov 27 (v 1)), n 28 (call (some 28) 65 [v 26, v 27]), n 8 (asg 8 (v 28))]) (Q (.blk 0 (Q (R [n 30 (fld 30 (v 3) 0), n 31 (ld 31 (v 30) 1 false), n 32 (mov 32 (v 1)), n 33 (idx 33 (v 31) (v 32) 3), n 34 (fld 34 (v 33) 2), n 35 (ld 35 (v 34) 1 false), n 29 (asg 29 (v 35))]) (F (v 29) (Q (R [n 36 (ld 36 (v 3) 1 true), m (st (v 6) (v 36) 1), n 7 (asg 7 (k 2))]) .ret) (Q (R [n 38 (mov 38 (v 8)), n 39 (bin 39 .eql (v 38) (k 8)), n 37 (asg 37 (v 39))]) (F (v 37) (Q (R [n 40 (ld 40 (v 3) 1 true), m (st (v 6) (v 40) 1), n 7 (asg 7 (k 5))]) .ret) .skip))))) (Q (D [0, 1, 0, 7, 15, 31, 0, 0, 128, 384, 1023, 2047] [n 41 (fld 41 (v 3) 0), n 42 (ld 42 (v 41) 1 false), n 43 (mov 43 (v 1)), n 44 (idx 44 (v 42) (v 43) 3), n 45 (fld 45 (v 44) 0), n 46 (ld 46 (v 45) 1 false), n 47 (mov 47 (v 8)), n 48 (mov 48 (v 2)), n 49 (call (some 49) 144 [v 48]), n 50 (bld 50 [.bool false, .sl 1 []] [(0, 1, k1), (1, 1, v 49)]), n 51 (idx 51 (v 46) (v 47) 2), m (st (v 51) (v 50) 2)]) (Q (R [n 52 (ld 52 (v 3) 1 true), m (st (v 6) (v 52) 1), n 7 (asg 7 (k 0))]) .ret))))))
def c_L_szDev : Cmd := Q (R [n 2 (box 2 (v 0)), n 4 (asg 4 (k 0))]) (Q (R [n 5 (fld 5 (v 2) 0), n 6 (ld 6 (v 5) 1 true), n 7 (mov 7 (v 1)), n 8 (call (some 8) 56 [v 6, v 7]), n 1 (asg 1 (v 8))]) (Q (Q (R [n 9 (mov 9 (v 1)), n 10 (bin 10 .lss (v 9) (k 0))]) (F (v 10) (Q (R [n 4 (asg 4 (k (-1)))]) .ret) .skip)) (Q (R [n 11 (fld 11 (v 2) 2), n 12 (ld 12 (v 11) 1 false), n 13 (mov 13 (v 1)), n 14 (call (some 14) 101 [v 12, v 13]), n 1 (asg 1 (v 14))]) (Q (Q (R [n 15 (mov 15 (v 1)), n 16 (bin 16 .lss (v 15) (k 0))]) (F (v 16) (Q (R [n 4 (asg 4 (k (-1)))]) .ret) .skip)) (Q (R [n 17 (mov 17 (v 1)), n 4 (asg 4 (v 17))]) .ret)))))
def c_S_FaultAt : Cmd := Q (R [n 1 (box 1 (v 0)), n 2 (alc 2 [.int .i64 0, .int .i64 0, .int .i64 0]), n 3 (asg 3 k0)]) (Q (Q (R [n 4 (asg 4 (k 0))]) (.blk 0 (.loop (Q (Q (R [n 5 (mov 5 (v 4)), n 6 (fld 6 (v 1) 2), n 7 (ld 7 (v 6) 1 false), n 8 (len 8 (v 7)), n 9 (bin 9 .lss (v 5) (v 8))]) (F (v 9) .skip (.exit 0))) (Q (.blk 1 (Q (D [0, 1, 0, 7, 15, 31, 0, 64, 255] [n 12 (fld 12 (v 1) 2), n 13 (ld 13 (v 12) 1 false), n 14 (mov 14 (v 4)), n 15 (idx 15 (v 13) (v 14) 3), n 16 (fld 16 (v 15) 0), n 17 (ld 17 (v 16) 1 false), n 18 (fld 18 (v 1) 1), n 19 (ld 19 (v 18) 1 false), n 20 (bin 20 .eql (v 17) (v 19))]) (F (v 20) (Q (R [n 21 (fld 21 (v 1) 2), n 22 (ld 22 (v 21) 1 false), n 23 (mov 23 (v 4)), n 24 (idx 24 (v 22) (v 23) 3), n 25 (ld 25 (v 24) 3 true), m (st (v 2) (v 25) 3), n 3 (asg 3 k1)]) .ret) .skip))) (R [n 10 (mov 10 (v 4)), n 11 (bin 11 .add (v 10) (k 1)), n 4 (asg 4 (v 11))])))))) (Q (R [n 26 (bld 26 [.int .i64 0, .int .i64 0, .int .i64 0] []), m (st (v 2) (v 26) 3), n 3 (asg 3 k0)]) .ret))
def c_L_toDev : Cmd := Q (R [n 1 (box 1 (v 0)), n 2 (alc 2 [.sl 3 [], .int .i64 0, .sl 3 [], .bool false])]) (Q (R [n 3 (alc 3 [.sl 3 [], .int .i64 0, .sl 3 [], .bool false])]) (Q (R [n 4 (fld 4 (v 1) 0), n 5 (ld 5 (v 4) 1 true), n 6 (call (some 6) 58 [v 5]), n 7 (fld 7 (v 3) 0), m (st (v 7) (v 6) 1)]) (Q (R [n 8 (fld 8 (v 1) 1), n 9 (ld 9 (v 8) 1 false), n 10 (fld 10 (v 3) 1), m (st (v 10) (v 9) 1)]) (Q (R [n 11 (fld 11 (v 1) 2), n 12 (ld 12 (v 11) 1 false), n 13 (call (some 13) 103 [v 12]), n 14 (fld 14 (v 3) 2), m (st (v 14) (v 13) 1)]) (Q (R [n 15 (fld 15 (v 1) 3), n 16 (ld 16 (v 15) 1 false), n 17 (fld 17 (v 3) 3), m (st (v 17) (v 16) 1)]) (Q (R [n 18 (ld 18 (v 3) 4 true), m (st (v 2) (v 18) 4)]) .ret))))))
def c_I_FaultAt : Cmd := Q (R [n 1 (box 1 (v 0)), n 2 (alc 2 [.int .i64 0, .int .i64 0, .int .i64 0]), n 3 (asg 3 k0)]) (Q (Q (R [n 6 (fld 6 (v 1) 2), n 7 (ld 7 (v 6) 1 false), n 8 (len 8 (v 7)), n 9 (mov 9 (k 0))]) (.blk 0 (.loop (Q (R [n 10 (bin 10 .lss (v 9) (v 8))]) (Q (F (v 10) .skip (.exit 0)) (Q (.blk 1 (Q (R [n 11 (idx 11 (v 7) (v 9) 3), n 12 (ld 12 (v 11) 3 true), n 5 (alc 5 [.int .i64 0, .int .i64 0, .int .i64 0]), m (st (v 5) (v 12) 3)]) (Q (R [n 13 (fld 13 (v 5) 0), n 14 (ld 14 (v 13) 1 false), n 15 (fld 15 (v 1) 1), n 16 (ld 16 (v 15) 1 false), n 17 (bin 17 .eql (v 14) (v 16))]) (F (v 17) (Q (R [n 18 (ld 18 (v 5) 3 true), m (st (v 2) (v 18) 3), n 3 (asg 3 k1)]) .ret) .skip)))) (R [n 19 (bin 19 .add (v 9) (k 1)), n 9 (mov 9 (v 19))]))))))) (Q (R [n 20 (bld 20 [.int .i64 0, .int .i64 0, .int .i64 0] []), m (st (v 2) (v 20) 3), n 3 (asg 3 k0)]) .ret))
def c_L_eqFault : Cmd := Q (R [n 2 (box 2 (v 0)), n 3 (box 3 (v 1)), n 4 (asg 4 k0)]) (Q (Q (R [n 5 (fld 5 (v 2) 0), n 6 (ld 6 (v 5) 1 false), n 7 (fld 7 (v 3) 0), n 8 (ld 8 (v 7) 1 false), n 9 (bin 9 .neq (v 6) (v 8))]) (F (v 9) (Q (R [n 4 (asg 4 k0)]) .ret) .skip)) (Q (Q (R [n 10 (fld 10 (v 2) 1), n 11 (ld 11 (v 10) 1 false), n 12 (fld 12 (v 3) 1), n 13 (ld 13 (v 12) 1 false), n 14 (bin 14 .neq (v 11) (v 13))]) (F (v 14) (Q (R [n 4 (asg 4 k0)]) .ret) .skip)) (Q (Q (R [n 15 (fld 15 (v 2) 2), n 16 (ld 16 (v 15) 1 false), n 17 (fld 17 (v 3) 2), n 18 (ld 18 (v 17) 1 false), n 19 (bin 19 .neq (v 16) (v 18))]) (F (v 19) (Q (R [n 4 (asg 4 k0)]) .ret) .skip)) (Q (R [n 4 (asg 4 k1)]) .ret))))
def c_L_eqDev : Cmd := Q (R [n 2 (box 2 (v 0)), n 3 (box 3 (v 1)), n 4 (asg 4 k0)]) (Q (Q (R [n 5 (fld 5 (v 2) 0), n 6 (ld 6 (v 5) 1 true), n 7 (fld 7 (v 3) 0), n 8 (ld 8 (v 7) 1 true), n 9 (call (some 9) 50 [v 6, v 8]), n 10 (un 10 .not (v 9))]) (F (v 10) (Q (R [n 4 (asg 4 k0)]) .ret) .skip)) (Q (Q (R [n 11 (fld 11 (v 2) 1), n 12 (ld 12 (v 11) 1 false), n 13 (fld 13 (v 3) 1), n 14 (ld 14 (v 13) 1 false), n 15 (bin 15 .neq (v 12) (v 14))]) (F (v 15) (Q (R [n 4 (asg 4 k0)]) .ret) .skip)) (Q (Q (R [n 16 (fld 16 (v 2) 2), n 17 (ld 17 (v 16) 1 false), n 18 (fld 18 (v 3) 2), n 19 (ld 19 (v 18) 1 false), n 20 (call (some 20) 105 [v 17, v 19]), n 21 (un 21 .not (v 20))]) (F (v 21) (Q (R [n 4 (asg 4 k0)]) .ret) .skip)) (Q (Q (R [n 22 (fld 22 (v 2) 3), n 23 (ld 23 (v 22) 1 false), n 24 (fld 24 (v 3) 3), n 25 (ld 25 (v 24) 1 false), n 26 (beq 26 true (v 23) (v 25))]) (F (v 26) (Q (R [n 4 (asg 4 k0)]) .ret) .skip)) (Q (R [n 4 (asg 4 k1)]) .ret)))))
def c_S_Program : Cmd := Q (R [n 3 (box 3 (v 0)), n 6 (alc 6 [.sl 3 []]), n 7 (asg 7 (k 0))]) (Q (R [n 10 (ld 10 (v 3) 1 true), n 11 (call (some 11) 151 [v 10]), n 8 (alc 8 [.sl 3 []]), m (st (v 8) (v 11) 1)]) (Q (R [n 12 (ld 12 (v 3) 1 true), n 13 (mov 13 (v 1)), n 14 (mov 14 (v 2)), n 15 (call (some 15) 155 [v 12, v 13, v 14]), n 9 (asg 9 (v 15))]) (Q (Q (R [n 16 (mov 16 (v 9)), n 17 (bin 17 .eql (v 16) (k 0))]) (F (v 17) (D [0, 1, 0, 7, 15, 31, 0, 0, 192, 0, 0, 1984, 4032, 8191, 16383] [n 18 (fld 18 (v 8) 0), n 19 (ld 19 (v 18) 1 false), n 20 (mov 20 (v 1)), n 21 (idx 21 (v 19) (v 20) 3), n 22 (fld 22 (v 21) 0), n 23 (ld 23 (v 22) 1 false), n 24 (ld 24 (v 3) 1 true), n 25 (mov 25 (v 1)), n 26 (call (some 26) 64 [v 24, v 25]), n 27 (bsl 27 1 []), n 28 (mov 28 (v 2)), n 29 (app 29 (v 27) (v 28) 1 1), n 30 (bld 30 [.bool false, .sl 1 []] [(0, 1, k1), (1, 1, v 29)]), n 31 (idx 31 (v 23) (v 26) 2), m (st (v 31) (v 30) 2)]) .skip)) (Q (R [n 32 (ld 32 (v 8) 1 true), n 33 (mov 33 (v 9)), m (st (v 6) (v 32) 1), n 7 (asg 7 (v 33))]) .ret))))
def c_S_DevOk : Cmd := Q (R [n 1 (box 1 (v 0)), n 2 (asg 2 k0)]) (Q (R [n 3 (fld 3 (v 1) 0), n 4 (ld 4 (v 3) 1 true), n 5 (call (some 5) 66 [v 4]), n 6 (mov 6 (v 5)), h 6 true 7 (fld 7 (v 1) 1), h 6 true 8 (ld 8 (v 7) 1 false), h 6 true 9 (call (some 9) 120 [v 8, k 0, k 100000]), n 10 (pck 10 (v 6) (v 9) k0), n 11 (mov 11 (v 10)), h 11 true 12 (fld 12 (v 1) 2), h 11 true 13 (ld 13 (v 12) 1 false), h 11 true 14 (call (some 14) 157 [v 13]), n 15 (pck 15 (v 11) (v 14) k0), n 2 (asg 2 (v 15))]) .ret)
def c_I_DevOk : Cmd := Q (R [n 1 (box 1 (v 0)), n 2 (asg 2 k0)]) (Q (Q (R [n 5 (fld 5 (v 1) 2), n 6 (ld 6 (v 5) 1 false), n 7 (len 7 (v 6)), n 8 (mov 8 (k 0))]) (.blk 0 (.loop (Q (R [n 9 (bin 9 .lss (v 8) (v 7))]) (Q (F (v 9) .skip (.exit 0)) (Q (.blk 1 (Q (R [n 10 (mov 10 (v 8)), n 11 (idx 11 (v 6) (v 8) 3), n 12 (ld 12 (v 11) 3 true), n 4 (alc 4 [.int .i64 0, .int .i64 0, .int .i64 0]), n 3 (asg 3 (v 10)), m (st (v 4) (v 12) 3)]) (Q (D [0, 1, 3, 7, 15, 31, 63, 127, 255, 511, 1023, 2047, 4095, 8191, 16383, 32767, 65535, 131071, 262143, 524287, 1048575, 2097151, 1048575, 5242879, 16777215, 33554431, 67108863, 1048575, 135266303, 536870911, 1073741823, 2147483647] [n 13 (fld 13 (v 4) 0), n 14 (ld 14 (v 13) 1 false), n 15 (call (some 15) 121 [v 14, k 0, k 100000]), n 16 (un 16 .not (v 15)), n 17 (mov 17 (v 16)), h 17 false 18 (fld 18 (v 4) 1), h 17 false 19 (ld 19 (v 18) 1 false), h 17 false 20 (call (some 20) 121 [v 19, k 1, k 2]), h 17 false 21 (un 21 .not (v 20)), n 22 (pck 22 (v 17) k1 (v 21)), n 23 (mov 23 (v 22)), h 23 false 24 (fld 24 (v 4) 2), h 23 false 25 (ld 25 (v 24) 1 false), h 23 false 26 (call (some 26) 121 [v 25, k 0, k 400]), h 23 false 27 (un 27 .not (v 26)), n 28 (pck 28 (v 23) k1 (v 27)), n 29 (mov 29 (v 28)), h 29 false 30 (mov 30 (v 3)), h 29 false 31 (bin 31 .gtr (v 30) (k 0)), h 29 false 32 (mov 32 (v 31)), h 32 true 33 (fld 33 (v 1) 2), h 32 true 34 (ld 34 (v 33) 1 false), h 32 true 35 (mov 35 (v 3)), h 32 true 36 (bin 36 .sub (v 35) (k 1)), h 32 true 37 (idx 37 (v 34) (v 36) 3), h 32 true 38 (fld 38 (v 37) 0), h 32 true 39 (ld 39 (v 38) 1 false), h 32 true 40 (fld 40 (v 4) 0), h 32 true 41 (ld 41 (v 40) 1 false), h 32 true 42 (bin 42 .geq (v 39) (v 41)), h 29 false 43 (pck 43 (v 32) (v 42) k0), n 44 (pck 44 (v 29) k1 (v 43))]) (F (v 44) (Q (R [n 2 (asg 2 k0)]) .ret) .skip)))) (R [n 45 (bin 45 .add (v 8) (k 1)), n 8 (mov 8 (v 45))]))))))) (Q (R [n 46 (fld 46 (v 1) 0), n 47 (ld 47 (v 46) 1 true), n 48 (call (some 48) 67 [v 47]), n 49 (mov 49 (v 48)), h 49 true 50 (fld 50 (v 1) 1), h 49 true 51 (ld 51 (v 50) 1 false), h 49 true 52 (call (some 52) 121 [v 51, k 0, k 100000]), n 53 (pck 53 (v 49) (v 52) k0), n 54 (mov 54 (v 53)), h 54 true 55 (fld 55 (v 1) 2), h 54 true 56 (ld 56 (v 55) 1 false), h 54 true 57 (len 57 (v 56)), h 54 true 58 (bin 58 .leq (v 57) (k 20)), n 59 (pck 59 (v 54) (v 58) k0), n 2 (asg 2 (v 59))]) .ret))
def c_L_szFaultS : Cmd := Q (R [n 4 (asg 4 (k 0))]) (Q (R [n 5 (mov 5 (v 1)), n 6 (mov 6 (v 0)), n 7 (len 7 (v 6)), n 8 (bin 8 .sub (v 5) (v 7)), n 1 (asg 1 (v 8))]) (Q (Q (R [n 9 (mov 9 (v 1)), n 10 (bin 10 .lss (v 9) (k 0))]) (F (v 10) (Q (R [n 4 (asg 4 (k (-1)))]) .ret) .skip)) (Q (R [n 11 (mov 11 (v 1)), n 4 (asg 4 (v 11))]) .ret)))
def c_L_toFaultS : Cmd := Q (R [n 2 (asg 2 (.c (.own 3 [])))]) (Q (R [n 5 (mov 5 (v 0)), n 6 (len 6 (v 5)), n 7 (mks 7 (v 6) (v 6) 3 24 [.int .i64 0, .int .i64 0, .int .i64 0]), n 3 (asg 3 (v 7))]) (Q (Q (R [n 4 (asg 4 (k 0))]) (.blk 0 (.loop (Q (Q (R [n 8 (mov 8 (v 4)), n 9 (mov 9 (v 0)), n 10 (len 10 (v 9)), n 11 (bin 11 .lss (v 8) (v 10))]) (F (v 11) .skip (.exit 0))) (Q (.blk 1 (R [n 14 (mov 14 (v 3)), n 15 (mov 15 (v 4)), n 16 (mov 16 (v 0)), n 17 (mov 17 (v 4)), n 18 (idx 18 (v 16) (v 17) 3), n 19 (ld 19 (v 18) 3 true), n 20 (call (some 20) 158 [v 19]), n 21 (idx 21 (v 14) (v 15) 3), m (st (v 21) (v 20) 3)])) (R [n 12 (mov 12 (v 4)), n 13 (bin 13 .add (v 12) (k 1)), n 4 (asg 4 (v 13))])))))) (Q (R [n 22 (mov 22 (v 3)), n 2 (asg 2 (v 22))]) .ret)))
def c_L_eqFaultS : Cmd := Q (R [n 4 (asg 4 k0)]) (Q (Q (R [n 6 (mov 6 (v 0)), n 7 (len 7 (v 6)), n 8 (mov 8 (v 1)), n 9 (len 9 (v 8)), n 10 (bin 10 .neq (v 7) (v 9))]) (F (v 10) (Q (R [n 4 (asg 4 k0)]) .ret) .skip)) (Q (Q (R [n 5 (asg 5 (k 0))]) (.blk 0 (.loop (Q (Q (R [n 11 (mov 11 (v 5)), n 12 (mov 12 (v 0)), n 13 (len 13 (v 12)), n 14 (bin 14 .lss (v 11) (v 13))]) (F (v 14) .skip (.exit 0))) (Q (.blk 1 (Q (D [0, 0, 3, 7, 0, 0, 48, 112, 255, 511] [n 17 (mov 17 (v 0)), n 18 (mov 18 (v 5)), n 19 (idx 19 (v 17) (v 18) 3), n 20 (ld 20 (v 19) 3 true), n 21 (mov 21 (v 1)), n 22 (mov 22 (v 5)), n 23 (idx 23 (v 21) (v 22) 3), n 24 (ld 24 (v 23) 3 true), n 25 (call (some 25) 85 [v 20, v 24]), n 26 (un 26 .not (v 25))]) (F (v 26) (Q (R [n 4 (asg 4 k0)]) .ret) .skip))) (R [n 15 (mov 15 (v 5)), n 16 (bin 16 .add (v 15) (k 1)), n 5 (asg 5 (v 16))])))))) (Q (R [n 4 (asg 4 k1)]) .ret)))
def c_L_markFaultS : Cmd := Q (R [n 4 (asg 4 (k 0))]) (Q (Q (R [n 5 (asg 5 (k 0))]) (.blk 0 (.loop (Q (Q (R [n 6 (mov 6 (v 5)), n 7 (mov 7 (v 0)), n 8 (len 8 (v 7)), n 9 (bin 9 .lss (v 6) (v 8))]) (F (v 9) .skip (.exit 0))) (Q (.blk 1 (Q (R [n 12 (mov 12 (v 0)), n 13 (mov 13 (v 5)), n 14 (mov 14 (v 1)), n 15 (idx 15 (v 12) (v 13) 3), n 16 (fld 16 (v 15) 0), m (st (v 16) (v 14) 1)]) (Q (R [n 17 (mov 17 (v 1)), n 18 (bin 18 .add (v 17) (k 1)), n 1 (asg 1 (v 18))]) (Q (R [n 19 (mov 19 (v 0)), n 20 (mov 20 (v 5)), n 21 (mov 21 (v 1)), n 22 (idx 22 (v 19) (v 20) 3), n 23 (fld 23 (v 22) 1), m (st (v 23) (v 21) 1)]) (Q (R [n 24 (mov 24 (v 1)), n 25 (bin 25 .add (v 24) (k 1)), n 1 (asg 1 (v 25))]) (Q (R [n 26 (mov 26 (v 0)), n 27 (mov 27 (v 5)), n 28 (mov 28 (v 1)), n 29 (idx 29 (v 26) (v 27) 3), n 30 (fld 30 (v 29) 2), m (st (v 30) (v 28) 1)]) (R [n 31 (mov 31 (v 1)), n 32 (bin 32 .add (v 31) (k 1)), n 1 (asg 1 (v 32))]))))))) (R [n 10 (mov 10 (v 5)), n 11 (bin 11 .add (v 10) (k 1)), n 5 (asg 5 (v 11))])))))) (Q (R [n 33 (mov 33 (v 1)), n 4 (asg 4 (v 33))]) .ret))
def c_L_markDev : Cmd := Q (R [n 2 (box 2 (v 0)), n 4 (asg 4 (k 0))]) (Q (R [n 5 (fld 5 (v 2) 0), n 6 (ld 6 (v 5) 1 true), n 7 (mov 7 (v 1)), n 8 (call (some 8) 51 [v 6, v 7]), n 1 (asg 1 (v 8))]) (Q (R [n 9 (fld 9 (v 2) 2), n 10 (ld 10 (v 9) 1 false), n 11 (mov 11 (v 1)), n 12 (call (some 12) 106 [v 10, v 11]), n 1 (asg 1 (v 12))]) (Q (R [n 13 (mov 13 (v 1)), n 4 (asg 4 (v 13))]) .ret)))
def c_L_heldDev : Cmd := Q (R [n 2 (box 2 (v 0)), n 4 (asg 4 (k 0))]) (Q (R [n 5 (fld 5 (v 2) 0), n 6 (ld 6 (v 5) 1 true), n 7 (mov 7 (v 1)), n 8 (call (some 8) 52 [v 6, v 7]), n 1 (asg 1 (v 8))]) (Q (Q (R [n 9 (mov 9 (v 1)), n 10 (bin 10 .lss (v 9) (k 0))]) (F (v 10) (Q (R [n 4 (asg 4 (k (-1)))]) .ret) .skip)) (Q (R [n 11 (fld 11 (v 2) 2), n 12 (ld 12 (v 11) 1 false), n 13 (mov 13 (v 1)), n 14 (call (some 14) 160 [v 12, v 13]), n 1 (asg 1 (v 14))]) (Q (Q (R [n 15 (mov 15 (v 1)), n 16 (bin 16 .lss (v 15) (k 0))]) (F (v 16) (Q (R [n 4 (asg 4 (k (-1)))]) .ret) .skip)) (Q (R [n 17 (mov 17 (v 1)), n 4 (asg 4 (v 17))]) .ret)))))
def c_I_DevProgram : Cmd := Q (R [n 3 (box 3 (v 0)), n 4 (box 4 (v 1)), n 5 (box 5 (v 2)), n 6 (alc 6 [.sl 3 [], .int .i64 0, .sl 3 [], .bool false]), n 7 (asg 7 (k 0))]) (Q (R [n 10 (ld 10 (v 3) 4 true), n 11 (call (some 11) 162 [v 10]), m (st (v 3) (v 11) 4)]) (Q (Q (R [n 12 (ld 12 (v 3) 4 true), n 13 (call (some 13) 95 [v 12]), n 14 (un 14 .not (v 13))]) (F (v 14) (Q (R [n 15 (ld 15 (v 3) 4 true), m (st (v 6) (v 15) 4), n 7 (asg 7 (k 1))]) .ret) .skip)) (Q (Q (R [n 16 (fld 16 (v 3) 3), n 17 (ld 17 (v 16) 1 false), n 18 (mov 18 (v 17)), h 18 false 19 (fld 19 (v 3) 1), h 18 false 20 (ld 20 (v 19) 1 false), h 18 false 21 (bin 21 .eql (v 20) (k 100000)), n 22 (pck 22 (v 18) k1 (v 21))]) (F (v 22) (Q (R [n 23 (ld 23 (v 3) 4 true), m (st (v 6) (v 23) 4), n 7 (asg 7 (k 10))]) .ret) .skip)) (Q (R [n 25 (fld 25 (v 3) 0), n 26 (ld 26 (v 25) 1 true), n 27 (ld 27 (v 4) 1 false), n 28 (ld 28 (v 5) 1 false), n 29 (call (some 29) 78 [v 26, v 27, v 28]), n 24 (mov 24 (v 29)), n 30 (xtr 30 (v 24) 0), n 31 (xtr 31 (v 24) 1), n 8 (alc 8 [.sl 3 []]), m (st (v 8) (v 30) 1), n 9 (asg 9 (v 31))]) (Q (R [n 32 (ld 32 (v 3) 4 true), n 33 (ld 33 (v 4) 1 false), n 34 (ld 34 (v 8) 1 true), n 35 (mov 35 (v 9)), n 36 (mkf 36 165 [v 3, v 4, v 5]), n 37 (call (some 37) 164 [v 32, v 33, v 34, v 35, v 36]), n 38 (xtr 38 (v 37) 0), n 39 (xtr 39 (v 37) 1), m (st (v 6) (v 38) 4), n 7 (asg 7 (v 39))]) .ret)))))
def c_S_DevProgram : Cmd := Q (R [n 3 (box 3 (v 0)), n 6 (alc 6 [.sl 3 [], .int .i64 0, .sl 3 [], .bool false]), n 7 (asg 7 (k 0))]) (Q (R [n 13 (ld 13 (v 3) 4 true), n 14 (call (some 14) 161 [v 13]), n 8 (alc 8 [.sl 3 [], .int .i64 0, .sl 3 [], .bool false]), m (st (v 8) (v 14) 4)]) (Q (D [0, 0, 2, 0, 0, 30, 63, 127] [n 15 (ld 15 (v 3) 4 true), n 16 (fld 16 (v 3) 0), n 17 (ld 17 (v 16) 1 true), n 18 (mov 18 (v 1)), n 19 (mov 19 (v 2)), n 20 (call (some 20) 155 [v 17, v 18, v 19]), n 21 (call (some 21) 166 [v 15, v 20]), n 9 (asg 9 (v 21))]) (Q (Q (R [n 22 (mov 22 (v 9)), n 23 (bin 23 .neq (v 22) (k 0))]) (F (v 23) (Q (R [n 24 (ld 24 (v 8) 4 true), n 25 (mov 25 (v 9)), m (st (v 6) (v 24) 4), n 7 (asg 7 (v 25))]) .ret) .skip)) (Q (R [n 27 (ld 27 (v 3) 4 true), n 28 (call (some 28) 82 [v 27]), n 26 (mov 26 (v 28)), n 29 (xtr 29 (v 26) 0), n 30 (xtr 30 (v 26) 1), n 10 (alc 10 [.int .i64 0, .int .i64 0, .int .i64 0]), m (st (v 10) (v 29) 3), n 11 (asg 11 (v 30))]) (Q (R [n 31 (fld 31 (v 3) 1), n 32 (ld 32 (v 31) 1 false), n 33 (bin 33 .add (v 32) (k 1)), n 34 (fld 34 (v 8) 1), m (st (v 34) (v 33) 1)]) (Q (Q (R [n 35 (mov 35 (v 11)), n 36 (mov 36 (v 35)), h 36 true 37 (fld 37 (v 10) 1), h 36 true 38 (ld 38 (v 37) 1 false), h 36 true 39 (bin 39 .eql (v 38) (k 1)), n 40 (pck 40 (v 36) (v 39) k0)]) (F (v 40) (Q (R [n 41 (fld 41 (v 8) 0), n 42 (fld 42 (v 41) 0), n 43 (ld 43 (v 42) 1 false), n 44 (mov 44 (v 1)), n 45 (idx 45 (v 43) (v 44) 3), n 46 (fld 46 (v 45) 2), m (st (v 46) k1 1)]) (Q (R [n 47 (ld 47 (v 8) 4 true), m (st (v 6) (v 47) 4), n 7 (asg 7 (k 2))]) .ret)) .skip)) (Q (R [n 48 (mov 48 (v 2)), n 49 (len 49 (v 48)), n 12 (asg 12 (v 49))]) (Q (Q (R [n 50 (mov 50 (v 11)), n 51 (mov 51 (v 50)), h 51 true 52 (fld 52 (v 10) 2), h 51 true 53 (ld 53 (v 52) 1 false), h 51 true 54 (mov 54 (v 12)), h 51 true 55 (bin 55 .lss (v 53) (v 54)), n 56 (pck 56 (v 51) (v 55) k0)]) (F (v 56) (R [n 57 (fld 57 (v 10) 2), n 58 (ld 58 (v 57) 1 false), n 12 (asg 12 (v 58))]) .skip)) (Q (D [0, 1, 0, 0, 0, 24, 63, 127, 255, 511, 511, 1535] [n 60 (fld 60 (v 3) 0), n 61 (ld 61 (v 60) 1 true), n 62 (mov 62 (v 1)), n 63 (mov 63 (v 2)), n 64 (mov 64 (v 12)), n 65 (slc 65 (v 63) none (some (v 64)) 1), n 66 (call (some 66) 92 [v 61, v 62, v 65]), n 59 (mov 59 (v 66)), n 67 (xtr 67 (v 59) 0), n 68 (xtr 68 (v 59) 1), n 69 (fld 69 (v 8) 0), m (st (v 69) (v 67) 1)]) (Q (R [n 70 (mov 70 (v 11)), n 71 (fld 71 (v 8) 3), m (st (v 71) (v 70) 1)]) (Q (Q (R [n 72 (mov 72 (v 11))]) (F (v 72) (Q (R [n 73 (ld 73 (v 8) 4 true), m (st (v 6) (v 73) 4), n 7 (asg 7 (k 10))]) .ret) .skip)) (Q (R [n 74 (ld 74 (v 8) 4 true), m (st (v 6) (v 74) 4), n 7 (asg 7 (k 0))]) .ret))))))))))))
def c_L_szByteS : Cmd := Q (R [n 4 (asg 4 (k 0))]) (Q (R [n 5 (mov 5 (v 1)), n 6 (mov 6 (v 0)), n 7 (len 7 (v 6)), n 8 (bin 8 .sub (v 5) (v 7)), n 1 (asg 1 (v 8))]) (Q (Q (R [n 9 (mov 9 (v 1)), n 10 (bin 10 .lss (v 9) (k 0))]) (F (v 10) (Q (R [n 4 (asg 4 (k (-1)))]) .ret) .skip)) (Q (R [n 11 (mov 11 (v 1)), n 4 (asg 4 (v 11))]) .ret)))
def c_S_l1In : Cmd := Q (R [n 6 (asg 6 k0)]) (Q (R [n 7 (mov 7 (v 0)), n 8 (mov 8 (v 1)), n 9 (bin 9 .geq (v 7) (v 8)), n 10 (mov 10 (v 9)), h 10 true 11 (mov 11 (v 0)), h 10 true 12 (mov 12 (v 2)), h 10 true 13 (bin 13 .leq (v 11) (v 12)), n 14 (pck 14 (v 10) (v 13) k0), n 6 (asg 6 (v 14))]) .ret)
def c_I_from : Cmd := Q (R [n 6 (asg 6 k0)]) (Q (R [n 7 (mov 7 (v 0)), n 8 (mov 8 (v 1)), n 9 (bin 9 .geq (v 7) (v 8)), n 10 (mov 10 (v 9)), h 10 true 11 (mov 11 (v 0)), h 10 true 12 (mov 12 (v 2)), h 10 true 13 (bin 13 .leq (v 11) (v 12)), n 14 (pck 14 (v 10) (v 13) k0), n 6 (asg 6 (v 14))]) .ret)
def c_L_eqBlockS : Cmd := Q (R [n 4 (asg 4 k0)]) (Q (Q (R [n 6 (mov 6 (v 0)), n 7 (len 7 (v 6)), n 8 (mov 8 (v 1)), n 9 (len 9 (v 8)), n 10 (bin 10 .neq (v 7) (v 9))]) (F (v 10) (Q (R [n 4 (asg 4 k0)]) .ret) .skip)) (Q (Q (R [n 5 (asg 5 (k 0))]) (.blk 0 (.loop (Q (Q (R [n 11 (mov 11 (v 5)), n 12 (mov 12 (v 0)), n 13 (len 13 (v 12)), n 14 (bin 14 .lss (v 11) (v 13))]) (F (v 14) .skip (.exit 0))) (Q (.blk 1 (Q (D [0, 0, 3, 7, 0, 0, 48, 112, 255, 511] [n 17 (mov 17 (v 0)), n 18 (mov 18 (v 5)), n 19 (idx 19 (v 17) (v 18) 3), n 20 (ld 20 (v 19) 3 true), n 21 (mov 21 (v 1)), n 22 (mov 22 (v 5)), n 23 (idx 23 (v 21) (v 22) 3), n 24 (ld 24 (v 23) 3 true), n 25 (call (some 25) 169 [v 20, v 24]), n 26 (un 26 .not (v 25))]) (F (v 26) (Q (R [n 4 (asg 4 k0)]) .ret) .skip))) (R [n 15 (mov 15 (v 5)), n 16 (bin 16 .add (v 15) (k 1)), n 5 (asg 5 (v 16))])))))) (Q (R [n 4 (asg 4 k1)]) .ret)))
def c_L_markBlockS : Cmd := Q (R [n 4 (asg 4 (k 0))]) (Q (Q (R [n 5 (asg 5 (k 0))]) (.blk 0 (.loop (Q (Q (R [n 6 (mov 6 (v 5)), n 7 (mov 7 (v 0)), n 8 (len 8 (v 7)), n 9 (bin 9 .lss (v 6) (v 8))]) (F (v 9) .skip (.exit 0))) (Q (.blk 1 (Q (R [n 12 (mov 12 (v 0)), n 13 (mov 13 (v 5)), n 14 (idx 14 (v 12) (v 13) 3), n 15 (fld 15 (v 14) 0), n 16 (ld 16 (v 15) 1 false), n 17 (mov 17 (v 1)), n 18 (call (some 18) 170 [v 16, v 17]), n 1 (asg 1 (v 18))]) (Q (R [n 19 (mov 19 (v 0)), n 20 (mov 20 (v 5)), n 21 (mov 21 (v 1)), n 22 (idx 22 (v 19) (v 20) 3), n 23 (fld 23 (v 22) 1), m (st (v 23) (v 21) 1)]) (Q (R [n 24 (mov 24 (v 1)), n 25 (bin 25 .add (v 24) (k 1)), n 1 (asg 1 (v 25))]) (Q (R [n 26 (mov 26 (v 0)), n 27 (mov 27 (v 5)), n 28 (mov 28 (v 1)), n 29 (bin 29 .rem (v 28) (k 3)), n 30 (bin 30 .eql (v 29) (k 0)), n 31 (idx 31 (v 26) (v 27) 3), n 32 (fld 32 (v 31) 2), m (st (v 32) (v 30) 1)]) (R [n 33 (mov 33 (v 1)), n 34 (bin 34 .add (v 33) (k 1)), n 1 (asg 1 (v 34))])))))) (R [n 10 (mov 10 (v 5)), n 11 (bin 11 .add (v 10) (k 1)), n 5 (asg 5 (v 11))])))))) (Q (R [n 35 (mov 35 (v 1)), n 4 (asg 4 (v 35))]) .ret))
def c_L_heldBlockS : Cmd := Q (R [n 4 (asg 4 (k 0))]) (Q (Q (R [n 5 (asg 5 (k 0))]) (.blk 0 (.loop (Q (Q (R [n 6 (mov 6 (v 5)), n 7 (mov 7 (v 0)), n 8 (len 8 (v 7)), n 9 (bin 9 .lss (v 6) (v 8))]) (F (v 9) .skip (.exit 0))) (Q (.blk 1 (Q (R [n 12 (mov 12 (v 0)), n 13 (mov 13 (v 5)), n 14 (idx 14 (v 12) (v 13) 3), n 15 (fld 15 (v 14) 0), n 16 (ld 16 (v 15) 1 false), n 17 (mov 17 (v 1)), n 18 (call (some 18) 171 [v 16, v 17]), n 1 (asg 1 (v 18))]) (Q (Q (R [n 19 (mov 19 (v 1)), n 20 (bin 20 .lss (v 19) (k 0))]) (F (v 20) (Q (R [n 4 (asg 4 (k (-1)))]) .ret) .skip)) (Q (Q (R [n 21 (mov 21 (v 0)), n 22 (mov 22 (v 5)), n 23 (idx 23 (v 21) (v 22) 3), n 24 (fld 24 (v 23) 1), n 25 (ld 25 (v 24) 1 false), n 26 (mov 26 (v 1)), n 27 (bin 27 .neq (v 25) (v 26))]) (F (v 27) (Q (R [n 4 (asg 4 (k (-1)))]) .ret) .skip)) (Q (R [n 28 (mov 28 (v 1)), n 29 (bin 29 .add (v 28) (k 1)), n 1 (asg 1 (v 29))]) (Q (Q (R [n 30 (mov 30 (v 0)), n 31 (mov 31 (v 5)), n 32 (idx 32 (v 30) (v 31) 3), n 33 (fld 33 (v 32) 2), n 34 (ld 34 (v 33) 1 false), n 35 (mov 35 (v 1)), n 36 (bin 36 .rem (v 35) (k 3)), n 37 (bin 37 .eql (v 36) (k 0)), n 38 (beq 38 true (v 34) (v 37))]) (F (v 38) (Q (R [n 4 (asg 4 (k (-1)))]) .ret) .skip)) (R [n 39 (mov 39 (v 1)), n 40 (bin 40 .add (v 39) (k 1)), n 1 (asg 1 (v 40))]))))))) (R [n 10 (mov 10 (v 5)), n 11 (bin 11 .add (v 10) (k 1)), n 5 (asg 5 (v 11))])))))) (Q (R [n 41 (mov 41 (v 1)), n 4 (asg 4 (v 41))]) .ret))
def c_L_szBlockS : Cmd := Q (R [n 4 (asg 4 (k 0))]) (Q (R [n 6 (mov 6 (v 1)), n 7 (mov 7 (v 0)), n 8 (len 8 (v 7)), n 9 (bin 9 .sub (v 6) (v 8)), n 1 (asg 1 (v 9))]) (Q (Q (R [n 10 (mov 10 (v 1)), n 11 (bin 11 .lss (v 10) (k 0))]) (F (v 11) (Q (R [n 4 (asg 4 (k (-1)))]) .ret) .skip)) (Q (Q (R [n 5 (asg 5 (k 0))]) (.blk 0 (.loop (Q (Q (R [n 12 (mov 12 (v 5)), n 13 (mov 13 (v 0)), n 14 (len 14 (v 13)), n 15 (bin 15 .lss (v 12) (v 14))]) (F (v 15) .skip (.exit 0))) (Q (.blk 1 (Q (R [n 18 (mov 18 (v 0)), n 19 (mov 19 (v 5)), n 20 (idx 20 (v 18) (v 19) 3), n 21 (ld 21 (v 20) 3 true), n 22 (mov 22 (v 1)), n 23 (call (some 23) 173 [v 21, v 22]), n 1 (asg 1 (v 23))]) (Q (R [n 24 (mov 24 (v 1)), n 25 (bin 25 .lss (v 24) (k 0))]) (F (v 25) (Q (R [n 4 (asg 4 (k (-1)))]) .ret) .skip)))) (R [n 16 (mov 16 (v 5)), n 17 (bin 17 .add (v 16) (k 1)), n 5 (asg 5 (v 17))])))))) (Q (R [n 26 (mov 26 (v 1)), n 4 (asg 4 (v 26))]) .ret))))
def c_L_toBlockS : Cmd := Q (R [n 2 (asg 2 (.c (.own 3 [])))]) (Q (R [n 5 (mov 5 (v 0)), n 6 (len 6 (v 5)), n 7 (mks 7 (v 6) (v 6) 3 40 [.sl 2 [], .int .i64 0, .bool false]), n 3 (asg 3 (v 7))]) (Q (Q (R [n 4 (asg 4 (k 0))]) (.blk 0 (.loop (Q (Q (R [n 8 (mov 8 (v 4)), n 9 (mov 9 (v 0)), n 10 (len 10 (v 9)), n 11 (bin 11 .lss (v 8) (v 10))]) (F (v 11) .skip (.exit 0))) (Q (.blk 1 (R [n 14 (mov 14 (v 3)), n 15 (mov 15 (v 4)), n 16 (mov 16 (v 0)), n 17 (mov 17 (v 4)), n 18 (idx 18 (v 16) (v 17) 3), n 19 (ld 19 (v 18) 3 true), n 20 (call (some 20) 174 [v 19]), n 21 (idx 21 (v 14) (v 15) 3), m (st (v 21) (v 20) 3)])) (R [n 12 (mov 12 (v 4)), n 13 (bin 13 .add (v 12) (k 1)), n 4 (asg 4 (v 13))])))))) (Q (R [n 22 (mov 22 (v 3)), n 2 (asg 2 (v 22))]) .ret)))
def c_S_l10Next : Cmd := Q (R [n 1 (box 1 (v 0)), n 2 (asg 2 (k 0))]) (Q (R [n 3 (asg 3 (k 0))]) (Q (Q (R [n 4 (asg 4 (k 0))]) (.blk 0 (.loop (Q (Q (R [n 5 (mov 5 (v 4)), n 6 (fld 6 (v 1) 0), n 7 (ld 7 (v 6) 1 false), n 8 (len 8 (v 7)), n 9 (bin 9 .lss (v 5) (v 8))]) (F (v 9) .skip (.exit 0))) (Q (.blk 1 (Q (R [n 12 (fld 12 (v 1) 0), n 13 (ld 13 (v 12) 1 false), n 14 (mov 14 (v 4)), n 15 (idx 15 (v 13) (v 14) 2), n 16 (fld 16 (v 15) 0), n 17 (ld 17 (v 16) 1 false)]) (F (v 17) (R [n 18 (mov 18 (v 3)), n 19 (bin 19 .add (v 18) (k 1)), n 3 (asg 3 (v 19))]) .skip))) (R [n 10 (mov 10 (v 4)), n 11 (bin 11 .add (v 10) (k 1)), n 4 (asg 4 (v 11))])))))) (Q (R [n 20 (mov 20 (v 3)), n 2 (asg 2 (v 20))]) .ret)))
def c_I_isBlock : Cmd := Q (R [n 2 (box 2 (v 0)), n 4 (asg 4 k0)]) (Q (R [n 5 (mov 5 (v 1)), n 6 (fld 6 (v 2) 0), n 7 (ld 7 (v 6) 1 false), n 8 (len 8 (v 7)), n 9 (bin 9 .sub (v 8) (k 1)), n 10 (call (some 10) 121 [v 5, k 0, v 9]), n 4 (asg 4 (v 10))]) .ret)
def c_S_l10Block : Cmd := Q (R [n 1 (box 1 (v 0)), n 2 (asg 2 k0)]) (Q (Q (R [n 5 (fld 5 (v 1) 0), n 6 (ld 6 (v 5) 1 false), n 7 (len 7 (v 6)), n 8 (bin 8 .neq (v 7) (k 8)), n 9 (mov 9 (v 8)), h 9 false 10 (fld 10 (v 1) 1), h 9 false 11 (ld 11 (v 10) 1 false), h 9 false 12 (call (some 12) 120 [v 11, k 0, k 100000]), h 9 false 13 (un 13 .not (v 12)), n 14 (pck 14 (v 9) k1 (v 13))]) (F (v 14) (Q (R [n 2 (asg 2 k0)]) .ret) .skip)) (Q (Q (R [n 3 (asg 3 (k 0))]) (.blk 0 (.loop (Q (Q (R [n 15 (mov 15 (v 3)), n 16 (fld 16 (v 1) 0), n 17 (ld 17 (v 16) 1 false), n 18 (len 18 (v 17)), n 19 (bin 19 .lss (v 15) (v 18))]) (F (v 19) .skip (.exit 0))) (Q (.blk 1 (Q (R [n 22 (fld 22 (v 1) 0), n 23 (ld 23 (v 22) 1 false), n 24 (mov 24 (v 3)), n 25 (idx 25 (v 23) (v 24) 2), n 26 (ld 26 (v 25) 2 true), n 4 (alc 4 [.bool false, .sl 1 []]), m (st (v 4) (v 26) 2)]) (Q (R [n 27 (fld 27 (v 4) 1), n 28 (ld 28 (v 27) 1 false), n 29 (len 29 (v 28)), n 30 (bin 30 .gtr (v 29) (k 400)), n 31 (mov 31 (v 30)), h 31 false 32 (fld 32 (v 4) 0), h 31 false 33 (ld 33 (v 32) 1 false), h 31 false 34 (un 34 .not (v 33)), h 31 false 35 (mov 35 (v 34)), h 35 true 36 (fld 36 (v 4) 1), h 35 true 37 (ld 37 (v 36) 1 false), h 35 true 38 (len 38 (v 37)), h 35 true 39 (bin 39 .gtr (v 38) (k 0)), h 31 false 40 (pck 40 (v 35) (v 39) k0), n 41 (pck 41 (v 31) k1 (v 40)), n 42 (mov 42 (v 41)), h 42 false 43 (mov 43 (v 3)), h 42 false 44 (bin 44 .gtr (v 43) (k 0)), h 42 false 45 (mov 45 (v 44)), h 45 true 46 (fld 46 (v 4) 0), h 45 true 47 (ld 47 (v 46) 1 false), h 42 false 48 (pck 48 (v 45) (v 47) k0), h 42 false 49 (mov 49 (v 48)), h 49 true 50 (fld 50 (v 1) 0), h 49 true 51 (ld 51 (v 50) 1 false), h 49 true 52 (mov 52 (v 3)), h 49 true 53 (bin 53 .sub (v 52) (k 1)), h 49 true 54 (idx 54 (v 51) (v 53) 2), h 49 true 55 (fld 55 (v 54) 0), h 49 true 56 (ld 56 (v 55) 1 false), h 49 true 57 (un 57 .not (v 56)), h 42 false 58 (pck 58 (v 49) (v 57) k0), n 59 (pck 59 (v 42) k1 (v 58))]) (F (v 59) (Q (R [n 2 (asg 2 k0)]) .ret) .skip)))) (R [n 20 (mov 20 (v 3)), n 21 (bin 21 .add (v 20) (k 1)), n 3 (asg 3 (v 21))])))))) (Q (R [n 2 (asg 2 k1)]) .ret)))
def c_X_Clone_byte : Cmd := Q (R [n 2 (asg 2 (.c (.own 1 [])))]) (Q (Q (R [n 3 (mov 3 (v 0)), n 4 (isn 4 false (v 3) (.c (.own 1 [])))]) (F (v 4) (Q (R [n 2 (asg 2 (.c (.own 1 [])))]) .ret) .skip)) (Q (R [n 5 (bsl 5 1 []), n 6 (mov 6 (v 0)), n 7 (app 7 (v 5) (v 6) 1 1), n 2 (asg 2 (v 7))]) .ret))
def c_I_copyChip : Cmd := Q (R [n 1 (box 1 (v 0)), n 2 (alc 2 [.sl 3 []])]) (Q (R [n 9 (bld 9 [.sl 3 []] []), n 3 (alc 3 [.sl 3 []]), m (st (v 3) (v 9) 1)]) (Q (Q (R [n 10 (fld 10 (v 1) 0), n 11 (ld 11 (v 10) 1 false), n 12 (len 12 (v 11)), n 13 (mov 13 (k 0))]) (.blk 0 (.loop (Q (R [n 14 (bin 14 .lss (v 13) (v 12))]) (Q (F (v 14) .skip (.exit 0)) (Q (.blk 1 (Q (R [n 15 (idx 15 (v 11) (v 13) 3), n 16 (ld 16 (v 15) 3 true), n 5 (alc 5 [.sl 2 [], .int .i64 0, .bool false]), m (st (v 5) (v 16) 3)]) (Q (R [n 17 (bsl 17 2 []), n 6 (asg 6 (v 17))]) (Q (Q (R [n 18 (fld 18 (v 5) 0), n 19 (ld 19 (v 18) 1 false), n 20 (len 20 (v 19)), n 21 (mov 21 (k 0))]) (.blk 2 (.loop (Q (R [n 22 (bin 22 .lss (v 21) (v 20))]) (Q (F (v 22) .skip (.exit 2)) (Q (.blk 3 (Q (R [n 23 (idx 23 (v 19) (v 21) 2), n 24 (ld 24 (v 23) 2 true), n 8 (alc 8 [.bool false, .sl 1 []]), m (st (v 8) (v 24) 2)]) (D [0, 0, 2, 0, 8, 24, 62, 126, 255, 511] [n 25 (mov 25 (v 6)), n 26 (fld 26 (v 8) 0), n 27 (ld 27 (v 26) 1 false), n 28 (fld 28 (v 8) 1), n 29 (ld 29 (v 28) 1 false), n 30 (call (some 30) 144 [v 29]), n 31 (bld 31 [.bool false, .sl 1 []] [(0, 1, v 27), (1, 1, v 30)]), n 32 (bsl 32 2 [v 31]), n 33 (app 33 (v 25) (v 32) 2 32), n 6 (asg 6 (v 33))]))) (R [n 34 (bin 34 .add (v 21) (k 1)), n 21 (mov 21 (v 34))]))))))) (Q (R [n 35 (mov 35 (v 6)), n 36 (fld 36 (v 5) 0), m (st (v 36) (v 35) 1)]) (R [n 37 (fld 37 (v 3) 0), n 38 (ld 38 (v 37) 1 false), n 39 (ld 39 (v 5) 3 true), n 40 (bsl 40 3 [v 39]), n 41 (app 41 (v 38) (v 40) 3 40), n 42 (fld 42 (v 3) 0), m (st (v 42) (v 41) 1)])))))) (R [n 43 (bin 43 .add (v 13) (k 1)), n 13 (mov 13 (v 43))]))))))) (Q (R [n 44 (ld 44 (v 3) 1 true), m (st (v 2) (v 44) 1)]) .ret)))
def c_S_l10Copy : Cmd := Q (R [n 1 (box 1 (v 0)), n 2 (alc 2 [.sl 3 []])]) (Q (R [n 5 (bld 5 [.sl 3 []] []), n 3 (alc 3 [.sl 3 []]), m (st (v 3) (v 5) 1)]) (Q (Q (R [n 4 (asg 4 (k 0))]) (.blk 0 (.loop (Q (Q (R [n 6 (mov 6 (v 4)), n 7 (fld 7 (v 1) 0), n 8 (ld 8 (v 7) 1 false), n 9 (len 9 (v 8)), n 10 (bin 10 .lss (v 6) (v 9))]) (F (v 10) .skip (.exit 0))) (Q (.blk 1 (D [0, 1, 0, 4, 0, 28, 60, 124, 252, 511, 1023, 2047] [n 13 (fld 13 (v 3) 0), n 14 (ld 14 (v 13) 1 false), n 15 (fld 15 (v 1) 0), n 16 (ld 16 (v 15) 1 false), n 17 (mov 17 (v 4)), n 18 (idx 18 (v 16) (v 17) 3), n 19 (ld 19 (v 18) 3 true), n 20 (call (some 20) 180 [v 19]), n 21 (bsl 21 3 [v 20]), n 22 (app 22 (v 14) (v 21) 3 40), n 23 (fld 23 (v 3) 0), m (st (v 23) (v 22) 1)])) (R [n 11 (mov 11 (v 4)), n 12 (bin 12 .add (v 11) (k 1)), n 4 (asg 4 (v 12))])))))) (Q (R [n 24 (ld 24 (v 3) 1 true), m (st (v 2) (v 24) 1)]) .ret)))
def c_S_l10Program : Cmd := Q (R [n 3 (box 3 (v 0)), n 6 (asg 6 (k 0))]) (Q (Q (R [n 7 (mov 7 (v 2)), n 8 (len 8 (v 7)), n 9 (bin 9 .gtr (v 8) (k 400))]) (F (v 9) (Q (R [n 6 (asg 6 (k 1))]) .ret) .skip)) (Q (D [0, 0, 0, 0, 12, 28, 63, 127] [n 10 (ld 10 (v 3) 1 true), n 11 (mov 11 (v 1)), n 12 (ld 12 (v 3) 1 true), n 13 (mov 13 (v 1)), n 14 (call (some 14) 64 [v 12, v 13]), n 15 (bin 15 .eql (v 14) (k 8)), n 16 (call (some 16) 181 [v 10, v 11, v 15]), n 6 (asg 6 (v 16))]) .ret))
def c_S_l11Faults : Cmd := Q (R [n 2 (asg 2 k0)]) (Q (Q (R [n 3 (asg 3 (k 0))]) (.blk 0 (.loop (Q (Q (R [n 4 (mov 4 (v 3)), n 5 (mov 5 (v 0)), n 6 (len 6 (v 5)), n 7 (bin 7 .lss (v 4) (v 6))]) (F (v 7) .skip (.exit 0))) (Q (.blk 1 (Q (D [0, 0, 3, 7, 15, 31, 63, 127, 255, 255, 1023, 2047, 4095, 8191, 16383, 32767, 65535, 131071, 131071, 524287, 1048575, 2097151, 4194303, 8388607, 16777215, 33554431, 67108863, 134217727, 268435455, 536870911, 536870911, 1610612735, 4294967295, 8589934591, 17179869183, 536870911, 536870911, 103616086015, 241055039487, 515932946431, 1099511627775, 2199023255551, 4398046511103] [n 10 (mov 10 (v 0)), n 11 (mov 11 (v 3)), n 12 (idx 12 (v 10) (v 11) 3), n 13 (fld 13 (v 12) 0), n 14 (ld 14 (v 13) 1 false), n 15 (call (some 15) 120 [v 14, k 0, k 100000]), n 16 (un 16 .not (v 15)), n 17 (mov 17 (v 16)), h 17 false 18 (mov 18 (v 0)), h 17 false 19 (mov 19 (v 3)), h 17 false 20 (idx 20 (v 18) (v 19) 3), h 17 false 21 (fld 21 (v 20) 1), h 17 false 22 (ld 22 (v 21) 1 false), h 17 false 23 (call (some 23) 120 [v 22, k 1, k 2]), h 17 false 24 (un 24 .not (v 23)), n 25 (pck 25 (v 17) k1 (v 24)), n 26 (mov 26 (v 25)), h 26 false 27 (mov 27 (v 0)), h 26 false 28 (mov 28 (v 3)), h 26 false 29 (idx 29 (v 27) (v 28) 3), h 26 false 30 (fld 30 (v 29) 2), h 26 false 31 (ld 31 (v 30) 1 false), h 26 false 32 (call (some 32) 120 [v 31, k 0, k 400]), h 26 false 33 (un 33 .not (v 32)), n 34 (pck 34 (v 26) k1 (v 33)), n 35 (mov 35 (v 34)), h 35 false 36 (mov 36 (v 3)), h 35 false 37 (bin 37 .gtr (v 36) (k 0)), h 35 false 38 (mov 38 (v 37)), h 38 true 39 (mov 39 (v 0)), h 38 true 40 (mov 40 (v 3)), h 38 true 41 (bin 41 .sub (v 40) (k 1)), h 38 true 42 (idx 42 (v 39) (v 41) 3), h 38 true 43 (fld 43 (v 42) 0), h 38 true 44 (ld 44 (v 43) 1 false), h 38 true 45 (mov 45 (v 0)), h 38 true 46 (mov 46 (v 3)), h 38 true 47 (idx 47 (v 45) (v 46) 3), h 38 true 48 (fld 48 (v 47) 0), h 38 true 49 (ld 49 (v 48) 1 false), h 38 true 50 (bin 50 .geq (v 44) (v 49)), h 35 false 51 (pck 51 (v 38) (v 50) k0), n 52 (pck 52 (v 35) k1 (v 51))]) (F (v 52) (Q (R [n 2 (asg 2 k0)]) .ret) .skip))) (R [n 8 (mov 8 (v 3)), n 9 (bin 9 .add (v 8) (k 1)), n 3 (asg 3 (v 9))])))))) (Q (R [n 53 (mov 53 (v 0)), n 54 (len 54 (v 53)), n 55 (bin 55 .leq (v 54) (k 20)), n 2 (asg 2 (v 55))]) .ret))
def c_L_toFault : Cmd := Q (R [n 1 (box 1 (v 0)), n 2 (alc 2 [.int .i64 0, .int .i64 0, .int .i64 0])]) (Q (R [n 3 (alc 3 [.int .i64 0, .int .i64 0, .int .i64 0])]) (Q (R [n 4 (fld 4 (v 1) 0), n 5 (ld 5 (v 4) 1 false), n 6 (fld 6 (v 3) 0), m (st (v 6) (v 5) 1)]) (Q (R [n 7 (fld 7 (v 1) 1), n 8 (ld 8 (v 7) 1 false), n 9 (fld 9 (v 3) 1), m (st (v 9) (v 8) 1)]) (Q (R [n 10 (fld 10 (v 1) 2), n 11 (ld 11 (v 10) 1 false), n 12 (fld 12 (v 3) 2), m (st (v 12) (v 11) 1)]) (Q (R [n 13 (ld 13 (v 3) 3 true), m (st (v 2) (v 13) 3)]) .ret)))))
def c_X_Clone_Fault : Cmd := Q (R [n 2 (asg 2 (.c (.own 3 [])))]) (Q (Q (R [n 3 (mov 3 (v 0)), n 4 (isn 4 false (v 3) (.c (.own 3 [])))]) (F (v 4) (Q (R [n 2 (asg 2 (.c (.own 3 [])))]) .ret) .skip)) (Q (R [n 5 (bsl 5 3 []), n 6 (mov 6 (v 0)), n 7 (app 7 (v 5) (v 6) 3 24), n 2 (asg 2 (v 7))]) .ret))
def c_L_heldFaultS : Cmd := Q (R [n 4 (asg 4 (k 0))]) (Q (Q (R [n 5 (asg 5 (k 0))]) (.blk 0 (.loop (Q (Q (R [n 6 (mov 6 (v 5)), n 7 (mov 7 (v 0)), n 8 (len 8 (v 7)), n 9 (bin 9 .lss (v 6) (v 8))]) (F (v 9) .skip (.exit 0))) (Q (.blk 1 (Q (Q (R [n 12 (mov 12 (v 0)), n 13 (mov 13 (v 5)), n 14 (idx 14 (v 12) (v 13) 3), n 15 (fld 15 (v 14) 0), n 16 (ld 16 (v 15) 1 false), n 17 (mov 17 (v 1)), n 18 (bin 18 .neq (v 16) (v 17))]) (F (v 18) (Q (R [n 4 (asg 4 (k (-1)))]) .ret) .skip)) (Q (R [n 19 (mov 19 (v 1)), n 20 (bin 20 .add (v 19) (k 1)), n 1 (asg 1 (v 20))]) (Q (Q (R [n 21 (mov 21 (v 0)), n 22 (mov 22 (v 5)), n 23 (idx 23 (v 21) (v 22) 3), n 24 (fld 24 (v 23) 1), n 25 (ld 25 (v 24) 1 false), n 26 (mov 26 (v 1)), n 27 (bin 27 .neq (v 25) (v 26))]) (F (v 27) (Q (R [n 4 (asg 4 (k (-1)))]) .ret) .skip)) (Q (R [n 28 (mov 28 (v 1)), n 29 (bin 29 .add (v 28) (k 1)), n 1 (asg 1 (v 29))]) (Q (Q (R [n 30 (mov 30 (v 0)), n 31 (mov 31 (v 5)), n 32 (idx 32 (v 30) (v 31) 3), n 33 (fld 33 (v 32) 2), n 34 (ld 34 (v 33) 1 false), n 35 (mov 35 (v 1)), n 36 (bin 36 .neq (v 34) (v 35))]) (F (v 36) (Q (R [n 4 (asg 4 (k (-1)))]) .ret) .skip)) (R [n 37 (mov 37 (v 1)), n 38 (bin 38 .add (v 37) (k 1)), n 1 (asg 1 (v 38))]))))))) (R [n 10 (mov 10 (v 5)), n 11 (bin 11 .add (v 10) (k 1)), n 5 (asg 5 (v 11))])))))) (Q (R [n 39 (mov 39 (v 1)), n 4 (asg 4 (v 39))]) .ret))
def c_S_l11Copy : Cmd := Q (R [n 1 (box 1 (v 0)), n 2 (alc 2 [.sl 3 [], .int .i64 0, .sl 3 [], .bool false])]) (Q (D [0, 1, 3, 0, 8, 0, 0, 64, 231, 0, 512, 2047, 4095] [n 3 (fld 3 (v 1) 0), n 4 (ld 4 (v 3) 1 true), n 5 (call (some 5) 151 [v 4]), n 6 (fld 6 (v 1) 1), n 7 (ld 7 (v 6) 1 false), n 8 (bsl 8 3 []), n 9 (fld 9 (v 1) 2), n 10 (ld 10 (v 9) 1 false), n 11 (app 11 (v 8) (v 10) 3 24), n 12 (fld 12 (v 1) 3), n 13 (ld 13 (v 12) 1 false), n 14 (bld 14 [.sl 3 [], .int .i64 0, .sl 3 [], .bool false] [(0, 1, v 5), (1, 1, v 7), (2, 1, v 11), (3, 1, v 13)]), m (st (v 2) (v 14) 4)]) .ret)
def c_I_copyDev : Cmd := Q (R [n 1 (box 1 (v 0)), n 2 (alc 2 [.sl 3 [], .int .i64 0, .sl 3 [], .bool false])]) (Q (R [n 3 (fld 3 (v 1) 0), n 4 (ld 4 (v 3) 1 true), n 5 (call (some 5) 149 [v 4]), n 6 (fld 6 (v 1) 0), m (st (v 6) (v 5) 1)]) (Q (R [n 7 (fld 7 (v 1) 2), n 8 (ld 8 (v 7) 1 false), n 9 (call (some 9) 159 [v 8]), n 10 (fld 10 (v 1) 2), m (st (v 10) (v 9) 1)]) (Q (R [n 11 (ld 11 (v 1) 4 true), m (st (v 2) (v 11) 4)]) .ret)))
def c_I_begin : Cmd := Q (R [n 5 (box 5 (v 0)), n 7 (box 7 (v 2)), n 10 (alc 10 [.sl 3 [], .int .i64 0, .sl 3 [], .bool false]), n 11 (asg 11 (k 0))]) (Q (Q (R [n 14 (mov 14 (v 3)), n 15 (bin 15 .neq (v 14) (k 0))]) (F (v 15) (Q (R [n 16 (ld 16 (v 5) 4 true), n 17 (mov 17 (v 3)), m (st (v 10) (v 16) 4), n 11 (asg 11 (v 17))]) .ret) .skip)) (Q (R [n 19 (ld 19 (v 5) 4 true), n 20 (call (some 20) 84 [v 19]), n 18 (mov 18 (v 20)), n 21 (xtr 21 (v 18) 0), n 22 (xtr 22 (v 18) 1), n 12 (alc 12 [.int .i64 0, .int .i64 0, .int .i64 0]), m (st (v 12) (v 21) 3), n 13 (asg 13 (v 22))]) (Q (R [n 23 (fld 23 (v 5) 1), n 24 (ld 24 (v 23) 1 false), n 25 (bin 25 .add (v 24) (k 1)), n 26 (fld 26 (v 5) 1), m (st (v 26) (v 25) 1)]) (Q (.blk 0 (Q (R [n 35 (mov 35 (v 13)), n 36 (un 36 .not (v 35)), n 34 (asg 34 (v 36))]) (F (v 34) (R [n 37 (ld 37 (v 7) 1 true), n 38 (fld 38 (v 5) 0), m (st (v 38) (v 37) 1)]) (Q (R [n 40 (fld 40 (v 12) 1), n 41 (ld 41 (v 40) 1 false), n 42 (bin 42 .eql (v 41) (k 1)), n 39 (asg 39 (v 42))]) (F (v 39) (Q (R [n 43 (fld 43 (v 5) 0), n 44 (fld 44 (v 43) 0), n 45 (ld 45 (v 44) 1 false), n 46 (mov 46 (v 1)), n 47 (idx 47 (v 45) (v 46) 3), n 48 (fld 48 (v 47) 2), m (st (v 48) k1 1)]) (Q (R [n 49 (ld 49 (v 5) 4 true), m (st (v 10) (v 49) 4), n 11 (asg 11 (k 2))]) .ret)) (Q (R [n 27 (mov 27 (v 4)), n 28 (fld 28 (v 12) 2), n 29 (ld 29 (v 28) 1 false), n 30 (callv (some 30) (v 27) [v 29]), n 31 (fld 31 (v 5) 0), m (st (v 31) (v 30) 1)]) (Q (R [n 32 (fld 32 (v 5) 3), m (st (v 32) k1 1)]) (Q (R [n 33 (ld 33 (v 5) 4 true), m (st (v 10) (v 33) 4), n 11 (asg 11 (k 10))]) .ret)))))))) (Q (R [n 50 (ld 50 (v 5) 4 true), m (st (v 10) (v 50) 4), n 11 (asg 11 (k 0))]) .ret)))))
def c_I_DevProgram_1 : Cmd := Q (R [n 5 (alc 5 [.sl 3 []])]) (Q (D [0, 1, 0, 0, 0, 0, 32, 112, 248, 511, 1023, 2047, 4095, 0, 12287, 32767] [n 9 (fld 9 (v 1) 0), n 10 (ld 10 (v 9) 1 true), n 11 (ld 11 (v 2) 1 false), n 12 (ld 12 (v 3) 1 false), n 13 (mov 13 (v 0)), n 14 (ld 14 (v 3) 1 false), n 15 (len 15 (v 14)), n 16 (mn 16 (v 13) (v 15)), n 17 (slc 17 (v 12) none (some (v 16)) 1), n 18 (call (some 18) 78 [v 10, v 11, v 17]), n 8 (mov 8 (v 18)), n 19 (xtr 19 (v 8) 0), n 20 (xtr 20 (v 8) 1), n 6 (alc 6 [.sl 3 []]), m (st (v 6) (v 19) 1), n 7 (asg 7 (v 20))]) (Q (R [n 21 (ld 21 (v 6) 1 true), m (st (v 5) (v 21) 1)]) .ret))
def c_S_l11May : Cmd := Q (R [n 2 (box 2 (v 0)), n 4 (asg 4 (k 0))]) (Q (.blk 0 (Q (R [n 6 (ld 6 (v 2) 4 true), n 7 (call (some 7) 94 [v 6]), n 8 (un 8 .not (v 7)), n 5 (asg 5 (v 8))]) (F (v 5) (Q (R [n 4 (asg 4 (k 1))]) .ret) (Q (R [n 10 (fld 10 (v 2) 3), n 11 (ld 11 (v 10) 1 false), n 12 (mov 12 (v 11)), h 12 false 13 (fld 13 (v 2) 1), h 12 false 14 (ld 14 (v 13) 1 false), h 12 false 15 (bin 15 .geq (v 14) (k 100000)), n 16 (pck 16 (v 12) k1 (v 15)), n 9 (asg 9 (v 16))]) (F (v 9) (Q (R [n 4 (asg 4 (k 10))]) .ret) .skip))))) (Q (R [n 17 (mov 17 (v 1)), n 4 (asg 4 (v 17))]) .ret))
def c_L_eqBlock : Cmd := Q (R [n 2 (box 2 (v 0)), n 3 (box 3 (v 1)), n 4 (asg 4 k0)]) (Q (Q (R [n 5 (fld 5 (v 2) 0), n 6 (ld 6 (v 5) 1 false), n 7 (fld 7 (v 3) 0), n 8 (ld 8 (v 7) 1 false), n 9 (call (some 9) 184 [v 6, v 8]), n 10 (un 10 .not (v 9))]) (F (v 10) (Q (R [n 4 (asg 4 k0)]) .ret) .skip)) (Q (Q (R [n 11 (fld 11 (v 2) 1), n 12 (ld 12 (v 11) 1 false), n 13 (fld 13 (v 3) 1), n 14 (ld 14 (v 13) 1 false), n 15 (bin 15 .neq (v 12) (v 14))]) (F (v 15) (Q (R [n 4 (asg 4 k0)]) .ret) .skip)) (Q (Q (R [n 16 (fld 16 (v 2) 2), n 17 (ld 17 (v 16) 1 false), n 18 (fld 18 (v 3) 2), n 19 (ld 19 (v 18) 1 false), n 20 (beq 20 true (v 17) (v 19))]) (F (v 20) (Q (R [n 4 (asg 4 k0)]) .ret) .skip)) (Q (R [n 4 (asg 4 k1)]) .ret))))
def c_L_markPageS : Cmd := Q (R [n 4 (asg 4 (k 0))]) (Q (Q (R [n 5 (asg 5 (k 0))]) (.blk 0 (.loop (Q (Q (R [n 6 (mov 6 (v 5)), n 7 (mov 7 (v 0)), n 8 (len 8 (v 7)), n 9 (bin 9 .lss (v 6) (v 8))]) (F (v 9) .skip (.exit 0))) (Q (.blk 1 (Q (R [n 12 (mov 12 (v 0)), n 13 (mov 13 (v 5)), n 14 (mov 14 (v 1)), n 15 (bin 15 .rem (v 14) (k 3)), n 16 (bin 16 .eql (v 15) (k 0)), n 17 (idx 17 (v 12) (v 13) 2), n 18 (fld 18 (v 17) 0), m (st (v 18) (v 16) 1)]) (Q (R [n 19 (mov 19 (v 1)), n 20 (bin 20 .add (v 19) (k 1)), n 1 (asg 1 (v 20))]) (R [n 21 (mov 21 (v 0)), n 22 (mov 22 (v 5)), n 23 (idx 23 (v 21) (v 22) 2), n 24 (fld 24 (v 23) 1), n 25 (ld 25 (v 24) 1 false), n 26 (mov 26 (v 1)), n 27 (call (some 27) 46 [v 25, v 26]), n 1 (asg 1 (v 27))])))) (R [n 10 (mov 10 (v 5)), n 11 (bin 11 .add (v 10) (k 1)), n 5 (asg 5 (v 11))])))))) (Q (R [n 28 (mov 28 (v 1)), n 4 (asg 4 (v 28))]) .ret))
def c_L_heldPageS : Cmd := Q (R [n 4 (asg 4 (k 0))]) (Q (Q (R [n 5 (asg 5 (k 0))]) (.blk 0 (.loop (Q (Q (R [n 6 (mov 6 (v 5)), n 7 (mov 7 (v 0)), n 8 (len 8 (v 7)), n 9 (bin 9 .lss (v 6) (v 8))]) (F (v 9) .skip (.exit 0))) (Q (.blk 1 (Q (Q (R [n 12 (mov 12 (v 0)), n 13 (mov 13 (v 5)), n 14 (idx 14 (v 12) (v 13) 2), n 15 (fld 15 (v 14) 0), n 16 (ld 16 (v 15) 1 false), n 17 (mov 17 (v 1)), n 18 (bin 18 .rem (v 17) (k 3)), n 19 (bin 19 .eql (v 18) (k 0)), n 20 (beq 20 true (v 16) (v 19))]) (F (v 20) (Q (R [n 4 (asg 4 (k (-1)))]) .ret) .skip)) (Q (R [n 21 (mov 21 (v 1)), n 22 (bin 22 .add (v 21) (k 1)), n 1 (asg 1 (v 22))]) (Q (R [n 23 (mov 23 (v 0)), n 24 (mov 24 (v 5)), n 25 (idx 25 (v 23) (v 24) 2), n 26 (fld 26 (v 25) 1), n 27 (ld 27 (v 26) 1 false), n 28 (mov 28 (v 1)), n 29 (call (some 29) 47 [v 27, v 28]), n 1 (asg 1 (v 29))]) (Q (R [n 30 (mov 30 (v 1)), n 31 (bin 31 .lss (v 30) (k 0))]) (F (v 31) (Q (R [n 4 (asg 4 (k (-1)))]) .ret) .skip)))))) (R [n 10 (mov 10 (v 5)), n 11 (bin 11 .add (v 10) (k 1)), n 5 (asg 5 (v 11))])))))) (Q (R [n 32 (mov 32 (v 1)), n 4 (asg 4 (v 32))]) .ret))
def c_L_szBlock : Cmd := Q (R [n 2 (box 2 (v 0)), n 4 (asg 4 (k 0))]) (Q (R [n 5 (fld 5 (v 2) 0), n 6 (ld 6 (v 5) 1 false), n 7 (mov 7 (v 1)), n 8 (call (some 8) 185 [v 6, v 7]), n 1 (asg 1 (v 8))]) (Q (Q (R [n 9 (mov 9 (v 1)), n 10 (bin 10 .lss (v 9) (k 0))]) (F (v 10) (Q (R [n 4 (asg 4 (k (-1)))]) .ret) .skip)) (Q (R [n 11 (mov 11 (v 1)), n 4 (asg 4 (v 11))]) .ret)))
def c_L_toBlock : Cmd := Q (R [n 1 (box 1 (v 0)), n 2 (alc 2 [.sl 2 [], .int .i64 0, .bool false])]) (Q (R [n 3 (alc 3 [.sl 2 [], .int .i64 0, .bool false])]) (Q (R [n 4 (fld 4 (v 1) 0), n 5 (ld 5 (v 4) 1 false), n 6 (call (some 6) 186 [v 5]), n 7 (fld 7 (v 3) 0), m (st (v 7) (v 6) 1)]) (Q (R [n 8 (fld 8 (v 1) 1), n 9 (ld 9 (v 8) 1 false), n 10 (fld 10 (v 3) 1), m (st (v 10) (v 9) 1)]) (Q (R [n 11 (fld 11 (v 1) 2), n 12 (ld 12 (v 11) 1 false), n 13 (fld 13 (v 3) 2), m (st (v 13) (v 12) 1)]) (Q (R [n 14 (ld 14 (v 3) 3 true), m (st (v 2) (v 14) 3)]) .ret)))))
def c_S_l10CopyBlock : Cmd := Q (R [n 1 (box 1 (v 0)), n 2 (alc 2 [.sl 2 [], .int .i64 0, .bool false])]) (Q (R [n 5 (fld 5 (v 1) 1), n 6 (ld 6 (v 5) 1 false), n 7 (fld 7 (v 1) 2), n 8 (ld 8 (v 7) 1 false), n 9 (bld 9 [.sl 2 [], .int .i64 0, .bool false] [(1, 1, v 6), (2, 1, v 8)]), n 3 (alc 3 [.sl 2 [], .int .i64 0, .bool false]), m (st (v 3) (v 9) 3)]) (Q (Q (R [n 4 (asg 4 (k 0))]) (.blk 0 (.loop (Q (Q (R [n 10 (mov 10 (v 4)), n 11 (fld 11 (v 1) 0), n 12 (ld 12 (v 11) 1 false), n 13 (len 13 (v 12)), n 14 (bin 14 .lss (v 10) (v 13))]) (F (v 14) .skip (.exit 0))) (Q (.blk 1 (D [0, 1, 0, 4, 0, 28, 60, 124, 0, 0, 512, 0, 3584, 7680, 15872, 32512, 65532, 131068, 262143, 524287, 1048575] [n 17 (fld 17 (v 3) 0), n 18 (ld 18 (v 17) 1 false), n 19 (fld 19 (v 1) 0), n 20 (ld 20 (v 19) 1 false), n 21 (mov 21 (v 4)), n 22 (idx 22 (v 20) (v 21) 2), n 23 (fld 23 (v 22) 0), n 24 (ld 24 (v 23) 1 false), n 25 (bsl 25 1 []), n 26 (fld 26 (v 1) 0), n 27 (ld 27 (v 26) 1 false), n 28 (mov 28 (v 4)), n 29 (idx 29 (v 27) (v 28) 2), n 30 (fld 30 (v 29) 1), n 31 (ld 31 (v 30) 1 false), n 32 (app 32 (v 25) (v 31) 1 1), n 33 (bld 33 [.bool false, .sl 1 []] [(0, 1, v 24), (1, 1, v 32)]), n 34 (bsl 34 2 [v 33]), n 35 (app 35 (v 18) (v 34) 2 32), n 36 (fld 36 (v 3) 0), m (st (v 36) (v 35) 1)])) (R [n 15 (mov 15 (v 4)), n 16 (bin 16 .add (v 15) (k 1)), n 4 (asg 4 (v 16))])))))) (Q (R [n 37 (ld 37 (v 3) 3 true), m (st (v 2) (v 37) 3)]) .ret)))
def c_S_l10May : Cmd := Q (R [n 3 (box 3 (v 0)), n 6 (asg 6 (k 0))]) (Q (.blk 0 (Q (R [n 8 (ld 8 (v 3) 1 true), n 9 (call (some 9) 66 [v 8]), n 10 (un 10 .not (v 9)), n 11 (mov 11 (v 10)), h 11 false 12 (mov 12 (v 1)), h 11 false 13 (bin 13 .lss (v 12) (k 0)), n 14 (pck 14 (v 11) k1 (v 13)), n 15 (mov 15 (v 14)), h 15 false 16 (mov 16 (v 1)), h 15 false 17 (fld 17 (v 3) 0), h 15 false 18 (ld 18 (v 17) 1 false), h 15 false 19 (len 19 (v 18)), h 15 false 20 (bin 20 .geq (v 16) (v 19)), n 21 (pck 21 (v 15) k1 (v 20)), n 7 (asg 7 (v 21))]) (F (v 7) (Q (R [n 6 (asg 6 (k 1))]) .ret) (Q (R [n 23 (fld 23 (v 3) 0), n 24 (ld 24 (v 23) 1 false), n 25 (mov 25 (v 1)), n 26 (idx 26 (v 24) (v 25) 3), n 27 (fld 27 (v 26) 2), n 28 (ld 28 (v 27) 1 false), n 22 (asg 22 (v 28))]) (F (v 22) (Q (R [n 6 (asg 6 (k 2))]) .ret) (Q (R [n 30 (mov 30 (v 2)), n 29 (asg 29 (v 30))]) (F (v 29) (Q (R [n 6 (asg 6 (k 5))]) .ret) .skip))))))) (Q (R [n 6 (asg 6 (k 0))]) .ret))
def c_L_eqPageS : Cmd := Q (R [n 4 (asg 4 k0)]) (Q (Q (R [n 6 (mov 6 (v 0)), n 7 (len 7 (v 6)), n 8 (mov 8 (v 1)), n 9 (len 9 (v 8)), n 10 (bin 10 .neq (v 7) (v 9))]) (F (v 10) (Q (R [n 4 (asg 4 k0)]) .ret) .skip)) (Q (Q (R [n 5 (asg 5 (k 0))]) (.blk 0 (.loop (Q (Q (R [n 11 (mov 11 (v 5)), n 12 (mov 12 (v 0)), n 13 (len 13 (v 12)), n 14 (bin 14 .lss (v 11) (v 13))]) (F (v 14) .skip (.exit 0))) (Q (.blk 1 (Q (D [0, 0, 3, 7, 0, 0, 48, 112, 255, 511] [n 17 (mov 17 (v 0)), n 18 (mov 18 (v 5)), n 19 (idx 19 (v 17) (v 18) 2), n 20 (ld 20 (v 19) 2 true), n 21 (mov 21 (v 1)), n 22 (mov 22 (v 5)), n 23 (idx 23 (v 21) (v 22) 2), n 24 (ld 24 (v 23) 2 true), n 25 (call (some 25) 187 [v 20, v 24]), n 26 (un 26 .not (v 25))]) (F (v 26) (Q (R [n 4 (asg 4 k0)]) .ret) .skip))) (R [n 15 (mov 15 (v 5)), n 16 (bin 16 .add (v 15) (k 1)), n 5 (asg 5 (v 16))])))))) (Q (R [n 4 (asg 4 k1)]) .ret)))
def c_L_szPageS : Cmd := Q (R [n 4 (asg 4 (k 0))]) (Q (R [n 6 (mov 6 (v 1)), n 7 (mov 7 (v 0)), n 8 (len 8 (v 7)), n 9 (bin 9 .sub (v 6) (v 8)), n 1 (asg 1 (v 9))]) (Q (Q (R [n 10 (mov 10 (v 1)), n 11 (bin 11 .lss (v 10) (k 0))]) (F (v 11) (Q (R [n 4 (asg 4 (k (-1)))]) .ret) .skip)) (Q (Q (R [n 5 (asg 5 (k 0))]) (.blk 0 (.loop (Q (Q (R [n 12 (mov 12 (v 5)), n 13 (mov 13 (v 0)), n 14 (len 14 (v 13)), n 15 (bin 15 .lss (v 12) (v 14))]) (F (v 15) .skip (.exit 0))) (Q (.blk 1 (Q (R [n 18 (mov 18 (v 0)), n 19 (mov 19 (v 5)), n 20 (idx 20 (v 18) (v 19) 2), n 21 (ld 21 (v 20) 2 true), n 22 (mov 22 (v 1)), n 23 (call (some 23) 188 [v 21, v 22]), n 1 (asg 1 (v 23))]) (Q (R [n 24 (mov 24 (v 1)), n 25 (bin 25 .lss (v 24) (k 0))]) (F (v 25) (Q (R [n 4 (asg 4 (k (-1)))]) .ret) .skip)))) (R [n 16 (mov 16 (v 5)), n 17 (bin 17 .add (v 16) (k 1)), n 5 (asg 5 (v 17))])))))) (Q (R [n 26 (mov 26 (v 1)), n 4 (asg 4 (v 26))]) .ret))))
def c_L_toPageS : Cmd := Q (R [n 2 (asg 2 (.c (.own 2 [])))]) (Q (R [n 5 (mov 5 (v 0)), n 6 (len 6 (v 5)), n 7 (mks 7 (v 6) (v 6) 2 32 [.bool false, .sl 1 []]), n 3 (asg 3 (v 7))]) (Q (Q (R [n 4 (asg 4 (k 0))]) (.blk 0 (.loop (Q (Q (R [n 8 (mov 8 (v 4)), n 9 (mov 9 (v 0)), n 10 (len 10 (v 9)), n 11 (bin 11 .lss (v 8) (v 10))]) (F (v 11) .skip (.exit 0))) (Q (.blk 1 (R [n 14 (mov 14 (v 3)), n 15 (mov 15 (v 4)), n 16 (mov 16 (v 0)), n 17 (mov 17 (v 4)), n 18 (idx 18 (v 16) (v 17) 2), n 19 (ld 19 (v 18) 2 true), n 20 (call (some 20) 189 [v 19]), n 21 (idx 21 (v 14) (v 15) 2), m (st (v 21) (v 20) 2)])) (R [n 12 (mov 12 (v 4)), n 13 (bin 13 .add (v 12) (k 1)), n 4 (asg 4 (v 13))])))))) (Q (R [n 22 (mov 22 (v 3)), n 2 (asg 2 (v 22))]) .ret)))
def c_L_eqPage : Cmd := Q (R [n 2 (box 2 (v 0)), n 3 (box 3 (v 1)), n 4 (asg 4 k0)]) (Q (Q (R [n 5 (fld 5 (v 2) 0), n 6 (ld 6 (v 5) 1 false), n 7 (fld 7 (v 3) 0), n 8 (ld 8 (v 7) 1 false), n 9 (beq 9 true (v 6) (v 8))]) (F (v 9) (Q (R [n 4 (asg 4 k0)]) .ret) .skip)) (Q (Q (R [n 10 (fld 10 (v 2) 1), n 11 (ld 11 (v 10) 1 false), n 12 (fld 12 (v 3) 1), n 13 (ld 13 (v 12) 1 false), n 14 (call (some 14) 44 [v 11, v 13]), n 15 (un 15 .not (v 14))]) (F (v 15) (Q (R [n 4 (asg 4 k0)]) .ret) .skip)) (Q (R [n 4 (asg 4 k1)]) .ret)))
def c_L_szPage : Cmd := Q (R [n 2 (box 2 (v 0)), n 4 (asg 4 (k 0))]) (Q (R [n 5 (fld 5 (v 2) 1), n 6 (ld 6 (v 5) 1 false), n 7 (mov 7 (v 1)), n 8 (call (some 8) 119 [v 6, v 7]), n 1 (asg 1 (v 8))]) (Q (Q (R [n 9 (mov 9 (v 1)), n 10 (bin 10 .lss (v 9) (k 0))]) (F (v 10) (Q (R [n 4 (asg 4 (k (-1)))]) .ret) .skip)) (Q (R [n 11 (mov 11 (v 1)), n 4 (asg 4 (v 11))]) .ret)))
def c_L_toPage : Cmd := Q (R [n 1 (box 1 (v 0)), n 2 (alc 2 [.bool false, .sl 1 []])]) (Q (R [n 3 (alc 3 [.bool false, .sl 1 []])]) (Q (R [n 4 (fld 4 (v 1) 0), n 5 (ld 5 (v 4) 1 false), n 6 (fld 6 (v 3) 0), m (st (v 6) (v 5) 1)]) (Q (R [n 7 (fld 7 (v 1) 1), n 8 (ld 8 (v 7) 1 false), n 9 (call (some 9) 61 [v 8]), n 10 (fld 10 (v 3) 1), m (st (v 10) (v 9) 1)]) (Q (R [n 11 (ld 11 (v 3) 2 true), m (st (v 2) (v 11) 2)]) .ret))))

end Go.Proofs.Ytliklgcfdgdigaa.Awp

namespace Go.Proofs.Ytliklgcfdgdigaa.Awp
open Go.Proofs

theorem hmx : Try.prog.follows .mixedOrders = true := by kernel_rfl
theorem p_L_FnExactDevProgram : compile Try.prog 31 = some (122, [.t 6], c_L_FnExactDevProgram) := by kernel_rfl
theorem p_L_eqByteS : compile Try.prog 44 = some (26, [.t 4], c_L_eqByteS) := by kernel_rfl
theorem p_L_markByteS : compile Try.prog 46 = some (20, [.t 4], c_L_markByteS) := by kernel_rfl
theorem p_L_heldByteS : compile Try.prog 47 = some (22, [.t 4], c_L_heldByteS) := by kernel_rfl
theorem p_L_eqChip : compile Try.prog 50 = some (11, [.t 4], c_L_eqChip) := by kernel_rfl
theorem p_L_markChip : compile Try.prog 51 = some (10, [.t 4], c_L_markChip) := by kernel_rfl
theorem p_L_heldChip : compile Try.prog 52 = some (12, [.t 4], c_L_heldChip) := by kernel_rfl
theorem p_L_szChip : compile Try.prog 56 = some (12, [.t 4], c_L_szChip) := by kernel_rfl
theorem p_L_toChip : compile Try.prog 58 = some (9, [.c 2 1 true], c_L_toChip) := by kernel_rfl
theorem p_L_toByteS : compile Try.prog 61 = some (22, [.t 2], c_L_toByteS) := by kernel_rfl
theorem p_S_NextPage : compile Try.prog 64 = some (20, [.t 4], c_S_NextPage) := by kernel_rfl
theorem p_I_NextPage : compile Try.prog 65 = some (29, [.t 4], c_I_NextPage) := by kernel_rfl
theorem p_S_ChipOk : compile Try.prog 66 = some (22, [.t 2], c_S_ChipOk) := by kernel_rfl
theorem p_I_ChipOk : compile Try.prog 67 = some (71, [.t 2], c_I_ChipOk) := by kernel_rfl
theorem p_I_Program : compile Try.prog 78 = some (53, [.c 6 1 true, .t 7], c_I_Program) := by kernel_rfl
theorem p_L_szDev : compile Try.prog 81 = some (18, [.t 4], c_L_szDev) := by kernel_rfl
theorem p_S_FaultAt : compile Try.prog 82 = some (27, [.c 2 3 true, .t 3], c_S_FaultAt) := by kernel_rfl
theorem p_L_toDev : compile Try.prog 83 = some (19, [.c 2 4 true], c_L_toDev) := by kernel_rfl
theorem p_I_FaultAt : compile Try.prog 84 = some (21, [.c 2 3 true, .t 3], c_I_FaultAt) := by kernel_rfl
theorem p_L_eqFault : compile Try.prog 85 = some (20, [.t 4], c_L_eqFault) := by kernel_rfl
theorem p_L_eqDev : compile Try.prog 86 = some (27, [.t 4], c_L_eqDev) := by kernel_rfl
theorem p_S_Program : compile Try.prog 92 = some (34, [.c 6 1 true, .t 7], c_S_Program) := by kernel_rfl
theorem p_S_DevOk : compile Try.prog 94 = some (16, [.t 2], c_S_DevOk) := by kernel_rfl
theorem p_I_DevOk : compile Try.prog 95 = some (60, [.t 2], c_I_DevOk) := by kernel_rfl
theorem p_L_szFaultS : compile Try.prog 101 = some (12, [.t 4], c_L_szFaultS) := by kernel_rfl
theorem p_L_toFaultS : compile Try.prog 103 = some (23, [.t 2], c_L_toFaultS) := by kernel_rfl
theorem p_L_eqFaultS : compile Try.prog 105 = some (27, [.t 4], c_L_eqFaultS) := by kernel_rfl
theorem p_L_markFaultS : compile Try.prog 106 = some (34, [.t 4], c_L_markFaultS) := by kernel_rfl
theorem p_L_markDev : compile Try.prog 107 = some (14, [.t 4], c_L_markDev) := by kernel_rfl
theorem p_L_heldDev : compile Try.prog 108 = some (18, [.t 4], c_L_heldDev) := by kernel_rfl
theorem p_I_DevProgram : compile Try.prog 112 = some (40, [.c 6 4 true, .t 7], c_I_DevProgram) := by kernel_rfl
theorem p_S_DevProgram : compile Try.prog 113 = some (75, [.c 6 4 true, .t 7], c_S_DevProgram) := by kernel_rfl
theorem p_L_szByteS : compile Try.prog 119 = some (12, [.t 4], c_L_szByteS) := by kernel_rfl
theorem p_S_l1In : compile Try.prog 120 = some (15, [.t 6], c_S_l1In) := by kernel_rfl
theorem p_I_from : compile Try.prog 121 = some (15, [.t 6], c_I_from) := by kernel_rfl
theorem p_L_eqBlockS : compile Try.prog 126 = some (27, [.t 4], c_L_eqBlockS) := by kernel_rfl
theorem p_L_markBlockS : compile Try.prog 127 = some (36, [.t 4], c_L_markBlockS) := by kernel_rfl
theorem p_L_heldBlockS : compile Try.prog 128 = some (42, [.t 4], c_L_heldBlockS) := by kernel_rfl
theorem p_L_szBlockS : compile Try.prog 131 = some (27, [.t 4], c_L_szBlockS) := by kernel_rfl
theorem p_L_toBlockS : compile Try.prog 132 = some (23, [.t 2], c_L_toBlockS) := by kernel_rfl
theorem p_S_l10Next : compile Try.prog 138 = some (21, [.t 2], c_S_l10Next) := by kernel_rfl
theorem p_I_isBlock : compile Try.prog 139 = some (11, [.t 4], c_I_isBlock) := by kernel_rfl
theorem p_S_l10Block : compile Try.prog 140 = some (60, [.t 2], c_S_l10Block) := by kernel_rfl
theorem p_X_Clone_byte : compile Try.prog 144 = some (8, [.t 2], c_X_Clone_byte) := by kernel_rfl
theorem p_I_copyChip : compile Try.prog 149 = some (45, [.c 2 1 true], c_I_copyChip) := by kernel_rfl
theorem p_S_l10Copy : compile Try.prog 151 = some (25, [.c 2 1 true], c_S_l10Copy) := by kernel_rfl
theorem p_S_l10Program : compile Try.prog 155 = some (17, [.t 6], c_S_l10Program) := by kernel_rfl
theorem p_S_l11Faults : compile Try.prog 157 = some (56, [.t 2], c_S_l11Faults) := by kernel_rfl
theorem p_L_toFault : compile Try.prog 158 = some (14, [.c 2 3 true], c_L_toFault) := by kernel_rfl
theorem p_X_Clone_Fault : compile Try.prog 159 = some (8, [.t 2], c_X_Clone_Fault) := by kernel_rfl
theorem p_L_heldFaultS : compile Try.prog 160 = some (40, [.t 4], c_L_heldFaultS) := by kernel_rfl
theorem p_S_l11Copy : compile Try.prog 161 = some (15, [.c 2 4 true], c_S_l11Copy) := by kernel_rfl
theorem p_I_copyDev : compile Try.prog 162 = some (12, [.c 2 4 true], c_I_copyDev) := by kernel_rfl
theorem p_I_begin : compile Try.prog 164 = some (51, [.c 10 4 true, .t 11], c_I_begin) := by kernel_rfl
theorem p_I_DevProgram_1 : compile Try.prog 165 = some (22, [.c 5 1 true], c_I_DevProgram_1) := by kernel_rfl
theorem p_S_l11May : compile Try.prog 166 = some (18, [.t 4], c_S_l11May) := by kernel_rfl
theorem p_L_eqBlock : compile Try.prog 169 = some (21, [.t 4], c_L_eqBlock) := by kernel_rfl
theorem p_L_markPageS : compile Try.prog 170 = some (29, [.t 4], c_L_markPageS) := by kernel_rfl
theorem p_L_heldPageS : compile Try.prog 171 = some (33, [.t 4], c_L_heldPageS) := by kernel_rfl
theorem p_L_szBlock : compile Try.prog 173 = some (12, [.t 4], c_L_szBlock) := by kernel_rfl
theorem p_L_toBlock : compile Try.prog 174 = some (15, [.c 2 3 true], c_L_toBlock) := by kernel_rfl
theorem p_S_l10CopyBlock : compile Try.prog 180 = some (38, [.c 2 3 true], c_S_l10CopyBlock) := by kernel_rfl
theorem p_S_l10May : compile Try.prog 181 = some (31, [.t 6], c_S_l10May) := by kernel_rfl
theorem p_L_eqPageS : compile Try.prog 184 = some (27, [.t 4], c_L_eqPageS) := by kernel_rfl
theorem p_L_szPageS : compile Try.prog 185 = some (27, [.t 4], c_L_szPageS) := by kernel_rfl
theorem p_L_toPageS : compile Try.prog 186 = some (23, [.t 2], c_L_toPageS) := by kernel_rfl
theorem p_L_eqPage : compile Try.prog 187 = some (16, [.t 4], c_L_eqPage) := by kernel_rfl
theorem p_L_szPage : compile Try.prog 188 = some (12, [.t 4], c_L_szPage) := by kernel_rfl
theorem p_L_toPage : compile Try.prog 189 = some (12, [.c 2 2 true], c_L_toPage) := by kernel_rfl

end Go.Proofs.Ytliklgcfdgdigaa.Awp

namespace Go.Proofs.Ytliklgcfdgdigaa.Awp
set_option linter.unusedVariables false

/-! ### what goes on behind a bind is left alone till its first part is known -/
@[congr] theorem bind_congr_l {α β : Type} {a b : Option α} {f : α → Option β} (h : a = b) : a.bind f = b.bind f := by rw [h]
@[congr] theorem map_congr_l {α β : Type} {a b : Option α} {f : α → β} (h : a = b) : a.map f = b.map f := by rw [h]

/-- are the places of an argument's parts empty? -/
def allU (E : Env) : List Plc → Bool
  | [] => true
  | (_, _, r, p) :: l => isU (aget (E.f r) p) && allU E l
theorem allU_eq (E : Env) : ∀ l : List Plc, allU E l = l.all (fun q => isU (aget (E.f q.2.2.1) q.2.2.2)) := by
  intro l
  induction l with
  | nil => rfl
  | cons q l ih => obtain ⟨k, j, r, p⟩ := q; simp [allU, ih]
theorem SBK2 : ∀ (E : Env) (q : Plc) (pls : List Plc) (outs : List AV), backA E none (q :: pls) outs = if allU E (q :: pls) = true then backP E outs (q :: pls) else none := by
  intro E q pls outs
  rw [allU_eq]; rfl
theorem SAU : (∀ E : Env, allU E [] = true) ∧ (∀ (E : Env) (k : Nat) (j : Option Nat) (r : Nat) (p : Path) (l : List Plc), allU E ((k, j, r, p) :: l) = (isU (aget (E.f r) p) && allU E l)) := ⟨fun _ => rfl, fun _ _ _ _ _ _ => rfl⟩
theorem SBK : ∀ (E : Env) (outs : List AV), backA E none [] outs = backP E outs [] := by
  intro E outs
  simp [backA]

/-! ### the program's values -/
abbrev Bytes := List UInt8
theorem sum_mem {α : Type} {f : α → Nat} {l : List α} {x : α} (h : x ∈ l) : f x ≤ (l.map f).sum := by
  induction l with
  | nil => simp at h
  | cons y l ih =>
    rcases List.mem_cons.1 h with rfl | h
    · simp
    · have := ih h; simp; omega
theorem getE {α : Type} {l : List α} {i : Nat} (h : (i : Int) < (l.length : Nat)) : l[i]? = some (l[i]'(by omega)) := by simp
theorem sum_get {α : Type} (f : α → Nat) {l : List α} {i : Nat} (h : i < l.length) : f l[i] ≤ (l.map f).sum := sum_mem (List.getElem_mem h)
theorem sum_take {α : Type} (f : α → Nat) (l : List α) (i : Nat) (h : i < l.length) : ((l.take (i + 1)).map f).sum = ((l.take i).map f).sum + f l[i] := by
  rw [List.take_succ_eq_append_getElem h, List.map_append, List.sum_append]
  simp only [List.map_cons, List.map_nil, List.sum_cons, List.sum_nil, Nat.add_zero]
theorem sum_take_le {α : Type} (f : α → Nat) (l : List α) (i : Nat) : ((l.take i).map f).sum ≤ (l.map f).sum := by
  conv => rhs; rw [← List.take_append_drop i l, List.map_append, List.sum_append]
  omega
theorem take_eq_succ {α : Type} {a b : List α} {i : Nat} (h : a.take i = b.take i) (h1 : i < a.length) (h2 : i < b.length) (e : a[i] = b[i]) : a.take (i + 1) = b.take (i + 1) := by
  rw [List.take_succ_eq_append_getElem h1, List.take_succ_eq_append_getElem h2, h, e]
theorem take_all {α : Type} {a b : List α} {i : Nat} (h : a.take i = b.take i) (h1 : a.length ≤ i) (h2 : b.length ≤ i) : a = b := by
  rwa [List.take_of_length_le h1, List.take_of_length_le h2] at h

/-! ### rows that are filled, or marked, one by one -/
def mixM {α β : Type} (f : α → Int → β) (g : α → β) (c : α → Nat) : List α → Int → Nat → List β
  | [], _, _ => []
  | x :: l, _, 0 => g x :: l.map g
  | x :: l, k, i + 1 => f x k :: mixM f g c l (k + c x) i
def markL {α β : Type} (f : α → Int → β) (c : α → Nat) : List α → Int → List β
  | [], _ => []
  | x :: l, k => f x k :: markL f c l (k + c x)
section
variable {α β γ : Type} (f : α → Int → β) (g : α → β) (c : α → Nat)
theorem mixM_0 (l : List α) (k : Int) : mixM f g c l k 0 = l.map g := by cases l <;> rfl
theorem mixM_len : ∀ (l : List α) (k : Int) (i : Nat), (mixM f g c l k i).length = l.length := by
  intro l
  induction l with
  | nil => intro k i; rfl
  | cons x l ih => intro k i; cases i <;> simp [mixM, ih]
theorem mixM_all : ∀ (l : List α) (k : Int) (i : Nat), l.length ≤ i → mixM f g c l k i = markL f c l k := by
  intro l
  induction l with
  | nil => intro k i h; rfl
  | cons x l ih =>
    intro k i h
    cases i with
    | zero => simp at h
    | succ i => simp only [mixM, markL]; rw [ih _ _ (by simpa using h)]
theorem mixM_get : ∀ (l : List α) (k : Int) (i : Nat), (mixM f g c l k i)[i]? = (l[i]?).map g := by
  intro l
  induction l with
  | nil => intro k i; simp [mixM]
  | cons x l ih => intro k i; cases i <;> simp [mixM, ih]
theorem mixM_set : ∀ (l : List α) (k : Int) (i : Nat) (hi : i < l.length) (h : β → β) (e : h (g l[i]) = f l[i] (k + ((l.take i).map c).sum)), (mixM f g c l k i).modify i h = mixM f g c l k (i + 1) := by
  intro l
  induction l with
  | nil => intro k i hi; simp at hi
  | cons x l ih =>
    intro k i hi h e
    cases i with
    | zero => simp only [mixM, List.modify_zero_cons]; simp at e; rw [e, mixM_0]
    | succ i =>
      simp only [mixM, List.modify_succ_cons]
      rw [ih _ i (by simpa using hi) h]
      simp only [List.getElem_cons_succ, List.take_succ_cons, List.map_cons, List.sum_cons] at e
      rw [e]; congr 1; omega
theorem markL_len : ∀ (l : List α) (k : Int), (markL f c l k).length = l.length := by
  intro l
  induction l with
  | nil => intro k; rfl
  | cons x l ih => intro k; simp [markL, ih]
theorem markL_get : ∀ (l : List α) (k : Int) (i : Nat), (markL f c l k)[i]? = (l[i]?).map fun x => f x (k + ((l.take i).map c).sum) := by
  intro l
  induction l with
  | nil => intro k i; simp [markL]
  | cons x l ih =>
    intro k i
    cases i with
    | zero => simp [markL]
    | succ i =>
      simp only [markL, List.getElem?_cons_succ, ih, List.take_succ_cons, List.map_cons, List.sum_cons]
      congr 1; funext y; congr 1; omega
theorem markL_map (r : β → γ) : ∀ (l : List α) (k : Int), (markL f c l k).map r = markL (fun x k => r (f x k)) c l k := by
  intro l
  induction l with
  | nil => intro k; rfl
  | cons x l ih => intro k; simp [markL, ih]
end
/-- rows that are filled one by one -/
def fillR {α : Type} (f : α → List TV) (z : List TV) (l : List α) (i : Nat) : List (List TV) := mixM (fun x _ => f x) (fun _ => z) (fun _ => 0) l 0 i
theorem fillR_0 {α : Type} (f : α → List TV) (z : List TV) (l : List α) : fillR f z l 0 = List.replicate l.length z := by
  rw [fillR, mixM_0, List.map_const']
theorem fillR_all {α : Type} (f : α → List TV) (z : List TV) (l : List α) (i : Nat) (h : l.length ≤ i) : fillR f z l i = l.map f := by
  rw [fillR, mixM_all _ _ _ _ _ _ h]
  generalize (0 : Int) = k
  induction l generalizing k i with
  | nil => rfl
  | cons x l ih => simp only [markL, List.map_cons]; rw [ih l.length (by omega)]
theorem fillR_len {α : Type} (f : α → List TV) (z : List TV) (l : List α) (i : Nat) : (fillR f z l i).length = l.length := mixM_len ..
theorem fillR_set {α : Type} (f : α → List TV) (z : List TV) (l : List α) (i : Nat) (h : i < l.length) (g : List TV → List TV) (hg : g z = f l[i]) : (fillR f z l i).modify i g = fillR f z l (i + 1) :=
  mixM_set _ _ _ _ _ _ h _ hg
/-- rows that are marked one by one -/
def mixR {α : Type} (r : α → List TV) (f : α → Int → α) (c : α → Nat) (l : List α) (k : Int) (i : Nat) : List (List TV) := mixM (fun x k => r (f x k)) r c l k i
section
variable {α : Type} (r : α → List TV) (f : α → Int → α) (c : α → Nat)
theorem mixR_0 (l : List α) (k : Int) : mixR r f c l k 0 = l.map r := mixM_0 ..
theorem mixR_len (l : List α) (k : Int) (i : Nat) : (mixR r f c l k i).length = l.length := mixM_len ..
theorem mixR_get (l : List α) (k : Int) (i : Nat) : (mixR r f c l k i)[i]? = (l[i]?).map r := mixM_get ..
theorem mixR_all (l : List α) (k : Int) (i : Nat) (h : l.length ≤ i) : mixR r f c l k i = (markL f c l k).map r := by rw [mixR, mixM_all _ _ _ _ _ _ h, markL_map]
theorem mixR_set (l : List α) (k : Int) (i : Nat) (hi : i < l.length) (h : List TV → List TV) (e : h (r l[i]) = r (f l[i] (k + ((l.take i).map c).sum))) : (mixR r f c l k i).modify i h = mixR r f c l k (i + 1) :=
  mixM_set _ _ _ _ _ _ hi _ e
end
def byteRow (x : UInt8) : List TV := [.int .u8 x.toNat]
def markBy (b : Bytes) (k : Int) : Bytes := markL (fun _ k => UInt8.ofInt k) (fun _ => 1) b k
theorem sum_one {α : Type} (l : List α) : (l.map fun _ => 1).sum = l.length := by induction l with | nil => rfl | cons x l ih => simp [ih]; omega
theorem markBy_len (b : Bytes) (k : Int) : (markBy b k).length = b.length := markL_len ..
theorem markBy_get (b : Bytes) (k : Int) (i : Nat) : (markBy b k)[i]? = (b[i]?).map fun _ => UInt8.ofInt (k + i) := by
  rw [markBy, markL_get]
  by_cases h : i < b.length
  · simp only [sum_one, List.length_take, Nat.min_eq_left (Nat.le_of_lt h)]
  · rw [List.getElem?_eq_none (by omega)]; rfl
theorem wrap_ofInt (k : Int) : IntKind.u8.wrap k = ((UInt8.ofInt k).toNat : Int) := by
  have e : IntKind.u8.wrap k = k % 256 := by
    have h1 : ((2 : Int) ^ IntKind.u8.bits) = 256 := by decide
    unfold IntKind.wrap
    simp only [h1]
    simp [IntKind.signed]
  rw [e]
  simp [UInt8.ofInt]
  omega
theorem bytesR_row (b : Bytes) : bytesR b = b.map byteRow := rfl
theorem markBy_row (b : Bytes) (k : Int) (i : Nat) (h : b.length ≤ i) : mixR byteRow (fun _ k => UInt8.ofInt k) (fun _ => 1) b k i = bytesR (markBy b k) := mixR_all _ _ _ _ _ _ h
theorem SF : (∀ (α : Type) (f : α → List TV) (z : List TV) (l : List α) (i : Nat), (fillR f z l i).length = l.length) ∧
    (∀ (α : Type) (r : α → List TV) (f : α → Int → α) (c : α → Nat) (l : List α) (k : Int) (i : Nat), (mixR r f c l k i).length = l.length) ∧
    (∀ (α : Type) (r : α → List TV) (f : α → Int → α) (c : α → Nat) (l : List α) (k : Int) (i : Nat), (mixR r f c l k i)[i]? = (l[i]?).map r) ∧
    (∀ (α β : Type) (f : α → Int → β) (c : α → Nat) (l : List α) (k : Int), (markL f c l k).length = l.length) ∧
    (∀ (α β : Type) (f : α → Int → β) (c : α → Nat) (l : List α) (k : Int) (i : Nat), (markL f c l k)[i]? = (l[i]?).map fun x => f x (k + ((l.take i).map c).sum)) ∧
    (∀ (b : Bytes) (k : Int), (markBy b k).length = b.length) ∧ (∀ (b : Bytes) (k : Int) (i : Nat), (markBy b k)[i]? = (b[i]?).map fun _ => UInt8.ofInt (k + i)) ∧
    (∀ (α : Type) (l : List α) (i : Nat) (f g : α → α), (l.modify i f).modify i g = l.modify i (fun x => g (f x))) ∧ (∀ (α : Type) (l : List α) (i : Nat) (f : α → α), (l.modify i f)[i]? = (l[i]?).map f) ∧
    (∀ (α : Type) (l : List α) (i : Nat) (f : α → α), (l.modify i f).length = l.length) :=
  ⟨fun _ => fillR_len, fun _ => mixR_len, fun _ => mixR_get, fun _ _ => markL_len, fun _ _ => markL_get, markBy_len, markBy_get,
    fun _ l i f g => List.modify_modify_eq f g i l, fun _ l i f => by simp, fun _ l i f => by simp⟩
theorem flatR_bytes (b : Bytes) : flatR (bytesR b) = true := by
  simp [flatR, bytesR]
  intros; rfl
theorem knownR_bytes (b : Bytes) : knownR (bytesR b) = true := by
  simp [knownR, bytesR]
  intros; rfl
theorem rowsBytes_R (b : Bytes) : rowsBytes (bytesR b) = some b := by
  induction b with
  | nil => rfl
  | cons x b ih =>
    simp only [bytesR, List.map_cons]
    simp only [bytesR] at ih
    have h1 : rowByte [.int .u8 x.toNat] = some x := by
      have := x.toNat_lt
      simp [rowByte]
      try omega
    simp [rowsBytes, ih, h1]
theorem SK : knownR [] = true ∧ (∀ (e : List TV) (l : List (List TV)), knownR (e :: l) = (e.all knownT && knownR l)) ∧ (∀ (t : TV) (e : List TV), (t :: e).all knownT = (knownT t && e.all knownT)) ∧ ([] : List TV).all knownT = true ∧
    (∀ b, knownT (.bool b) = true) ∧ (∀ k n, knownT (.int k n) = true) ∧ (∀ s, knownT (.str s) = true) ∧ (∀ s es, knownT (.sl s es) = true) ∧
    flatR [] = true ∧ (∀ (e : List TV) (l : List (List TV)), flatR (e :: l) = (e.all flatT && flatR l)) ∧ (∀ (t : TV) (e : List TV), (t :: e).all flatT = (flatT t && e.all flatT)) ∧ ([] : List TV).all flatT = true ∧
    (∀ b, flatT (.bool b) = true) ∧ (∀ k n, flatT (.int k n) = true) ∧ (∀ s, flatT (.str s) = true) ∧
    (∀ b : Bytes, flatR (bytesR b) = true) ∧ (∀ b : Bytes, knownR (bytesR b) = true) ∧ (∀ b : Bytes, rowsBytes (bytesR b) = some b) :=
  ⟨rfl, fun _ _ => rfl, fun _ _ => rfl, rfl, fun _ => rfl, fun _ _ => rfl, fun _ => rfl, fun _ _ => rfl, rfl, fun _ _ => rfl, fun _ _ => rfl, rfl, fun _ => rfl, fun _ _ => rfl, fun _ => rfl, flatR_bytes, knownR_bytes, rowsBytes_R⟩
theorem SB : min 1 IntKind.i64.bits = 1 ∧ min 7 IntKind.i64.bits = 7 ∧ min 8 IntKind.i64.bits = 8 ∧ min 14 IntKind.i64.bits = 14 ∧ min 16 IntKind.i64.bits = 16 ∧ min 24 IntKind.i64.bits = 24 ∧ min 33 IntKind.i64.bits = 33 ∧ min 47 IntKind.i64.bits = 47 ∧ min 1 IntKind.u32.bits = 1 ∧ min 8 IntKind.u32.bits = 8 ∧ min 16 IntKind.u32.bits = 16 ∧ min 24 IntKind.u32.bits = 24 := by decide
theorem bytesR_map (b : Bytes) : bytesR b = b.map fun x => [.int .u8 x.toNat] := rfl

theorem cnt_len {α : Type} (c : α → Nat) (h : ∀ x, 1 ≤ c x) (l : List α) : l.length ≤ (l.map c).sum := by
  induction l with
  | nil => simp
  | cons x l ih => have := h x; simp; omega
/-- what is left of a size -/
def szC (l : Int) (n : Nat) : Int := if l < n then -1 else l - n
theorem szC_lt {l : Int} {n : Nat} (h : l < n) : szC l n = -1 := if_pos h
theorem szC_ge {l : Int} {n : Nat} (h : ¬ l < n) : szC l n = l - n := if_neg h
/-- decimal digits -/
def digB (n : Nat) : Bytes := if h : n = 0 then [] else digB (n / 10) ++ [UInt8.ofNat (48 + n % 10)]
termination_by n
def markText (k : Int) : Bytes := if k ≤ 0 then [109, 48] else 109 :: digB k.toNat
def cntM {α : Type} (c : α → Nat) (l : List α) : Nat := (l.map c).sum
def szM {α : Type} (c : α → Nat) (l : List α) : Nat := l.length + (l.map c).sum

structure Page where
  used : Bool
  b : Bytes
  deriving DecidableEq, Inhabited
def Page.row (a : Page) : List TV := [.bool a.used, .sl 1 (bytesR a.b)]
def Page.x (a : Page) : AV := .agg [.bool a.used, .ext 1 (bytesR a.b)]
def Page.o (a : Page) : AV := .agg [.bool a.used, .own 1 (bytesR a.b)]
def Page.sz (a : Page) : Nat := a.b.length
def Page.fine (a : Page) : Prop := (a.b.length < 2 ^ 48)
def Page.cnt (a : Page) : Nat := 1 + a.b.length
def Page.cntT (a : Page) : Nat := a.b.length
def Page.marked (a : Page) (k : Int) : Page := { used := decide ((k).tmod 3 = 0), b := markBy a.b (k + 1) }
def Page.markT (a : Page) (k : Int) : Page := { used := a.used, b := markBy a.b (k) }
def Page.zero : List TV := [.bool false, .sl 1 []]
theorem Page.eq' {a b : Page} (h0 : a.used = b.used) (h1 : a.b = b.b) : a = b := by cases a; cases b; simp_all
theorem Page.cnt1 (a : Page) : 1 ≤ a.cnt := by simp only [Page.cnt]; omega

structure Block where
  pages : List Page
  wear : Int
  bad : Bool
  deriving DecidableEq, Inhabited
def Block.row (a : Block) : List TV := [.sl 2 (a.pages.map Page.row), .int .i64 a.wear, .bool a.bad]
def Block.x (a : Block) : AV := .agg [.ext 2 (a.pages.map Page.row), .int .i64 a.wear, .bool a.bad]
def Block.o (a : Block) : AV := .agg [.own 2 (a.pages.map Page.row), .int .i64 a.wear, .bool a.bad]
def Block.sz (a : Block) : Nat := szM Page.sz a.pages
def Block.fine (a : Block) : Prop := (a.pages.length < 2 ^ 48 ∧ ∀ x ∈ a.pages, x.fine)
def Block.cnt (a : Block) : Nat := cntM Page.cnt a.pages + 1 + 1
def Block.cntT (a : Block) : Nat := cntM Page.cnt a.pages
def Block.marked (a : Block) (k : Int) : Block := { pages := markL Page.marked Page.cnt a.pages (k), wear := k + (cntM Page.cnt a.pages : Nat), bad := decide ((k + (cntM Page.cnt a.pages : Nat) + 1).tmod 3 = 0) }
def Block.markT (a : Block) (k : Int) : Block := { pages := markL Page.marked Page.cnt a.pages (k), wear := a.wear, bad := a.bad }
def Block.zero : List TV := [.sl 2 [], .int .i64 0, .bool false]
theorem Block.eq' {a b : Block} (h0 : a.pages = b.pages) (h1 : a.wear = b.wear) (h2 : a.bad = b.bad) : a = b := by cases a; cases b; simp_all
theorem Block.cnt1 (a : Block) : 1 ≤ a.cnt := by simp only [Block.cnt]; omega

structure Chip where
  blocks : List Block
  deriving DecidableEq, Inhabited
def Chip.row (a : Chip) : List TV := [.sl 3 (a.blocks.map Block.row)]
def Chip.x (a : Chip) : AV := .agg [.ext 3 (a.blocks.map Block.row)]
def Chip.o (a : Chip) : AV := .agg [.own 3 (a.blocks.map Block.row)]
def Chip.sz (a : Chip) : Nat := szM Block.sz a.blocks
def Chip.fine (a : Chip) : Prop := (a.blocks.length < 2 ^ 48 ∧ ∀ x ∈ a.blocks, x.fine)
def Chip.cnt (a : Chip) : Nat := cntM Block.cnt a.blocks
def Chip.cntT (a : Chip) : Nat := cntM Block.cnt a.blocks
def Chip.marked (a : Chip) (k : Int) : Chip := { blocks := markL Block.marked Block.cnt a.blocks (k) }
def Chip.markT (a : Chip) (k : Int) : Chip := { blocks := markL Block.marked Block.cnt a.blocks (k) }
def Chip.zero : List TV := [.sl 3 []]
theorem Chip.eq' {a b : Chip} (h0 : a.blocks = b.blocks) : a = b := by cases a; cases b; simp_all


structure Fault where
  at' : Int
  kind : Int
  keep : Int
  deriving DecidableEq, Inhabited
def Fault.row (a : Fault) : List TV := [.int .i64 a.at', .int .i64 a.kind, .int .i64 a.keep]
def Fault.x (a : Fault) : AV := .agg [.int .i64 a.at', .int .i64 a.kind, .int .i64 a.keep]
def Fault.o (a : Fault) : AV := .agg [.int .i64 a.at', .int .i64 a.kind, .int .i64 a.keep]
def Fault.sz (a : Fault) : Nat := 0
def Fault.fine (a : Fault) : Prop := True
def Fault.cnt (a : Fault) : Nat := 1 + 1 + 1
def Fault.cntT (a : Fault) : Nat := 0
def Fault.marked (a : Fault) (k : Int) : Fault := { at' := k, kind := k + 1, keep := k + 1 + 1 }
def Fault.markT (a : Fault) (k : Int) : Fault := { at' := a.at', kind := a.kind, keep := a.keep }
def Fault.zero : List TV := [.int .i64 0, .int .i64 0, .int .i64 0]
theorem Fault.eq' {a b : Fault} (h0 : a.at' = b.at') (h1 : a.kind = b.kind) (h2 : a.keep = b.keep) : a = b := by cases a; cases b; simp_all
theorem Fault.cnt1 (a : Fault) : 1 ≤ a.cnt := by simp only [Fault.cnt]; omega

structure Dev where
  c : Chip
  ops : Int
  faults : List Fault
  down : Bool
  deriving DecidableEq, Inhabited
def Dev.row (a : Dev) : List TV := [.sl 3 (a.c.blocks.map Block.row), .int .i64 a.ops, .sl 3 (a.faults.map Fault.row), .bool a.down]
def Dev.x (a : Dev) : AV := .agg [.ext 3 (a.c.blocks.map Block.row), .int .i64 a.ops, .ext 3 (a.faults.map Fault.row), .bool a.down]
def Dev.o (a : Dev) : AV := .agg [.own 3 (a.c.blocks.map Block.row), .int .i64 a.ops, .own 3 (a.faults.map Fault.row), .bool a.down]
def Dev.sz (a : Dev) : Nat := a.c.sz + a.faults.length
def Dev.fine (a : Dev) : Prop := (a.c.fine) ∧ (a.faults.length < 2 ^ 48)
def Dev.cnt (a : Dev) : Nat := cntM Block.cnt a.c.blocks + 1 + cntM Fault.cnt a.faults + 1
def Dev.cntT (a : Dev) : Nat := a.c.cntT + cntM Fault.cnt a.faults
def Dev.marked (a : Dev) (k : Int) : Dev := { c := { blocks := markL Block.marked Block.cnt a.c.blocks (k) }, ops := k + (cntM Block.cnt a.c.blocks : Nat), faults := markL Fault.marked Fault.cnt a.faults (k + (cntM Block.cnt a.c.blocks : Nat) + 1), down := decide ((k + (cntM Block.cnt a.c.blocks : Nat) + 1 + (cntM Fault.cnt a.faults : Nat)).tmod 3 = 0) }
def Dev.markT (a : Dev) (k : Int) : Dev := { c := a.c.markT (k), ops := a.ops, faults := markL Fault.marked Fault.cnt a.faults (k + (a.c.cntT : Nat)), down := a.down }
def Dev.zero : List TV := [.sl 3 [], .int .i64 0, .sl 3 [], .bool false]
theorem Dev.eq' {a b : Dev} (h0 : a.c = b.c) (h1 : a.ops = b.ops) (h2 : a.faults = b.faults) (h3 : a.down = b.down) : a = b := by cases a; cases b; simp_all
theorem Dev.cnt1 (a : Dev) : 1 ≤ a.cnt := by simp only [Dev.cnt]; omega

structure Rec where
  kind : Int
  seq : Int
  body : Bytes
  deriving DecidableEq, Inhabited
def Rec.row (a : Rec) : List TV := [.int .i64 a.kind, .int .i64 a.seq, .sl 1 (bytesR a.body)]
def Rec.x (a : Rec) : AV := .agg [.int .i64 a.kind, .int .i64 a.seq, .ext 1 (bytesR a.body)]
def Rec.o (a : Rec) : AV := .agg [.int .i64 a.kind, .int .i64 a.seq, .own 1 (bytesR a.body)]
def Rec.sz (a : Rec) : Nat := a.body.length
def Rec.fine (a : Rec) : Prop := (a.body.length < 2 ^ 48)
def Rec.cnt (a : Rec) : Nat := 1 + 1 + a.body.length
def Rec.cntT (a : Rec) : Nat := a.body.length
def Rec.marked (a : Rec) (k : Int) : Rec := { kind := k, seq := k + 1, body := markBy a.body (k + 1 + 1) }
def Rec.markT (a : Rec) (k : Int) : Rec := { kind := a.kind, seq := a.seq, body := markBy a.body (k) }
def Rec.zero : List TV := [.int .i64 0, .int .i64 0, .sl 1 []]
theorem Rec.eq' {a b : Rec} (h0 : a.kind = b.kind) (h1 : a.seq = b.seq) (h2 : a.body = b.body) : a = b := by cases a; cases b; simp_all
theorem Rec.cnt1 (a : Rec) : 1 ≤ a.cnt := by simp only [Rec.cnt]; omega

structure Op where
  kind : Int
  vol : Int
  path : Bytes
  to' : Bytes
  off : Int
  data : Bytes
  deriving DecidableEq, Inhabited
def Op.row (a : Op) : List TV := [.int .i64 a.kind, .int .i64 a.vol, .str a.path, .str a.to', .int .i64 a.off, .sl 1 (bytesR a.data)]
def Op.x (a : Op) : AV := .agg [.int .i64 a.kind, .int .i64 a.vol, .str a.path, .str a.to', .int .i64 a.off, .ext 1 (bytesR a.data)]
def Op.o (a : Op) : AV := .agg [.int .i64 a.kind, .int .i64 a.vol, .str a.path, .str a.to', .int .i64 a.off, .own 1 (bytesR a.data)]
def Op.sz (a : Op) : Nat := a.path.length + a.to'.length + a.data.length
def Op.fine (a : Op) : Prop := (a.path.length < 2 ^ 48) ∧ (a.to'.length < 2 ^ 48) ∧ (a.data.length < 2 ^ 48)
def Op.cnt (a : Op) : Nat := 1 + 1 + 1 + 1 + 1 + a.data.length
def Op.cntT (a : Op) : Nat := a.data.length
def Op.marked (a : Op) (k : Int) : Op := { kind := k, vol := k + 1, path := markText (k + 1 + 1), to' := markText (k + 1 + 1 + 1), off := k + 1 + 1 + 1 + 1, data := markBy a.data (k + 1 + 1 + 1 + 1 + 1) }
def Op.markT (a : Op) (k : Int) : Op := { kind := a.kind, vol := a.vol, path := a.path, to' := a.to', off := a.off, data := markBy a.data (k) }
def Op.zero : List TV := [.int .i64 0, .int .i64 0, .str [], .str [], .int .i64 0, .sl 1 []]
theorem Op.eq' {a b : Op} (h0 : a.kind = b.kind) (h1 : a.vol = b.vol) (h2 : a.path = b.path) (h3 : a.to' = b.to') (h4 : a.off = b.off) (h5 : a.data = b.data) : a = b := by cases a; cases b; simp_all
theorem Op.cnt1 (a : Op) : 1 ≤ a.cnt := by simp only [Op.cnt]; omega

structure Log where
  d : Dev
  seq : Int
  deriving DecidableEq, Inhabited
def Log.row (a : Log) : List TV := [.sl 3 (a.d.c.blocks.map Block.row), .int .i64 a.d.ops, .sl 3 (a.d.faults.map Fault.row), .bool a.d.down, .int .i64 a.seq]
def Log.x (a : Log) : AV := .agg [.ext 3 (a.d.c.blocks.map Block.row), .int .i64 a.d.ops, .ext 3 (a.d.faults.map Fault.row), .bool a.d.down, .int .i64 a.seq]
def Log.o (a : Log) : AV := .agg [.own 3 (a.d.c.blocks.map Block.row), .int .i64 a.d.ops, .own 3 (a.d.faults.map Fault.row), .bool a.d.down, .int .i64 a.seq]
def Log.sz (a : Log) : Nat := a.d.sz
def Log.fine (a : Log) : Prop := (a.d.fine)
def Log.cnt (a : Log) : Nat := cntM Block.cnt a.d.c.blocks + 1 + cntM Fault.cnt a.d.faults + 1 + 1
def Log.cntT (a : Log) : Nat := a.d.cntT
def Log.marked (a : Log) (k : Int) : Log := { d := { c := { blocks := markL Block.marked Block.cnt a.d.c.blocks (k) }, ops := k + (cntM Block.cnt a.d.c.blocks : Nat), faults := markL Fault.marked Fault.cnt a.d.faults (k + (cntM Block.cnt a.d.c.blocks : Nat) + 1), down := decide ((k + (cntM Block.cnt a.d.c.blocks : Nat) + 1 + (cntM Fault.cnt a.d.faults : Nat)).tmod 3 = 0) }, seq := k + (cntM Block.cnt a.d.c.blocks : Nat) + 1 + (cntM Fault.cnt a.d.faults : Nat) + 1 }
def Log.markT (a : Log) (k : Int) : Log := { d := a.d.markT (k), seq := a.seq }
def Log.zero : List TV := [.sl 3 [], .int .i64 0, .sl 3 [], .bool false, .int .i64 0]
theorem Log.eq' {a b : Log} (h0 : a.d = b.d) (h1 : a.seq = b.seq) : a = b := by cases a; cases b; simp_all
theorem Log.cnt1 (a : Log) : 1 ≤ a.cnt := by simp only [Log.cnt]; omega

theorem ST :
    (∀ a : Page, a.row = [.bool a.used, .sl 1 (bytesR a.b)]) ∧
    (∀ a : Page, a.x = .agg [.bool a.used, .ext 1 (bytesR a.b)]) ∧
    (∀ a : Page, a.o = .agg [.bool a.used, .own 1 (bytesR a.b)]) ∧
    (∀ a : Block, a.row = [.sl 2 (a.pages.map Page.row), .int .i64 a.wear, .bool a.bad]) ∧
    (∀ a : Block, a.x = .agg [.ext 2 (a.pages.map Page.row), .int .i64 a.wear, .bool a.bad]) ∧
    (∀ a : Block, a.o = .agg [.own 2 (a.pages.map Page.row), .int .i64 a.wear, .bool a.bad]) ∧
    (∀ a : Chip, a.row = [.sl 3 (a.blocks.map Block.row)]) ∧
    (∀ a : Chip, a.x = .agg [.ext 3 (a.blocks.map Block.row)]) ∧
    (∀ a : Chip, a.o = .agg [.own 3 (a.blocks.map Block.row)]) ∧
    (∀ a : Fault, a.row = [.int .i64 a.at', .int .i64 a.kind, .int .i64 a.keep]) ∧
    (∀ a : Fault, a.x = .agg [.int .i64 a.at', .int .i64 a.kind, .int .i64 a.keep]) ∧
    (∀ a : Fault, a.o = .agg [.int .i64 a.at', .int .i64 a.kind, .int .i64 a.keep]) ∧
    (∀ a : Dev, a.row = [.sl 3 (a.c.blocks.map Block.row), .int .i64 a.ops, .sl 3 (a.faults.map Fault.row), .bool a.down]) ∧
    (∀ a : Dev, a.x = .agg [.ext 3 (a.c.blocks.map Block.row), .int .i64 a.ops, .ext 3 (a.faults.map Fault.row), .bool a.down]) ∧
    (∀ a : Dev, a.o = .agg [.own 3 (a.c.blocks.map Block.row), .int .i64 a.ops, .own 3 (a.faults.map Fault.row), .bool a.down]) ∧
    (∀ a : Rec, a.row = [.int .i64 a.kind, .int .i64 a.seq, .sl 1 (bytesR a.body)]) ∧
    (∀ a : Rec, a.x = .agg [.int .i64 a.kind, .int .i64 a.seq, .ext 1 (bytesR a.body)]) ∧
    (∀ a : Rec, a.o = .agg [.int .i64 a.kind, .int .i64 a.seq, .own 1 (bytesR a.body)]) ∧
    (∀ a : Op, a.row = [.int .i64 a.kind, .int .i64 a.vol, .str a.path, .str a.to', .int .i64 a.off, .sl 1 (bytesR a.data)]) ∧
    (∀ a : Op, a.x = .agg [.int .i64 a.kind, .int .i64 a.vol, .str a.path, .str a.to', .int .i64 a.off, .ext 1 (bytesR a.data)]) ∧
    (∀ a : Op, a.o = .agg [.int .i64 a.kind, .int .i64 a.vol, .str a.path, .str a.to', .int .i64 a.off, .own 1 (bytesR a.data)]) ∧
    (∀ a : Log, a.row = [.sl 3 (a.d.c.blocks.map Block.row), .int .i64 a.d.ops, .sl 3 (a.d.faults.map Fault.row), .bool a.d.down, .int .i64 a.seq]) ∧
    (∀ a : Log, a.x = .agg [.ext 3 (a.d.c.blocks.map Block.row), .int .i64 a.d.ops, .ext 3 (a.d.faults.map Fault.row), .bool a.d.down, .int .i64 a.seq]) ∧
    (∀ a : Log, a.o = .agg [.own 3 (a.d.c.blocks.map Block.row), .int .i64 a.d.ops, .own 3 (a.d.faults.map Fault.row), .bool a.d.down, .int .i64 a.seq]) ∧
    (∀ (α β : Type) (f : α → β) (l : List α), (l.map f).length = l.length) ∧ (∀ (α β : Type) (f : α → β) (l : List α) (i : Nat), (l.map f)[i]? = (l[i]?).map f) := by
  refine ⟨?_, ?_, ?_, ?_, ?_, ?_, ?_, ?_, ?_, ?_, ?_, ?_, ?_, ?_, ?_, ?_, ?_, ?_, ?_, ?_, ?_, ?_, ?_, ?_, ?_, ?_⟩ <;> intros <;> first | rfl | simp

/-- what each run uses -/
theorem SX : type_of% (And.intro SAU <| And.intro SGs <| And.intro SD <| And.intro S1 <| And.intro S2 <| And.intro S3 <| And.intro SE <| And.intro SC <| And.intro SO <| And.intro ST <| And.intro SF <| And.intro SK <| And.intro @bytes_len <| And.intro @bytes_get <| And.intro @Bool.beq_eq_decide_eq.{0} <| And.intro @Int.natCast_zero <| And.intro @Int.add_zero <| And.intro @ge_iff_le.{0} <| And.intro @gt_iff_lt.{0} <| And.intro @Option.isNone_none.{0} <| And.intro @Option.isNone_some.{0} <| And.intro @List.nil_append.{0} <| And.intro @List.append_nil.{0} <| And.intro @Bool.and_true <| And.intro @Bool.and_self <| SB) := And.intro SAU <| And.intro SGs <| And.intro SD <| And.intro S1 <| And.intro S2 <| And.intro S3 <| And.intro SE <| And.intro SC <| And.intro SO <| And.intro ST <| And.intro SF <| And.intro SK <| And.intro @bytes_len <| And.intro @bytes_get <| And.intro @Bool.beq_eq_decide_eq.{0} <| And.intro @Int.natCast_zero <| And.intro @Int.add_zero <| And.intro @ge_iff_le.{0} <| And.intro @gt_iff_lt.{0} <| And.intro @Option.isNone_none.{0} <| And.intro @Option.isNone_some.{0} <| And.intro @List.nil_append.{0} <| And.intro @List.append_nil.{0} <| And.intro @Bool.and_true <| And.intro @Bool.and_self <| SB
end Go.Proofs.Ytliklgcfdgdigaa.Awp

namespace Go.Proofs.Ytliklgcfdgdigaa.Awp
open Go.Proofs
set_option linter.unusedSimpArgs false
set_option linter.unusedVariables false

/-! ### whole numbers, as bytes -/
def inR (x a b : Int) : Bool := decide (a ≤ x ∧ x ≤ b)
/-! ### the sum of bytes -/
end Go.Proofs.Ytliklgcfdgdigaa.Awp

namespace Go.Proofs.Ytliklgcfdgdigaa.Awp
open Go.Proofs
set_option linter.unusedSimpArgs false
set_option linter.unusedVariables false
set_option maxRecDepth 100000
set_option maxHeartbeats 20000000

theorem s_eqByteS (a b : Bytes) (hl : a.length < 2 ^ 40) : Spec Try.prog 44 [.ext 1 (bytesR a), .ext 1 (bytesR b)] (.bool (decide (a = b))) [.undef, .undef] := by
  refine spec_C hmx p_L_eqByteS [] 51 [] ⟨Nat.le_of_ble_eq_true rfl, Nat.le_of_ble_eq_true rfl⟩ rfl rfl ?_
  intro w hP hmd hks hQ
  unfold c_L_eqByteS
  simp +decide (maxSteps := 20000000) (disch := omega) only [↓SBK, ↓SBK2, SX, Nat.reduceEqDiff, Nat.reduceAdd, Nat.reduceMul, Nat.reduceSub, ↓reduceIte, Int.reduceNeg, Int.reduceToNat, Int.reducePow, hmd, hks, hQ]
  (first | with_reducible refine if_d _ ?_ ?_ | refine if_i _ ?_ ?_) <;> intro h
  · simp +decide (maxSteps := 20000000) (disch := omega) only [↓SBK, ↓SBK2, SX, Nat.reduceEqDiff, Nat.reduceAdd, Nat.reduceMul, Nat.reduceSub, ↓reduceIte, Int.reduceNeg, Int.reduceToNat, Int.reducePow, hmd, hks, hQ]
    refine loop_i (fun i : Nat => [(5, .int .i64 i)]) (fun i => i ≤ a.length ∧ a.take i = b.take i) (fun i => a.length - i) (0) hP hmd hks (rfl) (by simp) ?_
    rintro i ⟨hi, hab⟩ w1 hP1 hmd1 hks1 hQ1
    simp +decide (maxSteps := 20000000) (disch := omega) only [↓SBK, ↓SBK2, SX, Nat.reduceEqDiff, Nat.reduceAdd, Nat.reduceMul, Nat.reduceSub, ↓reduceIte, Int.reduceNeg, Int.reduceToNat, Int.reducePow, hmd, hks, hQ, hmd1, hks1, hQ1]
    (first | with_reducible refine if_d _ ?_ ?_ | refine if_i _ ?_ ?_) <;> intro h1
    · simp +decide (maxSteps := 20000000) (disch := omega) only [↓SBK, ↓SBK2, SX, Nat.reduceEqDiff, Nat.reduceAdd, Nat.reduceMul, Nat.reduceSub, ↓reduceIte, Int.reduceNeg, Int.reduceToNat, Int.reducePow, hmd, hks, hQ, hmd1, hks1, hQ1, getE h1, getE (h ▸ h1)]
      (first | with_reducible refine if_d _ ?_ ?_ | refine if_i _ ?_ ?_) <;> intro h2
      · simp +decide (maxSteps := 20000000) (disch := omega) only [↓SBK, ↓SBK2, SX, Nat.reduceEqDiff, Nat.reduceAdd, Nat.reduceMul, Nat.reduceSub, ↓reduceIte, Int.reduceNeg, Int.reduceToNat, Int.reducePow, hmd, hks, hQ, hmd1, hks1, hQ1]
        exact ⟨i + 1, rfl, ⟨by omega, take_eq_succ hab _ _ (UInt8.toNat_inj.1 (by omega))⟩, by omega⟩
      · simp +decide (maxSteps := 20000000) (disch := omega) only [↓SBK, ↓SBK2, SX, Nat.reduceEqDiff, Nat.reduceAdd, Nat.reduceMul, Nat.reduceSub, ↓reduceIte, Int.reduceNeg, Int.reduceToNat, Int.reducePow, hmd, hks, hQ, hmd1, hks1, hQ1]
        rw [decide_eq_false]
        rintro rfl; exact h2 rfl
    · simp +decide (maxSteps := 20000000) (disch := omega) only [↓SBK, ↓SBK2, SX, Nat.reduceEqDiff, Nat.reduceAdd, Nat.reduceMul, Nat.reduceSub, ↓reduceIte, Int.reduceNeg, Int.reduceToNat, Int.reducePow, hmd, hks, hQ, hmd1, hks1, hQ1]
      rw [decide_eq_true (take_all hab (by omega) (by omega))]
  · simp +decide (maxSteps := 20000000) (disch := omega) only [↓SBK, ↓SBK2, SX, Nat.reduceEqDiff, Nat.reduceAdd, Nat.reduceMul, Nat.reduceSub, ↓reduceIte, Int.reduceNeg, Int.reduceToNat, Int.reducePow, hmd, hks, hQ, hQ]
    rw [decide_eq_false]
    rintro rfl; exact h rfl

theorem s_szByteS (a : Bytes) (left : Int) (hl : a.length < 2 ^ 48) (h0 : 0 ≤ left) (h1 : left < 2 ^ 40) :
    Spec Try.prog 119 [.ext 1 (bytesR a), .int .i64 left] (.int .i64 (szC left a.length)) [.undef, .undef] := by
  refine spec_C hmx p_L_szByteS [] 19 [] ⟨Nat.le_of_ble_eq_true rfl, Nat.le_of_ble_eq_true rfl⟩ rfl rfl ?_
  intro w hP hmd hks hQ
  unfold c_L_szByteS
  simp +decide (maxSteps := 20000000) (disch := omega) only [↓SBK, ↓SBK2, SX, Nat.reduceEqDiff, Nat.reduceAdd, Nat.reduceMul, Nat.reduceSub, ↓reduceIte, Int.reduceNeg, Int.reduceToNat, Int.reducePow, hmd, hks, hQ]
  (first | with_reducible refine if_d _ ?_ ?_ | refine if_i _ ?_ ?_) <;> intro h
  · simp +decide (maxSteps := 20000000) (disch := omega) only [↓SBK, ↓SBK2, SX, Nat.reduceEqDiff, Nat.reduceAdd, Nat.reduceMul, Nat.reduceSub, ↓reduceIte, Int.reduceNeg, Int.reduceToNat, Int.reducePow, hmd, hks, hQ]
    rw [szC_lt (by omega)]
  · simp +decide (maxSteps := 20000000) (disch := omega) only [↓SBK, ↓SBK2, SX, Nat.reduceEqDiff, Nat.reduceAdd, Nat.reduceMul, Nat.reduceSub, ↓reduceIte, Int.reduceNeg, Int.reduceToNat, Int.reducePow, hmd, hks, hQ]
    rw [szC_ge (by omega)]

theorem s_toByteS (a : Bytes) (hl : a.length < 2 ^ 40) : Spec Try.prog 61 [.ext 1 (bytesR a)] (.own 1 (bytesR a)) [.undef] := by
  refine spec_C hmx p_L_toByteS [] 29 [] ⟨Nat.le_of_ble_eq_true rfl, Nat.le_of_ble_eq_true rfl⟩ rfl rfl ?_
  intro w hP hmd hks hQ
  unfold c_L_toByteS
  simp +decide (maxSteps := 20000000) (disch := omega) only [↓SBK, ↓SBK2, SX, Nat.reduceEqDiff, Nat.reduceAdd, Nat.reduceMul, Nat.reduceSub, ↓reduceIte, Int.reduceNeg, Int.reduceToNat, Int.reducePow, hmd, hks, hQ]
  refine loop_i (fun i : Nat => [(3, .own 1 (fillR byteRow [.int .u8 0] a i)), (4, .int .i64 i)]) (fun i => i ≤ a.length) (fun i => a.length - i) (0) hP hmd hks (by simp +decide (maxSteps := 20000000) (disch := omega) only [↓SBK, ↓SBK2, SX, Nat.reduceEqDiff, Nat.reduceAdd, Nat.reduceMul, Nat.reduceSub, ↓reduceIte, Int.reduceNeg, Int.reduceToNat, Int.reducePow, hmd, hks, hQ, fillR_0]) (by omega) ?_
  rintro i hi w1 hP1 hmd1 hks1 hQ1
  simp +decide (maxSteps := 20000000) (disch := omega) only [↓SBK, ↓SBK2, SX, Nat.reduceEqDiff, Nat.reduceAdd, Nat.reduceMul, Nat.reduceSub, ↓reduceIte, Int.reduceNeg, Int.reduceToNat, Int.reducePow, hmd, hks, hQ, hmd1, hks1, hQ1]
  (first | with_reducible refine if_d _ ?_ ?_ | refine if_i _ ?_ ?_) <;> intro h1
  · simp +decide (maxSteps := 20000000) (disch := omega) only [↓SBK, ↓SBK2, SX, Nat.reduceEqDiff, Nat.reduceAdd, Nat.reduceMul, Nat.reduceSub, ↓reduceIte, Int.reduceNeg, Int.reduceToNat, Int.reducePow, hmd, hks, hQ, hmd1, hks1, hQ1, getE h1]
    rw [fillR_set _ _ _ _ (by omega) _ (by rfl)]
    exact ⟨i + 1, rfl, by omega, by omega⟩
  · simp +decide (maxSteps := 20000000) (disch := omega) only [↓SBK, ↓SBK2, SX, Nat.reduceEqDiff, Nat.reduceAdd, Nat.reduceMul, Nat.reduceSub, ↓reduceIte, Int.reduceNeg, Int.reduceToNat, Int.reducePow, hmd, hks, hQ, hmd1, hks1, hQ1, fillR_all, bytesR_row]

theorem s_markByteS (a : Bytes) (k : Int) (h0 : 0 ≤ k) (hl : k + a.length < 2 ^ 40) : Spec Try.prog 46 [.own 1 (bytesR a), .int .i64 k] (.int .i64 (k + a.length)) [.own 1 (bytesR (markBy a k)), .undef] := by
  refine spec_C hmx p_L_markByteS [] 51 [true, false] ⟨Nat.le_of_ble_eq_true rfl, Nat.le_of_ble_eq_true rfl⟩ rfl rfl ?_
  intro w hP hmd hks hQ
  unfold c_L_markByteS
  simp +decide (maxSteps := 20000000) (disch := omega) only [↓SBK, ↓SBK2, SX, Nat.reduceEqDiff, Nat.reduceAdd, Nat.reduceMul, Nat.reduceSub, ↓reduceIte, Int.reduceNeg, Int.reduceToNat, Int.reducePow, hmd, hks, hQ]
  refine loop_i (fun i : Nat => [(1000, .own 1 (mixR byteRow (fun _ k => UInt8.ofInt k) (fun _ => 1) a k i)), (1, .int .i64 (k + i)), (5, .int .i64 i)]) (fun i => i ≤ a.length) (fun i => a.length - i) (0) hP hmd hks (by simp +decide (maxSteps := 20000000) (disch := omega) only [↓SBK, ↓SBK2, SX, Nat.reduceEqDiff, Nat.reduceAdd, Nat.reduceMul, Nat.reduceSub, ↓reduceIte, Int.reduceNeg, Int.reduceToNat, Int.reducePow, hmd, hks, hQ, mixR_0, ← bytesR_row]) (by omega) ?_
  rintro i hi w1 hP1 hmd1 hks1 hQ1
  simp +decide (maxSteps := 20000000) (disch := omega) only [↓SBK, ↓SBK2, SX, Nat.reduceEqDiff, Nat.reduceAdd, Nat.reduceMul, Nat.reduceSub, ↓reduceIte, Int.reduceNeg, Int.reduceToNat, Int.reducePow, hmd, hks, hQ, hmd1, hks1, hQ1]
  (first | with_reducible refine if_d _ ?_ ?_ | refine if_i _ ?_ ?_) <;> intro h1
  · simp +decide (maxSteps := 20000000) (disch := omega) only [↓SBK, ↓SBK2, SX, Nat.reduceEqDiff, Nat.reduceAdd, Nat.reduceMul, Nat.reduceSub, ↓reduceIte, Int.reduceNeg, Int.reduceToNat, Int.reducePow, hmd, hks, hQ, hmd1, hks1, hQ1]
    rw [mixR_set _ _ _ _ _ _ (by omega) _ (by simp only [sum_one, List.length_take, Nat.min_eq_left hi, wrap_ofInt]; rfl)]
    exact ⟨i + 1, by simp [Int.add_assoc], by omega, by omega⟩
  · obtain rfl : i = a.length := by omega
    simp +decide (maxSteps := 20000000) (disch := omega) only [↓SBK, ↓SBK2, SX, Nat.reduceEqDiff, Nat.reduceAdd, Nat.reduceMul, Nat.reduceSub, ↓reduceIte, Int.reduceNeg, Int.reduceToNat, Int.reducePow, hmd, hks, hQ, hmd1, hks1, hQ1, markBy_row]

theorem s_heldByteS (a : Bytes) (k : Int) (h0 : 0 ≤ k) (hl : k + a.length < 2 ^ 40) : Spec Try.prog 47 [.ext 1 (bytesR (markBy a k)), .int .i64 k] (.int .i64 (k + a.length)) [.undef, .undef] := by
  refine spec_C hmx p_L_heldByteS [] 51 [] ⟨Nat.le_of_ble_eq_true rfl, Nat.le_of_ble_eq_true rfl⟩ rfl rfl ?_
  intro w hP hmd hks hQ
  unfold c_L_heldByteS
  simp +decide (maxSteps := 20000000) (disch := omega) only [↓SBK, ↓SBK2, SX, Nat.reduceEqDiff, Nat.reduceAdd, Nat.reduceMul, Nat.reduceSub, ↓reduceIte, Int.reduceNeg, Int.reduceToNat, Int.reducePow, hmd, hks, hQ]
  refine loop_i (fun i : Nat => [(1, .int .i64 (k + i)), (5, .int .i64 i)]) (fun i => i ≤ a.length) (fun i => a.length - i) (0) hP hmd hks (by simp +decide (maxSteps := 20000000) (disch := omega) only [↓SBK, ↓SBK2, SX, Nat.reduceEqDiff, Nat.reduceAdd, Nat.reduceMul, Nat.reduceSub, ↓reduceIte, Int.reduceNeg, Int.reduceToNat, Int.reducePow, hmd, hks, hQ]) (by omega) ?_
  rintro i hi w1 hP1 hmd1 hks1 hQ1
  simp +decide (maxSteps := 20000000) (disch := omega) only [↓SBK, ↓SBK2, SX, Nat.reduceEqDiff, Nat.reduceAdd, Nat.reduceMul, Nat.reduceSub, ↓reduceIte, Int.reduceNeg, Int.reduceToNat, Int.reducePow, hmd, hks, hQ, hmd1, hks1, hQ1]
  (first | with_reducible refine if_d _ ?_ ?_ | refine if_i _ ?_ ?_) <;> intro h1
  · simp +decide (maxSteps := 20000000) (disch := omega) only [↓SBK, ↓SBK2, SX, Nat.reduceEqDiff, Nat.reduceAdd, Nat.reduceMul, Nat.reduceSub, ↓reduceIte, Int.reduceNeg, Int.reduceToNat, Int.reducePow, hmd, hks, hQ, hmd1, hks1, hQ1, getE h1, wrap_ofInt]
    exact ⟨i + 1, by simp [Int.add_assoc], by omega, by omega⟩
  · obtain rfl : i = a.length := by omega
    simp +decide (maxSteps := 20000000) (disch := omega) only [↓SBK, ↓SBK2, SX, Nat.reduceEqDiff, Nat.reduceAdd, Nat.reduceMul, Nat.reduceSub, ↓reduceIte, Int.reduceNeg, Int.reduceToNat, Int.reducePow, hmd, hks, hQ, hmd1, hks1, hQ1]
end Go.Proofs.Ytliklgcfdgdigaa.Awp

namespace Go.Proofs.Ytliklgcfdgdigaa.Awp
open Go.Proofs
set_option linter.unusedSimpArgs false
set_option linter.unusedVariables false
set_option maxRecDepth 100000
set_option maxHeartbeats 20000000

theorem s_eqPage (a b : Page) (hl : a.sz < 2 ^ 40) : Spec Try.prog 187 [a.x, b.x] (.bool (decide (a = b))) [.undef, .undef] := by
  simp only [Page.sz] at hl
  refine spec_C hmx p_L_eqPage [] 31 [] ⟨Nat.le_of_ble_eq_true rfl, Nat.le_of_ble_eq_true rfl⟩ rfl rfl ?_
  intro w hP hmd hks hQ
  unfold c_L_eqPage
  simp +decide (maxSteps := 20000000) (disch := omega) only [↓SBK, ↓SBK2, SX, Nat.reduceEqDiff, Nat.reduceAdd, Nat.reduceMul, Nat.reduceSub, ↓reduceIte, Int.reduceNeg, Int.reduceToNat, Int.reducePow, hmd, hks, hQ]
  (first | with_reducible refine if_d _ ?_ ?_ | refine if_i _ ?_ ?_) <;> intro h0
  rotate_left
  · simp +decide (maxSteps := 20000000) (disch := omega) only [↓SBK, ↓SBK2, SX, Nat.reduceEqDiff, Nat.reduceAdd, Nat.reduceMul, Nat.reduceSub, ↓reduceIte, Int.reduceNeg, Int.reduceToNat, Int.reducePow, hmd, hks, hQ]
    rw [decide_eq_false (by rintro rfl; exact h0 rfl)]
  simp +decide (maxSteps := 20000000) (disch := omega) only [↓SBK, ↓SBK2, SX, Nat.reduceEqDiff, Nat.reduceAdd, Nat.reduceMul, Nat.reduceSub, ↓reduceIte, Int.reduceNeg, Int.reduceToNat, Int.reducePow, hmd, hks, hQ]
  (first | refine call_i hP (s_eqByteS a.b b.b (by omega)) (.inl ⟨rfl, fun _ hx => nomatch hx⟩) ?_ | refine callH_i hP (s_eqByteS a.b b.b (by omega)) (.inl ⟨rfl, fun _ hx => nomatch hx⟩) ?_)
  simp +decide (maxSteps := 20000000) (disch := omega) only [↓SBK, ↓SBK2, SX, Nat.reduceEqDiff, Nat.reduceAdd, Nat.reduceMul, Nat.reduceSub, ↓reduceIte, Int.reduceNeg, Int.reduceToNat, Int.reducePow, hmd, hks, hQ]
  (first | with_reducible refine if_d _ ?_ ?_ | refine if_i _ ?_ ?_) <;> intro h1
  rotate_left
  · simp +decide (maxSteps := 20000000) (disch := omega) only [↓SBK, ↓SBK2, SX, Nat.reduceEqDiff, Nat.reduceAdd, Nat.reduceMul, Nat.reduceSub, ↓reduceIte, Int.reduceNeg, Int.reduceToNat, Int.reducePow, hmd, hks, hQ]
    rw [decide_eq_false (by rintro rfl; exact h1 rfl)]
  simp +decide (maxSteps := 20000000) (disch := omega) only [↓SBK, ↓SBK2, SX, Nat.reduceEqDiff, Nat.reduceAdd, Nat.reduceMul, Nat.reduceSub, ↓reduceIte, Int.reduceNeg, Int.reduceToNat, Int.reducePow, hmd, hks, hQ]
  rw [decide_eq_true (Page.eq' h0 h1)]

theorem s_eqPageS (a b : List Page) (hl : szM Page.sz a < 2 ^ 40) : Spec Try.prog 184 [.ext 2 (a.map Page.row), .ext 2 (b.map Page.row)] (.bool (decide (a = b))) [.undef, .undef] := by
  simp only [szM] at hl
  refine spec_C hmx p_L_eqPageS [] 51 [] ⟨Nat.le_of_ble_eq_true rfl, Nat.le_of_ble_eq_true rfl⟩ rfl rfl ?_
  intro w hP hmd hks hQ
  unfold c_L_eqPageS
  simp +decide (maxSteps := 20000000) (disch := omega) only [↓SBK, ↓SBK2, SX, Nat.reduceEqDiff, Nat.reduceAdd, Nat.reduceMul, Nat.reduceSub, ↓reduceIte, Int.reduceNeg, Int.reduceToNat, Int.reducePow, hmd, hks, hQ]
  (first | with_reducible refine if_d _ ?_ ?_ | refine if_i _ ?_ ?_) <;> intro h
  rotate_left
  · simp +decide (maxSteps := 20000000) (disch := omega) only [↓SBK, ↓SBK2, SX, Nat.reduceEqDiff, Nat.reduceAdd, Nat.reduceMul, Nat.reduceSub, ↓reduceIte, Int.reduceNeg, Int.reduceToNat, Int.reducePow, hmd, hks, hQ]
    rw [decide_eq_false (by rintro rfl; exact h rfl)]
  simp +decide (maxSteps := 20000000) (disch := omega) only [↓SBK, ↓SBK2, SX, Nat.reduceEqDiff, Nat.reduceAdd, Nat.reduceMul, Nat.reduceSub, ↓reduceIte, Int.reduceNeg, Int.reduceToNat, Int.reducePow, hmd, hks, hQ]
  refine loop_i (fun i : Nat => [(5, .int .i64 i)]) (fun i => i ≤ a.length ∧ a.take i = b.take i) (fun i => a.length - i) (0) hP hmd hks (rfl) (by simp) ?_
  rintro i ⟨hi, hab⟩ w1 hP1 hmd1 hks1 hQ1
  simp +decide (maxSteps := 20000000) (disch := omega) only [↓SBK, ↓SBK2, SX, Nat.reduceEqDiff, Nat.reduceAdd, Nat.reduceMul, Nat.reduceSub, ↓reduceIte, Int.reduceNeg, Int.reduceToNat, Int.reducePow, hmd, hks, hQ, hmd1, hks1, hQ1]
  (first | with_reducible refine if_d _ ?_ ?_ | refine if_i _ ?_ ?_) <;> intro h1
  · simp +decide (maxSteps := 20000000) (disch := omega) only [↓SBK, ↓SBK2, SX, Nat.reduceEqDiff, Nat.reduceAdd, Nat.reduceMul, Nat.reduceSub, ↓reduceIte, Int.reduceNeg, Int.reduceToNat, Int.reducePow, hmd, hks, hQ, hmd1, hks1, hQ1, getE h1, getE (h ▸ h1)]
    (first | refine call_i hP1 (s_eqPage (a[i]'(by omega)) (b[i]'(by omega)) (Nat.lt_of_le_of_lt (sum_get Page.sz _) (by omega))) (.inl ⟨rfl, fun _ hx => nomatch hx⟩) ?_ | refine callH_i hP1 (s_eqPage (a[i]'(by omega)) (b[i]'(by omega)) (Nat.lt_of_le_of_lt (sum_get Page.sz _) (by omega))) (.inl ⟨rfl, fun _ hx => nomatch hx⟩) ?_)
    simp +decide (maxSteps := 20000000) (disch := omega) only [↓SBK, ↓SBK2, SX, Nat.reduceEqDiff, Nat.reduceAdd, Nat.reduceMul, Nat.reduceSub, ↓reduceIte, Int.reduceNeg, Int.reduceToNat, Int.reducePow, hmd, hks, hQ, hmd1, hks1, hQ1]
    (first | with_reducible refine if_d _ ?_ ?_ | refine if_i _ ?_ ?_) <;> intro h2
    · simp +decide (maxSteps := 20000000) (disch := omega) only [↓SBK, ↓SBK2, SX, Nat.reduceEqDiff, Nat.reduceAdd, Nat.reduceMul, Nat.reduceSub, ↓reduceIte, Int.reduceNeg, Int.reduceToNat, Int.reducePow, hmd, hks, hQ, hmd1, hks1, hQ1]
      exact ⟨i + 1, rfl, ⟨by omega, take_eq_succ hab _ _ h2⟩, by omega⟩
    · simp +decide (maxSteps := 20000000) (disch := omega) only [↓SBK, ↓SBK2, SX, Nat.reduceEqDiff, Nat.reduceAdd, Nat.reduceMul, Nat.reduceSub, ↓reduceIte, Int.reduceNeg, Int.reduceToNat, Int.reducePow, hmd, hks, hQ, hmd1, hks1, hQ1]
      rw [decide_eq_false (by rintro rfl; exact h2 rfl)]
  · simp +decide (maxSteps := 20000000) (disch := omega) only [↓SBK, ↓SBK2, SX, Nat.reduceEqDiff, Nat.reduceAdd, Nat.reduceMul, Nat.reduceSub, ↓reduceIte, Int.reduceNeg, Int.reduceToNat, Int.reducePow, hmd, hks, hQ, hmd1, hks1, hQ1]
    rw [decide_eq_true (take_all hab (by omega) (by omega))]

theorem s_eqBlock (a b : Block) (hl : a.sz < 2 ^ 40) : Spec Try.prog 169 [a.x, b.x] (.bool (decide (a = b))) [.undef, .undef] := by
  simp only [Block.sz] at hl
  refine spec_C hmx p_L_eqBlock [] 31 [] ⟨Nat.le_of_ble_eq_true rfl, Nat.le_of_ble_eq_true rfl⟩ rfl rfl ?_
  intro w hP hmd hks hQ
  unfold c_L_eqBlock
  simp +decide (maxSteps := 20000000) (disch := omega) only [↓SBK, ↓SBK2, SX, Nat.reduceEqDiff, Nat.reduceAdd, Nat.reduceMul, Nat.reduceSub, ↓reduceIte, Int.reduceNeg, Int.reduceToNat, Int.reducePow, hmd, hks, hQ]
  (first | refine call_i hP (s_eqPageS a.pages b.pages (by omega)) (.inl ⟨rfl, fun _ hx => nomatch hx⟩) ?_ | refine callH_i hP (s_eqPageS a.pages b.pages (by omega)) (.inl ⟨rfl, fun _ hx => nomatch hx⟩) ?_)
  simp +decide (maxSteps := 20000000) (disch := omega) only [↓SBK, ↓SBK2, SX, Nat.reduceEqDiff, Nat.reduceAdd, Nat.reduceMul, Nat.reduceSub, ↓reduceIte, Int.reduceNeg, Int.reduceToNat, Int.reducePow, hmd, hks, hQ]
  (first | with_reducible refine if_d _ ?_ ?_ | refine if_i _ ?_ ?_) <;> intro h0
  rotate_left
  · simp +decide (maxSteps := 20000000) (disch := omega) only [↓SBK, ↓SBK2, SX, Nat.reduceEqDiff, Nat.reduceAdd, Nat.reduceMul, Nat.reduceSub, ↓reduceIte, Int.reduceNeg, Int.reduceToNat, Int.reducePow, hmd, hks, hQ]
    rw [decide_eq_false (by rintro rfl; exact h0 rfl)]
  simp +decide (maxSteps := 20000000) (disch := omega) only [↓SBK, ↓SBK2, SX, Nat.reduceEqDiff, Nat.reduceAdd, Nat.reduceMul, Nat.reduceSub, ↓reduceIte, Int.reduceNeg, Int.reduceToNat, Int.reducePow, hmd, hks, hQ]
  (first | with_reducible refine if_d _ ?_ ?_ | refine if_i _ ?_ ?_) <;> intro h1
  rotate_left
  · simp +decide (maxSteps := 20000000) (disch := omega) only [↓SBK, ↓SBK2, SX, Nat.reduceEqDiff, Nat.reduceAdd, Nat.reduceMul, Nat.reduceSub, ↓reduceIte, Int.reduceNeg, Int.reduceToNat, Int.reducePow, hmd, hks, hQ]
    rw [decide_eq_false (by rintro rfl; exact h1 rfl)]
  simp +decide (maxSteps := 20000000) (disch := omega) only [↓SBK, ↓SBK2, SX, Nat.reduceEqDiff, Nat.reduceAdd, Nat.reduceMul, Nat.reduceSub, ↓reduceIte, Int.reduceNeg, Int.reduceToNat, Int.reducePow, hmd, hks, hQ]
  (first | with_reducible refine if_d _ ?_ ?_ | refine if_i _ ?_ ?_) <;> intro h2
  rotate_left
  · simp +decide (maxSteps := 20000000) (disch := omega) only [↓SBK, ↓SBK2, SX, Nat.reduceEqDiff, Nat.reduceAdd, Nat.reduceMul, Nat.reduceSub, ↓reduceIte, Int.reduceNeg, Int.reduceToNat, Int.reducePow, hmd, hks, hQ]
    rw [decide_eq_false (by rintro rfl; exact h2 rfl)]
  simp +decide (maxSteps := 20000000) (disch := omega) only [↓SBK, ↓SBK2, SX, Nat.reduceEqDiff, Nat.reduceAdd, Nat.reduceMul, Nat.reduceSub, ↓reduceIte, Int.reduceNeg, Int.reduceToNat, Int.reducePow, hmd, hks, hQ]
  rw [decide_eq_true (Block.eq' h0 h1 h2)]

theorem s_eqBlockS (a b : List Block) (hl : szM Block.sz a < 2 ^ 40) : Spec Try.prog 126 [.ext 3 (a.map Block.row), .ext 3 (b.map Block.row)] (.bool (decide (a = b))) [.undef, .undef] := by
  simp only [szM] at hl
  refine spec_C hmx p_L_eqBlockS [] 51 [] ⟨Nat.le_of_ble_eq_true rfl, Nat.le_of_ble_eq_true rfl⟩ rfl rfl ?_
  intro w hP hmd hks hQ
  unfold c_L_eqBlockS
  simp +decide (maxSteps := 20000000) (disch := omega) only [↓SBK, ↓SBK2, SX, Nat.reduceEqDiff, Nat.reduceAdd, Nat.reduceMul, Nat.reduceSub, ↓reduceIte, Int.reduceNeg, Int.reduceToNat, Int.reducePow, hmd, hks, hQ]
  (first | with_reducible refine if_d _ ?_ ?_ | refine if_i _ ?_ ?_) <;> intro h
  rotate_left
  · simp +decide (maxSteps := 20000000) (disch := omega) only [↓SBK, ↓SBK2, SX, Nat.reduceEqDiff, Nat.reduceAdd, Nat.reduceMul, Nat.reduceSub, ↓reduceIte, Int.reduceNeg, Int.reduceToNat, Int.reducePow, hmd, hks, hQ]
    rw [decide_eq_false (by rintro rfl; exact h rfl)]
  simp +decide (maxSteps := 20000000) (disch := omega) only [↓SBK, ↓SBK2, SX, Nat.reduceEqDiff, Nat.reduceAdd, Nat.reduceMul, Nat.reduceSub, ↓reduceIte, Int.reduceNeg, Int.reduceToNat, Int.reducePow, hmd, hks, hQ]
  refine loop_i (fun i : Nat => [(5, .int .i64 i)]) (fun i => i ≤ a.length ∧ a.take i = b.take i) (fun i => a.length - i) (0) hP hmd hks (rfl) (by simp) ?_
  rintro i ⟨hi, hab⟩ w1 hP1 hmd1 hks1 hQ1
  simp +decide (maxSteps := 20000000) (disch := omega) only [↓SBK, ↓SBK2, SX, Nat.reduceEqDiff, Nat.reduceAdd, Nat.reduceMul, Nat.reduceSub, ↓reduceIte, Int.reduceNeg, Int.reduceToNat, Int.reducePow, hmd, hks, hQ, hmd1, hks1, hQ1]
  (first | with_reducible refine if_d _ ?_ ?_ | refine if_i _ ?_ ?_) <;> intro h1
  · simp +decide (maxSteps := 20000000) (disch := omega) only [↓SBK, ↓SBK2, SX, Nat.reduceEqDiff, Nat.reduceAdd, Nat.reduceMul, Nat.reduceSub, ↓reduceIte, Int.reduceNeg, Int.reduceToNat, Int.reducePow, hmd, hks, hQ, hmd1, hks1, hQ1, getE h1, getE (h ▸ h1)]
    (first | refine call_i hP1 (s_eqBlock (a[i]'(by omega)) (b[i]'(by omega)) (Nat.lt_of_le_of_lt (sum_get Block.sz _) (by omega))) (.inl ⟨rfl, fun _ hx => nomatch hx⟩) ?_ | refine callH_i hP1 (s_eqBlock (a[i]'(by omega)) (b[i]'(by omega)) (Nat.lt_of_le_of_lt (sum_get Block.sz _) (by omega))) (.inl ⟨rfl, fun _ hx => nomatch hx⟩) ?_)
    simp +decide (maxSteps := 20000000) (disch := omega) only [↓SBK, ↓SBK2, SX, Nat.reduceEqDiff, Nat.reduceAdd, Nat.reduceMul, Nat.reduceSub, ↓reduceIte, Int.reduceNeg, Int.reduceToNat, Int.reducePow, hmd, hks, hQ, hmd1, hks1, hQ1]
    (first | with_reducible refine if_d _ ?_ ?_ | refine if_i _ ?_ ?_) <;> intro h2
    · simp +decide (maxSteps := 20000000) (disch := omega) only [↓SBK, ↓SBK2, SX, Nat.reduceEqDiff, Nat.reduceAdd, Nat.reduceMul, Nat.reduceSub, ↓reduceIte, Int.reduceNeg, Int.reduceToNat, Int.reducePow, hmd, hks, hQ, hmd1, hks1, hQ1]
      exact ⟨i + 1, rfl, ⟨by omega, take_eq_succ hab _ _ h2⟩, by omega⟩
    · simp +decide (maxSteps := 20000000) (disch := omega) only [↓SBK, ↓SBK2, SX, Nat.reduceEqDiff, Nat.reduceAdd, Nat.reduceMul, Nat.reduceSub, ↓reduceIte, Int.reduceNeg, Int.reduceToNat, Int.reducePow, hmd, hks, hQ, hmd1, hks1, hQ1]
      rw [decide_eq_false (by rintro rfl; exact h2 rfl)]
  · simp +decide (maxSteps := 20000000) (disch := omega) only [↓SBK, ↓SBK2, SX, Nat.reduceEqDiff, Nat.reduceAdd, Nat.reduceMul, Nat.reduceSub, ↓reduceIte, Int.reduceNeg, Int.reduceToNat, Int.reducePow, hmd, hks, hQ, hmd1, hks1, hQ1]
    rw [decide_eq_true (take_all hab (by omega) (by omega))]

theorem s_eqChip (a b : Chip) (hl : a.sz < 2 ^ 40) : Spec Try.prog 50 [a.x, b.x] (.bool (decide (a = b))) [.undef, .undef] := by
  simp only [Chip.sz] at hl
  refine spec_C hmx p_L_eqChip [] 31 [] ⟨Nat.le_of_ble_eq_true rfl, Nat.le_of_ble_eq_true rfl⟩ rfl rfl ?_
  intro w hP hmd hks hQ
  unfold c_L_eqChip
  simp +decide (maxSteps := 20000000) (disch := omega) only [↓SBK, ↓SBK2, SX, Nat.reduceEqDiff, Nat.reduceAdd, Nat.reduceMul, Nat.reduceSub, ↓reduceIte, Int.reduceNeg, Int.reduceToNat, Int.reducePow, hmd, hks, hQ]
  (first | refine call_i hP (s_eqBlockS a.blocks b.blocks (by omega)) (.inl ⟨rfl, fun _ hx => nomatch hx⟩) ?_ | refine callH_i hP (s_eqBlockS a.blocks b.blocks (by omega)) (.inl ⟨rfl, fun _ hx => nomatch hx⟩) ?_)
  simp +decide (maxSteps := 20000000) (disch := omega) only [↓SBK, ↓SBK2, SX, Nat.reduceEqDiff, Nat.reduceAdd, Nat.reduceMul, Nat.reduceSub, ↓reduceIte, Int.reduceNeg, Int.reduceToNat, Int.reducePow, hmd, hks, hQ]
  (first | with_reducible refine if_d _ ?_ ?_ | refine if_i _ ?_ ?_) <;> intro h0
  rotate_left
  · simp +decide (maxSteps := 20000000) (disch := omega) only [↓SBK, ↓SBK2, SX, Nat.reduceEqDiff, Nat.reduceAdd, Nat.reduceMul, Nat.reduceSub, ↓reduceIte, Int.reduceNeg, Int.reduceToNat, Int.reducePow, hmd, hks, hQ]
    rw [decide_eq_false (by rintro rfl; exact h0 rfl)]
  simp +decide (maxSteps := 20000000) (disch := omega) only [↓SBK, ↓SBK2, SX, Nat.reduceEqDiff, Nat.reduceAdd, Nat.reduceMul, Nat.reduceSub, ↓reduceIte, Int.reduceNeg, Int.reduceToNat, Int.reducePow, hmd, hks, hQ]
  rw [decide_eq_true (Chip.eq' h0)]

theorem s_eqFault (a b : Fault) (hl : a.sz < 2 ^ 40) : Spec Try.prog 85 [a.x, b.x] (.bool (decide (a = b))) [.undef, .undef] := by
  simp only [Fault.sz] at hl
  refine spec_C hmx p_L_eqFault [] 31 [] ⟨Nat.le_of_ble_eq_true rfl, Nat.le_of_ble_eq_true rfl⟩ rfl rfl ?_
  intro w hP hmd hks hQ
  unfold c_L_eqFault
  simp +decide (maxSteps := 20000000) (disch := omega) only [↓SBK, ↓SBK2, SX, Nat.reduceEqDiff, Nat.reduceAdd, Nat.reduceMul, Nat.reduceSub, ↓reduceIte, Int.reduceNeg, Int.reduceToNat, Int.reducePow, hmd, hks, hQ]
  (first | with_reducible refine if_d _ ?_ ?_ | refine if_i _ ?_ ?_) <;> intro h0
  rotate_left
  · simp +decide (maxSteps := 20000000) (disch := omega) only [↓SBK, ↓SBK2, SX, Nat.reduceEqDiff, Nat.reduceAdd, Nat.reduceMul, Nat.reduceSub, ↓reduceIte, Int.reduceNeg, Int.reduceToNat, Int.reducePow, hmd, hks, hQ]
    rw [decide_eq_false (by rintro rfl; exact h0 rfl)]
  simp +decide (maxSteps := 20000000) (disch := omega) only [↓SBK, ↓SBK2, SX, Nat.reduceEqDiff, Nat.reduceAdd, Nat.reduceMul, Nat.reduceSub, ↓reduceIte, Int.reduceNeg, Int.reduceToNat, Int.reducePow, hmd, hks, hQ]
  (first | with_reducible refine if_d _ ?_ ?_ | refine if_i _ ?_ ?_) <;> intro h1
  rotate_left
  · simp +decide (maxSteps := 20000000) (disch := omega) only [↓SBK, ↓SBK2, SX, Nat.reduceEqDiff, Nat.reduceAdd, Nat.reduceMul, Nat.reduceSub, ↓reduceIte, Int.reduceNeg, Int.reduceToNat, Int.reducePow, hmd, hks, hQ]
    rw [decide_eq_false (by rintro rfl; exact h1 rfl)]
  simp +decide (maxSteps := 20000000) (disch := omega) only [↓SBK, ↓SBK2, SX, Nat.reduceEqDiff, Nat.reduceAdd, Nat.reduceMul, Nat.reduceSub, ↓reduceIte, Int.reduceNeg, Int.reduceToNat, Int.reducePow, hmd, hks, hQ]
  (first | with_reducible refine if_d _ ?_ ?_ | refine if_i _ ?_ ?_) <;> intro h2
  rotate_left
  · simp +decide (maxSteps := 20000000) (disch := omega) only [↓SBK, ↓SBK2, SX, Nat.reduceEqDiff, Nat.reduceAdd, Nat.reduceMul, Nat.reduceSub, ↓reduceIte, Int.reduceNeg, Int.reduceToNat, Int.reducePow, hmd, hks, hQ]
    rw [decide_eq_false (by rintro rfl; exact h2 rfl)]
  simp +decide (maxSteps := 20000000) (disch := omega) only [↓SBK, ↓SBK2, SX, Nat.reduceEqDiff, Nat.reduceAdd, Nat.reduceMul, Nat.reduceSub, ↓reduceIte, Int.reduceNeg, Int.reduceToNat, Int.reducePow, hmd, hks, hQ]
  rw [decide_eq_true (Fault.eq' h0 h1 h2)]

theorem s_eqFaultS (a b : List Fault) (hl : a.length < 2 ^ 40) : Spec Try.prog 105 [.ext 3 (a.map Fault.row), .ext 3 (b.map Fault.row)] (.bool (decide (a = b))) [.undef, .undef] := by
  refine spec_C hmx p_L_eqFaultS [] 51 [] ⟨Nat.le_of_ble_eq_true rfl, Nat.le_of_ble_eq_true rfl⟩ rfl rfl ?_
  intro w hP hmd hks hQ
  unfold c_L_eqFaultS
  simp +decide (maxSteps := 20000000) (disch := omega) only [↓SBK, ↓SBK2, SX, Nat.reduceEqDiff, Nat.reduceAdd, Nat.reduceMul, Nat.reduceSub, ↓reduceIte, Int.reduceNeg, Int.reduceToNat, Int.reducePow, hmd, hks, hQ]
  (first | with_reducible refine if_d _ ?_ ?_ | refine if_i _ ?_ ?_) <;> intro h
  rotate_left
  · simp +decide (maxSteps := 20000000) (disch := omega) only [↓SBK, ↓SBK2, SX, Nat.reduceEqDiff, Nat.reduceAdd, Nat.reduceMul, Nat.reduceSub, ↓reduceIte, Int.reduceNeg, Int.reduceToNat, Int.reducePow, hmd, hks, hQ]
    rw [decide_eq_false (by rintro rfl; exact h rfl)]
  simp +decide (maxSteps := 20000000) (disch := omega) only [↓SBK, ↓SBK2, SX, Nat.reduceEqDiff, Nat.reduceAdd, Nat.reduceMul, Nat.reduceSub, ↓reduceIte, Int.reduceNeg, Int.reduceToNat, Int.reducePow, hmd, hks, hQ]
  refine loop_i (fun i : Nat => [(5, .int .i64 i)]) (fun i => i ≤ a.length ∧ a.take i = b.take i) (fun i => a.length - i) (0) hP hmd hks (rfl) (by simp) ?_
  rintro i ⟨hi, hab⟩ w1 hP1 hmd1 hks1 hQ1
  simp +decide (maxSteps := 20000000) (disch := omega) only [↓SBK, ↓SBK2, SX, Nat.reduceEqDiff, Nat.reduceAdd, Nat.reduceMul, Nat.reduceSub, ↓reduceIte, Int.reduceNeg, Int.reduceToNat, Int.reducePow, hmd, hks, hQ, hmd1, hks1, hQ1]
  (first | with_reducible refine if_d _ ?_ ?_ | refine if_i _ ?_ ?_) <;> intro h1
  · simp +decide (maxSteps := 20000000) (disch := omega) only [↓SBK, ↓SBK2, SX, Nat.reduceEqDiff, Nat.reduceAdd, Nat.reduceMul, Nat.reduceSub, ↓reduceIte, Int.reduceNeg, Int.reduceToNat, Int.reducePow, hmd, hks, hQ, hmd1, hks1, hQ1, getE h1, getE (h ▸ h1)]
    (first | refine call_i hP1 (s_eqFault (a[i]'(by omega)) (b[i]'(by omega)) (by simp only [Fault.sz]; omega)) (.inl ⟨rfl, fun _ hx => nomatch hx⟩) ?_ | refine callH_i hP1 (s_eqFault (a[i]'(by omega)) (b[i]'(by omega)) (by simp only [Fault.sz]; omega)) (.inl ⟨rfl, fun _ hx => nomatch hx⟩) ?_)
    simp +decide (maxSteps := 20000000) (disch := omega) only [↓SBK, ↓SBK2, SX, Nat.reduceEqDiff, Nat.reduceAdd, Nat.reduceMul, Nat.reduceSub, ↓reduceIte, Int.reduceNeg, Int.reduceToNat, Int.reducePow, hmd, hks, hQ, hmd1, hks1, hQ1]
    (first | with_reducible refine if_d _ ?_ ?_ | refine if_i _ ?_ ?_) <;> intro h2
    · simp +decide (maxSteps := 20000000) (disch := omega) only [↓SBK, ↓SBK2, SX, Nat.reduceEqDiff, Nat.reduceAdd, Nat.reduceMul, Nat.reduceSub, ↓reduceIte, Int.reduceNeg, Int.reduceToNat, Int.reducePow, hmd, hks, hQ, hmd1, hks1, hQ1]
      exact ⟨i + 1, rfl, ⟨by omega, take_eq_succ hab _ _ h2⟩, by omega⟩
    · simp +decide (maxSteps := 20000000) (disch := omega) only [↓SBK, ↓SBK2, SX, Nat.reduceEqDiff, Nat.reduceAdd, Nat.reduceMul, Nat.reduceSub, ↓reduceIte, Int.reduceNeg, Int.reduceToNat, Int.reducePow, hmd, hks, hQ, hmd1, hks1, hQ1]
      rw [decide_eq_false (by rintro rfl; exact h2 rfl)]
  · simp +decide (maxSteps := 20000000) (disch := omega) only [↓SBK, ↓SBK2, SX, Nat.reduceEqDiff, Nat.reduceAdd, Nat.reduceMul, Nat.reduceSub, ↓reduceIte, Int.reduceNeg, Int.reduceToNat, Int.reducePow, hmd, hks, hQ, hmd1, hks1, hQ1]
    rw [decide_eq_true (take_all hab (by omega) (by omega))]

theorem s_eqDev (a b : Dev) (hl : a.sz < 2 ^ 40) : Spec Try.prog 86 [a.x, b.x] (.bool (decide (a = b))) [.undef, .undef] := by
  simp only [Dev.sz] at hl
  refine spec_C hmx p_L_eqDev [] 31 [] ⟨Nat.le_of_ble_eq_true rfl, Nat.le_of_ble_eq_true rfl⟩ rfl rfl ?_
  intro w hP hmd hks hQ
  unfold c_L_eqDev
  simp +decide (maxSteps := 20000000) (disch := omega) only [↓SBK, ↓SBK2, SX, Nat.reduceEqDiff, Nat.reduceAdd, Nat.reduceMul, Nat.reduceSub, ↓reduceIte, Int.reduceNeg, Int.reduceToNat, Int.reducePow, hmd, hks, hQ]
  (first | refine call_i hP (s_eqChip a.c b.c (by omega)) (.inl ⟨rfl, fun _ hx => nomatch hx⟩) ?_ | refine callH_i hP (s_eqChip a.c b.c (by omega)) (.inl ⟨rfl, fun _ hx => nomatch hx⟩) ?_)
  simp +decide (maxSteps := 20000000) (disch := omega) only [↓SBK, ↓SBK2, SX, Nat.reduceEqDiff, Nat.reduceAdd, Nat.reduceMul, Nat.reduceSub, ↓reduceIte, Int.reduceNeg, Int.reduceToNat, Int.reducePow, hmd, hks, hQ]
  (first | with_reducible refine if_d _ ?_ ?_ | refine if_i _ ?_ ?_) <;> intro h0
  rotate_left
  · simp +decide (maxSteps := 20000000) (disch := omega) only [↓SBK, ↓SBK2, SX, Nat.reduceEqDiff, Nat.reduceAdd, Nat.reduceMul, Nat.reduceSub, ↓reduceIte, Int.reduceNeg, Int.reduceToNat, Int.reducePow, hmd, hks, hQ]
    rw [decide_eq_false (by rintro rfl; exact h0 rfl)]
  simp +decide (maxSteps := 20000000) (disch := omega) only [↓SBK, ↓SBK2, SX, Nat.reduceEqDiff, Nat.reduceAdd, Nat.reduceMul, Nat.reduceSub, ↓reduceIte, Int.reduceNeg, Int.reduceToNat, Int.reducePow, hmd, hks, hQ]
  (first | with_reducible refine if_d _ ?_ ?_ | refine if_i _ ?_ ?_) <;> intro h1
  rotate_left
  · simp +decide (maxSteps := 20000000) (disch := omega) only [↓SBK, ↓SBK2, SX, Nat.reduceEqDiff, Nat.reduceAdd, Nat.reduceMul, Nat.reduceSub, ↓reduceIte, Int.reduceNeg, Int.reduceToNat, Int.reducePow, hmd, hks, hQ]
    rw [decide_eq_false (by rintro rfl; exact h1 rfl)]
  simp +decide (maxSteps := 20000000) (disch := omega) only [↓SBK, ↓SBK2, SX, Nat.reduceEqDiff, Nat.reduceAdd, Nat.reduceMul, Nat.reduceSub, ↓reduceIte, Int.reduceNeg, Int.reduceToNat, Int.reducePow, hmd, hks, hQ]
  (first | refine call_i hP (s_eqFaultS a.faults b.faults (by omega)) (.inl ⟨rfl, fun _ hx => nomatch hx⟩) ?_ | refine callH_i hP (s_eqFaultS a.faults b.faults (by omega)) (.inl ⟨rfl, fun _ hx => nomatch hx⟩) ?_)
  simp +decide (maxSteps := 20000000) (disch := omega) only [↓SBK, ↓SBK2, SX, Nat.reduceEqDiff, Nat.reduceAdd, Nat.reduceMul, Nat.reduceSub, ↓reduceIte, Int.reduceNeg, Int.reduceToNat, Int.reducePow, hmd, hks, hQ]
  (first | with_reducible refine if_d _ ?_ ?_ | refine if_i _ ?_ ?_) <;> intro h2
  rotate_left
  · simp +decide (maxSteps := 20000000) (disch := omega) only [↓SBK, ↓SBK2, SX, Nat.reduceEqDiff, Nat.reduceAdd, Nat.reduceMul, Nat.reduceSub, ↓reduceIte, Int.reduceNeg, Int.reduceToNat, Int.reducePow, hmd, hks, hQ]
    rw [decide_eq_false (by rintro rfl; exact h2 rfl)]
  simp +decide (maxSteps := 20000000) (disch := omega) only [↓SBK, ↓SBK2, SX, Nat.reduceEqDiff, Nat.reduceAdd, Nat.reduceMul, Nat.reduceSub, ↓reduceIte, Int.reduceNeg, Int.reduceToNat, Int.reducePow, hmd, hks, hQ]
  (first | with_reducible refine if_d _ ?_ ?_ | refine if_i _ ?_ ?_) <;> intro h3
  rotate_left
  · simp +decide (maxSteps := 20000000) (disch := omega) only [↓SBK, ↓SBK2, SX, Nat.reduceEqDiff, Nat.reduceAdd, Nat.reduceMul, Nat.reduceSub, ↓reduceIte, Int.reduceNeg, Int.reduceToNat, Int.reducePow, hmd, hks, hQ]
    rw [decide_eq_false (by rintro rfl; exact h3 rfl)]
  simp +decide (maxSteps := 20000000) (disch := omega) only [↓SBK, ↓SBK2, SX, Nat.reduceEqDiff, Nat.reduceAdd, Nat.reduceMul, Nat.reduceSub, ↓reduceIte, Int.reduceNeg, Int.reduceToNat, Int.reducePow, hmd, hks, hQ]
  rw [decide_eq_true (Dev.eq' h0 h1 h2 h3)]

end Go.Proofs.Ytliklgcfdgdigaa.Awp

namespace Go.Proofs.Ytliklgcfdgdigaa.Awp
open Go.Proofs
set_option linter.unusedSimpArgs false
set_option linter.unusedVariables false
set_option maxRecDepth 100000
set_option maxHeartbeats 20000000

theorem s_toPage (a : Page) (hl : a.sz < 2 ^ 40) : Spec Try.prog 189 [a.x] a.o [.undef] := by
  simp only [Page.sz] at hl
  refine spec_C hmx p_L_toPage [] 15 [] ⟨Nat.le_of_ble_eq_true rfl, Nat.le_of_ble_eq_true rfl⟩ rfl rfl ?_
  intro w hP hmd hks hQ
  unfold c_L_toPage
  simp +decide (maxSteps := 20000000) (disch := omega) only [↓SBK, ↓SBK2, SX, Nat.reduceEqDiff, Nat.reduceAdd, Nat.reduceMul, Nat.reduceSub, ↓reduceIte, Int.reduceNeg, Int.reduceToNat, Int.reducePow, hmd, hks, hQ]
  (first | refine call_i hP (s_toByteS a.b (by omega)) (.inl ⟨rfl, fun _ hx => nomatch hx⟩) ?_ | refine callH_i hP (s_toByteS a.b (by omega)) (.inl ⟨rfl, fun _ hx => nomatch hx⟩) ?_)
  simp +decide (maxSteps := 20000000) (disch := omega) only [↓SBK, ↓SBK2, SX, Nat.reduceEqDiff, Nat.reduceAdd, Nat.reduceMul, Nat.reduceSub, ↓reduceIte, Int.reduceNeg, Int.reduceToNat, Int.reducePow, hmd, hks, hQ]

theorem s_toPageS (a : List Page) (hl : szM Page.sz a < 2 ^ 40) : Spec Try.prog 186 [.ext 2 (a.map Page.row)] (.own 2 (a.map Page.row)) [.undef] := by
  simp only [szM] at hl
  refine spec_C hmx p_L_toPageS [] 29 [] ⟨Nat.le_of_ble_eq_true rfl, Nat.le_of_ble_eq_true rfl⟩ rfl rfl ?_
  intro w hP hmd hks hQ
  unfold c_L_toPageS
  simp +decide (maxSteps := 20000000) (disch := omega) only [↓SBK, ↓SBK2, SX, Nat.reduceEqDiff, Nat.reduceAdd, Nat.reduceMul, Nat.reduceSub, ↓reduceIte, Int.reduceNeg, Int.reduceToNat, Int.reducePow, hmd, hks, hQ]
  refine loop_i (fun i : Nat => [(3, .own 2 (fillR Page.row Page.zero a i)), (4, .int .i64 i)]) (fun i => i ≤ a.length) (fun i => a.length - i) (0) hP hmd hks (by simp +decide (maxSteps := 20000000) (disch := omega) only [↓SBK, ↓SBK2, SX, Nat.reduceEqDiff, Nat.reduceAdd, Nat.reduceMul, Nat.reduceSub, ↓reduceIte, Int.reduceNeg, Int.reduceToNat, Int.reducePow, hmd, hks, hQ, fillR_0]; rfl) (by omega) ?_
  rintro i hi w1 hP1 hmd1 hks1 hQ1
  simp +decide (maxSteps := 20000000) (disch := omega) only [↓SBK, ↓SBK2, SX, Nat.reduceEqDiff, Nat.reduceAdd, Nat.reduceMul, Nat.reduceSub, ↓reduceIte, Int.reduceNeg, Int.reduceToNat, Int.reducePow, hmd, hks, hQ, hmd1, hks1, hQ1]
  (first | with_reducible refine if_d _ ?_ ?_ | refine if_i _ ?_ ?_) <;> intro h1
  · simp +decide (maxSteps := 20000000) (disch := omega) only [↓SBK, ↓SBK2, SX, Nat.reduceEqDiff, Nat.reduceAdd, Nat.reduceMul, Nat.reduceSub, ↓reduceIte, Int.reduceNeg, Int.reduceToNat, Int.reducePow, hmd, hks, hQ, hmd1, hks1, hQ1, getE h1]
    (first | refine call_i hP1 (s_toPage (a[i]'(by omega)) (Nat.lt_of_le_of_lt (sum_get Page.sz _) (by omega))) (.inl ⟨rfl, fun _ hx => nomatch hx⟩) ?_ | refine callH_i hP1 (s_toPage (a[i]'(by omega)) (Nat.lt_of_le_of_lt (sum_get Page.sz _) (by omega))) (.inl ⟨rfl, fun _ hx => nomatch hx⟩) ?_)
    simp +decide (maxSteps := 20000000) (disch := omega) only [↓SBK, ↓SBK2, SX, Nat.reduceEqDiff, Nat.reduceAdd, Nat.reduceMul, Nat.reduceSub, ↓reduceIte, Int.reduceNeg, Int.reduceToNat, Int.reducePow, hmd, hks, hQ, hmd1, hks1, hQ1]
    rw [fillR_set _ _ _ _ (by omega) _ (by rfl)]
    exact ⟨i + 1, rfl, by omega, by omega⟩
  · simp +decide (maxSteps := 20000000) (disch := omega) only [↓SBK, ↓SBK2, SX, Nat.reduceEqDiff, Nat.reduceAdd, Nat.reduceMul, Nat.reduceSub, ↓reduceIte, Int.reduceNeg, Int.reduceToNat, Int.reducePow, hmd, hks, hQ, hmd1, hks1, hQ1, fillR_all]

theorem s_toBlock (a : Block) (hl : a.sz < 2 ^ 40) : Spec Try.prog 174 [a.x] a.o [.undef] := by
  simp only [Block.sz] at hl
  refine spec_C hmx p_L_toBlock [] 15 [] ⟨Nat.le_of_ble_eq_true rfl, Nat.le_of_ble_eq_true rfl⟩ rfl rfl ?_
  intro w hP hmd hks hQ
  unfold c_L_toBlock
  simp +decide (maxSteps := 20000000) (disch := omega) only [↓SBK, ↓SBK2, SX, Nat.reduceEqDiff, Nat.reduceAdd, Nat.reduceMul, Nat.reduceSub, ↓reduceIte, Int.reduceNeg, Int.reduceToNat, Int.reducePow, hmd, hks, hQ]
  (first | refine call_i hP (s_toPageS a.pages (by omega)) (.inl ⟨rfl, fun _ hx => nomatch hx⟩) ?_ | refine callH_i hP (s_toPageS a.pages (by omega)) (.inl ⟨rfl, fun _ hx => nomatch hx⟩) ?_)
  simp +decide (maxSteps := 20000000) (disch := omega) only [↓SBK, ↓SBK2, SX, Nat.reduceEqDiff, Nat.reduceAdd, Nat.reduceMul, Nat.reduceSub, ↓reduceIte, Int.reduceNeg, Int.reduceToNat, Int.reducePow, hmd, hks, hQ]

theorem s_toBlockS (a : List Block) (hl : szM Block.sz a < 2 ^ 40) : Spec Try.prog 132 [.ext 3 (a.map Block.row)] (.own 3 (a.map Block.row)) [.undef] := by
  simp only [szM] at hl
  refine spec_C hmx p_L_toBlockS [] 29 [] ⟨Nat.le_of_ble_eq_true rfl, Nat.le_of_ble_eq_true rfl⟩ rfl rfl ?_
  intro w hP hmd hks hQ
  unfold c_L_toBlockS
  simp +decide (maxSteps := 20000000) (disch := omega) only [↓SBK, ↓SBK2, SX, Nat.reduceEqDiff, Nat.reduceAdd, Nat.reduceMul, Nat.reduceSub, ↓reduceIte, Int.reduceNeg, Int.reduceToNat, Int.reducePow, hmd, hks, hQ]
  refine loop_i (fun i : Nat => [(3, .own 3 (fillR Block.row Block.zero a i)), (4, .int .i64 i)]) (fun i => i ≤ a.length) (fun i => a.length - i) (0) hP hmd hks (by simp +decide (maxSteps := 20000000) (disch := omega) only [↓SBK, ↓SBK2, SX, Nat.reduceEqDiff, Nat.reduceAdd, Nat.reduceMul, Nat.reduceSub, ↓reduceIte, Int.reduceNeg, Int.reduceToNat, Int.reducePow, hmd, hks, hQ, fillR_0]; rfl) (by omega) ?_
  rintro i hi w1 hP1 hmd1 hks1 hQ1
  simp +decide (maxSteps := 20000000) (disch := omega) only [↓SBK, ↓SBK2, SX, Nat.reduceEqDiff, Nat.reduceAdd, Nat.reduceMul, Nat.reduceSub, ↓reduceIte, Int.reduceNeg, Int.reduceToNat, Int.reducePow, hmd, hks, hQ, hmd1, hks1, hQ1]
  (first | with_reducible refine if_d _ ?_ ?_ | refine if_i _ ?_ ?_) <;> intro h1
  · simp +decide (maxSteps := 20000000) (disch := omega) only [↓SBK, ↓SBK2, SX, Nat.reduceEqDiff, Nat.reduceAdd, Nat.reduceMul, Nat.reduceSub, ↓reduceIte, Int.reduceNeg, Int.reduceToNat, Int.reducePow, hmd, hks, hQ, hmd1, hks1, hQ1, getE h1]
    (first | refine call_i hP1 (s_toBlock (a[i]'(by omega)) (Nat.lt_of_le_of_lt (sum_get Block.sz _) (by omega))) (.inl ⟨rfl, fun _ hx => nomatch hx⟩) ?_ | refine callH_i hP1 (s_toBlock (a[i]'(by omega)) (Nat.lt_of_le_of_lt (sum_get Block.sz _) (by omega))) (.inl ⟨rfl, fun _ hx => nomatch hx⟩) ?_)
    simp +decide (maxSteps := 20000000) (disch := omega) only [↓SBK, ↓SBK2, SX, Nat.reduceEqDiff, Nat.reduceAdd, Nat.reduceMul, Nat.reduceSub, ↓reduceIte, Int.reduceNeg, Int.reduceToNat, Int.reducePow, hmd, hks, hQ, hmd1, hks1, hQ1]
    rw [fillR_set _ _ _ _ (by omega) _ (by rfl)]
    exact ⟨i + 1, rfl, by omega, by omega⟩
  · simp +decide (maxSteps := 20000000) (disch := omega) only [↓SBK, ↓SBK2, SX, Nat.reduceEqDiff, Nat.reduceAdd, Nat.reduceMul, Nat.reduceSub, ↓reduceIte, Int.reduceNeg, Int.reduceToNat, Int.reducePow, hmd, hks, hQ, hmd1, hks1, hQ1, fillR_all]

theorem s_toChip (a : Chip) (hl : a.sz < 2 ^ 40) : Spec Try.prog 58 [a.x] a.o [.undef] := by
  simp only [Chip.sz] at hl
  refine spec_C hmx p_L_toChip [] 15 [] ⟨Nat.le_of_ble_eq_true rfl, Nat.le_of_ble_eq_true rfl⟩ rfl rfl ?_
  intro w hP hmd hks hQ
  unfold c_L_toChip
  simp +decide (maxSteps := 20000000) (disch := omega) only [↓SBK, ↓SBK2, SX, Nat.reduceEqDiff, Nat.reduceAdd, Nat.reduceMul, Nat.reduceSub, ↓reduceIte, Int.reduceNeg, Int.reduceToNat, Int.reducePow, hmd, hks, hQ]
  (first | refine call_i hP (s_toBlockS a.blocks (by omega)) (.inl ⟨rfl, fun _ hx => nomatch hx⟩) ?_ | refine callH_i hP (s_toBlockS a.blocks (by omega)) (.inl ⟨rfl, fun _ hx => nomatch hx⟩) ?_)
  simp +decide (maxSteps := 20000000) (disch := omega) only [↓SBK, ↓SBK2, SX, Nat.reduceEqDiff, Nat.reduceAdd, Nat.reduceMul, Nat.reduceSub, ↓reduceIte, Int.reduceNeg, Int.reduceToNat, Int.reducePow, hmd, hks, hQ]

theorem s_toFault (a : Fault) (hl : a.sz < 2 ^ 40) : Spec Try.prog 158 [a.x] a.o [.undef] := by
  simp only [Fault.sz] at hl
  refine spec_C hmx p_L_toFault [] 15 [] ⟨Nat.le_of_ble_eq_true rfl, Nat.le_of_ble_eq_true rfl⟩ rfl rfl ?_
  intro w hP hmd hks hQ
  unfold c_L_toFault
  simp +decide (maxSteps := 20000000) (disch := omega) only [↓SBK, ↓SBK2, SX, Nat.reduceEqDiff, Nat.reduceAdd, Nat.reduceMul, Nat.reduceSub, ↓reduceIte, Int.reduceNeg, Int.reduceToNat, Int.reducePow, hmd, hks, hQ]

theorem s_toFaultS (a : List Fault) (hl : a.length < 2 ^ 40) : Spec Try.prog 103 [.ext 3 (a.map Fault.row)] (.own 3 (a.map Fault.row)) [.undef] := by
  refine spec_C hmx p_L_toFaultS [] 29 [] ⟨Nat.le_of_ble_eq_true rfl, Nat.le_of_ble_eq_true rfl⟩ rfl rfl ?_
  intro w hP hmd hks hQ
  unfold c_L_toFaultS
  simp +decide (maxSteps := 20000000) (disch := omega) only [↓SBK, ↓SBK2, SX, Nat.reduceEqDiff, Nat.reduceAdd, Nat.reduceMul, Nat.reduceSub, ↓reduceIte, Int.reduceNeg, Int.reduceToNat, Int.reducePow, hmd, hks, hQ]
  refine loop_i (fun i : Nat => [(3, .own 3 (fillR Fault.row Fault.zero a i)), (4, .int .i64 i)]) (fun i => i ≤ a.length) (fun i => a.length - i) (0) hP hmd hks (by simp +decide (maxSteps := 20000000) (disch := omega) only [↓SBK, ↓SBK2, SX, Nat.reduceEqDiff, Nat.reduceAdd, Nat.reduceMul, Nat.reduceSub, ↓reduceIte, Int.reduceNeg, Int.reduceToNat, Int.reducePow, hmd, hks, hQ, fillR_0]; rfl) (by omega) ?_
  rintro i hi w1 hP1 hmd1 hks1 hQ1
  simp +decide (maxSteps := 20000000) (disch := omega) only [↓SBK, ↓SBK2, SX, Nat.reduceEqDiff, Nat.reduceAdd, Nat.reduceMul, Nat.reduceSub, ↓reduceIte, Int.reduceNeg, Int.reduceToNat, Int.reducePow, hmd, hks, hQ, hmd1, hks1, hQ1]
  (first | with_reducible refine if_d _ ?_ ?_ | refine if_i _ ?_ ?_) <;> intro h1
  · simp +decide (maxSteps := 20000000) (disch := omega) only [↓SBK, ↓SBK2, SX, Nat.reduceEqDiff, Nat.reduceAdd, Nat.reduceMul, Nat.reduceSub, ↓reduceIte, Int.reduceNeg, Int.reduceToNat, Int.reducePow, hmd, hks, hQ, hmd1, hks1, hQ1, getE h1]
    (first | refine call_i hP1 (s_toFault (a[i]'(by omega)) (by simp only [Fault.sz]; omega)) (.inl ⟨rfl, fun _ hx => nomatch hx⟩) ?_ | refine callH_i hP1 (s_toFault (a[i]'(by omega)) (by simp only [Fault.sz]; omega)) (.inl ⟨rfl, fun _ hx => nomatch hx⟩) ?_)
    simp +decide (maxSteps := 20000000) (disch := omega) only [↓SBK, ↓SBK2, SX, Nat.reduceEqDiff, Nat.reduceAdd, Nat.reduceMul, Nat.reduceSub, ↓reduceIte, Int.reduceNeg, Int.reduceToNat, Int.reducePow, hmd, hks, hQ, hmd1, hks1, hQ1]
    rw [fillR_set _ _ _ _ (by omega) _ (by rfl)]
    exact ⟨i + 1, rfl, by omega, by omega⟩
  · simp +decide (maxSteps := 20000000) (disch := omega) only [↓SBK, ↓SBK2, SX, Nat.reduceEqDiff, Nat.reduceAdd, Nat.reduceMul, Nat.reduceSub, ↓reduceIte, Int.reduceNeg, Int.reduceToNat, Int.reducePow, hmd, hks, hQ, hmd1, hks1, hQ1, fillR_all]

theorem s_toDev (a : Dev) (hl : a.sz < 2 ^ 40) : Spec Try.prog 83 [a.x] a.o [.undef] := by
  simp only [Dev.sz] at hl
  refine spec_C hmx p_L_toDev [] 15 [] ⟨Nat.le_of_ble_eq_true rfl, Nat.le_of_ble_eq_true rfl⟩ rfl rfl ?_
  intro w hP hmd hks hQ
  unfold c_L_toDev
  simp +decide (maxSteps := 20000000) (disch := omega) only [↓SBK, ↓SBK2, SX, Nat.reduceEqDiff, Nat.reduceAdd, Nat.reduceMul, Nat.reduceSub, ↓reduceIte, Int.reduceNeg, Int.reduceToNat, Int.reducePow, hmd, hks, hQ]
  (first | refine call_i hP (s_toChip a.c (by omega)) (.inl ⟨rfl, fun _ hx => nomatch hx⟩) ?_ | refine callH_i hP (s_toChip a.c (by omega)) (.inl ⟨rfl, fun _ hx => nomatch hx⟩) ?_)
  simp +decide (maxSteps := 20000000) (disch := omega) only [↓SBK, ↓SBK2, SX, Nat.reduceEqDiff, Nat.reduceAdd, Nat.reduceMul, Nat.reduceSub, ↓reduceIte, Int.reduceNeg, Int.reduceToNat, Int.reducePow, hmd, hks, hQ]
  (first | refine call_i hP (s_toFaultS a.faults (by omega)) (.inl ⟨rfl, fun _ hx => nomatch hx⟩) ?_ | refine callH_i hP (s_toFaultS a.faults (by omega)) (.inl ⟨rfl, fun _ hx => nomatch hx⟩) ?_)
  simp +decide (maxSteps := 20000000) (disch := omega) only [↓SBK, ↓SBK2, SX, Nat.reduceEqDiff, Nat.reduceAdd, Nat.reduceMul, Nat.reduceSub, ↓reduceIte, Int.reduceNeg, Int.reduceToNat, Int.reducePow, hmd, hks, hQ]

end Go.Proofs.Ytliklgcfdgdigaa.Awp

namespace Go.Proofs.Ytliklgcfdgdigaa.Awp
open Go.Proofs
set_option linter.unusedSimpArgs false
set_option linter.unusedVariables false
set_option maxRecDepth 100000
set_option maxHeartbeats 20000000

theorem s_szPage (a : Page) (left : Int) (hf : a.fine) (h0 : 0 ≤ left) (hl : left < 2 ^ 40) :
    Spec Try.prog 188 [a.x, .int .i64 left] (.int .i64 (szC left a.sz)) [.undef, .undef] := by
  have hsz : a.sz = a.b.length := rfl
  simp only [Page.fine] at hf
  have hf0 := hf
  refine spec_C hmx p_L_szPage [] 23 [] ⟨Nat.le_of_ble_eq_true rfl, Nat.le_of_ble_eq_true rfl⟩ rfl rfl ?_
  intro w hP hmd hks hQ
  unfold c_L_szPage
  simp +decide (maxSteps := 20000000) (disch := omega) only [↓SBK, ↓SBK2, SX, Nat.reduceEqDiff, Nat.reduceAdd, Nat.reduceMul, Nat.reduceSub, ↓reduceIte, Int.reduceNeg, Int.reduceToNat, Int.reducePow, hmd, hks, hQ]
  by_cases g0 : left < ((a.b.length : Nat) : Int)
  · (first | refine call_i hP (s_szByteS a.b (left) hf0 (by omega) (by omega)) (.inl ⟨rfl, fun _ hx => nomatch hx⟩) ?_ | refine callH_i hP (s_szByteS a.b (left) hf0 (by omega) (by omega)) (.inl ⟨rfl, fun _ hx => nomatch hx⟩) ?_)
    simp +decide (maxSteps := 20000000) (disch := omega) only [↓SBK, ↓SBK2, SX, Nat.reduceEqDiff, Nat.reduceAdd, Nat.reduceMul, Nat.reduceSub, ↓reduceIte, Int.reduceNeg, Int.reduceToNat, Int.reducePow, hmd, hks, hQ, szC_lt g0]
    rw [szC_lt (by omega)]
  (first | refine call_i hP (s_szByteS a.b (left) hf0 (by omega) (by omega)) (.inl ⟨rfl, fun _ hx => nomatch hx⟩) ?_ | refine callH_i hP (s_szByteS a.b (left) hf0 (by omega) (by omega)) (.inl ⟨rfl, fun _ hx => nomatch hx⟩) ?_)
  simp +decide (maxSteps := 20000000) (disch := omega) only [↓SBK, ↓SBK2, SX, Nat.reduceEqDiff, Nat.reduceAdd, Nat.reduceMul, Nat.reduceSub, ↓reduceIte, Int.reduceNeg, Int.reduceToNat, Int.reducePow, hmd, hks, hQ, szC_ge g0]
  (first | with_reducible refine if_d _ ?_ ?_ | refine if_i _ ?_ ?_) <;> intro k0
  · exfalso; omega
  simp +decide (maxSteps := 20000000) (disch := omega) only [↓SBK, ↓SBK2, SX, Nat.reduceEqDiff, Nat.reduceAdd, Nat.reduceMul, Nat.reduceSub, ↓reduceIte, Int.reduceNeg, Int.reduceToNat, Int.reducePow, hmd, hks, hQ]
  rw [szC_ge (by omega)]
  simp only [hsz, Int.natCast_add, Int.sub_sub, Int.add_assoc]

theorem s_szPageS (a : List Page) (left : Int) (hf : a.length < 2 ^ 48) (hf' : ∀ x ∈ a, x.fine) (h0 : 0 ≤ left) (hl : left < 2 ^ 40) :
    Spec Try.prog 185 [.ext 2 (a.map Page.row), .int .i64 left] (.int .i64 (szC left (szM Page.sz a))) [.undef, .undef] := by
  have hsz : szM Page.sz a = a.length + (a.map Page.sz).sum := rfl
  refine spec_C hmx p_L_szPageS [] 51 [] ⟨Nat.le_of_ble_eq_true rfl, Nat.le_of_ble_eq_true rfl⟩ rfl rfl ?_
  intro w hP hmd hks hQ
  unfold c_L_szPageS
  simp +decide (maxSteps := 20000000) (disch := omega) only [↓SBK, ↓SBK2, SX, Nat.reduceEqDiff, Nat.reduceAdd, Nat.reduceMul, Nat.reduceSub, ↓reduceIte, Int.reduceNeg, Int.reduceToNat, Int.reducePow, hmd, hks, hQ]
  (first | with_reducible refine if_d _ ?_ ?_ | refine if_i _ ?_ ?_) <;> intro h
  · simp +decide (maxSteps := 20000000) (disch := omega) only [↓SBK, ↓SBK2, SX, Nat.reduceEqDiff, Nat.reduceAdd, Nat.reduceMul, Nat.reduceSub, ↓reduceIte, Int.reduceNeg, Int.reduceToNat, Int.reducePow, hmd, hks, hQ]
    rw [szC_lt (by omega)]
  simp +decide (maxSteps := 20000000) (disch := omega) only [↓SBK, ↓SBK2, SX, Nat.reduceEqDiff, Nat.reduceAdd, Nat.reduceMul, Nat.reduceSub, ↓reduceIte, Int.reduceNeg, Int.reduceToNat, Int.reducePow, hmd, hks, hQ]
  refine loop_i (fun s : Nat × Int => [(1, .int .i64 s.2), (5, .int .i64 s.1)]) (fun s => s.1 ≤ a.length ∧ 0 ≤ s.2 ∧ s.2 = left - a.length - ((a.take s.1).map Page.sz).sum) (fun s => a.length - s.1) ((0, left - a.length)) hP hmd hks (rfl) (by simp; omega) ?_
  rintro ⟨i, c⟩ ⟨hi, h0', hc⟩ w1 hP1 hmd1 hks1 hQ1
  simp +decide (maxSteps := 20000000) (disch := omega) only [↓SBK, ↓SBK2, SX, Nat.reduceEqDiff, Nat.reduceAdd, Nat.reduceMul, Nat.reduceSub, ↓reduceIte, Int.reduceNeg, Int.reduceToNat, Int.reducePow, hmd, hks, hQ, hmd1, hks1, hQ1]
  simp only at hi h0' hc
  (first | with_reducible refine if_d _ ?_ ?_ | refine if_i _ ?_ ?_) <;> intro h1
  · have hs := sum_take Page.sz a i (by omega)
    have hs' := sum_take_le Page.sz a (i + 1)
    simp +decide (maxSteps := 20000000) (disch := omega) only [↓SBK, ↓SBK2, SX, Nat.reduceEqDiff, Nat.reduceAdd, Nat.reduceMul, Nat.reduceSub, ↓reduceIte, Int.reduceNeg, Int.reduceToNat, Int.reducePow, hmd, hks, hQ, hmd1, hks1, hQ1, getE h1]
    by_cases g : c < ((a[i].sz : Nat) : Int)
    · (first | refine call_i hP1 (s_szPage a[i] c (hf' _ (List.getElem_mem _)) (by omega) (by omega)) (.inl ⟨rfl, fun _ hx => nomatch hx⟩) ?_ | refine callH_i hP1 (s_szPage a[i] c (hf' _ (List.getElem_mem _)) (by omega) (by omega)) (.inl ⟨rfl, fun _ hx => nomatch hx⟩) ?_)
      simp +decide (maxSteps := 20000000) (disch := omega) only [↓SBK, ↓SBK2, SX, Nat.reduceEqDiff, Nat.reduceAdd, Nat.reduceMul, Nat.reduceSub, ↓reduceIte, Int.reduceNeg, Int.reduceToNat, Int.reducePow, hmd, hks, hQ, hmd1, hks1, hQ1, szC_lt g]
      rw [szC_lt (by omega)]
    · (first | refine call_i hP1 (s_szPage a[i] c (hf' _ (List.getElem_mem _)) (by omega) (by omega)) (.inl ⟨rfl, fun _ hx => nomatch hx⟩) ?_ | refine callH_i hP1 (s_szPage a[i] c (hf' _ (List.getElem_mem _)) (by omega) (by omega)) (.inl ⟨rfl, fun _ hx => nomatch hx⟩) ?_)
      simp +decide (maxSteps := 20000000) (disch := omega) only [↓SBK, ↓SBK2, SX, Nat.reduceEqDiff, Nat.reduceAdd, Nat.reduceMul, Nat.reduceSub, ↓reduceIte, Int.reduceNeg, Int.reduceToNat, Int.reducePow, hmd, hks, hQ, hmd1, hks1, hQ1, szC_ge g]
      (first | with_reducible refine if_d _ ?_ ?_ | refine if_i _ ?_ ?_) <;> intro k
      · exfalso; omega
      simp +decide (maxSteps := 20000000) (disch := omega) only [↓SBK, ↓SBK2, SX, Nat.reduceEqDiff, Nat.reduceAdd, Nat.reduceMul, Nat.reduceSub, ↓reduceIte, Int.reduceNeg, Int.reduceToNat, Int.reducePow, hmd, hks, hQ, hmd1, hks1, hQ1]
      exact ⟨(i + 1, c - a[i].sz), rfl, ⟨by simp only; omega, by simp only; omega, by simp only; omega⟩, by simp only; omega⟩
  · obtain rfl : i = a.length := by omega
    rw [List.take_length] at hc
    simp +decide (maxSteps := 20000000) (disch := omega) only [↓SBK, ↓SBK2, SX, Nat.reduceEqDiff, Nat.reduceAdd, Nat.reduceMul, Nat.reduceSub, ↓reduceIte, Int.reduceNeg, Int.reduceToNat, Int.reducePow, hmd, hks, hQ, hmd1, hks1, hQ1]
    rw [szC_ge (by omega)]
    simp only [hsz, hc, Int.natCast_add, Int.sub_sub, Int.add_assoc]

theorem s_szBlock (a : Block) (left : Int) (hf : a.fine) (h0 : 0 ≤ left) (hl : left < 2 ^ 40) :
    Spec Try.prog 173 [a.x, .int .i64 left] (.int .i64 (szC left a.sz)) [.undef, .undef] := by
  have hsz : a.sz = szM Page.sz a.pages := rfl
  simp only [Block.fine] at hf
  have hf0 := hf
  refine spec_C hmx p_L_szBlock [] 23 [] ⟨Nat.le_of_ble_eq_true rfl, Nat.le_of_ble_eq_true rfl⟩ rfl rfl ?_
  intro w hP hmd hks hQ
  unfold c_L_szBlock
  simp +decide (maxSteps := 20000000) (disch := omega) only [↓SBK, ↓SBK2, SX, Nat.reduceEqDiff, Nat.reduceAdd, Nat.reduceMul, Nat.reduceSub, ↓reduceIte, Int.reduceNeg, Int.reduceToNat, Int.reducePow, hmd, hks, hQ]
  by_cases g0 : left < ((szM Page.sz a.pages : Nat) : Int)
  · (first | refine call_i hP (s_szPageS a.pages (left) hf0.1 hf0.2 (by omega) (by omega)) (.inl ⟨rfl, fun _ hx => nomatch hx⟩) ?_ | refine callH_i hP (s_szPageS a.pages (left) hf0.1 hf0.2 (by omega) (by omega)) (.inl ⟨rfl, fun _ hx => nomatch hx⟩) ?_)
    simp +decide (maxSteps := 20000000) (disch := omega) only [↓SBK, ↓SBK2, SX, Nat.reduceEqDiff, Nat.reduceAdd, Nat.reduceMul, Nat.reduceSub, ↓reduceIte, Int.reduceNeg, Int.reduceToNat, Int.reducePow, hmd, hks, hQ, szC_lt g0]
    rw [szC_lt (by omega)]
  (first | refine call_i hP (s_szPageS a.pages (left) hf0.1 hf0.2 (by omega) (by omega)) (.inl ⟨rfl, fun _ hx => nomatch hx⟩) ?_ | refine callH_i hP (s_szPageS a.pages (left) hf0.1 hf0.2 (by omega) (by omega)) (.inl ⟨rfl, fun _ hx => nomatch hx⟩) ?_)
  simp +decide (maxSteps := 20000000) (disch := omega) only [↓SBK, ↓SBK2, SX, Nat.reduceEqDiff, Nat.reduceAdd, Nat.reduceMul, Nat.reduceSub, ↓reduceIte, Int.reduceNeg, Int.reduceToNat, Int.reducePow, hmd, hks, hQ, szC_ge g0]
  (first | with_reducible refine if_d _ ?_ ?_ | refine if_i _ ?_ ?_) <;> intro k0
  · exfalso; omega
  simp +decide (maxSteps := 20000000) (disch := omega) only [↓SBK, ↓SBK2, SX, Nat.reduceEqDiff, Nat.reduceAdd, Nat.reduceMul, Nat.reduceSub, ↓reduceIte, Int.reduceNeg, Int.reduceToNat, Int.reducePow, hmd, hks, hQ]
  rw [szC_ge (by omega)]
  simp only [hsz, Int.natCast_add, Int.sub_sub, Int.add_assoc]

theorem s_szBlockS (a : List Block) (left : Int) (hf : a.length < 2 ^ 48) (hf' : ∀ x ∈ a, x.fine) (h0 : 0 ≤ left) (hl : left < 2 ^ 40) :
    Spec Try.prog 131 [.ext 3 (a.map Block.row), .int .i64 left] (.int .i64 (szC left (szM Block.sz a))) [.undef, .undef] := by
  have hsz : szM Block.sz a = a.length + (a.map Block.sz).sum := rfl
  refine spec_C hmx p_L_szBlockS [] 51 [] ⟨Nat.le_of_ble_eq_true rfl, Nat.le_of_ble_eq_true rfl⟩ rfl rfl ?_
  intro w hP hmd hks hQ
  unfold c_L_szBlockS
  simp +decide (maxSteps := 20000000) (disch := omega) only [↓SBK, ↓SBK2, SX, Nat.reduceEqDiff, Nat.reduceAdd, Nat.reduceMul, Nat.reduceSub, ↓reduceIte, Int.reduceNeg, Int.reduceToNat, Int.reducePow, hmd, hks, hQ]
  (first | with_reducible refine if_d _ ?_ ?_ | refine if_i _ ?_ ?_) <;> intro h
  · simp +decide (maxSteps := 20000000) (disch := omega) only [↓SBK, ↓SBK2, SX, Nat.reduceEqDiff, Nat.reduceAdd, Nat.reduceMul, Nat.reduceSub, ↓reduceIte, Int.reduceNeg, Int.reduceToNat, Int.reducePow, hmd, hks, hQ]
    rw [szC_lt (by omega)]
  simp +decide (maxSteps := 20000000) (disch := omega) only [↓SBK, ↓SBK2, SX, Nat.reduceEqDiff, Nat.reduceAdd, Nat.reduceMul, Nat.reduceSub, ↓reduceIte, Int.reduceNeg, Int.reduceToNat, Int.reducePow, hmd, hks, hQ]
  refine loop_i (fun s : Nat × Int => [(1, .int .i64 s.2), (5, .int .i64 s.1)]) (fun s => s.1 ≤ a.length ∧ 0 ≤ s.2 ∧ s.2 = left - a.length - ((a.take s.1).map Block.sz).sum) (fun s => a.length - s.1) ((0, left - a.length)) hP hmd hks (rfl) (by simp; omega) ?_
  rintro ⟨i, c⟩ ⟨hi, h0', hc⟩ w1 hP1 hmd1 hks1 hQ1
  simp +decide (maxSteps := 20000000) (disch := omega) only [↓SBK, ↓SBK2, SX, Nat.reduceEqDiff, Nat.reduceAdd, Nat.reduceMul, Nat.reduceSub, ↓reduceIte, Int.reduceNeg, Int.reduceToNat, Int.reducePow, hmd, hks, hQ, hmd1, hks1, hQ1]
  simp only at hi h0' hc
  (first | with_reducible refine if_d _ ?_ ?_ | refine if_i _ ?_ ?_) <;> intro h1
  · have hs := sum_take Block.sz a i (by omega)
    have hs' := sum_take_le Block.sz a (i + 1)
    simp +decide (maxSteps := 20000000) (disch := omega) only [↓SBK, ↓SBK2, SX, Nat.reduceEqDiff, Nat.reduceAdd, Nat.reduceMul, Nat.reduceSub, ↓reduceIte, Int.reduceNeg, Int.reduceToNat, Int.reducePow, hmd, hks, hQ, hmd1, hks1, hQ1, getE h1]
    by_cases g : c < ((a[i].sz : Nat) : Int)
    · (first | refine call_i hP1 (s_szBlock a[i] c (hf' _ (List.getElem_mem _)) (by omega) (by omega)) (.inl ⟨rfl, fun _ hx => nomatch hx⟩) ?_ | refine callH_i hP1 (s_szBlock a[i] c (hf' _ (List.getElem_mem _)) (by omega) (by omega)) (.inl ⟨rfl, fun _ hx => nomatch hx⟩) ?_)
      simp +decide (maxSteps := 20000000) (disch := omega) only [↓SBK, ↓SBK2, SX, Nat.reduceEqDiff, Nat.reduceAdd, Nat.reduceMul, Nat.reduceSub, ↓reduceIte, Int.reduceNeg, Int.reduceToNat, Int.reducePow, hmd, hks, hQ, hmd1, hks1, hQ1, szC_lt g]
      rw [szC_lt (by omega)]
    · (first | refine call_i hP1 (s_szBlock a[i] c (hf' _ (List.getElem_mem _)) (by omega) (by omega)) (.inl ⟨rfl, fun _ hx => nomatch hx⟩) ?_ | refine callH_i hP1 (s_szBlock a[i] c (hf' _ (List.getElem_mem _)) (by omega) (by omega)) (.inl ⟨rfl, fun _ hx => nomatch hx⟩) ?_)
      simp +decide (maxSteps := 20000000) (disch := omega) only [↓SBK, ↓SBK2, SX, Nat.reduceEqDiff, Nat.reduceAdd, Nat.reduceMul, Nat.reduceSub, ↓reduceIte, Int.reduceNeg, Int.reduceToNat, Int.reducePow, hmd, hks, hQ, hmd1, hks1, hQ1, szC_ge g]
      (first | with_reducible refine if_d _ ?_ ?_ | refine if_i _ ?_ ?_) <;> intro k
      · exfalso; omega
      simp +decide (maxSteps := 20000000) (disch := omega) only [↓SBK, ↓SBK2, SX, Nat.reduceEqDiff, Nat.reduceAdd, Nat.reduceMul, Nat.reduceSub, ↓reduceIte, Int.reduceNeg, Int.reduceToNat, Int.reducePow, hmd, hks, hQ, hmd1, hks1, hQ1]
      exact ⟨(i + 1, c - a[i].sz), rfl, ⟨by simp only; omega, by simp only; omega, by simp only; omega⟩, by simp only; omega⟩
  · obtain rfl : i = a.length := by omega
    rw [List.take_length] at hc
    simp +decide (maxSteps := 20000000) (disch := omega) only [↓SBK, ↓SBK2, SX, Nat.reduceEqDiff, Nat.reduceAdd, Nat.reduceMul, Nat.reduceSub, ↓reduceIte, Int.reduceNeg, Int.reduceToNat, Int.reducePow, hmd, hks, hQ, hmd1, hks1, hQ1]
    rw [szC_ge (by omega)]
    simp only [hsz, hc, Int.natCast_add, Int.sub_sub, Int.add_assoc]

theorem s_szChip (a : Chip) (left : Int) (hf : a.fine) (h0 : 0 ≤ left) (hl : left < 2 ^ 40) :
    Spec Try.prog 56 [a.x, .int .i64 left] (.int .i64 (szC left a.sz)) [.undef, .undef] := by
  have hsz : a.sz = szM Block.sz a.blocks := rfl
  simp only [Chip.fine] at hf
  have hf0 := hf
  refine spec_C hmx p_L_szChip [] 23 [] ⟨Nat.le_of_ble_eq_true rfl, Nat.le_of_ble_eq_true rfl⟩ rfl rfl ?_
  intro w hP hmd hks hQ
  unfold c_L_szChip
  simp +decide (maxSteps := 20000000) (disch := omega) only [↓SBK, ↓SBK2, SX, Nat.reduceEqDiff, Nat.reduceAdd, Nat.reduceMul, Nat.reduceSub, ↓reduceIte, Int.reduceNeg, Int.reduceToNat, Int.reducePow, hmd, hks, hQ]
  by_cases g0 : left < ((szM Block.sz a.blocks : Nat) : Int)
  · (first | refine call_i hP (s_szBlockS a.blocks (left) hf0.1 hf0.2 (by omega) (by omega)) (.inl ⟨rfl, fun _ hx => nomatch hx⟩) ?_ | refine callH_i hP (s_szBlockS a.blocks (left) hf0.1 hf0.2 (by omega) (by omega)) (.inl ⟨rfl, fun _ hx => nomatch hx⟩) ?_)
    simp +decide (maxSteps := 20000000) (disch := omega) only [↓SBK, ↓SBK2, SX, Nat.reduceEqDiff, Nat.reduceAdd, Nat.reduceMul, Nat.reduceSub, ↓reduceIte, Int.reduceNeg, Int.reduceToNat, Int.reducePow, hmd, hks, hQ, szC_lt g0]
    rw [szC_lt (by omega)]
  (first | refine call_i hP (s_szBlockS a.blocks (left) hf0.1 hf0.2 (by omega) (by omega)) (.inl ⟨rfl, fun _ hx => nomatch hx⟩) ?_ | refine callH_i hP (s_szBlockS a.blocks (left) hf0.1 hf0.2 (by omega) (by omega)) (.inl ⟨rfl, fun _ hx => nomatch hx⟩) ?_)
  simp +decide (maxSteps := 20000000) (disch := omega) only [↓SBK, ↓SBK2, SX, Nat.reduceEqDiff, Nat.reduceAdd, Nat.reduceMul, Nat.reduceSub, ↓reduceIte, Int.reduceNeg, Int.reduceToNat, Int.reducePow, hmd, hks, hQ, szC_ge g0]
  (first | with_reducible refine if_d _ ?_ ?_ | refine if_i _ ?_ ?_) <;> intro k0
  · exfalso; omega
  simp +decide (maxSteps := 20000000) (disch := omega) only [↓SBK, ↓SBK2, SX, Nat.reduceEqDiff, Nat.reduceAdd, Nat.reduceMul, Nat.reduceSub, ↓reduceIte, Int.reduceNeg, Int.reduceToNat, Int.reducePow, hmd, hks, hQ]
  rw [szC_ge (by omega)]
  simp only [hsz, Int.natCast_add, Int.sub_sub, Int.add_assoc]

theorem s_szFaultS (a : List Fault) (left : Int) (hf : a.length < 2 ^ 48) (h0 : 0 ≤ left) (h1 : left < 2 ^ 40) :
    Spec Try.prog 101 [.ext 3 (a.map Fault.row), .int .i64 left] (.int .i64 (szC left a.length)) [.undef, .undef] := by
  refine spec_C hmx p_L_szFaultS [] 19 [] ⟨Nat.le_of_ble_eq_true rfl, Nat.le_of_ble_eq_true rfl⟩ rfl rfl ?_
  intro w hP hmd hks hQ
  unfold c_L_szFaultS
  simp +decide (maxSteps := 20000000) (disch := omega) only [↓SBK, ↓SBK2, SX, Nat.reduceEqDiff, Nat.reduceAdd, Nat.reduceMul, Nat.reduceSub, ↓reduceIte, Int.reduceNeg, Int.reduceToNat, Int.reducePow, hmd, hks, hQ]
  (first | with_reducible refine if_d _ ?_ ?_ | refine if_i _ ?_ ?_) <;> intro h
  · simp +decide (maxSteps := 20000000) (disch := omega) only [↓SBK, ↓SBK2, SX, Nat.reduceEqDiff, Nat.reduceAdd, Nat.reduceMul, Nat.reduceSub, ↓reduceIte, Int.reduceNeg, Int.reduceToNat, Int.reducePow, hmd, hks, hQ]
    rw [szC_lt (by omega)]
  · simp +decide (maxSteps := 20000000) (disch := omega) only [↓SBK, ↓SBK2, SX, Nat.reduceEqDiff, Nat.reduceAdd, Nat.reduceMul, Nat.reduceSub, ↓reduceIte, Int.reduceNeg, Int.reduceToNat, Int.reducePow, hmd, hks, hQ]
    rw [szC_ge (by omega)]

theorem s_szDev (a : Dev) (left : Int) (hf : a.fine) (h0 : 0 ≤ left) (hl : left < 2 ^ 40) :
    Spec Try.prog 81 [a.x, .int .i64 left] (.int .i64 (szC left a.sz)) [.undef, .undef] := by
  have hsz : a.sz = a.c.sz + a.faults.length := rfl
  simp only [Dev.fine] at hf
  obtain ⟨hf0, hf1⟩ := hf
  refine spec_C hmx p_L_szDev [] 23 [] ⟨Nat.le_of_ble_eq_true rfl, Nat.le_of_ble_eq_true rfl⟩ rfl rfl ?_
  intro w hP hmd hks hQ
  unfold c_L_szDev
  simp +decide (maxSteps := 20000000) (disch := omega) only [↓SBK, ↓SBK2, SX, Nat.reduceEqDiff, Nat.reduceAdd, Nat.reduceMul, Nat.reduceSub, ↓reduceIte, Int.reduceNeg, Int.reduceToNat, Int.reducePow, hmd, hks, hQ]
  by_cases g0 : left < ((a.c.sz : Nat) : Int)
  · (first | refine call_i hP (s_szChip a.c (left) hf0 (by omega) (by omega)) (.inl ⟨rfl, fun _ hx => nomatch hx⟩) ?_ | refine callH_i hP (s_szChip a.c (left) hf0 (by omega) (by omega)) (.inl ⟨rfl, fun _ hx => nomatch hx⟩) ?_)
    simp +decide (maxSteps := 20000000) (disch := omega) only [↓SBK, ↓SBK2, SX, Nat.reduceEqDiff, Nat.reduceAdd, Nat.reduceMul, Nat.reduceSub, ↓reduceIte, Int.reduceNeg, Int.reduceToNat, Int.reducePow, hmd, hks, hQ, szC_lt g0]
    rw [szC_lt (by omega)]
  (first | refine call_i hP (s_szChip a.c (left) hf0 (by omega) (by omega)) (.inl ⟨rfl, fun _ hx => nomatch hx⟩) ?_ | refine callH_i hP (s_szChip a.c (left) hf0 (by omega) (by omega)) (.inl ⟨rfl, fun _ hx => nomatch hx⟩) ?_)
  simp +decide (maxSteps := 20000000) (disch := omega) only [↓SBK, ↓SBK2, SX, Nat.reduceEqDiff, Nat.reduceAdd, Nat.reduceMul, Nat.reduceSub, ↓reduceIte, Int.reduceNeg, Int.reduceToNat, Int.reducePow, hmd, hks, hQ, szC_ge g0]
  (first | with_reducible refine if_d _ ?_ ?_ | refine if_i _ ?_ ?_) <;> intro k0
  · exfalso; omega
  simp +decide (maxSteps := 20000000) (disch := omega) only [↓SBK, ↓SBK2, SX, Nat.reduceEqDiff, Nat.reduceAdd, Nat.reduceMul, Nat.reduceSub, ↓reduceIte, Int.reduceNeg, Int.reduceToNat, Int.reducePow, hmd, hks, hQ]
  by_cases g1 : left - ((a.c.sz : Nat) : Int) < ((a.faults.length : Nat) : Int)
  · (first | refine call_i hP (s_szFaultS a.faults (left - ((a.c.sz : Nat) : Int)) hf1 (by omega) (by omega)) (.inl ⟨rfl, fun _ hx => nomatch hx⟩) ?_ | refine callH_i hP (s_szFaultS a.faults (left - ((a.c.sz : Nat) : Int)) hf1 (by omega) (by omega)) (.inl ⟨rfl, fun _ hx => nomatch hx⟩) ?_)
    simp +decide (maxSteps := 20000000) (disch := omega) only [↓SBK, ↓SBK2, SX, Nat.reduceEqDiff, Nat.reduceAdd, Nat.reduceMul, Nat.reduceSub, ↓reduceIte, Int.reduceNeg, Int.reduceToNat, Int.reducePow, hmd, hks, hQ, szC_lt g1]
    rw [szC_lt (by omega)]
  (first | refine call_i hP (s_szFaultS a.faults (left - ((a.c.sz : Nat) : Int)) hf1 (by omega) (by omega)) (.inl ⟨rfl, fun _ hx => nomatch hx⟩) ?_ | refine callH_i hP (s_szFaultS a.faults (left - ((a.c.sz : Nat) : Int)) hf1 (by omega) (by omega)) (.inl ⟨rfl, fun _ hx => nomatch hx⟩) ?_)
  simp +decide (maxSteps := 20000000) (disch := omega) only [↓SBK, ↓SBK2, SX, Nat.reduceEqDiff, Nat.reduceAdd, Nat.reduceMul, Nat.reduceSub, ↓reduceIte, Int.reduceNeg, Int.reduceToNat, Int.reducePow, hmd, hks, hQ, szC_ge g1]
  (first | with_reducible refine if_d _ ?_ ?_ | refine if_i _ ?_ ?_) <;> intro k1
  · exfalso; omega
  simp +decide (maxSteps := 20000000) (disch := omega) only [↓SBK, ↓SBK2, SX, Nat.reduceEqDiff, Nat.reduceAdd, Nat.reduceMul, Nat.reduceSub, ↓reduceIte, Int.reduceNeg, Int.reduceToNat, Int.reducePow, hmd, hks, hQ]
  rw [szC_ge (by omega)]
  simp only [hsz, Int.natCast_add, Int.sub_sub, Int.add_assoc]

end Go.Proofs.Ytliklgcfdgdigaa.Awp

namespace Go.Proofs.Ytliklgcfdgdigaa.Awp
open Go.Proofs
set_option linter.unusedSimpArgs false
set_option linter.unusedVariables false
set_option maxRecDepth 100000
set_option maxHeartbeats 20000000

theorem s_markPageS (a : List Page) (k : Int) (h0 : 0 ≤ k) (hl : k + (cntM Page.cnt a : Nat) < 2 ^ 40) : Spec Try.prog 170 [.own 2 (a.map Page.row), .int .i64 k] (.int .i64 (k + (cntM Page.cnt a : Nat))) [.own 2 ((markL Page.marked Page.cnt a k).map Page.row), .undef] := by
  simp only [cntM] at hl
  have hlen := cnt_len Page.cnt Page.cnt1 a
  refine spec_C hmx p_L_markPageS [(46, [.l, .b], [])] 51 [true, false] ⟨Nat.le_of_ble_eq_true rfl, Nat.le_of_ble_eq_true rfl⟩ rfl rfl ?_
  intro w hP hmd hks hQ
  unfold c_L_markPageS
  simp +decide (maxSteps := 20000000) (disch := omega) only [↓SBK, ↓SBK2, SX, Nat.reduceEqDiff, Nat.reduceAdd, Nat.reduceMul, Nat.reduceSub, ↓reduceIte, Int.reduceNeg, Int.reduceToNat, Int.reducePow, hmd, hks, hQ]
  refine loop_i (fun s : Nat × Int => [(1000, .own 2 (mixR Page.row Page.marked Page.cnt a k s.1)), (1, .int .i64 s.2), (5, .int .i64 s.1)]) (fun s => s.1 ≤ a.length ∧ s.2 = k + ((a.take s.1).map Page.cnt).sum) (fun s => a.length - s.1) ((0, k)) hP hmd hks (by simp +decide (maxSteps := 20000000) (disch := omega) only [↓SBK, ↓SBK2, SX, Nat.reduceEqDiff, Nat.reduceAdd, Nat.reduceMul, Nat.reduceSub, ↓reduceIte, Int.reduceNeg, Int.reduceToNat, Int.reducePow, hmd, hks, hQ, mixR_0]) (by simp) ?_
  rintro ⟨i, c⟩ ⟨hi, hc⟩ w1 hP1 hmd1 hks1 hQ1
  simp +decide (maxSteps := 20000000) (disch := omega) only [↓SBK, ↓SBK2, SX, Nat.reduceEqDiff, Nat.reduceAdd, Nat.reduceMul, Nat.reduceSub, ↓reduceIte, Int.reduceNeg, Int.reduceToNat, Int.reducePow, hmd, hks, hQ, hmd1, hks1, hQ1]
  simp only at hi hc
  (first | with_reducible refine if_d _ ?_ ?_ | refine if_i _ ?_ ?_) <;> intro h1
  · have hs := sum_take Page.cnt a i (by omega)
    have hs' := sum_take_le Page.cnt a (i + 1)
    have hn : a[i].cnt = 1 + a[i].b.length := rfl
    simp +decide (maxSteps := 20000000) (disch := omega) only [↓SBK, ↓SBK2, SX, Nat.reduceEqDiff, Nat.reduceAdd, Nat.reduceMul, Nat.reduceSub, ↓reduceIte, Int.reduceNeg, Int.reduceToNat, Int.reducePow, hmd, hks, hQ, hmd1, hks1, hQ1, getE h1]
    (first | refine call_i hP1 (s_markByteS a[i].b (c + 1) (by omega) (by omega)) (.inl ⟨rfl, fun _ hx => nomatch hx⟩) ?_ | refine callH_i hP1 (s_markByteS a[i].b (c + 1) (by omega) (by omega)) (.inl ⟨rfl, fun _ hx => nomatch hx⟩) ?_)
    simp +decide (maxSteps := 20000000) (disch := omega) only [↓SBK, ↓SBK2, SX, Nat.reduceEqDiff, Nat.reduceAdd, Nat.reduceMul, Nat.reduceSub, ↓reduceIte, Int.reduceNeg, Int.reduceToNat, Int.reducePow, hmd, hks, hQ, hmd1, hks1, hQ1]
    rw [mixR_set _ _ _ _ _ _ (by omega) _ (by subst hc; rfl)]
    exact ⟨(i + 1, c + 1 + (a[i].b.length : Nat)), rfl, ⟨by simp only; omega, by simp only; omega⟩, by simp only; omega⟩
  · obtain rfl : i = a.length := by omega
    rw [List.take_length] at hc
    simp +decide (maxSteps := 20000000) (disch := omega) only [↓SBK, ↓SBK2, SX, Nat.reduceEqDiff, Nat.reduceAdd, Nat.reduceMul, Nat.reduceSub, ↓reduceIte, Int.reduceNeg, Int.reduceToNat, Int.reducePow, hmd, hks, hQ, hmd1, hks1, hQ1, mixR_all, hc, cntM]

theorem s_markBlockS (a : List Block) (k : Int) (h0 : 0 ≤ k) (hl : k + (cntM Block.cnt a : Nat) < 2 ^ 40) : Spec Try.prog 127 [.own 3 (a.map Block.row), .int .i64 k] (.int .i64 (k + (cntM Block.cnt a : Nat))) [.own 3 ((markL Block.marked Block.cnt a k).map Block.row), .undef] := by
  simp only [cntM] at hl
  have hlen := cnt_len Block.cnt Block.cnt1 a
  refine spec_C hmx p_L_markBlockS [(170, [.l, .b], [])] 51 [true, false] ⟨Nat.le_of_ble_eq_true rfl, Nat.le_of_ble_eq_true rfl⟩ rfl rfl ?_
  intro w hP hmd hks hQ
  unfold c_L_markBlockS
  simp +decide (maxSteps := 20000000) (disch := omega) only [↓SBK, ↓SBK2, SX, Nat.reduceEqDiff, Nat.reduceAdd, Nat.reduceMul, Nat.reduceSub, ↓reduceIte, Int.reduceNeg, Int.reduceToNat, Int.reducePow, hmd, hks, hQ]
  refine loop_i (fun s : Nat × Int => [(1000, .own 3 (mixR Block.row Block.marked Block.cnt a k s.1)), (1, .int .i64 s.2), (5, .int .i64 s.1)]) (fun s => s.1 ≤ a.length ∧ s.2 = k + ((a.take s.1).map Block.cnt).sum) (fun s => a.length - s.1) ((0, k)) hP hmd hks (by simp +decide (maxSteps := 20000000) (disch := omega) only [↓SBK, ↓SBK2, SX, Nat.reduceEqDiff, Nat.reduceAdd, Nat.reduceMul, Nat.reduceSub, ↓reduceIte, Int.reduceNeg, Int.reduceToNat, Int.reducePow, hmd, hks, hQ, mixR_0]) (by simp) ?_
  rintro ⟨i, c⟩ ⟨hi, hc⟩ w1 hP1 hmd1 hks1 hQ1
  simp +decide (maxSteps := 20000000) (disch := omega) only [↓SBK, ↓SBK2, SX, Nat.reduceEqDiff, Nat.reduceAdd, Nat.reduceMul, Nat.reduceSub, ↓reduceIte, Int.reduceNeg, Int.reduceToNat, Int.reducePow, hmd, hks, hQ, hmd1, hks1, hQ1]
  simp only at hi hc
  (first | with_reducible refine if_d _ ?_ ?_ | refine if_i _ ?_ ?_) <;> intro h1
  · have hs := sum_take Block.cnt a i (by omega)
    have hs' := sum_take_le Block.cnt a (i + 1)
    have hn : a[i].cnt = cntM Page.cnt a[i].pages + 1 + 1 := rfl
    simp +decide (maxSteps := 20000000) (disch := omega) only [↓SBK, ↓SBK2, SX, Nat.reduceEqDiff, Nat.reduceAdd, Nat.reduceMul, Nat.reduceSub, ↓reduceIte, Int.reduceNeg, Int.reduceToNat, Int.reducePow, hmd, hks, hQ, hmd1, hks1, hQ1, getE h1]
    (first | refine call_i hP1 (s_markPageS a[i].pages (c) (by omega) (by omega)) (.inl ⟨rfl, fun _ hx => nomatch hx⟩) ?_ | refine callH_i hP1 (s_markPageS a[i].pages (c) (by omega) (by omega)) (.inl ⟨rfl, fun _ hx => nomatch hx⟩) ?_)
    simp +decide (maxSteps := 20000000) (disch := omega) only [↓SBK, ↓SBK2, SX, Nat.reduceEqDiff, Nat.reduceAdd, Nat.reduceMul, Nat.reduceSub, ↓reduceIte, Int.reduceNeg, Int.reduceToNat, Int.reducePow, hmd, hks, hQ, hmd1, hks1, hQ1]
    rw [mixR_set _ _ _ _ _ _ (by omega) _ (by subst hc; rfl)]
    exact ⟨(i + 1, c + (cntM Page.cnt a[i].pages : Nat) + 1 + 1), rfl, ⟨by simp only; omega, by simp only; omega⟩, by simp only; omega⟩
  · obtain rfl : i = a.length := by omega
    rw [List.take_length] at hc
    simp +decide (maxSteps := 20000000) (disch := omega) only [↓SBK, ↓SBK2, SX, Nat.reduceEqDiff, Nat.reduceAdd, Nat.reduceMul, Nat.reduceSub, ↓reduceIte, Int.reduceNeg, Int.reduceToNat, Int.reducePow, hmd, hks, hQ, hmd1, hks1, hQ1, mixR_all, hc, cntM]

theorem s_markChip (a : Chip) (k : Int) (h0 : 0 ≤ k) (hl : k + (a.cntT : Nat) < 2 ^ 40) : Spec Try.prog 51 [a.o, .int .i64 k] (.int .i64 (k + (a.cntT : Nat))) [(a.markT k).o, .undef] := by
  simp only [Chip.cntT] at hl
  refine spec_C hmx p_L_markChip [(127, [.l, .b], [])] 23 [true, false] ⟨Nat.le_of_ble_eq_true rfl, Nat.le_of_ble_eq_true rfl⟩ rfl rfl ?_
  intro w hP hmd hks hQ
  unfold c_L_markChip
  simp +decide (maxSteps := 20000000) (disch := omega) only [↓SBK, ↓SBK2, SX, Nat.reduceEqDiff, Nat.reduceAdd, Nat.reduceMul, Nat.reduceSub, ↓reduceIte, Int.reduceNeg, Int.reduceToNat, Int.reducePow, hmd, hks, hQ]
  (first | refine call_i hP (s_markBlockS a.blocks (k) (by omega) (by omega)) (.inl ⟨rfl, fun _ hx => nomatch hx⟩) ?_ | refine callH_i hP (s_markBlockS a.blocks (k) (by omega) (by omega)) (.inl ⟨rfl, fun _ hx => nomatch hx⟩) ?_)
  simp +decide (maxSteps := 20000000) (disch := omega) only [↓SBK, ↓SBK2, SX, Nat.reduceEqDiff, Nat.reduceAdd, Nat.reduceMul, Nat.reduceSub, ↓reduceIte, Int.reduceNeg, Int.reduceToNat, Int.reducePow, hmd, hks, hQ]
  exact ⟨by simp only [Chip.cntT, Int.natCast_add, Int.add_assoc], rfl⟩

theorem s_markFaultS (a : List Fault) (k : Int) (h0 : 0 ≤ k) (hl : k + (cntM Fault.cnt a : Nat) < 2 ^ 40) : Spec Try.prog 106 [.own 3 (a.map Fault.row), .int .i64 k] (.int .i64 (k + (cntM Fault.cnt a : Nat))) [.own 3 ((markL Fault.marked Fault.cnt a k).map Fault.row), .undef] := by
  simp only [cntM] at hl
  have hlen := cnt_len Fault.cnt Fault.cnt1 a
  refine spec_C hmx p_L_markFaultS [] 51 [true, false] ⟨Nat.le_of_ble_eq_true rfl, Nat.le_of_ble_eq_true rfl⟩ rfl rfl ?_
  intro w hP hmd hks hQ
  unfold c_L_markFaultS
  simp +decide (maxSteps := 20000000) (disch := omega) only [↓SBK, ↓SBK2, SX, Nat.reduceEqDiff, Nat.reduceAdd, Nat.reduceMul, Nat.reduceSub, ↓reduceIte, Int.reduceNeg, Int.reduceToNat, Int.reducePow, hmd, hks, hQ]
  refine loop_i (fun s : Nat × Int => [(1000, .own 3 (mixR Fault.row Fault.marked Fault.cnt a k s.1)), (1, .int .i64 s.2), (5, .int .i64 s.1)]) (fun s => s.1 ≤ a.length ∧ s.2 = k + ((a.take s.1).map Fault.cnt).sum) (fun s => a.length - s.1) ((0, k)) hP hmd hks (by simp +decide (maxSteps := 20000000) (disch := omega) only [↓SBK, ↓SBK2, SX, Nat.reduceEqDiff, Nat.reduceAdd, Nat.reduceMul, Nat.reduceSub, ↓reduceIte, Int.reduceNeg, Int.reduceToNat, Int.reducePow, hmd, hks, hQ, mixR_0]) (by simp) ?_
  rintro ⟨i, c⟩ ⟨hi, hc⟩ w1 hP1 hmd1 hks1 hQ1
  simp +decide (maxSteps := 20000000) (disch := omega) only [↓SBK, ↓SBK2, SX, Nat.reduceEqDiff, Nat.reduceAdd, Nat.reduceMul, Nat.reduceSub, ↓reduceIte, Int.reduceNeg, Int.reduceToNat, Int.reducePow, hmd, hks, hQ, hmd1, hks1, hQ1]
  simp only at hi hc
  (first | with_reducible refine if_d _ ?_ ?_ | refine if_i _ ?_ ?_) <;> intro h1
  · have hs := sum_take Fault.cnt a i (by omega)
    have hs' := sum_take_le Fault.cnt a (i + 1)
    have hn : a[i].cnt = 1 + 1 + 1 := rfl
    simp +decide (maxSteps := 20000000) (disch := omega) only [↓SBK, ↓SBK2, SX, Nat.reduceEqDiff, Nat.reduceAdd, Nat.reduceMul, Nat.reduceSub, ↓reduceIte, Int.reduceNeg, Int.reduceToNat, Int.reducePow, hmd, hks, hQ, hmd1, hks1, hQ1, getE h1]
    rw [mixR_set _ _ _ _ _ _ (by omega) _ (by subst hc; rfl)]
    exact ⟨(i + 1, c + 1 + 1 + 1), rfl, ⟨by simp only; omega, by simp only; omega⟩, by simp only; omega⟩
  · obtain rfl : i = a.length := by omega
    rw [List.take_length] at hc
    simp +decide (maxSteps := 20000000) (disch := omega) only [↓SBK, ↓SBK2, SX, Nat.reduceEqDiff, Nat.reduceAdd, Nat.reduceMul, Nat.reduceSub, ↓reduceIte, Int.reduceNeg, Int.reduceToNat, Int.reducePow, hmd, hks, hQ, hmd1, hks1, hQ1, mixR_all, hc, cntM]

theorem s_markDev (a : Dev) (k : Int) (h0 : 0 ≤ k) (hl : k + (a.cntT : Nat) < 2 ^ 40) : Spec Try.prog 107 [a.o, .int .i64 k] (.int .i64 (k + (a.cntT : Nat))) [(a.markT k).o, .undef] := by
  simp only [Dev.cntT] at hl
  refine spec_C hmx p_L_markDev [(51, [.p, .b], []), (106, [.l, .b], [])] 23 [true, false] ⟨Nat.le_of_ble_eq_true rfl, Nat.le_of_ble_eq_true rfl⟩ rfl rfl ?_
  intro w hP hmd hks hQ
  unfold c_L_markDev
  simp +decide (maxSteps := 20000000) (disch := omega) only [↓SBK, ↓SBK2, SX, Nat.reduceEqDiff, Nat.reduceAdd, Nat.reduceMul, Nat.reduceSub, ↓reduceIte, Int.reduceNeg, Int.reduceToNat, Int.reducePow, hmd, hks, hQ]
  (first | refine call_i hP (s_markChip a.c (k) (by omega) (by omega)) (.inl ⟨rfl, fun _ hx => nomatch hx⟩) ?_ | refine callH_i hP (s_markChip a.c (k) (by omega) (by omega)) (.inl ⟨rfl, fun _ hx => nomatch hx⟩) ?_)
  simp +decide (maxSteps := 20000000) (disch := omega) only [↓SBK, ↓SBK2, SX, Nat.reduceEqDiff, Nat.reduceAdd, Nat.reduceMul, Nat.reduceSub, ↓reduceIte, Int.reduceNeg, Int.reduceToNat, Int.reducePow, hmd, hks, hQ]
  (first | refine call_i hP (s_markFaultS a.faults (k + (a.c.cntT : Nat)) (by omega) (by omega)) (.inl ⟨rfl, fun _ hx => nomatch hx⟩) ?_ | refine callH_i hP (s_markFaultS a.faults (k + (a.c.cntT : Nat)) (by omega) (by omega)) (.inl ⟨rfl, fun _ hx => nomatch hx⟩) ?_)
  simp +decide (maxSteps := 20000000) (disch := omega) only [↓SBK, ↓SBK2, SX, Nat.reduceEqDiff, Nat.reduceAdd, Nat.reduceMul, Nat.reduceSub, ↓reduceIte, Int.reduceNeg, Int.reduceToNat, Int.reducePow, hmd, hks, hQ]
  exact ⟨by simp only [Dev.cntT, Int.natCast_add, Int.add_assoc], rfl⟩

end Go.Proofs.Ytliklgcfdgdigaa.Awp

namespace Go.Proofs.Ytliklgcfdgdigaa.Awp
open Go.Proofs
set_option linter.unusedSimpArgs false
set_option linter.unusedVariables false
set_option maxRecDepth 100000
set_option maxHeartbeats 20000000

theorem s_heldPageS (a : List Page) (k : Int) (h0 : 0 ≤ k) (hl : k + (cntM Page.cnt a : Nat) < 2 ^ 40) : Spec Try.prog 171 [.ext 2 ((markL Page.marked Page.cnt a k).map Page.row), .int .i64 k] (.int .i64 (k + (cntM Page.cnt a : Nat))) [.undef, .undef] := by
  simp only [cntM] at hl
  have hlen := cnt_len Page.cnt Page.cnt1 a
  refine spec_C hmx p_L_heldPageS [] 51 [] ⟨Nat.le_of_ble_eq_true rfl, Nat.le_of_ble_eq_true rfl⟩ rfl rfl ?_
  intro w hP hmd hks hQ
  unfold c_L_heldPageS
  simp +decide (maxSteps := 20000000) (disch := omega) only [↓SBK, ↓SBK2, SX, Nat.reduceEqDiff, Nat.reduceAdd, Nat.reduceMul, Nat.reduceSub, ↓reduceIte, Int.reduceNeg, Int.reduceToNat, Int.reducePow, hmd, hks, hQ]
  refine loop_i (fun s : Nat × Int => [(1, .int .i64 s.2), (5, .int .i64 s.1)]) (fun s => s.1 ≤ a.length ∧ s.2 = k + ((a.take s.1).map Page.cnt).sum) (fun s => a.length - s.1) ((0, k)) hP hmd hks (by simp +decide (maxSteps := 20000000) (disch := omega) only [↓SBK, ↓SBK2, SX, Nat.reduceEqDiff, Nat.reduceAdd, Nat.reduceMul, Nat.reduceSub, ↓reduceIte, Int.reduceNeg, Int.reduceToNat, Int.reducePow, hmd, hks, hQ]) (by simp) ?_
  rintro ⟨i, c⟩ ⟨hi, hc⟩ w1 hP1 hmd1 hks1 hQ1
  simp +decide (maxSteps := 20000000) (disch := omega) only [↓SBK, ↓SBK2, SX, Nat.reduceEqDiff, Nat.reduceAdd, Nat.reduceMul, Nat.reduceSub, ↓reduceIte, Int.reduceNeg, Int.reduceToNat, Int.reducePow, hmd, hks, hQ, hmd1, hks1, hQ1]
  simp only at hi hc
  (first | with_reducible refine if_d _ ?_ ?_ | refine if_i _ ?_ ?_) <;> intro h1
  · have hs := sum_take Page.cnt a i (by omega)
    have hs' := sum_take_le Page.cnt a (i + 1)
    have hn : a[i].cnt = 1 + a[i].b.length := rfl
    simp +decide (maxSteps := 20000000) (disch := omega) only [↓SBK, ↓SBK2, SX, Nat.reduceEqDiff, Nat.reduceAdd, Nat.reduceMul, Nat.reduceSub, ↓reduceIte, Int.reduceNeg, Int.reduceToNat, Int.reducePow, hmd, hks, hQ, hmd1, hks1, hQ1, getE h1, ← hc, Page.marked]
    (first | refine call_i hP1 (s_heldByteS a[i].b (c + 1) (by omega) (by omega)) (.inl ⟨rfl, fun _ hx => nomatch hx⟩) ?_ | refine callH_i hP1 (s_heldByteS a[i].b (c + 1) (by omega) (by omega)) (.inl ⟨rfl, fun _ hx => nomatch hx⟩) ?_)
    simp +decide (maxSteps := 20000000) (disch := omega) only [↓SBK, ↓SBK2, SX, Nat.reduceEqDiff, Nat.reduceAdd, Nat.reduceMul, Nat.reduceSub, ↓reduceIte, Int.reduceNeg, Int.reduceToNat, Int.reducePow, hmd, hks, hQ, hmd1, hks1, hQ1, getE h1, ← hc, Page.marked]
    (first | with_reducible refine if_d _ ?_ ?_ | refine if_i _ ?_ ?_) <;> intro g
    · exfalso; omega
    simp +decide (maxSteps := 20000000) (disch := omega) only [↓SBK, ↓SBK2, SX, Nat.reduceEqDiff, Nat.reduceAdd, Nat.reduceMul, Nat.reduceSub, ↓reduceIte, Int.reduceNeg, Int.reduceToNat, Int.reducePow, hmd, hks, hQ, hmd1, hks1, hQ1, getE h1, ← hc, Page.marked]
    exact ⟨(i + 1, c + 1 + (a[i].b.length : Nat)), rfl, ⟨by simp only; omega, by simp only; omega⟩, by simp only; omega⟩
  · obtain rfl : i = a.length := by omega
    rw [List.take_length] at hc
    simp +decide (maxSteps := 20000000) (disch := omega) only [↓SBK, ↓SBK2, SX, Nat.reduceEqDiff, Nat.reduceAdd, Nat.reduceMul, Nat.reduceSub, ↓reduceIte, Int.reduceNeg, Int.reduceToNat, Int.reducePow, hmd, hks, hQ, hmd1, hks1, hQ1, hc, cntM]

theorem s_heldBlockS (a : List Block) (k : Int) (h0 : 0 ≤ k) (hl : k + (cntM Block.cnt a : Nat) < 2 ^ 40) : Spec Try.prog 128 [.ext 3 ((markL Block.marked Block.cnt a k).map Block.row), .int .i64 k] (.int .i64 (k + (cntM Block.cnt a : Nat))) [.undef, .undef] := by
  simp only [cntM] at hl
  have hlen := cnt_len Block.cnt Block.cnt1 a
  refine spec_C hmx p_L_heldBlockS [] 51 [] ⟨Nat.le_of_ble_eq_true rfl, Nat.le_of_ble_eq_true rfl⟩ rfl rfl ?_
  intro w hP hmd hks hQ
  unfold c_L_heldBlockS
  simp +decide (maxSteps := 20000000) (disch := omega) only [↓SBK, ↓SBK2, SX, Nat.reduceEqDiff, Nat.reduceAdd, Nat.reduceMul, Nat.reduceSub, ↓reduceIte, Int.reduceNeg, Int.reduceToNat, Int.reducePow, hmd, hks, hQ]
  refine loop_i (fun s : Nat × Int => [(1, .int .i64 s.2), (5, .int .i64 s.1)]) (fun s => s.1 ≤ a.length ∧ s.2 = k + ((a.take s.1).map Block.cnt).sum) (fun s => a.length - s.1) ((0, k)) hP hmd hks (by simp +decide (maxSteps := 20000000) (disch := omega) only [↓SBK, ↓SBK2, SX, Nat.reduceEqDiff, Nat.reduceAdd, Nat.reduceMul, Nat.reduceSub, ↓reduceIte, Int.reduceNeg, Int.reduceToNat, Int.reducePow, hmd, hks, hQ]) (by simp) ?_
  rintro ⟨i, c⟩ ⟨hi, hc⟩ w1 hP1 hmd1 hks1 hQ1
  simp +decide (maxSteps := 20000000) (disch := omega) only [↓SBK, ↓SBK2, SX, Nat.reduceEqDiff, Nat.reduceAdd, Nat.reduceMul, Nat.reduceSub, ↓reduceIte, Int.reduceNeg, Int.reduceToNat, Int.reducePow, hmd, hks, hQ, hmd1, hks1, hQ1]
  simp only at hi hc
  (first | with_reducible refine if_d _ ?_ ?_ | refine if_i _ ?_ ?_) <;> intro h1
  · have hs := sum_take Block.cnt a i (by omega)
    have hs' := sum_take_le Block.cnt a (i + 1)
    have hn : a[i].cnt = cntM Page.cnt a[i].pages + 1 + 1 := rfl
    simp +decide (maxSteps := 20000000) (disch := omega) only [↓SBK, ↓SBK2, SX, Nat.reduceEqDiff, Nat.reduceAdd, Nat.reduceMul, Nat.reduceSub, ↓reduceIte, Int.reduceNeg, Int.reduceToNat, Int.reducePow, hmd, hks, hQ, hmd1, hks1, hQ1, getE h1, ← hc, Block.marked]
    (first | refine call_i hP1 (s_heldPageS a[i].pages (c) (by omega) (by omega)) (.inl ⟨rfl, fun _ hx => nomatch hx⟩) ?_ | refine callH_i hP1 (s_heldPageS a[i].pages (c) (by omega) (by omega)) (.inl ⟨rfl, fun _ hx => nomatch hx⟩) ?_)
    simp +decide (maxSteps := 20000000) (disch := omega) only [↓SBK, ↓SBK2, SX, Nat.reduceEqDiff, Nat.reduceAdd, Nat.reduceMul, Nat.reduceSub, ↓reduceIte, Int.reduceNeg, Int.reduceToNat, Int.reducePow, hmd, hks, hQ, hmd1, hks1, hQ1, getE h1, ← hc, Block.marked]
    (first | with_reducible refine if_d _ ?_ ?_ | refine if_i _ ?_ ?_) <;> intro g
    · exfalso; omega
    simp +decide (maxSteps := 20000000) (disch := omega) only [↓SBK, ↓SBK2, SX, Nat.reduceEqDiff, Nat.reduceAdd, Nat.reduceMul, Nat.reduceSub, ↓reduceIte, Int.reduceNeg, Int.reduceToNat, Int.reducePow, hmd, hks, hQ, hmd1, hks1, hQ1, getE h1, ← hc, Block.marked]
    exact ⟨(i + 1, c + (cntM Page.cnt a[i].pages : Nat) + 1 + 1), rfl, ⟨by simp only; omega, by simp only; omega⟩, by simp only; omega⟩
  · obtain rfl : i = a.length := by omega
    rw [List.take_length] at hc
    simp +decide (maxSteps := 20000000) (disch := omega) only [↓SBK, ↓SBK2, SX, Nat.reduceEqDiff, Nat.reduceAdd, Nat.reduceMul, Nat.reduceSub, ↓reduceIte, Int.reduceNeg, Int.reduceToNat, Int.reducePow, hmd, hks, hQ, hmd1, hks1, hQ1, hc, cntM]

theorem s_heldChip (a : Chip) (k : Int) (h0 : 0 ≤ k) (hl : k + (a.cntT : Nat) < 2 ^ 40) : Spec Try.prog 52 [(a.markT k).x, .int .i64 k] (.int .i64 (k + (a.cntT : Nat))) [.undef, .undef] := by
  simp only [Chip.cntT] at hl
  refine spec_C hmx p_L_heldChip [] 23 [] ⟨Nat.le_of_ble_eq_true rfl, Nat.le_of_ble_eq_true rfl⟩ rfl rfl ?_
  intro w hP hmd hks hQ
  unfold c_L_heldChip
  simp +decide (maxSteps := 20000000) (disch := omega) only [↓SBK, ↓SBK2, SX, Nat.reduceEqDiff, Nat.reduceAdd, Nat.reduceMul, Nat.reduceSub, ↓reduceIte, Int.reduceNeg, Int.reduceToNat, Int.reducePow, hmd, hks, hQ]
  (first | refine call_i hP (s_heldBlockS a.blocks (k) (by omega) (by omega)) (.inl ⟨rfl, fun _ hx => nomatch hx⟩) ?_ | refine callH_i hP (s_heldBlockS a.blocks (k) (by omega) (by omega)) (.inl ⟨rfl, fun _ hx => nomatch hx⟩) ?_)
  simp +decide (maxSteps := 20000000) (disch := omega) only [↓SBK, ↓SBK2, SX, Nat.reduceEqDiff, Nat.reduceAdd, Nat.reduceMul, Nat.reduceSub, ↓reduceIte, Int.reduceNeg, Int.reduceToNat, Int.reducePow, hmd, hks, hQ]
  (first | with_reducible refine if_d _ ?_ ?_ | refine if_i _ ?_ ?_) <;> intro g
  · exfalso; omega
  simp +decide (maxSteps := 20000000) (disch := omega) only [↓SBK, ↓SBK2, SX, Nat.reduceEqDiff, Nat.reduceAdd, Nat.reduceMul, Nat.reduceSub, ↓reduceIte, Int.reduceNeg, Int.reduceToNat, Int.reducePow, hmd, hks, hQ]
  simp only [Chip.cntT, Int.natCast_add, Int.add_assoc]

theorem s_heldFaultS (a : List Fault) (k : Int) (h0 : 0 ≤ k) (hl : k + (cntM Fault.cnt a : Nat) < 2 ^ 40) : Spec Try.prog 160 [.ext 3 ((markL Fault.marked Fault.cnt a k).map Fault.row), .int .i64 k] (.int .i64 (k + (cntM Fault.cnt a : Nat))) [.undef, .undef] := by
  simp only [cntM] at hl
  have hlen := cnt_len Fault.cnt Fault.cnt1 a
  refine spec_C hmx p_L_heldFaultS [] 51 [] ⟨Nat.le_of_ble_eq_true rfl, Nat.le_of_ble_eq_true rfl⟩ rfl rfl ?_
  intro w hP hmd hks hQ
  unfold c_L_heldFaultS
  simp +decide (maxSteps := 20000000) (disch := omega) only [↓SBK, ↓SBK2, SX, Nat.reduceEqDiff, Nat.reduceAdd, Nat.reduceMul, Nat.reduceSub, ↓reduceIte, Int.reduceNeg, Int.reduceToNat, Int.reducePow, hmd, hks, hQ]
  refine loop_i (fun s : Nat × Int => [(1, .int .i64 s.2), (5, .int .i64 s.1)]) (fun s => s.1 ≤ a.length ∧ s.2 = k + ((a.take s.1).map Fault.cnt).sum) (fun s => a.length - s.1) ((0, k)) hP hmd hks (by simp +decide (maxSteps := 20000000) (disch := omega) only [↓SBK, ↓SBK2, SX, Nat.reduceEqDiff, Nat.reduceAdd, Nat.reduceMul, Nat.reduceSub, ↓reduceIte, Int.reduceNeg, Int.reduceToNat, Int.reducePow, hmd, hks, hQ]) (by simp) ?_
  rintro ⟨i, c⟩ ⟨hi, hc⟩ w1 hP1 hmd1 hks1 hQ1
  simp +decide (maxSteps := 20000000) (disch := omega) only [↓SBK, ↓SBK2, SX, Nat.reduceEqDiff, Nat.reduceAdd, Nat.reduceMul, Nat.reduceSub, ↓reduceIte, Int.reduceNeg, Int.reduceToNat, Int.reducePow, hmd, hks, hQ, hmd1, hks1, hQ1]
  simp only at hi hc
  (first | with_reducible refine if_d _ ?_ ?_ | refine if_i _ ?_ ?_) <;> intro h1
  · have hs := sum_take Fault.cnt a i (by omega)
    have hs' := sum_take_le Fault.cnt a (i + 1)
    have hn : a[i].cnt = 1 + 1 + 1 := rfl
    simp +decide (maxSteps := 20000000) (disch := omega) only [↓SBK, ↓SBK2, SX, Nat.reduceEqDiff, Nat.reduceAdd, Nat.reduceMul, Nat.reduceSub, ↓reduceIte, Int.reduceNeg, Int.reduceToNat, Int.reducePow, hmd, hks, hQ, hmd1, hks1, hQ1, getE h1, ← hc, Fault.marked]
    exact ⟨(i + 1, c + 1 + 1 + 1), rfl, ⟨by simp only; omega, by simp only; omega⟩, by simp only; omega⟩
  · obtain rfl : i = a.length := by omega
    rw [List.take_length] at hc
    simp +decide (maxSteps := 20000000) (disch := omega) only [↓SBK, ↓SBK2, SX, Nat.reduceEqDiff, Nat.reduceAdd, Nat.reduceMul, Nat.reduceSub, ↓reduceIte, Int.reduceNeg, Int.reduceToNat, Int.reducePow, hmd, hks, hQ, hmd1, hks1, hQ1, hc, cntM]

theorem s_heldDev (a : Dev) (k : Int) (h0 : 0 ≤ k) (hl : k + (a.cntT : Nat) < 2 ^ 40) : Spec Try.prog 108 [(a.markT k).x, .int .i64 k] (.int .i64 (k + (a.cntT : Nat))) [.undef, .undef] := by
  simp only [Dev.cntT] at hl
  refine spec_C hmx p_L_heldDev [] 23 [] ⟨Nat.le_of_ble_eq_true rfl, Nat.le_of_ble_eq_true rfl⟩ rfl rfl ?_
  intro w hP hmd hks hQ
  unfold c_L_heldDev
  simp +decide (maxSteps := 20000000) (disch := omega) only [↓SBK, ↓SBK2, SX, Nat.reduceEqDiff, Nat.reduceAdd, Nat.reduceMul, Nat.reduceSub, ↓reduceIte, Int.reduceNeg, Int.reduceToNat, Int.reducePow, hmd, hks, hQ]
  (first | refine call_i hP (s_heldChip a.c (k) (by omega) (by omega)) (.inl ⟨rfl, fun _ hx => nomatch hx⟩) ?_ | refine callH_i hP (s_heldChip a.c (k) (by omega) (by omega)) (.inl ⟨rfl, fun _ hx => nomatch hx⟩) ?_)
  simp +decide (maxSteps := 20000000) (disch := omega) only [↓SBK, ↓SBK2, SX, Nat.reduceEqDiff, Nat.reduceAdd, Nat.reduceMul, Nat.reduceSub, ↓reduceIte, Int.reduceNeg, Int.reduceToNat, Int.reducePow, hmd, hks, hQ]
  (first | with_reducible refine if_d _ ?_ ?_ | refine if_i _ ?_ ?_) <;> intro g
  · exfalso; omega
  simp +decide (maxSteps := 20000000) (disch := omega) only [↓SBK, ↓SBK2, SX, Nat.reduceEqDiff, Nat.reduceAdd, Nat.reduceMul, Nat.reduceSub, ↓reduceIte, Int.reduceNeg, Int.reduceToNat, Int.reducePow, hmd, hks, hQ]
  (first | refine call_i hP (s_heldFaultS a.faults (k + (a.c.cntT : Nat)) (by omega) (by omega)) (.inl ⟨rfl, fun _ hx => nomatch hx⟩) ?_ | refine callH_i hP (s_heldFaultS a.faults (k + (a.c.cntT : Nat)) (by omega) (by omega)) (.inl ⟨rfl, fun _ hx => nomatch hx⟩) ?_)
  simp +decide (maxSteps := 20000000) (disch := omega) only [↓SBK, ↓SBK2, SX, Nat.reduceEqDiff, Nat.reduceAdd, Nat.reduceMul, Nat.reduceSub, ↓reduceIte, Int.reduceNeg, Int.reduceToNat, Int.reducePow, hmd, hks, hQ]
  (first | with_reducible refine if_d _ ?_ ?_ | refine if_i _ ?_ ?_) <;> intro g
  · exfalso; omega
  simp +decide (maxSteps := 20000000) (disch := omega) only [↓SBK, ↓SBK2, SX, Nat.reduceEqDiff, Nat.reduceAdd, Nat.reduceMul, Nat.reduceSub, ↓reduceIte, Int.reduceNeg, Int.reduceToNat, Int.reducePow, hmd, hks, hQ]
  simp only [Dev.cntT, Int.natCast_add, Int.add_assoc]

end Go.Proofs.Ytliklgcfdgdigaa.Awp

namespace Go.Proofs.Ytliklgcfdgdigaa.Awp
open Go.Proofs
set_option linter.unusedSimpArgs false
set_option linter.unusedVariables false
set_option maxRecDepth 100000
set_option maxHeartbeats 20000000

theorem s_l1In (x a b : Int) : Spec Try.prog 120 [.int .i64 x, .int .i64 a, .int .i64 b] (.bool (inR x a b)) [.undef, .undef, .undef] := by
  refine spec_C hmx p_S_l1In [] 71 [] ⟨Nat.le_of_ble_eq_true rfl, Nat.le_of_ble_eq_true rfl⟩ rfl rfl ?_
  intro w hP hmd hks hQ
  unfold c_S_l1In
  simp +decide (maxSteps := 20000000) (disch := omega) only [↓SBK, ↓SBK2, SX, Nat.reduceEqDiff, Nat.reduceAdd, Nat.reduceMul, Nat.reduceSub, ↓reduceIte, Int.reduceNeg, Int.reduceToNat, Int.reducePow, hmd, hks, hQ]
  (first | with_reducible refine gd_d _ ?_ ?_ | refine gd_i _ ?_ ?_) <;> intro h1
  · simp +decide (maxSteps := 20000000) (disch := omega) only [↓SBK, ↓SBK2, SX, Nat.reduceEqDiff, Nat.reduceAdd, Nat.reduceMul, Nat.reduceSub, ↓reduceIte, Int.reduceNeg, Int.reduceToNat, Int.reducePow, hmd, hks, hQ, h1]
    simp [inR, h1]
  · simp +decide (maxSteps := 20000000) (disch := omega) only [↓SBK, ↓SBK2, SX, Nat.reduceEqDiff, Nat.reduceAdd, Nat.reduceMul, Nat.reduceSub, ↓reduceIte, Int.reduceNeg, Int.reduceToNat, Int.reducePow, hmd, hks, hQ, h1]
    simp [inR, h1]
theorem s_from (x a b : Int) : Spec Try.prog 121 [.int .i64 x, .int .i64 a, .int .i64 b] (.bool (inR x a b)) [.undef, .undef, .undef] := by
  refine spec_C hmx p_I_from [] 71 [] ⟨Nat.le_of_ble_eq_true rfl, Nat.le_of_ble_eq_true rfl⟩ rfl rfl ?_
  intro w hP hmd hks hQ
  unfold c_I_from
  simp +decide (maxSteps := 20000000) (disch := omega) only [↓SBK, ↓SBK2, SX, Nat.reduceEqDiff, Nat.reduceAdd, Nat.reduceMul, Nat.reduceSub, ↓reduceIte, Int.reduceNeg, Int.reduceToNat, Int.reducePow, hmd, hks, hQ]
  (first | with_reducible refine gd_d _ ?_ ?_ | refine gd_i _ ?_ ?_) <;> intro h1
  · simp +decide (maxSteps := 20000000) (disch := omega) only [↓SBK, ↓SBK2, SX, Nat.reduceEqDiff, Nat.reduceAdd, Nat.reduceMul, Nat.reduceSub, ↓reduceIte, Int.reduceNeg, Int.reduceToNat, Int.reducePow, hmd, hks, hQ, h1]
    simp [inR, h1]
  · simp +decide (maxSteps := 20000000) (disch := omega) only [↓SBK, ↓SBK2, SX, Nat.reduceEqDiff, Nat.reduceAdd, Nat.reduceMul, Nat.reduceSub, ↓reduceIte, Int.reduceNeg, Int.reduceToNat, Int.reducePow, hmd, hks, hQ, h1]
    simp [inR, h1]
end Go.Proofs.Ytliklgcfdgdigaa.Awp

namespace Go.Proofs.Ytliklgcfdgdigaa.Awp
open Go.Proofs
set_option linter.unusedSimpArgs false
set_option linter.unusedVariables false
set_option maxRecDepth 100000
set_option maxHeartbeats 20000000

/-! ### bytes -/
theorem s_Clone8 (b : Bytes) (hl : b.length < 2 ^ 40) : Spec Try.prog 144 [.ext 1 (bytesR b)] (.own 1 (bytesR b)) [.undef] := by
  refine spec_extv fun a len cap ha => ?_
  cases a with
  | none =>
    obtain rfl : b = [] := by simpa [bytesR] using ha rfl
    refine spec_C hmx p_X_Clone_byte [] 5 [] ⟨Nat.le_of_ble_eq_true rfl, Nat.le_of_ble_eq_true rfl⟩ rfl rfl ?_
    intro w hP hmd hks hQ
    unfold c_X_Clone_byte
    simp +decide (maxSteps := 20000000) (disch := omega) only [↓SBK, ↓SBK2, SX, Nat.reduceEqDiff, Nat.reduceAdd, Nat.reduceMul, Nat.reduceSub, ↓reduceIte, Int.reduceNeg, Int.reduceToNat, Int.reducePow, hmd, hks, hQ]
    rfl
  | some a =>
    refine spec_C hmx p_X_Clone_byte [] 5 [] ⟨Nat.le_of_ble_eq_true rfl, Nat.le_of_ble_eq_true rfl⟩ rfl rfl ?_
    intro w hP hmd hks hQ
    unfold c_X_Clone_byte
    simp +decide (maxSteps := 20000000) (disch := omega) only [↓SBK, ↓SBK2, SX, Nat.reduceEqDiff, Nat.reduceAdd, Nat.reduceMul, Nat.reduceSub, ↓reduceIte, Int.reduceNeg, Int.reduceToNat, Int.reducePow, hmd, hks, hQ]

end Go.Proofs.Ytliklgcfdgdigaa.Awp

namespace Go.Proofs.Ytliklgcfdgdigaa.Awp
open Go.Proofs
set_option linter.unusedSimpArgs false
set_option linter.unusedVariables false
set_option maxRecDepth 100000
set_option maxHeartbeats 20000000

end Go.Proofs.Ytliklgcfdgdigaa.Awp

namespace Go.Proofs.Ytliklgcfdgdigaa.Awp
open Go.Proofs
set_option linter.unusedSimpArgs false
set_option linter.unusedVariables false
set_option maxRecDepth 100000
set_option maxHeartbeats 20000000

theorem eqByteS_self (b : Bytes) (h : b.length < 2 ^ 40) : Spec Try.prog 44 [.ext 1 (bytesR b), .ext 1 (bytesR b)] (.bool true) [.undef, .undef] := by
  have he := s_eqByteS b b h
  rwa [decide_eq_true rfl] at he
end Go.Proofs.Ytliklgcfdgdigaa.Awp

namespace Go.Proofs.Ytliklgcfdgdigaa.Awp
open Go.Proofs
set_option linter.unusedSimpArgs false
set_option linter.unusedVariables false
set_option maxRecDepth 100000
set_option maxHeartbeats 20000000

def pads : List Nat → List (Nat × AV)
  | [] => []
  | k :: l => (k, .undef) :: pads l
theorem getL_pads (l : List (Nat × AV)) (ks : List Nat) (t : Nat) : getL (l ++ pads ks) t = getL l t := by
  induction l with
  | nil =>
    induction ks with
    | nil => rfl
    | cons k ks ih => simp only [List.nil_append, pads, getL] at *; split <;> simp_all
  | cons x l ih => obtain ⟨k, a⟩ := x; simp only [List.cons_append, getL]; rw [ih]
theorem mkV_pads (K : Nat) (l : List (Nat × AV)) (ks : List Nat) : mkV K l [] [] = mkV K (l ++ pads ks) [] [] := by
  unfold mkV
  congr 1
  funext t
  rw [getL_pads]
end Go.Proofs.Ytliklgcfdgdigaa.Awp

namespace Go.Proofs.Ytliklgcfdgdigaa.Awp
open Go.Proofs
set_option linter.unusedSimpArgs false
set_option linter.unusedVariables false
set_option maxRecDepth 100000
set_option maxHeartbeats 20000000

def zPage : Page := { used := false, b := [] }
def zBlock : Block := { pages := List.replicate 8 zPage, wear := 0, bad := false }
def chipNew (n : Int) : Chip := { blocks := if inR n 3 24 = true then List.replicate n.toNat zBlock else [] }
theorem inR_iff (x a b : Int) : inR x a b = true ↔ a ≤ x ∧ x ≤ b := by simp [inR]
end Go.Proofs.Ytliklgcfdgdigaa.Awp

namespace Go.Proofs.Ytliklgcfdgdigaa.Awp
open Go.Proofs
set_option linter.unusedSimpArgs false
set_option linter.unusedVariables false
set_option maxRecDepth 100000
set_option maxHeartbeats 20000000

end Go.Proofs.Ytliklgcfdgdigaa.Awp

namespace Go.Proofs.Ytliklgcfdgdigaa.Awp
open Go.Proofs
set_option linter.unusedSimpArgs false
set_option linter.unusedVariables false
set_option maxRecDepth 100000
set_option maxHeartbeats 20000000

def usedN (l : List Page) : Nat := l.countP (·.used)
theorem usedN_take (l : List Page) (i : Nat) (h : i < l.length) : usedN (l.take (i + 1)) = usedN (l.take i) + if l[i].used then 1 else 0 := by
  unfold usedN
  rw [List.take_succ_eq_append_getElem h, List.countP_append]
  simp [List.countP_cons]
theorem usedN_le (l : List Page) : usedN l ≤ l.length := List.countP_le_length
theorem sS_l10Next (b : Block) (hl : b.sz < 2 ^ 40) : Spec Try.prog 138 [b.x] (.int .i64 (usedN b.pages : Nat)) [.undef] := by
  simp only [Block.sz, szM] at hl
  refine spec_C hmx p_S_l10Next [] 31 [] ⟨Nat.le_of_ble_eq_true rfl, Nat.le_of_ble_eq_true rfl⟩ rfl rfl ?_
  intro w hP hmd hks hQ
  unfold c_S_l10Next
  simp +decide (maxSteps := 20000000) (disch := omega) only [↓SBK, ↓SBK2, SX, Nat.reduceEqDiff, Nat.reduceAdd, Nat.reduceMul, Nat.reduceSub, ↓reduceIte, Int.reduceNeg, Int.reduceToNat, Int.reducePow, hmd, hks, hQ]
  refine loop_i (fun s : Nat × Nat => [(4, .int .i64 (s.1 : Nat)), (3, .int .i64 (s.2 : Nat))]) (fun s => s.1 ≤ b.pages.length ∧ s.2 = usedN (b.pages.take s.1) ∧ s.2 ≤ s.1) (fun s => b.pages.length - s.1) ((0, 0)) hP hmd hks (rfl) (by simp [usedN]) ?_
  rintro ⟨i, n⟩ ⟨g1, g2, g3⟩ w1 hP1 hmd1 hks1 hQ1
  simp +decide (maxSteps := 20000000) (disch := omega) only [↓SBK, ↓SBK2, SX, Nat.reduceEqDiff, Nat.reduceAdd, Nat.reduceMul, Nat.reduceSub, ↓reduceIte, Int.reduceNeg, Int.reduceToNat, Int.reducePow, hmd, hks, hQ, hmd1, hks1, hQ1]
  simp only at g1 g2 g3
  (first | with_reducible refine if_d _ ?_ ?_ | refine if_i _ ?_ ?_) <;> intro h1
  · have u := usedN_take b.pages i (by omega)
    simp +decide (maxSteps := 20000000) (disch := omega) only [↓SBK, ↓SBK2, SX, Nat.reduceEqDiff, Nat.reduceAdd, Nat.reduceMul, Nat.reduceSub, ↓reduceIte, Int.reduceNeg, Int.reduceToNat, Int.reducePow, hmd, hks, hQ, hmd1, hks1, hQ1, getE h1]
    (first | with_reducible refine if_d _ ?_ ?_ | refine if_i _ ?_ ?_) <;> intro h2
    · simp +decide (maxSteps := 20000000) (disch := omega) only [↓SBK, ↓SBK2, SX, Nat.reduceEqDiff, Nat.reduceAdd, Nat.reduceMul, Nat.reduceSub, ↓reduceIte, Int.reduceNeg, Int.reduceToNat, Int.reducePow, hmd, hks, hQ, hmd1, hks1, hQ1]
      exact ⟨(i + 1, n + 1), rfl, ⟨by simp only; omega, by simp only; rw [u, ← g2, if_pos h2], by simp only; omega⟩, by simp only; omega⟩
    · simp +decide (maxSteps := 20000000) (disch := omega) only [↓SBK, ↓SBK2, SX, Nat.reduceEqDiff, Nat.reduceAdd, Nat.reduceMul, Nat.reduceSub, ↓reduceIte, Int.reduceNeg, Int.reduceToNat, Int.reducePow, hmd, hks, hQ, hmd1, hks1, hQ1]
      exact ⟨(i + 1, n), rfl, ⟨by simp only; omega, by simp only; rw [u, ← g2, if_neg (by simp [h2])]; rfl, by simp only; omega⟩, by simp only; omega⟩
  · obtain rfl : i = b.pages.length := by omega
    rw [List.take_length] at g2
    simp +decide (maxSteps := 20000000) (disch := omega) only [↓SBK, ↓SBK2, SX, Nat.reduceEqDiff, Nat.reduceAdd, Nat.reduceMul, Nat.reduceSub, ↓reduceIte, Int.reduceNeg, Int.reduceToNat, Int.reducePow, hmd, hks, hQ, hmd1, hks1, hQ1, g2]
end Go.Proofs.Ytliklgcfdgdigaa.Awp

namespace Go.Proofs.Ytliklgcfdgdigaa.Awp
open Go.Proofs
set_option linter.unusedSimpArgs false
set_option linter.unusedVariables false
set_option maxRecDepth 100000
set_option maxHeartbeats 20000000

theorem s_isBlock (c : Chip) (k : Int) (hl : c.sz < 2 ^ 40) : Spec Try.prog 139 [c.x, .int .i64 k] (.bool (inR k 0 ((c.blocks.length : Nat) - 1))) [.undef, .undef] := by
  simp only [Chip.sz, szM] at hl
  refine spec_C hmx p_I_isBlock [] 23 [] ⟨Nat.le_of_ble_eq_true rfl, Nat.le_of_ble_eq_true rfl⟩ rfl rfl ?_
  intro w hP hmd hks hQ
  unfold c_I_isBlock
  simp +decide (maxSteps := 20000000) (disch := omega) only [↓SBK, ↓SBK2, SX, Nat.reduceEqDiff, Nat.reduceAdd, Nat.reduceMul, Nat.reduceSub, ↓reduceIte, Int.reduceNeg, Int.reduceToNat, Int.reducePow, hmd, hks, hQ]
  (first | refine call_i hP (s_from k 0 ((c.blocks.length : Nat) - 1)) (.inl ⟨rfl, fun _ hx => nomatch hx⟩) ?_ | refine callH_i hP (s_from k 0 ((c.blocks.length : Nat) - 1)) (.inl ⟨rfl, fun _ hx => nomatch hx⟩) ?_)
  simp +decide (maxSteps := 20000000) (disch := omega) only [↓SBK, ↓SBK2, SX, Nat.reduceEqDiff, Nat.reduceAdd, Nat.reduceMul, Nat.reduceSub, ↓reduceIte, Int.reduceNeg, Int.reduceToNat, Int.reducePow, hmd, hks, hQ]
/-- the block of a number, if there is one -/
def blk? (c : Chip) (k : Int) : Option Block := if 0 ≤ k then c.blocks[k.toNat]? else none
theorem blk_some {c : Chip} {k : Int} (h : 0 ≤ k) (h' : k < (c.blocks.length : Nat)) : blk? c k = some (c.blocks[k.toNat]'(by omega)) := by
  rw [blk?, if_pos h, List.getElem?_eq_getElem]
theorem blk_none {c : Chip} {k : Int} (h : ¬ (0 ≤ k ∧ k < (c.blocks.length : Nat))) : blk? c k = none := by
  unfold blk?
  split
  · rw [List.getElem?_eq_none]; omega
  · rfl
def nextPage (c : Chip) (k : Int) : Int := match blk? c k with | some b => (usedN b.pages : Nat) | none => -1
theorem sS_NextPage (c : Chip) (k : Int) (hl : c.sz < 2 ^ 40) : Spec Try.prog 64 [c.x, .int .i64 k] (.int .i64 (nextPage c k)) [.undef, .undef] := by
  simp only [Chip.sz, szM] at hl
  refine spec_C hmx p_S_NextPage [] 23 [] ⟨Nat.le_of_ble_eq_true rfl, Nat.le_of_ble_eq_true rfl⟩ rfl rfl ?_
  intro w hP hmd hks hQ
  unfold c_S_NextPage
  simp +decide (maxSteps := 20000000) (disch := omega) only [↓SBK, ↓SBK2, SX, Nat.reduceEqDiff, Nat.reduceAdd, Nat.reduceMul, Nat.reduceSub, ↓reduceIte, Int.reduceNeg, Int.reduceToNat, Int.reducePow, hmd, hks, hQ]
  (first | with_reducible refine gd_d _ ?_ ?_ | refine gd_i _ ?_ ?_) <;> intro h1
  · simp +decide (maxSteps := 20000000) (disch := omega) only [↓SBK, ↓SBK2, SX, Nat.reduceEqDiff, Nat.reduceAdd, Nat.reduceMul, Nat.reduceSub, ↓reduceIte, Int.reduceNeg, Int.reduceToNat, Int.reducePow, hmd, hks, hQ, h1]
    rw [nextPage, blk_none (by omega)]
  · simp +decide (maxSteps := 20000000) (disch := omega) only [↓SBK, ↓SBK2, SX, Nat.reduceEqDiff, Nat.reduceAdd, Nat.reduceMul, Nat.reduceSub, ↓reduceIte, Int.reduceNeg, Int.reduceToNat, Int.reducePow, hmd, hks, hQ, h1]
    (first | with_reducible refine if_d _ ?_ ?_ | refine if_i _ ?_ ?_) <;> intro h2
    · simp +decide (maxSteps := 20000000) (disch := omega) only [↓SBK, ↓SBK2, SX, Nat.reduceEqDiff, Nat.reduceAdd, Nat.reduceMul, Nat.reduceSub, ↓reduceIte, Int.reduceNeg, Int.reduceToNat, Int.reducePow, hmd, hks, hQ]
      rw [nextPage, blk_none (by omega)]
    · obtain ⟨j, rfl⟩ : ∃ j : Nat, k = j := ⟨k.toNat, by omega⟩
      have hj : (j : Int) < (c.blocks.length : Nat) := by omega
      have hz := sum_get Block.sz (l := c.blocks) (i := j) (by omega)
      simp +decide (maxSteps := 20000000) (disch := omega) only [↓SBK, ↓SBK2, SX, Nat.reduceEqDiff, Nat.reduceAdd, Nat.reduceMul, Nat.reduceSub, ↓reduceIte, Int.reduceNeg, Int.reduceToNat, Int.reducePow, hmd, hks, hQ, getE hj]
      (first | refine call_i hP (sS_l10Next (c.blocks[j]'(by omega)) (by omega)) (.inl ⟨rfl, fun _ hx => nomatch hx⟩) ?_ | refine callH_i hP (sS_l10Next (c.blocks[j]'(by omega)) (by omega)) (.inl ⟨rfl, fun _ hx => nomatch hx⟩) ?_)
      simp +decide (maxSteps := 20000000) (disch := omega) only [↓SBK, ↓SBK2, SX, Nat.reduceEqDiff, Nat.reduceAdd, Nat.reduceMul, Nat.reduceSub, ↓reduceIte, Int.reduceNeg, Int.reduceToNat, Int.reducePow, hmd, hks, hQ]
      rw [nextPage, blk_some (by omega) hj]; rfl
def pg7 : Option Page → List (Nat × AV)
  | none => [(5007, .undef), (7, .undef)]
  | some p => [(5007, .box [.bool p.used, .ext 1 (bytesR p.b)]), (7, .ref 5007 0 [] ⟨0, 0, 0⟩)]
theorem sI_NextPage (c : Chip) (k : Int) (hl : c.sz < 2 ^ 40) : Spec Try.prog 65 [c.x, .int .i64 k] (.int .i64 (nextPage c k)) [.undef, .undef] := by
  have hl' := hl
  simp only [Chip.sz, szM] at hl
  refine spec_C hmx p_I_NextPage [] 917687 [] ⟨Nat.le_of_ble_eq_true rfl, Nat.le_of_ble_eq_true rfl⟩ rfl rfl ?_
  intro w hP hmd hks hQ
  unfold c_I_NextPage
  simp +decide (maxSteps := 20000000) (disch := omega) only [↓SBK, ↓SBK2, SX, Nat.reduceEqDiff, Nat.reduceAdd, Nat.reduceMul, Nat.reduceSub, ↓reduceIte, Int.reduceNeg, Int.reduceToNat, Int.reducePow, hmd, hks, hQ]
  (first | refine call_i hP (s_isBlock c k hl') (.inl ⟨rfl, fun _ hx => nomatch hx⟩) ?_ | refine callH_i hP (s_isBlock c k hl') (.inl ⟨rfl, fun _ hx => nomatch hx⟩) ?_)
  simp +decide (maxSteps := 20000000) (disch := omega) only [↓SBK, ↓SBK2, SX, Nat.reduceEqDiff, Nat.reduceAdd, Nat.reduceMul, Nat.reduceSub, ↓reduceIte, Int.reduceNeg, Int.reduceToNat, Int.reducePow, hmd, hks, hQ]
  (first | with_reducible refine if_d _ ?_ ?_ | refine if_i _ ?_ ?_) <;> intro h1
  · have h1' := (inR_iff _ _ _).1 h1
    obtain ⟨j, rfl⟩ : ∃ j : Nat, k = j := ⟨k.toNat, by omega⟩
    have hj : (j : Int) < (c.blocks.length : Nat) := by omega
    have hz := sum_get Block.sz (l := c.blocks) (i := j) (by omega)
    have hp : (c.blocks[j]'(by omega)).pages.length ≤ (c.blocks[j]'(by omega)).sz := by simp only [Block.sz, szM]; omega
    simp +decide (maxSteps := 20000000) (disch := omega) only [↓SBK, ↓SBK2, SX, Nat.reduceEqDiff, Nat.reduceAdd, Nat.reduceMul, Nat.reduceSub, ↓reduceIte, Int.reduceNeg, Int.reduceToNat, Int.reducePow, hmd, hks, hQ, getE hj]
    generalize hP0 : (c.blocks[j]'(by omega)).pages = P at *
    have hfin : nextPage c (j : Int) = ((usedN P : Nat) : Int) := by rw [nextPage, blk_some (by omega) hj]; simp [hP0]
    rw [mkV_pads _ _ [5007, 7]]
    simp only [pads, List.cons_append, List.nil_append]
    refine loop_i (fun s : Nat × Nat × Option Page => (19, .int .i64 (s.1 : Nat)) :: (5, .int .i64 (s.2.1 : Nat)) :: pg7 s.2.2) (fun s => s.1 ≤ P.length ∧ s.2.1 = usedN (P.take s.1) ∧ s.2.1 ≤ s.1) (fun s => P.length - s.1) ((0, 0, none)) hP hmd hks (rfl) (by simp [usedN]) ?_
    rintro ⟨i, n, _ | pg⟩ ⟨g1, g2, g3⟩ w1 hP1 hmd1 hks1 hQ1
    all_goals
      simp only at g1 g2 g3
      simp +decide (maxSteps := 20000000) (disch := omega) only [↓SBK, ↓SBK2, SX, Nat.reduceEqDiff, Nat.reduceAdd, Nat.reduceMul, Nat.reduceSub, ↓reduceIte, Int.reduceNeg, Int.reduceToNat, Int.reducePow, hmd, hks, hQ, hmd1, hks1, hQ1, pg7]
      (first | with_reducible refine if_d _ ?_ ?_ | refine if_i _ ?_ ?_) <;> intro h2
      · have u := usedN_take P i (by omega)
        simp +decide (maxSteps := 20000000) (disch := omega) only [↓SBK, ↓SBK2, SX, Nat.reduceEqDiff, Nat.reduceAdd, Nat.reduceMul, Nat.reduceSub, ↓reduceIte, Int.reduceNeg, Int.reduceToNat, Int.reducePow, hmd, hks, hQ, hmd1, hks1, hQ1, getE h2, pg7]
        (first | with_reducible refine if_d _ ?_ ?_ | refine if_i _ ?_ ?_) <;> intro h3
        · simp +decide (maxSteps := 20000000) (disch := omega) only [↓SBK, ↓SBK2, SX, Nat.reduceEqDiff, Nat.reduceAdd, Nat.reduceMul, Nat.reduceSub, ↓reduceIte, Int.reduceNeg, Int.reduceToNat, Int.reducePow, hmd, hks, hQ, hmd1, hks1, hQ1, pg7]
          exact ⟨(i + 1, n + 1, some (P[i]'(by omega))), rfl, ⟨by simp only; omega, by simp only; rw [u, ← g2, if_pos h3], by simp only; omega⟩, by simp only; omega⟩
        · simp +decide (maxSteps := 20000000) (disch := omega) only [↓SBK, ↓SBK2, SX, Nat.reduceEqDiff, Nat.reduceAdd, Nat.reduceMul, Nat.reduceSub, ↓reduceIte, Int.reduceNeg, Int.reduceToNat, Int.reducePow, hmd, hks, hQ, hmd1, hks1, hQ1, pg7]
          exact ⟨(i + 1, n, some (P[i]'(by omega))), rfl, ⟨by simp only; omega, by simp only; rw [u, ← g2, if_neg (by simp [h3])]; rfl, by simp only; omega⟩, by simp only; omega⟩
      · obtain rfl : i = P.length := by omega
        rw [List.take_length] at g2
        simp +decide (maxSteps := 20000000) (disch := omega) only [↓SBK, ↓SBK2, SX, Nat.reduceEqDiff, Nat.reduceAdd, Nat.reduceMul, Nat.reduceSub, ↓reduceIte, Int.reduceNeg, Int.reduceToNat, Int.reducePow, hmd, hks, hQ, hmd1, hks1, hQ1, pg7, g2, hfin]
  · simp only [h1, Bool.not_true, Bool.not_false]
    simp +decide (maxSteps := 20000000) (disch := omega) only [↓SBK, ↓SBK2, SX, Nat.reduceEqDiff, Nat.reduceAdd, Nat.reduceMul, Nat.reduceSub, ↓reduceIte, Int.reduceNeg, Int.reduceToNat, Int.reducePow, hmd, hks, hQ]
    rw [nextPage, blk_none (fun h => by have := (inR_iff k 0 ((c.blocks.length : Nat) - 1)).2 (by omega); rw [h1] at this; cases this)]

end Go.Proofs.Ytliklgcfdgdigaa.Awp

namespace Go.Proofs.Ytliklgcfdgdigaa.Awp
open Go.Proofs
set_option linter.unusedSimpArgs false
set_option linter.unusedVariables false
set_option maxRecDepth 100000
set_option maxHeartbeats 20000000

/-- a page is right where it stands -/
def okP (P : List Page) (i : Nat) : Prop := ∀ p, P[i]? = some p → p.b.length ≤ 400 ∧ (p.used = false → p.b.length = 0) ∧ (0 < i → p.used = true → ∃ q, P[i - 1]? = some q ∧ q.used = true)
def okB (b : Block) : Prop := b.pages.length = 8 ∧ inR b.wear 0 100000 = true ∧ ∀ i, i < b.pages.length → okP b.pages i
def okC (c : Chip) : Prop := (∀ b ∈ c.blocks, okB b) ∧ inR (c.blocks.length : Nat) 3 24 = true
open Classical in
noncomputable def blkOk (b : Block) : Bool := decide (okB b)
open Classical in
noncomputable def chipOk (c : Chip) : Bool := decide (okC c)
theorem blkOk_t {b : Block} (h : okB b) : blkOk b = true := by simp [blkOk, h]
theorem blkOk_f {b : Block} (h : ¬ okB b) : blkOk b = false := by simp [blkOk, h]
theorem chipOk_t {c : Chip} (h : okC c) : chipOk c = true := by simp [chipOk, h]
theorem chipOk_f {c : Chip} (h : ¬ okC c) : chipOk c = false := by simp [chipOk, h]
theorem blkOk_iff {b : Block} : blkOk b = true ↔ okB b := by simp [blkOk]
/-- the ways of a page -/
theorem okP_ways (P : List Page) (i : Nat) (h : i < P.length) :
    (400 < (P[i].b.length : Int) ∧ ¬ okP P i) ∨
    (¬ 400 < (P[i].b.length : Int) ∧ P[i].used = false ∧ 0 < (P[i].b.length : Int) ∧ ¬ okP P i) ∨
    (¬ 400 < (P[i].b.length : Int) ∧ P[i].used = false ∧ ¬ 0 < (P[i].b.length : Int) ∧ okP P i) ∨
    (¬ 400 < (P[i].b.length : Int) ∧ P[i].used = true ∧ i = 0 ∧ okP P i) ∨
    (¬ 400 < (P[i].b.length : Int) ∧ P[i].used = true ∧ ∃ m, ∃ (e : i = m + 1), (P[m]'(by omega)).used = true ∧ okP P i) ∨
    (¬ 400 < (P[i].b.length : Int) ∧ P[i].used = true ∧ ∃ m, ∃ (e : i = m + 1), (P[m]'(by omega)).used = false ∧ ¬ okP P i) := by
  have e : P[i]? = some P[i] := List.getElem?_eq_getElem h
  have key : okP P i ↔ P[i].b.length ≤ 400 ∧ (P[i].used = false → P[i].b.length = 0) ∧ (0 < i → P[i].used = true → ∃ q, P[i - 1]? = some q ∧ q.used = true) := by
    constructor
    · intro hk; exact hk _ e
    · intro hk p hp; rw [e] at hp; cases hp; exact hk
  by_cases h1 : 400 < (P[i].b.length : Int)
  · exact .inl ⟨h1, fun hk => by have := (key.1 hk).1; omega⟩
  · right
    cases hu : P[i].used with
    | false =>
      by_cases h2 : 0 < (P[i].b.length : Int)
      · exact .inl ⟨h1, rfl, h2, fun hk => by have := (key.1 hk).2.1 hu; omega⟩
      · exact .inr (.inl ⟨h1, rfl, h2, key.2 ⟨by omega, fun _ => by omega, fun _ h => by rw [hu] at h; cases h⟩⟩)
    | true =>
      right; right
      cases i with
      | zero => exact .inl ⟨h1, rfl, rfl, key.2 ⟨by omega, fun h => (by rw [hu] at h; cases h), fun h => by omega⟩⟩
      | succ m =>
        right
        cases hq : (P[m]'(by omega)).used with
        | true => exact .inl ⟨h1, rfl, m, rfl, hq, key.2 ⟨by omega, fun h => (by rw [hu] at h; cases h), fun _ _ => ⟨P[m]'(by omega), by simp [List.getElem?_eq_getElem (show m < P.length by omega)], hq⟩⟩⟩
        | false =>
          refine .inr ⟨h1, rfl, m, rfl, hq, fun hk => ?_⟩
          obtain ⟨q, e1, e2⟩ := (key.1 hk).2.2 (by omega) hu
          simp only [Nat.add_sub_cancel] at e1
          rw [List.getElem?_eq_getElem (show m < P.length by omega)] at e1
          cases e1
          rw [hq] at e2; cases e2
def pg4 : Option Page → List (Nat × AV)
  | none => [(5004, .undef), (4, .undef)]
  | some p => [(5004, .box [.bool p.used, .ext 1 (bytesR p.b)]), (4, .ref 5004 0 [] ⟨0, 0, 0⟩)]
theorem okP_step {P : List Page} {i : Nat} (g : ∀ k, k < i → okP P k) (h : okP P i) : ∀ k, k < i + 1 → okP P k := by
  intro k hk
  by_cases e : k = i
  · subst e; exact h
  · exact g k (by omega)
theorem cast_pred (m : Nat) : ((m + 1 : Nat) : Int) - 1 = (m : Int) := by omega
theorem sS_l10Block (b : Block) (hf : b.fine) : Spec Try.prog 140 [b.x] (.bool (blkOk b)) [.undef] := by
  simp only [Block.fine] at hf
  obtain ⟨f1, f2⟩ := hf
  refine spec_C hmx p_S_l10Block [] 31 [] ⟨Nat.le_of_ble_eq_true rfl, Nat.le_of_ble_eq_true rfl⟩ rfl rfl ?_
  intro w hP hmd hks hQ
  unfold c_S_l10Block
  simp +decide (maxSteps := 20000000) (disch := omega) only [↓SBK, ↓SBK2, SX, Nat.reduceEqDiff, Nat.reduceAdd, Nat.reduceMul, Nat.reduceSub, ↓reduceIte, Int.reduceNeg, Int.reduceToNat, Int.reducePow, hmd, hks, hQ]
  (first | with_reducible refine gd_d _ ?_ ?_ | refine gd_i _ ?_ ?_) <;> intro h1
  · simp +decide (maxSteps := 20000000) (disch := omega) only [↓SBK, ↓SBK2, SX, Nat.reduceEqDiff, Nat.reduceAdd, Nat.reduceMul, Nat.reduceSub, ↓reduceIte, Int.reduceNeg, Int.reduceToNat, Int.reducePow, hmd, hks, hQ, h1]
    (first | refine call_i hP (s_l1In b.wear 0 100000) (.inl ⟨rfl, fun _ hx => nomatch hx⟩) ?_ | refine callH_i hP (s_l1In b.wear 0 100000) (.inl ⟨rfl, fun _ hx => nomatch hx⟩) ?_)
    simp +decide (maxSteps := 20000000) (disch := omega) only [↓SBK, ↓SBK2, SX, Nat.reduceEqDiff, Nat.reduceAdd, Nat.reduceMul, Nat.reduceSub, ↓reduceIte, Int.reduceNeg, Int.reduceToNat, Int.reducePow, hmd, hks, hQ, h1]
    (first | with_reducible refine if_d _ ?_ ?_ | refine if_i _ ?_ ?_) <;> intro h2
    · simp only [h2, Bool.not_true, Bool.not_false]
      simp +decide (maxSteps := 20000000) (disch := omega) only [↓SBK, ↓SBK2, SX, Nat.reduceEqDiff, Nat.reduceAdd, Nat.reduceMul, Nat.reduceSub, ↓reduceIte, Int.reduceNeg, Int.reduceToNat, Int.reducePow, hmd, hks, hQ]
      generalize hP0 : b.pages = P at *
      rw [mkV_pads _ _ [5004, 4]]
      simp only [pads, List.cons_append, List.nil_append]
      refine loop_i (fun s : Nat × Option Page => (3, .int .i64 (s.1 : Nat)) :: pg4 s.2) (fun s => s.1 ≤ P.length ∧ ∀ k, k < s.1 → okP P k) (fun s => P.length - s.1) ((0, none)) hP hmd hks (rfl) (by simp) ?_
      rintro ⟨i, _ | pg⟩ ⟨g1, g2⟩ w1 hP1 hmd1 hks1 hQ1
      all_goals
        simp only at g1 g2
        simp +decide (maxSteps := 20000000) (disch := omega) only [↓SBK, ↓SBK2, SX, Nat.reduceEqDiff, Nat.reduceAdd, Nat.reduceMul, Nat.reduceSub, ↓reduceIte, Int.reduceNeg, Int.reduceToNat, Int.reducePow, hmd, hks, hQ, hmd1, hks1, hQ1, pg4, hP0]
        (first | with_reducible refine if_d _ ?_ ?_ | refine if_i _ ?_ ?_) <;> intro h3
        · rcases okP_ways P i (by omega) with ⟨w1, hk⟩ | ⟨w1, w2, w3, hk⟩ | ⟨w1, w2, w3, hk⟩ | ⟨w1, w2, rfl, hk⟩ | ⟨w1, w2, m, rfl, w3, hk⟩ | ⟨w1, w2, m, rfl, w3, hk⟩
          · simp +decide (maxSteps := 20000000) (disch := omega) only [↓SBK, ↓SBK2, SX, Nat.reduceEqDiff, Nat.reduceAdd, Nat.reduceMul, Nat.reduceSub, ↓reduceIte, Int.reduceNeg, Int.reduceToNat, Int.reducePow, hmd, hks, hQ, hmd1, hks1, hQ1, getE h3, pg4, hP0, w1]
            rw [blkOk_f (fun h => hk (by have := h.2.2 i (by rw [hP0]; omega); rwa [hP0] at this))]
          · simp +decide (maxSteps := 20000000) (disch := omega) only [↓SBK, ↓SBK2, SX, Nat.reduceEqDiff, Nat.reduceAdd, Nat.reduceMul, Nat.reduceSub, ↓reduceIte, Int.reduceNeg, Int.reduceToNat, Int.reducePow, hmd, hks, hQ, hmd1, hks1, hQ1, getE h3, pg4, hP0, w1, w2, w3]
            rw [blkOk_f (fun h => hk (by have := h.2.2 i (by rw [hP0]; omega); rwa [hP0] at this))]
          · by_cases w4 : (0 : Int) < (i : Nat)
            · simp +decide (maxSteps := 20000000) (disch := omega) only [↓SBK, ↓SBK2, SX, Nat.reduceEqDiff, Nat.reduceAdd, Nat.reduceMul, Nat.reduceSub, ↓reduceIte, Int.reduceNeg, Int.reduceToNat, Int.reducePow, hmd, hks, hQ, hmd1, hks1, hQ1, getE h3, pg4, hP0, w1, w2, w3, w4]
              exact ⟨(i + 1, some ⟨false, (P[i]'(by omega)).b⟩), rfl, ⟨by simp only; omega, okP_step g2 hk⟩, by simp only; omega⟩
            · simp +decide (maxSteps := 20000000) (disch := omega) only [↓SBK, ↓SBK2, SX, Nat.reduceEqDiff, Nat.reduceAdd, Nat.reduceMul, Nat.reduceSub, ↓reduceIte, Int.reduceNeg, Int.reduceToNat, Int.reducePow, hmd, hks, hQ, hmd1, hks1, hQ1, getE h3, pg4, hP0, w1, w2, w3, w4]
              exact ⟨(i + 1, some ⟨false, (P[i]'(by omega)).b⟩), rfl, ⟨by simp only; omega, okP_step g2 hk⟩, by simp only; omega⟩
          · simp +decide (maxSteps := 20000000) (disch := omega) only [↓SBK, ↓SBK2, SX, Nat.reduceEqDiff, Nat.reduceAdd, Nat.reduceMul, Nat.reduceSub, ↓reduceIte, Int.reduceNeg, Int.reduceToNat, Int.reducePow, hmd, hks, hQ, hmd1, hks1, hQ1, getE h3, pg4, hP0, w1, w2]
            exact ⟨(0 + 1, some ⟨true, (P[0]'(by omega)).b⟩), rfl, ⟨by simp only; omega, okP_step g2 hk⟩, by simp only; omega⟩
          · have w4 : (0 : Int) < ((m + 1 : Nat) : Int) := by omega
            simp +decide (maxSteps := 20000000) (disch := omega) only [↓SBK, ↓SBK2, SX, Nat.reduceEqDiff, Nat.reduceAdd, Nat.reduceMul, Nat.reduceSub, ↓reduceIte, Int.reduceNeg, Int.reduceToNat, Int.reducePow, hmd, hks, hQ, hmd1, hks1, hQ1, getE h3, pg4, hP0, w1, w2, w3, w4, cast_pred, getE (show ((m : Nat) : Int) < (P.length : Nat) by omega)]
            exact ⟨(m + 1 + 1, some ⟨true, (P[m + 1]'(by omega)).b⟩), rfl, ⟨by simp only; omega, okP_step g2 hk⟩, by simp only; omega⟩
          · have w4 : (0 : Int) < ((m + 1 : Nat) : Int) := by omega
            simp +decide (maxSteps := 20000000) (disch := omega) only [↓SBK, ↓SBK2, SX, Nat.reduceEqDiff, Nat.reduceAdd, Nat.reduceMul, Nat.reduceSub, ↓reduceIte, Int.reduceNeg, Int.reduceToNat, Int.reducePow, hmd, hks, hQ, hmd1, hks1, hQ1, getE h3, pg4, hP0, w1, w2, w3, w4, cast_pred, getE (show ((m : Nat) : Int) < (P.length : Nat) by omega)]
            rw [blkOk_f (fun h => hk (by have := h.2.2 (m + 1) (by rw [hP0]; omega); rwa [hP0] at this))]
        · obtain rfl : i = P.length := by omega
          simp +decide (maxSteps := 20000000) (disch := omega) only [↓SBK, ↓SBK2, SX, Nat.reduceEqDiff, Nat.reduceAdd, Nat.reduceMul, Nat.reduceSub, ↓reduceIte, Int.reduceNeg, Int.reduceToNat, Int.reducePow, hmd, hks, hQ, hmd1, hks1, hQ1, pg4, hP0]
          rw [blkOk_t ⟨by rw [hP0]; omega, h2, by rw [hP0]; exact g2⟩]
    · simp only [h2, Bool.not_true, Bool.not_false]
      simp +decide (maxSteps := 20000000) (disch := omega) only [↓SBK, ↓SBK2, SX, Nat.reduceEqDiff, Nat.reduceAdd, Nat.reduceMul, Nat.reduceSub, ↓reduceIte, Int.reduceNeg, Int.reduceToNat, Int.reducePow, hmd, hks, hQ]
      rw [blkOk_f (fun h => by rw [h.2.1] at h2; cases h2)]
  · simp +decide (maxSteps := 20000000) (disch := omega) only [↓SBK, ↓SBK2, SX, Nat.reduceEqDiff, Nat.reduceAdd, Nat.reduceMul, Nat.reduceSub, ↓reduceIte, Int.reduceNeg, Int.reduceToNat, Int.reducePow, hmd, hks, hQ, h1]
    rw [blkOk_f (fun h => h1 (by rw [h.1]; rfl))]
end Go.Proofs.Ytliklgcfdgdigaa.Awp

namespace Go.Proofs.Ytliklgcfdgdigaa.Awp
open Go.Proofs
set_option linter.unusedSimpArgs false
set_option linter.unusedVariables false
set_option maxRecDepth 100000
set_option maxHeartbeats 20000000

theorem okC_mem {c : Chip} (g : ∀ k, (h : k < c.blocks.length) → okB c.blocks[k]) : ∀ b ∈ c.blocks, okB b := by
  intro b hb
  obtain ⟨k, hk, rfl⟩ := List.getElem_of_mem hb
  exact g k hk
theorem chip_fine {c : Chip} (hf : c.fine) {i : Nat} (h : i < c.blocks.length) : (c.blocks[i]).fine := by
  simp only [Chip.fine] at hf
  exact hf.2 _ (List.getElem_mem h)
theorem chip_len {c : Chip} (hf : c.fine) : c.blocks.length < 2 ^ 48 := by
  simp only [Chip.fine] at hf
  exact hf.1
theorem sS_ChipOk (c : Chip) (hf : c.fine) : Spec Try.prog 66 [c.x] (.bool (chipOk c)) [.undef] := by
  have hl := chip_len hf
  refine spec_C hmx p_S_ChipOk [] 15 [] ⟨Nat.le_of_ble_eq_true rfl, Nat.le_of_ble_eq_true rfl⟩ rfl rfl ?_
  intro w hP hmd hks hQ
  unfold c_S_ChipOk
  simp +decide (maxSteps := 20000000) (disch := omega) only [↓SBK, ↓SBK2, SX, Nat.reduceEqDiff, Nat.reduceAdd, Nat.reduceMul, Nat.reduceSub, ↓reduceIte, Int.reduceNeg, Int.reduceToNat, Int.reducePow, hmd, hks, hQ]
  refine loop_i (fun i : Nat => [(3, .int .i64 i)]) (fun i => i ≤ c.blocks.length ∧ ∀ k, k < i → (h : k < c.blocks.length) → okB c.blocks[k]) (fun i => c.blocks.length - i) (0) hP hmd hks (rfl) (by simp) ?_
  rintro i ⟨g1, g2⟩ w1 hP1 hmd1 hks1 hQ1
  simp +decide (maxSteps := 20000000) (disch := omega) only [↓SBK, ↓SBK2, SX, Nat.reduceEqDiff, Nat.reduceAdd, Nat.reduceMul, Nat.reduceSub, ↓reduceIte, Int.reduceNeg, Int.reduceToNat, Int.reducePow, hmd, hks, hQ, hmd1, hks1, hQ1]
  (first | with_reducible refine if_d _ ?_ ?_ | refine if_i _ ?_ ?_) <;> intro h1
  · simp +decide (maxSteps := 20000000) (disch := omega) only [↓SBK, ↓SBK2, SX, Nat.reduceEqDiff, Nat.reduceAdd, Nat.reduceMul, Nat.reduceSub, ↓reduceIte, Int.reduceNeg, Int.reduceToNat, Int.reducePow, hmd, hks, hQ, hmd1, hks1, hQ1, getE h1]
    (first | refine call_i hP1 (sS_l10Block (c.blocks[i]'(by omega)) (chip_fine hf (by omega))) (.inl ⟨rfl, fun _ hx => nomatch hx⟩) ?_ | refine callH_i hP1 (sS_l10Block (c.blocks[i]'(by omega)) (chip_fine hf (by omega))) (.inl ⟨rfl, fun _ hx => nomatch hx⟩) ?_)
    simp +decide (maxSteps := 20000000) (disch := omega) only [↓SBK, ↓SBK2, SX, Nat.reduceEqDiff, Nat.reduceAdd, Nat.reduceMul, Nat.reduceSub, ↓reduceIte, Int.reduceNeg, Int.reduceToNat, Int.reducePow, hmd, hks, hQ, hmd1, hks1, hQ1]
    (first | with_reducible refine if_d _ ?_ ?_ | refine if_i _ ?_ ?_) <;> intro h2
    · simp only [h2, Bool.not_true, Bool.not_false]
      simp +decide (maxSteps := 20000000) (disch := omega) only [↓SBK, ↓SBK2, SX, Nat.reduceEqDiff, Nat.reduceAdd, Nat.reduceMul, Nat.reduceSub, ↓reduceIte, Int.reduceNeg, Int.reduceToNat, Int.reducePow, hmd, hks, hQ, hmd1, hks1, hQ1]
      refine ⟨i + 1, rfl, ⟨by omega, ?_⟩, by omega⟩
      intro k hk hkl
      by_cases e : k = i
      · subst e; exact blkOk_iff.1 h2
      · exact g2 k (by omega) hkl
    · simp only [h2, Bool.not_true, Bool.not_false]
      simp +decide (maxSteps := 20000000) (disch := omega) only [↓SBK, ↓SBK2, SX, Nat.reduceEqDiff, Nat.reduceAdd, Nat.reduceMul, Nat.reduceSub, ↓reduceIte, Int.reduceNeg, Int.reduceToNat, Int.reducePow, hmd, hks, hQ, hmd1, hks1, hQ1]
      rw [chipOk_f (fun h => by rw [blkOk_t (h.1 _ (List.getElem_mem (by omega)))] at h2; cases h2)]
  · obtain rfl : i = c.blocks.length := by omega
    simp +decide (maxSteps := 20000000) (disch := omega) only [↓SBK, ↓SBK2, SX, Nat.reduceEqDiff, Nat.reduceAdd, Nat.reduceMul, Nat.reduceSub, ↓reduceIte, Int.reduceNeg, Int.reduceToNat, Int.reducePow, hmd, hks, hQ, hmd1, hks1, hQ1]
    (first | refine call_i hP (s_l1In (c.blocks.length : Nat) 3 24) (.inl ⟨rfl, fun _ hx => nomatch hx⟩) ?_ | refine callH_i hP (s_l1In (c.blocks.length : Nat) 3 24) (.inl ⟨rfl, fun _ hx => nomatch hx⟩) ?_)
    simp +decide (maxSteps := 20000000) (disch := omega) only [↓SBK, ↓SBK2, SX, Nat.reduceEqDiff, Nat.reduceAdd, Nat.reduceMul, Nat.reduceSub, ↓reduceIte, Int.reduceNeg, Int.reduceToNat, Int.reducePow, hmd, hks, hQ]
    by_cases h3 : inR (c.blocks.length : Nat) 3 24 = true
    · rw [chipOk_t ⟨okC_mem fun k hk => g2 k hk hk, h3⟩, h3]
    · rw [chipOk_f fun h => h3 h.2]; simp at h3; rw [h3]
def ij : Option (Page × Int) → List (Nat × AV)
  | none => [(5006, .undef), (6, .undef), (5, .undef)]
  | some (p, k) => [(5006, .box [.bool p.used, .ext 1 (bytesR p.b)]), (6, .ref 5006 0 [] ⟨0, 0, 0⟩), (5, .int .i64 k)]
def cj : Option (Block × Page × Int) → List (Nat × AV)
  | none => [(5004, .undef), (4, .undef), (25, .undef), (26, .undef), (27, .undef), (5006, .undef), (6, .undef), (5, .undef)]
  | some (b, p, k) => [(5004, .box [.ext 2 (b.pages.map Page.row), .int .i64 b.wear, .bool b.bad]), (4, .ref 5004 0 [] ⟨0, 0, 0⟩), (25, .ext 2 (b.pages.map Page.row)), (26, .int .i64 (b.pages.length : Nat)),
    (27, .int .i64 (b.pages.length : Nat)), (5006, .box [.bool p.used, .ext 1 (bytesR p.b)]), (6, .ref 5006 0 [] ⟨0, 0, 0⟩), (5, .int .i64 k)]
theorem sI_ChipOk (c : Chip) (hf : c.fine) : Spec Try.prog 67 [c.x] (.bool (chipOk c)) [.undef] := by
  have hl := chip_len hf
  refine spec_C hmx p_I_ChipOk [] 234882935 [] ⟨Nat.le_of_ble_eq_true rfl, Nat.le_of_ble_eq_true rfl⟩ rfl rfl ?_
  intro w hP hmd hks hQ
  unfold c_I_ChipOk
  simp +decide (maxSteps := 20000000) (disch := omega) only [↓SBK, ↓SBK2, SX, Nat.reduceEqDiff, Nat.reduceAdd, Nat.reduceMul, Nat.reduceSub, ↓reduceIte, Int.reduceNeg, Int.reduceToNat, Int.reducePow, hmd, hks, hQ]
  rw [mkV_pads _ _ [5004, 4, 25, 26, 27, 5006, 6, 5]]
  simp only [pads, List.cons_append, List.nil_append]
  refine loop_i (fun s : Nat × Option (Block × Page × Int) => (10, .int .i64 (s.1 : Nat)) :: cj s.2) (fun s => s.1 ≤ c.blocks.length ∧ ∀ k, k < s.1 → (h : k < c.blocks.length) → okB c.blocks[k]) (fun s => c.blocks.length - s.1) ((0, none)) hP hmd hks (rfl) (by simp) ?_
  rintro ⟨i, _ | ⟨jb, jp, jk⟩⟩ ⟨g1, g2⟩ w1 hP1 hmd1 hks1 hQ1
  ·
    simp only at g1 g2
    simp +decide (maxSteps := 20000000) (disch := omega) only [↓SBK, ↓SBK2, SX, Nat.reduceEqDiff, Nat.reduceAdd, Nat.reduceMul, Nat.reduceSub, ↓reduceIte, Int.reduceNeg, Int.reduceToNat, Int.reducePow, hmd, hks, hQ, hmd1, hks1, hQ1, cj]
    (first | with_reducible refine if_d _ ?_ ?_ | refine if_i _ ?_ ?_) <;> intro h1
    · simp +decide (maxSteps := 20000000) (disch := omega) only [↓SBK, ↓SBK2, SX, Nat.reduceEqDiff, Nat.reduceAdd, Nat.reduceMul, Nat.reduceSub, ↓reduceIte, Int.reduceNeg, Int.reduceToNat, Int.reducePow, hmd, hks, hQ, hmd1, hks1, hQ1, getE h1, cj]
      have hbf := chip_fine hf (i := i) (by omega)
      have hbm : c.blocks[i]'(by omega) ∈ c.blocks := List.getElem_mem _
      generalize hB : (c.blocks[i]'(by omega)) = B at *
      simp only [Block.fine] at hbf
      obtain ⟨f1, f2⟩ := hbf
      (first | with_reducible refine gd_d _ ?_ ?_ | refine gd_i _ ?_ ?_) <;> intro h2
      · have h2d : decide (((B.pages.length : Nat) : Int) = 8) = true := decide_eq_true h2
        simp +decide (maxSteps := 20000000) (disch := omega) only [↓SBK, ↓SBK2, SX, Nat.reduceEqDiff, Nat.reduceAdd, Nat.reduceMul, Nat.reduceSub, ↓reduceIte, Int.reduceNeg, Int.reduceToNat, Int.reducePow, hmd, hks, hQ, hmd1, hks1, hQ1, h2d]
        (first | refine call_i hP1 (s_from B.wear 0 100000) (.inl ⟨rfl, fun _ hx => nomatch hx⟩) ?_ | refine callH_i hP1 (s_from B.wear 0 100000) (.inl ⟨rfl, fun _ hx => nomatch hx⟩) ?_)
        simp +decide (maxSteps := 20000000) (disch := omega) only [↓SBK, ↓SBK2, SX, Nat.reduceEqDiff, Nat.reduceAdd, Nat.reduceMul, Nat.reduceSub, ↓reduceIte, Int.reduceNeg, Int.reduceToNat, Int.reducePow, hmd, hks, hQ, hmd1, hks1, hQ1, h2d]
        (first | with_reducible refine if_d _ ?_ ?_ | refine if_i _ ?_ ?_) <;> intro h3
        · simp only [h3, Bool.not_true, Bool.not_false]
          simp +decide (maxSteps := 20000000) (disch := omega) only [↓SBK, ↓SBK2, SX, Nat.reduceEqDiff, Nat.reduceAdd, Nat.reduceMul, Nat.reduceSub, ↓reduceIte, Int.reduceNeg, Int.reduceToNat, Int.reducePow, hmd, hks, hQ, hmd1, hks1, hQ1]
          refine loop_i (fun s : Nat × Option (Page × Int) => (27, .int .i64 (s.1 : Nat)) :: ij s.2) (fun s => s.1 ≤ B.pages.length ∧ (∀ k, k < s.1 → okP B.pages k) ∧ (0 < s.1 → s.2 ≠ none)) (fun s => B.pages.length - s.1) ((0, none)) hP1 hmd1 hks1 (rfl) (by simp) ?_
          rintro ⟨j, _ | ⟨qp, qk⟩⟩ ⟨k1, k2, k3⟩ w2 hP2 hmd2 hks2 hQ2
          all_goals
            simp only at k1 k2 k3
            simp +decide (maxSteps := 20000000) (disch := omega) only [↓SBK, ↓SBK2, SX, Nat.reduceEqDiff, Nat.reduceAdd, Nat.reduceMul, Nat.reduceSub, ↓reduceIte, Int.reduceNeg, Int.reduceToNat, Int.reducePow, hmd, hks, hQ, hmd1, hks1, hQ1, hmd2, hks2, hQ2, ij]
            (first | with_reducible refine if_d _ ?_ ?_ | refine if_i _ ?_ ?_) <;> intro h4
            · rcases okP_ways B.pages j (by omega) with ⟨w1, hk⟩ | ⟨w1, w2, w3, hk⟩ | ⟨w1, w2, w3, hk⟩ | ⟨w1, w2, rfl, hk⟩ | ⟨w1, w2, m, rfl, w3, hk⟩ | ⟨w1, w2, m, rfl, w3, hk⟩
              · simp +decide (maxSteps := 20000000) (disch := omega) only [↓SBK, ↓SBK2, SX, Nat.reduceEqDiff, Nat.reduceAdd, Nat.reduceMul, Nat.reduceSub, ↓reduceIte, Int.reduceNeg, Int.reduceToNat, Int.reducePow, hmd, hks, hQ, hmd1, hks1, hQ1, hmd2, hks2, hQ2, getE h4, ij, w1]
                rw [chipOk_f (fun h => hk ((h.1 B hbm).2.2 j (by omega)))]
              · simp +decide (maxSteps := 20000000) (disch := omega) only [↓SBK, ↓SBK2, SX, Nat.reduceEqDiff, Nat.reduceAdd, Nat.reduceMul, Nat.reduceSub, ↓reduceIte, Int.reduceNeg, Int.reduceToNat, Int.reducePow, hmd, hks, hQ, hmd1, hks1, hQ1, hmd2, hks2, hQ2, getE h4, ij, w1, w2, w3]
                rw [chipOk_f (fun h => hk ((h.1 B hbm).2.2 j (by omega)))]
              · by_cases w4 : (0 : Int) < (j : Nat)
                · simp +decide (maxSteps := 20000000) (disch := omega) only [↓SBK, ↓SBK2, SX, Nat.reduceEqDiff, Nat.reduceAdd, Nat.reduceMul, Nat.reduceSub, ↓reduceIte, Int.reduceNeg, Int.reduceToNat, Int.reducePow, hmd, hks, hQ, hmd1, hks1, hQ1, hmd2, hks2, hQ2, getE h4, ij, w1, w2, w3, w4]
                  exact ⟨(j + 1, some (⟨false, (B.pages[j]'(by omega)).b⟩, (j : Int))), rfl, ⟨by simp only; omega, okP_step k2 hk, by simp⟩, by simp only; omega⟩
                · simp +decide (maxSteps := 20000000) (disch := omega) only [↓SBK, ↓SBK2, SX, Nat.reduceEqDiff, Nat.reduceAdd, Nat.reduceMul, Nat.reduceSub, ↓reduceIte, Int.reduceNeg, Int.reduceToNat, Int.reducePow, hmd, hks, hQ, hmd1, hks1, hQ1, hmd2, hks2, hQ2, getE h4, ij, w1, w2, w3, w4]
                  exact ⟨(j + 1, some (⟨false, (B.pages[j]'(by omega)).b⟩, (j : Int))), rfl, ⟨by simp only; omega, okP_step k2 hk, by simp⟩, by simp only; omega⟩
              · simp +decide (maxSteps := 20000000) (disch := omega) only [↓SBK, ↓SBK2, SX, Nat.reduceEqDiff, Nat.reduceAdd, Nat.reduceMul, Nat.reduceSub, ↓reduceIte, Int.reduceNeg, Int.reduceToNat, Int.reducePow, hmd, hks, hQ, hmd1, hks1, hQ1, hmd2, hks2, hQ2, getE h4, ij, w1, w2]
                exact ⟨(0 + 1, some (⟨true, (B.pages[0]'(by omega)).b⟩, ((0 : Nat) : Int))), rfl, ⟨by simp only; omega, okP_step k2 hk, by simp⟩, by simp only; omega⟩
              · have w4 : (0 : Int) < ((m + 1 : Nat) : Int) := by omega
                simp +decide (maxSteps := 20000000) (disch := omega) only [↓SBK, ↓SBK2, SX, Nat.reduceEqDiff, Nat.reduceAdd, Nat.reduceMul, Nat.reduceSub, ↓reduceIte, Int.reduceNeg, Int.reduceToNat, Int.reducePow, hmd, hks, hQ, hmd1, hks1, hQ1, hmd2, hks2, hQ2, getE h4, ij, w1, w2, w3, w4, cast_pred, getE (show ((m : Nat) : Int) < (B.pages.length : Nat) by omega)]
                exact ⟨(m + 1 + 1, some (⟨true, (B.pages[m + 1]'(by omega)).b⟩, ((m + 1 : Nat) : Int))), rfl, ⟨by simp only; omega, okP_step k2 hk, by simp⟩, by simp only; omega⟩
              · have w4 : (0 : Int) < ((m + 1 : Nat) : Int) := by omega
                simp +decide (maxSteps := 20000000) (disch := omega) only [↓SBK, ↓SBK2, SX, Nat.reduceEqDiff, Nat.reduceAdd, Nat.reduceMul, Nat.reduceSub, ↓reduceIte, Int.reduceNeg, Int.reduceToNat, Int.reducePow, hmd, hks, hQ, hmd1, hks1, hQ1, hmd2, hks2, hQ2, getE h4, ij, w1, w2, w3, w4, cast_pred, getE (show ((m : Nat) : Int) < (B.pages.length : Nat) by omega)]
                rw [chipOk_f (fun h => hk ((h.1 B hbm).2.2 (m + 1) (by omega)))]
            · obtain rfl : j = B.pages.length := by omega
              first
                | exact absurd rfl (k3 (by omega))
                | simp +decide (maxSteps := 20000000) (disch := omega) only [↓SBK, ↓SBK2, SX, Nat.reduceEqDiff, Nat.reduceAdd, Nat.reduceMul, Nat.reduceSub, ↓reduceIte, Int.reduceNeg, Int.reduceToNat, Int.reducePow, hmd, hks, hQ, hmd1, hks1, hQ1, hmd2, hks2, hQ2, ij]
                  refine ⟨(i + 1, some (B, qp, qk)), rfl, ⟨by simp only; omega, ?_⟩, by simp only; omega⟩
                  intro k hkk hkl
                  simp only at hkk
                  by_cases e : k = i
                  · subst e; rw [hB]; exact ⟨by omega, h3, k2⟩
                  · exact g2 k (by omega) hkl
        · simp only [h3, Bool.not_true, Bool.not_false]
          simp +decide (maxSteps := 20000000) (disch := omega) only [↓SBK, ↓SBK2, SX, Nat.reduceEqDiff, Nat.reduceAdd, Nat.reduceMul, Nat.reduceSub, ↓reduceIte, Int.reduceNeg, Int.reduceToNat, Int.reducePow, hmd, hks, hQ, hmd1, hks1, hQ1]
          rw [chipOk_f (fun h => by rw [(h.1 B hbm).2.1] at h3; cases h3)]
      · have h2d : decide (((B.pages.length : Nat) : Int) = 8) = false := decide_eq_false h2
        simp +decide (maxSteps := 20000000) (disch := omega) only [↓SBK, ↓SBK2, SX, Nat.reduceEqDiff, Nat.reduceAdd, Nat.reduceMul, Nat.reduceSub, ↓reduceIte, Int.reduceNeg, Int.reduceToNat, Int.reducePow, hmd, hks, hQ, hmd1, hks1, hQ1, h2d]
        rw [chipOk_f (fun h => h2 (by rw [(h.1 B hbm).1]; rfl))]
    · obtain rfl : i = c.blocks.length := by omega
      simp +decide (maxSteps := 20000000) (disch := omega) only [↓SBK, ↓SBK2, SX, Nat.reduceEqDiff, Nat.reduceAdd, Nat.reduceMul, Nat.reduceSub, ↓reduceIte, Int.reduceNeg, Int.reduceToNat, Int.reducePow, hmd, hks, hQ, hmd1, hks1, hQ1, cj]
      (first | refine call_i hP (s_from (c.blocks.length : Nat) 3 24) (.inl ⟨rfl, fun _ hx => nomatch hx⟩) ?_ | refine callH_i hP (s_from (c.blocks.length : Nat) 3 24) (.inl ⟨rfl, fun _ hx => nomatch hx⟩) ?_)
      simp +decide (maxSteps := 20000000) (disch := omega) only [↓SBK, ↓SBK2, SX, Nat.reduceEqDiff, Nat.reduceAdd, Nat.reduceMul, Nat.reduceSub, ↓reduceIte, Int.reduceNeg, Int.reduceToNat, Int.reducePow, hmd, hks, hQ]
      by_cases h3 : inR (c.blocks.length : Nat) 3 24 = true
      · rw [chipOk_t ⟨okC_mem fun k hk => g2 k hk hk, h3⟩, h3]
      · rw [chipOk_f fun h => h3 h.2]; simp at h3; rw [h3]
  ·
    simp only at g1 g2
    simp +decide (maxSteps := 20000000) (disch := omega) only [↓SBK, ↓SBK2, SX, Nat.reduceEqDiff, Nat.reduceAdd, Nat.reduceMul, Nat.reduceSub, ↓reduceIte, Int.reduceNeg, Int.reduceToNat, Int.reducePow, hmd, hks, hQ, hmd1, hks1, hQ1, cj]
    (first | with_reducible refine if_d _ ?_ ?_ | refine if_i _ ?_ ?_) <;> intro h1
    · simp +decide (maxSteps := 20000000) (disch := omega) only [↓SBK, ↓SBK2, SX, Nat.reduceEqDiff, Nat.reduceAdd, Nat.reduceMul, Nat.reduceSub, ↓reduceIte, Int.reduceNeg, Int.reduceToNat, Int.reducePow, hmd, hks, hQ, hmd1, hks1, hQ1, getE h1, cj]
      have hbf := chip_fine hf (i := i) (by omega)
      have hbm : c.blocks[i]'(by omega) ∈ c.blocks := List.getElem_mem _
      generalize hB : (c.blocks[i]'(by omega)) = B at *
      simp only [Block.fine] at hbf
      obtain ⟨f1, f2⟩ := hbf
      (first | with_reducible refine gd_d _ ?_ ?_ | refine gd_i _ ?_ ?_) <;> intro h2
      · have h2d : decide (((B.pages.length : Nat) : Int) = 8) = true := decide_eq_true h2
        simp +decide (maxSteps := 20000000) (disch := omega) only [↓SBK, ↓SBK2, SX, Nat.reduceEqDiff, Nat.reduceAdd, Nat.reduceMul, Nat.reduceSub, ↓reduceIte, Int.reduceNeg, Int.reduceToNat, Int.reducePow, hmd, hks, hQ, hmd1, hks1, hQ1, h2d]
        (first | refine call_i hP1 (s_from B.wear 0 100000) (.inl ⟨rfl, fun _ hx => nomatch hx⟩) ?_ | refine callH_i hP1 (s_from B.wear 0 100000) (.inl ⟨rfl, fun _ hx => nomatch hx⟩) ?_)
        simp +decide (maxSteps := 20000000) (disch := omega) only [↓SBK, ↓SBK2, SX, Nat.reduceEqDiff, Nat.reduceAdd, Nat.reduceMul, Nat.reduceSub, ↓reduceIte, Int.reduceNeg, Int.reduceToNat, Int.reducePow, hmd, hks, hQ, hmd1, hks1, hQ1, h2d]
        (first | with_reducible refine if_d _ ?_ ?_ | refine if_i _ ?_ ?_) <;> intro h3
        · simp only [h3, Bool.not_true, Bool.not_false]
          simp +decide (maxSteps := 20000000) (disch := omega) only [↓SBK, ↓SBK2, SX, Nat.reduceEqDiff, Nat.reduceAdd, Nat.reduceMul, Nat.reduceSub, ↓reduceIte, Int.reduceNeg, Int.reduceToNat, Int.reducePow, hmd, hks, hQ, hmd1, hks1, hQ1]
          refine loop_i (fun s : Nat × Option (Page × Int) => (27, .int .i64 (s.1 : Nat)) :: ij s.2) (fun s => s.1 ≤ B.pages.length ∧ (∀ k, k < s.1 → okP B.pages k) ∧ (0 < s.1 → s.2 ≠ none)) (fun s => B.pages.length - s.1) ((0, some (jp, jk))) hP1 hmd1 hks1 (rfl) (by simp) ?_
          rintro ⟨j, _ | ⟨qp, qk⟩⟩ ⟨k1, k2, k3⟩ w2 hP2 hmd2 hks2 hQ2
          all_goals
            simp only at k1 k2 k3
            simp +decide (maxSteps := 20000000) (disch := omega) only [↓SBK, ↓SBK2, SX, Nat.reduceEqDiff, Nat.reduceAdd, Nat.reduceMul, Nat.reduceSub, ↓reduceIte, Int.reduceNeg, Int.reduceToNat, Int.reducePow, hmd, hks, hQ, hmd1, hks1, hQ1, hmd2, hks2, hQ2, ij]
            (first | with_reducible refine if_d _ ?_ ?_ | refine if_i _ ?_ ?_) <;> intro h4
            · rcases okP_ways B.pages j (by omega) with ⟨w1, hk⟩ | ⟨w1, w2, w3, hk⟩ | ⟨w1, w2, w3, hk⟩ | ⟨w1, w2, rfl, hk⟩ | ⟨w1, w2, m, rfl, w3, hk⟩ | ⟨w1, w2, m, rfl, w3, hk⟩
              · simp +decide (maxSteps := 20000000) (disch := omega) only [↓SBK, ↓SBK2, SX, Nat.reduceEqDiff, Nat.reduceAdd, Nat.reduceMul, Nat.reduceSub, ↓reduceIte, Int.reduceNeg, Int.reduceToNat, Int.reducePow, hmd, hks, hQ, hmd1, hks1, hQ1, hmd2, hks2, hQ2, getE h4, ij, w1]
                rw [chipOk_f (fun h => hk ((h.1 B hbm).2.2 j (by omega)))]
              · simp +decide (maxSteps := 20000000) (disch := omega) only [↓SBK, ↓SBK2, SX, Nat.reduceEqDiff, Nat.reduceAdd, Nat.reduceMul, Nat.reduceSub, ↓reduceIte, Int.reduceNeg, Int.reduceToNat, Int.reducePow, hmd, hks, hQ, hmd1, hks1, hQ1, hmd2, hks2, hQ2, getE h4, ij, w1, w2, w3]
                rw [chipOk_f (fun h => hk ((h.1 B hbm).2.2 j (by omega)))]
              · by_cases w4 : (0 : Int) < (j : Nat)
                · simp +decide (maxSteps := 20000000) (disch := omega) only [↓SBK, ↓SBK2, SX, Nat.reduceEqDiff, Nat.reduceAdd, Nat.reduceMul, Nat.reduceSub, ↓reduceIte, Int.reduceNeg, Int.reduceToNat, Int.reducePow, hmd, hks, hQ, hmd1, hks1, hQ1, hmd2, hks2, hQ2, getE h4, ij, w1, w2, w3, w4]
                  exact ⟨(j + 1, some (⟨false, (B.pages[j]'(by omega)).b⟩, (j : Int))), rfl, ⟨by simp only; omega, okP_step k2 hk, by simp⟩, by simp only; omega⟩
                · simp +decide (maxSteps := 20000000) (disch := omega) only [↓SBK, ↓SBK2, SX, Nat.reduceEqDiff, Nat.reduceAdd, Nat.reduceMul, Nat.reduceSub, ↓reduceIte, Int.reduceNeg, Int.reduceToNat, Int.reducePow, hmd, hks, hQ, hmd1, hks1, hQ1, hmd2, hks2, hQ2, getE h4, ij, w1, w2, w3, w4]
                  exact ⟨(j + 1, some (⟨false, (B.pages[j]'(by omega)).b⟩, (j : Int))), rfl, ⟨by simp only; omega, okP_step k2 hk, by simp⟩, by simp only; omega⟩
              · simp +decide (maxSteps := 20000000) (disch := omega) only [↓SBK, ↓SBK2, SX, Nat.reduceEqDiff, Nat.reduceAdd, Nat.reduceMul, Nat.reduceSub, ↓reduceIte, Int.reduceNeg, Int.reduceToNat, Int.reducePow, hmd, hks, hQ, hmd1, hks1, hQ1, hmd2, hks2, hQ2, getE h4, ij, w1, w2]
                exact ⟨(0 + 1, some (⟨true, (B.pages[0]'(by omega)).b⟩, ((0 : Nat) : Int))), rfl, ⟨by simp only; omega, okP_step k2 hk, by simp⟩, by simp only; omega⟩
              · have w4 : (0 : Int) < ((m + 1 : Nat) : Int) := by omega
                simp +decide (maxSteps := 20000000) (disch := omega) only [↓SBK, ↓SBK2, SX, Nat.reduceEqDiff, Nat.reduceAdd, Nat.reduceMul, Nat.reduceSub, ↓reduceIte, Int.reduceNeg, Int.reduceToNat, Int.reducePow, hmd, hks, hQ, hmd1, hks1, hQ1, hmd2, hks2, hQ2, getE h4, ij, w1, w2, w3, w4, cast_pred, getE (show ((m : Nat) : Int) < (B.pages.length : Nat) by omega)]
                exact ⟨(m + 1 + 1, some (⟨true, (B.pages[m + 1]'(by omega)).b⟩, ((m + 1 : Nat) : Int))), rfl, ⟨by simp only; omega, okP_step k2 hk, by simp⟩, by simp only; omega⟩
              · have w4 : (0 : Int) < ((m + 1 : Nat) : Int) := by omega
                simp +decide (maxSteps := 20000000) (disch := omega) only [↓SBK, ↓SBK2, SX, Nat.reduceEqDiff, Nat.reduceAdd, Nat.reduceMul, Nat.reduceSub, ↓reduceIte, Int.reduceNeg, Int.reduceToNat, Int.reducePow, hmd, hks, hQ, hmd1, hks1, hQ1, hmd2, hks2, hQ2, getE h4, ij, w1, w2, w3, w4, cast_pred, getE (show ((m : Nat) : Int) < (B.pages.length : Nat) by omega)]
                rw [chipOk_f (fun h => hk ((h.1 B hbm).2.2 (m + 1) (by omega)))]
            · obtain rfl : j = B.pages.length := by omega
              first
                | exact absurd rfl (k3 (by omega))
                | simp +decide (maxSteps := 20000000) (disch := omega) only [↓SBK, ↓SBK2, SX, Nat.reduceEqDiff, Nat.reduceAdd, Nat.reduceMul, Nat.reduceSub, ↓reduceIte, Int.reduceNeg, Int.reduceToNat, Int.reducePow, hmd, hks, hQ, hmd1, hks1, hQ1, hmd2, hks2, hQ2, ij]
                  refine ⟨(i + 1, some (B, qp, qk)), rfl, ⟨by simp only; omega, ?_⟩, by simp only; omega⟩
                  intro k hkk hkl
                  simp only at hkk
                  by_cases e : k = i
                  · subst e; rw [hB]; exact ⟨by omega, h3, k2⟩
                  · exact g2 k (by omega) hkl
        · simp only [h3, Bool.not_true, Bool.not_false]
          simp +decide (maxSteps := 20000000) (disch := omega) only [↓SBK, ↓SBK2, SX, Nat.reduceEqDiff, Nat.reduceAdd, Nat.reduceMul, Nat.reduceSub, ↓reduceIte, Int.reduceNeg, Int.reduceToNat, Int.reducePow, hmd, hks, hQ, hmd1, hks1, hQ1]
          rw [chipOk_f (fun h => by rw [(h.1 B hbm).2.1] at h3; cases h3)]
      · have h2d : decide (((B.pages.length : Nat) : Int) = 8) = false := decide_eq_false h2
        simp +decide (maxSteps := 20000000) (disch := omega) only [↓SBK, ↓SBK2, SX, Nat.reduceEqDiff, Nat.reduceAdd, Nat.reduceMul, Nat.reduceSub, ↓reduceIte, Int.reduceNeg, Int.reduceToNat, Int.reducePow, hmd, hks, hQ, hmd1, hks1, hQ1, h2d]
        rw [chipOk_f (fun h => h2 (by rw [(h.1 B hbm).1]; rfl))]
    · obtain rfl : i = c.blocks.length := by omega
      simp +decide (maxSteps := 20000000) (disch := omega) only [↓SBK, ↓SBK2, SX, Nat.reduceEqDiff, Nat.reduceAdd, Nat.reduceMul, Nat.reduceSub, ↓reduceIte, Int.reduceNeg, Int.reduceToNat, Int.reducePow, hmd, hks, hQ, hmd1, hks1, hQ1, cj]
      (first | refine call_i hP (s_from (c.blocks.length : Nat) 3 24) (.inl ⟨rfl, fun _ hx => nomatch hx⟩) ?_ | refine callH_i hP (s_from (c.blocks.length : Nat) 3 24) (.inl ⟨rfl, fun _ hx => nomatch hx⟩) ?_)
      simp +decide (maxSteps := 20000000) (disch := omega) only [↓SBK, ↓SBK2, SX, Nat.reduceEqDiff, Nat.reduceAdd, Nat.reduceMul, Nat.reduceSub, ↓reduceIte, Int.reduceNeg, Int.reduceToNat, Int.reducePow, hmd, hks, hQ]
      by_cases h3 : inR (c.blocks.length : Nat) 3 24 = true
      · rw [chipOk_t ⟨okC_mem fun k hk => g2 k hk hk, h3⟩, h3]
      · rw [chipOk_f fun h => h3 h.2]; simp at h3; rw [h3]
end Go.Proofs.Ytliklgcfdgdigaa.Awp

namespace Go.Proofs.Ytliklgcfdgdigaa.Awp
open Go.Proofs
set_option linter.unusedSimpArgs false
set_option linter.unusedVariables false
set_option maxRecDepth 100000
set_option maxHeartbeats 20000000

end Go.Proofs.Ytliklgcfdgdigaa.Awp

namespace Go.Proofs.Ytliklgcfdgdigaa.Awp
open Go.Proofs
set_option linter.unusedSimpArgs false
set_option linter.unusedVariables false
set_option maxRecDepth 100000
set_option maxHeartbeats 20000000

end Go.Proofs.Ytliklgcfdgdigaa.Awp

namespace Go.Proofs.Ytliklgcfdgdigaa.Awp
open Go.Proofs
set_option linter.unusedSimpArgs false
set_option linter.unusedVariables false
set_option maxRecDepth 100000
set_option maxHeartbeats 20000000

theorem sum_plus {α : Type} (f g : α → Nat) (a : Nat) (h : ∀ x, f x = a + g x) : ∀ l : List α, (l.map f).sum = l.length * a + (l.map g).sum := by
  intro l
  induction l with
  | nil => simp
  | cons x l ih => simp only [List.map_cons, List.sum_cons, List.length_cons, ih, h, Nat.succ_mul]; omega
theorem blk_cnt (b : Block) : b.cnt = 2 + b.sz := by
  have := sum_plus Page.cnt Page.sz 1 (fun p => rfl) b.pages
  simp only [Block.cnt, Block.sz, cntM, szM]
  omega
theorem chip_cnt (c : Chip) : c.cntT ≤ 2 * c.sz := by
  have := sum_plus Block.cnt Block.sz 2 blk_cnt c.blocks
  simp only [Chip.cntT, Chip.sz, cntM, szM]
  omega
end Go.Proofs.Ytliklgcfdgdigaa.Awp

namespace Go.Proofs.Ytliklgcfdgdigaa.Awp
open Go.Proofs
set_option linter.unusedSimpArgs false
set_option linter.unusedVariables false
set_option maxRecDepth 100000
set_option maxHeartbeats 20000000

theorem take_row {α β : Type} (f : α → β) (l : List α) (i : Nat) (h : i < l.length) : (l.take (i + 1)).map f = (l.take i).map f ++ [f l[i]] := by
  rw [List.take_succ_eq_append_getElem h, List.map_append]; rfl
theorem page_b {b : Block} {i : Nat} (hs : b.sz < 2 ^ 40) (h : i < b.pages.length) : (b.pages[i]).b.length < 2 ^ 40 := by
  have h2 := sum_get Page.sz (l := b.pages) (i := i) h
  have h3 : b.sz = b.pages.length + (b.pages.map Page.sz).sum := rfl
  have h4 : (b.pages[i]).sz = (b.pages[i]).b.length := rfl
  omega
theorem sS_l10CopyBlock (b : Block) (hs : b.sz < 2 ^ 40) : Spec Try.prog 180 [b.x] b.o [.undef] := by
  have hl : b.pages.length < 2 ^ 40 := by have h3 : b.sz = b.pages.length + (b.pages.map Page.sz).sum := rfl; omega
  refine spec_C hmx p_S_l10CopyBlock [] 31 [] ⟨Nat.le_of_ble_eq_true rfl, Nat.le_of_ble_eq_true rfl⟩ rfl rfl ?_
  intro w hP hmd hks hQ
  unfold c_S_l10CopyBlock
  simp +decide (maxSteps := 20000000) (disch := omega) only [↓SBK, ↓SBK2, SX, Nat.reduceEqDiff, Nat.reduceAdd, Nat.reduceMul, Nat.reduceSub, ↓reduceIte, Int.reduceNeg, Int.reduceToNat, Int.reducePow, hmd, hks, hQ]
  refine loop_i (fun i : Nat => [(4, .int .i64 i), (5003, .box [.own 2 ((b.pages.take i).map Page.row), .int .i64 b.wear, .bool b.bad])]) (fun i => i ≤ b.pages.length) (fun i => b.pages.length - i) (0) hP hmd hks (rfl) (by omega) ?_
  rintro i hi w1 hP1 hmd1 hks1 hQ1
  simp +decide (maxSteps := 20000000) (disch := omega) only [↓SBK, ↓SBK2, SX, Nat.reduceEqDiff, Nat.reduceAdd, Nat.reduceMul, Nat.reduceSub, ↓reduceIte, Int.reduceNeg, Int.reduceToNat, Int.reducePow, hmd, hks, hQ, hmd1, hks1, hQ1]
  (first | with_reducible refine if_d _ ?_ ?_ | refine if_i _ ?_ ?_) <;> intro h1
  · have hb := page_b hs (i := i) (by omega)
    have ht : (b.pages.take i).length = i := by simp; omega
    simp +decide (maxSteps := 20000000) (disch := omega) only [↓SBK, ↓SBK2, SX, Nat.reduceEqDiff, Nat.reduceAdd, Nat.reduceMul, Nat.reduceSub, ↓reduceIte, Int.reduceNeg, Int.reduceToNat, Int.reducePow, hmd, hks, hQ, hmd1, hks1, hQ1, getE h1, ht]
    exact ⟨i + 1, by rw [take_row _ _ _ (by omega)]; rfl, by omega, by omega⟩
  · obtain rfl : i = b.pages.length := by omega
    simp +decide (maxSteps := 20000000) (disch := omega) only [↓SBK, ↓SBK2, SX, Nat.reduceEqDiff, Nat.reduceAdd, Nat.reduceMul, Nat.reduceSub, ↓reduceIte, Int.reduceNeg, Int.reduceToNat, Int.reducePow, hmd, hks, hQ, hmd1, hks1, hQ1, List.take_length]
theorem sS_l10Copy (c : Chip) (hs : c.sz < 2 ^ 40) : Spec Try.prog 151 [c.x] c.o [.undef] := by
  have hl : c.blocks.length < 2 ^ 40 := by simp only [Chip.sz, szM] at hs; omega
  refine spec_C hmx p_S_l10Copy [] 31 [] ⟨Nat.le_of_ble_eq_true rfl, Nat.le_of_ble_eq_true rfl⟩ rfl rfl ?_
  intro w hP hmd hks hQ
  unfold c_S_l10Copy
  simp +decide (maxSteps := 20000000) (disch := omega) only [↓SBK, ↓SBK2, SX, Nat.reduceEqDiff, Nat.reduceAdd, Nat.reduceMul, Nat.reduceSub, ↓reduceIte, Int.reduceNeg, Int.reduceToNat, Int.reducePow, hmd, hks, hQ]
  refine loop_i (fun i : Nat => [(4, .int .i64 i), (5003, .box [.own 3 ((c.blocks.take i).map Block.row)])]) (fun i => i ≤ c.blocks.length) (fun i => c.blocks.length - i) (0) hP hmd hks (rfl) (by omega) ?_
  rintro i hi w1 hP1 hmd1 hks1 hQ1
  simp +decide (maxSteps := 20000000) (disch := omega) only [↓SBK, ↓SBK2, SX, Nat.reduceEqDiff, Nat.reduceAdd, Nat.reduceMul, Nat.reduceSub, ↓reduceIte, Int.reduceNeg, Int.reduceToNat, Int.reducePow, hmd, hks, hQ, hmd1, hks1, hQ1]
  (first | with_reducible refine if_d _ ?_ ?_ | refine if_i _ ?_ ?_) <;> intro h1
  · have hz := sum_get Block.sz (l := c.blocks) (i := i) (by omega)
    have hz' : (c.blocks[i]'(by omega)).sz < 2 ^ 40 := by simp only [Chip.sz, szM] at hs; omega
    have ht : (c.blocks.take i).length = i := by simp; omega
    simp +decide (maxSteps := 20000000) (disch := omega) only [↓SBK, ↓SBK2, SX, Nat.reduceEqDiff, Nat.reduceAdd, Nat.reduceMul, Nat.reduceSub, ↓reduceIte, Int.reduceNeg, Int.reduceToNat, Int.reducePow, hmd, hks, hQ, hmd1, hks1, hQ1, getE h1, ht]
    (first | refine call_i hP1 (sS_l10CopyBlock (c.blocks[i]'(by omega)) hz') (.inl ⟨rfl, fun _ hx => nomatch hx⟩) ?_ | refine callH_i hP1 (sS_l10CopyBlock (c.blocks[i]'(by omega)) hz') (.inl ⟨rfl, fun _ hx => nomatch hx⟩) ?_)
    simp +decide (maxSteps := 20000000) (disch := omega) only [↓SBK, ↓SBK2, SX, Nat.reduceEqDiff, Nat.reduceAdd, Nat.reduceMul, Nat.reduceSub, ↓reduceIte, Int.reduceNeg, Int.reduceToNat, Int.reducePow, hmd, hks, hQ, hmd1, hks1, hQ1, ht]
    exact ⟨i + 1, by rw [take_row _ _ _ (by omega)]; rfl, by omega, by omega⟩
  · obtain rfl : i = c.blocks.length := by omega
    simp +decide (maxSteps := 20000000) (disch := omega) only [↓SBK, ↓SBK2, SX, Nat.reduceEqDiff, Nat.reduceAdd, Nat.reduceMul, Nat.reduceSub, ↓reduceIte, Int.reduceNeg, Int.reduceToNat, Int.reducePow, hmd, hks, hQ, hmd1, hks1, hQ1, List.take_length]
end Go.Proofs.Ytliklgcfdgdigaa.Awp

namespace Go.Proofs.Ytliklgcfdgdigaa.Awp
open Go.Proofs
set_option linter.unusedSimpArgs false
set_option linter.unusedVariables false
set_option maxRecDepth 100000
set_option maxHeartbeats 20000000

theorem sI_copyChip (c : Chip) (hs : c.sz < 2 ^ 40) : Spec Try.prog 149 [c.x] c.o [.undef] := by
  have hl : c.blocks.length < 2 ^ 40 := by simp only [Chip.sz, szM] at hs; omega
  refine spec_C hmx p_I_copyChip [] 3684719 [] ⟨Nat.le_of_ble_eq_true rfl, Nat.le_of_ble_eq_true rfl⟩ rfl rfl ?_
  intro w hP hmd hks hQ
  unfold c_I_copyChip
  simp +decide (maxSteps := 20000000) (disch := omega) only [↓SBK, ↓SBK2, SX, Nat.reduceEqDiff, Nat.reduceAdd, Nat.reduceMul, Nat.reduceSub, ↓reduceIte, Int.reduceNeg, Int.reduceToNat, Int.reducePow, hmd, hks, hQ]
  refine LH_D [5, 6, 8, 19, 20, 21, 5005, 5008] ?_
  simp +decide (maxSteps := 20000000) (disch := omega) only [↓SBK, ↓SBK2, SX, Nat.reduceEqDiff, Nat.reduceAdd, Nat.reduceMul, Nat.reduceSub, ↓reduceIte, Int.reduceNeg, Int.reduceToNat, Int.reducePow, hmd, hks, hQ]
  refine loop_d [5, 6, 8, 19, 20, 21, 5005, 5008] (fun i : Nat => [(13, .int .i64 i), (5003, .box [.own 3 ((c.blocks.take i).map Block.row)])]) (fun i => i ≤ c.blocks.length) (fun i => c.blocks.length - i) (0) hP hmd hks (rfl) (by simp) ?_
  rintro i hi w1 hP1 hmd1 hks1 hQ1
  simp +decide (maxSteps := 20000000) (disch := omega) only [↓SBK, ↓SBK2, SX, Nat.reduceEqDiff, Nat.reduceAdd, Nat.reduceMul, Nat.reduceSub, ↓reduceIte, Int.reduceNeg, Int.reduceToNat, Int.reducePow, hmd, hks, hQ, hmd1, hks1, hQ1]
  (first | with_reducible refine if_d _ ?_ ?_ | refine if_i _ ?_ ?_) <;> intro h1
  · have hz := sum_get Block.sz (l := c.blocks) (i := i) (by omega)
    have hz' : (c.blocks[i]'(by omega)).sz < 2 ^ 40 := by simp only [Chip.sz, szM] at hs; omega
    have ht : (c.blocks.take i).length = i := by simp; omega
    simp +decide (maxSteps := 20000000) (disch := omega) only [↓SBK, ↓SBK2, SX, Nat.reduceEqDiff, Nat.reduceAdd, Nat.reduceMul, Nat.reduceSub, ↓reduceIte, Int.reduceNeg, Int.reduceToNat, Int.reducePow, hmd, hks, hQ, hmd1, hks1, hQ1, getE h1, ht]
    generalize hB : (c.blocks[i]'(by omega)) = B at *
    have hpl : B.pages.length < 2 ^ 40 := by have h3 : B.sz = B.pages.length + (B.pages.map Page.sz).sum := rfl; omega
    refine LH_D [8, 5008] ?_
    simp +decide (maxSteps := 20000000) (disch := omega) only [↓SBK, ↓SBK2, SX, Nat.reduceEqDiff, Nat.reduceAdd, Nat.reduceMul, Nat.reduceSub, ↓reduceIte, Int.reduceNeg, Int.reduceToNat, Int.reducePow, hmd, hks, hQ, hmd1, hks1, hQ1]
    refine loop_d [8, 5008] (fun j : Nat => [(21, .int .i64 j), (6, .own 2 ((B.pages.take j).map Page.row))]) (fun j => j ≤ B.pages.length) (fun j => B.pages.length - j) (0) hP1 hmd1 hks1 (rfl) (by simp) ?_
    rintro j hj w2 hP2 hmd2 hks2 hQ2
    simp +decide (maxSteps := 20000000) (disch := omega) only [↓SBK, ↓SBK2, SX, Nat.reduceEqDiff, Nat.reduceAdd, Nat.reduceMul, Nat.reduceSub, ↓reduceIte, Int.reduceNeg, Int.reduceToNat, Int.reducePow, hmd, hks, hQ, hmd1, hks1, hQ1, hmd2, hks2, hQ2]
    (first | with_reducible refine if_d _ ?_ ?_ | refine if_i _ ?_ ?_) <;> intro h4
    · have hb := page_b hz' (i := j) (by omega)
      have ht2 : (B.pages.take j).length = j := by simp; omega
      simp +decide (maxSteps := 20000000) (disch := omega) only [↓SBK, ↓SBK2, SX, Nat.reduceEqDiff, Nat.reduceAdd, Nat.reduceMul, Nat.reduceSub, ↓reduceIte, Int.reduceNeg, Int.reduceToNat, Int.reducePow, hmd, hks, hQ, hmd1, hks1, hQ1, hmd2, hks2, hQ2, getE h4, ht2]
      (first | refine call_i hP2 (s_Clone8 (B.pages[j]'(by omega)).b hb) (.inl ⟨rfl, fun _ hx => nomatch hx⟩) ?_ | refine callH_i hP2 (s_Clone8 (B.pages[j]'(by omega)).b hb) (.inl ⟨rfl, fun _ hx => nomatch hx⟩) ?_)
      simp +decide (maxSteps := 20000000) (disch := omega) only [↓SBK, ↓SBK2, SX, Nat.reduceEqDiff, Nat.reduceAdd, Nat.reduceMul, Nat.reduceSub, ↓reduceIte, Int.reduceNeg, Int.reduceToNat, Int.reducePow, hmd, hks, hQ, hmd1, hks1, hQ1, hmd2, hks2, hQ2, ht2]
      exact ⟨j + 1, by simp only [take_row _ _ _ (show j < B.pages.length by omega)]; rfl, by omega, by omega⟩
    · obtain rfl : j = B.pages.length := by omega
      simp +decide (maxSteps := 20000000) (disch := omega) only [↓SBK, ↓SBK2, SX, Nat.reduceEqDiff, Nat.reduceAdd, Nat.reduceMul, Nat.reduceSub, ↓reduceIte, Int.reduceNeg, Int.reduceToNat, Int.reducePow, hmd, hks, hQ, hmd1, hks1, hQ1, hmd2, hks2, hQ2, List.take_length, ht]
      exact ⟨i + 1, by simp only [take_row _ _ _ (show i < c.blocks.length by omega), hB]; rfl, by omega, by omega⟩
  · obtain rfl : i = c.blocks.length := by omega
    simp +decide (maxSteps := 20000000) (disch := omega) only [↓SBK, ↓SBK2, SX, Nat.reduceEqDiff, Nat.reduceAdd, Nat.reduceMul, Nat.reduceSub, ↓reduceIte, Int.reduceNeg, Int.reduceToNat, Int.reducePow, hmd, hks, hQ, hmd1, hks1, hQ1, List.take_length]
end Go.Proofs.Ytliklgcfdgdigaa.Awp

namespace Go.Proofs.Ytliklgcfdgdigaa.Awp
open Go.Proofs
set_option linter.unusedSimpArgs false
set_option linter.unusedVariables false
set_option maxRecDepth 100000
set_option maxHeartbeats 20000000

theorem blk_nat {c : Chip} {j : Nat} (hj : (j : Int) < (c.blocks.length : Nat)) : blk? c (j : Int) = some (c.blocks[j]'(by omega)) := by
  rw [blk?, if_pos (by omega)]
  simp only [Int.toNat_natCast]
  rw [List.getElem?_eq_getElem]
noncomputable def mayCode (c : Chip) (k : Int) (full : Bool) : Int := if chipOk c = true then (match blk? c k with | none => 1 | some b => if b.bad = true then 2 else if full = true then 5 else 0) else 1
theorem may_bad {c : Chip} {k : Int} {full : Bool} (h : ¬ chipOk c = true) : mayCode c k full = 1 := if_neg h
theorem may_none {c : Chip} {k : Int} {full : Bool} (h : blk? c k = none) : mayCode c k full = 1 := by
  unfold mayCode; rw [h]; simp
theorem may_some {c : Chip} {k : Int} {full : Bool} {b : Block} (h1 : chipOk c = true) (h : blk? c k = some b) : mayCode c k full = if b.bad = true then 2 else if full = true then 5 else 0 := by
  unfold mayCode; rw [if_pos h1, h]
theorem sS_l10May (c : Chip) (k : Int) (full : Bool) (hf : c.fine) : Spec Try.prog 181 [c.x, .int .i64 k, .bool full] (.int .i64 (mayCode c k full)) [.undef, .undef, .undef] := by
  have hl := chip_len hf
  have hc := sS_ChipOk c hf
  by_cases h1 : chipOk c = true
  · rw [h1] at hc
    by_cases h2 : 0 ≤ k ∧ k < (c.blocks.length : Nat)
    · obtain ⟨j, rfl⟩ : ∃ j : Nat, k = j := ⟨k.toNat, by omega⟩
      have hj : (j : Int) < (c.blocks.length : Nat) := h2.2
      have d1 : decide ((j : Int) < 0) = false := decide_eq_false (by omega)
      have d2 : decide (((c.blocks.length : Nat) : Int) ≤ j) = false := decide_eq_false (by omega)
      have e := may_some (full := full) h1 (blk_nat hj)
      refine spec_C hmx p_S_l10May [] 79 [] ⟨Nat.le_of_ble_eq_true rfl, Nat.le_of_ble_eq_true rfl⟩ rfl rfl ?_
      intro w hP hmd hks hQ
      unfold c_S_l10May
      simp +decide (maxSteps := 20000000) (disch := omega) only [↓SBK, ↓SBK2, SX, Nat.reduceEqDiff, Nat.reduceAdd, Nat.reduceMul, Nat.reduceSub, ↓reduceIte, Int.reduceNeg, Int.reduceToNat, Int.reducePow, hmd, hks, hQ]
      (first | refine call_i hP (hc) (.inl ⟨rfl, fun _ hx => nomatch hx⟩) ?_ | refine callH_i hP (hc) (.inl ⟨rfl, fun _ hx => nomatch hx⟩) ?_)
      simp +decide (maxSteps := 20000000) (disch := omega) only [↓SBK, ↓SBK2, SX, Nat.reduceEqDiff, Nat.reduceAdd, Nat.reduceMul, Nat.reduceSub, ↓reduceIte, Int.reduceNeg, Int.reduceToNat, Int.reducePow, hmd, hks, hQ, d1, d2, getE hj]
      (first | with_reducible refine if_d _ ?_ ?_ | refine if_i _ ?_ ?_) <;> intro h3
      · simp +decide (maxSteps := 20000000) (disch := omega) only [↓SBK, ↓SBK2, SX, Nat.reduceEqDiff, Nat.reduceAdd, Nat.reduceMul, Nat.reduceSub, ↓reduceIte, Int.reduceNeg, Int.reduceToNat, Int.reducePow, hmd, hks, hQ]
        rw [e, if_pos h3]
      · simp +decide (maxSteps := 20000000) (disch := omega) only [↓SBK, ↓SBK2, SX, Nat.reduceEqDiff, Nat.reduceAdd, Nat.reduceMul, Nat.reduceSub, ↓reduceIte, Int.reduceNeg, Int.reduceToNat, Int.reducePow, hmd, hks, hQ]
        (first | with_reducible refine if_d _ ?_ ?_ | refine if_i _ ?_ ?_) <;> intro h4
        · simp +decide (maxSteps := 20000000) (disch := omega) only [↓SBK, ↓SBK2, SX, Nat.reduceEqDiff, Nat.reduceAdd, Nat.reduceMul, Nat.reduceSub, ↓reduceIte, Int.reduceNeg, Int.reduceToNat, Int.reducePow, hmd, hks, hQ]
          rw [e, if_neg (by simp [h3]), if_pos h4]
        · simp +decide (maxSteps := 20000000) (disch := omega) only [↓SBK, ↓SBK2, SX, Nat.reduceEqDiff, Nat.reduceAdd, Nat.reduceMul, Nat.reduceSub, ↓reduceIte, Int.reduceNeg, Int.reduceToNat, Int.reducePow, hmd, hks, hQ]
          rw [e, if_neg (by simp [h3]), if_neg (by simp [h4])]
    · have e := may_none (full := full) (blk_none h2)
      by_cases h : k < 0
      · have d1 : decide (k < 0) = true := decide_eq_true h
        refine spec_C hmx p_S_l10May [] 79 [] ⟨Nat.le_of_ble_eq_true rfl, Nat.le_of_ble_eq_true rfl⟩ rfl rfl ?_
        intro w hP hmd hks hQ
        unfold c_S_l10May
        simp +decide (maxSteps := 20000000) (disch := omega) only [↓SBK, ↓SBK2, SX, Nat.reduceEqDiff, Nat.reduceAdd, Nat.reduceMul, Nat.reduceSub, ↓reduceIte, Int.reduceNeg, Int.reduceToNat, Int.reducePow, hmd, hks, hQ]
        (first | refine call_i hP (hc) (.inl ⟨rfl, fun _ hx => nomatch hx⟩) ?_ | refine callH_i hP (hc) (.inl ⟨rfl, fun _ hx => nomatch hx⟩) ?_)
        simp +decide (maxSteps := 20000000) (disch := omega) only [↓SBK, ↓SBK2, SX, Nat.reduceEqDiff, Nat.reduceAdd, Nat.reduceMul, Nat.reduceSub, ↓reduceIte, Int.reduceNeg, Int.reduceToNat, Int.reducePow, hmd, hks, hQ, d1]
        rw [e]
      · have d1 : decide (k < 0) = false := decide_eq_false h
        have d2 : decide (((c.blocks.length : Nat) : Int) ≤ k) = true := decide_eq_true (by omega)
        refine spec_C hmx p_S_l10May [] 79 [] ⟨Nat.le_of_ble_eq_true rfl, Nat.le_of_ble_eq_true rfl⟩ rfl rfl ?_
        intro w hP hmd hks hQ
        unfold c_S_l10May
        simp +decide (maxSteps := 20000000) (disch := omega) only [↓SBK, ↓SBK2, SX, Nat.reduceEqDiff, Nat.reduceAdd, Nat.reduceMul, Nat.reduceSub, ↓reduceIte, Int.reduceNeg, Int.reduceToNat, Int.reducePow, hmd, hks, hQ]
        (first | refine call_i hP (hc) (.inl ⟨rfl, fun _ hx => nomatch hx⟩) ?_ | refine callH_i hP (hc) (.inl ⟨rfl, fun _ hx => nomatch hx⟩) ?_)
        simp +decide (maxSteps := 20000000) (disch := omega) only [↓SBK, ↓SBK2, SX, Nat.reduceEqDiff, Nat.reduceAdd, Nat.reduceMul, Nat.reduceSub, ↓reduceIte, Int.reduceNeg, Int.reduceToNat, Int.reducePow, hmd, hks, hQ, d1, d2]
        rw [e]
  · have h1' : chipOk c = false := by simpa using h1
    rw [h1'] at hc
    refine spec_C hmx p_S_l10May [] 79 [] ⟨Nat.le_of_ble_eq_true rfl, Nat.le_of_ble_eq_true rfl⟩ rfl rfl ?_
    intro w hP hmd hks hQ
    unfold c_S_l10May
    simp +decide (maxSteps := 20000000) (disch := omega) only [↓SBK, ↓SBK2, SX, Nat.reduceEqDiff, Nat.reduceAdd, Nat.reduceMul, Nat.reduceSub, ↓reduceIte, Int.reduceNeg, Int.reduceToNat, Int.reducePow, hmd, hks, hQ]
    (first | refine call_i hP (hc) (.inl ⟨rfl, fun _ hx => nomatch hx⟩) ?_ | refine callH_i hP (hc) (.inl ⟨rfl, fun _ hx => nomatch hx⟩) ?_)
    simp +decide (maxSteps := 20000000) (disch := omega) only [↓SBK, ↓SBK2, SX, Nat.reduceEqDiff, Nat.reduceAdd, Nat.reduceMul, Nat.reduceSub, ↓reduceIte, Int.reduceNeg, Int.reduceToNat, Int.reducePow, hmd, hks, hQ]
    rw [may_bad h1]
def fullE (c : Chip) (k : Int) : Bool := match blk? c k with | some b => decide (100000 ≤ b.wear) | none => false
noncomputable def eraseCode (c : Chip) (k : Int) : Int := mayCode c k (fullE c k)
end Go.Proofs.Ytliklgcfdgdigaa.Awp

namespace Go.Proofs.Ytliklgcfdgdigaa.Awp
open Go.Proofs
set_option linter.unusedSimpArgs false
set_option linter.unusedVariables false
set_option maxRecDepth 100000
set_option maxHeartbeats 20000000

def erB (b : Block) : Block := { pages := List.replicate 8 zPage, wear := b.wear + 1, bad := b.bad }
noncomputable def eraseC (c : Chip) (k : Int) : Chip := if eraseCode c k = 0 then { blocks := c.blocks.modify k.toNat erB } else c
theorem mod_map {α β : Type} (f : α → β) (g : β → β) (h : α → α) (l : List α) (i : Nat) (hi : i < l.length) (e : g (f l[i]) = f (h l[i])) : (l.map f).modify i g = (l.modify i h).map f := by
  apply List.ext_getElem?
  intro j
  simp only [List.getElem?_modify, List.getElem?_map]
  by_cases hj : i = j
  · subst hj
    simp [List.getElem?_eq_getElem hi, e]
  · simp [hj]
end Go.Proofs.Ytliklgcfdgdigaa.Awp

namespace Go.Proofs.Ytliklgcfdgdigaa.Awp
open Go.Proofs
set_option linter.unusedSimpArgs false
set_option linter.unusedVariables false
set_option maxRecDepth 100000
set_option maxHeartbeats 20000000

/-! ### draws -/
end Go.Proofs.Ytliklgcfdgdigaa.Awp

namespace Go.Proofs.Ytliklgcfdgdigaa.Awp
open Go.Proofs
set_option linter.unusedSimpArgs false
set_option linter.unusedVariables false
set_option maxRecDepth 100000
set_option maxHeartbeats 20000000

/-! ### faults -/
def prevF (l : List Fault) : Nat → Bool
  | 0 => true
  | m + 1 => match l[m]?, l[m + 1]? with
    | some q, some f => decide (q.at' < f.at')
    | _, _ => true
def faultOk (l : List Fault) (i : Nat) : Bool := match l[i]? with
  | some f => inR f.at' 0 100000 && (inR f.kind 1 2 && (inR f.keep 0 400 && prevF l i))
  | none => true
def faultsIn (l : List Fault) : Bool := (List.range l.length).all (faultOk l)
def faultsOk (l : List Fault) : Bool := faultsIn l && decide ((l.length : Int) ≤ 20)
theorem faultOk_at {l : List Fault} {i : Nat} (h : i < l.length) : faultOk l i = (inR l[i].at' 0 100000 && (inR l[i].kind 1 2 && (inR l[i].keep 0 400 && prevF l i))) := by
  rw [faultOk, List.getElem?_eq_getElem h]
theorem prevF_at {l : List Fault} {m : Nat} (h : m + 1 < l.length) : prevF l (m + 1) = decide (l[m].at' < l[m + 1].at') := by
  rw [prevF, List.getElem?_eq_getElem h, List.getElem?_eq_getElem (show m < l.length by omega)]
theorem faultsIn_no {l : List Fault} {i : Nat} (h : i < l.length) (hf : faultOk l i = false) : faultsIn l = false := by
  rw [faultsIn, List.all_eq_false]
  exact ⟨i, by simpa using h, by simp [hf]⟩
theorem faultsIn_yes {l : List Fault} (h : ∀ k, k < l.length → faultOk l k = true) : faultsIn l = true := by
  rw [faultsIn, List.all_eq_true]
  intro k hk
  exact h k (by simpa using hk)
theorem lt_step {p : Nat → Bool} {i : Nat} (h : ∀ k, k < i → p k = true) (hi : p i = true) : ∀ k, k < i + 1 → p k = true := by
  intro k hk
  by_cases e : k = i
  · subst e; exact hi
  · exact h k (by omega)
theorem sS_l11Faults (l : List Fault) (hl : l.length < 2 ^ 48) : Spec Try.prog 157 [.ext 3 (l.map Fault.row)] (.bool (faultsOk l)) [.undef] := by
  refine spec_C hmx p_S_l11Faults [] 13 [] ⟨Nat.le_of_ble_eq_true rfl, Nat.le_of_ble_eq_true rfl⟩ rfl rfl ?_
  intro w hP hmd hks hQ
  unfold c_S_l11Faults
  simp +decide (maxSteps := 20000000) (disch := omega) only [↓SBK, ↓SBK2, SX, Nat.reduceEqDiff, Nat.reduceAdd, Nat.reduceMul, Nat.reduceSub, ↓reduceIte, Int.reduceNeg, Int.reduceToNat, Int.reducePow, hmd, hks, hQ]
  refine LH_D [2] ?_
  simp +decide (maxSteps := 20000000) (disch := omega) only [↓SBK, ↓SBK2, SX, Nat.reduceEqDiff, Nat.reduceAdd, Nat.reduceMul, Nat.reduceSub, ↓reduceIte, Int.reduceNeg, Int.reduceToNat, Int.reducePow, hmd, hks, hQ]
  refine loop_d [2] (fun i : Nat => [(3, .int .i64 i)]) (fun i => i ≤ l.length ∧ ∀ k, k < i → faultOk l k = true) (fun i => l.length - i) (0) hP hmd hks (rfl) (by simp) ?_
  rintro i ⟨hi, hk⟩ w1 hP1 hmd1 hks1 hQ1
  simp +decide (maxSteps := 20000000) (disch := omega) only [↓SBK, ↓SBK2, SX, Nat.reduceEqDiff, Nat.reduceAdd, Nat.reduceMul, Nat.reduceSub, ↓reduceIte, Int.reduceNeg, Int.reduceToNat, Int.reducePow, hmd, hks, hQ, hmd1, hks1, hQ1]
  (first | with_reducible refine if_d _ ?_ ?_ | refine if_i _ ?_ ?_) <;> intro h1
  · have hat := faultOk_at (l := l) (i := i) (by omega)
    cases hA : inR (l[i]'(by omega)).at' 0 100000 with
    | false =>
      simp +decide (maxSteps := 20000000) (disch := omega) only [↓SBK, ↓SBK2, SX, Nat.reduceEqDiff, Nat.reduceAdd, Nat.reduceMul, Nat.reduceSub, ↓reduceIte, Int.reduceNeg, Int.reduceToNat, Int.reducePow, hmd, hks, hQ, hmd1, hks1, hQ1, getE h1]
      (first | refine call_i hP1 (s_l1In (l[i]'(by omega)).at' 0 100000) (.inl ⟨rfl, fun _ hx => nomatch hx⟩) ?_ | refine callH_i hP1 (s_l1In (l[i]'(by omega)).at' 0 100000) (.inl ⟨rfl, fun _ hx => nomatch hx⟩) ?_)
      simp +decide (maxSteps := 20000000) (disch := omega) only [↓SBK, ↓SBK2, SX, Nat.reduceEqDiff, Nat.reduceAdd, Nat.reduceMul, Nat.reduceSub, ↓reduceIte, Int.reduceNeg, Int.reduceToNat, Int.reducePow, hmd, hks, hQ, hmd1, hks1, hQ1, hA]
      rw [faultsOk, faultsIn_no (i := i) (by omega) (by rw [hat, hA]; rfl)]; rfl
    | true =>
      cases hB : inR (l[i]'(by omega)).kind 1 2 with
      | false =>
        simp +decide (maxSteps := 20000000) (disch := omega) only [↓SBK, ↓SBK2, SX, Nat.reduceEqDiff, Nat.reduceAdd, Nat.reduceMul, Nat.reduceSub, ↓reduceIte, Int.reduceNeg, Int.reduceToNat, Int.reducePow, hmd, hks, hQ, hmd1, hks1, hQ1, getE h1]
        (first | refine call_i hP1 (s_l1In (l[i]'(by omega)).at' 0 100000) (.inl ⟨rfl, fun _ hx => nomatch hx⟩) ?_ | refine callH_i hP1 (s_l1In (l[i]'(by omega)).at' 0 100000) (.inl ⟨rfl, fun _ hx => nomatch hx⟩) ?_)
        simp +decide (maxSteps := 20000000) (disch := omega) only [↓SBK, ↓SBK2, SX, Nat.reduceEqDiff, Nat.reduceAdd, Nat.reduceMul, Nat.reduceSub, ↓reduceIte, Int.reduceNeg, Int.reduceToNat, Int.reducePow, hmd, hks, hQ, hmd1, hks1, hQ1, hA, getE h1]
        (first | refine call_i hP1 (s_l1In (l[i]'(by omega)).kind 1 2) (.inl ⟨rfl, fun _ hx => nomatch hx⟩) ?_ | refine callH_i hP1 (s_l1In (l[i]'(by omega)).kind 1 2) (.inl ⟨rfl, fun _ hx => nomatch hx⟩) ?_)
        simp +decide (maxSteps := 20000000) (disch := omega) only [↓SBK, ↓SBK2, SX, Nat.reduceEqDiff, Nat.reduceAdd, Nat.reduceMul, Nat.reduceSub, ↓reduceIte, Int.reduceNeg, Int.reduceToNat, Int.reducePow, hmd, hks, hQ, hmd1, hks1, hQ1, hB]
        rw [faultsOk, faultsIn_no (i := i) (by omega) (by rw [hat, hA, hB]; rfl)]; rfl
      | true =>
        cases hC : inR (l[i]'(by omega)).keep 0 400 with
        | false =>
          simp +decide (maxSteps := 20000000) (disch := omega) only [↓SBK, ↓SBK2, SX, Nat.reduceEqDiff, Nat.reduceAdd, Nat.reduceMul, Nat.reduceSub, ↓reduceIte, Int.reduceNeg, Int.reduceToNat, Int.reducePow, hmd, hks, hQ, hmd1, hks1, hQ1, getE h1]
          (first | refine call_i hP1 (s_l1In (l[i]'(by omega)).at' 0 100000) (.inl ⟨rfl, fun _ hx => nomatch hx⟩) ?_ | refine callH_i hP1 (s_l1In (l[i]'(by omega)).at' 0 100000) (.inl ⟨rfl, fun _ hx => nomatch hx⟩) ?_)
          simp +decide (maxSteps := 20000000) (disch := omega) only [↓SBK, ↓SBK2, SX, Nat.reduceEqDiff, Nat.reduceAdd, Nat.reduceMul, Nat.reduceSub, ↓reduceIte, Int.reduceNeg, Int.reduceToNat, Int.reducePow, hmd, hks, hQ, hmd1, hks1, hQ1, hA, getE h1]
          (first | refine call_i hP1 (s_l1In (l[i]'(by omega)).kind 1 2) (.inl ⟨rfl, fun _ hx => nomatch hx⟩) ?_ | refine callH_i hP1 (s_l1In (l[i]'(by omega)).kind 1 2) (.inl ⟨rfl, fun _ hx => nomatch hx⟩) ?_)
          simp +decide (maxSteps := 20000000) (disch := omega) only [↓SBK, ↓SBK2, SX, Nat.reduceEqDiff, Nat.reduceAdd, Nat.reduceMul, Nat.reduceSub, ↓reduceIte, Int.reduceNeg, Int.reduceToNat, Int.reducePow, hmd, hks, hQ, hmd1, hks1, hQ1, hB, getE h1]
          (first | refine call_i hP1 (s_l1In (l[i]'(by omega)).keep 0 400) (.inl ⟨rfl, fun _ hx => nomatch hx⟩) ?_ | refine callH_i hP1 (s_l1In (l[i]'(by omega)).keep 0 400) (.inl ⟨rfl, fun _ hx => nomatch hx⟩) ?_)
          simp +decide (maxSteps := 20000000) (disch := omega) only [↓SBK, ↓SBK2, SX, Nat.reduceEqDiff, Nat.reduceAdd, Nat.reduceMul, Nat.reduceSub, ↓reduceIte, Int.reduceNeg, Int.reduceToNat, Int.reducePow, hmd, hks, hQ, hmd1, hks1, hQ1, hC]
          rw [faultsOk, faultsIn_no (i := i) (by omega) (by rw [hat, hA, hB, hC]; rfl)]; rfl
        | true =>
          cases i with
          | zero =>
            simp +decide (maxSteps := 20000000) (disch := omega) only [↓SBK, ↓SBK2, SX, Nat.reduceEqDiff, Nat.reduceAdd, Nat.reduceMul, Nat.reduceSub, ↓reduceIte, Int.reduceNeg, Int.reduceToNat, Int.reducePow, hmd, hks, hQ, hmd1, hks1, hQ1, getE h1]
            (first | refine call_i hP1 (s_l1In (l[0]'(by omega)).at' 0 100000) (.inl ⟨rfl, fun _ hx => nomatch hx⟩) ?_ | refine callH_i hP1 (s_l1In (l[0]'(by omega)).at' 0 100000) (.inl ⟨rfl, fun _ hx => nomatch hx⟩) ?_)
            simp +decide (maxSteps := 20000000) (disch := omega) only [↓SBK, ↓SBK2, SX, Nat.reduceEqDiff, Nat.reduceAdd, Nat.reduceMul, Nat.reduceSub, ↓reduceIte, Int.reduceNeg, Int.reduceToNat, Int.reducePow, hmd, hks, hQ, hmd1, hks1, hQ1, hA, getE h1]
            (first | refine call_i hP1 (s_l1In (l[0]'(by omega)).kind 1 2) (.inl ⟨rfl, fun _ hx => nomatch hx⟩) ?_ | refine callH_i hP1 (s_l1In (l[0]'(by omega)).kind 1 2) (.inl ⟨rfl, fun _ hx => nomatch hx⟩) ?_)
            simp +decide (maxSteps := 20000000) (disch := omega) only [↓SBK, ↓SBK2, SX, Nat.reduceEqDiff, Nat.reduceAdd, Nat.reduceMul, Nat.reduceSub, ↓reduceIte, Int.reduceNeg, Int.reduceToNat, Int.reducePow, hmd, hks, hQ, hmd1, hks1, hQ1, hB, getE h1]
            (first | refine call_i hP1 (s_l1In (l[0]'(by omega)).keep 0 400) (.inl ⟨rfl, fun _ hx => nomatch hx⟩) ?_ | refine callH_i hP1 (s_l1In (l[0]'(by omega)).keep 0 400) (.inl ⟨rfl, fun _ hx => nomatch hx⟩) ?_)
            simp +decide (maxSteps := 20000000) (disch := omega) only [↓SBK, ↓SBK2, SX, Nat.reduceEqDiff, Nat.reduceAdd, Nat.reduceMul, Nat.reduceSub, ↓reduceIte, Int.reduceNeg, Int.reduceToNat, Int.reducePow, hmd, hks, hQ, hmd1, hks1, hQ1, hC]
            exact ⟨1, rfl, ⟨by omega, lt_step hk (by rw [hat, hA, hB, hC]; rfl)⟩, by omega⟩
          | succ m =>
            have w4 : decide ((0 : Int) < ((m + 1 : Nat) : Int)) = true := decide_eq_true (by omega)
            have hm := getE (show ((m : Nat) : Int) < (l.length : Nat) by omega)
            cases hD : decide ((l[m]'(by omega)).at' < (l[m + 1]'(by omega)).at') with
            | false =>
              have hD' : decide ((l[m + 1]'(by omega)).at' ≤ (l[m]'(by omega)).at') = true := decide_eq_true (by simpa using hD)
              simp +decide (maxSteps := 20000000) (disch := omega) only [↓SBK, ↓SBK2, SX, Nat.reduceEqDiff, Nat.reduceAdd, Nat.reduceMul, Nat.reduceSub, ↓reduceIte, Int.reduceNeg, Int.reduceToNat, Int.reducePow, hmd, hks, hQ, hmd1, hks1, hQ1, getE h1]
              (first | refine call_i hP1 (s_l1In (l[m + 1]'(by omega)).at' 0 100000) (.inl ⟨rfl, fun _ hx => nomatch hx⟩) ?_ | refine callH_i hP1 (s_l1In (l[m + 1]'(by omega)).at' 0 100000) (.inl ⟨rfl, fun _ hx => nomatch hx⟩) ?_)
              simp +decide (maxSteps := 20000000) (disch := omega) only [↓SBK, ↓SBK2, SX, Nat.reduceEqDiff, Nat.reduceAdd, Nat.reduceMul, Nat.reduceSub, ↓reduceIte, Int.reduceNeg, Int.reduceToNat, Int.reducePow, hmd, hks, hQ, hmd1, hks1, hQ1, hA, getE h1]
              (first | refine call_i hP1 (s_l1In (l[m + 1]'(by omega)).kind 1 2) (.inl ⟨rfl, fun _ hx => nomatch hx⟩) ?_ | refine callH_i hP1 (s_l1In (l[m + 1]'(by omega)).kind 1 2) (.inl ⟨rfl, fun _ hx => nomatch hx⟩) ?_)
              simp +decide (maxSteps := 20000000) (disch := omega) only [↓SBK, ↓SBK2, SX, Nat.reduceEqDiff, Nat.reduceAdd, Nat.reduceMul, Nat.reduceSub, ↓reduceIte, Int.reduceNeg, Int.reduceToNat, Int.reducePow, hmd, hks, hQ, hmd1, hks1, hQ1, hB, getE h1]
              (first | refine call_i hP1 (s_l1In (l[m + 1]'(by omega)).keep 0 400) (.inl ⟨rfl, fun _ hx => nomatch hx⟩) ?_ | refine callH_i hP1 (s_l1In (l[m + 1]'(by omega)).keep 0 400) (.inl ⟨rfl, fun _ hx => nomatch hx⟩) ?_)
              simp +decide (maxSteps := 20000000) (disch := omega) only [↓SBK, ↓SBK2, SX, Nat.reduceEqDiff, Nat.reduceAdd, Nat.reduceMul, Nat.reduceSub, ↓reduceIte, Int.reduceNeg, Int.reduceToNat, Int.reducePow, hmd, hks, hQ, hmd1, hks1, hQ1, hC, w4, cast_pred, hm, getE h1, hD']
              rw [faultsOk, faultsIn_no (i := m + 1) (by omega) (by rw [hat, hA, hB, hC, prevF_at (by omega), hD]; rfl)]; rfl
            | true =>
              have hD' : decide ((l[m + 1]'(by omega)).at' ≤ (l[m]'(by omega)).at') = false := decide_eq_false (by have := of_decide_eq_true hD; omega)
              simp +decide (maxSteps := 20000000) (disch := omega) only [↓SBK, ↓SBK2, SX, Nat.reduceEqDiff, Nat.reduceAdd, Nat.reduceMul, Nat.reduceSub, ↓reduceIte, Int.reduceNeg, Int.reduceToNat, Int.reducePow, hmd, hks, hQ, hmd1, hks1, hQ1, getE h1]
              (first | refine call_i hP1 (s_l1In (l[m + 1]'(by omega)).at' 0 100000) (.inl ⟨rfl, fun _ hx => nomatch hx⟩) ?_ | refine callH_i hP1 (s_l1In (l[m + 1]'(by omega)).at' 0 100000) (.inl ⟨rfl, fun _ hx => nomatch hx⟩) ?_)
              simp +decide (maxSteps := 20000000) (disch := omega) only [↓SBK, ↓SBK2, SX, Nat.reduceEqDiff, Nat.reduceAdd, Nat.reduceMul, Nat.reduceSub, ↓reduceIte, Int.reduceNeg, Int.reduceToNat, Int.reducePow, hmd, hks, hQ, hmd1, hks1, hQ1, hA, getE h1]
              (first | refine call_i hP1 (s_l1In (l[m + 1]'(by omega)).kind 1 2) (.inl ⟨rfl, fun _ hx => nomatch hx⟩) ?_ | refine callH_i hP1 (s_l1In (l[m + 1]'(by omega)).kind 1 2) (.inl ⟨rfl, fun _ hx => nomatch hx⟩) ?_)
              simp +decide (maxSteps := 20000000) (disch := omega) only [↓SBK, ↓SBK2, SX, Nat.reduceEqDiff, Nat.reduceAdd, Nat.reduceMul, Nat.reduceSub, ↓reduceIte, Int.reduceNeg, Int.reduceToNat, Int.reducePow, hmd, hks, hQ, hmd1, hks1, hQ1, hB, getE h1]
              (first | refine call_i hP1 (s_l1In (l[m + 1]'(by omega)).keep 0 400) (.inl ⟨rfl, fun _ hx => nomatch hx⟩) ?_ | refine callH_i hP1 (s_l1In (l[m + 1]'(by omega)).keep 0 400) (.inl ⟨rfl, fun _ hx => nomatch hx⟩) ?_)
              simp +decide (maxSteps := 20000000) (disch := omega) only [↓SBK, ↓SBK2, SX, Nat.reduceEqDiff, Nat.reduceAdd, Nat.reduceMul, Nat.reduceSub, ↓reduceIte, Int.reduceNeg, Int.reduceToNat, Int.reducePow, hmd, hks, hQ, hmd1, hks1, hQ1, hC, w4, cast_pred, hm, getE h1, hD']
              exact ⟨m + 1 + 1, rfl, ⟨by omega, lt_step hk (by rw [hat, hA, hB, hC, prevF_at (by omega), hD]; rfl)⟩, by omega⟩
  · obtain rfl : i = l.length := by omega
    simp +decide (maxSteps := 20000000) (disch := omega) only [↓SBK, ↓SBK2, SX, Nat.reduceEqDiff, Nat.reduceAdd, Nat.reduceMul, Nat.reduceSub, ↓reduceIte, Int.reduceNeg, Int.reduceToNat, Int.reducePow, hmd, hks, hQ, hmd1, hks1, hQ1]
    rw [faultsOk, faultsIn_yes hk]; rfl
end Go.Proofs.Ytliklgcfdgdigaa.Awp

