/- Contracts of the functions that laws.FnPowers reaches are proved here (part 1). Condition: none. -/
import Derived.Test.YtliklgcfdgdigaaAwp4
import Derived.Test.YtliklgcfdgdigaaRows
import Derived.OpenShut
import Derived.KernelRfl
namespace Go.Proofs.Ytliklgcfdgdigaa.Awp
open I

def c_L_FnPowers : Cmd := Q (R [n 2 (asg 2 k0)]) (Q (Q (R [n 17 (mov 17 (v 0)), n 18 (call (some 18) 68 [v 17])]) (F (v 18) (Q (R [n 2 (asg 2 k1)]) .ret) .skip)) (Q (R [n 19 (mov 19 (v 0)), n 20 (call (some 20) 117 [v 19]), n 3 (alc 3 [.sl 3 [], .int .i64 0, .sl 3 [], .bool false]), m (st (v 3) (v 20) 4)]) (Q (R [n 21 (ld 21 (v 3) 4 true), n 22 (call (some 22) 110 [v 21]), n 4 (alc 4 [.sl 3 [], .int .i64 0, .sl 3 [], .bool false]), m (st (v 4) (v 22) 4)]) (Q (R [n 23 (ld 23 (v 4) 4 true), n 5 (alc 5 [.sl 3 [], .int .i64 0, .sl 3 [], .bool false]), m (st (v 5) (v 23) 4)]) (Q (R [n 24 (fld 24 (v 5) 3), m (st (v 24) k1 1)]) (Q (R [n 26 (ld 26 (v 5) 4 true), n 27 (bsl 27 1 [.c (.int .u8 1)]), n 28 (call (some 28) 112 [v 26, k 0, v 27]), n 25 (mov 25 (v 28)), n 29 (xtr 29 (v 25) 0), n 30 (xtr 30 (v 25) 1), n 6 (alc 6 [.sl 3 [], .int .i64 0, .sl 3 [], .bool false]), m (st (v 6) (v 29) 4), n 7 (asg 7 (v 30))]) (Q (R [n 32 (ld 32 (v 5) 4 true), n 33 (call (some 33) 115 [v 32, k 0]), n 31 (mov 31 (v 33)), n 34 (xtr 34 (v 31) 0), n 35 (xtr 35 (v 31) 1), n 8 (alc 8 [.sl 3 [], .int .i64 0, .sl 3 [], .bool false]), m (st (v 8) (v 34) 4), n 9 (asg 9 (v 35))]) (Q (R [n 37 (mov 37 (v 0)), n 38 (call (some 38) 118 [v 37]), n 36 (mov 36 (v 38)), n 39 (xtr 39 (v 36) 0), n 40 (xtr 40 (v 36) 1), n 10 (asg 10 (v 39)), n 11 (asg 11 (v 40))]) (Q (R [n 41 (mov 41 (v 10)), n 42 (mov 42 (v 11)), n 43 (call (some 43) 104 [v 41, v 42]), n 12 (alc 12 [.sl 3 [], .int .i64 0, .sl 3 [], .bool false]), m (st (v 12) (v 43) 4)]) (Q (R [n 45 (ld 45 (v 3) 4 true), n 46 (call (some 46) 84 [v 45]), n 44 (mov 44 (v 46)), n 47 (xtr 47 (v 44) 0), n 48 (xtr 48 (v 44) 1), n 13 (alc 13 [.int .i64 0, .int .i64 0, .int .i64 0]), m (st (v 13) (v 47) 3), n 14 (asg 14 (v 48))]) (Q (R [n 50 (ld 50 (v 3) 4 true), n 51 (call (some 51) 82 [v 50]), n 49 (mov 49 (v 51)), n 52 (xtr 52 (v 49) 0), n 53 (xtr 53 (v 49) 1), n 15 (alc 15 [.int .i64 0, .int .i64 0, .int .i64 0]), m (st (v 15) (v 52) 3), n 16 (asg 16 (v 53))]) (Q (Q (D [0, 0, 3, 7, 15, 15, 63, 127, 255, 511, 1023, 511, 4095, 8191, 16383, 32767, 65535, 131071, 262143, 524287, 65535, 65535, 3211263, 7405567, 15794175, 32571391, 67108863, 134217727, 268435455, 536870911, 1073741823, 2147483647, 4294967295, 8589934591, 536870911, 17716740095, 68719476735, 137438953471] [n 54 (mov 54 (v 14)), n 55 (mov 55 (v 16)), n 56 (beq 56 true (v 54) (v 55)), n 57 (mov 57 (v 56)), h 57 false 58 (ld 58 (v 13) 3 true), h 57 false 59 (ld 59 (v 15) 3 true), h 57 false 60 (eqs 60 true [0, 0, 0] (v 58) (v 59)), n 61 (pck 61 (v 57) k1 (v 60)), n 62 (mov 62 (v 61)), h 62 false 63 (ld 63 (v 3) 4 true), h 62 false 64 (call (some 64) 95 [v 63]), h 62 false 65 (ld 65 (v 3) 4 true), h 62 false 66 (call (some 66) 94 [v 65]), h 62 false 67 (beq 67 true (v 64) (v 66)), n 68 (pck 68 (v 62) k1 (v 67)), n 69 (mov 69 (v 68)), h 69 false 70 (fld 70 (v 12) 0), h 69 false 71 (fld 71 (v 70) 0), h 69 false 72 (ld 72 (v 71) 1 false), h 69 false 73 (len 73 (v 72)), h 69 false 74 (mov 74 (v 10)), h 69 false 75 (mov 75 (v 11)), h 69 false 76 (call (some 76) 102 [v 74, v 75]), h 69 false 77 (fldv 77 (v 76) 0 1 true), h 69 false 78 (fldv 78 (v 77) 0 1 false), h 69 false 79 (len 79 (v 78)), h 69 false 80 (bin 80 .neq (v 73) (v 79)), n 81 (pck 81 (v 69) k1 (v 80)), n 82 (mov 82 (v 81)), h 82 false 83 (fld 83 (v 12) 0), h 82 false 84 (fld 84 (v 83) 0), h 82 false 85 (ld 85 (v 84) 1 false), h 82 false 86 (len 86 (v 85)), h 82 false 87 (bin 87 .gtr (v 86) (k 0)), h 82 false 88 (ld 88 (v 12) 4 true), h 82 false 89 (call (some 89) 95 [v 88]), h 82 false 90 (beq 90 true (v 87) (v 89)), n 91 (pck 91 (v 82) k1 (v 90))]) (F (v 91) (Q (R [n 2 (asg 2 k0)]) .ret) .skip)) (Q (Q (R [n 92 (ld 92 (v 3) 4 true), n 93 (call (some 93) 94 [v 92]), n 94 (un 94 .not (v 93))]) (F (v 94) (Q (R [n 95 (mov 95 (v 7)), n 96 (bin 96 .eql (v 95) (k 1)), n 97 (mov 97 (v 96)), h 97 true 98 (mov 98 (v 9)), h 97 true 99 (bin 99 .eql (v 98) (k 1)), n 100 (pck 100 (v 97) (v 99) k0), n 2 (asg 2 (v 100))]) .ret) .skip)) (Q (R [n 101 (fld 101 (v 4) 3), n 102 (ld 102 (v 101) 1 false), n 103 (un 103 .not (v 102)), n 104 (mov 104 (v 103)), h 104 true 105 (fld 105 (v 4) 0), h 104 true 106 (ld 106 (v 105) 1 true), h 104 true 107 (fld 107 (v 3) 0), h 104 true 108 (ld 108 (v 107) 1 true), h 104 true 109 (call (some 109) 90 [v 106, v 108]), n 110 (pck 110 (v 104) (v 109) k0), n 111 (mov 111 (v 110)), h 111 true 112 (fld 112 (v 4) 1), h 111 true 113 (ld 113 (v 112) 1 false), h 111 true 114 (fld 114 (v 3) 1), h 111 true 115 (ld 115 (v 114) 1 false), h 111 true 116 (bin 116 .eql (v 113) (v 115)), n 117 (pck 117 (v 111) (v 116) k0), n 118 (mov 118 (v 117)), h 118 true 119 (mov 119 (v 7)), h 118 true 120 (bin 120 .eql (v 119) (k 10)), n 121 (pck 121 (v 118) (v 120) k0), n 122 (mov 122 (v 121)), h 122 true 123 (mov 123 (v 9)), h 122 true 124 (bin 124 .eql (v 123) (k 10)), n 125 (pck 125 (v 122) (v 124) k0), n 2 (asg 2 (v 125))]) .ret))))))))))))))
def c_S_ChipNew : Cmd := Q (R [n 2 (alc 2 [.sl 3 []])]) (Q (R [n 5 (bld 5 [.sl 3 []] []), n 3 (alc 3 [.sl 3 []]), m (st (v 3) (v 5) 1)]) (Q (Q (R [n 4 (asg 4 (k 0))]) (.blk 0 (.loop (Q (Q (R [n 6 (mov 6 (v 4)), n 7 (mov 7 (v 0)), n 8 (bin 8 .lss (v 6) (v 7)), n 9 (mov 9 (v 8)), h 9 true 10 (mov 10 (v 0)), h 9 true 11 (call (some 11) 120 [v 10, k 3, k 24]), n 12 (pck 12 (v 9) (v 11) k0)]) (F (v 12) .skip (.exit 0))) (Q (.blk 1 (D [0, 1, 0, 4, 12, 31, 63, 127] [n 15 (fld 15 (v 3) 0), n 16 (ld 16 (v 15) 1 false), n 17 (mks 17 (k 8) (k 8) 2 32 [.bool false, .sl 1 []]), n 18 (bld 18 [.sl 2 [], .int .i64 0, .bool false] [(0, 1, v 17)]), n 19 (bsl 19 3 [v 18]), n 20 (app 20 (v 16) (v 19) 3 40), n 21 (fld 21 (v 3) 0), m (st (v 21) (v 20) 1)])) (R [n 13 (mov 13 (v 4)), n 14 (bin 14 .add (v 13) (k 1)), n 4 (asg 4 (v 14))])))))) (Q (R [n 22 (ld 22 (v 3) 1 true), m (st (v 2) (v 22) 1)]) .ret)))
def c_I_ChipNew : Cmd := Q (R [n 2 (alc 2 [.sl 3 []])]) (Q (Q (R [n 4 (mov 4 (v 0)), n 5 (call (some 5) 121 [v 4, k 3, k 24]), n 6 (un 6 .not (v 5))]) (F (v 6) (Q (R [n 7 (bld 7 [.sl 3 []] []), m (st (v 2) (v 7) 1)]) .ret) .skip)) (Q (R [n 8 (bld 8 [.sl 3 []] []), n 3 (alc 3 [.sl 3 []]), m (st (v 3) (v 8) 1)]) (Q (Q (R [n 9 (mov 9 (v 0)), n 10 (mov 10 (k 0))]) (.blk 0 (.loop (Q (R [n 11 (bin 11 .lss (v 10) (v 9))]) (Q (F (v 11) .skip (.exit 0)) (Q (.blk 1 (D [0, 1, 0, 4, 12, 31, 63, 127] [n 12 (fld 12 (v 3) 0), n 13 (ld 13 (v 12) 1 false), n 14 (mks 14 (k 8) (k 8) 2 32 [.bool false, .sl 1 []]), n 15 (bld 15 [.sl 2 [], .int .i64 0, .bool false] [(0, 1, v 14)]), n 16 (bsl 16 3 [v 15]), n 17 (app 17 (v 13) (v 16) 3 40), n 18 (fld 18 (v 3) 0), m (st (v 18) (v 17) 1)])) (R [n 19 (bin 19 .add (v 10) (k 1)), n 10 (mov 10 (v 19))]))))))) (Q (R [n 20 (ld 20 (v 3) 1 true), m (st (v 2) (v 20) 1)]) .ret))))
def c_S_NextPage : Cmd := Q (R [n 2 (box 2 (v 0)), n 4 (asg 4 (k 0))]) (Q (Q (R [n 5 (mov 5 (v 1)), n 6 (bin 6 .lss (v 5) (k 0)), n 7 (mov 7 (v 6)), h 7 false 8 (mov 8 (v 1)), h 7 false 9 (fld 9 (v 2) 0), h 7 false 10 (ld 10 (v 9) 1 false), h 7 false 11 (len 11 (v 10)), h 7 false 12 (bin 12 .geq (v 8) (v 11)), n 13 (pck 13 (v 7) k1 (v 12))]) (F (v 13) (Q (R [n 4 (asg 4 (k (-1)))]) .ret) .skip)) (Q (R [n 14 (fld 14 (v 2) 0), n 15 (ld 15 (v 14) 1 false), n 16 (mov 16 (v 1)), n 17 (idx 17 (v 15) (v 16) 3), n 18 (ld 18 (v 17) 3 true), n 19 (call (some 19) 138 [v 18]), n 4 (asg 4 (v 19))]) .ret))
def c_I_NextPage : Cmd := Q (R [n 2 (box 2 (v 0)), n 4 (asg 4 (k 0))]) (Q (Q (R [n 8 (ld 8 (v 2) 1 true), n 9 (mov 9 (v 1)), n 10 (call (some 10) 139 [v 8, v 9]), n 11 (un 11 .not (v 10))]) (F (v 11) (Q (R [n 4 (asg 4 (k (-1)))]) .ret) .skip)) (Q (R [n 5 (asg 5 (k 0))]) (Q (Q (R [n 12 (fld 12 (v 2) 0), n 13 (ld 13 (v 12) 1 false), n 14 (mov 14 (v 1)), n 15 (idx 15 (v 13) (v 14) 3), n 16 (fld 16 (v 15) 0), n 17 (ld 17 (v 16) 1 false), n 18 (len 18 (v 17)), n 19 (mov 19 (k 0))]) (.blk 0 (.loop (Q (R [n 20 (bin 20 .lss (v 19) (v 18))]) (Q (F (v 20) .skip (.exit 0)) (Q (.blk 1 (Q (R [n 21 (idx 21 (v 17) (v 19) 2), n 22 (ld 22 (v 21) 2 true), n 7 (alc 7 [.bool false, .sl 1 []]), m (st (v 7) (v 22) 2)]) (Q (R [n 23 (fld 23 (v 7) 0), n 24 (ld 24 (v 23) 1 false)]) (F (v 24) (R [n 25 (mov 25 (v 5)), n 26 (bin 26 .add (v 25) (k 1)), n 5 (asg 5 (v 26))]) .skip)))) (R [n 27 (bin 27 .add (v 19) (k 1)), n 19 (mov 19 (v 27))]))))))) (Q (R [n 28 (mov 28 (v 5)), n 4 (asg 4 (v 28))]) .ret))))
def c_S_ChipOk : Cmd := Q (R [n 1 (box 1 (v 0)), n 2 (asg 2 k0)]) (Q (Q (R [n 3 (asg 3 (k 0))]) (.blk 0 (.loop (Q (Q (R [n 4 (mov 4 (v 3)), n 5 (fld 5 (v 1) 0), n 6 (ld 6 (v 5) 1 false), n 7 (len 7 (v 6)), n 8 (bin 8 .lss (v 4) (v 7))]) (F (v 8) .skip (.exit 0))) (Q (.blk 1 (Q (R [n 11 (fld 11 (v 1) 0), n 12 (ld 12 (v 11) 1 false), n 13 (mov 13 (v 3)), n 14 (idx 14 (v 12) (v 13) 3), n 15 (ld 15 (v 14) 3 true), n 16 (call (some 16) 140 [v 15]), n 17 (un 17 .not (v 16))]) (F (v 17) (Q (R [n 2 (asg 2 k0)]) .ret) .skip))) (R [n 9 (mov 9 (v 3)), n 10 (bin 10 .add (v 9) (k 1)), n 3 (asg 3 (v 10))])))))) (Q (R [n 18 (fld 18 (v 1) 0), n 19 (ld 19 (v 18) 1 false), n 20 (len 20 (v 19)), n 21 (call (some 21) 120 [v 20, k 3, k 24]), n 2 (asg 2 (v 21))]) .ret))
def c_I_ChipOk : Cmd := Q (R [n 1 (box 1 (v 0)), n 2 (asg 2 k0)]) (Q (Q (R [n 7 (fld 7 (v 1) 0), n 8 (ld 8 (v 7) 1 false), n 9 (len 9 (v 8)), n 10 (mov 10 (k 0))]) (.blk 0 (.loop (Q (R [n 11 (bin 11 .lss (v 10) (v 9))]) (Q (F (v 11) .skip (.exit 0)) (Q (.blk 1 (Q (R [n 12 (idx 12 (v 8) (v 10) 3), n 13 (ld 13 (v 12) 3 true), n 4 (alc 4 [.sl 2 [], .int .i64 0, .bool false]), m (st (v 4) (v 13) 3)]) (Q (Q (R [n 14 (fld 14 (v 4) 0), n 15 (ld 15 (v 14) 1 false), n 16 (len 16 (v 15)), n 17 (bin 17 .neq (v 16) (k 8)), n 18 (mov 18 (v 17)), h 18 false 19 (fld 19 (v 4) 1), h 18 false 20 (ld 20 (v 19) 1 false), h 18 false 21 (call (some 21) 121 [v 20, k 0, k 100000]), h 18 false 22 (un 22 .not (v 21)), n 23 (pck 23 (v 18) k1 (v 22))]) (F (v 23) (Q (R [n 2 (asg 2 k0)]) .ret) .skip)) (Q (R [n 24 (fld 24 (v 4) 0), n 25 (ld 25 (v 24) 1 false), n 26 (len 26 (v 25)), n 27 (mov 27 (k 0))]) (.blk 2 (.loop (Q (R [n 28 (bin 28 .lss (v 27) (v 26))]) (Q (F (v 28) .skip (.exit 2)) (Q (.blk 3 (Q (R [n 29 (mov 29 (v 27)), n 30 (idx 30 (v 25) (v 27) 2), n 31 (ld 31 (v 30) 2 true), n 6 (alc 6 [.bool false, .sl 1 []]), n 5 (asg 5 (v 29)), m (st (v 6) (v 31) 2)]) (Q (R [n 32 (fld 32 (v 6) 1), n 33 (ld 33 (v 32) 1 false), n 34 (len 34 (v 33)), n 35 (bin 35 .gtr (v 34) (k 400)), n 36 (mov 36 (v 35)), h 36 false 37 (fld 37 (v 6) 0), h 36 false 38 (ld 38 (v 37) 1 false), h 36 false 39 (un 39 .not (v 38)), h 36 false 40 (mov 40 (v 39)), h 40 true 41 (fld 41 (v 6) 1), h 40 true 42 (ld 42 (v 41) 1 false), h 40 true 43 (len 43 (v 42)), h 40 true 44 (bin 44 .gtr (v 43) (k 0)), h 36 false 45 (pck 45 (v 40) (v 44) k0), n 46 (pck 46 (v 36) k1 (v 45)), n 47 (mov 47 (v 46)), h 47 false 48 (mov 48 (v 5)), h 47 false 49 (bin 49 .gtr (v 48) (k 0)), h 47 false 50 (mov 50 (v 49)), h 50 true 51 (fld 51 (v 6) 0), h 50 true 52 (ld 52 (v 51) 1 false), h 47 false 53 (pck 53 (v 50) (v 52) k0), h 47 false 54 (mov 54 (v 53)), h 54 true 55 (fld 55 (v 4) 0), h 54 true 56 (ld 56 (v 55) 1 false), h 54 true 57 (mov 57 (v 5)), h 54 true 58 (bin 58 .sub (v 57) (k 1)), h 54 true 59 (idx 59 (v 56) (v 58) 2), h 54 true 60 (fld 60 (v 59) 0), h 54 true 61 (ld 61 (v 60) 1 false), h 54 true 62 (un 62 .not (v 61)), h 47 false 63 (pck 63 (v 54) (v 62) k0), n 64 (pck 64 (v 47) k1 (v 63))]) (F (v 64) (Q (R [n 2 (asg 2 k0)]) .ret) .skip)))) (R [n 65 (bin 65 .add (v 27) (k 1)), n 27 (mov 27 (v 65))])))))))))) (R [n 66 (bin 66 .add (v 10) (k 1)), n 10 (mov 10 (v 66))]))))))) (Q (R [n 67 (fld 67 (v 1) 0), n 68 (ld 68 (v 67) 1 false), n 69 (len 69 (v 68)), n 70 (call (some 70) 121 [v 69, k 3, k 24]), n 2 (asg 2 (v 70))]) .ret))
def c_L_big : Cmd := Q (R [n 2 (asg 2 k0)]) (Q (R [n 3 (mov 3 (v 0)), n 4 (len 4 (v 3)), n 5 (bin 5 .gtr (v 4) (k 1048576)), n 2 (asg 2 (v 5))]) .ret)
def c_L_sameBytes : Cmd := Q (R [n 4 (asg 4 k0)]) (Q (Q (R [n 6 (mov 6 (v 0)), n 7 (len 7 (v 6)), n 8 (mov 8 (v 1)), n 9 (len 9 (v 8)), n 10 (bin 10 .neq (v 7) (v 9))]) (F (v 10) (Q (R [n 4 (asg 4 k0)]) .ret) .skip)) (Q (Q (R [n 5 (asg 5 (k 0))]) (.blk 0 (.loop (Q (Q (R [n 11 (mov 11 (v 5)), n 12 (mov 12 (v 0)), n 13 (len 13 (v 12)), n 14 (bin 14 .lss (v 11) (v 13))]) (F (v 14) .skip (.exit 0))) (Q (.blk 1 (Q (D [0, 0, 3, 7, 0, 0, 48, 112, 255] [n 17 (mov 17 (v 0)), n 18 (mov 18 (v 5)), n 19 (idx 19 (v 17) (v 18) 1), n 20 (ld 20 (v 19) 1 false), n 21 (mov 21 (v 1)), n 22 (mov 22 (v 5)), n 23 (idx 23 (v 21) (v 22) 1), n 24 (ld 24 (v 23) 1 false), n 25 (bin 25 .neq (v 20) (v 24))]) (F (v 25) (Q (R [n 4 (asg 4 k0)]) .ret) .skip))) (R [n 15 (mov 15 (v 5)), n 16 (bin 16 .add (v 15) (k 1)), n 5 (asg 5 (v 16))])))))) (Q (R [n 4 (asg 4 k1)]) .ret)))
def c_I_Program : Cmd := Q (R [n 3 (box 3 (v 0)), n 6 (alc 6 [.sl 3 []]), n 7 (asg 7 (k 0))]) (Q (R [n 9 (ld 9 (v 3) 1 true), n 10 (call (some 10) 149 [v 9]), m (st (v 3) (v 10) 1)]) (Q (Q (R [n 11 (ld 11 (v 3) 1 true), n 12 (call (some 12) 67 [v 11]), n 13 (un 13 .not (v 12)), n 14 (mov 14 (v 13)), h 14 false 15 (ld 15 (v 3) 1 true), h 14 false 16 (mov 16 (v 1)), h 14 false 17 (call (some 17) 139 [v 15, v 16]), h 14 false 18 (un 18 .not (v 17)), n 19 (pck 19 (v 14) k1 (v 18)), n 20 (mov 20 (v 19)), h 20 false 21 (mov 21 (v 2)), h 20 false 22 (len 22 (v 21)), h 20 false 23 (bin 23 .gtr (v 22) (k 400)), n 24 (pck 24 (v 20) k1 (v 23))]) (F (v 24) (Q (R [n 25 (ld 25 (v 3) 1 true), m (st (v 6) (v 25) 1), n 7 (asg 7 (k 1))]) .ret) .skip)) (Q (R [n 26 (ld 26 (v 3) 1 true), n 27 (mov 27 (v 1)), n 28 (call (some 28) 65 [v 26, v 27]), n 8 (asg 8 (v 28))]) (Q (.blk 0 (Q (R [n 30 (fld 30 (v 3) 0), n 31 (ld 31 (v 30) 1 false), n 32 (mov 32 (v 1)), n 33 (idx 33 (v 31) (v 32) 3), n 34 (fld 34 (v 33) 2), n 35 (ld 35 (v 34) 1 false), n 29 (asg 29 (v 35))]) (F (v 29) (Q (R [n 36 (ld 36 (v 3) 1 true), m (st (v 6) (v 36) 1), n 7 (asg 7 (k 2))]) .ret) (Q (R [n 38 (mov 38 (v 8)), n 39 (bin 39 .eql (v 38) (k 8)), n 37 (asg 37 (v 39))]) (F (v 37) (Q (R [n 40 (ld 40 (v 3) 1 true), m (st (v 6) (v 40) 1), n 7 (asg 7 (k 5))]) .ret) .skip))))) (Q (D [0, 1, 0, 7, 15, 31, 0, 0, 128, 384, 1023, 2047] [n 41 (fld 41 (v 3) 0), n 42 (ld 42 (v 41) 1 false), n 43 (mov 43 (v 1)), n 44 (idx 44 (v 42) (v 43) 3), n 45 (fld 45 (v 44) 0), n 46 (ld 46 (v 45) 1 false), n 47 (mov 47 (v 8)), n 48 (mov 48 (v 2)), n 49 (call (some 49) 144 [v 48]), n 50 (bld 50 [.bool false, .sl 1 []] [(0, 1, k1), (1, 1, v 49)]), n 51 (idx 51 (v 46) (v 47) 2), m (st (v 51) (v 50) 2)]) (Q (R [n 52 (ld 52 (v 3) 1 true), m (st (v 6) (v 52) 1), n 7 (asg 7 (k 0))]) .ret))))))
def c_S_FaultAt : Cmd := Q (R [n 1 (box 1 (v 0)), n 2 (alc 2 [.int .i64 0, .int .i64 0, .int .i64 0]), n 3 (asg 3 k0)]) (Q (Q (R [n 4 (asg 4 (k 0))]) (.blk 0 (.loop (Q (Q (R [n 5 (mov 5 (v 4)), n 6 (fld 6 (v 1) 2), n 7 (ld 7 (v 6) 1 false), n 8 (len 8 (v 7)), n 9 (bin 9 .lss (v 5) (v 8))]) (F (v 9) .skip (.exit 0))) (Q (.blk 1 (Q (D [0, 1, 0, 7, 15, 31, 0, 64, 255] [n 12 (fld 12 (v 1) 2), n 13 (ld 13 (v 12) 1 false), n 14 (mov 14 (v 4)), n 15 (idx 15 (v 13) (v 14) 3), n 16 (fld 16 (v 15) 0), n 17 (ld 17 (v 16) 1 false), n 18 (fld 18 (v 1) 1), n 19 (ld 19 (v 18) 1 false), n 20 (bin 20 .eql (v 17) (v 19))]) (F (v 20) (Q (R [n 21 (fld 21 (v 1) 2), n 22 (ld 22 (v 21) 1 false), n 23 (mov 23 (v 4)), n 24 (idx 24 (v 22) (v 23) 3), n 25 (ld 25 (v 24) 3 true), m (st (v 2) (v 25) 3), n 3 (asg 3 k1)]) .ret) .skip))) (R [n 10 (mov 10 (v 4)), n 11 (bin 11 .add (v 10) (k 1)), n 4 (asg 4 (v 11))])))))) (Q (R [n 26 (bld 26 [.int .i64 0, .int .i64 0, .int .i64 0] []), m (st (v 2) (v 26) 3), n 3 (asg 3 k0)]) .ret))
def c_I_FaultAt : Cmd := Q (R [n 1 (box 1 (v 0)), n 2 (alc 2 [.int .i64 0, .int .i64 0, .int .i64 0]), n 3 (asg 3 k0)]) (Q (Q (R [n 6 (fld 6 (v 1) 2), n 7 (ld 7 (v 6) 1 false), n 8 (len 8 (v 7)), n 9 (mov 9 (k 0))]) (.blk 0 (.loop (Q (R [n 10 (bin 10 .lss (v 9) (v 8))]) (Q (F (v 10) .skip (.exit 0)) (Q (.blk 1 (Q (R [n 11 (idx 11 (v 7) (v 9) 3), n 12 (ld 12 (v 11) 3 true), n 5 (alc 5 [.int .i64 0, .int .i64 0, .int .i64 0]), m (st (v 5) (v 12) 3)]) (Q (R [n 13 (fld 13 (v 5) 0), n 14 (ld 14 (v 13) 1 false), n 15 (fld 15 (v 1) 1), n 16 (ld 16 (v 15) 1 false), n 17 (bin 17 .eql (v 14) (v 16))]) (F (v 17) (Q (R [n 18 (ld 18 (v 5) 3 true), m (st (v 2) (v 18) 3), n 3 (asg 3 k1)]) .ret) .skip)))) (R [n 19 (bin 19 .add (v 9) (k 1)), n 9 (mov 9 (v 19))]))))))) (Q (R [n 20 (bld 20 [.int .i64 0, .int .i64 0, .int .i64 0] []), m (st (v 2) (v 20) 3), n 3 (asg 3 k0)]) .ret))
def c_I_Erase : Cmd := Q (R [n 2 (box 2 (v 0)), n 4 (alc 4 [.sl 3 []]), n 5 (asg 5 (k 0))]) (Q (R [n 6 (ld 6 (v 2) 1 true), n 7 (call (some 7) 149 [v 6]), m (st (v 2) (v 7) 1)]) (Q (Q (R [n 8 (ld 8 (v 2) 1 true), n 9 (call (some 9) 67 [v 8]), n 10 (un 10 .not (v 9)), n 11 (mov 11 (v 10)), h 11 false 12 (ld 12 (v 2) 1 true), h 11 false 13 (mov 13 (v 1)), h 11 false 14 (call (some 14) 139 [v 12, v 13]), h 11 false 15 (un 15 .not (v 14)), n 16 (pck 16 (v 11) k1 (v 15))]) (F (v 16) (Q (R [n 17 (ld 17 (v 2) 1 true), m (st (v 4) (v 17) 1), n 5 (asg 5 (k 1))]) .ret) .skip)) (Q (.blk 0 (Q (R [n 19 (fld 19 (v 2) 0), n 20 (ld 20 (v 19) 1 false), n 21 (mov 21 (v 1)), n 22 (idx 22 (v 20) (v 21) 3), n 23 (fld 23 (v 22) 2), n 24 (ld 24 (v 23) 1 false), n 18 (asg 18 (v 24))]) (F (v 18) (Q (R [n 25 (ld 25 (v 2) 1 true), m (st (v 4) (v 25) 1), n 5 (asg 5 (k 2))]) .ret) (Q (R [n 27 (fld 27 (v 2) 0), n 28 (ld 28 (v 27) 1 false), n 29 (mov 29 (v 1)), n 30 (idx 30 (v 28) (v 29) 3), n 31 (fld 31 (v 30) 1), n 32 (ld 32 (v 31) 1 false), n 33 (bin 33 .eql (v 32) (k 100000)), n 26 (asg 26 (v 33))]) (F (v 26) (Q (R [n 34 (ld 34 (v 2) 1 true), m (st (v 4) (v 34) 1), n 5 (asg 5 (k 5))]) .ret) .skip))))) (Q (D [0, 1, 0, 0, 15, 31, 63] [n 35 (fld 35 (v 2) 0), n 36 (ld 36 (v 35) 1 false), n 37 (mov 37 (v 1)), n 38 (mks 38 (k 8) (k 8) 2 32 [.bool false, .sl 1 []]), n 39 (idx 39 (v 36) (v 37) 3), n 40 (fld 40 (v 39) 0), m (st (v 40) (v 38) 1)]) (Q (R [n 41 (fld 41 (v 2) 0), n 42 (ld 42 (v 41) 1 false), n 43 (mov 43 (v 1)), n 44 (idx 44 (v 42) (v 43) 3), n 45 (fld 45 (v 44) 1), n 46 (ld 46 (v 45) 1 false), n 47 (bin 47 .add (v 46) (k 1)), n 48 (idx 48 (v 42) (v 43) 3), n 49 (fld 49 (v 48) 1), m (st (v 49) (v 47) 1)]) (Q (R [n 50 (ld 50 (v 2) 1 true), m (st (v 4) (v 50) 1), n 5 (asg 5 (k 0))]) .ret))))))
def c_S_Erase : Cmd := Q (R [n 2 (box 2 (v 0)), n 4 (alc 4 [.sl 3 []]), n 5 (asg 5 (k 0))]) (Q (R [n 8 (ld 8 (v 2) 1 true), n 9 (call (some 9) 151 [v 8]), n 6 (alc 6 [.sl 3 []]), m (st (v 6) (v 9) 1)]) (Q (R [n 10 (ld 10 (v 2) 1 true), n 11 (mov 11 (v 1)), n 12 (call (some 12) 152 [v 10, v 11]), n 7 (asg 7 (v 12))]) (Q (Q (R [n 13 (mov 13 (v 7)), n 14 (bin 14 .eql (v 13) (k 0))]) (F (v 14) (Q (D [0, 1, 0, 0, 15, 31, 63] [n 15 (fld 15 (v 6) 0), n 16 (ld 16 (v 15) 1 false), n 17 (mov 17 (v 1)), n 18 (mks 18 (k 8) (k 8) 2 32 [.bool false, .sl 1 []]), n 19 (idx 19 (v 16) (v 17) 3), n 20 (fld 20 (v 19) 0), m (st (v 20) (v 18) 1)]) (D [0, 1, 0, 0, 8, 0, 56, 120, 248, 504, 1023, 2047, 4095] [n 21 (fld 21 (v 6) 0), n 22 (ld 22 (v 21) 1 false), n 23 (mov 23 (v 1)), n 24 (fld 24 (v 2) 0), n 25 (ld 25 (v 24) 1 false), n 26 (mov 26 (v 1)), n 27 (idx 27 (v 25) (v 26) 3), n 28 (fld 28 (v 27) 1), n 29 (ld 29 (v 28) 1 false), n 30 (bin 30 .add (v 29) (k 1)), n 31 (idx 31 (v 22) (v 23) 3), n 32 (fld 32 (v 31) 1), m (st (v 32) (v 30) 1)])) .skip)) (Q (R [n 33 (ld 33 (v 6) 1 true), n 34 (mov 34 (v 7)), m (st (v 4) (v 33) 1), n 5 (asg 5 (v 34))]) .ret))))
def c_L_sameChip : Cmd := Q (R [n 2 (box 2 (v 0)), n 3 (box 3 (v 1)), n 4 (asg 4 k0)]) (Q (Q (R [n 9 (fld 9 (v 2) 0), n 10 (ld 10 (v 9) 1 false), n 11 (len 11 (v 10)), n 12 (fld 12 (v 3) 0), n 13 (ld 13 (v 12) 1 false), n 14 (len 14 (v 13)), n 15 (bin 15 .neq (v 11) (v 14))]) (F (v 15) (Q (R [n 4 (asg 4 k0)]) .ret) .skip)) (Q (Q (R [n 5 (asg 5 (k 0))]) (.blk 0 (.loop (Q (Q (R [n 16 (mov 16 (v 5)), n 17 (fld 17 (v 2) 0), n 18 (ld 18 (v 17) 1 false), n 19 (len 19 (v 18)), n 20 (bin 20 .lss (v 16) (v 19))]) (F (v 20) .skip (.exit 0))) (Q (.blk 1 (Q (R [n 23 (fld 23 (v 2) 0), n 24 (ld 24 (v 23) 1 false), n 25 (mov 25 (v 5)), n 26 (idx 26 (v 24) (v 25) 3), n 27 (ld 27 (v 26) 3 true), n 6 (alc 6 [.sl 2 [], .int .i64 0, .bool false]), m (st (v 6) (v 27) 3)]) (Q (R [n 28 (fld 28 (v 3) 0), n 29 (ld 29 (v 28) 1 false), n 30 (mov 30 (v 5)), n 31 (idx 31 (v 29) (v 30) 3), n 32 (ld 32 (v 31) 3 true), n 7 (alc 7 [.sl 2 [], .int .i64 0, .bool false]), m (st (v 7) (v 32) 3)]) (Q (Q (R [n 33 (fld 33 (v 6) 1), n 34 (ld 34 (v 33) 1 false), n 35 (fld 35 (v 7) 1), n 36 (ld 36 (v 35) 1 false), n 37 (bin 37 .neq (v 34) (v 36)), n 38 (mov 38 (v 37)), h 38 false 39 (fld 39 (v 6) 2), h 38 false 40 (ld 40 (v 39) 1 false), h 38 false 41 (fld 41 (v 7) 2), h 38 false 42 (ld 42 (v 41) 1 false), h 38 false 43 (beq 43 true (v 40) (v 42)), n 44 (pck 44 (v 38) k1 (v 43)), n 45 (mov 45 (v 44)), h 45 false 46 (fld 46 (v 6) 0), h 45 false 47 (ld 47 (v 46) 1 false), h 45 false 48 (len 48 (v 47)), h 45 false 49 (fld 49 (v 7) 0), h 45 false 50 (ld 50 (v 49) 1 false), h 45 false 51 (len 51 (v 50)), h 45 false 52 (bin 52 .neq (v 48) (v 51)), n 53 (pck 53 (v 45) k1 (v 52))]) (F (v 53) (Q (R [n 4 (asg 4 k0)]) .ret) .skip)) (Q (R [n 8 (asg 8 (k 0))]) (.blk 2 (.loop (Q (Q (R [n 54 (mov 54 (v 8)), n 55 (fld 55 (v 6) 0), n 56 (ld 56 (v 55) 1 false), n 57 (len 57 (v 56)), n 58 (bin 58 .lss (v 54) (v 57))]) (F (v 58) .skip (.exit 2))) (Q (.blk 3 (Q (D [0, 1, 0, 7, 15, 31, 0, 64, 0, 448, 960, 1984, 4095, 8191, 16383, 32767, 16383, 131071, 262143, 524287, 16383, 1064959, 16383, 7356415, 15745023, 32522239, 67108863, 134217727, 268435455] [n 61 (fld 61 (v 6) 0), n 62 (ld 62 (v 61) 1 false), n 63 (mov 63 (v 8)), n 64 (idx 64 (v 62) (v 63) 2), n 65 (fld 65 (v 64) 0), n 66 (ld 66 (v 65) 1 false), n 67 (fld 67 (v 7) 0), n 68 (ld 68 (v 67) 1 false), n 69 (mov 69 (v 8)), n 70 (idx 70 (v 68) (v 69) 2), n 71 (fld 71 (v 70) 0), n 72 (ld 72 (v 71) 1 false), n 73 (beq 73 true (v 66) (v 72)), n 74 (mov 74 (v 73)), h 74 false 75 (fld 75 (v 6) 0), h 74 false 76 (ld 76 (v 75) 1 false), h 74 false 77 (mov 77 (v 8)), h 74 false 78 (idx 78 (v 76) (v 77) 2), h 74 false 79 (fld 79 (v 78) 1), h 74 false 80 (ld 80 (v 79) 1 false), h 74 false 81 (fld 81 (v 7) 0), h 74 false 82 (ld 82 (v 81) 1 false), h 74 false 83 (mov 83 (v 8)), h 74 false 84 (idx 84 (v 82) (v 83) 2), h 74 false 85 (fld 85 (v 84) 1), h 74 false 86 (ld 86 (v 85) 1 false), h 74 false 87 (call (some 87) 72 [v 80, v 86]), h 74 false 88 (un 88 .not (v 87)), n 89 (pck 89 (v 74) k1 (v 88))]) (F (v 89) (Q (R [n 4 (asg 4 k0)]) .ret) .skip))) (R [n 59 (mov 59 (v 8)), n 60 (bin 60 .add (v 59) (k 1)), n 8 (asg 8 (v 60))])))))))))) (R [n 21 (mov 21 (v 5)), n 22 (bin 22 .add (v 21) (k 1)), n 5 (asg 5 (v 22))])))))) (Q (R [n 4 (asg 4 k1)]) .ret)))
def c_S_Program : Cmd := Q (R [n 3 (box 3 (v 0)), n 6 (alc 6 [.sl 3 []]), n 7 (asg 7 (k 0))]) (Q (R [n 10 (ld 10 (v 3) 1 true), n 11 (call (some 11) 151 [v 10]), n 8 (alc 8 [.sl 3 []]), m (st (v 8) (v 11) 1)]) (Q (R [n 12 (ld 12 (v 3) 1 true), n 13 (mov 13 (v 1)), n 14 (mov 14 (v 2)), n 15 (call (some 15) 155 [v 12, v 13, v 14]), n 9 (asg 9 (v 15))]) (Q (Q (R [n 16 (mov 16 (v 9)), n 17 (bin 17 .eql (v 16) (k 0))]) (F (v 17) (D [0, 1, 0, 7, 15, 31, 0, 0, 192, 0, 0, 1984, 4032, 8191, 16383] [n 18 (fld 18 (v 8) 0), n 19 (ld 19 (v 18) 1 false), n 20 (mov 20 (v 1)), n 21 (idx 21 (v 19) (v 20) 3), n 22 (fld 22 (v 21) 0), n 23 (ld 23 (v 22) 1 false), n 24 (ld 24 (v 3) 1 true), n 25 (mov 25 (v 1)), n 26 (call (some 26) 64 [v 24, v 25]), n 27 (bsl 27 1 []), n 28 (mov 28 (v 2)), n 29 (app 29 (v 27) (v 28) 1 1), n 30 (bld 30 [.bool false, .sl 1 []] [(0, 1, k1), (1, 1, v 29)]), n 31 (idx 31 (v 23) (v 26) 2), m (st (v 31) (v 30) 2)]) .skip)) (Q (R [n 32 (ld 32 (v 8) 1 true), n 33 (mov 33 (v 9)), m (st (v 6) (v 32) 1), n 7 (asg 7 (v 33))]) .ret))))
def c_S_DevOk : Cmd := Q (R [n 1 (box 1 (v 0)), n 2 (asg 2 k0)]) (Q (R [n 3 (fld 3 (v 1) 0), n 4 (ld 4 (v 3) 1 true), n 5 (call (some 5) 66 [v 4]), n 6 (mov 6 (v 5)), h 6 true 7 (fld 7 (v 1) 1), h 6 true 8 (ld 8 (v 7) 1 false), h 6 true 9 (call (some 9) 120 [v 8, k 0, k 100000]), n 10 (pck 10 (v 6) (v 9) k0), n 11 (mov 11 (v 10)), h 11 true 12 (fld 12 (v 1) 2), h 11 true 13 (ld 13 (v 12) 1 false), h 11 true 14 (call (some 14) 157 [v 13]), n 15 (pck 15 (v 11) (v 14) k0), n 2 (asg 2 (v 15))]) .ret)
def c_I_DevOk : Cmd := Q (R [n 1 (box 1 (v 0)), n 2 (asg 2 k0)]) (Q (Q (R [n 5 (fld 5 (v 1) 2), n 6 (ld 6 (v 5) 1 false), n 7 (len 7 (v 6)), n 8 (mov 8 (k 0))]) (.blk 0 (.loop (Q (R [n 9 (bin 9 .lss (v 8) (v 7))]) (Q (F (v 9) .skip (.exit 0)) (Q (.blk 1 (Q (R [n 10 (mov 10 (v 8)), n 11 (idx 11 (v 6) (v 8) 3), n 12 (ld 12 (v 11) 3 true), n 4 (alc 4 [.int .i64 0, .int .i64 0, .int .i64 0]), n 3 (asg 3 (v 10)), m (st (v 4) (v 12) 3)]) (Q (D [0, 1, 3, 7, 15, 31, 63, 127, 255, 511, 1023, 2047, 4095, 8191, 16383, 32767, 65535, 131071, 262143, 524287, 1048575, 2097151, 1048575, 5242879, 16777215, 33554431, 67108863, 1048575, 135266303, 536870911, 1073741823, 2147483647] [n 13 (fld 13 (v 4) 0), n 14 (ld 14 (v 13) 1 false), n 15 (call (some 15) 121 [v 14, k 0, k 100000]), n 16 (un 16 .not (v 15)), n 17 (mov 17 (v 16)), h 17 false 18 (fld 18 (v 4) 1), h 17 false 19 (ld 19 (v 18) 1 false), h 17 false 20 (call (some 20) 121 [v 19, k 1, k 2]), h 17 false 21 (un 21 .not (v 20)), n 22 (pck 22 (v 17) k1 (v 21)), n 23 (mov 23 (v 22)), h 23 false 24 (fld 24 (v 4) 2), h 23 false 25 (ld 25 (v 24) 1 false), h 23 false 26 (call (some 26) 121 [v 25, k 0, k 400]), h 23 false 27 (un 27 .not (v 26)), n 28 (pck 28 (v 23) k1 (v 27)), n 29 (mov 29 (v 28)), h 29 false 30 (mov 30 (v 3)), h 29 false 31 (bin 31 .gtr (v 30) (k 0)), h 29 false 32 (mov 32 (v 31)), h 32 true 33 (fld 33 (v 1) 2), h 32 true 34 (ld 34 (v 33) 1 false), h 32 true 35 (mov 35 (v 3)), h 32 true 36 (bin 36 .sub (v 35) (k 1)), h 32 true 37 (idx 37 (v 34) (v 36) 3), h 32 true 38 (fld 38 (v 37) 0), h 32 true 39 (ld 39 (v 38) 1 false), h 32 true 40 (fld 40 (v 4) 0), h 32 true 41 (ld 41 (v 40) 1 false), h 32 true 42 (bin 42 .geq (v 39) (v 41)), h 29 false 43 (pck 43 (v 32) (v 42) k0), n 44 (pck 44 (v 29) k1 (v 43))]) (F (v 44) (Q (R [n 2 (asg 2 k0)]) .ret) .skip)))) (R [n 45 (bin 45 .add (v 8) (k 1)), n 8 (mov 8 (v 45))]))))))) (Q (R [n 46 (fld 46 (v 1) 0), n 47 (ld 47 (v 46) 1 true), n 48 (call (some 48) 67 [v 47]), n 49 (mov 49 (v 48)), h 49 true 50 (fld 50 (v 1) 1), h 49 true 51 (ld 51 (v 50) 1 false), h 49 true 52 (call (some 52) 121 [v 51, k 0, k 100000]), n 53 (pck 53 (v 49) (v 52) k0), n 54 (mov 54 (v 53)), h 54 true 55 (fld 55 (v 1) 2), h 54 true 56 (ld 56 (v 55) 1 false), h 54 true 57 (len 57 (v 56)), h 54 true 58 (bin 58 .leq (v 57) (k 20)), n 59 (pck 59 (v 54) (v 58) k0), n 2 (asg 2 (v 59))]) .ret))
def c_S_DevNew : Cmd := Q (R [n 4 (alc 4 [.sl 3 [], .int .i64 0, .sl 3 [], .bool false])]) (Q (R [n 6 (mov 6 (v 0)), n 7 (call (some 7) 48 [v 6]), n 8 (bsl 8 3 []), n 9 (mov 9 (v 1)), n 10 (app 10 (v 8) (v 9) 3 24), n 11 (bld 11 [.sl 3 [], .int .i64 0, .sl 3 [], .bool false] [(0, 1, v 7), (2, 1, v 10)]), n 5 (alc 5 [.sl 3 [], .int .i64 0, .sl 3 [], .bool false]), m (st (v 5) (v 11) 4)]) (Q (Q (R [n 12 (ld 12 (v 5) 4 true), n 13 (call (some 13) 94 [v 12]), n 14 (un 14 .not (v 13))]) (F (v 14) (Q (R [n 15 (bld 15 [.sl 3 [], .int .i64 0, .sl 3 [], .bool false] []), m (st (v 4) (v 15) 4)]) .ret) .skip)) (Q (R [n 16 (ld 16 (v 5) 4 true), m (st (v 4) (v 16) 4)]) .ret)))
def c_I_DevNew : Cmd := Q (R [n 4 (alc 4 [.sl 3 [], .int .i64 0, .sl 3 [], .bool false])]) (Q (R [n 6 (mov 6 (v 0)), n 7 (call (some 7) 49 [v 6]), n 8 (mov 8 (v 1)), n 9 (call (some 9) 159 [v 8]), n 10 (bld 10 [.sl 3 [], .int .i64 0, .sl 3 [], .bool false] [(0, 1, v 7), (2, 1, v 9)]), n 5 (alc 5 [.sl 3 [], .int .i64 0, .sl 3 [], .bool false]), m (st (v 5) (v 10) 4)]) (Q (Q (R [n 11 (ld 11 (v 5) 4 true), n 12 (call (some 12) 95 [v 11]), n 13 (un 13 .not (v 12))]) (F (v 13) (Q (R [n 14 (bld 14 [.sl 3 [], .int .i64 0, .sl 3 [], .bool false] []), m (st (v 4) (v 14) 4)]) .ret) .skip)) (Q (R [n 15 (ld 15 (v 5) 4 true), m (st (v 4) (v 15) 4)]) .ret)))
def c_I_PowerUp : Cmd := Q (R [n 1 (box 1 (v 0)), n 2 (alc 2 [.sl 3 [], .int .i64 0, .sl 3 [], .bool false])]) (Q (R [n 3 (ld 3 (v 1) 4 true), n 4 (call (some 4) 162 [v 3]), m (st (v 1) (v 4) 4)]) (Q (R [n 5 (fld 5 (v 1) 3), m (st (v 5) k0 1)]) (Q (R [n 6 (ld 6 (v 1) 4 true), m (st (v 2) (v 6) 4)]) .ret)))
def c_I_DevProgram : Cmd := Q (R [n 3 (box 3 (v 0)), n 4 (box 4 (v 1)), n 5 (box 5 (v 2)), n 6 (alc 6 [.sl 3 [], .int .i64 0, .sl 3 [], .bool false]), n 7 (asg 7 (k 0))]) (Q (R [n 10 (ld 10 (v 3) 4 true), n 11 (call (some 11) 162 [v 10]), m (st (v 3) (v 11) 4)]) (Q (Q (R [n 12 (ld 12 (v 3) 4 true), n 13 (call (some 13) 95 [v 12]), n 14 (un 14 .not (v 13))]) (F (v 14) (Q (R [n 15 (ld 15 (v 3) 4 true), m (st (v 6) (v 15) 4), n 7 (asg 7 (k 1))]) .ret) .skip)) (Q (Q (R [n 16 (fld 16 (v 3) 3), n 17 (ld 17 (v 16) 1 false), n 18 (mov 18 (v 17)), h 18 false 19 (fld 19 (v 3) 1), h 18 false 20 (ld 20 (v 19) 1 false), h 18 false 21 (bin 21 .eql (v 20) (k 100000)), n 22 (pck 22 (v 18) k1 (v 21))]) (F (v 22) (Q (R [n 23 (ld 23 (v 3) 4 true), m (st (v 6) (v 23) 4), n 7 (asg 7 (k 10))]) .ret) .skip)) (Q (R [n 25 (fld 25 (v 3) 0), n 26 (ld 26 (v 25) 1 true), n 27 (ld 27 (v 4) 1 false), n 28 (ld 28 (v 5) 1 false), n 29 (call (some 29) 78 [v 26, v 27, v 28]), n 24 (mov 24 (v 29)), n 30 (xtr 30 (v 24) 0), n 31 (xtr 31 (v 24) 1), n 8 (alc 8 [.sl 3 []]), m (st (v 8) (v 30) 1), n 9 (asg 9 (v 31))]) (Q (R [n 32 (ld 32 (v 3) 4 true), n 33 (ld 33 (v 4) 1 false), n 34 (ld 34 (v 8) 1 true), n 35 (mov 35 (v 9)), n 36 (mkf 36 165 [v 3, v 4, v 5]), n 37 (call (some 37) 164 [v 32, v 33, v 34, v 35, v 36]), n 38 (xtr 38 (v 37) 0), n 39 (xtr 39 (v 37) 1), m (st (v 6) (v 38) 4), n 7 (asg 7 (v 39))]) .ret)))))
def c_S_DevProgram : Cmd := Q (R [n 3 (box 3 (v 0)), n 6 (alc 6 [.sl 3 [], .int .i64 0, .sl 3 [], .bool false]), n 7 (asg 7 (k 0))]) (Q (R [n 13 (ld 13 (v 3) 4 true), n 14 (call (some 14) 161 [v 13]), n 8 (alc 8 [.sl 3 [], .int .i64 0, .sl 3 [], .bool false]), m (st (v 8) (v 14) 4)]) (Q (D [0, 0, 2, 0, 0, 30, 63, 127] [n 15 (ld 15 (v 3) 4 true), n 16 (fld 16 (v 3) 0), n 17 (ld 17 (v 16) 1 true), n 18 (mov 18 (v 1)), n 19 (mov 19 (v 2)), n 20 (call (some 20) 155 [v 17, v 18, v 19]), n 21 (call (some 21) 166 [v 15, v 20]), n 9 (asg 9 (v 21))]) (Q (Q (R [n 22 (mov 22 (v 9)), n 23 (bin 23 .neq (v 22) (k 0))]) (F (v 23) (Q (R [n 24 (ld 24 (v 8) 4 true), n 25 (mov 25 (v 9)), m (st (v 6) (v 24) 4), n 7 (asg 7 (v 25))]) .ret) .skip)) (Q (R [n 27 (ld 27 (v 3) 4 true), n 28 (call (some 28) 82 [v 27]), n 26 (mov 26 (v 28)), n 29 (xtr 29 (v 26) 0), n 30 (xtr 30 (v 26) 1), n 10 (alc 10 [.int .i64 0, .int .i64 0, .int .i64 0]), m (st (v 10) (v 29) 3), n 11 (asg 11 (v 30))]) (Q (R [n 31 (fld 31 (v 3) 1), n 32 (ld 32 (v 31) 1 false), n 33 (bin 33 .add (v 32) (k 1)), n 34 (fld 34 (v 8) 1), m (st (v 34) (v 33) 1)]) (Q (Q (R [n 35 (mov 35 (v 11)), n 36 (mov 36 (v 35)), h 36 true 37 (fld 37 (v 10) 1), h 36 true 38 (ld 38 (v 37) 1 false), h 36 true 39 (bin 39 .eql (v 38) (k 1)), n 40 (pck 40 (v 36) (v 39) k0)]) (F (v 40) (Q (R [n 41 (fld 41 (v 8) 0), n 42 (fld 42 (v 41) 0), n 43 (ld 43 (v 42) 1 false), n 44 (mov 44 (v 1)), n 45 (idx 45 (v 43) (v 44) 3), n 46 (fld 46 (v 45) 2), m (st (v 46) k1 1)]) (Q (R [n 47 (ld 47 (v 8) 4 true), m (st (v 6) (v 47) 4), n 7 (asg 7 (k 2))]) .ret)) .skip)) (Q (R [n 48 (mov 48 (v 2)), n 49 (len 49 (v 48)), n 12 (asg 12 (v 49))]) (Q (Q (R [n 50 (mov 50 (v 11)), n 51 (mov 51 (v 50)), h 51 true 52 (fld 52 (v 10) 2), h 51 true 53 (ld 53 (v 52) 1 false), h 51 true 54 (mov 54 (v 12)), h 51 true 55 (bin 55 .lss (v 53) (v 54)), n 56 (pck 56 (v 51) (v 55) k0)]) (F (v 56) (R [n 57 (fld 57 (v 10) 2), n 58 (ld 58 (v 57) 1 false), n 12 (asg 12 (v 58))]) .skip)) (Q (D [0, 1, 0, 0, 0, 24, 63, 127, 255, 511, 511, 1535] [n 60 (fld 60 (v 3) 0), n 61 (ld 61 (v 60) 1 true), n 62 (mov 62 (v 1)), n 63 (mov 63 (v 2)), n 64 (mov 64 (v 12)), n 65 (slc 65 (v 63) none (some (v 64)) 1), n 66 (call (some 66) 92 [v 61, v 62, v 65]), n 59 (mov 59 (v 66)), n 67 (xtr 67 (v 59) 0), n 68 (xtr 68 (v 59) 1), n 69 (fld 69 (v 8) 0), m (st (v 69) (v 67) 1)]) (Q (R [n 70 (mov 70 (v 11)), n 71 (fld 71 (v 8) 3), m (st (v 71) (v 70) 1)]) (Q (Q (R [n 72 (mov 72 (v 11))]) (F (v 72) (Q (R [n 73 (ld 73 (v 8) 4 true), m (st (v 6) (v 73) 4), n 7 (asg 7 (k 10))]) .ret) .skip)) (Q (R [n 74 (ld 74 (v 8) 4 true), m (st (v 6) (v 74) 4), n 7 (asg 7 (k 0))]) .ret))))))))))))
def c_I_DevErase : Cmd := Q (R [n 2 (box 2 (v 0)), n 3 (box 3 (v 1)), n 4 (alc 4 [.sl 3 [], .int .i64 0, .sl 3 [], .bool false]), n 5 (asg 5 (k 0))]) (Q (R [n 8 (ld 8 (v 2) 4 true), n 9 (call (some 9) 162 [v 8]), m (st (v 2) (v 9) 4)]) (Q (Q (R [n 10 (ld 10 (v 2) 4 true), n 11 (call (some 11) 95 [v 10]), n 12 (un 12 .not (v 11))]) (F (v 12) (Q (R [n 13 (ld 13 (v 2) 4 true), m (st (v 4) (v 13) 4), n 5 (asg 5 (k 1))]) .ret) .skip)) (Q (Q (R [n 14 (fld 14 (v 2) 3), n 15 (ld 15 (v 14) 1 false), n 16 (mov 16 (v 15)), h 16 false 17 (fld 17 (v 2) 1), h 16 false 18 (ld 18 (v 17) 1 false), h 16 false 19 (bin 19 .eql (v 18) (k 100000)), n 20 (pck 20 (v 16) k1 (v 19))]) (F (v 20) (Q (R [n 21 (ld 21 (v 2) 4 true), m (st (v 4) (v 21) 4), n 5 (asg 5 (k 10))]) .ret) .skip)) (Q (R [n 23 (fld 23 (v 2) 0), n 24 (ld 24 (v 23) 1 true), n 25 (ld 25 (v 3) 1 false), n 26 (call (some 26) 88 [v 24, v 25]), n 22 (mov 22 (v 26)), n 27 (xtr 27 (v 22) 0), n 28 (xtr 28 (v 22) 1), n 6 (alc 6 [.sl 3 []]), m (st (v 6) (v 27) 1), n 7 (asg 7 (v 28))]) (Q (R [n 29 (ld 29 (v 2) 4 true), n 30 (ld 30 (v 3) 1 false), n 31 (ld 31 (v 6) 1 true), n 32 (mov 32 (v 7)), n 33 (mkf 33 167 [v 2, v 3]), n 34 (call (some 34) 164 [v 29, v 30, v 31, v 32, v 33]), n 35 (xtr 35 (v 34) 0), n 36 (xtr 36 (v 34) 1), m (st (v 4) (v 35) 4), n 5 (asg 5 (v 36))]) .ret)))))
def c_S_DevErase : Cmd := Q (R [n 2 (box 2 (v 0)), n 4 (alc 4 [.sl 3 [], .int .i64 0, .sl 3 [], .bool false]), n 5 (asg 5 (k 0))]) (Q (R [n 11 (ld 11 (v 2) 4 true), n 12 (call (some 12) 161 [v 11]), n 6 (alc 6 [.sl 3 [], .int .i64 0, .sl 3 [], .bool false]), m (st (v 6) (v 12) 4)]) (Q (D [0, 0, 2, 0, 14, 31, 63] [n 13 (ld 13 (v 2) 4 true), n 14 (fld 14 (v 2) 0), n 15 (ld 15 (v 14) 1 true), n 16 (mov 16 (v 1)), n 17 (call (some 17) 152 [v 15, v 16]), n 18 (call (some 18) 166 [v 13, v 17]), n 7 (asg 7 (v 18))]) (Q (Q (R [n 19 (mov 19 (v 7)), n 20 (bin 20 .neq (v 19) (k 0))]) (F (v 20) (Q (R [n 21 (ld 21 (v 6) 4 true), n 22 (mov 22 (v 7)), m (st (v 4) (v 21) 4), n 5 (asg 5 (v 22))]) .ret) .skip)) (Q (R [n 24 (ld 24 (v 2) 4 true), n 25 (call (some 25) 82 [v 24]), n 23 (mov 23 (v 25)), n 26 (xtr 26 (v 23) 0), n 27 (xtr 27 (v 23) 1), n 8 (alc 8 [.int .i64 0, .int .i64 0, .int .i64 0]), m (st (v 8) (v 26) 3), n 9 (asg 9 (v 27))]) (Q (R [n 28 (fld 28 (v 2) 1), n 29 (ld 29 (v 28) 1 false), n 30 (bin 30 .add (v 29) (k 1)), n 31 (fld 31 (v 6) 1), m (st (v 31) (v 30) 1)]) (Q (Q (R [n 32 (mov 32 (v 9)), n 33 (mov 33 (v 32)), h 33 true 34 (fld 34 (v 8) 1), h 33 true 35 (ld 35 (v 34) 1 false), h 33 true 36 (bin 36 .eql (v 35) (k 1)), n 37 (pck 37 (v 33) (v 36) k0)]) (F (v 37) (Q (R [n 38 (fld 38 (v 6) 0), n 39 (fld 39 (v 38) 0), n 40 (ld 40 (v 39) 1 false), n 41 (mov 41 (v 1)), n 42 (idx 42 (v 40) (v 41) 3), n 43 (fld 43 (v 42) 2), m (st (v 43) k1 1)]) (Q (R [n 44 (ld 44 (v 6) 4 true), m (st (v 4) (v 44) 4), n 5 (asg 5 (k 2))]) .ret)) .skip)) (Q (R [n 46 (fld 46 (v 2) 0), n 47 (ld 47 (v 46) 1 true), n 48 (mov 48 (v 1)), n 49 (call (some 49) 89 [v 47, v 48]), n 45 (mov 45 (v 49)), n 50 (xtr 50 (v 45) 0), n 51 (xtr 51 (v 45) 1), n 52 (fld 52 (v 6) 0), m (st (v 52) (v 50) 1)]) (Q (Q (R [n 53 (mov 53 (v 9)), n 54 (un 54 .not (v 53))]) (F (v 54) (Q (R [n 55 (ld 55 (v 6) 4 true), m (st (v 4) (v 55) 4), n 5 (asg 5 (k 0))]) .ret) .skip)) (Q (Q (R [n 10 (asg 10 (k 0))]) (.blk 0 (.loop (Q (Q (R [n 56 (mov 56 (v 10)), n 57 (bin 57 .lss (v 56) (k 8)), n 58 (mov 58 (v 57)), h 58 true 59 (mov 59 (v 10)), h 58 true 60 (fld 60 (v 8) 2), h 58 true 61 (ld 61 (v 60) 1 false), h 58 true 62 (bin 62 .lss (v 59) (v 61)), n 63 (pck 63 (v 58) (v 62) k0)]) (F (v 63) .skip (.exit 0))) (Q (.blk 1 (R [n 66 (fld 66 (v 6) 0), n 67 (fld 67 (v 66) 0), n 68 (ld 68 (v 67) 1 false), n 69 (mov 69 (v 1)), n 70 (idx 70 (v 68) (v 69) 3), n 71 (fld 71 (v 70) 0), n 72 (ld 72 (v 71) 1 false), n 73 (mov 73 (v 10)), n 74 (bsl 74 1 []), n 75 (bld 75 [.bool false, .sl 1 []] [(0, 1, k1), (1, 1, v 74)]), n 76 (idx 76 (v 72) (v 73) 2), m (st (v 76) (v 75) 2)])) (R [n 64 (mov 64 (v 10)), n 65 (bin 65 .add (v 64) (k 1)), n 10 (asg 10 (v 65))])))))) (Q (R [n 77 (fld 77 (v 6) 3), m (st (v 77) k1 1)]) (Q (R [n 78 (ld 78 (v 6) 4 true), m (st (v 4) (v 78) 4), n 5 (asg 5 (k 10))]) .ret)))))))))))
def c_S_DrawPowerUp : Cmd := Q (R [n 2 (alc 2 [.sl 3 [], .int .i64 0, .sl 3 [], .bool false])]) (Q (R [n 4 (mov 4 (v 0)), n 5 (call (some 5) 141 [v 4]), n 3 (asg 3 (v 5))]) (Q (R [n 6 (mov 6 (v 3)), n 7 (call (some 7) 163 [v 6]), m (st (v 2) (v 7) 4)]) .ret))
def c_S_DrawDevNew : Cmd := Q (R [n 2 (asg 2 (k 0)), n 3 (asg 3 (.c (.own 3 [])))]) (Q (R [n 6 (mov 6 (v 0)), n 7 (call (some 7) 141 [v 6]), n 4 (asg 4 (v 7))]) (Q (R [n 8 (mov 8 (v 4)), n 9 (call (some 9) 168 [v 8]), n 5 (asg 5 (v 9))]) (Q (Q (R [n 10 (mov 10 (v 4)), n 11 (call (some 11) 154 [v 10, k 6])]) (F (v 11) (R [n 12 (mov 12 (v 5)), n 13 (mov 13 (v 4)), n 14 (bsl 14 1 [k 0, k 99, k 100001]), n 15 (call (some 15) 145 [v 13, v 14]), n 16 (mov 16 (v 4)), n 17 (call (some 17) 148 [v 16, k 4]), n 18 (bld 18 [.int .i64 0, .int .i64 0, .int .i64 0] [(0, 1, v 15), (1, 1, v 17)]), n 19 (bsl 19 3 [v 18]), n 20 (app 20 (v 12) (v 19) 3 24), n 5 (asg 5 (v 20))]) .skip)) (Q (R [n 21 (mov 21 (v 4)), n 22 (bsl 22 1 [k 3, k 5, k 24, k 2, k 25]), n 23 (call (some 23) 145 [v 21, v 22]), n 24 (mov 24 (v 5)), n 2 (asg 2 (v 23)), n 3 (asg 3 (v 24))]) .ret))))
def c_S_l1In : Cmd := Q (R [n 6 (asg 6 k0)]) (Q (R [n 7 (mov 7 (v 0)), n 8 (mov 8 (v 1)), n 9 (bin 9 .geq (v 7) (v 8)), n 10 (mov 10 (v 9)), h 10 true 11 (mov 11 (v 0)), h 10 true 12 (mov 12 (v 2)), h 10 true 13 (bin 13 .leq (v 11) (v 12)), n 14 (pck 14 (v 10) (v 13) k0), n 6 (asg 6 (v 14))]) .ret)
def c_I_from : Cmd := Q (R [n 6 (asg 6 k0)]) (Q (R [n 7 (mov 7 (v 0)), n 8 (mov 8 (v 1)), n 9 (bin 9 .geq (v 7) (v 8)), n 10 (mov 10 (v 9)), h 10 true 11 (mov 11 (v 0)), h 10 true 12 (mov 12 (v 2)), h 10 true 13 (bin 13 .leq (v 11) (v 12)), n 14 (pck 14 (v 10) (v 13) k0), n 6 (asg 6 (v 14))]) .ret)
def c_S_l10Next : Cmd := Q (R [n 1 (box 1 (v 0)), n 2 (asg 2 (k 0))]) (Q (R [n 3 (asg 3 (k 0))]) (Q (Q (R [n 4 (asg 4 (k 0))]) (.blk 0 (.loop (Q (Q (R [n 5 (mov 5 (v 4)), n 6 (fld 6 (v 1) 0), n 7 (ld 7 (v 6) 1 false), n 8 (len 8 (v 7)), n 9 (bin 9 .lss (v 5) (v 8))]) (F (v 9) .skip (.exit 0))) (Q (.blk 1 (Q (R [n 12 (fld 12 (v 1) 0), n 13 (ld 13 (v 12) 1 false), n 14 (mov 14 (v 4)), n 15 (idx 15 (v 13) (v 14) 2), n 16 (fld 16 (v 15) 0), n 17 (ld 17 (v 16) 1 false)]) (F (v 17) (R [n 18 (mov 18 (v 3)), n 19 (bin 19 .add (v 18) (k 1)), n 3 (asg 3 (v 19))]) .skip))) (R [n 10 (mov 10 (v 4)), n 11 (bin 11 .add (v 10) (k 1)), n 4 (asg 4 (v 11))])))))) (Q (R [n 20 (mov 20 (v 3)), n 2 (asg 2 (v 20))]) .ret)))
def c_I_isBlock : Cmd := Q (R [n 2 (box 2 (v 0)), n 4 (asg 4 k0)]) (Q (R [n 5 (mov 5 (v 1)), n 6 (fld 6 (v 2) 0), n 7 (ld 7 (v 6) 1 false), n 8 (len 8 (v 7)), n 9 (bin 9 .sub (v 8) (k 1)), n 10 (call (some 10) 121 [v 5, k 0, v 9]), n 4 (asg 4 (v 10))]) .ret)
def c_S_l10Block : Cmd := Q (R [n 1 (box 1 (v 0)), n 2 (asg 2 k0)]) (Q (Q (R [n 5 (fld 5 (v 1) 0), n 6 (ld 6 (v 5) 1 false), n 7 (len 7 (v 6)), n 8 (bin 8 .neq (v 7) (k 8)), n 9 (mov 9 (v 8)), h 9 false 10 (fld 10 (v 1) 1), h 9 false 11 (ld 11 (v 10) 1 false), h 9 false 12 (call (some 12) 120 [v 11, k 0, k 100000]), h 9 false 13 (un 13 .not (v 12)), n 14 (pck 14 (v 9) k1 (v 13))]) (F (v 14) (Q (R [n 2 (asg 2 k0)]) .ret) .skip)) (Q (Q (R [n 3 (asg 3 (k 0))]) (.blk 0 (.loop (Q (Q (R [n 15 (mov 15 (v 3)), n 16 (fld 16 (v 1) 0), n 17 (ld 17 (v 16) 1 false), n 18 (len 18 (v 17)), n 19 (bin 19 .lss (v 15) (v 18))]) (F (v 19) .skip (.exit 0))) (Q (.blk 1 (Q (R [n 22 (fld 22 (v 1) 0), n 23 (ld 23 (v 22) 1 false), n 24 (mov 24 (v 3)), n 25 (idx 25 (v 23) (v 24) 2), n 26 (ld 26 (v 25) 2 true), n 4 (alc 4 [.bool false, .sl 1 []]), m (st (v 4) (v 26) 2)]) (Q (R [n 27 (fld 27 (v 4) 1), n 28 (ld 28 (v 27) 1 false), n 29 (len 29 (v 28)), n 30 (bin 30 .gtr (v 29) (k 400)), n 31 (mov 31 (v 30)), h 31 false 32 (fld 32 (v 4) 0), h 31 false 33 (ld 33 (v 32) 1 false), h 31 false 34 (un 34 .not (v 33)), h 31 false 35 (mov 35 (v 34)), h 35 true 36 (fld 36 (v 4) 1), h 35 true 37 (ld 37 (v 36) 1 false), h 35 true 38 (len 38 (v 37)), h 35 true 39 (bin 39 .gtr (v 38) (k 0)), h 31 false 40 (pck 40 (v 35) (v 39) k0), n 41 (pck 41 (v 31) k1 (v 40)), n 42 (mov 42 (v 41)), h 42 false 43 (mov 43 (v 3)), h 42 false 44 (bin 44 .gtr (v 43) (k 0)), h 42 false 45 (mov 45 (v 44)), h 45 true 46 (fld 46 (v 4) 0), h 45 true 47 (ld 47 (v 46) 1 false), h 42 false 48 (pck 48 (v 45) (v 47) k0), h 42 false 49 (mov 49 (v 48)), h 49 true 50 (fld 50 (v 1) 0), h 49 true 51 (ld 51 (v 50) 1 false), h 49 true 52 (mov 52 (v 3)), h 49 true 53 (bin 53 .sub (v 52) (k 1)), h 49 true 54 (idx 54 (v 51) (v 53) 2), h 49 true 55 (fld 55 (v 54) 0), h 49 true 56 (ld 56 (v 55) 1 false), h 49 true 57 (un 57 .not (v 56)), h 42 false 58 (pck 58 (v 49) (v 57) k0), n 59 (pck 59 (v 42) k1 (v 58))]) (F (v 59) (Q (R [n 2 (asg 2 k0)]) .ret) .skip)))) (R [n 20 (mov 20 (v 3)), n 21 (bin 21 .add (v 20) (k 1)), n 3 (asg 3 (v 21))])))))) (Q (R [n 2 (asg 2 k1)]) .ret)))
def c_S_l1New : Cmd := Q (R [n 2 (asg 2 (.c (.undef)))]) (Q (R [n 5 (mov 5 (v 0)), n 6 (len 6 (v 5)), n 7 (bin 7 .add (k 351351) (v 6)), n 3 (asg 3 (v 7))]) (Q (Q (R [n 4 (asg 4 (k 0))]) (.blk 0 (.loop (Q (Q (R [n 8 (mov 8 (v 4)), n 9 (mov 9 (v 0)), n 10 (len 10 (v 9)), n 11 (bin 11 .lss (v 8) (v 10)), n 12 (mov 12 (v 11)), h 12 true 13 (mov 13 (v 4)), h 12 true 14 (bin 14 .lss (v 13) (k 4000)), n 15 (pck 15 (v 12) (v 14) k0)]) (F (v 15) .skip (.exit 0))) (Q (.blk 1 (R [n 18 (mov 18 (v 3)), n 19 (bin 19 .mul (v 18) (k 137)), n 20 (mov 20 (v 0)), n 21 (mov 21 (v 4)), n 22 (idx 22 (v 20) (v 21) 1), n 23 (ld 23 (v 22) 1 false), n 24 (conv 24 .i64 (v 23)), n 25 (bin 25 .add (v 19) (v 24)), n 26 (bin 26 .add (v 25) (k 11)), n 27 (bin 27 .and (v 26) (k 1073741823)), n 3 (asg 3 (v 27))])) (R [n 16 (mov 16 (v 4)), n 17 (bin 17 .add (v 16) (k 1)), n 4 (asg 4 (v 17))])))))) (Q (R [n 28 (mov 28 (v 0)), n 29 (mov 29 (v 3)), n 30 (bld 30 [.sl 1 [], .int .i64 0, .int .i64 0] [(0, 1, v 28), (2, 1, v 29)]), n 31 (box 31 (v 30)), n 2 (asg 2 (v 31))]) .ret)))
def c_X_Clone_byte : Cmd := Q (R [n 2 (asg 2 (.c (.own 1 [])))]) (Q (Q (R [n 3 (mov 3 (v 0)), n 4 (isn 4 false (v 3) (.c (.own 1 [])))]) (F (v 4) (Q (R [n 2 (asg 2 (.c (.own 1 [])))]) .ret) .skip)) (Q (R [n 5 (bsl 5 1 []), n 6 (mov 6 (v 0)), n 7 (app 7 (v 5) (v 6) 1 1), n 2 (asg 2 (v 7))]) .ret))
def c_S_l1Int : Cmd := Q (R [n 4 (asg 4 (k 0))]) (Q (R [n 5 (mov 5 (v 1)), n 6 (mov 6 (v 0)), n 7 (mov 7 (v 1)), n 8 (len 8 (v 7)), n 9 (call (some 9) 148 [v 6, v 8]), n 10 (idx 10 (v 5) (v 9) 1), n 11 (ld 11 (v 10) 1 false), n 4 (asg 4 (v 11))]) .ret)
def c_S_l10Any : Cmd := Q (R [n 2 (alc 2 [.sl 3 []])]) (Q (R [n 5 (mov 5 (v 0)), n 6 (call (some 6) 147 [v 5]), n 3 (alc 3 [.sl 3 []]), m (st (v 3) (v 6) 1)]) (Q (R [n 7 (mov 7 (v 0)), n 8 (fld 8 (v 3) 0), n 9 (ld 9 (v 8) 1 false), n 10 (len 10 (v 9)), n 11 (call (some 11) 148 [v 7, v 10]), n 4 (asg 4 (v 11))]) (Q (Q (R [n 12 (mov 12 (v 0)), n 13 (call (some 13) 148 [v 12, k 16])]) (.blk 0 (Q (R [n 15 (bin 15 .eql (v 13) (k 0)), n 14 (asg 14 (v 15))]) (F (v 14) (D [0, 1, 0, 0, 0, 24, 63, 127, 255] [n 16 (fld 16 (v 3) 0), n 17 (ld 17 (v 16) 1 false), n 18 (mov 18 (v 4)), n 19 (mov 19 (v 0)), n 20 (bsl 20 1 [k (-1), k 100000, k 100001]), n 21 (call (some 21) 145 [v 19, v 20]), n 22 (idx 22 (v 17) (v 18) 3), n 23 (fld 23 (v 22) 1), m (st (v 23) (v 21) 1)]) (Q (R [n 25 (bin 25 .eql (v 13) (k 1)), n 24 (asg 24 (v 25))]) (F (v 24) (R [n 26 (fld 26 (v 3) 0), n 27 (ld 27 (v 26) 1 false), n 28 (mov 28 (v 4)), n 29 (idx 29 (v 27) (v 28) 3), n 30 (fld 30 (v 29) 0), n 31 (ld 31 (v 30) 1 false), n 32 (idx 32 (v 31) (k 7) 2), n 33 (fld 33 (v 32) 0), m (st (v 33) k1 1)]) (Q (R [n 35 (bin 35 .eql (v 13) (k 2)), n 34 (asg 34 (v 35))]) (F (v 34) (R [n 36 (fld 36 (v 3) 0), n 37 (ld 37 (v 36) 1 false), n 38 (mov 38 (v 4)), n 39 (idx 39 (v 37) (v 38) 3), n 40 (fld 40 (v 39) 0), n 41 (ld 41 (v 40) 1 false), n 42 (bsl 42 1 [.c (.int .u8 1)]), n 43 (idx 43 (v 41) (k 7) 2), n 44 (fld 44 (v 43) 1), m (st (v 44) (v 42) 1)]) (Q (R [n 46 (bin 46 .eql (v 13) (k 3)), n 45 (asg 45 (v 46))]) (F (v 45) (D [0, 1, 0, 0, 8, 0, 56, 120, 248, 504, 1023, 2047, 4095] [n 47 (fld 47 (v 3) 0), n 48 (ld 48 (v 47) 1 false), n 49 (mov 49 (v 4)), n 50 (fld 50 (v 3) 0), n 51 (ld 51 (v 50) 1 false), n 52 (mov 52 (v 4)), n 53 (idx 53 (v 51) (v 52) 3), n 54 (fld 54 (v 53) 0), n 55 (ld 55 (v 54) 1 false), n 56 (slc 56 (v 55) (some (k 1)) none 2), n 57 (idx 57 (v 48) (v 49) 3), n 58 (fld 58 (v 57) 0), m (st (v 58) (v 56) 1)]) (Q (R [n 60 (bin 60 .eql (v 13) (k 4)), n 59 (asg 59 (v 60))]) (F (v 59) (R [n 61 (fld 61 (v 3) 0), n 62 (ld 62 (v 61) 1 false), n 63 (slc 63 (v 62) none (some (k 2)) 3), n 64 (fld 64 (v 3) 0), m (st (v 64) (v 63) 1)]) .skip)))))))))))) (Q (R [n 65 (ld 65 (v 3) 1 true), m (st (v 2) (v 65) 1)]) .ret))))
def c_S_l10Draw : Cmd := Q (R [n 2 (alc 2 [.sl 3 []])]) (Q (R [n 6 (mov 6 (v 0)), n 7 (call (some 7) 148 [v 6, k 3]), n 8 (bin 8 .add (k 3) (v 7)), n 9 (call (some 9) 48 [v 8]), n 3 (alc 3 [.sl 3 []]), m (st (v 3) (v 9) 1)]) (Q (Q (R [n 10 (mov 10 (v 0)), n 11 (call (some 11) 148 [v 10, k 20]), n 4 (asg 4 (v 11))]) (.blk 0 (.loop (Q (Q (R [n 12 (mov 12 (v 4)), n 13 (bin 13 .gtr (v 12) (k 0))]) (F (v 13) .skip (.exit 0))) (Q (.blk 1 (Q (R [n 16 (mov 16 (v 0)), n 17 (fld 17 (v 3) 0), n 18 (ld 18 (v 17) 1 false), n 19 (len 19 (v 18)), n 20 (call (some 20) 148 [v 16, v 19]), n 5 (asg 5 (v 20))]) (Q (R [n 21 (mov 21 (v 0)), n 22 (call (some 22) 154 [v 21, k 6])]) (F (v 22) (R [n 24 (ld 24 (v 3) 1 true), n 25 (mov 25 (v 5)), n 26 (call (some 26) 89 [v 24, v 25]), n 23 (mov 23 (v 26)), n 27 (xtr 27 (v 23) 0), n 28 (xtr 28 (v 23) 1), m (st (v 3) (v 27) 1)]) (D [0, 0, 0, 4, 15, 31, 63, 127, 127] [n 30 (ld 30 (v 3) 1 true), n 31 (mov 31 (v 5)), n 32 (mov 32 (v 0)), n 33 (call (some 33) 153 [v 32]), n 34 (call (some 34) 92 [v 30, v 31, v 33]), n 29 (mov 29 (v 34)), n 35 (xtr 35 (v 29) 0), n 36 (xtr 36 (v 29) 1), m (st (v 3) (v 35) 1)]))))) (R [n 14 (mov 14 (v 4)), n 15 (bin 15 .sub (v 14) (k 1)), n 4 (asg 4 (v 15))])))))) (Q (Q (R [n 37 (mov 37 (v 0)), n 38 (call (some 38) 154 [v 37, k 3])]) (F (v 38) (D [0, 1, 0, 0, 8, 24, 60, 127, 255, 511] [n 39 (fld 39 (v 3) 0), n 40 (ld 40 (v 39) 1 false), n 41 (mov 41 (v 0)), n 42 (fld 42 (v 3) 0), n 43 (ld 43 (v 42) 1 false), n 44 (len 44 (v 43)), n 45 (call (some 45) 148 [v 41, v 44]), n 46 (idx 46 (v 40) (v 45) 3), n 47 (fld 47 (v 46) 2), m (st (v 47) k1 1)]) .skip)) (Q (R [n 48 (ld 48 (v 3) 1 true), m (st (v 2) (v 48) 1)]) .ret))))
def c_S_l1Below : Cmd := Q (R [n 4 (asg 4 (k 0))]) (Q (Q (R [n 8 (mov 8 (v 1)), n 9 (bin 9 .leq (v 8) (k 0))]) (F (v 9) (Q (R [n 4 (asg 4 (k 0))]) .ret) .skip)) (Q (Q (R [n 10 (mov 10 (v 1)), n 11 (bin 11 .leq (v 10) (k 256))]) (F (v 11) (Q (R [n 12 (mov 12 (v 0)), n 13 (call (some 13) 179 [v 12]), n 14 (mov 14 (v 1)), n 15 (bin 15 .rem (v 13) (v 14)), n 4 (asg 4 (v 15))]) .ret) .skip)) (Q (R [n 16 (mov 16 (v 0)), n 17 (call (some 17) 179 [v 16]), n 5 (asg 5 (v 17))]) (Q (R [n 18 (mov 18 (v 0)), n 19 (call (some 19) 179 [v 18]), n 6 (asg 6 (v 19))]) (Q (R [n 20 (mov 20 (v 0)), n 21 (call (some 21) 179 [v 20]), n 7 (asg 7 (v 21))]) (Q (R [n 22 (mov 22 (v 5)), n 23 (bin 23 .mul (v 22) (k 65536)), n 24 (mov 24 (v 6)), n 25 (bin 25 .mul (v 24) (k 256)), n 26 (bin 26 .add (v 23) (v 25)), n 27 (mov 27 (v 7)), n 28 (bin 28 .add (v 26) (v 27)), n 29 (mov 29 (v 1)), n 30 (bin 30 .rem (v 28) (v 29)), n 4 (asg 4 (v 30))]) .ret))))))
def c_I_copyChip : Cmd := Q (R [n 1 (box 1 (v 0)), n 2 (alc 2 [.sl 3 []])]) (Q (R [n 9 (bld 9 [.sl 3 []] []), n 3 (alc 3 [.sl 3 []]), m (st (v 3) (v 9) 1)]) (Q (Q (R [n 10 (fld 10 (v 1) 0), n 11 (ld 11 (v 10) 1 false), n 12 (len 12 (v 11)), n 13 (mov 13 (k 0))]) (.blk 0 (.loop (Q (R [n 14 (bin 14 .lss (v 13) (v 12))]) (Q (F (v 14) .skip (.exit 0)) (Q (.blk 1 (Q (R [n 15 (idx 15 (v 11) (v 13) 3), n 16 (ld 16 (v 15) 3 true), n 5 (alc 5 [.sl 2 [], .int .i64 0, .bool false]), m (st (v 5) (v 16) 3)]) (Q (R [n 17 (bsl 17 2 []), n 6 (asg 6 (v 17))]) (Q (Q (R [n 18 (fld 18 (v 5) 0), n 19 (ld 19 (v 18) 1 false), n 20 (len 20 (v 19)), n 21 (mov 21 (k 0))]) (.blk 2 (.loop (Q (R [n 22 (bin 22 .lss (v 21) (v 20))]) (Q (F (v 22) .skip (.exit 2)) (Q (.blk 3 (Q (R [n 23 (idx 23 (v 19) (v 21) 2), n 24 (ld 24 (v 23) 2 true), n 8 (alc 8 [.bool false, .sl 1 []]), m (st (v 8) (v 24) 2)]) (D [0, 0, 2, 0, 8, 24, 62, 126, 255, 511] [n 25 (mov 25 (v 6)), n 26 (fld 26 (v 8) 0), n 27 (ld 27 (v 26) 1 false), n 28 (fld 28 (v 8) 1), n 29 (ld 29 (v 28) 1 false), n 30 (call (some 30) 144 [v 29]), n 31 (bld 31 [.bool false, .sl 1 []] [(0, 1, v 27), (1, 1, v 30)]), n 32 (bsl 32 2 [v 31]), n 33 (app 33 (v 25) (v 32) 2 32), n 6 (asg 6 (v 33))]))) (R [n 34 (bin 34 .add (v 21) (k 1)), n 21 (mov 21 (v 34))]))))))) (Q (R [n 35 (mov 35 (v 6)), n 36 (fld 36 (v 5) 0), m (st (v 36) (v 35) 1)]) (R [n 37 (fld 37 (v 3) 0), n 38 (ld 38 (v 37) 1 false), n 39 (ld 39 (v 5) 3 true), n 40 (bsl 40 3 [v 39]), n 41 (app 41 (v 38) (v 40) 3 40), n 42 (fld 42 (v 3) 0), m (st (v 42) (v 41) 1)])))))) (R [n 43 (bin 43 .add (v 13) (k 1)), n 13 (mov 13 (v 43))]))))))) (Q (R [n 44 (ld 44 (v 3) 1 true), m (st (v 2) (v 44) 1)]) .ret)))
def c_S_l10Copy : Cmd := Q (R [n 1 (box 1 (v 0)), n 2 (alc 2 [.sl 3 []])]) (Q (R [n 5 (bld 5 [.sl 3 []] []), n 3 (alc 3 [.sl 3 []]), m (st (v 3) (v 5) 1)]) (Q (Q (R [n 4 (asg 4 (k 0))]) (.blk 0 (.loop (Q (Q (R [n 6 (mov 6 (v 4)), n 7 (fld 7 (v 1) 0), n 8 (ld 8 (v 7) 1 false), n 9 (len 9 (v 8)), n 10 (bin 10 .lss (v 6) (v 9))]) (F (v 10) .skip (.exit 0))) (Q (.blk 1 (D [0, 1, 0, 4, 0, 28, 60, 124, 252, 511, 1023, 2047] [n 13 (fld 13 (v 3) 0), n 14 (ld 14 (v 13) 1 false), n 15 (fld 15 (v 1) 0), n 16 (ld 16 (v 15) 1 false), n 17 (mov 17 (v 4)), n 18 (idx 18 (v 16) (v 17) 3), n 19 (ld 19 (v 18) 3 true), n 20 (call (some 20) 180 [v 19]), n 21 (bsl 21 3 [v 20]), n 22 (app 22 (v 14) (v 21) 3 40), n 23 (fld 23 (v 3) 0), m (st (v 23) (v 22) 1)])) (R [n 11 (mov 11 (v 4)), n 12 (bin 12 .add (v 11) (k 1)), n 4 (asg 4 (v 12))])))))) (Q (R [n 24 (ld 24 (v 3) 1 true), m (st (v 2) (v 24) 1)]) .ret)))
def c_S_l10Erase : Cmd := Q (R [n 2 (box 2 (v 0)), n 4 (asg 4 (k 0))]) (Q (R [n 6 (mov 6 (v 1)), n 7 (bin 7 .geq (v 6) (k 0)), n 8 (mov 8 (v 7)), h 8 true 9 (mov 9 (v 1)), h 8 true 10 (fld 10 (v 2) 0), h 8 true 11 (ld 11 (v 10) 1 false), h 8 true 12 (len 12 (v 11)), h 8 true 13 (bin 13 .lss (v 9) (v 12)), n 14 (pck 14 (v 8) (v 13) k0), n 15 (mov 15 (v 14)), h 15 true 16 (fld 16 (v 2) 0), h 15 true 17 (ld 17 (v 16) 1 false), h 15 true 18 (mov 18 (v 1)), h 15 true 19 (idx 19 (v 17) (v 18) 3), h 15 true 20 (fld 20 (v 19) 1), h 15 true 21 (ld 21 (v 20) 1 false), h 15 true 22 (bin 22 .geq (v 21) (k 100000)), n 23 (pck 23 (v 15) (v 22) k0), n 5 (asg 5 (v 23))]) (Q (R [n 24 (ld 24 (v 2) 1 true), n 25 (mov 25 (v 1)), n 26 (mov 26 (v 5)), n 27 (call (some 27) 181 [v 24, v 25, v 26]), n 4 (asg 4 (v 27))]) .ret))
def c_S_l1Some : Cmd := Q (R [n 2 (asg 2 (.c (.own 1 [])))]) (Q (R [n 3 (mov 3 (v 0)), n 4 (mov 4 (v 0)), n 5 (bsl 5 1 [k 0, k 1, k 2, k 5, k 9]), n 6 (call (some 6) 145 [v 4, v 5]), n 7 (call (some 7) 182 [v 3, v 6]), n 2 (asg 2 (v 7))]) .ret)
def c_S_l1Once : Cmd := Q (R [n 4 (asg 4 k0)]) (Q (R [n 5 (mov 5 (v 0)), n 6 (mov 6 (v 1)), n 7 (call (some 7) 148 [v 5, v 6]), n 8 (bin 8 .eql (v 7) (k 0)), n 4 (asg 4 (v 8))]) .ret)
def c_S_l10Program : Cmd := Q (R [n 3 (box 3 (v 0)), n 6 (asg 6 (k 0))]) (Q (Q (R [n 7 (mov 7 (v 2)), n 8 (len 8 (v 7)), n 9 (bin 9 .gtr (v 8) (k 400))]) (F (v 9) (Q (R [n 6 (asg 6 (k 1))]) .ret) .skip)) (Q (D [0, 0, 0, 0, 12, 28, 63, 127] [n 10 (ld 10 (v 3) 1 true), n 11 (mov 11 (v 1)), n 12 (ld 12 (v 3) 1 true), n 13 (mov 13 (v 1)), n 14 (call (some 14) 64 [v 12, v 13]), n 15 (bin 15 .eql (v 14) (k 8)), n 16 (call (some 16) 181 [v 10, v 11, v 15]), n 6 (asg 6 (v 16))]) .ret))
def c_S_l11Faults : Cmd := Q (R [n 2 (asg 2 k0)]) (Q (Q (R [n 3 (asg 3 (k 0))]) (.blk 0 (.loop (Q (Q (R [n 4 (mov 4 (v 3)), n 5 (mov 5 (v 0)), n 6 (len 6 (v 5)), n 7 (bin 7 .lss (v 4) (v 6))]) (F (v 7) .skip (.exit 0))) (Q (.blk 1 (Q (D [0, 0, 3, 7, 15, 31, 63, 127, 255, 255, 1023, 2047, 4095, 8191, 16383, 32767, 65535, 131071, 131071, 524287, 1048575, 2097151, 4194303, 8388607, 16777215, 33554431, 67108863, 134217727, 268435455, 536870911, 536870911, 1610612735, 4294967295, 8589934591, 17179869183, 536870911, 536870911, 103616086015, 241055039487, 515932946431, 1099511627775, 2199023255551, 4398046511103] [n 10 (mov 10 (v 0)), n 11 (mov 11 (v 3)), n 12 (idx 12 (v 10) (v 11) 3), n 13 (fld 13 (v 12) 0), n 14 (ld 14 (v 13) 1 false), n 15 (call (some 15) 120 [v 14, k 0, k 100000]), n 16 (un 16 .not (v 15)), n 17 (mov 17 (v 16)), h 17 false 18 (mov 18 (v 0)), h 17 false 19 (mov 19 (v 3)), h 17 false 20 (idx 20 (v 18) (v 19) 3), h 17 false 21 (fld 21 (v 20) 1), h 17 false 22 (ld 22 (v 21) 1 false), h 17 false 23 (call (some 23) 120 [v 22, k 1, k 2]), h 17 false 24 (un 24 .not (v 23)), n 25 (pck 25 (v 17) k1 (v 24)), n 26 (mov 26 (v 25)), h 26 false 27 (mov 27 (v 0)), h 26 false 28 (mov 28 (v 3)), h 26 false 29 (idx 29 (v 27) (v 28) 3), h 26 false 30 (fld 30 (v 29) 2), h 26 false 31 (ld 31 (v 30) 1 false), h 26 false 32 (call (some 32) 120 [v 31, k 0, k 400]), h 26 false 33 (un 33 .not (v 32)), n 34 (pck 34 (v 26) k1 (v 33)), n 35 (mov 35 (v 34)), h 35 false 36 (mov 36 (v 3)), h 35 false 37 (bin 37 .gtr (v 36) (k 0)), h 35 false 38 (mov 38 (v 37)), h 38 true 39 (mov 39 (v 0)), h 38 true 40 (mov 40 (v 3)), h 38 true 41 (bin 41 .sub (v 40) (k 1)), h 38 true 42 (idx 42 (v 39) (v 41) 3), h 38 true 43 (fld 43 (v 42) 0), h 38 true 44 (ld 44 (v 43) 1 false), h 38 true 45 (mov 45 (v 0)), h 38 true 46 (mov 46 (v 3)), h 38 true 47 (idx 47 (v 45) (v 46) 3), h 38 true 48 (fld 48 (v 47) 0), h 38 true 49 (ld 49 (v 48) 1 false), h 38 true 50 (bin 50 .geq (v 44) (v 49)), h 35 false 51 (pck 51 (v 38) (v 50) k0), n 52 (pck 52 (v 35) k1 (v 51))]) (F (v 52) (Q (R [n 2 (asg 2 k0)]) .ret) .skip))) (R [n 8 (mov 8 (v 3)), n 9 (bin 9 .add (v 8) (k 1)), n 3 (asg 3 (v 9))])))))) (Q (R [n 53 (mov 53 (v 0)), n 54 (len 54 (v 53)), n 55 (bin 55 .leq (v 54) (k 20)), n 2 (asg 2 (v 55))]) .ret))
def c_X_Clone_Fault : Cmd := Q (R [n 2 (asg 2 (.c (.own 3 [])))]) (Q (Q (R [n 3 (mov 3 (v 0)), n 4 (isn 4 false (v 3) (.c (.own 3 [])))]) (F (v 4) (Q (R [n 2 (asg 2 (.c (.own 3 [])))]) .ret) .skip)) (Q (R [n 5 (bsl 5 3 []), n 6 (mov 6 (v 0)), n 7 (app 7 (v 5) (v 6) 3 24), n 2 (asg 2 (v 7))]) .ret))
def c_S_l11Copy : Cmd := Q (R [n 1 (box 1 (v 0)), n 2 (alc 2 [.sl 3 [], .int .i64 0, .sl 3 [], .bool false])]) (Q (D [0, 1, 3, 0, 8, 0, 0, 64, 231, 0, 512, 2047, 4095] [n 3 (fld 3 (v 1) 0), n 4 (ld 4 (v 3) 1 true), n 5 (call (some 5) 151 [v 4]), n 6 (fld 6 (v 1) 1), n 7 (ld 7 (v 6) 1 false), n 8 (bsl 8 3 []), n 9 (fld 9 (v 1) 2), n 10 (ld 10 (v 9) 1 false), n 11 (app 11 (v 8) (v 10) 3 24), n 12 (fld 12 (v 1) 3), n 13 (ld 13 (v 12) 1 false), n 14 (bld 14 [.sl 3 [], .int .i64 0, .sl 3 [], .bool false] [(0, 1, v 5), (1, 1, v 7), (2, 1, v 11), (3, 1, v 13)]), m (st (v 2) (v 14) 4)]) .ret)
def c_I_copyDev : Cmd := Q (R [n 1 (box 1 (v 0)), n 2 (alc 2 [.sl 3 [], .int .i64 0, .sl 3 [], .bool false])]) (Q (R [n 3 (fld 3 (v 1) 0), n 4 (ld 4 (v 3) 1 true), n 5 (call (some 5) 149 [v 4]), n 6 (fld 6 (v 1) 0), m (st (v 6) (v 5) 1)]) (Q (R [n 7 (fld 7 (v 1) 2), n 8 (ld 8 (v 7) 1 false), n 9 (call (some 9) 159 [v 8]), n 10 (fld 10 (v 1) 2), m (st (v 10) (v 9) 1)]) (Q (R [n 11 (ld 11 (v 1) 4 true), m (st (v 2) (v 11) 4)]) .ret)))
def c_S_l11Any : Cmd := Q (R [n 2 (alc 2 [.sl 3 [], .int .i64 0, .sl 3 [], .bool false])]) (Q (R [n 4 (mov 4 (v 0)), n 5 (call (some 5) 183 [v 4]), n 3 (alc 3 [.sl 3 [], .int .i64 0, .sl 3 [], .bool false]), m (st (v 3) (v 5) 4)]) (Q (Q (R [n 6 (mov 6 (v 0)), n 7 (call (some 7) 148 [v 6, k 16])]) (.blk 0 (Q (R [n 9 (bin 9 .eql (v 7) (k 0)), n 8 (asg 8 (v 9))]) (F (v 8) (R [n 10 (mov 10 (v 0)), n 11 (bsl 11 1 [k (-1), k 100000, k 100001]), n 12 (call (some 12) 145 [v 10, v 11]), n 13 (fld 13 (v 3) 1), m (st (v 13) (v 12) 1)]) (Q (R [n 15 (bin 15 .eql (v 7) (k 1)), n 14 (asg 14 (v 15))]) (F (v 14) (D [0, 1, 0, 0, 12, 0, 60, 0, 0, 508, 1020, 2044, 4095, 8191, 16383] [n 16 (fld 16 (v 3) 2), n 17 (ld 17 (v 16) 1 false), n 18 (mov 18 (v 0)), n 19 (bsl 19 1 [k 0, k 100000, k 100001]), n 20 (call (some 20) 145 [v 18, v 19]), n 21 (mov 21 (v 0)), n 22 (call (some 22) 148 [v 21, k 4]), n 23 (mov 23 (v 0)), n 24 (bsl 24 1 [k (-1), k 0, k 401]), n 25 (call (some 25) 145 [v 23, v 24]), n 26 (bld 26 [.int .i64 0, .int .i64 0, .int .i64 0] [(0, 1, v 20), (1, 1, v 22), (2, 1, v 25)]), n 27 (bsl 27 3 [v 26]), n 28 (app 28 (v 17) (v 27) 3 24), n 29 (fld 29 (v 3) 2), m (st (v 29) (v 28) 1)]) (Q (R [n 31 (bin 31 .eql (v 7) (k 2)), n 30 (asg 30 (v 31))]) (F (v 30) (R [n 32 (mov 32 (v 0)), n 33 (call (some 33) 146 [v 32]), n 34 (fld 34 (v 3) 0), m (st (v 34) (v 33) 1)]) .skip)))))))) (Q (R [n 35 (ld 35 (v 3) 4 true), m (st (v 2) (v 35) 4)]) .ret)))
def c_I_begin : Cmd := Q (R [n 5 (box 5 (v 0)), n 7 (box 7 (v 2)), n 10 (alc 10 [.sl 3 [], .int .i64 0, .sl 3 [], .bool false]), n 11 (asg 11 (k 0))]) (Q (Q (R [n 14 (mov 14 (v 3)), n 15 (bin 15 .neq (v 14) (k 0))]) (F (v 15) (Q (R [n 16 (ld 16 (v 5) 4 true), n 17 (mov 17 (v 3)), m (st (v 10) (v 16) 4), n 11 (asg 11 (v 17))]) .ret) .skip)) (Q (R [n 19 (ld 19 (v 5) 4 true), n 20 (call (some 20) 84 [v 19]), n 18 (mov 18 (v 20)), n 21 (xtr 21 (v 18) 0), n 22 (xtr 22 (v 18) 1), n 12 (alc 12 [.int .i64 0, .int .i64 0, .int .i64 0]), m (st (v 12) (v 21) 3), n 13 (asg 13 (v 22))]) (Q (R [n 23 (fld 23 (v 5) 1), n 24 (ld 24 (v 23) 1 false), n 25 (bin 25 .add (v 24) (k 1)), n 26 (fld 26 (v 5) 1), m (st (v 26) (v 25) 1)]) (Q (.blk 0 (Q (R [n 35 (mov 35 (v 13)), n 36 (un 36 .not (v 35)), n 34 (asg 34 (v 36))]) (F (v 34) (R [n 37 (ld 37 (v 7) 1 true), n 38 (fld 38 (v 5) 0), m (st (v 38) (v 37) 1)]) (Q (R [n 40 (fld 40 (v 12) 1), n 41 (ld 41 (v 40) 1 false), n 42 (bin 42 .eql (v 41) (k 1)), n 39 (asg 39 (v 42))]) (F (v 39) (Q (R [n 43 (fld 43 (v 5) 0), n 44 (fld 44 (v 43) 0), n 45 (ld 45 (v 44) 1 false), n 46 (mov 46 (v 1)), n 47 (idx 47 (v 45) (v 46) 3), n 48 (fld 48 (v 47) 2), m (st (v 48) k1 1)]) (Q (R [n 49 (ld 49 (v 5) 4 true), m (st (v 10) (v 49) 4), n 11 (asg 11 (k 2))]) .ret)) (Q (R [n 27 (mov 27 (v 4)), n 28 (fld 28 (v 12) 2), n 29 (ld 29 (v 28) 1 false), n 30 (callv (some 30) (v 27) [v 29]), n 31 (fld 31 (v 5) 0), m (st (v 31) (v 30) 1)]) (Q (R [n 32 (fld 32 (v 5) 3), m (st (v 32) k1 1)]) (Q (R [n 33 (ld 33 (v 5) 4 true), m (st (v 10) (v 33) 4), n 11 (asg 11 (k 10))]) .ret)))))))) (Q (R [n 50 (ld 50 (v 5) 4 true), m (st (v 10) (v 50) 4), n 11 (asg 11 (k 0))]) .ret)))))
def c_I_DevProgram_1 : Cmd := Q (R [n 5 (alc 5 [.sl 3 []])]) (Q (D [0, 1, 0, 0, 0, 0, 32, 112, 248, 511, 1023, 2047, 4095, 0, 12287, 32767] [n 9 (fld 9 (v 1) 0), n 10 (ld 10 (v 9) 1 true), n 11 (ld 11 (v 2) 1 false), n 12 (ld 12 (v 3) 1 false), n 13 (mov 13 (v 0)), n 14 (ld 14 (v 3) 1 false), n 15 (len 15 (v 14)), n 16 (mn 16 (v 13) (v 15)), n 17 (slc 17 (v 12) none (some (v 16)) 1), n 18 (call (some 18) 78 [v 10, v 11, v 17]), n 8 (mov 8 (v 18)), n 19 (xtr 19 (v 8) 0), n 20 (xtr 20 (v 8) 1), n 6 (alc 6 [.sl 3 []]), m (st (v 6) (v 19) 1), n 7 (asg 7 (v 20))]) (Q (R [n 21 (ld 21 (v 6) 1 true), m (st (v 5) (v 21) 1)]) .ret))
def c_S_l11May : Cmd := Q (R [n 2 (box 2 (v 0)), n 4 (asg 4 (k 0))]) (Q (.blk 0 (Q (R [n 6 (ld 6 (v 2) 4 true), n 7 (call (some 7) 94 [v 6]), n 8 (un 8 .not (v 7)), n 5 (asg 5 (v 8))]) (F (v 5) (Q (R [n 4 (asg 4 (k 1))]) .ret) (Q (R [n 10 (fld 10 (v 2) 3), n 11 (ld 11 (v 10) 1 false), n 12 (mov 12 (v 11)), h 12 false 13 (fld 13 (v 2) 1), h 12 false 14 (ld 14 (v 13) 1 false), h 12 false 15 (bin 15 .geq (v 14) (k 100000)), n 16 (pck 16 (v 12) k1 (v 15)), n 9 (asg 9 (v 16))]) (F (v 9) (Q (R [n 4 (asg 4 (k 10))]) .ret) .skip))))) (Q (R [n 17 (mov 17 (v 1)), n 4 (asg 4 (v 17))]) .ret))
def c_I_DevErase_1 : Cmd := Q (R [n 4 (alc 4 [.sl 3 []])]) (Q (R [n 9 (fld 9 (v 1) 0), n 10 (ld 10 (v 9) 1 true), n 11 (ld 11 (v 2) 1 false), n 12 (call (some 12) 88 [v 10, v 11]), n 8 (mov 8 (v 12)), n 13 (xtr 13 (v 8) 0), n 14 (xtr 14 (v 8) 1), n 5 (alc 5 [.sl 3 []]), m (st (v 5) (v 13) 1), n 6 (asg 6 (v 14))]) (Q (Q (R [n 15 (mov 15 (v 0)), n 16 (mn 16 (v 15) (k 8)), n 17 (mov 17 (k 0))]) (.blk 0 (.loop (Q (R [n 18 (bin 18 .lss (v 17) (v 16))]) (Q (F (v 18) .skip (.exit 0)) (Q (.blk 1 (Q (R [n 19 (mov 19 (v 17)), n 7 (asg 7 (v 19))]) (R [n 20 (fld 20 (v 5) 0), n 21 (ld 21 (v 20) 1 false), n 22 (ld 22 (v 2) 1 false), n 23 (idx 23 (v 21) (v 22) 3), n 24 (fld 24 (v 23) 0), n 25 (ld 25 (v 24) 1 false), n 26 (mov 26 (v 7)), n 27 (idx 27 (v 25) (v 26) 2), n 28 (fld 28 (v 27) 0), m (st (v 28) k1 1)]))) (R [n 29 (bin 29 .add (v 17) (k 1)), n 17 (mov 17 (v 29))]))))))) (Q (R [n 30 (ld 30 (v 5) 1 true), m (st (v 4) (v 30) 1)]) .ret)))
def c_S_l11FaultList : Cmd := Q (R [n 2 (asg 2 (.c (.own 3 [])))]) (Q (R [n 6 (bsl 6 3 []), n 3 (asg 3 (v 6))]) (Q (R [n 4 (asg 4 (k 0))]) (Q (Q (R [n 7 (mov 7 (v 0)), n 8 (call (some 8) 148 [v 7, k 4]), n 5 (asg 5 (v 8))]) (.blk 0 (.loop (Q (Q (R [n 9 (mov 9 (v 5)), n 10 (bin 10 .gtr (v 9) (k 0))]) (F (v 10) .skip (.exit 0))) (Q (.blk 1 (Q (R [n 13 (mov 13 (v 4)), n 14 (mov 14 (v 0)), n 15 (call (some 15) 148 [v 14, k 12]), n 16 (bin 16 .add (v 13) (v 15)), n 4 (asg 4 (v 16))]) (Q (R [n 17 (mov 17 (v 3)), n 18 (mov 18 (v 4)), n 19 (mov 19 (v 0)), n 20 (call (some 20) 148 [v 19, k 2]), n 21 (bin 21 .add (k 1) (v 20)), n 22 (mov 22 (v 0)), n 23 (bsl 23 1 [k 0, k 1, k 5, k 8, k 400]), n 24 (call (some 24) 145 [v 22, v 23]), n 25 (bld 25 [.int .i64 0, .int .i64 0, .int .i64 0] [(0, 1, v 18), (1, 1, v 21), (2, 1, v 24)]), n 26 (bsl 26 3 [v 25]), n 27 (app 27 (v 17) (v 26) 3 24), n 3 (asg 3 (v 27))]) (R [n 28 (mov 28 (v 4)), n 29 (bin 29 .add (v 28) (k 1)), n 4 (asg 4 (v 29))])))) (R [n 11 (mov 11 (v 5)), n 12 (bin 12 .sub (v 11) (k 1)), n 5 (asg 5 (v 12))])))))) (Q (R [n 30 (mov 30 (v 3)), n 2 (asg 2 (v 30))]) .ret))))
def c_S_l1Byte : Cmd := Q (R [n 2 (asg 2 (k 0))]) (Q (R [n 4 (mov 4 (v 0)), n 5 (mov 5 (v 0)), n 6 (nck 6 (v 5)), n 7 (fld 7 (v 6) 2), n 8 (ld 8 (v 7) 1 false), n 9 (bin 9 .mul (v 8) (k 6364136223846793005)), n 10 (bin 10 .add (v 9) (k 1442695040888963407)), n 11 (nck 11 (v 4)), n 12 (fld 12 (v 11) 2), m (st (v 12) (v 10) 1)]) (Q (D [0, 1, 3, 7, 15, 0, 32, 96, 224, 480, 1023, 2047, 4095] [n 13 (mov 13 (v 0)), n 14 (nck 14 (v 13)), n 15 (fld 15 (v 14) 2), n 16 (ld 16 (v 15) 1 false), n 17 (bin 17 .shr (v 16) (.c (.int .u64 33))), n 18 (mov 18 (v 0)), n 19 (nck 19 (v 18)), n 20 (fld 20 (v 19) 2), n 21 (ld 21 (v 20) 1 false), n 22 (bin 22 .shr (v 21) (.c (.int .u64 47))), n 23 (bin 23 .xor (v 17) (v 22)), n 24 (bin 24 .and (v 23) (k 255)), n 3 (asg 3 (v 24))]) (Q (Q (D [0, 1, 3, 7, 0, 16, 48, 112, 240, 511] [n 25 (mov 25 (v 0)), n 26 (nck 26 (v 25)), n 27 (fld 27 (v 26) 1), n 28 (ld 28 (v 27) 1 false), n 29 (mov 29 (v 0)), n 30 (nck 30 (v 29)), n 31 (fld 31 (v 30) 0), n 32 (ld 32 (v 31) 1 false), n 33 (len 33 (v 32)), n 34 (bin 34 .lss (v 28) (v 33))]) (F (v 34) (Q (D [0, 0, 2, 6, 14, 0, 32, 96, 224, 510, 1022, 2046, 4095, 8191, 16383] [n 35 (mov 35 (v 3)), n 36 (mov 36 (v 0)), n 37 (nck 37 (v 36)), n 38 (fld 38 (v 37) 0), n 39 (ld 39 (v 38) 1 false), n 40 (mov 40 (v 0)), n 41 (nck 41 (v 40)), n 42 (fld 42 (v 41) 1), n 43 (ld 43 (v 42) 1 false), n 44 (idx 44 (v 39) (v 43) 1), n 45 (ld 45 (v 44) 1 false), n 46 (conv 46 .i64 (v 45)), n 47 (bin 47 .add (v 35) (v 46)), n 48 (bin 48 .and (v 47) (k 255)), n 3 (asg 3 (v 48))]) (R [n 49 (mov 49 (v 0)), n 50 (mov 50 (v 0)), n 51 (nck 51 (v 50)), n 52 (fld 52 (v 51) 1), n 53 (ld 53 (v 52) 1 false), n 54 (bin 54 .add (v 53) (k 1)), n 55 (nck 55 (v 49)), n 56 (fld 56 (v 55) 1), m (st (v 56) (v 54) 1)])) .skip)) (Q (R [n 57 (mov 57 (v 3)), n 2 (asg 2 (v 57))]) .ret))))
def c_S_l10CopyBlock : Cmd := Q (R [n 1 (box 1 (v 0)), n 2 (alc 2 [.sl 2 [], .int .i64 0, .bool false])]) (Q (R [n 5 (fld 5 (v 1) 1), n 6 (ld 6 (v 5) 1 false), n 7 (fld 7 (v 1) 2), n 8 (ld 8 (v 7) 1 false), n 9 (bld 9 [.sl 2 [], .int .i64 0, .bool false] [(1, 1, v 6), (2, 1, v 8)]), n 3 (alc 3 [.sl 2 [], .int .i64 0, .bool false]), m (st (v 3) (v 9) 3)]) (Q (Q (R [n 4 (asg 4 (k 0))]) (.blk 0 (.loop (Q (Q (R [n 10 (mov 10 (v 4)), n 11 (fld 11 (v 1) 0), n 12 (ld 12 (v 11) 1 false), n 13 (len 13 (v 12)), n 14 (bin 14 .lss (v 10) (v 13))]) (F (v 14) .skip (.exit 0))) (Q (.blk 1 (D [0, 1, 0, 4, 0, 28, 60, 124, 0, 0, 512, 0, 3584, 7680, 15872, 32512, 65532, 131068, 262143, 524287, 1048575] [n 17 (fld 17 (v 3) 0), n 18 (ld 18 (v 17) 1 false), n 19 (fld 19 (v 1) 0), n 20 (ld 20 (v 19) 1 false), n 21 (mov 21 (v 4)), n 22 (idx 22 (v 20) (v 21) 2), n 23 (fld 23 (v 22) 0), n 24 (ld 24 (v 23) 1 false), n 25 (bsl 25 1 []), n 26 (fld 26 (v 1) 0), n 27 (ld 27 (v 26) 1 false), n 28 (mov 28 (v 4)), n 29 (idx 29 (v 27) (v 28) 2), n 30 (fld 30 (v 29) 1), n 31 (ld 31 (v 30) 1 false), n 32 (app 32 (v 25) (v 31) 1 1), n 33 (bld 33 [.bool false, .sl 1 []] [(0, 1, v 24), (1, 1, v 32)]), n 34 (bsl 34 2 [v 33]), n 35 (app 35 (v 18) (v 34) 2 32), n 36 (fld 36 (v 3) 0), m (st (v 36) (v 35) 1)])) (R [n 15 (mov 15 (v 4)), n 16 (bin 16 .add (v 15) (k 1)), n 4 (asg 4 (v 16))])))))) (Q (R [n 37 (ld 37 (v 3) 3 true), m (st (v 2) (v 37) 3)]) .ret)))
def c_S_l10May : Cmd := Q (R [n 3 (box 3 (v 0)), n 6 (asg 6 (k 0))]) (Q (.blk 0 (Q (R [n 8 (ld 8 (v 3) 1 true), n 9 (call (some 9) 66 [v 8]), n 10 (un 10 .not (v 9)), n 11 (mov 11 (v 10)), h 11 false 12 (mov 12 (v 1)), h 11 false 13 (bin 13 .lss (v 12) (k 0)), n 14 (pck 14 (v 11) k1 (v 13)), n 15 (mov 15 (v 14)), h 15 false 16 (mov 16 (v 1)), h 15 false 17 (fld 17 (v 3) 0), h 15 false 18 (ld 18 (v 17) 1 false), h 15 false 19 (len 19 (v 18)), h 15 false 20 (bin 20 .geq (v 16) (v 19)), n 21 (pck 21 (v 15) k1 (v 20)), n 7 (asg 7 (v 21))]) (F (v 7) (Q (R [n 6 (asg 6 (k 1))]) .ret) (Q (R [n 23 (fld 23 (v 3) 0), n 24 (ld 24 (v 23) 1 false), n 25 (mov 25 (v 1)), n 26 (idx 26 (v 24) (v 25) 3), n 27 (fld 27 (v 26) 2), n 28 (ld 28 (v 27) 1 false), n 22 (asg 22 (v 28))]) (F (v 22) (Q (R [n 6 (asg 6 (k 2))]) .ret) (Q (R [n 30 (mov 30 (v 2)), n 29 (asg 29 (v 30))]) (F (v 29) (Q (R [n 6 (asg 6 (k 5))]) .ret) .skip))))))) (Q (R [n 6 (asg 6 (k 0))]) .ret))
def c_S_l1Bytes : Cmd := Q (R [n 4 (asg 4 (.c (.own 1 [])))]) (Q (R [n 7 (bsl 7 1 []), n 5 (asg 5 (v 7))]) (Q (Q (R [n 6 (asg 6 (k 0))]) (.blk 0 (.loop (Q (Q (R [n 8 (mov 8 (v 6)), n 9 (mov 9 (v 1)), n 10 (bin 10 .lss (v 8) (v 9))]) (F (v 10) .skip (.exit 0))) (Q (.blk 1 (R [n 13 (mov 13 (v 5)), n 14 (mov 14 (v 0)), n 15 (call (some 15) 179 [v 14]), n 16 (conv 16 .u8 (v 15)), n 17 (bsl 17 1 [v 16]), n 18 (app 18 (v 13) (v 17) 1 1), n 5 (asg 5 (v 18))])) (R [n 11 (mov 11 (v 6)), n 12 (bin 12 .add (v 11) (k 1)), n 6 (asg 6 (v 12))])))))) (Q (R [n 19 (mov 19 (v 5)), n 4 (asg 4 (v 19))]) .ret)))
def c_S_l11Draw : Cmd := Q (R [n 2 (alc 2 [.sl 3 [], .int .i64 0, .sl 3 [], .bool false])]) (Q (R [n 6 (mov 6 (v 0)), n 7 (call (some 7) 148 [v 6, k 3]), n 8 (bin 8 .add (k 3) (v 7)), n 9 (mov 9 (v 0)), n 10 (call (some 10) 168 [v 9]), n 11 (call (some 11) 102 [v 8, v 10]), n 3 (alc 3 [.sl 3 [], .int .i64 0, .sl 3 [], .bool false]), m (st (v 3) (v 11) 4)]) (Q (Q (R [n 12 (mov 12 (v 0)), n 13 (call (some 13) 148 [v 12, k 16]), n 4 (asg 4 (v 13))]) (.blk 0 (.loop (Q (Q (R [n 14 (mov 14 (v 4)), n 15 (bin 15 .gtr (v 14) (k 0))]) (F (v 15) .skip (.exit 0))) (Q (.blk 1 (Q (R [n 18 (mov 18 (v 0)), n 19 (fld 19 (v 3) 0), n 20 (fld 20 (v 19) 0), n 21 (ld 21 (v 20) 1 false), n 22 (len 22 (v 21)), n 23 (call (some 23) 148 [v 18, v 22]), n 5 (asg 5 (v 23))]) (Q (R [n 24 (mov 24 (v 0)), n 25 (call (some 25) 148 [v 24, k 8])]) (.blk 2 (Q (R [n 35 (bin 35 .eql (v 25) (k 0)), n 34 (asg 34 (v 35))]) (F (v 34) (R [n 37 (ld 37 (v 3) 4 true), n 38 (mov 38 (v 5)), n 39 (call (some 39) 116 [v 37, v 38]), n 36 (mov 36 (v 39)), n 40 (xtr 40 (v 36) 0), n 41 (xtr 41 (v 36) 1), m (st (v 3) (v 40) 4)]) (Q (R [n 43 (bin 43 .eql (v 25) (k 1)), n 42 (asg 42 (v 43))]) (F (v 42) (R [n 44 (fld 44 (v 3) 3), m (st (v 44) k0 1)]) (D [0, 0, 0, 4, 15, 31, 63, 127, 127] [n 27 (ld 27 (v 3) 4 true), n 28 (mov 28 (v 5)), n 29 (mov 29 (v 0)), n 30 (call (some 30) 153 [v 29]), n 31 (call (some 31) 113 [v 27, v 28, v 30]), n 26 (mov 26 (v 31)), n 32 (xtr 32 (v 26) 0), n 33 (xtr 33 (v 26) 1), m (st (v 3) (v 32) 4)]))))))))) (R [n 16 (mov 16 (v 4)), n 17 (bin 17 .sub (v 16) (k 1)), n 4 (asg 4 (v 17))])))))) (Q (R [n 45 (ld 45 (v 3) 4 true), m (st (v 2) (v 45) 4)]) .ret)))
end Go.Proofs.Ytliklgcfdgdigaa.Awp

namespace Go.Proofs.Ytliklgcfdgdigaa.Awp
open Go.Proofs

theorem hmx : Try.prog.follows .mixedOrders = true := by kernel_rfl
theorem p_L_FnPowers : compile Try.prog 29 = some (126, [.t 2], c_L_FnPowers) := by kernel_rfl
theorem p_S_ChipNew : compile Try.prog 48 = some (23, [.c 2 1 true], c_S_ChipNew) := by kernel_rfl
theorem p_I_ChipNew : compile Try.prog 49 = some (21, [.c 2 1 true], c_I_ChipNew) := by kernel_rfl
theorem p_S_NextPage : compile Try.prog 64 = some (20, [.t 4], c_S_NextPage) := by kernel_rfl
theorem p_I_NextPage : compile Try.prog 65 = some (29, [.t 4], c_I_NextPage) := by kernel_rfl
theorem p_S_ChipOk : compile Try.prog 66 = some (22, [.t 2], c_S_ChipOk) := by kernel_rfl
theorem p_I_ChipOk : compile Try.prog 67 = some (71, [.t 2], c_I_ChipOk) := by kernel_rfl
theorem p_L_big : compile Try.prog 68 = some (6, [.t 2], c_L_big) := by kernel_rfl
theorem p_L_sameBytes : compile Try.prog 72 = some (26, [.t 4], c_L_sameBytes) := by kernel_rfl
theorem p_I_Program : compile Try.prog 78 = some (53, [.c 6 1 true, .t 7], c_I_Program) := by kernel_rfl
theorem p_S_FaultAt : compile Try.prog 82 = some (27, [.c 2 3 true, .t 3], c_S_FaultAt) := by kernel_rfl
theorem p_I_FaultAt : compile Try.prog 84 = some (21, [.c 2 3 true, .t 3], c_I_FaultAt) := by kernel_rfl
theorem p_I_Erase : compile Try.prog 88 = some (51, [.c 4 1 true, .t 5], c_I_Erase) := by kernel_rfl
theorem p_S_Erase : compile Try.prog 89 = some (35, [.c 4 1 true, .t 5], c_S_Erase) := by kernel_rfl
theorem p_L_sameChip : compile Try.prog 90 = some (90, [.t 4], c_L_sameChip) := by kernel_rfl
theorem p_S_Program : compile Try.prog 92 = some (34, [.c 6 1 true, .t 7], c_S_Program) := by kernel_rfl
theorem p_S_DevOk : compile Try.prog 94 = some (16, [.t 2], c_S_DevOk) := by kernel_rfl
theorem p_I_DevOk : compile Try.prog 95 = some (60, [.t 2], c_I_DevOk) := by kernel_rfl
theorem p_S_DevNew : compile Try.prog 102 = some (17, [.c 4 4 true], c_S_DevNew) := by kernel_rfl
theorem p_I_DevNew : compile Try.prog 104 = some (16, [.c 4 4 true], c_I_DevNew) := by kernel_rfl
theorem p_I_PowerUp : compile Try.prog 110 = some (7, [.c 2 4 true], c_I_PowerUp) := by kernel_rfl
theorem p_I_DevProgram : compile Try.prog 112 = some (40, [.c 6 4 true, .t 7], c_I_DevProgram) := by kernel_rfl
theorem p_S_DevProgram : compile Try.prog 113 = some (75, [.c 6 4 true, .t 7], c_S_DevProgram) := by kernel_rfl
theorem p_I_DevErase : compile Try.prog 115 = some (37, [.c 4 4 true, .t 5], c_I_DevErase) := by kernel_rfl
theorem p_S_DevErase : compile Try.prog 116 = some (79, [.c 4 4 true, .t 5], c_S_DevErase) := by kernel_rfl
theorem p_S_DrawPowerUp : compile Try.prog 117 = some (8, [.c 2 4 true], c_S_DrawPowerUp) := by kernel_rfl
theorem p_S_DrawDevNew : compile Try.prog 118 = some (25, [.t 2, .t 3], c_S_DrawDevNew) := by kernel_rfl
theorem p_S_l1In : compile Try.prog 120 = some (15, [.t 6], c_S_l1In) := by kernel_rfl
theorem p_I_from : compile Try.prog 121 = some (15, [.t 6], c_I_from) := by kernel_rfl
theorem p_S_l10Next : compile Try.prog 138 = some (21, [.t 2], c_S_l10Next) := by kernel_rfl
theorem p_I_isBlock : compile Try.prog 139 = some (11, [.t 4], c_I_isBlock) := by kernel_rfl
theorem p_S_l10Block : compile Try.prog 140 = some (60, [.t 2], c_S_l10Block) := by kernel_rfl
theorem p_S_l1New : compile Try.prog 141 = some (32, [.t 2], c_S_l1New) := by kernel_rfl
theorem p_X_Clone_byte : compile Try.prog 144 = some (8, [.t 2], c_X_Clone_byte) := by kernel_rfl
theorem p_S_l1Int : compile Try.prog 145 = some (12, [.t 4], c_S_l1Int) := by kernel_rfl
theorem p_S_l10Any : compile Try.prog 146 = some (66, [.c 2 1 true], c_S_l10Any) := by kernel_rfl
theorem p_S_l10Draw : compile Try.prog 147 = some (49, [.c 2 1 true], c_S_l10Draw) := by kernel_rfl
theorem p_S_l1Below : compile Try.prog 148 = some (31, [.t 4], c_S_l1Below) := by kernel_rfl
theorem p_I_copyChip : compile Try.prog 149 = some (45, [.c 2 1 true], c_I_copyChip) := by kernel_rfl
theorem p_S_l10Copy : compile Try.prog 151 = some (25, [.c 2 1 true], c_S_l10Copy) := by kernel_rfl
theorem p_S_l10Erase : compile Try.prog 152 = some (28, [.t 4], c_S_l10Erase) := by kernel_rfl
theorem p_S_l1Some : compile Try.prog 153 = some (8, [.t 2], c_S_l1Some) := by kernel_rfl
theorem p_S_l1Once : compile Try.prog 154 = some (9, [.t 4], c_S_l1Once) := by kernel_rfl
theorem p_S_l10Program : compile Try.prog 155 = some (17, [.t 6], c_S_l10Program) := by kernel_rfl
theorem p_S_l11Faults : compile Try.prog 157 = some (56, [.t 2], c_S_l11Faults) := by kernel_rfl
theorem p_X_Clone_Fault : compile Try.prog 159 = some (8, [.t 2], c_X_Clone_Fault) := by kernel_rfl
theorem p_S_l11Copy : compile Try.prog 161 = some (15, [.c 2 4 true], c_S_l11Copy) := by kernel_rfl
theorem p_I_copyDev : compile Try.prog 162 = some (12, [.c 2 4 true], c_I_copyDev) := by kernel_rfl
theorem p_S_l11Any : compile Try.prog 163 = some (36, [.c 2 4 true], c_S_l11Any) := by kernel_rfl
theorem p_I_begin : compile Try.prog 164 = some (51, [.c 10 4 true, .t 11], c_I_begin) := by kernel_rfl
theorem p_I_DevProgram_1 : compile Try.prog 165 = some (22, [.c 5 1 true], c_I_DevProgram_1) := by kernel_rfl
theorem p_S_l11May : compile Try.prog 166 = some (18, [.t 4], c_S_l11May) := by kernel_rfl
theorem p_I_DevErase_1 : compile Try.prog 167 = some (31, [.c 4 1 true], c_I_DevErase_1) := by kernel_rfl
theorem p_S_l11FaultList : compile Try.prog 168 = some (31, [.t 2], c_S_l11FaultList) := by kernel_rfl
theorem p_S_l1Byte : compile Try.prog 179 = some (58, [.t 2], c_S_l1Byte) := by kernel_rfl
theorem p_S_l10CopyBlock : compile Try.prog 180 = some (38, [.c 2 3 true], c_S_l10CopyBlock) := by kernel_rfl
theorem p_S_l10May : compile Try.prog 181 = some (31, [.t 6], c_S_l10May) := by kernel_rfl
theorem p_S_l1Bytes : compile Try.prog 182 = some (20, [.t 4], c_S_l1Bytes) := by kernel_rfl
theorem p_S_l11Draw : compile Try.prog 183 = some (46, [.c 2 4 true], c_S_l11Draw) := by kernel_rfl
end Go.Proofs.Ytliklgcfdgdigaa.Awp

namespace Go.Proofs.Ytliklgcfdgdigaa.Awp
set_option linter.unusedVariables false

/-! ### what goes on behind a bind is left alone till its first part is known -/
@[congr] theorem bind_congr_l {α β : Type} {a b : Option α} {f : α → Option β} (h : a = b) : a.bind f = b.bind f := by rw [h]
@[congr] theorem map_congr_l {α β : Type} {a b : Option α} {f : α → β} (h : a = b) : a.map f = b.map f := by rw [h]

/-- are the places of an argument's parts empty? -/
def allU (E : Env) : List Plc → Bool
  | [] => true
  | (_, _, r, p) :: l => isU (aget (E.f r) p) && allU E l
theorem allU_eq (E : Env) : ∀ l : List Plc, allU E l = l.all (fun q => isU (aget (E.f q.2.2.1) q.2.2.2)) := by
  intro l
  induction l with
  | nil => rfl
  | cons q l ih => obtain ⟨k, j, r, p⟩ := q; simp [allU, ih]
theorem SBK2 : ∀ (E : Env) (q : Plc) (pls : List Plc) (outs : List AV), backA E none (q :: pls) outs = if allU E (q :: pls) = true then backP E outs (q :: pls) else none := by
  intro E q pls outs
  rw [allU_eq]; rfl
theorem SAU : (∀ E : Env, allU E [] = true) ∧ (∀ (E : Env) (k : Nat) (j : Option Nat) (r : Nat) (p : Path) (l : List Plc), allU E ((k, j, r, p) :: l) = (isU (aget (E.f r) p) && allU E l)) := ⟨fun _ => rfl, fun _ _ _ _ _ _ => rfl⟩
theorem SBK : ∀ (E : Env) (outs : List AV), backA E none [] outs = backP E outs [] := by
  intro E outs
  simp [backA]

/-! ### the program's values -/
abbrev Bytes := List UInt8
theorem sum_mem {α : Type} {f : α → Nat} {l : List α} {x : α} (h : x ∈ l) : f x ≤ (l.map f).sum := by
  induction l with
  | nil => simp at h
  | cons y l ih =>
    rcases List.mem_cons.1 h with rfl | h
    · simp
    · have := ih h; simp; omega
theorem getE {α : Type} {l : List α} {i : Nat} (h : (i : Int) < (l.length : Nat)) : l[i]? = some (l[i]'(by omega)) := by simp
theorem sum_get {α : Type} (f : α → Nat) {l : List α} {i : Nat} (h : i < l.length) : f l[i] ≤ (l.map f).sum := sum_mem (List.getElem_mem h)
theorem sum_take {α : Type} (f : α → Nat) (l : List α) (i : Nat) (h : i < l.length) : ((l.take (i + 1)).map f).sum = ((l.take i).map f).sum + f l[i] := by
  rw [List.take_succ_eq_append_getElem h, List.map_append, List.sum_append]
  simp only [List.map_cons, List.map_nil, List.sum_cons, List.sum_nil, Nat.add_zero]
theorem sum_take_le {α : Type} (f : α → Nat) (l : List α) (i : Nat) : ((l.take i).map f).sum ≤ (l.map f).sum := by
  conv => rhs; rw [← List.take_append_drop i l, List.map_append, List.sum_append]
  omega
theorem take_eq_succ {α : Type} {a b : List α} {i : Nat} (h : a.take i = b.take i) (h1 : i < a.length) (h2 : i < b.length) (e : a[i] = b[i]) : a.take (i + 1) = b.take (i + 1) := by
  rw [List.take_succ_eq_append_getElem h1, List.take_succ_eq_append_getElem h2, h, e]
theorem take_all {α : Type} {a b : List α} {i : Nat} (h : a.take i = b.take i) (h1 : a.length ≤ i) (h2 : b.length ≤ i) : a = b := by
  rwa [List.take_of_length_le h1, List.take_of_length_le h2] at h

/-! ### rows that are filled, or marked, one by one -/
def mixM {α β : Type} (f : α → Int → β) (g : α → β) (c : α → Nat) : List α → Int → Nat → List β
  | [], _, _ => []
  | x :: l, _, 0 => g x :: l.map g
  | x :: l, k, i + 1 => f x k :: mixM f g c l (k + c x) i
def markL {α β : Type} (f : α → Int → β) (c : α → Nat) : List α → Int → List β
  | [], _ => []
  | x :: l, k => f x k :: markL f c l (k + c x)
section
variable {α β γ : Type} (f : α → Int → β) (g : α → β) (c : α → Nat)
theorem mixM_0 (l : List α) (k : Int) : mixM f g c l k 0 = l.map g := by cases l <;> rfl
theorem mixM_len : ∀ (l : List α) (k : Int) (i : Nat), (mixM f g c l k i).length = l.length := by
  intro l
  induction l with
  | nil => intro k i; rfl
  | cons x l ih => intro k i; cases i <;> simp [mixM, ih]
theorem mixM_all : ∀ (l : List α) (k : Int) (i : Nat), l.length ≤ i → mixM f g c l k i = markL f c l k := by
  intro l
  induction l with
  | nil => intro k i h; rfl
  | cons x l ih =>
    intro k i h
    cases i with
    | zero => simp at h
    | succ i => simp only [mixM, markL]; rw [ih _ _ (by simpa using h)]
theorem mixM_get : ∀ (l : List α) (k : Int) (i : Nat), (mixM f g c l k i)[i]? = (l[i]?).map g := by
  intro l
  induction l with
  | nil => intro k i; simp [mixM]
  | cons x l ih => intro k i; cases i <;> simp [mixM, ih]
theorem mixM_set : ∀ (l : List α) (k : Int) (i : Nat) (hi : i < l.length) (h : β → β) (e : h (g l[i]) = f l[i] (k + ((l.take i).map c).sum)), (mixM f g c l k i).modify i h = mixM f g c l k (i + 1) := by
  intro l
  induction l with
  | nil => intro k i hi; simp at hi
  | cons x l ih =>
    intro k i hi h e
    cases i with
    | zero => simp only [mixM, List.modify_zero_cons]; simp at e; rw [e, mixM_0]
    | succ i =>
      simp only [mixM, List.modify_succ_cons]
      rw [ih _ i (by simpa using hi) h]
      simp only [List.getElem_cons_succ, List.take_succ_cons, List.map_cons, List.sum_cons] at e
      rw [e]; congr 1; omega
theorem markL_len : ∀ (l : List α) (k : Int), (markL f c l k).length = l.length := by
  intro l
  induction l with
  | nil => intro k; rfl
  | cons x l ih => intro k; simp [markL, ih]
theorem markL_get : ∀ (l : List α) (k : Int) (i : Nat), (markL f c l k)[i]? = (l[i]?).map fun x => f x (k + ((l.take i).map c).sum) := by
  intro l
  induction l with
  | nil => intro k i; simp [markL]
  | cons x l ih =>
    intro k i
    cases i with
    | zero => simp [markL]
    | succ i =>
      simp only [markL, List.getElem?_cons_succ, ih, List.take_succ_cons, List.map_cons, List.sum_cons]
      congr 1; funext y; congr 1; omega
theorem markL_map (r : β → γ) : ∀ (l : List α) (k : Int), (markL f c l k).map r = markL (fun x k => r (f x k)) c l k := by
  intro l
  induction l with
  | nil => intro k; rfl
  | cons x l ih => intro k; simp [markL, ih]
end
/-- rows that are filled one by one -/
def fillR {α : Type} (f : α → List TV) (z : List TV) (l : List α) (i : Nat) : List (List TV) := mixM (fun x _ => f x) (fun _ => z) (fun _ => 0) l 0 i
theorem fillR_0 {α : Type} (f : α → List TV) (z : List TV) (l : List α) : fillR f z l 0 = List.replicate l.length z := by
  rw [fillR, mixM_0, List.map_const']
theorem fillR_all {α : Type} (f : α → List TV) (z : List TV) (l : List α) (i : Nat) (h : l.length ≤ i) : fillR f z l i = l.map f := by
  rw [fillR, mixM_all _ _ _ _ _ _ h]
  generalize (0 : Int) = k
  induction l generalizing k i with
  | nil => rfl
  | cons x l ih => simp only [markL, List.map_cons]; rw [ih l.length (by omega)]
theorem fillR_len {α : Type} (f : α → List TV) (z : List TV) (l : List α) (i : Nat) : (fillR f z l i).length = l.length := mixM_len ..
theorem fillR_set {α : Type} (f : α → List TV) (z : List TV) (l : List α) (i : Nat) (h : i < l.length) (g : List TV → List TV) (hg : g z = f l[i]) : (fillR f z l i).modify i g = fillR f z l (i + 1) :=
  mixM_set _ _ _ _ _ _ h _ hg
/-- rows that are marked one by one -/
def mixR {α : Type} (r : α → List TV) (f : α → Int → α) (c : α → Nat) (l : List α) (k : Int) (i : Nat) : List (List TV) := mixM (fun x k => r (f x k)) r c l k i
section
variable {α : Type} (r : α → List TV) (f : α → Int → α) (c : α → Nat)
theorem mixR_0 (l : List α) (k : Int) : mixR r f c l k 0 = l.map r := mixM_0 ..
theorem mixR_len (l : List α) (k : Int) (i : Nat) : (mixR r f c l k i).length = l.length := mixM_len ..
theorem mixR_get (l : List α) (k : Int) (i : Nat) : (mixR r f c l k i)[i]? = (l[i]?).map r := mixM_get ..
theorem mixR_all (l : List α) (k : Int) (i : Nat) (h : l.length ≤ i) : mixR r f c l k i = (markL f c l k).map r := by rw [mixR, mixM_all _ _ _ _ _ _ h, markL_map]
theorem mixR_set (l : List α) (k : Int) (i : Nat) (hi : i < l.length) (h : List TV → List TV) (e : h (r l[i]) = r (f l[i] (k + ((l.take i).map c).sum))) : (mixR r f c l k i).modify i h = mixR r f c l k (i + 1) :=
  mixM_set _ _ _ _ _ _ hi _ e
end
def byteRow (x : UInt8) : List TV := [.int .u8 x.toNat]
def markBy (b : Bytes) (k : Int) : Bytes := markL (fun _ k => UInt8.ofInt k) (fun _ => 1) b k
theorem sum_one {α : Type} (l : List α) : (l.map fun _ => 1).sum = l.length := by induction l with | nil => rfl | cons x l ih => simp [ih]; omega
theorem markBy_len (b : Bytes) (k : Int) : (markBy b k).length = b.length := markL_len ..
theorem markBy_get (b : Bytes) (k : Int) (i : Nat) : (markBy b k)[i]? = (b[i]?).map fun _ => UInt8.ofInt (k + i) := by
  rw [markBy, markL_get]
  by_cases h : i < b.length
  · simp only [sum_one, List.length_take, Nat.min_eq_left (Nat.le_of_lt h)]
  · rw [List.getElem?_eq_none (by omega)]; rfl
theorem wrap_ofInt (k : Int) : IntKind.u8.wrap k = ((UInt8.ofInt k).toNat : Int) := by
  have e : IntKind.u8.wrap k = k % 256 := by
    have h1 : ((2 : Int) ^ IntKind.u8.bits) = 256 := by decide
    unfold IntKind.wrap
    simp only [h1]
    simp [IntKind.signed]
  rw [e]
  simp [UInt8.ofInt]
  omega
theorem bytesR_row (b : Bytes) : bytesR b = b.map byteRow := rfl
theorem markBy_row (b : Bytes) (k : Int) (i : Nat) (h : b.length ≤ i) : mixR byteRow (fun _ k => UInt8.ofInt k) (fun _ => 1) b k i = bytesR (markBy b k) := mixR_all _ _ _ _ _ _ h
theorem SF : (∀ (α : Type) (f : α → List TV) (z : List TV) (l : List α) (i : Nat), (fillR f z l i).length = l.length) ∧
    (∀ (α : Type) (r : α → List TV) (f : α → Int → α) (c : α → Nat) (l : List α) (k : Int) (i : Nat), (mixR r f c l k i).length = l.length) ∧
    (∀ (α : Type) (r : α → List TV) (f : α → Int → α) (c : α → Nat) (l : List α) (k : Int) (i : Nat), (mixR r f c l k i)[i]? = (l[i]?).map r) ∧
    (∀ (α β : Type) (f : α → Int → β) (c : α → Nat) (l : List α) (k : Int), (markL f c l k).length = l.length) ∧
    (∀ (α β : Type) (f : α → Int → β) (c : α → Nat) (l : List α) (k : Int) (i : Nat), (markL f c l k)[i]? = (l[i]?).map fun x => f x (k + ((l.take i).map c).sum)) ∧
    (∀ (b : Bytes) (k : Int), (markBy b k).length = b.length) ∧ (∀ (b : Bytes) (k : Int) (i : Nat), (markBy b k)[i]? = (b[i]?).map fun _ => UInt8.ofInt (k + i)) ∧
    (∀ (α : Type) (l : List α) (i : Nat) (f g : α → α), (l.modify i f).modify i g = l.modify i (fun x => g (f x))) ∧ (∀ (α : Type) (l : List α) (i : Nat) (f : α → α), (l.modify i f)[i]? = (l[i]?).map f) ∧
    (∀ (α : Type) (l : List α) (i : Nat) (f : α → α), (l.modify i f).length = l.length) :=
  ⟨fun _ => fillR_len, fun _ => mixR_len, fun _ => mixR_get, fun _ _ => markL_len, fun _ _ => markL_get, markBy_len, markBy_get,
    fun _ l i f g => List.modify_modify_eq f g i l, fun _ l i f => by simp, fun _ l i f => by simp⟩
theorem flatR_bytes (b : Bytes) : flatR (bytesR b) = true := by
  simp [flatR, bytesR]
  intros; rfl
theorem knownR_bytes (b : Bytes) : knownR (bytesR b) = true := by
  simp [knownR, bytesR]
  intros; rfl
theorem rowsBytes_R (b : Bytes) : rowsBytes (bytesR b) = some b := by
  induction b with
  | nil => rfl
  | cons x b ih =>
    simp only [bytesR, List.map_cons]
    simp only [bytesR] at ih
    have h1 : rowByte [.int .u8 x.toNat] = some x := by
      have := x.toNat_lt
      simp [rowByte]
      try omega
    simp [rowsBytes, ih, h1]
theorem SK : knownR [] = true ∧ (∀ (e : List TV) (l : List (List TV)), knownR (e :: l) = (e.all knownT && knownR l)) ∧ (∀ (t : TV) (e : List TV), (t :: e).all knownT = (knownT t && e.all knownT)) ∧ ([] : List TV).all knownT = true ∧
    (∀ b, knownT (.bool b) = true) ∧ (∀ k n, knownT (.int k n) = true) ∧ (∀ s, knownT (.str s) = true) ∧ (∀ s es, knownT (.sl s es) = true) ∧
    flatR [] = true ∧ (∀ (e : List TV) (l : List (List TV)), flatR (e :: l) = (e.all flatT && flatR l)) ∧ (∀ (t : TV) (e : List TV), (t :: e).all flatT = (flatT t && e.all flatT)) ∧ ([] : List TV).all flatT = true ∧
    (∀ b, flatT (.bool b) = true) ∧ (∀ k n, flatT (.int k n) = true) ∧ (∀ s, flatT (.str s) = true) ∧
    (∀ b : Bytes, flatR (bytesR b) = true) ∧ (∀ b : Bytes, knownR (bytesR b) = true) ∧ (∀ b : Bytes, rowsBytes (bytesR b) = some b) :=
  ⟨rfl, fun _ _ => rfl, fun _ _ => rfl, rfl, fun _ => rfl, fun _ _ => rfl, fun _ => rfl, fun _ _ => rfl, rfl, fun _ _ => rfl, fun _ _ => rfl, rfl, fun _ => rfl, fun _ _ => rfl, fun _ => rfl, flatR_bytes, knownR_bytes, rowsBytes_R⟩
theorem SB : min 1 IntKind.i64.bits = 1 ∧ min 7 IntKind.i64.bits = 7 ∧ min 8 IntKind.i64.bits = 8 ∧ min 14 IntKind.i64.bits = 14 ∧ min 16 IntKind.i64.bits = 16 ∧ min 24 IntKind.i64.bits = 24 ∧ min 33 IntKind.i64.bits = 33 ∧ min 47 IntKind.i64.bits = 47 ∧ min 1 IntKind.u32.bits = 1 ∧ min 8 IntKind.u32.bits = 8 ∧ min 16 IntKind.u32.bits = 16 ∧ min 24 IntKind.u32.bits = 24 := by decide
theorem bytesR_map (b : Bytes) : bytesR b = b.map fun x => [.int .u8 x.toNat] := rfl

theorem cnt_len {α : Type} (c : α → Nat) (h : ∀ x, 1 ≤ c x) (l : List α) : l.length ≤ (l.map c).sum := by
  induction l with
  | nil => simp
  | cons x l ih => have := h x; simp; omega
/-- what is left of a size -/
def szC (l : Int) (n : Nat) : Int := if l < n then -1 else l - n
theorem szC_lt {l : Int} {n : Nat} (h : l < n) : szC l n = -1 := if_pos h
theorem szC_ge {l : Int} {n : Nat} (h : ¬ l < n) : szC l n = l - n := if_neg h
/-- decimal digits -/
def digB (n : Nat) : Bytes := if h : n = 0 then [] else digB (n / 10) ++ [UInt8.ofNat (48 + n % 10)]
termination_by n
def markText (k : Int) : Bytes := if k ≤ 0 then [109, 48] else 109 :: digB k.toNat
def cntM {α : Type} (c : α → Nat) (l : List α) : Nat := (l.map c).sum
def szM {α : Type} (c : α → Nat) (l : List α) : Nat := l.length + (l.map c).sum

structure Page where
  used : Bool
  b : Bytes
  deriving DecidableEq, Inhabited
def Page.row (a : Page) : List TV := [.bool a.used, .sl 1 (bytesR a.b)]
def Page.x (a : Page) : AV := .agg [.bool a.used, .ext 1 (bytesR a.b)]
def Page.o (a : Page) : AV := .agg [.bool a.used, .own 1 (bytesR a.b)]
def Page.sz (a : Page) : Nat := a.b.length
def Page.fine (a : Page) : Prop := (a.b.length < 2 ^ 48)
def Page.cnt (a : Page) : Nat := 1 + a.b.length
def Page.cntT (a : Page) : Nat := a.b.length
def Page.marked (a : Page) (k : Int) : Page := { used := decide ((k).tmod 3 = 0), b := markBy a.b (k + 1) }
def Page.markT (a : Page) (k : Int) : Page := { used := a.used, b := markBy a.b (k) }
def Page.zero : List TV := [.bool false, .sl 1 []]
theorem Page.eq' {a b : Page} (h0 : a.used = b.used) (h1 : a.b = b.b) : a = b := by cases a; cases b; simp_all
theorem Page.cnt1 (a : Page) : 1 ≤ a.cnt := by simp only [Page.cnt]; omega

structure Block where
  pages : List Page
  wear : Int
  bad : Bool
  deriving DecidableEq, Inhabited
def Block.row (a : Block) : List TV := [.sl 2 (a.pages.map Page.row), .int .i64 a.wear, .bool a.bad]
def Block.x (a : Block) : AV := .agg [.ext 2 (a.pages.map Page.row), .int .i64 a.wear, .bool a.bad]
def Block.o (a : Block) : AV := .agg [.own 2 (a.pages.map Page.row), .int .i64 a.wear, .bool a.bad]
def Block.sz (a : Block) : Nat := szM Page.sz a.pages
def Block.fine (a : Block) : Prop := (a.pages.length < 2 ^ 48 ∧ ∀ x ∈ a.pages, x.fine)
def Block.cnt (a : Block) : Nat := cntM Page.cnt a.pages + 1 + 1
def Block.cntT (a : Block) : Nat := cntM Page.cnt a.pages
def Block.marked (a : Block) (k : Int) : Block := { pages := markL Page.marked Page.cnt a.pages (k), wear := k + (cntM Page.cnt a.pages : Nat), bad := decide ((k + (cntM Page.cnt a.pages : Nat) + 1).tmod 3 = 0) }
def Block.markT (a : Block) (k : Int) : Block := { pages := markL Page.marked Page.cnt a.pages (k), wear := a.wear, bad := a.bad }
def Block.zero : List TV := [.sl 2 [], .int .i64 0, .bool false]
theorem Block.eq' {a b : Block} (h0 : a.pages = b.pages) (h1 : a.wear = b.wear) (h2 : a.bad = b.bad) : a = b := by cases a; cases b; simp_all
theorem Block.cnt1 (a : Block) : 1 ≤ a.cnt := by simp only [Block.cnt]; omega

structure Chip where
  blocks : List Block
  deriving DecidableEq, Inhabited
def Chip.row (a : Chip) : List TV := [.sl 3 (a.blocks.map Block.row)]
def Chip.x (a : Chip) : AV := .agg [.ext 3 (a.blocks.map Block.row)]
def Chip.o (a : Chip) : AV := .agg [.own 3 (a.blocks.map Block.row)]
def Chip.sz (a : Chip) : Nat := szM Block.sz a.blocks
def Chip.fine (a : Chip) : Prop := (a.blocks.length < 2 ^ 48 ∧ ∀ x ∈ a.blocks, x.fine)
def Chip.cnt (a : Chip) : Nat := cntM Block.cnt a.blocks
def Chip.cntT (a : Chip) : Nat := cntM Block.cnt a.blocks
def Chip.marked (a : Chip) (k : Int) : Chip := { blocks := markL Block.marked Block.cnt a.blocks (k) }
def Chip.markT (a : Chip) (k : Int) : Chip := { blocks := markL Block.marked Block.cnt a.blocks (k) }
def Chip.zero : List TV := [.sl 3 []]
theorem Chip.eq' {a b : Chip} (h0 : a.blocks = b.blocks) : a = b := by cases a; cases b; simp_all


structure Fault where
  at' : Int
  kind : Int
  keep : Int
  deriving DecidableEq, Inhabited
def Fault.row (a : Fault) : List TV := [.int .i64 a.at', .int .i64 a.kind, .int .i64 a.keep]
def Fault.x (a : Fault) : AV := .agg [.int .i64 a.at', .int .i64 a.kind, .int .i64 a.keep]
def Fault.o (a : Fault) : AV := .agg [.int .i64 a.at', .int .i64 a.kind, .int .i64 a.keep]
def Fault.sz (a : Fault) : Nat := 0
def Fault.fine (a : Fault) : Prop := True
def Fault.cnt (a : Fault) : Nat := 1 + 1 + 1
def Fault.cntT (a : Fault) : Nat := 0
def Fault.marked (a : Fault) (k : Int) : Fault := { at' := k, kind := k + 1, keep := k + 1 + 1 }
def Fault.markT (a : Fault) (k : Int) : Fault := { at' := a.at', kind := a.kind, keep := a.keep }
def Fault.zero : List TV := [.int .i64 0, .int .i64 0, .int .i64 0]
theorem Fault.eq' {a b : Fault} (h0 : a.at' = b.at') (h1 : a.kind = b.kind) (h2 : a.keep = b.keep) : a = b := by cases a; cases b; simp_all
theorem Fault.cnt1 (a : Fault) : 1 ≤ a.cnt := by simp only [Fault.cnt]; omega

structure Dev where
  c : Chip
  ops : Int
  faults : List Fault
  down : Bool
  deriving DecidableEq, Inhabited
def Dev.row (a : Dev) : List TV := [.sl 3 (a.c.blocks.map Block.row), .int .i64 a.ops, .sl 3 (a.faults.map Fault.row), .bool a.down]
def Dev.x (a : Dev) : AV := .agg [.ext 3 (a.c.blocks.map Block.row), .int .i64 a.ops, .ext 3 (a.faults.map Fault.row), .bool a.down]
def Dev.o (a : Dev) : AV := .agg [.own 3 (a.c.blocks.map Block.row), .int .i64 a.ops, .own 3 (a.faults.map Fault.row), .bool a.down]
def Dev.sz (a : Dev) : Nat := a.c.sz + a.faults.length
def Dev.fine (a : Dev) : Prop := (a.c.fine) ∧ (a.faults.length < 2 ^ 48)
def Dev.cnt (a : Dev) : Nat := cntM Block.cnt a.c.blocks + 1 + cntM Fault.cnt a.faults + 1
def Dev.cntT (a : Dev) : Nat := a.c.cntT + cntM Fault.cnt a.faults
def Dev.marked (a : Dev) (k : Int) : Dev := { c := { blocks := markL Block.marked Block.cnt a.c.blocks (k) }, ops := k + (cntM Block.cnt a.c.blocks : Nat), faults := markL Fault.marked Fault.cnt a.faults (k + (cntM Block.cnt a.c.blocks : Nat) + 1), down := decide ((k + (cntM Block.cnt a.c.blocks : Nat) + 1 + (cntM Fault.cnt a.faults : Nat)).tmod 3 = 0) }
def Dev.markT (a : Dev) (k : Int) : Dev := { c := a.c.markT (k), ops := a.ops, faults := markL Fault.marked Fault.cnt a.faults (k + (a.c.cntT : Nat)), down := a.down }
def Dev.zero : List TV := [.sl 3 [], .int .i64 0, .sl 3 [], .bool false]
theorem Dev.eq' {a b : Dev} (h0 : a.c = b.c) (h1 : a.ops = b.ops) (h2 : a.faults = b.faults) (h3 : a.down = b.down) : a = b := by cases a; cases b; simp_all
theorem Dev.cnt1 (a : Dev) : 1 ≤ a.cnt := by simp only [Dev.cnt]; omega

structure Rec where
  kind : Int
  seq : Int
  body : Bytes
  deriving DecidableEq, Inhabited
def Rec.row (a : Rec) : List TV := [.int .i64 a.kind, .int .i64 a.seq, .sl 1 (bytesR a.body)]
def Rec.x (a : Rec) : AV := .agg [.int .i64 a.kind, .int .i64 a.seq, .ext 1 (bytesR a.body)]
def Rec.o (a : Rec) : AV := .agg [.int .i64 a.kind, .int .i64 a.seq, .own 1 (bytesR a.body)]
def Rec.sz (a : Rec) : Nat := a.body.length
def Rec.fine (a : Rec) : Prop := (a.body.length < 2 ^ 48)
def Rec.cnt (a : Rec) : Nat := 1 + 1 + a.body.length
def Rec.cntT (a : Rec) : Nat := a.body.length
def Rec.marked (a : Rec) (k : Int) : Rec := { kind := k, seq := k + 1, body := markBy a.body (k + 1 + 1) }
def Rec.markT (a : Rec) (k : Int) : Rec := { kind := a.kind, seq := a.seq, body := markBy a.body (k) }
def Rec.zero : List TV := [.int .i64 0, .int .i64 0, .sl 1 []]
theorem Rec.eq' {a b : Rec} (h0 : a.kind = b.kind) (h1 : a.seq = b.seq) (h2 : a.body = b.body) : a = b := by cases a; cases b; simp_all
theorem Rec.cnt1 (a : Rec) : 1 ≤ a.cnt := by simp only [Rec.cnt]; omega

structure Op where
  kind : Int
  vol : Int
  path : Bytes
  to' : Bytes
  off : Int
  data : Bytes
  deriving DecidableEq, Inhabited
def Op.row (a : Op) : List TV := [.int .i64 a.kind, .int .i64 a.vol, .str a.path, .str a.to', .int .i64 a.off, .sl 1 (bytesR a.data)]
def Op.x (a : Op) : AV := .agg [.int .i64 a.kind, .int .i64 a.vol, .str a.path, .str a.to', .int .i64 a.off, .ext 1 (bytesR a.data)]
def Op.o (a : Op) : AV := .agg [.int .i64 a.kind, .int .i64 a.vol, .str a.path, .str a.to', .int .i64 a.off, .own 1 (bytesR a.data)]
def Op.sz (a : Op) : Nat := a.path.length + a.to'.length + a.data.length
def Op.fine (a : Op) : Prop := (a.path.length < 2 ^ 48) ∧ (a.to'.length < 2 ^ 48) ∧ (a.data.length < 2 ^ 48)
def Op.cnt (a : Op) : Nat := 1 + 1 + 1 + 1 + 1 + a.data.length
def Op.cntT (a : Op) : Nat := a.data.length
def Op.marked (a : Op) (k : Int) : Op := { kind := k, vol := k + 1, path := markText (k + 1 + 1), to' := markText (k + 1 + 1 + 1), off := k + 1 + 1 + 1 + 1, data := markBy a.data (k + 1 + 1 + 1 + 1 + 1) }
def Op.markT (a : Op) (k : Int) : Op := { kind := a.kind, vol := a.vol, path := a.path, to' := a.to', off := a.off, data := markBy a.data (k) }
def Op.zero : List TV := [.int .i64 0, .int .i64 0, .str [], .str [], .int .i64 0, .sl 1 []]
theorem Op.eq' {a b : Op} (h0 : a.kind = b.kind) (h1 : a.vol = b.vol) (h2 : a.path = b.path) (h3 : a.to' = b.to') (h4 : a.off = b.off) (h5 : a.data = b.data) : a = b := by cases a; cases b; simp_all
theorem Op.cnt1 (a : Op) : 1 ≤ a.cnt := by simp only [Op.cnt]; omega

structure Log where
  d : Dev
  seq : Int
  deriving DecidableEq, Inhabited
def Log.row (a : Log) : List TV := [.sl 3 (a.d.c.blocks.map Block.row), .int .i64 a.d.ops, .sl 3 (a.d.faults.map Fault.row), .bool a.d.down, .int .i64 a.seq]
def Log.x (a : Log) : AV := .agg [.ext 3 (a.d.c.blocks.map Block.row), .int .i64 a.d.ops, .ext 3 (a.d.faults.map Fault.row), .bool a.d.down, .int .i64 a.seq]
def Log.o (a : Log) : AV := .agg [.own 3 (a.d.c.blocks.map Block.row), .int .i64 a.d.ops, .own 3 (a.d.faults.map Fault.row), .bool a.d.down, .int .i64 a.seq]
def Log.sz (a : Log) : Nat := a.d.sz
def Log.fine (a : Log) : Prop := (a.d.fine)
def Log.cnt (a : Log) : Nat := cntM Block.cnt a.d.c.blocks + 1 + cntM Fault.cnt a.d.faults + 1 + 1
def Log.cntT (a : Log) : Nat := a.d.cntT
def Log.marked (a : Log) (k : Int) : Log := { d := { c := { blocks := markL Block.marked Block.cnt a.d.c.blocks (k) }, ops := k + (cntM Block.cnt a.d.c.blocks : Nat), faults := markL Fault.marked Fault.cnt a.d.faults (k + (cntM Block.cnt a.d.c.blocks : Nat) + 1), down := decide ((k + (cntM Block.cnt a.d.c.blocks : Nat) + 1 + (cntM Fault.cnt a.d.faults : Nat)).tmod 3 = 0) }, seq := k + (cntM Block.cnt a.d.c.blocks : Nat) + 1 + (cntM Fault.cnt a.d.faults : Nat) + 1 }
def Log.markT (a : Log) (k : Int) : Log := { d := a.d.markT (k), seq := a.seq }
def Log.zero : List TV := [.sl 3 [], .int .i64 0, .sl 3 [], .bool false, .int .i64 0]
theorem Log.eq' {a b : Log} (h0 : a.d = b.d) (h1 : a.seq = b.seq) : a = b := by cases a; cases b; simp_all
theorem Log.cnt1 (a : Log) : 1 ≤ a.cnt := by simp only [Log.cnt]; omega

theorem ST :
    (∀ a : Page, a.row = [.bool a.used, .sl 1 (bytesR a.b)]) ∧
    (∀ a : Page, a.x = .agg [.bool a.used, .ext 1 (bytesR a.b)]) ∧
    (∀ a : Page, a.o = .agg [.bool a.used, .own 1 (bytesR a.b)]) ∧
    (∀ a : Block, a.row = [.sl 2 (a.pages.map Page.row), .int .i64 a.wear, .bool a.bad]) ∧
    (∀ a : Block, a.x = .agg [.ext 2 (a.pages.map Page.row), .int .i64 a.wear, .bool a.bad]) ∧
    (∀ a : Block, a.o = .agg [.own 2 (a.pages.map Page.row), .int .i64 a.wear, .bool a.bad]) ∧
    (∀ a : Chip, a.row = [.sl 3 (a.blocks.map Block.row)]) ∧
    (∀ a : Chip, a.x = .agg [.ext 3 (a.blocks.map Block.row)]) ∧
    (∀ a : Chip, a.o = .agg [.own 3 (a.blocks.map Block.row)]) ∧
    (∀ a : Fault, a.row = [.int .i64 a.at', .int .i64 a.kind, .int .i64 a.keep]) ∧
    (∀ a : Fault, a.x = .agg [.int .i64 a.at', .int .i64 a.kind, .int .i64 a.keep]) ∧
    (∀ a : Fault, a.o = .agg [.int .i64 a.at', .int .i64 a.kind, .int .i64 a.keep]) ∧
    (∀ a : Dev, a.row = [.sl 3 (a.c.blocks.map Block.row), .int .i64 a.ops, .sl 3 (a.faults.map Fault.row), .bool a.down]) ∧
    (∀ a : Dev, a.x = .agg [.ext 3 (a.c.blocks.map Block.row), .int .i64 a.ops, .ext 3 (a.faults.map Fault.row), .bool a.down]) ∧
    (∀ a : Dev, a.o = .agg [.own 3 (a.c.blocks.map Block.row), .int .i64 a.ops, .own 3 (a.faults.map Fault.row), .bool a.down]) ∧
    (∀ a : Rec, a.row = [.int .i64 a.kind, .int .i64 a.seq, .sl 1 (bytesR a.body)]) ∧
    (∀ a : Rec, a.x = .agg [.int .i64 a.kind, .int .i64 a.seq, .ext 1 (bytesR a.body)]) ∧
    (∀ a : Rec, a.o = .agg [.int .i64 a.kind, .int .i64 a.seq, .own 1 (bytesR a.body)]) ∧
    (∀ a : Op, a.row = [.int .i64 a.kind, .int .i64 a.vol, .str a.path, .str a.to', .int .i64 a.off, .sl 1 (bytesR a.data)]) ∧
    (∀ a : Op, a.x = .agg [.int .i64 a.kind, .int .i64 a.vol, .str a.path, .str a.to', .int .i64 a.off, .ext 1 (bytesR a.data)]) ∧
    (∀ a : Op, a.o = .agg [.int .i64 a.kind, .int .i64 a.vol, .str a.path, .str a.to', .int .i64 a.off, .own 1 (bytesR a.data)]) ∧
    (∀ a : Log, a.row = [.sl 3 (a.d.c.blocks.map Block.row), .int .i64 a.d.ops, .sl 3 (a.d.faults.map Fault.row), .bool a.d.down, .int .i64 a.seq]) ∧
    (∀ a : Log, a.x = .agg [.ext 3 (a.d.c.blocks.map Block.row), .int .i64 a.d.ops, .ext 3 (a.d.faults.map Fault.row), .bool a.d.down, .int .i64 a.seq]) ∧
    (∀ a : Log, a.o = .agg [.own 3 (a.d.c.blocks.map Block.row), .int .i64 a.d.ops, .own 3 (a.d.faults.map Fault.row), .bool a.d.down, .int .i64 a.seq]) ∧
    (∀ (α β : Type) (f : α → β) (l : List α), (l.map f).length = l.length) ∧ (∀ (α β : Type) (f : α → β) (l : List α) (i : Nat), (l.map f)[i]? = (l[i]?).map f) := by
  refine ⟨?_, ?_, ?_, ?_, ?_, ?_, ?_, ?_, ?_, ?_, ?_, ?_, ?_, ?_, ?_, ?_, ?_, ?_, ?_, ?_, ?_, ?_, ?_, ?_, ?_, ?_⟩ <;> intros <;> first | rfl | simp

/-- what each run uses -/
theorem SX : type_of% (And.intro SAU <| And.intro SU <| And.intro SGs <| And.intro SD <| And.intro S1 <| And.intro S2 <| And.intro S3 <| And.intro SE <| And.intro SC <| And.intro SO <| And.intro ST <| And.intro SF <| And.intro SK <| And.intro @bytes_len <| And.intro @bytes_get <| And.intro @Bool.beq_eq_decide_eq.{0} <| And.intro @Int.natCast_zero <| And.intro @Int.add_zero <| And.intro @ge_iff_le.{0} <| And.intro @gt_iff_lt.{0} <| And.intro @Option.isNone_none.{0} <| And.intro @Option.isNone_some.{0} <| And.intro @List.nil_append.{0} <| And.intro @List.append_nil.{0} <| And.intro @Bool.and_true <| And.intro @Bool.and_self <| SB) := And.intro SAU <| And.intro SU <| And.intro SGs <| And.intro SD <| And.intro S1 <| And.intro S2 <| And.intro S3 <| And.intro SE <| And.intro SC <| And.intro SO <| And.intro ST <| And.intro SF <| And.intro SK <| And.intro @bytes_len <| And.intro @bytes_get <| And.intro @Bool.beq_eq_decide_eq.{0} <| And.intro @Int.natCast_zero <| And.intro @Int.add_zero <| And.intro @ge_iff_le.{0} <| And.intro @gt_iff_lt.{0} <| And.intro @Option.isNone_none.{0} <| And.intro @Option.isNone_some.{0} <| And.intro @List.nil_append.{0} <| And.intro @List.append_nil.{0} <| And.intro @Bool.and_true <| And.intro @Bool.and_self <| SB
end Go.Proofs.Ytliklgcfdgdigaa.Awp

namespace Go.Proofs.Ytliklgcfdgdigaa.Awp
open Go.Proofs
set_option linter.unusedSimpArgs false
set_option linter.unusedVariables false

/-! ### whole numbers, as bytes -/
def inR (x a b : Int) : Bool := decide (a ≤ x ∧ x ≤ b)
theorem wrap64 {n : Nat} (h : n < 2 ^ 63) : IntKind.i64.wrap (n : Int) = n := by
  have h1 : ((2 : Int) ^ IntKind.i64.bits) = 2 ^ 64 := by decide
  have h2 : ((2 : Int) ^ (IntKind.i64.bits - 1)) = 2 ^ 63 := by decide
  unfold IntKind.wrap
  simp only [h1, h2, IntKind.signed]
  simp
  omega
/-! ### the sum of bytes -/
end Go.Proofs.Ytliklgcfdgdigaa.Awp

namespace Go.Proofs.Ytliklgcfdgdigaa.Awp
open Go.Proofs
set_option linter.unusedSimpArgs false
set_option linter.unusedVariables false
set_option maxRecDepth 100000
set_option maxHeartbeats 20000000

theorem s_sameBytes (a b : Bytes) (hl : a.length < 2 ^ 40) : Spec Try.prog 72 [.ext 1 (bytesR a), .ext 1 (bytesR b)] (.bool (decide (a = b))) [.undef, .undef] := by
  refine spec_C hmx p_L_sameBytes [] 51 [] ⟨Nat.le_of_ble_eq_true rfl, Nat.le_of_ble_eq_true rfl⟩ rfl rfl ?_
  intro w hP hmd hks hQ
  unfold c_L_sameBytes
  simp +decide (maxSteps := 20000000) (disch := omega) only [↓SBK, ↓SBK2, SX, Nat.reduceEqDiff, Nat.reduceAdd, Nat.reduceMul, Nat.reduceSub, ↓reduceIte, Int.reduceNeg, Int.reduceToNat, Int.reducePow, hmd, hks, hQ]
  (first | with_reducible refine if_d _ ?_ ?_ | refine if_i _ ?_ ?_) <;> intro h
  · simp +decide (maxSteps := 20000000) (disch := omega) only [↓SBK, ↓SBK2, SX, Nat.reduceEqDiff, Nat.reduceAdd, Nat.reduceMul, Nat.reduceSub, ↓reduceIte, Int.reduceNeg, Int.reduceToNat, Int.reducePow, hmd, hks, hQ]
    refine loop_i (fun i : Nat => [(5, .int .i64 i)]) (fun i => i ≤ a.length ∧ a.take i = b.take i) (fun i => a.length - i) (0) hP hmd hks (rfl) (by simp) ?_
    rintro i ⟨hi, hab⟩ w1 hP1 hmd1 hks1 hQ1
    simp +decide (maxSteps := 20000000) (disch := omega) only [↓SBK, ↓SBK2, SX, Nat.reduceEqDiff, Nat.reduceAdd, Nat.reduceMul, Nat.reduceSub, ↓reduceIte, Int.reduceNeg, Int.reduceToNat, Int.reducePow, hmd, hks, hQ, hmd1, hks1, hQ1]
    (first | with_reducible refine if_d _ ?_ ?_ | refine if_i _ ?_ ?_) <;> intro h1
    · simp +decide (maxSteps := 20000000) (disch := omega) only [↓SBK, ↓SBK2, SX, Nat.reduceEqDiff, Nat.reduceAdd, Nat.reduceMul, Nat.reduceSub, ↓reduceIte, Int.reduceNeg, Int.reduceToNat, Int.reducePow, hmd, hks, hQ, hmd1, hks1, hQ1, getE h1, getE (h ▸ h1)]
      (first | with_reducible refine if_d _ ?_ ?_ | refine if_i _ ?_ ?_) <;> intro h2
      · simp +decide (maxSteps := 20000000) (disch := omega) only [↓SBK, ↓SBK2, SX, Nat.reduceEqDiff, Nat.reduceAdd, Nat.reduceMul, Nat.reduceSub, ↓reduceIte, Int.reduceNeg, Int.reduceToNat, Int.reducePow, hmd, hks, hQ, hmd1, hks1, hQ1]
        exact ⟨i + 1, rfl, ⟨by omega, take_eq_succ hab _ _ (UInt8.toNat_inj.1 (by omega))⟩, by omega⟩
      · simp +decide (maxSteps := 20000000) (disch := omega) only [↓SBK, ↓SBK2, SX, Nat.reduceEqDiff, Nat.reduceAdd, Nat.reduceMul, Nat.reduceSub, ↓reduceIte, Int.reduceNeg, Int.reduceToNat, Int.reducePow, hmd, hks, hQ, hmd1, hks1, hQ1]
        rw [decide_eq_false]
        rintro rfl; exact h2 rfl
    · simp +decide (maxSteps := 20000000) (disch := omega) only [↓SBK, ↓SBK2, SX, Nat.reduceEqDiff, Nat.reduceAdd, Nat.reduceMul, Nat.reduceSub, ↓reduceIte, Int.reduceNeg, Int.reduceToNat, Int.reducePow, hmd, hks, hQ, hmd1, hks1, hQ1]
      rw [decide_eq_true (take_all hab (by omega) (by omega))]
  · simp +decide (maxSteps := 20000000) (disch := omega) only [↓SBK, ↓SBK2, SX, Nat.reduceEqDiff, Nat.reduceAdd, Nat.reduceMul, Nat.reduceSub, ↓reduceIte, Int.reduceNeg, Int.reduceToNat, Int.reducePow, hmd, hks, hQ, hQ]
    rw [decide_eq_false]
    rintro rfl; exact h rfl

end Go.Proofs.Ytliklgcfdgdigaa.Awp

namespace Go.Proofs.Ytliklgcfdgdigaa.Awp
open Go.Proofs
set_option linter.unusedSimpArgs false
set_option linter.unusedVariables false
set_option maxRecDepth 100000
set_option maxHeartbeats 20000000

end Go.Proofs.Ytliklgcfdgdigaa.Awp

namespace Go.Proofs.Ytliklgcfdgdigaa.Awp
open Go.Proofs
set_option linter.unusedSimpArgs false
set_option linter.unusedVariables false
set_option maxRecDepth 100000
set_option maxHeartbeats 20000000

end Go.Proofs.Ytliklgcfdgdigaa.Awp

namespace Go.Proofs.Ytliklgcfdgdigaa.Awp
open Go.Proofs
set_option linter.unusedSimpArgs false
set_option linter.unusedVariables false
set_option maxRecDepth 100000
set_option maxHeartbeats 20000000

end Go.Proofs.Ytliklgcfdgdigaa.Awp

namespace Go.Proofs.Ytliklgcfdgdigaa.Awp
open Go.Proofs
set_option linter.unusedSimpArgs false
set_option linter.unusedVariables false
set_option maxRecDepth 100000
set_option maxHeartbeats 20000000

end Go.Proofs.Ytliklgcfdgdigaa.Awp

namespace Go.Proofs.Ytliklgcfdgdigaa.Awp
open Go.Proofs
set_option linter.unusedSimpArgs false
set_option linter.unusedVariables false
set_option maxRecDepth 100000
set_option maxHeartbeats 20000000

end Go.Proofs.Ytliklgcfdgdigaa.Awp

namespace Go.Proofs.Ytliklgcfdgdigaa.Awp
open Go.Proofs
set_option linter.unusedSimpArgs false
set_option linter.unusedVariables false
set_option maxRecDepth 100000
set_option maxHeartbeats 20000000

theorem s_l1In (x a b : Int) : Spec Try.prog 120 [.int .i64 x, .int .i64 a, .int .i64 b] (.bool (inR x a b)) [.undef, .undef, .undef] := by
  refine spec_C hmx p_S_l1In [] 71 [] ⟨Nat.le_of_ble_eq_true rfl, Nat.le_of_ble_eq_true rfl⟩ rfl rfl ?_
  intro w hP hmd hks hQ
  unfold c_S_l1In
  simp +decide (maxSteps := 20000000) (disch := omega) only [↓SBK, ↓SBK2, SX, Nat.reduceEqDiff, Nat.reduceAdd, Nat.reduceMul, Nat.reduceSub, ↓reduceIte, Int.reduceNeg, Int.reduceToNat, Int.reducePow, hmd, hks, hQ]
  (first | with_reducible refine gd_d _ ?_ ?_ | refine gd_i _ ?_ ?_) <;> intro h1
  · simp +decide (maxSteps := 20000000) (disch := omega) only [↓SBK, ↓SBK2, SX, Nat.reduceEqDiff, Nat.reduceAdd, Nat.reduceMul, Nat.reduceSub, ↓reduceIte, Int.reduceNeg, Int.reduceToNat, Int.reducePow, hmd, hks, hQ, h1]
    simp [inR, h1]
  · simp +decide (maxSteps := 20000000) (disch := omega) only [↓SBK, ↓SBK2, SX, Nat.reduceEqDiff, Nat.reduceAdd, Nat.reduceMul, Nat.reduceSub, ↓reduceIte, Int.reduceNeg, Int.reduceToNat, Int.reducePow, hmd, hks, hQ, h1]
    simp [inR, h1]
theorem s_from (x a b : Int) : Spec Try.prog 121 [.int .i64 x, .int .i64 a, .int .i64 b] (.bool (inR x a b)) [.undef, .undef, .undef] := by
  refine spec_C hmx p_I_from [] 71 [] ⟨Nat.le_of_ble_eq_true rfl, Nat.le_of_ble_eq_true rfl⟩ rfl rfl ?_
  intro w hP hmd hks hQ
  unfold c_I_from
  simp +decide (maxSteps := 20000000) (disch := omega) only [↓SBK, ↓SBK2, SX, Nat.reduceEqDiff, Nat.reduceAdd, Nat.reduceMul, Nat.reduceSub, ↓reduceIte, Int.reduceNeg, Int.reduceToNat, Int.reducePow, hmd, hks, hQ]
  (first | with_reducible refine gd_d _ ?_ ?_ | refine gd_i _ ?_ ?_) <;> intro h1
  · simp +decide (maxSteps := 20000000) (disch := omega) only [↓SBK, ↓SBK2, SX, Nat.reduceEqDiff, Nat.reduceAdd, Nat.reduceMul, Nat.reduceSub, ↓reduceIte, Int.reduceNeg, Int.reduceToNat, Int.reducePow, hmd, hks, hQ, h1]
    simp [inR, h1]
  · simp +decide (maxSteps := 20000000) (disch := omega) only [↓SBK, ↓SBK2, SX, Nat.reduceEqDiff, Nat.reduceAdd, Nat.reduceMul, Nat.reduceSub, ↓reduceIte, Int.reduceNeg, Int.reduceToNat, Int.reducePow, hmd, hks, hQ, h1]
    simp [inR, h1]
end Go.Proofs.Ytliklgcfdgdigaa.Awp

namespace Go.Proofs.Ytliklgcfdgdigaa.Awp
open Go.Proofs
set_option linter.unusedSimpArgs false
set_option linter.unusedVariables false
set_option maxRecDepth 100000
set_option maxHeartbeats 20000000

/-! ### bytes -/
theorem s_Clone8 (b : Bytes) (hl : b.length < 2 ^ 40) : Spec Try.prog 144 [.ext 1 (bytesR b)] (.own 1 (bytesR b)) [.undef] := by
  refine spec_extv fun a len cap ha => ?_
  cases a with
  | none =>
    obtain rfl : b = [] := by simpa [bytesR] using ha rfl
    refine spec_C hmx p_X_Clone_byte [] 5 [] ⟨Nat.le_of_ble_eq_true rfl, Nat.le_of_ble_eq_true rfl⟩ rfl rfl ?_
    intro w hP hmd hks hQ
    unfold c_X_Clone_byte
    simp +decide (maxSteps := 20000000) (disch := omega) only [↓SBK, ↓SBK2, SX, Nat.reduceEqDiff, Nat.reduceAdd, Nat.reduceMul, Nat.reduceSub, ↓reduceIte, Int.reduceNeg, Int.reduceToNat, Int.reducePow, hmd, hks, hQ]
    rfl
  | some a =>
    refine spec_C hmx p_X_Clone_byte [] 5 [] ⟨Nat.le_of_ble_eq_true rfl, Nat.le_of_ble_eq_true rfl⟩ rfl rfl ?_
    intro w hP hmd hks hQ
    unfold c_X_Clone_byte
    simp +decide (maxSteps := 20000000) (disch := omega) only [↓SBK, ↓SBK2, SX, Nat.reduceEqDiff, Nat.reduceAdd, Nat.reduceMul, Nat.reduceSub, ↓reduceIte, Int.reduceNeg, Int.reduceToNat, Int.reducePow, hmd, hks, hQ]

theorem bytesR_snoc (x : Bytes) (k : Int) (h : 0 ≤ k ∧ k < 256) : bytesR x ++ [[TV.int .u8 k]] = bytesR (x ++ [UInt8.ofNat k.toNat]) := by
  have : (UInt8.ofNat k.toNat).toNat = k.toNat := by simp; omega
  simp [bytesR, this]
  omega
end Go.Proofs.Ytliklgcfdgdigaa.Awp

namespace Go.Proofs.Ytliklgcfdgdigaa.Awp
open Go.Proofs
set_option linter.unusedSimpArgs false
set_option linter.unusedVariables false
set_option maxRecDepth 100000
set_option maxHeartbeats 20000000

end Go.Proofs.Ytliklgcfdgdigaa.Awp

namespace Go.Proofs.Ytliklgcfdgdigaa.Awp
open Go.Proofs
set_option linter.unusedSimpArgs false
set_option linter.unusedVariables false
set_option maxRecDepth 100000
set_option maxHeartbeats 20000000

end Go.Proofs.Ytliklgcfdgdigaa.Awp

namespace Go.Proofs.Ytliklgcfdgdigaa.Awp
open Go.Proofs
set_option linter.unusedSimpArgs false
set_option linter.unusedVariables false
set_option maxRecDepth 100000
set_option maxHeartbeats 20000000

def pads : List Nat → List (Nat × AV)
  | [] => []
  | k :: l => (k, .undef) :: pads l
theorem getL_pads (l : List (Nat × AV)) (ks : List Nat) (t : Nat) : getL (l ++ pads ks) t = getL l t := by
  induction l with
  | nil =>
    induction ks with
    | nil => rfl
    | cons k ks ih => simp only [List.nil_append, pads, getL] at *; split <;> simp_all
  | cons x l ih => obtain ⟨k, a⟩ := x; simp only [List.cons_append, getL]; rw [ih]
theorem mkV_pads (K : Nat) (l : List (Nat × AV)) (ks : List Nat) : mkV K l [] [] = mkV K (l ++ pads ks) [] [] := by
  unfold mkV
  congr 1
  funext t
  rw [getL_pads]
end Go.Proofs.Ytliklgcfdgdigaa.Awp

namespace Go.Proofs.Ytliklgcfdgdigaa.Awp
open Go.Proofs
set_option linter.unusedSimpArgs false
set_option linter.unusedVariables false
set_option maxRecDepth 100000
set_option maxHeartbeats 20000000

def zPage : Page := { used := false, b := [] }
def zBlock : Block := { pages := List.replicate 8 zPage, wear := 0, bad := false }
def chipNew (n : Int) : Chip := { blocks := if inR n 3 24 = true then List.replicate n.toNat zBlock else [] }
theorem chipNew_ok {n : Int} (h : inR n 3 24 = true) : chipNew n = { blocks := List.replicate n.toNat zBlock } := by rw [chipNew, if_pos h]
theorem chipNew_no {n : Int} (h : ¬ inR n 3 24 = true) : chipNew n = { blocks := [] } := by rw [chipNew, if_neg h]
theorem inR_iff (x a b : Int) : inR x a b = true ↔ a ≤ x ∧ x ≤ b := by simp [inR]
theorem rep_step {α β : Type} (f : α → β) (z : α) (i : Nat) : (List.replicate (i + 1) z).map f = (List.replicate i z).map f ++ [f z] := by
  rw [List.replicate_succ', List.map_append]; rfl
theorem sI_ChipNew (n : Int) : Spec Try.prog 49 [.int .i64 n] (chipNew n).o [.undef] := by
  refine spec_C hmx p_I_ChipNew [] 1549 [] ⟨Nat.le_of_ble_eq_true rfl, Nat.le_of_ble_eq_true rfl⟩ rfl rfl ?_
  intro w hP hmd hks hQ
  unfold c_I_ChipNew
  simp +decide (maxSteps := 20000000) (disch := omega) only [↓SBK, ↓SBK2, SX, Nat.reduceEqDiff, Nat.reduceAdd, Nat.reduceMul, Nat.reduceSub, ↓reduceIte, Int.reduceNeg, Int.reduceToNat, Int.reducePow, hmd, hks, hQ]
  (first | refine call_i hP (s_from n 3 24) (.inl ⟨rfl, fun _ hx => nomatch hx⟩) ?_ | refine callH_i hP (s_from n 3 24) (.inl ⟨rfl, fun _ hx => nomatch hx⟩) ?_)
  simp +decide (maxSteps := 20000000) (disch := omega) only [↓SBK, ↓SBK2, SX, Nat.reduceEqDiff, Nat.reduceAdd, Nat.reduceMul, Nat.reduceSub, ↓reduceIte, Int.reduceNeg, Int.reduceToNat, Int.reducePow, hmd, hks, hQ]
  (first | with_reducible refine if_d _ ?_ ?_ | refine if_i _ ?_ ?_) <;> intro h1
  · have h1' := (inR_iff n 3 24).1 h1
    simp only [h1, Bool.not_true, Bool.not_false]
    simp +decide (maxSteps := 20000000) (disch := omega) only [↓SBK, ↓SBK2, SX, Nat.reduceEqDiff, Nat.reduceAdd, Nat.reduceMul, Nat.reduceSub, ↓reduceIte, Int.reduceNeg, Int.reduceToNat, Int.reducePow, hmd, hks, hQ]
    refine loop_i (fun i : Nat => [(5003, .box [.own 3 ((List.replicate i zBlock).map Block.row)]), (10, .int .i64 i)]) (fun i => (i : Int) ≤ n) (fun i => n.toNat - i) (0) hP hmd hks (rfl) (by simp; omega) ?_
    rintro i hi w1 hP1 hmd1 hks1 hQ1
    simp +decide (maxSteps := 20000000) (disch := omega) only [↓SBK, ↓SBK2, SX, Nat.reduceEqDiff, Nat.reduceAdd, Nat.reduceMul, Nat.reduceSub, ↓reduceIte, Int.reduceNeg, Int.reduceToNat, Int.reducePow, hmd, hks, hQ, hmd1, hks1, hQ1]
    (first | with_reducible refine if_d _ ?_ ?_ | refine if_i _ ?_ ?_) <;> intro h2
    · simp +decide (maxSteps := 20000000) (disch := omega) only [↓SBK, ↓SBK2, SX, Nat.reduceEqDiff, Nat.reduceAdd, Nat.reduceMul, Nat.reduceSub, ↓reduceIte, Int.reduceNeg, Int.reduceToNat, Int.reducePow, hmd, hks, hQ, hmd1, hks1, hQ1, List.length_replicate]
      exact ⟨i + 1, by rw [rep_step]; rfl, by omega, by omega⟩
    · obtain rfl : i = n.toNat := by omega
      simp +decide (maxSteps := 20000000) (disch := omega) only [↓SBK, ↓SBK2, SX, Nat.reduceEqDiff, Nat.reduceAdd, Nat.reduceMul, Nat.reduceSub, ↓reduceIte, Int.reduceNeg, Int.reduceToNat, Int.reducePow, hmd, hks, hQ, hmd1, hks1, hQ1]
      rw [chipNew_ok h1]
  · simp only [h1, Bool.not_true, Bool.not_false]
    simp +decide (maxSteps := 20000000) (disch := omega) only [↓SBK, ↓SBK2, SX, Nat.reduceEqDiff, Nat.reduceAdd, Nat.reduceMul, Nat.reduceSub, ↓reduceIte, Int.reduceNeg, Int.reduceToNat, Int.reducePow, hmd, hks, hQ]
    rw [chipNew_no (by simp [h1])]; rfl
theorem sS_ChipNew (n : Int) : Spec Try.prog 48 [.int .i64 n] (chipNew n).o [.undef] := by
  by_cases h1 : inR n 3 24 = true
  · have h1' := (inR_iff n 3 24).1 h1
    refine spec_C hmx p_S_ChipNew [] 29 [] ⟨Nat.le_of_ble_eq_true rfl, Nat.le_of_ble_eq_true rfl⟩ rfl rfl ?_
    intro w hP hmd hks hQ
    unfold c_S_ChipNew
    simp +decide (maxSteps := 20000000) (disch := omega) only [↓SBK, ↓SBK2, SX, Nat.reduceEqDiff, Nat.reduceAdd, Nat.reduceMul, Nat.reduceSub, ↓reduceIte, Int.reduceNeg, Int.reduceToNat, Int.reducePow, hmd, hks, hQ]
    refine loop_i (fun i : Nat => [(5003, .box [.own 3 ((List.replicate i zBlock).map Block.row)]), (4, .int .i64 i)]) (fun i => (i : Int) ≤ n) (fun i => n.toNat - i) (0) hP hmd hks (rfl) (by simp; omega) ?_
    rintro i hi w1 hP1 hmd1 hks1 hQ1
    simp +decide (maxSteps := 20000000) (disch := omega) only [↓SBK, ↓SBK2, SX, Nat.reduceEqDiff, Nat.reduceAdd, Nat.reduceMul, Nat.reduceSub, ↓reduceIte, Int.reduceNeg, Int.reduceToNat, Int.reducePow, hmd, hks, hQ, hmd1, hks1, hQ1]
    (first | with_reducible refine gd_d _ ?_ ?_ | refine gd_i _ ?_ ?_) <;> intro h2
    · simp +decide (maxSteps := 20000000) (disch := omega) only [↓SBK, ↓SBK2, SX, Nat.reduceEqDiff, Nat.reduceAdd, Nat.reduceMul, Nat.reduceSub, ↓reduceIte, Int.reduceNeg, Int.reduceToNat, Int.reducePow, hmd, hks, hQ, hmd1, hks1, hQ1, h2]
      (first | refine call_i hP1 (s_l1In n 3 24) (.inl ⟨rfl, fun _ hx => nomatch hx⟩) ?_ | refine callH_i hP1 (s_l1In n 3 24) (.inl ⟨rfl, fun _ hx => nomatch hx⟩) ?_)
      simp +decide (maxSteps := 20000000) (disch := omega) only [↓SBK, ↓SBK2, SX, Nat.reduceEqDiff, Nat.reduceAdd, Nat.reduceMul, Nat.reduceSub, ↓reduceIte, Int.reduceNeg, Int.reduceToNat, Int.reducePow, hmd, hks, hQ, hmd1, hks1, hQ1, h1, h2, List.length_replicate]
      exact ⟨i + 1, by rw [rep_step]; rfl, by omega, by omega⟩
    · have e : i = n.toNat := by omega
      simp +decide (maxSteps := 20000000) (disch := omega) only [↓SBK, ↓SBK2, SX, Nat.reduceEqDiff, Nat.reduceAdd, Nat.reduceMul, Nat.reduceSub, ↓reduceIte, Int.reduceNeg, Int.reduceToNat, Int.reducePow, hmd, hks, hQ, hmd1, hks1, hQ1, h2]
      subst e
      rw [chipNew_ok h1]
  · have h1' : inR n 3 24 = false := by simpa using h1
    refine spec_C hmx p_S_ChipNew [] 29 [] ⟨Nat.le_of_ble_eq_true rfl, Nat.le_of_ble_eq_true rfl⟩ rfl rfl ?_
    intro w hP hmd hks hQ
    unfold c_S_ChipNew
    simp +decide (maxSteps := 20000000) (disch := omega) only [↓SBK, ↓SBK2, SX, Nat.reduceEqDiff, Nat.reduceAdd, Nat.reduceMul, Nat.reduceSub, ↓reduceIte, Int.reduceNeg, Int.reduceToNat, Int.reducePow, hmd, hks, hQ]
    refine loop_i (fun i : Nat => [(5003, .box [.own 3 []]), (4, .int .i64 i)]) (fun i => i = 0) (fun i => 0) (0) hP hmd hks (rfl) (rfl) ?_
    rintro i hi w1 hP1 hmd1 hks1 hQ1
    simp +decide (maxSteps := 20000000) (disch := omega) only [↓SBK, ↓SBK2, SX, Nat.reduceEqDiff, Nat.reduceAdd, Nat.reduceMul, Nat.reduceSub, ↓reduceIte, Int.reduceNeg, Int.reduceToNat, Int.reducePow, hmd, hks, hQ, hmd1, hks1, hQ1]
    (first | with_reducible refine gd_d _ ?_ ?_ | refine gd_i _ ?_ ?_) <;> intro h2
    · simp +decide (maxSteps := 20000000) (disch := omega) only [↓SBK, ↓SBK2, SX, Nat.reduceEqDiff, Nat.reduceAdd, Nat.reduceMul, Nat.reduceSub, ↓reduceIte, Int.reduceNeg, Int.reduceToNat, Int.reducePow, hmd, hks, hQ, hmd1, hks1, hQ1, h2]
      (first | refine call_i hP1 (s_l1In n 3 24) (.inl ⟨rfl, fun _ hx => nomatch hx⟩) ?_ | refine callH_i hP1 (s_l1In n 3 24) (.inl ⟨rfl, fun _ hx => nomatch hx⟩) ?_)
      simp +decide (maxSteps := 20000000) (disch := omega) only [↓SBK, ↓SBK2, SX, Nat.reduceEqDiff, Nat.reduceAdd, Nat.reduceMul, Nat.reduceSub, ↓reduceIte, Int.reduceNeg, Int.reduceToNat, Int.reducePow, hmd, hks, hQ, hmd1, hks1, hQ1, h1', h2]
      rw [chipNew_no h1]; rfl
    · simp +decide (maxSteps := 20000000) (disch := omega) only [↓SBK, ↓SBK2, SX, Nat.reduceEqDiff, Nat.reduceAdd, Nat.reduceMul, Nat.reduceSub, ↓reduceIte, Int.reduceNeg, Int.reduceToNat, Int.reducePow, hmd, hks, hQ, hmd1, hks1, hQ1, h2]
      rw [chipNew_no h1]; rfl
theorem chipNew_blocks (n : Int) : (chipNew n).blocks.length ≤ 24 ∧ ∀ b ∈ (chipNew n).blocks, b = zBlock := by
  by_cases h1 : inR n 3 24 = true
  · have h1' := (inR_iff n 3 24).1 h1
    rw [chipNew_ok h1]
    exact ⟨by simp; omega, fun b hb => (List.mem_replicate.1 hb).2⟩
  · rw [chipNew_no h1]; simp
theorem sum_const {α : Type} (f : α → Nat) (c : Nat) : ∀ (l : List α), (∀ x ∈ l, f x = c) → (l.map f).sum = l.length * c := by
  intro l
  induction l with
  | nil => intro _; simp
  | cons x l ih =>
    intro h
    simp only [List.map_cons, List.sum_cons, List.length_cons]
    rw [ih fun y hy => h y (by simp [hy]), h x (by simp), Nat.succ_mul]; omega
theorem chipNew_sz (n : Int) : (chipNew n).sz ≤ 1000 ∧ (chipNew n).cntT ≤ 1000 := by
  obtain ⟨h1, h2⟩ := chipNew_blocks n
  have e1 := sum_const Block.sz 8 (chipNew n).blocks fun b hb => by rw [h2 b hb]; rfl
  have e2 := sum_const Block.cnt 10 (chipNew n).blocks fun b hb => by rw [h2 b hb]; rfl
  simp only [Chip.sz, Chip.cntT, szM, cntM, e1, e2]
  omega
end Go.Proofs.Ytliklgcfdgdigaa.Awp

namespace Go.Proofs.Ytliklgcfdgdigaa.Awp
open Go.Proofs
set_option linter.unusedSimpArgs false
set_option linter.unusedVariables false
set_option maxRecDepth 100000
set_option maxHeartbeats 20000000

end Go.Proofs.Ytliklgcfdgdigaa.Awp

namespace Go.Proofs.Ytliklgcfdgdigaa.Awp
open Go.Proofs
set_option linter.unusedSimpArgs false
set_option linter.unusedVariables false
set_option maxRecDepth 100000
set_option maxHeartbeats 20000000

def usedN (l : List Page) : Nat := l.countP (·.used)
theorem usedN_take (l : List Page) (i : Nat) (h : i < l.length) : usedN (l.take (i + 1)) = usedN (l.take i) + if l[i].used then 1 else 0 := by
  unfold usedN
  rw [List.take_succ_eq_append_getElem h, List.countP_append]
  simp [List.countP_cons]
theorem usedN_le (l : List Page) : usedN l ≤ l.length := List.countP_le_length
theorem sS_l10Next (b : Block) (hl : b.sz < 2 ^ 40) : Spec Try.prog 138 [b.x] (.int .i64 (usedN b.pages : Nat)) [.undef] := by
  simp only [Block.sz, szM] at hl
  refine spec_C hmx p_S_l10Next [] 31 [] ⟨Nat.le_of_ble_eq_true rfl, Nat.le_of_ble_eq_true rfl⟩ rfl rfl ?_
  intro w hP hmd hks hQ
  unfold c_S_l10Next
  simp +decide (maxSteps := 20000000) (disch := omega) only [↓SBK, ↓SBK2, SX, Nat.reduceEqDiff, Nat.reduceAdd, Nat.reduceMul, Nat.reduceSub, ↓reduceIte, Int.reduceNeg, Int.reduceToNat, Int.reducePow, hmd, hks, hQ]
  refine loop_i (fun s : Nat × Nat => [(4, .int .i64 (s.1 : Nat)), (3, .int .i64 (s.2 : Nat))]) (fun s => s.1 ≤ b.pages.length ∧ s.2 = usedN (b.pages.take s.1) ∧ s.2 ≤ s.1) (fun s => b.pages.length - s.1) ((0, 0)) hP hmd hks (rfl) (by simp [usedN]) ?_
  rintro ⟨i, n⟩ ⟨g1, g2, g3⟩ w1 hP1 hmd1 hks1 hQ1
  simp +decide (maxSteps := 20000000) (disch := omega) only [↓SBK, ↓SBK2, SX, Nat.reduceEqDiff, Nat.reduceAdd, Nat.reduceMul, Nat.reduceSub, ↓reduceIte, Int.reduceNeg, Int.reduceToNat, Int.reducePow, hmd, hks, hQ, hmd1, hks1, hQ1]
  simp only at g1 g2 g3
  (first | with_reducible refine if_d _ ?_ ?_ | refine if_i _ ?_ ?_) <;> intro h1
  · have u := usedN_take b.pages i (by omega)
    simp +decide (maxSteps := 20000000) (disch := omega) only [↓SBK, ↓SBK2, SX, Nat.reduceEqDiff, Nat.reduceAdd, Nat.reduceMul, Nat.reduceSub, ↓reduceIte, Int.reduceNeg, Int.reduceToNat, Int.reducePow, hmd, hks, hQ, hmd1, hks1, hQ1, getE h1]
    (first | with_reducible refine if_d _ ?_ ?_ | refine if_i _ ?_ ?_) <;> intro h2
    · simp +decide (maxSteps := 20000000) (disch := omega) only [↓SBK, ↓SBK2, SX, Nat.reduceEqDiff, Nat.reduceAdd, Nat.reduceMul, Nat.reduceSub, ↓reduceIte, Int.reduceNeg, Int.reduceToNat, Int.reducePow, hmd, hks, hQ, hmd1, hks1, hQ1]
      exact ⟨(i + 1, n + 1), rfl, ⟨by simp only; omega, by simp only; rw [u, ← g2, if_pos h2], by simp only; omega⟩, by simp only; omega⟩
    · simp +decide (maxSteps := 20000000) (disch := omega) only [↓SBK, ↓SBK2, SX, Nat.reduceEqDiff, Nat.reduceAdd, Nat.reduceMul, Nat.reduceSub, ↓reduceIte, Int.reduceNeg, Int.reduceToNat, Int.reducePow, hmd, hks, hQ, hmd1, hks1, hQ1]
      exact ⟨(i + 1, n), rfl, ⟨by simp only; omega, by simp only; rw [u, ← g2, if_neg (by simp [h2])]; rfl, by simp only; omega⟩, by simp only; omega⟩
  · obtain rfl : i = b.pages.length := by omega
    rw [List.take_length] at g2
    simp +decide (maxSteps := 20000000) (disch := omega) only [↓SBK, ↓SBK2, SX, Nat.reduceEqDiff, Nat.reduceAdd, Nat.reduceMul, Nat.reduceSub, ↓reduceIte, Int.reduceNeg, Int.reduceToNat, Int.reducePow, hmd, hks, hQ, hmd1, hks1, hQ1, g2]
end Go.Proofs.Ytliklgcfdgdigaa.Awp

namespace Go.Proofs.Ytliklgcfdgdigaa.Awp
open Go.Proofs
set_option linter.unusedSimpArgs false
set_option linter.unusedVariables false
set_option maxRecDepth 100000
set_option maxHeartbeats 20000000

theorem s_isBlock (c : Chip) (k : Int) (hl : c.sz < 2 ^ 40) : Spec Try.prog 139 [c.x, .int .i64 k] (.bool (inR k 0 ((c.blocks.length : Nat) - 1))) [.undef, .undef] := by
  simp only [Chip.sz, szM] at hl
  refine spec_C hmx p_I_isBlock [] 23 [] ⟨Nat.le_of_ble_eq_true rfl, Nat.le_of_ble_eq_true rfl⟩ rfl rfl ?_
  intro w hP hmd hks hQ
  unfold c_I_isBlock
  simp +decide (maxSteps := 20000000) (disch := omega) only [↓SBK, ↓SBK2, SX, Nat.reduceEqDiff, Nat.reduceAdd, Nat.reduceMul, Nat.reduceSub, ↓reduceIte, Int.reduceNeg, Int.reduceToNat, Int.reducePow, hmd, hks, hQ]
  (first | refine call_i hP (s_from k 0 ((c.blocks.length : Nat) - 1)) (.inl ⟨rfl, fun _ hx => nomatch hx⟩) ?_ | refine callH_i hP (s_from k 0 ((c.blocks.length : Nat) - 1)) (.inl ⟨rfl, fun _ hx => nomatch hx⟩) ?_)
  simp +decide (maxSteps := 20000000) (disch := omega) only [↓SBK, ↓SBK2, SX, Nat.reduceEqDiff, Nat.reduceAdd, Nat.reduceMul, Nat.reduceSub, ↓reduceIte, Int.reduceNeg, Int.reduceToNat, Int.reducePow, hmd, hks, hQ]
/-- the block of a number, if there is one -/
def blk? (c : Chip) (k : Int) : Option Block := if 0 ≤ k then c.blocks[k.toNat]? else none
theorem blk_some {c : Chip} {k : Int} (h : 0 ≤ k) (h' : k < (c.blocks.length : Nat)) : blk? c k = some (c.blocks[k.toNat]'(by omega)) := by
  rw [blk?, if_pos h, List.getElem?_eq_getElem]
theorem blk_none {c : Chip} {k : Int} (h : ¬ (0 ≤ k ∧ k < (c.blocks.length : Nat))) : blk? c k = none := by
  unfold blk?
  split
  · rw [List.getElem?_eq_none]; omega
  · rfl
def nextPage (c : Chip) (k : Int) : Int := match blk? c k with | some b => (usedN b.pages : Nat) | none => -1
theorem sS_NextPage (c : Chip) (k : Int) (hl : c.sz < 2 ^ 40) : Spec Try.prog 64 [c.x, .int .i64 k] (.int .i64 (nextPage c k)) [.undef, .undef] := by
  simp only [Chip.sz, szM] at hl
  refine spec_C hmx p_S_NextPage [] 23 [] ⟨Nat.le_of_ble_eq_true rfl, Nat.le_of_ble_eq_true rfl⟩ rfl rfl ?_
  intro w hP hmd hks hQ
  unfold c_S_NextPage
  simp +decide (maxSteps := 20000000) (disch := omega) only [↓SBK, ↓SBK2, SX, Nat.reduceEqDiff, Nat.reduceAdd, Nat.reduceMul, Nat.reduceSub, ↓reduceIte, Int.reduceNeg, Int.reduceToNat, Int.reducePow, hmd, hks, hQ]
  (first | with_reducible refine gd_d _ ?_ ?_ | refine gd_i _ ?_ ?_) <;> intro h1
  · simp +decide (maxSteps := 20000000) (disch := omega) only [↓SBK, ↓SBK2, SX, Nat.reduceEqDiff, Nat.reduceAdd, Nat.reduceMul, Nat.reduceSub, ↓reduceIte, Int.reduceNeg, Int.reduceToNat, Int.reducePow, hmd, hks, hQ, h1]
    rw [nextPage, blk_none (by omega)]
  · simp +decide (maxSteps := 20000000) (disch := omega) only [↓SBK, ↓SBK2, SX, Nat.reduceEqDiff, Nat.reduceAdd, Nat.reduceMul, Nat.reduceSub, ↓reduceIte, Int.reduceNeg, Int.reduceToNat, Int.reducePow, hmd, hks, hQ, h1]
    (first | with_reducible refine if_d _ ?_ ?_ | refine if_i _ ?_ ?_) <;> intro h2
    · simp +decide (maxSteps := 20000000) (disch := omega) only [↓SBK, ↓SBK2, SX, Nat.reduceEqDiff, Nat.reduceAdd, Nat.reduceMul, Nat.reduceSub, ↓reduceIte, Int.reduceNeg, Int.reduceToNat, Int.reducePow, hmd, hks, hQ]
      rw [nextPage, blk_none (by omega)]
    · obtain ⟨j, rfl⟩ : ∃ j : Nat, k = j := ⟨k.toNat, by omega⟩
      have hj : (j : Int) < (c.blocks.length : Nat) := by omega
      have hz := sum_get Block.sz (l := c.blocks) (i := j) (by omega)
      simp +decide (maxSteps := 20000000) (disch := omega) only [↓SBK, ↓SBK2, SX, Nat.reduceEqDiff, Nat.reduceAdd, Nat.reduceMul, Nat.reduceSub, ↓reduceIte, Int.reduceNeg, Int.reduceToNat, Int.reducePow, hmd, hks, hQ, getE hj]
      (first | refine call_i hP (sS_l10Next (c.blocks[j]'(by omega)) (by omega)) (.inl ⟨rfl, fun _ hx => nomatch hx⟩) ?_ | refine callH_i hP (sS_l10Next (c.blocks[j]'(by omega)) (by omega)) (.inl ⟨rfl, fun _ hx => nomatch hx⟩) ?_)
      simp +decide (maxSteps := 20000000) (disch := omega) only [↓SBK, ↓SBK2, SX, Nat.reduceEqDiff, Nat.reduceAdd, Nat.reduceMul, Nat.reduceSub, ↓reduceIte, Int.reduceNeg, Int.reduceToNat, Int.reducePow, hmd, hks, hQ]
      rw [nextPage, blk_some (by omega) hj]; rfl
def pg7 : Option Page → List (Nat × AV)
  | none => [(5007, .undef), (7, .undef)]
  | some p => [(5007, .box [.bool p.used, .ext 1 (bytesR p.b)]), (7, .ref 5007 0 [] ⟨0, 0, 0⟩)]
theorem sI_NextPage (c : Chip) (k : Int) (hl : c.sz < 2 ^ 40) : Spec Try.prog 65 [c.x, .int .i64 k] (.int .i64 (nextPage c k)) [.undef, .undef] := by
  have hl' := hl
  simp only [Chip.sz, szM] at hl
  refine spec_C hmx p_I_NextPage [] 917687 [] ⟨Nat.le_of_ble_eq_true rfl, Nat.le_of_ble_eq_true rfl⟩ rfl rfl ?_
  intro w hP hmd hks hQ
  unfold c_I_NextPage
  simp +decide (maxSteps := 20000000) (disch := omega) only [↓SBK, ↓SBK2, SX, Nat.reduceEqDiff, Nat.reduceAdd, Nat.reduceMul, Nat.reduceSub, ↓reduceIte, Int.reduceNeg, Int.reduceToNat, Int.reducePow, hmd, hks, hQ]
  (first | refine call_i hP (s_isBlock c k hl') (.inl ⟨rfl, fun _ hx => nomatch hx⟩) ?_ | refine callH_i hP (s_isBlock c k hl') (.inl ⟨rfl, fun _ hx => nomatch hx⟩) ?_)
  simp +decide (maxSteps := 20000000) (disch := omega) only [↓SBK, ↓SBK2, SX, Nat.reduceEqDiff, Nat.reduceAdd, Nat.reduceMul, Nat.reduceSub, ↓reduceIte, Int.reduceNeg, Int.reduceToNat, Int.reducePow, hmd, hks, hQ]
  (first | with_reducible refine if_d _ ?_ ?_ | refine if_i _ ?_ ?_) <;> intro h1
  · have h1' := (inR_iff _ _ _).1 h1
    obtain ⟨j, rfl⟩ : ∃ j : Nat, k = j := ⟨k.toNat, by omega⟩
    have hj : (j : Int) < (c.blocks.length : Nat) := by omega
    have hz := sum_get Block.sz (l := c.blocks) (i := j) (by omega)
    have hp : (c.blocks[j]'(by omega)).pages.length ≤ (c.blocks[j]'(by omega)).sz := by simp only [Block.sz, szM]; omega
    simp +decide (maxSteps := 20000000) (disch := omega) only [↓SBK, ↓SBK2, SX, Nat.reduceEqDiff, Nat.reduceAdd, Nat.reduceMul, Nat.reduceSub, ↓reduceIte, Int.reduceNeg, Int.reduceToNat, Int.reducePow, hmd, hks, hQ, getE hj]
    generalize hP0 : (c.blocks[j]'(by omega)).pages = P at *
    have hfin : nextPage c (j : Int) = ((usedN P : Nat) : Int) := by rw [nextPage, blk_some (by omega) hj]; simp [hP0]
    rw [mkV_pads _ _ [5007, 7]]
    simp only [pads, List.cons_append, List.nil_append]
    refine loop_i (fun s : Nat × Nat × Option Page => (19, .int .i64 (s.1 : Nat)) :: (5, .int .i64 (s.2.1 : Nat)) :: pg7 s.2.2) (fun s => s.1 ≤ P.length ∧ s.2.1 = usedN (P.take s.1) ∧ s.2.1 ≤ s.1) (fun s => P.length - s.1) ((0, 0, none)) hP hmd hks (rfl) (by simp [usedN]) ?_
    rintro ⟨i, n, _ | pg⟩ ⟨g1, g2, g3⟩ w1 hP1 hmd1 hks1 hQ1
    all_goals
      simp only at g1 g2 g3
      simp +decide (maxSteps := 20000000) (disch := omega) only [↓SBK, ↓SBK2, SX, Nat.reduceEqDiff, Nat.reduceAdd, Nat.reduceMul, Nat.reduceSub, ↓reduceIte, Int.reduceNeg, Int.reduceToNat, Int.reducePow, hmd, hks, hQ, hmd1, hks1, hQ1, pg7]
      (first | with_reducible refine if_d _ ?_ ?_ | refine if_i _ ?_ ?_) <;> intro h2
      · have u := usedN_take P i (by omega)
        simp +decide (maxSteps := 20000000) (disch := omega) only [↓SBK, ↓SBK2, SX, Nat.reduceEqDiff, Nat.reduceAdd, Nat.reduceMul, Nat.reduceSub, ↓reduceIte, Int.reduceNeg, Int.reduceToNat, Int.reducePow, hmd, hks, hQ, hmd1, hks1, hQ1, getE h2, pg7]
        (first | with_reducible refine if_d _ ?_ ?_ | refine if_i _ ?_ ?_) <;> intro h3
        · simp +decide (maxSteps := 20000000) (disch := omega) only [↓SBK, ↓SBK2, SX, Nat.reduceEqDiff, Nat.reduceAdd, Nat.reduceMul, Nat.reduceSub, ↓reduceIte, Int.reduceNeg, Int.reduceToNat, Int.reducePow, hmd, hks, hQ, hmd1, hks1, hQ1, pg7]
          exact ⟨(i + 1, n + 1, some (P[i]'(by omega))), rfl, ⟨by simp only; omega, by simp only; rw [u, ← g2, if_pos h3], by simp only; omega⟩, by simp only; omega⟩
        · simp +decide (maxSteps := 20000000) (disch := omega) only [↓SBK, ↓SBK2, SX, Nat.reduceEqDiff, Nat.reduceAdd, Nat.reduceMul, Nat.reduceSub, ↓reduceIte, Int.reduceNeg, Int.reduceToNat, Int.reducePow, hmd, hks, hQ, hmd1, hks1, hQ1, pg7]
          exact ⟨(i + 1, n, some (P[i]'(by omega))), rfl, ⟨by simp only; omega, by simp only; rw [u, ← g2, if_neg (by simp [h3])]; rfl, by simp only; omega⟩, by simp only; omega⟩
      · obtain rfl : i = P.length := by omega
        rw [List.take_length] at g2
        simp +decide (maxSteps := 20000000) (disch := omega) only [↓SBK, ↓SBK2, SX, Nat.reduceEqDiff, Nat.reduceAdd, Nat.reduceMul, Nat.reduceSub, ↓reduceIte, Int.reduceNeg, Int.reduceToNat, Int.reducePow, hmd, hks, hQ, hmd1, hks1, hQ1, pg7, g2, hfin]
  · simp only [h1, Bool.not_true, Bool.not_false]
    simp +decide (maxSteps := 20000000) (disch := omega) only [↓SBK, ↓SBK2, SX, Nat.reduceEqDiff, Nat.reduceAdd, Nat.reduceMul, Nat.reduceSub, ↓reduceIte, Int.reduceNeg, Int.reduceToNat, Int.reducePow, hmd, hks, hQ]
    rw [nextPage, blk_none (fun h => by have := (inR_iff k 0 ((c.blocks.length : Nat) - 1)).2 (by omega); rw [h1] at this; cases this)]

end Go.Proofs.Ytliklgcfdgdigaa.Awp

namespace Go.Proofs.Ytliklgcfdgdigaa.Awp
open Go.Proofs
set_option linter.unusedSimpArgs false
set_option linter.unusedVariables false
set_option maxRecDepth 100000
set_option maxHeartbeats 20000000

/-- a page is right where it stands -/
def okP (P : List Page) (i : Nat) : Prop := ∀ p, P[i]? = some p → p.b.length ≤ 400 ∧ (p.used = false → p.b.length = 0) ∧ (0 < i → p.used = true → ∃ q, P[i - 1]? = some q ∧ q.used = true)
def okB (b : Block) : Prop := b.pages.length = 8 ∧ inR b.wear 0 100000 = true ∧ ∀ i, i < b.pages.length → okP b.pages i
def okC (c : Chip) : Prop := (∀ b ∈ c.blocks, okB b) ∧ inR (c.blocks.length : Nat) 3 24 = true
open Classical in
noncomputable def blkOk (b : Block) : Bool := decide (okB b)
open Classical in
noncomputable def chipOk (c : Chip) : Bool := decide (okC c)
theorem blkOk_t {b : Block} (h : okB b) : blkOk b = true := by simp [blkOk, h]
theorem blkOk_f {b : Block} (h : ¬ okB b) : blkOk b = false := by simp [blkOk, h]
theorem chipOk_t {c : Chip} (h : okC c) : chipOk c = true := by simp [chipOk, h]
theorem chipOk_f {c : Chip} (h : ¬ okC c) : chipOk c = false := by simp [chipOk, h]
theorem blkOk_iff {b : Block} : blkOk b = true ↔ okB b := by simp [blkOk]
/-- the ways of a page -/
theorem okP_ways (P : List Page) (i : Nat) (h : i < P.length) :
    (400 < (P[i].b.length : Int) ∧ ¬ okP P i) ∨
    (¬ 400 < (P[i].b.length : Int) ∧ P[i].used = false ∧ 0 < (P[i].b.length : Int) ∧ ¬ okP P i) ∨
    (¬ 400 < (P[i].b.length : Int) ∧ P[i].used = false ∧ ¬ 0 < (P[i].b.length : Int) ∧ okP P i) ∨
    (¬ 400 < (P[i].b.length : Int) ∧ P[i].used = true ∧ i = 0 ∧ okP P i) ∨
    (¬ 400 < (P[i].b.length : Int) ∧ P[i].used = true ∧ ∃ m, ∃ (e : i = m + 1), (P[m]'(by omega)).used = true ∧ okP P i) ∨
    (¬ 400 < (P[i].b.length : Int) ∧ P[i].used = true ∧ ∃ m, ∃ (e : i = m + 1), (P[m]'(by omega)).used = false ∧ ¬ okP P i) := by
  have e : P[i]? = some P[i] := List.getElem?_eq_getElem h
  have key : okP P i ↔ P[i].b.length ≤ 400 ∧ (P[i].used = false → P[i].b.length = 0) ∧ (0 < i → P[i].used = true → ∃ q, P[i - 1]? = some q ∧ q.used = true) := by
    constructor
    · intro hk; exact hk _ e
    · intro hk p hp; rw [e] at hp; cases hp; exact hk
  by_cases h1 : 400 < (P[i].b.length : Int)
  · exact .inl ⟨h1, fun hk => by have := (key.1 hk).1; omega⟩
  · right
    cases hu : P[i].used with
    | false =>
      by_cases h2 : 0 < (P[i].b.length : Int)
      · exact .inl ⟨h1, rfl, h2, fun hk => by have := (key.1 hk).2.1 hu; omega⟩
      · exact .inr (.inl ⟨h1, rfl, h2, key.2 ⟨by omega, fun _ => by omega, fun _ h => by rw [hu] at h; cases h⟩⟩)
    | true =>
      right; right
      cases i with
      | zero => exact .inl ⟨h1, rfl, rfl, key.2 ⟨by omega, fun h => (by rw [hu] at h; cases h), fun h => by omega⟩⟩
      | succ m =>
        right
        cases hq : (P[m]'(by omega)).used with
        | true => exact .inl ⟨h1, rfl, m, rfl, hq, key.2 ⟨by omega, fun h => (by rw [hu] at h; cases h), fun _ _ => ⟨P[m]'(by omega), by simp [List.getElem?_eq_getElem (show m < P.length by omega)], hq⟩⟩⟩
        | false =>
          refine .inr ⟨h1, rfl, m, rfl, hq, fun hk => ?_⟩
          obtain ⟨q, e1, e2⟩ := (key.1 hk).2.2 (by omega) hu
          simp only [Nat.add_sub_cancel] at e1
          rw [List.getElem?_eq_getElem (show m < P.length by omega)] at e1
          cases e1
          rw [hq] at e2; cases e2
def pg4 : Option Page → List (Nat × AV)
  | none => [(5004, .undef), (4, .undef)]
  | some p => [(5004, .box [.bool p.used, .ext 1 (bytesR p.b)]), (4, .ref 5004 0 [] ⟨0, 0, 0⟩)]
theorem okP_step {P : List Page} {i : Nat} (g : ∀ k, k < i → okP P k) (h : okP P i) : ∀ k, k < i + 1 → okP P k := by
  intro k hk
  by_cases e : k = i
  · subst e; exact h
  · exact g k (by omega)
theorem cast_pred (m : Nat) : ((m + 1 : Nat) : Int) - 1 = (m : Int) := by omega
theorem sS_l10Block (b : Block) (hf : b.fine) : Spec Try.prog 140 [b.x] (.bool (blkOk b)) [.undef] := by
  simp only [Block.fine] at hf
  obtain ⟨f1, f2⟩ := hf
  refine spec_C hmx p_S_l10Block [] 31 [] ⟨Nat.le_of_ble_eq_true rfl, Nat.le_of_ble_eq_true rfl⟩ rfl rfl ?_
  intro w hP hmd hks hQ
  unfold c_S_l10Block
  simp +decide (maxSteps := 20000000) (disch := omega) only [↓SBK, ↓SBK2, SX, Nat.reduceEqDiff, Nat.reduceAdd, Nat.reduceMul, Nat.reduceSub, ↓reduceIte, Int.reduceNeg, Int.reduceToNat, Int.reducePow, hmd, hks, hQ]
  (first | with_reducible refine gd_d _ ?_ ?_ | refine gd_i _ ?_ ?_) <;> intro h1
  · simp +decide (maxSteps := 20000000) (disch := omega) only [↓SBK, ↓SBK2, SX, Nat.reduceEqDiff, Nat.reduceAdd, Nat.reduceMul, Nat.reduceSub, ↓reduceIte, Int.reduceNeg, Int.reduceToNat, Int.reducePow, hmd, hks, hQ, h1]
    (first | refine call_i hP (s_l1In b.wear 0 100000) (.inl ⟨rfl, fun _ hx => nomatch hx⟩) ?_ | refine callH_i hP (s_l1In b.wear 0 100000) (.inl ⟨rfl, fun _ hx => nomatch hx⟩) ?_)
    simp +decide (maxSteps := 20000000) (disch := omega) only [↓SBK, ↓SBK2, SX, Nat.reduceEqDiff, Nat.reduceAdd, Nat.reduceMul, Nat.reduceSub, ↓reduceIte, Int.reduceNeg, Int.reduceToNat, Int.reducePow, hmd, hks, hQ, h1]
    (first | with_reducible refine if_d _ ?_ ?_ | refine if_i _ ?_ ?_) <;> intro h2
    · simp only [h2, Bool.not_true, Bool.not_false]
      simp +decide (maxSteps := 20000000) (disch := omega) only [↓SBK, ↓SBK2, SX, Nat.reduceEqDiff, Nat.reduceAdd, Nat.reduceMul, Nat.reduceSub, ↓reduceIte, Int.reduceNeg, Int.reduceToNat, Int.reducePow, hmd, hks, hQ]
      generalize hP0 : b.pages = P at *
      rw [mkV_pads _ _ [5004, 4]]
      simp only [pads, List.cons_append, List.nil_append]
      refine loop_i (fun s : Nat × Option Page => (3, .int .i64 (s.1 : Nat)) :: pg4 s.2) (fun s => s.1 ≤ P.length ∧ ∀ k, k < s.1 → okP P k) (fun s => P.length - s.1) ((0, none)) hP hmd hks (rfl) (by simp) ?_
      rintro ⟨i, _ | pg⟩ ⟨g1, g2⟩ w1 hP1 hmd1 hks1 hQ1
      all_goals
        simp only at g1 g2
        simp +decide (maxSteps := 20000000) (disch := omega) only [↓SBK, ↓SBK2, SX, Nat.reduceEqDiff, Nat.reduceAdd, Nat.reduceMul, Nat.reduceSub, ↓reduceIte, Int.reduceNeg, Int.reduceToNat, Int.reducePow, hmd, hks, hQ, hmd1, hks1, hQ1, pg4, hP0]
        (first | with_reducible refine if_d _ ?_ ?_ | refine if_i _ ?_ ?_) <;> intro h3
        · rcases okP_ways P i (by omega) with ⟨w1, hk⟩ | ⟨w1, w2, w3, hk⟩ | ⟨w1, w2, w3, hk⟩ | ⟨w1, w2, rfl, hk⟩ | ⟨w1, w2, m, rfl, w3, hk⟩ | ⟨w1, w2, m, rfl, w3, hk⟩
          · simp +decide (maxSteps := 20000000) (disch := omega) only [↓SBK, ↓SBK2, SX, Nat.reduceEqDiff, Nat.reduceAdd, Nat.reduceMul, Nat.reduceSub, ↓reduceIte, Int.reduceNeg, Int.reduceToNat, Int.reducePow, hmd, hks, hQ, hmd1, hks1, hQ1, getE h3, pg4, hP0, w1]
            rw [blkOk_f (fun h => hk (by have := h.2.2 i (by rw [hP0]; omega); rwa [hP0] at this))]
          · simp +decide (maxSteps := 20000000) (disch := omega) only [↓SBK, ↓SBK2, SX, Nat.reduceEqDiff, Nat.reduceAdd, Nat.reduceMul, Nat.reduceSub, ↓reduceIte, Int.reduceNeg, Int.reduceToNat, Int.reducePow, hmd, hks, hQ, hmd1, hks1, hQ1, getE h3, pg4, hP0, w1, w2, w3]
            rw [blkOk_f (fun h => hk (by have := h.2.2 i (by rw [hP0]; omega); rwa [hP0] at this))]
          · by_cases w4 : (0 : Int) < (i : Nat)
            · simp +decide (maxSteps := 20000000) (disch := omega) only [↓SBK, ↓SBK2, SX, Nat.reduceEqDiff, Nat.reduceAdd, Nat.reduceMul, Nat.reduceSub, ↓reduceIte, Int.reduceNeg, Int.reduceToNat, Int.reducePow, hmd, hks, hQ, hmd1, hks1, hQ1, getE h3, pg4, hP0, w1, w2, w3, w4]
              exact ⟨(i + 1, some ⟨false, (P[i]'(by omega)).b⟩), rfl, ⟨by simp only; omega, okP_step g2 hk⟩, by simp only; omega⟩
            · simp +decide (maxSteps := 20000000) (disch := omega) only [↓SBK, ↓SBK2, SX, Nat.reduceEqDiff, Nat.reduceAdd, Nat.reduceMul, Nat.reduceSub, ↓reduceIte, Int.reduceNeg, Int.reduceToNat, Int.reducePow, hmd, hks, hQ, hmd1, hks1, hQ1, getE h3, pg4, hP0, w1, w2, w3, w4]
              exact ⟨(i + 1, some ⟨false, (P[i]'(by omega)).b⟩), rfl, ⟨by simp only; omega, okP_step g2 hk⟩, by simp only; omega⟩
          · simp +decide (maxSteps := 20000000) (disch := omega) only [↓SBK, ↓SBK2, SX, Nat.reduceEqDiff, Nat.reduceAdd, Nat.reduceMul, Nat.reduceSub, ↓reduceIte, Int.reduceNeg, Int.reduceToNat, Int.reducePow, hmd, hks, hQ, hmd1, hks1, hQ1, getE h3, pg4, hP0, w1, w2]
            exact ⟨(0 + 1, some ⟨true, (P[0]'(by omega)).b⟩), rfl, ⟨by simp only; omega, okP_step g2 hk⟩, by simp only; omega⟩
          · have w4 : (0 : Int) < ((m + 1 : Nat) : Int) := by omega
            simp +decide (maxSteps := 20000000) (disch := omega) only [↓SBK, ↓SBK2, SX, Nat.reduceEqDiff, Nat.reduceAdd, Nat.reduceMul, Nat.reduceSub, ↓reduceIte, Int.reduceNeg, Int.reduceToNat, Int.reducePow, hmd, hks, hQ, hmd1, hks1, hQ1, getE h3, pg4, hP0, w1, w2, w3, w4, cast_pred, getE (show ((m : Nat) : Int) < (P.length : Nat) by omega)]
            exact ⟨(m + 1 + 1, some ⟨true, (P[m + 1]'(by omega)).b⟩), rfl, ⟨by simp only; omega, okP_step g2 hk⟩, by simp only; omega⟩
          · have w4 : (0 : Int) < ((m + 1 : Nat) : Int) := by omega
            simp +decide (maxSteps := 20000000) (disch := omega) only [↓SBK, ↓SBK2, SX, Nat.reduceEqDiff, Nat.reduceAdd, Nat.reduceMul, Nat.reduceSub, ↓reduceIte, Int.reduceNeg, Int.reduceToNat, Int.reducePow, hmd, hks, hQ, hmd1, hks1, hQ1, getE h3, pg4, hP0, w1, w2, w3, w4, cast_pred, getE (show ((m : Nat) : Int) < (P.length : Nat) by omega)]
            rw [blkOk_f (fun h => hk (by have := h.2.2 (m + 1) (by rw [hP0]; omega); rwa [hP0] at this))]
        · obtain rfl : i = P.length := by omega
          simp +decide (maxSteps := 20000000) (disch := omega) only [↓SBK, ↓SBK2, SX, Nat.reduceEqDiff, Nat.reduceAdd, Nat.reduceMul, Nat.reduceSub, ↓reduceIte, Int.reduceNeg, Int.reduceToNat, Int.reducePow, hmd, hks, hQ, hmd1, hks1, hQ1, pg4, hP0]
          rw [blkOk_t ⟨by rw [hP0]; omega, h2, by rw [hP0]; exact g2⟩]
    · simp only [h2, Bool.not_true, Bool.not_false]
      simp +decide (maxSteps := 20000000) (disch := omega) only [↓SBK, ↓SBK2, SX, Nat.reduceEqDiff, Nat.reduceAdd, Nat.reduceMul, Nat.reduceSub, ↓reduceIte, Int.reduceNeg, Int.reduceToNat, Int.reducePow, hmd, hks, hQ]
      rw [blkOk_f (fun h => by rw [h.2.1] at h2; cases h2)]
  · simp +decide (maxSteps := 20000000) (disch := omega) only [↓SBK, ↓SBK2, SX, Nat.reduceEqDiff, Nat.reduceAdd, Nat.reduceMul, Nat.reduceSub, ↓reduceIte, Int.reduceNeg, Int.reduceToNat, Int.reducePow, hmd, hks, hQ, h1]
    rw [blkOk_f (fun h => h1 (by rw [h.1]; rfl))]
end Go.Proofs.Ytliklgcfdgdigaa.Awp

namespace Go.Proofs.Ytliklgcfdgdigaa.Awp
open Go.Proofs
set_option linter.unusedSimpArgs false
set_option linter.unusedVariables false
set_option maxRecDepth 100000
set_option maxHeartbeats 20000000

theorem okC_mem {c : Chip} (g : ∀ k, (h : k < c.blocks.length) → okB c.blocks[k]) : ∀ b ∈ c.blocks, okB b := by
  intro b hb
  obtain ⟨k, hk, rfl⟩ := List.getElem_of_mem hb
  exact g k hk
theorem chip_fine {c : Chip} (hf : c.fine) {i : Nat} (h : i < c.blocks.length) : (c.blocks[i]).fine := by
  simp only [Chip.fine] at hf
  exact hf.2 _ (List.getElem_mem h)
theorem chip_len {c : Chip} (hf : c.fine) : c.blocks.length < 2 ^ 48 := by
  simp only [Chip.fine] at hf
  exact hf.1
theorem sS_ChipOk (c : Chip) (hf : c.fine) : Spec Try.prog 66 [c.x] (.bool (chipOk c)) [.undef] := by
  have hl := chip_len hf
  refine spec_C hmx p_S_ChipOk [] 15 [] ⟨Nat.le_of_ble_eq_true rfl, Nat.le_of_ble_eq_true rfl⟩ rfl rfl ?_
  intro w hP hmd hks hQ
  unfold c_S_ChipOk
  simp +decide (maxSteps := 20000000) (disch := omega) only [↓SBK, ↓SBK2, SX, Nat.reduceEqDiff, Nat.reduceAdd, Nat.reduceMul, Nat.reduceSub, ↓reduceIte, Int.reduceNeg, Int.reduceToNat, Int.reducePow, hmd, hks, hQ]
  refine loop_i (fun i : Nat => [(3, .int .i64 i)]) (fun i => i ≤ c.blocks.length ∧ ∀ k, k < i → (h : k < c.blocks.length) → okB c.blocks[k]) (fun i => c.blocks.length - i) (0) hP hmd hks (rfl) (by simp) ?_
  rintro i ⟨g1, g2⟩ w1 hP1 hmd1 hks1 hQ1
  simp +decide (maxSteps := 20000000) (disch := omega) only [↓SBK, ↓SBK2, SX, Nat.reduceEqDiff, Nat.reduceAdd, Nat.reduceMul, Nat.reduceSub, ↓reduceIte, Int.reduceNeg, Int.reduceToNat, Int.reducePow, hmd, hks, hQ, hmd1, hks1, hQ1]
  (first | with_reducible refine if_d _ ?_ ?_ | refine if_i _ ?_ ?_) <;> intro h1
  · simp +decide (maxSteps := 20000000) (disch := omega) only [↓SBK, ↓SBK2, SX, Nat.reduceEqDiff, Nat.reduceAdd, Nat.reduceMul, Nat.reduceSub, ↓reduceIte, Int.reduceNeg, Int.reduceToNat, Int.reducePow, hmd, hks, hQ, hmd1, hks1, hQ1, getE h1]
    (first | refine call_i hP1 (sS_l10Block (c.blocks[i]'(by omega)) (chip_fine hf (by omega))) (.inl ⟨rfl, fun _ hx => nomatch hx⟩) ?_ | refine callH_i hP1 (sS_l10Block (c.blocks[i]'(by omega)) (chip_fine hf (by omega))) (.inl ⟨rfl, fun _ hx => nomatch hx⟩) ?_)
    simp +decide (maxSteps := 20000000) (disch := omega) only [↓SBK, ↓SBK2, SX, Nat.reduceEqDiff, Nat.reduceAdd, Nat.reduceMul, Nat.reduceSub, ↓reduceIte, Int.reduceNeg, Int.reduceToNat, Int.reducePow, hmd, hks, hQ, hmd1, hks1, hQ1]
    (first | with_reducible refine if_d _ ?_ ?_ | refine if_i _ ?_ ?_) <;> intro h2
    · simp only [h2, Bool.not_true, Bool.not_false]
      simp +decide (maxSteps := 20000000) (disch := omega) only [↓SBK, ↓SBK2, SX, Nat.reduceEqDiff, Nat.reduceAdd, Nat.reduceMul, Nat.reduceSub, ↓reduceIte, Int.reduceNeg, Int.reduceToNat, Int.reducePow, hmd, hks, hQ, hmd1, hks1, hQ1]
      refine ⟨i + 1, rfl, ⟨by omega, ?_⟩, by omega⟩
      intro k hk hkl
      by_cases e : k = i
      · subst e; exact blkOk_iff.1 h2
      · exact g2 k (by omega) hkl
    · simp only [h2, Bool.not_true, Bool.not_false]
      simp +decide (maxSteps := 20000000) (disch := omega) only [↓SBK, ↓SBK2, SX, Nat.reduceEqDiff, Nat.reduceAdd, Nat.reduceMul, Nat.reduceSub, ↓reduceIte, Int.reduceNeg, Int.reduceToNat, Int.reducePow, hmd, hks, hQ, hmd1, hks1, hQ1]
      rw [chipOk_f (fun h => by rw [blkOk_t (h.1 _ (List.getElem_mem (by omega)))] at h2; cases h2)]
  · obtain rfl : i = c.blocks.length := by omega
    simp +decide (maxSteps := 20000000) (disch := omega) only [↓SBK, ↓SBK2, SX, Nat.reduceEqDiff, Nat.reduceAdd, Nat.reduceMul, Nat.reduceSub, ↓reduceIte, Int.reduceNeg, Int.reduceToNat, Int.reducePow, hmd, hks, hQ, hmd1, hks1, hQ1]
    (first | refine call_i hP (s_l1In (c.blocks.length : Nat) 3 24) (.inl ⟨rfl, fun _ hx => nomatch hx⟩) ?_ | refine callH_i hP (s_l1In (c.blocks.length : Nat) 3 24) (.inl ⟨rfl, fun _ hx => nomatch hx⟩) ?_)
    simp +decide (maxSteps := 20000000) (disch := omega) only [↓SBK, ↓SBK2, SX, Nat.reduceEqDiff, Nat.reduceAdd, Nat.reduceMul, Nat.reduceSub, ↓reduceIte, Int.reduceNeg, Int.reduceToNat, Int.reducePow, hmd, hks, hQ]
    by_cases h3 : inR (c.blocks.length : Nat) 3 24 = true
    · rw [chipOk_t ⟨okC_mem fun k hk => g2 k hk hk, h3⟩, h3]
    · rw [chipOk_f fun h => h3 h.2]; simp at h3; rw [h3]
def ij : Option (Page × Int) → List (Nat × AV)
  | none => [(5006, .undef), (6, .undef), (5, .undef)]
  | some (p, k) => [(5006, .box [.bool p.used, .ext 1 (bytesR p.b)]), (6, .ref 5006 0 [] ⟨0, 0, 0⟩), (5, .int .i64 k)]
def cj : Option (Block × Page × Int) → List (Nat × AV)
  | none => [(5004, .undef), (4, .undef), (25, .undef), (26, .undef), (27, .undef), (5006, .undef), (6, .undef), (5, .undef)]
  | some (b, p, k) => [(5004, .box [.ext 2 (b.pages.map Page.row), .int .i64 b.wear, .bool b.bad]), (4, .ref 5004 0 [] ⟨0, 0, 0⟩), (25, .ext 2 (b.pages.map Page.row)), (26, .int .i64 (b.pages.length : Nat)),
    (27, .int .i64 (b.pages.length : Nat)), (5006, .box [.bool p.used, .ext 1 (bytesR p.b)]), (6, .ref 5006 0 [] ⟨0, 0, 0⟩), (5, .int .i64 k)]
theorem sI_ChipOk (c : Chip) (hf : c.fine) : Spec Try.prog 67 [c.x] (.bool (chipOk c)) [.undef] := by
  have hl := chip_len hf
  refine spec_C hmx p_I_ChipOk [] 234882935 [] ⟨Nat.le_of_ble_eq_true rfl, Nat.le_of_ble_eq_true rfl⟩ rfl rfl ?_
  intro w hP hmd hks hQ
  unfold c_I_ChipOk
  simp +decide (maxSteps := 20000000) (disch := omega) only [↓SBK, ↓SBK2, SX, Nat.reduceEqDiff, Nat.reduceAdd, Nat.reduceMul, Nat.reduceSub, ↓reduceIte, Int.reduceNeg, Int.reduceToNat, Int.reducePow, hmd, hks, hQ]
  rw [mkV_pads _ _ [5004, 4, 25, 26, 27, 5006, 6, 5]]
  simp only [pads, List.cons_append, List.nil_append]
  refine loop_i (fun s : Nat × Option (Block × Page × Int) => (10, .int .i64 (s.1 : Nat)) :: cj s.2) (fun s => s.1 ≤ c.blocks.length ∧ ∀ k, k < s.1 → (h : k < c.blocks.length) → okB c.blocks[k]) (fun s => c.blocks.length - s.1) ((0, none)) hP hmd hks (rfl) (by simp) ?_
  rintro ⟨i, _ | ⟨jb, jp, jk⟩⟩ ⟨g1, g2⟩ w1 hP1 hmd1 hks1 hQ1
  ·
    simp only at g1 g2
    simp +decide (maxSteps := 20000000) (disch := omega) only [↓SBK, ↓SBK2, SX, Nat.reduceEqDiff, Nat.reduceAdd, Nat.reduceMul, Nat.reduceSub, ↓reduceIte, Int.reduceNeg, Int.reduceToNat, Int.reducePow, hmd, hks, hQ, hmd1, hks1, hQ1, cj]
    (first | with_reducible refine if_d _ ?_ ?_ | refine if_i _ ?_ ?_) <;> intro h1
    · simp +decide (maxSteps := 20000000) (disch := omega) only [↓SBK, ↓SBK2, SX, Nat.reduceEqDiff, Nat.reduceAdd, Nat.reduceMul, Nat.reduceSub, ↓reduceIte, Int.reduceNeg, Int.reduceToNat, Int.reducePow, hmd, hks, hQ, hmd1, hks1, hQ1, getE h1, cj]
      have hbf := chip_fine hf (i := i) (by omega)
      have hbm : c.blocks[i]'(by omega) ∈ c.blocks := List.getElem_mem _
      generalize hB : (c.blocks[i]'(by omega)) = B at *
      simp only [Block.fine] at hbf
      obtain ⟨f1, f2⟩ := hbf
      (first | with_reducible refine gd_d _ ?_ ?_ | refine gd_i _ ?_ ?_) <;> intro h2
      · have h2d : decide (((B.pages.length : Nat) : Int) = 8) = true := decide_eq_true h2
        simp +decide (maxSteps := 20000000) (disch := omega) only [↓SBK, ↓SBK2, SX, Nat.reduceEqDiff, Nat.reduceAdd, Nat.reduceMul, Nat.reduceSub, ↓reduceIte, Int.reduceNeg, Int.reduceToNat, Int.reducePow, hmd, hks, hQ, hmd1, hks1, hQ1, h2d]
        (first | refine call_i hP1 (s_from B.wear 0 100000) (.inl ⟨rfl, fun _ hx => nomatch hx⟩) ?_ | refine callH_i hP1 (s_from B.wear 0 100000) (.inl ⟨rfl, fun _ hx => nomatch hx⟩) ?_)
        simp +decide (maxSteps := 20000000) (disch := omega) only [↓SBK, ↓SBK2, SX, Nat.reduceEqDiff, Nat.reduceAdd, Nat.reduceMul, Nat.reduceSub, ↓reduceIte, Int.reduceNeg, Int.reduceToNat, Int.reducePow, hmd, hks, hQ, hmd1, hks1, hQ1, h2d]
        (first | with_reducible refine if_d _ ?_ ?_ | refine if_i _ ?_ ?_) <;> intro h3
        · simp only [h3, Bool.not_true, Bool.not_false]
          simp +decide (maxSteps := 20000000) (disch := omega) only [↓SBK, ↓SBK2, SX, Nat.reduceEqDiff, Nat.reduceAdd, Nat.reduceMul, Nat.reduceSub, ↓reduceIte, Int.reduceNeg, Int.reduceToNat, Int.reducePow, hmd, hks, hQ, hmd1, hks1, hQ1]
          refine loop_i (fun s : Nat × Option (Page × Int) => (27, .int .i64 (s.1 : Nat)) :: ij s.2) (fun s => s.1 ≤ B.pages.length ∧ (∀ k, k < s.1 → okP B.pages k) ∧ (0 < s.1 → s.2 ≠ none)) (fun s => B.pages.length - s.1) ((0, none)) hP1 hmd1 hks1 (rfl) (by simp) ?_
          rintro ⟨j, _ | ⟨qp, qk⟩⟩ ⟨k1, k2, k3⟩ w2 hP2 hmd2 hks2 hQ2
          all_goals
            simp only at k1 k2 k3
            simp +decide (maxSteps := 20000000) (disch := omega) only [↓SBK, ↓SBK2, SX, Nat.reduceEqDiff, Nat.reduceAdd, Nat.reduceMul, Nat.reduceSub, ↓reduceIte, Int.reduceNeg, Int.reduceToNat, Int.reducePow, hmd, hks, hQ, hmd1, hks1, hQ1, hmd2, hks2, hQ2, ij]
            (first | with_reducible refine if_d _ ?_ ?_ | refine if_i _ ?_ ?_) <;> intro h4
            · rcases okP_ways B.pages j (by omega) with ⟨w1, hk⟩ | ⟨w1, w2, w3, hk⟩ | ⟨w1, w2, w3, hk⟩ | ⟨w1, w2, rfl, hk⟩ | ⟨w1, w2, m, rfl, w3, hk⟩ | ⟨w1, w2, m, rfl, w3, hk⟩
              · simp +decide (maxSteps := 20000000) (disch := omega) only [↓SBK, ↓SBK2, SX, Nat.reduceEqDiff, Nat.reduceAdd, Nat.reduceMul, Nat.reduceSub, ↓reduceIte, Int.reduceNeg, Int.reduceToNat, Int.reducePow, hmd, hks, hQ, hmd1, hks1, hQ1, hmd2, hks2, hQ2, getE h4, ij, w1]
                rw [chipOk_f (fun h => hk ((h.1 B hbm).2.2 j (by omega)))]
              · simp +decide (maxSteps := 20000000) (disch := omega) only [↓SBK, ↓SBK2, SX, Nat.reduceEqDiff, Nat.reduceAdd, Nat.reduceMul, Nat.reduceSub, ↓reduceIte, Int.reduceNeg, Int.reduceToNat, Int.reducePow, hmd, hks, hQ, hmd1, hks1, hQ1, hmd2, hks2, hQ2, getE h4, ij, w1, w2, w3]
                rw [chipOk_f (fun h => hk ((h.1 B hbm).2.2 j (by omega)))]
              · by_cases w4 : (0 : Int) < (j : Nat)
                · simp +decide (maxSteps := 20000000) (disch := omega) only [↓SBK, ↓SBK2, SX, Nat.reduceEqDiff, Nat.reduceAdd, Nat.reduceMul, Nat.reduceSub, ↓reduceIte, Int.reduceNeg, Int.reduceToNat, Int.reducePow, hmd, hks, hQ, hmd1, hks1, hQ1, hmd2, hks2, hQ2, getE h4, ij, w1, w2, w3, w4]
                  exact ⟨(j + 1, some (⟨false, (B.pages[j]'(by omega)).b⟩, (j : Int))), rfl, ⟨by simp only; omega, okP_step k2 hk, by simp⟩, by simp only; omega⟩
                · simp +decide (maxSteps := 20000000) (disch := omega) only [↓SBK, ↓SBK2, SX, Nat.reduceEqDiff, Nat.reduceAdd, Nat.reduceMul, Nat.reduceSub, ↓reduceIte, Int.reduceNeg, Int.reduceToNat, Int.reducePow, hmd, hks, hQ, hmd1, hks1, hQ1, hmd2, hks2, hQ2, getE h4, ij, w1, w2, w3, w4]
                  exact ⟨(j + 1, some (⟨false, (B.pages[j]'(by omega)).b⟩, (j : Int))), rfl, ⟨by simp only; omega, okP_step k2 hk, by simp⟩, by simp only; omega⟩
              · simp +decide (maxSteps := 20000000) (disch := omega) only [↓SBK, ↓SBK2, SX, Nat.reduceEqDiff, Nat.reduceAdd, Nat.reduceMul, Nat.reduceSub, ↓reduceIte, Int.reduceNeg, Int.reduceToNat, Int.reducePow, hmd, hks, hQ, hmd1, hks1, hQ1, hmd2, hks2, hQ2, getE h4, ij, w1, w2]
                exact ⟨(0 + 1, some (⟨true, (B.pages[0]'(by omega)).b⟩, ((0 : Nat) : Int))), rfl, ⟨by simp only; omega, okP_step k2 hk, by simp⟩, by simp only; omega⟩
              · have w4 : (0 : Int) < ((m + 1 : Nat) : Int) := by omega
                simp +decide (maxSteps := 20000000) (disch := omega) only [↓SBK, ↓SBK2, SX, Nat.reduceEqDiff, Nat.reduceAdd, Nat.reduceMul, Nat.reduceSub, ↓reduceIte, Int.reduceNeg, Int.reduceToNat, Int.reducePow, hmd, hks, hQ, hmd1, hks1, hQ1, hmd2, hks2, hQ2, getE h4, ij, w1, w2, w3, w4, cast_pred, getE (show ((m : Nat) : Int) < (B.pages.length : Nat) by omega)]
                exact ⟨(m + 1 + 1, some (⟨true, (B.pages[m + 1]'(by omega)).b⟩, ((m + 1 : Nat) : Int))), rfl, ⟨by simp only; omega, okP_step k2 hk, by simp⟩, by simp only; omega⟩
              · have w4 : (0 : Int) < ((m + 1 : Nat) : Int) := by omega
                simp +decide (maxSteps := 20000000) (disch := omega) only [↓SBK, ↓SBK2, SX, Nat.reduceEqDiff, Nat.reduceAdd, Nat.reduceMul, Nat.reduceSub, ↓reduceIte, Int.reduceNeg, Int.reduceToNat, Int.reducePow, hmd, hks, hQ, hmd1, hks1, hQ1, hmd2, hks2, hQ2, getE h4, ij, w1, w2, w3, w4, cast_pred, getE (show ((m : Nat) : Int) < (B.pages.length : Nat) by omega)]
                rw [chipOk_f (fun h => hk ((h.1 B hbm).2.2 (m + 1) (by omega)))]
            · obtain rfl : j = B.pages.length := by omega
              first
                | exact absurd rfl (k3 (by omega))
                | simp +decide (maxSteps := 20000000) (disch := omega) only [↓SBK, ↓SBK2, SX, Nat.reduceEqDiff, Nat.reduceAdd, Nat.reduceMul, Nat.reduceSub, ↓reduceIte, Int.reduceNeg, Int.reduceToNat, Int.reducePow, hmd, hks, hQ, hmd1, hks1, hQ1, hmd2, hks2, hQ2, ij]
                  refine ⟨(i + 1, some (B, qp, qk)), rfl, ⟨by simp only; omega, ?_⟩, by simp only; omega⟩
                  intro k hkk hkl
                  simp only at hkk
                  by_cases e : k = i
                  · subst e; rw [hB]; exact ⟨by omega, h3, k2⟩
                  · exact g2 k (by omega) hkl
        · simp only [h3, Bool.not_true, Bool.not_false]
          simp +decide (maxSteps := 20000000) (disch := omega) only [↓SBK, ↓SBK2, SX, Nat.reduceEqDiff, Nat.reduceAdd, Nat.reduceMul, Nat.reduceSub, ↓reduceIte, Int.reduceNeg, Int.reduceToNat, Int.reducePow, hmd, hks, hQ, hmd1, hks1, hQ1]
          rw [chipOk_f (fun h => by rw [(h.1 B hbm).2.1] at h3; cases h3)]
      · have h2d : decide (((B.pages.length : Nat) : Int) = 8) = false := decide_eq_false h2
        simp +decide (maxSteps := 20000000) (disch := omega) only [↓SBK, ↓SBK2, SX, Nat.reduceEqDiff, Nat.reduceAdd, Nat.reduceMul, Nat.reduceSub, ↓reduceIte, Int.reduceNeg, Int.reduceToNat, Int.reducePow, hmd, hks, hQ, hmd1, hks1, hQ1, h2d]
        rw [chipOk_f (fun h => h2 (by rw [(h.1 B hbm).1]; rfl))]
    · obtain rfl : i = c.blocks.length := by omega
      simp +decide (maxSteps := 20000000) (disch := omega) only [↓SBK, ↓SBK2, SX, Nat.reduceEqDiff, Nat.reduceAdd, Nat.reduceMul, Nat.reduceSub, ↓reduceIte, Int.reduceNeg, Int.reduceToNat, Int.reducePow, hmd, hks, hQ, hmd1, hks1, hQ1, cj]
      (first | refine call_i hP (s_from (c.blocks.length : Nat) 3 24) (.inl ⟨rfl, fun _ hx => nomatch hx⟩) ?_ | refine callH_i hP (s_from (c.blocks.length : Nat) 3 24) (.inl ⟨rfl, fun _ hx => nomatch hx⟩) ?_)
      simp +decide (maxSteps := 20000000) (disch := omega) only [↓SBK, ↓SBK2, SX, Nat.reduceEqDiff, Nat.reduceAdd, Nat.reduceMul, Nat.reduceSub, ↓reduceIte, Int.reduceNeg, Int.reduceToNat, Int.reducePow, hmd, hks, hQ]
      by_cases h3 : inR (c.blocks.length : Nat) 3 24 = true
      · rw [chipOk_t ⟨okC_mem fun k hk => g2 k hk hk, h3⟩, h3]
      · rw [chipOk_f fun h => h3 h.2]; simp at h3; rw [h3]
  ·
    simp only at g1 g2
    simp +decide (maxSteps := 20000000) (disch := omega) only [↓SBK, ↓SBK2, SX, Nat.reduceEqDiff, Nat.reduceAdd, Nat.reduceMul, Nat.reduceSub, ↓reduceIte, Int.reduceNeg, Int.reduceToNat, Int.reducePow, hmd, hks, hQ, hmd1, hks1, hQ1, cj]
    (first | with_reducible refine if_d _ ?_ ?_ | refine if_i _ ?_ ?_) <;> intro h1
    · simp +decide (maxSteps := 20000000) (disch := omega) only [↓SBK, ↓SBK2, SX, Nat.reduceEqDiff, Nat.reduceAdd, Nat.reduceMul, Nat.reduceSub, ↓reduceIte, Int.reduceNeg, Int.reduceToNat, Int.reducePow, hmd, hks, hQ, hmd1, hks1, hQ1, getE h1, cj]
      have hbf := chip_fine hf (i := i) (by omega)
      have hbm : c.blocks[i]'(by omega) ∈ c.blocks := List.getElem_mem _
      generalize hB : (c.blocks[i]'(by omega)) = B at *
      simp only [Block.fine] at hbf
      obtain ⟨f1, f2⟩ := hbf
      (first | with_reducible refine gd_d _ ?_ ?_ | refine gd_i _ ?_ ?_) <;> intro h2
      · have h2d : decide (((B.pages.length : Nat) : Int) = 8) = true := decide_eq_true h2
        simp +decide (maxSteps := 20000000) (disch := omega) only [↓SBK, ↓SBK2, SX, Nat.reduceEqDiff, Nat.reduceAdd, Nat.reduceMul, Nat.reduceSub, ↓reduceIte, Int.reduceNeg, Int.reduceToNat, Int.reducePow, hmd, hks, hQ, hmd1, hks1, hQ1, h2d]
        (first | refine call_i hP1 (s_from B.wear 0 100000) (.inl ⟨rfl, fun _ hx => nomatch hx⟩) ?_ | refine callH_i hP1 (s_from B.wear 0 100000) (.inl ⟨rfl, fun _ hx => nomatch hx⟩) ?_)
        simp +decide (maxSteps := 20000000) (disch := omega) only [↓SBK, ↓SBK2, SX, Nat.reduceEqDiff, Nat.reduceAdd, Nat.reduceMul, Nat.reduceSub, ↓reduceIte, Int.reduceNeg, Int.reduceToNat, Int.reducePow, hmd, hks, hQ, hmd1, hks1, hQ1, h2d]
        (first | with_reducible refine if_d _ ?_ ?_ | refine if_i _ ?_ ?_) <;> intro h3
        · simp only [h3, Bool.not_true, Bool.not_false]
          simp +decide (maxSteps := 20000000) (disch := omega) only [↓SBK, ↓SBK2, SX, Nat.reduceEqDiff, Nat.reduceAdd, Nat.reduceMul, Nat.reduceSub, ↓reduceIte, Int.reduceNeg, Int.reduceToNat, Int.reducePow, hmd, hks, hQ, hmd1, hks1, hQ1]
          refine loop_i (fun s : Nat × Option (Page × Int) => (27, .int .i64 (s.1 : Nat)) :: ij s.2) (fun s => s.1 ≤ B.pages.length ∧ (∀ k, k < s.1 → okP B.pages k) ∧ (0 < s.1 → s.2 ≠ none)) (fun s => B.pages.length - s.1) ((0, some (jp, jk))) hP1 hmd1 hks1 (rfl) (by simp) ?_
          rintro ⟨j, _ | ⟨qp, qk⟩⟩ ⟨k1, k2, k3⟩ w2 hP2 hmd2 hks2 hQ2
          all_goals
            simp only at k1 k2 k3
            simp +decide (maxSteps := 20000000) (disch := omega) only [↓SBK, ↓SBK2, SX, Nat.reduceEqDiff, Nat.reduceAdd, Nat.reduceMul, Nat.reduceSub, ↓reduceIte, Int.reduceNeg, Int.reduceToNat, Int.reducePow, hmd, hks, hQ, hmd1, hks1, hQ1, hmd2, hks2, hQ2, ij]
            (first | with_reducible refine if_d _ ?_ ?_ | refine if_i _ ?_ ?_) <;> intro h4
            · rcases okP_ways B.pages j (by omega) with ⟨w1, hk⟩ | ⟨w1, w2, w3, hk⟩ | ⟨w1, w2, w3, hk⟩ | ⟨w1, w2, rfl, hk⟩ | ⟨w1, w2, m, rfl, w3, hk⟩ | ⟨w1, w2, m, rfl, w3, hk⟩
              · simp +decide (maxSteps := 20000000) (disch := omega) only [↓SBK, ↓SBK2, SX, Nat.reduceEqDiff, Nat.reduceAdd, Nat.reduceMul, Nat.reduceSub, ↓reduceIte, Int.reduceNeg, Int.reduceToNat, Int.reducePow, hmd, hks, hQ, hmd1, hks1, hQ1, hmd2, hks2, hQ2, getE h4, ij, w1]
                rw [chipOk_f (fun h => hk ((h.1 B hbm).2.2 j (by omega)))]
              · simp +decide (maxSteps := 20000000) (disch := omega) only [↓SBK, ↓SBK2, SX, Nat.reduceEqDiff, Nat.reduceAdd, Nat.reduceMul, Nat.reduceSub, ↓reduceIte, Int.reduceNeg, Int.reduceToNat, Int.reducePow, hmd, hks, hQ, hmd1, hks1, hQ1, hmd2, hks2, hQ2, getE h4, ij, w1, w2, w3]
                rw [chipOk_f (fun h => hk ((h.1 B hbm).2.2 j (by omega)))]
              · by_cases w4 : (0 : Int) < (j : Nat)
                · simp +decide (maxSteps := 20000000) (disch := omega) only [↓SBK, ↓SBK2, SX, Nat.reduceEqDiff, Nat.reduceAdd, Nat.reduceMul, Nat.reduceSub, ↓reduceIte, Int.reduceNeg, Int.reduceToNat, Int.reducePow, hmd, hks, hQ, hmd1, hks1, hQ1, hmd2, hks2, hQ2, getE h4, ij, w1, w2, w3, w4]
                  exact ⟨(j + 1, some (⟨false, (B.pages[j]'(by omega)).b⟩, (j : Int))), rfl, ⟨by simp only; omega, okP_step k2 hk, by simp⟩, by simp only; omega⟩
                · simp +decide (maxSteps := 20000000) (disch := omega) only [↓SBK, ↓SBK2, SX, Nat.reduceEqDiff, Nat.reduceAdd, Nat.reduceMul, Nat.reduceSub, ↓reduceIte, Int.reduceNeg, Int.reduceToNat, Int.reducePow, hmd, hks, hQ, hmd1, hks1, hQ1, hmd2, hks2, hQ2, getE h4, ij, w1, w2, w3, w4]
                  exact ⟨(j + 1, some (⟨false, (B.pages[j]'(by omega)).b⟩, (j : Int))), rfl, ⟨by simp only; omega, okP_step k2 hk, by simp⟩, by simp only; omega⟩
              · simp +decide (maxSteps := 20000000) (disch := omega) only [↓SBK, ↓SBK2, SX, Nat.reduceEqDiff, Nat.reduceAdd, Nat.reduceMul, Nat.reduceSub, ↓reduceIte, Int.reduceNeg, Int.reduceToNat, Int.reducePow, hmd, hks, hQ, hmd1, hks1, hQ1, hmd2, hks2, hQ2, getE h4, ij, w1, w2]
                exact ⟨(0 + 1, some (⟨true, (B.pages[0]'(by omega)).b⟩, ((0 : Nat) : Int))), rfl, ⟨by simp only; omega, okP_step k2 hk, by simp⟩, by simp only; omega⟩
              · have w4 : (0 : Int) < ((m + 1 : Nat) : Int) := by omega
                simp +decide (maxSteps := 20000000) (disch := omega) only [↓SBK, ↓SBK2, SX, Nat.reduceEqDiff, Nat.reduceAdd, Nat.reduceMul, Nat.reduceSub, ↓reduceIte, Int.reduceNeg, Int.reduceToNat, Int.reducePow, hmd, hks, hQ, hmd1, hks1, hQ1, hmd2, hks2, hQ2, getE h4, ij, w1, w2, w3, w4, cast_pred, getE (show ((m : Nat) : Int) < (B.pages.length : Nat) by omega)]
                exact ⟨(m + 1 + 1, some (⟨true, (B.pages[m + 1]'(by omega)).b⟩, ((m + 1 : Nat) : Int))), rfl, ⟨by simp only; omega, okP_step k2 hk, by simp⟩, by simp only; omega⟩
              · have w4 : (0 : Int) < ((m + 1 : Nat) : Int) := by omega
                simp +decide (maxSteps := 20000000) (disch := omega) only [↓SBK, ↓SBK2, SX, Nat.reduceEqDiff, Nat.reduceAdd, Nat.reduceMul, Nat.reduceSub, ↓reduceIte, Int.reduceNeg, Int.reduceToNat, Int.reducePow, hmd, hks, hQ, hmd1, hks1, hQ1, hmd2, hks2, hQ2, getE h4, ij, w1, w2, w3, w4, cast_pred, getE (show ((m : Nat) : Int) < (B.pages.length : Nat) by omega)]
                rw [chipOk_f (fun h => hk ((h.1 B hbm).2.2 (m + 1) (by omega)))]
            · obtain rfl : j = B.pages.length := by omega
              first
                | exact absurd rfl (k3 (by omega))
                | simp +decide (maxSteps := 20000000) (disch := omega) only [↓SBK, ↓SBK2, SX, Nat.reduceEqDiff, Nat.reduceAdd, Nat.reduceMul, Nat.reduceSub, ↓reduceIte, Int.reduceNeg, Int.reduceToNat, Int.reducePow, hmd, hks, hQ, hmd1, hks1, hQ1, hmd2, hks2, hQ2, ij]
                  refine ⟨(i + 1, some (B, qp, qk)), rfl, ⟨by simp only; omega, ?_⟩, by simp only; omega⟩
                  intro k hkk hkl
                  simp only at hkk
                  by_cases e : k = i
                  · subst e; rw [hB]; exact ⟨by omega, h3, k2⟩
                  · exact g2 k (by omega) hkl
        · simp only [h3, Bool.not_true, Bool.not_false]
          simp +decide (maxSteps := 20000000) (disch := omega) only [↓SBK, ↓SBK2, SX, Nat.reduceEqDiff, Nat.reduceAdd, Nat.reduceMul, Nat.reduceSub, ↓reduceIte, Int.reduceNeg, Int.reduceToNat, Int.reducePow, hmd, hks, hQ, hmd1, hks1, hQ1]
          rw [chipOk_f (fun h => by rw [(h.1 B hbm).2.1] at h3; cases h3)]
      · have h2d : decide (((B.pages.length : Nat) : Int) = 8) = false := decide_eq_false h2
        simp +decide (maxSteps := 20000000) (disch := omega) only [↓SBK, ↓SBK2, SX, Nat.reduceEqDiff, Nat.reduceAdd, Nat.reduceMul, Nat.reduceSub, ↓reduceIte, Int.reduceNeg, Int.reduceToNat, Int.reducePow, hmd, hks, hQ, hmd1, hks1, hQ1, h2d]
        rw [chipOk_f (fun h => h2 (by rw [(h.1 B hbm).1]; rfl))]
    · obtain rfl : i = c.blocks.length := by omega
      simp +decide (maxSteps := 20000000) (disch := omega) only [↓SBK, ↓SBK2, SX, Nat.reduceEqDiff, Nat.reduceAdd, Nat.reduceMul, Nat.reduceSub, ↓reduceIte, Int.reduceNeg, Int.reduceToNat, Int.reducePow, hmd, hks, hQ, hmd1, hks1, hQ1, cj]
      (first | refine call_i hP (s_from (c.blocks.length : Nat) 3 24) (.inl ⟨rfl, fun _ hx => nomatch hx⟩) ?_ | refine callH_i hP (s_from (c.blocks.length : Nat) 3 24) (.inl ⟨rfl, fun _ hx => nomatch hx⟩) ?_)
      simp +decide (maxSteps := 20000000) (disch := omega) only [↓SBK, ↓SBK2, SX, Nat.reduceEqDiff, Nat.reduceAdd, Nat.reduceMul, Nat.reduceSub, ↓reduceIte, Int.reduceNeg, Int.reduceToNat, Int.reducePow, hmd, hks, hQ]
      by_cases h3 : inR (c.blocks.length : Nat) 3 24 = true
      · rw [chipOk_t ⟨okC_mem fun k hk => g2 k hk hk, h3⟩, h3]
      · rw [chipOk_f fun h => h3 h.2]; simp at h3; rw [h3]
end Go.Proofs.Ytliklgcfdgdigaa.Awp

namespace Go.Proofs.Ytliklgcfdgdigaa.Awp
open Go.Proofs
set_option linter.unusedSimpArgs false
set_option linter.unusedVariables false
set_option maxRecDepth 100000
set_option maxHeartbeats 20000000

end Go.Proofs.Ytliklgcfdgdigaa.Awp

namespace Go.Proofs.Ytliklgcfdgdigaa.Awp
open Go.Proofs
set_option linter.unusedSimpArgs false
set_option linter.unusedVariables false
set_option maxRecDepth 100000
set_option maxHeartbeats 20000000

theorem chip_page {c : Chip} {j m : Nat} (hs : c.sz < 2 ^ 40) (hj : (j : Int) < (c.blocks.length : Nat)) (hm : (m : Int) < ((c.blocks[j]'(by omega)).pages.length : Nat)) :
    ((c.blocks[j]'(by omega)).pages[m]'(by omega)).b.length < 2 ^ 40 := by
  have h1 := sum_get Block.sz (l := c.blocks) (i := j) (by omega)
  have h2 := sum_get Page.sz (l := (c.blocks[j]'(by omega)).pages) (i := m) (by omega)
  simp only [Chip.sz, szM] at hs
  have h3 : (c.blocks[j]'(by omega)).sz = (c.blocks[j]'(by omega)).pages.length + ((c.blocks[j]'(by omega)).pages.map Page.sz).sum := rfl
  have h4 : ((c.blocks[j]'(by omega)).pages[m]'(by omega)).sz = ((c.blocks[j]'(by omega)).pages[m]'(by omega)).b.length := rfl
  omega
theorem chip_pages {c : Chip} {j : Nat} (hs : c.sz < 2 ^ 40) (hj : (j : Int) < (c.blocks.length : Nat)) : (c.blocks[j]'(by omega)).pages.length < 2 ^ 40 := by
  have h1 := sum_get Block.sz (l := c.blocks) (i := j) (by omega)
  simp only [Chip.sz, szM] at hs
  have h3 : (c.blocks[j]'(by omega)).sz = (c.blocks[j]'(by omega)).pages.length + ((c.blocks[j]'(by omega)).pages.map Page.sz).sum := rfl
  omega
end Go.Proofs.Ytliklgcfdgdigaa.Awp

namespace Go.Proofs.Ytliklgcfdgdigaa.Awp
open Go.Proofs
set_option linter.unusedSimpArgs false
set_option linter.unusedVariables false
set_option maxRecDepth 100000
set_option maxHeartbeats 20000000

end Go.Proofs.Ytliklgcfdgdigaa.Awp

namespace Go.Proofs.Ytliklgcfdgdigaa.Awp
open Go.Proofs
set_option linter.unusedSimpArgs false
set_option linter.unusedVariables false
set_option maxRecDepth 100000
set_option maxHeartbeats 20000000

theorem take_row {α β : Type} (f : α → β) (l : List α) (i : Nat) (h : i < l.length) : (l.take (i + 1)).map f = (l.take i).map f ++ [f l[i]] := by
  rw [List.take_succ_eq_append_getElem h, List.map_append]; rfl
theorem page_b {b : Block} {i : Nat} (hs : b.sz < 2 ^ 40) (h : i < b.pages.length) : (b.pages[i]).b.length < 2 ^ 40 := by
  have h2 := sum_get Page.sz (l := b.pages) (i := i) h
  have h3 : b.sz = b.pages.length + (b.pages.map Page.sz).sum := rfl
  have h4 : (b.pages[i]).sz = (b.pages[i]).b.length := rfl
  omega
theorem sS_l10CopyBlock (b : Block) (hs : b.sz < 2 ^ 40) : Spec Try.prog 180 [b.x] b.o [.undef] := by
  have hl : b.pages.length < 2 ^ 40 := by have h3 : b.sz = b.pages.length + (b.pages.map Page.sz).sum := rfl; omega
  refine spec_C hmx p_S_l10CopyBlock [] 31 [] ⟨Nat.le_of_ble_eq_true rfl, Nat.le_of_ble_eq_true rfl⟩ rfl rfl ?_
  intro w hP hmd hks hQ
  unfold c_S_l10CopyBlock
  simp +decide (maxSteps := 20000000) (disch := omega) only [↓SBK, ↓SBK2, SX, Nat.reduceEqDiff, Nat.reduceAdd, Nat.reduceMul, Nat.reduceSub, ↓reduceIte, Int.reduceNeg, Int.reduceToNat, Int.reducePow, hmd, hks, hQ]
  refine loop_i (fun i : Nat => [(4, .int .i64 i), (5003, .box [.own 2 ((b.pages.take i).map Page.row), .int .i64 b.wear, .bool b.bad])]) (fun i => i ≤ b.pages.length) (fun i => b.pages.length - i) (0) hP hmd hks (rfl) (by omega) ?_
  rintro i hi w1 hP1 hmd1 hks1 hQ1
  simp +decide (maxSteps := 20000000) (disch := omega) only [↓SBK, ↓SBK2, SX, Nat.reduceEqDiff, Nat.reduceAdd, Nat.reduceMul, Nat.reduceSub, ↓reduceIte, Int.reduceNeg, Int.reduceToNat, Int.reducePow, hmd, hks, hQ, hmd1, hks1, hQ1]
  (first | with_reducible refine if_d _ ?_ ?_ | refine if_i _ ?_ ?_) <;> intro h1
  · have hb := page_b hs (i := i) (by omega)
    have ht : (b.pages.take i).length = i := by simp; omega
    simp +decide (maxSteps := 20000000) (disch := omega) only [↓SBK, ↓SBK2, SX, Nat.reduceEqDiff, Nat.reduceAdd, Nat.reduceMul, Nat.reduceSub, ↓reduceIte, Int.reduceNeg, Int.reduceToNat, Int.reducePow, hmd, hks, hQ, hmd1, hks1, hQ1, getE h1, ht]
    exact ⟨i + 1, by rw [take_row _ _ _ (by omega)]; rfl, by omega, by omega⟩
  · obtain rfl : i = b.pages.length := by omega
    simp +decide (maxSteps := 20000000) (disch := omega) only [↓SBK, ↓SBK2, SX, Nat.reduceEqDiff, Nat.reduceAdd, Nat.reduceMul, Nat.reduceSub, ↓reduceIte, Int.reduceNeg, Int.reduceToNat, Int.reducePow, hmd, hks, hQ, hmd1, hks1, hQ1, List.take_length]
theorem sS_l10Copy (c : Chip) (hs : c.sz < 2 ^ 40) : Spec Try.prog 151 [c.x] c.o [.undef] := by
  have hl : c.blocks.length < 2 ^ 40 := by simp only [Chip.sz, szM] at hs; omega
  refine spec_C hmx p_S_l10Copy [] 31 [] ⟨Nat.le_of_ble_eq_true rfl, Nat.le_of_ble_eq_true rfl⟩ rfl rfl ?_
  intro w hP hmd hks hQ
  unfold c_S_l10Copy
  simp +decide (maxSteps := 20000000) (disch := omega) only [↓SBK, ↓SBK2, SX, Nat.reduceEqDiff, Nat.reduceAdd, Nat.reduceMul, Nat.reduceSub, ↓reduceIte, Int.reduceNeg, Int.reduceToNat, Int.reducePow, hmd, hks, hQ]
  refine loop_i (fun i : Nat => [(4, .int .i64 i), (5003, .box [.own 3 ((c.blocks.take i).map Block.row)])]) (fun i => i ≤ c.blocks.length) (fun i => c.blocks.length - i) (0) hP hmd hks (rfl) (by omega) ?_
  rintro i hi w1 hP1 hmd1 hks1 hQ1
  simp +decide (maxSteps := 20000000) (disch := omega) only [↓SBK, ↓SBK2, SX, Nat.reduceEqDiff, Nat.reduceAdd, Nat.reduceMul, Nat.reduceSub, ↓reduceIte, Int.reduceNeg, Int.reduceToNat, Int.reducePow, hmd, hks, hQ, hmd1, hks1, hQ1]
  (first | with_reducible refine if_d _ ?_ ?_ | refine if_i _ ?_ ?_) <;> intro h1
  · have hz := sum_get Block.sz (l := c.blocks) (i := i) (by omega)
    have hz' : (c.blocks[i]'(by omega)).sz < 2 ^ 40 := by simp only [Chip.sz, szM] at hs; omega
    have ht : (c.blocks.take i).length = i := by simp; omega
    simp +decide (maxSteps := 20000000) (disch := omega) only [↓SBK, ↓SBK2, SX, Nat.reduceEqDiff, Nat.reduceAdd, Nat.reduceMul, Nat.reduceSub, ↓reduceIte, Int.reduceNeg, Int.reduceToNat, Int.reducePow, hmd, hks, hQ, hmd1, hks1, hQ1, getE h1, ht]
    (first | refine call_i hP1 (sS_l10CopyBlock (c.blocks[i]'(by omega)) hz') (.inl ⟨rfl, fun _ hx => nomatch hx⟩) ?_ | refine callH_i hP1 (sS_l10CopyBlock (c.blocks[i]'(by omega)) hz') (.inl ⟨rfl, fun _ hx => nomatch hx⟩) ?_)
    simp +decide (maxSteps := 20000000) (disch := omega) only [↓SBK, ↓SBK2, SX, Nat.reduceEqDiff, Nat.reduceAdd, Nat.reduceMul, Nat.reduceSub, ↓reduceIte, Int.reduceNeg, Int.reduceToNat, Int.reducePow, hmd, hks, hQ, hmd1, hks1, hQ1, ht]
    exact ⟨i + 1, by rw [take_row _ _ _ (by omega)]; rfl, by omega, by omega⟩
  · obtain rfl : i = c.blocks.length := by omega
    simp +decide (maxSteps := 20000000) (disch := omega) only [↓SBK, ↓SBK2, SX, Nat.reduceEqDiff, Nat.reduceAdd, Nat.reduceMul, Nat.reduceSub, ↓reduceIte, Int.reduceNeg, Int.reduceToNat, Int.reducePow, hmd, hks, hQ, hmd1, hks1, hQ1, List.take_length]
end Go.Proofs.Ytliklgcfdgdigaa.Awp

namespace Go.Proofs.Ytliklgcfdgdigaa.Awp
open Go.Proofs
set_option linter.unusedSimpArgs false
set_option linter.unusedVariables false
set_option maxRecDepth 100000
set_option maxHeartbeats 20000000

theorem sI_copyChip (c : Chip) (hs : c.sz < 2 ^ 40) : Spec Try.prog 149 [c.x] c.o [.undef] := by
  have hl : c.blocks.length < 2 ^ 40 := by simp only [Chip.sz, szM] at hs; omega
  refine spec_C hmx p_I_copyChip [] 3684719 [] ⟨Nat.le_of_ble_eq_true rfl, Nat.le_of_ble_eq_true rfl⟩ rfl rfl ?_
  intro w hP hmd hks hQ
  unfold c_I_copyChip
  simp +decide (maxSteps := 20000000) (disch := omega) only [↓SBK, ↓SBK2, SX, Nat.reduceEqDiff, Nat.reduceAdd, Nat.reduceMul, Nat.reduceSub, ↓reduceIte, Int.reduceNeg, Int.reduceToNat, Int.reducePow, hmd, hks, hQ]
  refine LH_D [5, 6, 8, 19, 20, 21, 5005, 5008] ?_
  simp +decide (maxSteps := 20000000) (disch := omega) only [↓SBK, ↓SBK2, SX, Nat.reduceEqDiff, Nat.reduceAdd, Nat.reduceMul, Nat.reduceSub, ↓reduceIte, Int.reduceNeg, Int.reduceToNat, Int.reducePow, hmd, hks, hQ]
  refine loop_d [5, 6, 8, 19, 20, 21, 5005, 5008] (fun i : Nat => [(13, .int .i64 i), (5003, .box [.own 3 ((c.blocks.take i).map Block.row)])]) (fun i => i ≤ c.blocks.length) (fun i => c.blocks.length - i) (0) hP hmd hks (rfl) (by simp) ?_
  rintro i hi w1 hP1 hmd1 hks1 hQ1
  simp +decide (maxSteps := 20000000) (disch := omega) only [↓SBK, ↓SBK2, SX, Nat.reduceEqDiff, Nat.reduceAdd, Nat.reduceMul, Nat.reduceSub, ↓reduceIte, Int.reduceNeg, Int.reduceToNat, Int.reducePow, hmd, hks, hQ, hmd1, hks1, hQ1]
  (first | with_reducible refine if_d _ ?_ ?_ | refine if_i _ ?_ ?_) <;> intro h1
  · have hz := sum_get Block.sz (l := c.blocks) (i := i) (by omega)
    have hz' : (c.blocks[i]'(by omega)).sz < 2 ^ 40 := by simp only [Chip.sz, szM] at hs; omega
    have ht : (c.blocks.take i).length = i := by simp; omega
    simp +decide (maxSteps := 20000000) (disch := omega) only [↓SBK, ↓SBK2, SX, Nat.reduceEqDiff, Nat.reduceAdd, Nat.reduceMul, Nat.reduceSub, ↓reduceIte, Int.reduceNeg, Int.reduceToNat, Int.reducePow, hmd, hks, hQ, hmd1, hks1, hQ1, getE h1, ht]
    generalize hB : (c.blocks[i]'(by omega)) = B at *
    have hpl : B.pages.length < 2 ^ 40 := by have h3 : B.sz = B.pages.length + (B.pages.map Page.sz).sum := rfl; omega
    refine LH_D [8, 5008] ?_
    simp +decide (maxSteps := 20000000) (disch := omega) only [↓SBK, ↓SBK2, SX, Nat.reduceEqDiff, Nat.reduceAdd, Nat.reduceMul, Nat.reduceSub, ↓reduceIte, Int.reduceNeg, Int.reduceToNat, Int.reducePow, hmd, hks, hQ, hmd1, hks1, hQ1]
    refine loop_d [8, 5008] (fun j : Nat => [(21, .int .i64 j), (6, .own 2 ((B.pages.take j).map Page.row))]) (fun j => j ≤ B.pages.length) (fun j => B.pages.length - j) (0) hP1 hmd1 hks1 (rfl) (by simp) ?_
    rintro j hj w2 hP2 hmd2 hks2 hQ2
    simp +decide (maxSteps := 20000000) (disch := omega) only [↓SBK, ↓SBK2, SX, Nat.reduceEqDiff, Nat.reduceAdd, Nat.reduceMul, Nat.reduceSub, ↓reduceIte, Int.reduceNeg, Int.reduceToNat, Int.reducePow, hmd, hks, hQ, hmd1, hks1, hQ1, hmd2, hks2, hQ2]
    (first | with_reducible refine if_d _ ?_ ?_ | refine if_i _ ?_ ?_) <;> intro h4
    · have hb := page_b hz' (i := j) (by omega)
      have ht2 : (B.pages.take j).length = j := by simp; omega
      simp +decide (maxSteps := 20000000) (disch := omega) only [↓SBK, ↓SBK2, SX, Nat.reduceEqDiff, Nat.reduceAdd, Nat.reduceMul, Nat.reduceSub, ↓reduceIte, Int.reduceNeg, Int.reduceToNat, Int.reducePow, hmd, hks, hQ, hmd1, hks1, hQ1, hmd2, hks2, hQ2, getE h4, ht2]
      (first | refine call_i hP2 (s_Clone8 (B.pages[j]'(by omega)).b hb) (.inl ⟨rfl, fun _ hx => nomatch hx⟩) ?_ | refine callH_i hP2 (s_Clone8 (B.pages[j]'(by omega)).b hb) (.inl ⟨rfl, fun _ hx => nomatch hx⟩) ?_)
      simp +decide (maxSteps := 20000000) (disch := omega) only [↓SBK, ↓SBK2, SX, Nat.reduceEqDiff, Nat.reduceAdd, Nat.reduceMul, Nat.reduceSub, ↓reduceIte, Int.reduceNeg, Int.reduceToNat, Int.reducePow, hmd, hks, hQ, hmd1, hks1, hQ1, hmd2, hks2, hQ2, ht2]
      exact ⟨j + 1, by simp only [take_row _ _ _ (show j < B.pages.length by omega)]; rfl, by omega, by omega⟩
    · obtain rfl : j = B.pages.length := by omega
      simp +decide (maxSteps := 20000000) (disch := omega) only [↓SBK, ↓SBK2, SX, Nat.reduceEqDiff, Nat.reduceAdd, Nat.reduceMul, Nat.reduceSub, ↓reduceIte, Int.reduceNeg, Int.reduceToNat, Int.reducePow, hmd, hks, hQ, hmd1, hks1, hQ1, hmd2, hks2, hQ2, List.take_length, ht]
      exact ⟨i + 1, by simp only [take_row _ _ _ (show i < c.blocks.length by omega), hB]; rfl, by omega, by omega⟩
  · obtain rfl : i = c.blocks.length := by omega
    simp +decide (maxSteps := 20000000) (disch := omega) only [↓SBK, ↓SBK2, SX, Nat.reduceEqDiff, Nat.reduceAdd, Nat.reduceMul, Nat.reduceSub, ↓reduceIte, Int.reduceNeg, Int.reduceToNat, Int.reducePow, hmd, hks, hQ, hmd1, hks1, hQ1, List.take_length]
end Go.Proofs.Ytliklgcfdgdigaa.Awp

namespace Go.Proofs.Ytliklgcfdgdigaa.Awp
open Go.Proofs
set_option linter.unusedSimpArgs false
set_option linter.unusedVariables false
set_option maxRecDepth 100000
set_option maxHeartbeats 20000000

theorem blk_nat {c : Chip} {j : Nat} (hj : (j : Int) < (c.blocks.length : Nat)) : blk? c (j : Int) = some (c.blocks[j]'(by omega)) := by
  rw [blk?, if_pos (by omega)]
  simp only [Int.toNat_natCast]
  rw [List.getElem?_eq_getElem]
noncomputable def mayCode (c : Chip) (k : Int) (full : Bool) : Int := if chipOk c = true then (match blk? c k with | none => 1 | some b => if b.bad = true then 2 else if full = true then 5 else 0) else 1
theorem may_bad {c : Chip} {k : Int} {full : Bool} (h : ¬ chipOk c = true) : mayCode c k full = 1 := if_neg h
theorem may_none {c : Chip} {k : Int} {full : Bool} (h : blk? c k = none) : mayCode c k full = 1 := by
  unfold mayCode; rw [h]; simp
theorem may_some {c : Chip} {k : Int} {full : Bool} {b : Block} (h1 : chipOk c = true) (h : blk? c k = some b) : mayCode c k full = if b.bad = true then 2 else if full = true then 5 else 0 := by
  unfold mayCode; rw [if_pos h1, h]
theorem sS_l10May (c : Chip) (k : Int) (full : Bool) (hf : c.fine) : Spec Try.prog 181 [c.x, .int .i64 k, .bool full] (.int .i64 (mayCode c k full)) [.undef, .undef, .undef] := by
  have hl := chip_len hf
  have hc := sS_ChipOk c hf
  by_cases h1 : chipOk c = true
  · rw [h1] at hc
    by_cases h2 : 0 ≤ k ∧ k < (c.blocks.length : Nat)
    · obtain ⟨j, rfl⟩ : ∃ j : Nat, k = j := ⟨k.toNat, by omega⟩
      have hj : (j : Int) < (c.blocks.length : Nat) := h2.2
      have d1 : decide ((j : Int) < 0) = false := decide_eq_false (by omega)
      have d2 : decide (((c.blocks.length : Nat) : Int) ≤ j) = false := decide_eq_false (by omega)
      have e := may_some (full := full) h1 (blk_nat hj)
      refine spec_C hmx p_S_l10May [] 79 [] ⟨Nat.le_of_ble_eq_true rfl, Nat.le_of_ble_eq_true rfl⟩ rfl rfl ?_
      intro w hP hmd hks hQ
      unfold c_S_l10May
      simp +decide (maxSteps := 20000000) (disch := omega) only [↓SBK, ↓SBK2, SX, Nat.reduceEqDiff, Nat.reduceAdd, Nat.reduceMul, Nat.reduceSub, ↓reduceIte, Int.reduceNeg, Int.reduceToNat, Int.reducePow, hmd, hks, hQ]
      (first | refine call_i hP (hc) (.inl ⟨rfl, fun _ hx => nomatch hx⟩) ?_ | refine callH_i hP (hc) (.inl ⟨rfl, fun _ hx => nomatch hx⟩) ?_)
      simp +decide (maxSteps := 20000000) (disch := omega) only [↓SBK, ↓SBK2, SX, Nat.reduceEqDiff, Nat.reduceAdd, Nat.reduceMul, Nat.reduceSub, ↓reduceIte, Int.reduceNeg, Int.reduceToNat, Int.reducePow, hmd, hks, hQ, d1, d2, getE hj]
      (first | with_reducible refine if_d _ ?_ ?_ | refine if_i _ ?_ ?_) <;> intro h3
      · simp +decide (maxSteps := 20000000) (disch := omega) only [↓SBK, ↓SBK2, SX, Nat.reduceEqDiff, Nat.reduceAdd, Nat.reduceMul, Nat.reduceSub, ↓reduceIte, Int.reduceNeg, Int.reduceToNat, Int.reducePow, hmd, hks, hQ]
        rw [e, if_pos h3]
      · simp +decide (maxSteps := 20000000) (disch := omega) only [↓SBK, ↓SBK2, SX, Nat.reduceEqDiff, Nat.reduceAdd, Nat.reduceMul, Nat.reduceSub, ↓reduceIte, Int.reduceNeg, Int.reduceToNat, Int.reducePow, hmd, hks, hQ]
        (first | with_reducible refine if_d _ ?_ ?_ | refine if_i _ ?_ ?_) <;> intro h4
        · simp +decide (maxSteps := 20000000) (disch := omega) only [↓SBK, ↓SBK2, SX, Nat.reduceEqDiff, Nat.reduceAdd, Nat.reduceMul, Nat.reduceSub, ↓reduceIte, Int.reduceNeg, Int.reduceToNat, Int.reducePow, hmd, hks, hQ]
          rw [e, if_neg (by simp [h3]), if_pos h4]
        · simp +decide (maxSteps := 20000000) (disch := omega) only [↓SBK, ↓SBK2, SX, Nat.reduceEqDiff, Nat.reduceAdd, Nat.reduceMul, Nat.reduceSub, ↓reduceIte, Int.reduceNeg, Int.reduceToNat, Int.reducePow, hmd, hks, hQ]
          rw [e, if_neg (by simp [h3]), if_neg (by simp [h4])]
    · have e := may_none (full := full) (blk_none h2)
      by_cases h : k < 0
      · have d1 : decide (k < 0) = true := decide_eq_true h
        refine spec_C hmx p_S_l10May [] 79 [] ⟨Nat.le_of_ble_eq_true rfl, Nat.le_of_ble_eq_true rfl⟩ rfl rfl ?_
        intro w hP hmd hks hQ
        unfold c_S_l10May
        simp +decide (maxSteps := 20000000) (disch := omega) only [↓SBK, ↓SBK2, SX, Nat.reduceEqDiff, Nat.reduceAdd, Nat.reduceMul, Nat.reduceSub, ↓reduceIte, Int.reduceNeg, Int.reduceToNat, Int.reducePow, hmd, hks, hQ]
        (first | refine call_i hP (hc) (.inl ⟨rfl, fun _ hx => nomatch hx⟩) ?_ | refine callH_i hP (hc) (.inl ⟨rfl, fun _ hx => nomatch hx⟩) ?_)
        simp +decide (maxSteps := 20000000) (disch := omega) only [↓SBK, ↓SBK2, SX, Nat.reduceEqDiff, Nat.reduceAdd, Nat.reduceMul, Nat.reduceSub, ↓reduceIte, Int.reduceNeg, Int.reduceToNat, Int.reducePow, hmd, hks, hQ, d1]
        rw [e]
      · have d1 : decide (k < 0) = false := decide_eq_false h
        have d2 : decide (((c.blocks.length : Nat) : Int) ≤ k) = true := decide_eq_true (by omega)
        refine spec_C hmx p_S_l10May [] 79 [] ⟨Nat.le_of_ble_eq_true rfl, Nat.le_of_ble_eq_true rfl⟩ rfl rfl ?_
        intro w hP hmd hks hQ
        unfold c_S_l10May
        simp +decide (maxSteps := 20000000) (disch := omega) only [↓SBK, ↓SBK2, SX, Nat.reduceEqDiff, Nat.reduceAdd, Nat.reduceMul, Nat.reduceSub, ↓reduceIte, Int.reduceNeg, Int.reduceToNat, Int.reducePow, hmd, hks, hQ]
        (first | refine call_i hP (hc) (.inl ⟨rfl, fun _ hx => nomatch hx⟩) ?_ | refine callH_i hP (hc) (.inl ⟨rfl, fun _ hx => nomatch hx⟩) ?_)
        simp +decide (maxSteps := 20000000) (disch := omega) only [↓SBK, ↓SBK2, SX, Nat.reduceEqDiff, Nat.reduceAdd, Nat.reduceMul, Nat.reduceSub, ↓reduceIte, Int.reduceNeg, Int.reduceToNat, Int.reducePow, hmd, hks, hQ, d1, d2]
        rw [e]
  · have h1' : chipOk c = false := by simpa using h1
    rw [h1'] at hc
    refine spec_C hmx p_S_l10May [] 79 [] ⟨Nat.le_of_ble_eq_true rfl, Nat.le_of_ble_eq_true rfl⟩ rfl rfl ?_
    intro w hP hmd hks hQ
    unfold c_S_l10May
    simp +decide (maxSteps := 20000000) (disch := omega) only [↓SBK, ↓SBK2, SX, Nat.reduceEqDiff, Nat.reduceAdd, Nat.reduceMul, Nat.reduceSub, ↓reduceIte, Int.reduceNeg, Int.reduceToNat, Int.reducePow, hmd, hks, hQ]
    (first | refine call_i hP (hc) (.inl ⟨rfl, fun _ hx => nomatch hx⟩) ?_ | refine callH_i hP (hc) (.inl ⟨rfl, fun _ hx => nomatch hx⟩) ?_)
    simp +decide (maxSteps := 20000000) (disch := omega) only [↓SBK, ↓SBK2, SX, Nat.reduceEqDiff, Nat.reduceAdd, Nat.reduceMul, Nat.reduceSub, ↓reduceIte, Int.reduceNeg, Int.reduceToNat, Int.reducePow, hmd, hks, hQ]
    rw [may_bad h1]
def fullE (c : Chip) (k : Int) : Bool := match blk? c k with | some b => decide (100000 ≤ b.wear) | none => false
noncomputable def eraseCode (c : Chip) (k : Int) : Int := mayCode c k (fullE c k)
theorem sS_l10Erase (c : Chip) (k : Int) (hf : c.fine) : Spec Try.prog 152 [c.x, .int .i64 k] (.int .i64 (eraseCode c k)) [.undef, .undef] := by
  have hl := chip_len hf
  by_cases h2 : 0 ≤ k ∧ k < (c.blocks.length : Nat)
  · obtain ⟨j, rfl⟩ : ∃ j : Nat, k = j := ⟨k.toNat, by omega⟩
    have hj : (j : Int) < (c.blocks.length : Nat) := h2.2
    have d1 : decide ((0 : Int) ≤ (j : Int)) = true := decide_eq_true (by omega)
    have d2 : decide ((j : Int) < (c.blocks.length : Nat)) = true := decide_eq_true hj
    have e : fullE c j = decide (100000 ≤ (c.blocks[j]'(by omega)).wear) := by rw [fullE, blk_nat hj]
    have hm := sS_l10May c j (fullE c j) hf
    rw [e] at hm
    have e2 : mayCode c j (decide (100000 ≤ (c.blocks[j]'(by omega)).wear)) = eraseCode c j := by rw [eraseCode, e]
    rw [e2] at hm
    refine spec_C hmx p_S_l10Erase [] 55 [] ⟨Nat.le_of_ble_eq_true rfl, Nat.le_of_ble_eq_true rfl⟩ rfl rfl ?_
    intro w hP hmd hks hQ
    unfold c_S_l10Erase
    simp +decide (maxSteps := 20000000) (disch := omega) only [↓SBK, ↓SBK2, SX, Nat.reduceEqDiff, Nat.reduceAdd, Nat.reduceMul, Nat.reduceSub, ↓reduceIte, Int.reduceNeg, Int.reduceToNat, Int.reducePow, hmd, hks, hQ]
    simp +decide (maxSteps := 20000000) (disch := omega) only [↓SBK, ↓SBK2, SX, Nat.reduceEqDiff, Nat.reduceAdd, Nat.reduceMul, Nat.reduceSub, ↓reduceIte, Int.reduceNeg, Int.reduceToNat, Int.reducePow, hmd, hks, hQ, d1, d2, getE hj]
    (first | refine call_i hP (hm) (.inl ⟨rfl, fun _ hx => nomatch hx⟩) ?_ | refine callH_i hP (hm) (.inl ⟨rfl, fun _ hx => nomatch hx⟩) ?_)
    simp +decide (maxSteps := 20000000) (disch := omega) only [↓SBK, ↓SBK2, SX, Nat.reduceEqDiff, Nat.reduceAdd, Nat.reduceMul, Nat.reduceSub, ↓reduceIte, Int.reduceNeg, Int.reduceToNat, Int.reducePow, hmd, hks, hQ]
  · have e : fullE c k = false := by rw [fullE, blk_none h2]
    have hm := sS_l10May c k (fullE c k) hf
    rw [e] at hm
    have e2 : mayCode c k false = eraseCode c k := by rw [eraseCode, e]
    rw [e2] at hm
    by_cases h : 0 ≤ k
    · have d1 : decide (0 ≤ k) = true := decide_eq_true h
      have d2 : decide (k < ((c.blocks.length : Nat) : Int)) = false := decide_eq_false (by omega)
      refine spec_C hmx p_S_l10Erase [] 55 [] ⟨Nat.le_of_ble_eq_true rfl, Nat.le_of_ble_eq_true rfl⟩ rfl rfl ?_
      intro w hP hmd hks hQ
      unfold c_S_l10Erase
      simp +decide (maxSteps := 20000000) (disch := omega) only [↓SBK, ↓SBK2, SX, Nat.reduceEqDiff, Nat.reduceAdd, Nat.reduceMul, Nat.reduceSub, ↓reduceIte, Int.reduceNeg, Int.reduceToNat, Int.reducePow, hmd, hks, hQ]
      simp +decide (maxSteps := 20000000) (disch := omega) only [↓SBK, ↓SBK2, SX, Nat.reduceEqDiff, Nat.reduceAdd, Nat.reduceMul, Nat.reduceSub, ↓reduceIte, Int.reduceNeg, Int.reduceToNat, Int.reducePow, hmd, hks, hQ, d1, d2]
      (first | refine call_i hP (hm) (.inl ⟨rfl, fun _ hx => nomatch hx⟩) ?_ | refine callH_i hP (hm) (.inl ⟨rfl, fun _ hx => nomatch hx⟩) ?_)
      simp +decide (maxSteps := 20000000) (disch := omega) only [↓SBK, ↓SBK2, SX, Nat.reduceEqDiff, Nat.reduceAdd, Nat.reduceMul, Nat.reduceSub, ↓reduceIte, Int.reduceNeg, Int.reduceToNat, Int.reducePow, hmd, hks, hQ]
    · have d1 : decide (0 ≤ k) = false := decide_eq_false h
      refine spec_C hmx p_S_l10Erase [] 55 [] ⟨Nat.le_of_ble_eq_true rfl, Nat.le_of_ble_eq_true rfl⟩ rfl rfl ?_
      intro w hP hmd hks hQ
      unfold c_S_l10Erase
      simp +decide (maxSteps := 20000000) (disch := omega) only [↓SBK, ↓SBK2, SX, Nat.reduceEqDiff, Nat.reduceAdd, Nat.reduceMul, Nat.reduceSub, ↓reduceIte, Int.reduceNeg, Int.reduceToNat, Int.reducePow, hmd, hks, hQ]
      simp +decide (maxSteps := 20000000) (disch := omega) only [↓SBK, ↓SBK2, SX, Nat.reduceEqDiff, Nat.reduceAdd, Nat.reduceMul, Nat.reduceSub, ↓reduceIte, Int.reduceNeg, Int.reduceToNat, Int.reducePow, hmd, hks, hQ, d1]
      (first | refine call_i hP (hm) (.inl ⟨rfl, fun _ hx => nomatch hx⟩) ?_ | refine callH_i hP (hm) (.inl ⟨rfl, fun _ hx => nomatch hx⟩) ?_)
      simp +decide (maxSteps := 20000000) (disch := omega) only [↓SBK, ↓SBK2, SX, Nat.reduceEqDiff, Nat.reduceAdd, Nat.reduceMul, Nat.reduceSub, ↓reduceIte, Int.reduceNeg, Int.reduceToNat, Int.reducePow, hmd, hks, hQ]
end Go.Proofs.Ytliklgcfdgdigaa.Awp

namespace Go.Proofs.Ytliklgcfdgdigaa.Awp
open Go.Proofs
set_option linter.unusedSimpArgs false
set_option linter.unusedVariables false
set_option maxRecDepth 100000
set_option maxHeartbeats 20000000

def erB (b : Block) : Block := { pages := List.replicate 8 zPage, wear := b.wear + 1, bad := b.bad }
noncomputable def eraseC (c : Chip) (k : Int) : Chip := if eraseCode c k = 0 then { blocks := c.blocks.modify k.toNat erB } else c
theorem erase_info {c : Chip} {k : Int} (h : eraseCode c k = 0) : ∃ j : Nat, k = j ∧ ∃ hj : j < c.blocks.length, (c.blocks[j]).bad = false ∧ 0 ≤ (c.blocks[j]).wear ∧ (c.blocks[j]).wear < 100000 ∧ okC c := by
  unfold eraseCode at h
  by_cases h1 : chipOk c = true
  · by_cases h2 : 0 ≤ k ∧ k < (c.blocks.length : Nat)
    · obtain ⟨j, rfl⟩ : ∃ j : Nat, k = j := ⟨k.toNat, by omega⟩
      have hj : (j : Int) < (c.blocks.length : Nat) := h2.2
      rw [may_some h1 (blk_nat hj)] at h
      have hk : okC c := by simpa [chipOk] using h1
      have hw := (inR_iff _ _ _).1 (hk.1 _ (List.getElem_mem (show j < c.blocks.length by omega))).2.1
      refine ⟨j, rfl, by omega, ?_⟩
      cases hb : (c.blocks[j]'(by omega)).bad with
      | true => rw [hb] at h; simp at h
      | false =>
        rw [hb] at h
        have e : fullE c j = decide (100000 ≤ (c.blocks[j]'(by omega)).wear) := by rw [fullE, blk_nat hj]
        rw [e] at h
        by_cases hx : 100000 ≤ (c.blocks[j]'(by omega)).wear
        · simp [hx] at h
        · exact ⟨rfl, hw.1, by omega, hk⟩
    · rw [may_none (blk_none h2)] at h; cases h
  · rw [may_bad h1] at h; cases h
theorem mod_map {α β : Type} (f : α → β) (g : β → β) (h : α → α) (l : List α) (i : Nat) (hi : i < l.length) (e : g (f l[i]) = f (h l[i])) : (l.map f).modify i g = (l.modify i h).map f := by
  apply List.ext_getElem?
  intro j
  simp only [List.getElem?_modify, List.getElem?_map]
  by_cases hj : i = j
  · subst hj
    simp [List.getElem?_eq_getElem hi, e]
  · simp [hj]
theorem sS_Erase (c : Chip) (k : Int) (hf : c.fine) (hs : c.sz < 2 ^ 40) : Spec Try.prog 89 [c.x, .int .i64 k] (.tup [(eraseC c k).o, .int .i64 (eraseCode c k)]) [.undef, .undef] := by
  have hl := chip_len hf
  have hE := sS_l10Erase c k hf
  by_cases h : eraseCode c k = 0
  · obtain ⟨j, rfl, hj, b1, b2, b3, hk⟩ := erase_info h
    have hj' : (j : Int) < (c.blocks.length : Nat) := by omega
    rw [h] at hE
    rw [eraseC, if_pos h, h]
    refine spec_C hmx p_S_Erase [] 247 [] ⟨Nat.le_of_ble_eq_true rfl, Nat.le_of_ble_eq_true rfl⟩ rfl rfl ?_
    intro w hP hmd hks hQ
    unfold c_S_Erase
    simp +decide (maxSteps := 20000000) (disch := omega) only [↓SBK, ↓SBK2, SX, Nat.reduceEqDiff, Nat.reduceAdd, Nat.reduceMul, Nat.reduceSub, ↓reduceIte, Int.reduceNeg, Int.reduceToNat, Int.reducePow, hmd, hks, hQ]
    (first | refine call_i hP (sS_l10Copy c hs) (.inl ⟨rfl, fun _ hx => nomatch hx⟩) ?_ | refine callH_i hP (sS_l10Copy c hs) (.inl ⟨rfl, fun _ hx => nomatch hx⟩) ?_)
    simp +decide (maxSteps := 20000000) (disch := omega) only [↓SBK, ↓SBK2, SX, Nat.reduceEqDiff, Nat.reduceAdd, Nat.reduceMul, Nat.reduceSub, ↓reduceIte, Int.reduceNeg, Int.reduceToNat, Int.reducePow, hmd, hks, hQ]
    (first | refine call_i hP (hE) (.inl ⟨rfl, fun _ hx => nomatch hx⟩) ?_ | refine callH_i hP (hE) (.inl ⟨rfl, fun _ hx => nomatch hx⟩) ?_)
    simp +decide (maxSteps := 20000000) (disch := omega) only [↓SBK, ↓SBK2, SX, Nat.reduceEqDiff, Nat.reduceAdd, Nat.reduceMul, Nat.reduceSub, ↓reduceIte, Int.reduceNeg, Int.reduceToNat, Int.reducePow, hmd, hks, hQ, getE hj']
    rw [mod_map Block.row _ erB c.blocks j hj rfl]
  · rw [eraseC, if_neg h]
    have d : decide (eraseCode c k = 0) = false := decide_eq_false h
    refine spec_C hmx p_S_Erase [] 247 [] ⟨Nat.le_of_ble_eq_true rfl, Nat.le_of_ble_eq_true rfl⟩ rfl rfl ?_
    intro w hP hmd hks hQ
    unfold c_S_Erase
    simp +decide (maxSteps := 20000000) (disch := omega) only [↓SBK, ↓SBK2, SX, Nat.reduceEqDiff, Nat.reduceAdd, Nat.reduceMul, Nat.reduceSub, ↓reduceIte, Int.reduceNeg, Int.reduceToNat, Int.reducePow, hmd, hks, hQ]
    (first | refine call_i hP (sS_l10Copy c hs) (.inl ⟨rfl, fun _ hx => nomatch hx⟩) ?_ | refine callH_i hP (sS_l10Copy c hs) (.inl ⟨rfl, fun _ hx => nomatch hx⟩) ?_)
    simp +decide (maxSteps := 20000000) (disch := omega) only [↓SBK, ↓SBK2, SX, Nat.reduceEqDiff, Nat.reduceAdd, Nat.reduceMul, Nat.reduceSub, ↓reduceIte, Int.reduceNeg, Int.reduceToNat, Int.reducePow, hmd, hks, hQ]
    (first | refine call_i hP (hE) (.inl ⟨rfl, fun _ hx => nomatch hx⟩) ?_ | refine callH_i hP (hE) (.inl ⟨rfl, fun _ hx => nomatch hx⟩) ?_)
    simp +decide (maxSteps := 20000000) (disch := omega) only [↓SBK, ↓SBK2, SX, Nat.reduceEqDiff, Nat.reduceAdd, Nat.reduceMul, Nat.reduceSub, ↓reduceIte, Int.reduceNeg, Int.reduceToNat, Int.reducePow, hmd, hks, hQ, d]
theorem sI_Erase (c : Chip) (k : Int) (hf : c.fine) (hs : c.sz < 2 ^ 40) : Spec Try.prog 88 [c.x, .int .i64 k] (.tup [(eraseC c k).o, .int .i64 (eraseCode c k)]) [.undef, .undef] := by
  have hl := chip_len hf
  have hc := sI_ChipOk c hf
  have hb := s_isBlock c k hs
  by_cases h1 : chipOk c = true
  · rw [h1] at hc
    by_cases h2 : 0 ≤ k ∧ k < (c.blocks.length : Nat)
    · rw [(inR_iff _ _ _).2 (by omega)] at hb
      obtain ⟨j, rfl⟩ : ∃ j : Nat, k = j := ⟨k.toNat, by omega⟩
      have hj' : (j : Int) < (c.blocks.length : Nat) := h2.2
      have hk : okC c := by simpa [chipOk] using h1
      have hw := (inR_iff _ _ _).1 (hk.1 _ (List.getElem_mem (show j < c.blocks.length by omega))).2.1
      have ec := may_some (full := fullE c j) h1 (blk_nat hj')
      have e : fullE c j = decide (100000 ≤ (c.blocks[j]'(by omega)).wear) := by rw [fullE, blk_nat hj']
      refine spec_C hmx p_I_Erase [] 55 [] ⟨Nat.le_of_ble_eq_true rfl, Nat.le_of_ble_eq_true rfl⟩ rfl rfl ?_
      intro w hP hmd hks hQ
      unfold c_I_Erase
      simp +decide (maxSteps := 20000000) (disch := omega) only [↓SBK, ↓SBK2, SX, Nat.reduceEqDiff, Nat.reduceAdd, Nat.reduceMul, Nat.reduceSub, ↓reduceIte, Int.reduceNeg, Int.reduceToNat, Int.reducePow, hmd, hks, hQ]
      (first | refine call_i hP (sI_copyChip c hs) (.inl ⟨rfl, fun _ hx => nomatch hx⟩) ?_ | refine callH_i hP (sI_copyChip c hs) (.inl ⟨rfl, fun _ hx => nomatch hx⟩) ?_)
      simp +decide (maxSteps := 20000000) (disch := omega) only [↓SBK, ↓SBK2, SX, Nat.reduceEqDiff, Nat.reduceAdd, Nat.reduceMul, Nat.reduceSub, ↓reduceIte, Int.reduceNeg, Int.reduceToNat, Int.reducePow, hmd, hks, hQ]
      (first | refine call_i hP (hc) (.inl ⟨rfl, fun _ hx => nomatch hx⟩) ?_ | refine callH_i hP (hc) (.inl ⟨rfl, fun _ hx => nomatch hx⟩) ?_)
      simp +decide (maxSteps := 20000000) (disch := omega) only [↓SBK, ↓SBK2, SX, Nat.reduceEqDiff, Nat.reduceAdd, Nat.reduceMul, Nat.reduceSub, ↓reduceIte, Int.reduceNeg, Int.reduceToNat, Int.reducePow, hmd, hks, hQ]
      (first | refine call_i hP (hb) (.inl ⟨rfl, fun _ hx => nomatch hx⟩) ?_ | refine callH_i hP (hb) (.inl ⟨rfl, fun _ hx => nomatch hx⟩) ?_)
      simp +decide (maxSteps := 20000000) (disch := omega) only [↓SBK, ↓SBK2, SX, Nat.reduceEqDiff, Nat.reduceAdd, Nat.reduceMul, Nat.reduceSub, ↓reduceIte, Int.reduceNeg, Int.reduceToNat, Int.reducePow, hmd, hks, hQ, getE hj']
      (first | with_reducible refine if_d _ ?_ ?_ | refine if_i _ ?_ ?_) <;> intro h3
      · simp +decide (maxSteps := 20000000) (disch := omega) only [↓SBK, ↓SBK2, SX, Nat.reduceEqDiff, Nat.reduceAdd, Nat.reduceMul, Nat.reduceSub, ↓reduceIte, Int.reduceNeg, Int.reduceToNat, Int.reducePow, hmd, hks, hQ]
        have e0 : eraseCode c j = 2 := by rw [eraseCode, ec, if_pos h3]
        rw [eraseC, if_neg (by rw [e0]; decide), e0]
      · simp +decide (maxSteps := 20000000) (disch := omega) only [↓SBK, ↓SBK2, SX, Nat.reduceEqDiff, Nat.reduceAdd, Nat.reduceMul, Nat.reduceSub, ↓reduceIte, Int.reduceNeg, Int.reduceToNat, Int.reducePow, hmd, hks, hQ, getE hj']
        (first | with_reducible refine if_d _ ?_ ?_ | refine if_i _ ?_ ?_) <;> intro h4
        · simp +decide (maxSteps := 20000000) (disch := omega) only [↓SBK, ↓SBK2, SX, Nat.reduceEqDiff, Nat.reduceAdd, Nat.reduceMul, Nat.reduceSub, ↓reduceIte, Int.reduceNeg, Int.reduceToNat, Int.reducePow, hmd, hks, hQ]
          have e0 : eraseCode c j = 5 := by rw [eraseCode, ec, if_neg (by simp [h3]), e, if_pos (by simp; omega)]
          rw [eraseC, if_neg (by rw [e0]; decide), e0]
        · simp +decide (maxSteps := 20000000) (disch := omega) only [↓SBK, ↓SBK2, SX, Nat.reduceEqDiff, Nat.reduceAdd, Nat.reduceMul, Nat.reduceSub, ↓reduceIte, Int.reduceNeg, Int.reduceToNat, Int.reducePow, hmd, hks, hQ, getE hj']
          have e0 : eraseCode c j = 0 := by rw [eraseCode, ec, if_neg (by simp [h3]), e, if_neg (by simp; omega)]
          rw [eraseC, if_pos e0, e0]
          simp only [Int.toNat_natCast]
          rw [mod_map Block.row _ erB c.blocks j (by omega) rfl]
    · have hn : inR k 0 ((c.blocks.length : Nat) - 1) = false := by
        cases hx : inR k 0 ((c.blocks.length : Nat) - 1) with
        | false => rfl
        | true => have := (inR_iff _ _ _).1 hx; omega
      rw [hn] at hb
      have e0 : eraseCode c k = 1 := may_none (blk_none h2)
      rw [eraseC, if_neg (by rw [e0]; decide), e0]
      refine spec_C hmx p_I_Erase [] 55 [] ⟨Nat.le_of_ble_eq_true rfl, Nat.le_of_ble_eq_true rfl⟩ rfl rfl ?_
      intro w hP hmd hks hQ
      unfold c_I_Erase
      simp +decide (maxSteps := 20000000) (disch := omega) only [↓SBK, ↓SBK2, SX, Nat.reduceEqDiff, Nat.reduceAdd, Nat.reduceMul, Nat.reduceSub, ↓reduceIte, Int.reduceNeg, Int.reduceToNat, Int.reducePow, hmd, hks, hQ]
      (first | refine call_i hP (sI_copyChip c hs) (.inl ⟨rfl, fun _ hx => nomatch hx⟩) ?_ | refine callH_i hP (sI_copyChip c hs) (.inl ⟨rfl, fun _ hx => nomatch hx⟩) ?_)
      simp +decide (maxSteps := 20000000) (disch := omega) only [↓SBK, ↓SBK2, SX, Nat.reduceEqDiff, Nat.reduceAdd, Nat.reduceMul, Nat.reduceSub, ↓reduceIte, Int.reduceNeg, Int.reduceToNat, Int.reducePow, hmd, hks, hQ]
      (first | refine call_i hP (hc) (.inl ⟨rfl, fun _ hx => nomatch hx⟩) ?_ | refine callH_i hP (hc) (.inl ⟨rfl, fun _ hx => nomatch hx⟩) ?_)
      simp +decide (maxSteps := 20000000) (disch := omega) only [↓SBK, ↓SBK2, SX, Nat.reduceEqDiff, Nat.reduceAdd, Nat.reduceMul, Nat.reduceSub, ↓reduceIte, Int.reduceNeg, Int.reduceToNat, Int.reducePow, hmd, hks, hQ]
      (first | refine call_i hP (hb) (.inl ⟨rfl, fun _ hx => nomatch hx⟩) ?_ | refine callH_i hP (hb) (.inl ⟨rfl, fun _ hx => nomatch hx⟩) ?_)
      simp +decide (maxSteps := 20000000) (disch := omega) only [↓SBK, ↓SBK2, SX, Nat.reduceEqDiff, Nat.reduceAdd, Nat.reduceMul, Nat.reduceSub, ↓reduceIte, Int.reduceNeg, Int.reduceToNat, Int.reducePow, hmd, hks, hQ]
  · have h1' : chipOk c = false := by simpa using h1
    rw [h1'] at hc
    have e0 : eraseCode c k = 1 := may_bad h1
    rw [eraseC, if_neg (by rw [e0]; decide), e0]
    refine spec_C hmx p_I_Erase [] 55 [] ⟨Nat.le_of_ble_eq_true rfl, Nat.le_of_ble_eq_true rfl⟩ rfl rfl ?_
    intro w hP hmd hks hQ
    unfold c_I_Erase
    simp +decide (maxSteps := 20000000) (disch := omega) only [↓SBK, ↓SBK2, SX, Nat.reduceEqDiff, Nat.reduceAdd, Nat.reduceMul, Nat.reduceSub, ↓reduceIte, Int.reduceNeg, Int.reduceToNat, Int.reducePow, hmd, hks, hQ]
    (first | refine call_i hP (sI_copyChip c hs) (.inl ⟨rfl, fun _ hx => nomatch hx⟩) ?_ | refine callH_i hP (sI_copyChip c hs) (.inl ⟨rfl, fun _ hx => nomatch hx⟩) ?_)
    simp +decide (maxSteps := 20000000) (disch := omega) only [↓SBK, ↓SBK2, SX, Nat.reduceEqDiff, Nat.reduceAdd, Nat.reduceMul, Nat.reduceSub, ↓reduceIte, Int.reduceNeg, Int.reduceToNat, Int.reducePow, hmd, hks, hQ]
    (first | refine call_i hP (hc) (.inl ⟨rfl, fun _ hx => nomatch hx⟩) ?_ | refine callH_i hP (hc) (.inl ⟨rfl, fun _ hx => nomatch hx⟩) ?_)
    simp +decide (maxSteps := 20000000) (disch := omega) only [↓SBK, ↓SBK2, SX, Nat.reduceEqDiff, Nat.reduceAdd, Nat.reduceMul, Nat.reduceSub, ↓reduceIte, Int.reduceNeg, Int.reduceToNat, Int.reducePow, hmd, hks, hQ]
end Go.Proofs.Ytliklgcfdgdigaa.Awp

namespace Go.Proofs.Ytliklgcfdgdigaa.Awp
open Go.Proofs
set_option linter.unusedSimpArgs false
set_option linter.unusedVariables false
set_option maxRecDepth 100000
set_option maxHeartbeats 20000000

/-! ### draws -/
/-- a cursor over the code -/
def cur (v : Value) (b : Bytes) (i : Nat) (h : Int) : AV := .box [.extv v 1 (bytesR b), .int .i64 i, .int .i64 h]
theorem and255 (a : Int) : ∃ m : Nat, m < 256 ∧ IntKind.i64.wrap ((BitVec.ofInt IntKind.i64.bits a &&& BitVec.ofInt IntKind.i64.bits 255).toNat : Int) = (m : Int) := by
  refine ⟨(BitVec.ofInt IntKind.i64.bits a &&& BitVec.ofInt IntKind.i64.bits 255).toNat, ?_, ?_⟩
  · rw [BitVec.toNat_and]
    have : (BitVec.ofInt IntKind.i64.bits 255).toNat = 255 := by decide
    rw [this]
    exact Nat.lt_of_le_of_lt Nat.and_le_right (by decide)
  · rw [wrap64]
    rw [BitVec.toNat_and]
    have : (BitVec.ofInt IntKind.i64.bits 255).toNat = 255 := by decide
    rw [this]
    exact Nat.lt_of_le_of_lt Nat.and_le_right (by decide)
theorem s_l1New (v : Value) (b : Bytes) (hl : b.length < 2 ^ 48) : ∃ h, Spec Try.prog 141 [.extv v 1 (bytesR b)] (cur v b 0 h) [.undef] := by
  have key : ∃ ret outs, (∃ h, ret = cur v b 0 h ∧ outs = [.undef]) ∧ Spec Try.prog 141 [.extv v 1 (bytesR b)] ret outs := by
    refine specEx_C hmx p_S_l1New [] 29 [] ⟨Nat.le_of_ble_eq_true rfl, Nat.le_of_ble_eq_true rfl⟩ rfl ?_
    intro w hP hmd hks hQ
    unfold c_S_l1New
    simp +decide (maxSteps := 20000000) (disch := omega) only [↓SBK, ↓SBK2, SX, Nat.reduceEqDiff, Nat.reduceAdd, Nat.reduceMul, Nat.reduceSub, ↓reduceIte, Int.reduceNeg, Int.reduceToNat, Int.reducePow, hmd, hks, hQ]
    refine LH_D [] ?_
    simp +decide (maxSteps := 20000000) (disch := omega) only [↓SBK, ↓SBK2, SX, Nat.reduceEqDiff, Nat.reduceAdd, Nat.reduceMul, Nat.reduceSub, ↓reduceIte, Int.reduceNeg, Int.reduceToNat, Int.reducePow, hmd, hks, hQ]
    refine loop_d [] (fun s : Nat × Int => [(4, .int .i64 (s.1 : Nat)), (3, .int .i64 s.2)]) (fun s => s.1 ≤ b.length) (fun s => b.length - s.1) ((0, 351351 + b.length)) hP hmd hks (rfl) (by simp) ?_
    rintro ⟨i, h⟩ hi w1 hP1 hmd1 hks1 hQ1
    simp +decide (maxSteps := 20000000) (disch := omega) only [↓SBK, ↓SBK2, SX, Nat.reduceEqDiff, Nat.reduceAdd, Nat.reduceMul, Nat.reduceSub, ↓reduceIte, Int.reduceNeg, Int.reduceToNat, Int.reducePow, hmd, hks, hQ, hmd1, hks1, hQ1]
    simp only at hi
    (first | with_reducible refine gd_d _ ?_ ?_ | refine gd_i _ ?_ ?_) <;> intro h1
    · simp +decide (maxSteps := 20000000) (disch := omega) only [↓SBK, ↓SBK2, SX, Nat.reduceEqDiff, Nat.reduceAdd, Nat.reduceMul, Nat.reduceSub, ↓reduceIte, Int.reduceNeg, Int.reduceToNat, Int.reducePow, hmd, hks, hQ, hmd1, hks1, hQ1, h1]
      (first | with_reducible refine if_d _ ?_ ?_ | refine if_i _ ?_ ?_) <;> intro h2
      · simp +decide (maxSteps := 20000000) (disch := omega) only [↓SBK, ↓SBK2, SX, Nat.reduceEqDiff, Nat.reduceAdd, Nat.reduceMul, Nat.reduceSub, ↓reduceIte, Int.reduceNeg, Int.reduceToNat, Int.reducePow, hmd, hks, hQ, hmd1, hks1, hQ1, getE h1]
        exact ⟨(i + 1, _), rfl, by simp only; omega, by simp only; omega⟩
      · simp +decide (maxSteps := 20000000) (disch := omega) only [↓SBK, ↓SBK2, SX, Nat.reduceEqDiff, Nat.reduceAdd, Nat.reduceMul, Nat.reduceSub, ↓reduceIte, Int.reduceNeg, Int.reduceToNat, Int.reducePow, hmd, hks, hQ, hmd1, hks1, hQ1]
        exact ⟨_, rfl⟩
    · simp +decide (maxSteps := 20000000) (disch := omega) only [↓SBK, ↓SBK2, SX, Nat.reduceEqDiff, Nat.reduceAdd, Nat.reduceMul, Nat.reduceSub, ↓reduceIte, Int.reduceNeg, Int.reduceToNat, Int.reducePow, hmd, hks, hQ, hmd1, hks1, hQ1, h1]
      exact ⟨_, rfl⟩
  obtain ⟨_, _, ⟨h, rfl, rfl⟩, hS⟩ := key
  exact ⟨h, hS⟩
theorem s_l1Byte (v : Value) (b : Bytes) (i : Nat) (h : Int) (hl : b.length < 2 ^ 48) (hi : i ≤ b.length) : ∃ (x i' : Nat) (h' : Int), x < 256 ∧ i' ≤ b.length ∧ Spec Try.prog 179 [cur v b i h] (.int .i64 x) [cur v b i' h'] := by
  have key : ∃ ret outs, (∃ (x i' : Nat) (h' : Int), x < 256 ∧ i' ≤ b.length ∧ ret = .int .i64 x ∧ outs = [cur v b i' h']) ∧ Spec Try.prog 179 [cur v b i h] ret outs := by
    by_cases h1 : (i : Int) < (b.length : Nat)
    · have d1 : decide ((i : Int) < (b.length : Nat)) = true := decide_eq_true h1
      unfold cur
      refine specEx_C hmx p_S_l1Byte [] 13 [true] ⟨Nat.le_of_ble_eq_true rfl, Nat.le_of_ble_eq_true rfl⟩ rfl ?_
      intro w hP hmd hks hQ
      unfold c_S_l1Byte
      simp +decide (maxSteps := 20000000) (disch := omega) only [↓SBK, ↓SBK2, SX, Nat.reduceEqDiff, Nat.reduceAdd, Nat.reduceMul, Nat.reduceSub, ↓reduceIte, Int.reduceNeg, Int.reduceToNat, Int.reducePow, hmd, hks, hQ]
      simp +decide (maxSteps := 20000000) (disch := omega) only [↓SBK, ↓SBK2, SX, Nat.reduceEqDiff, Nat.reduceAdd, Nat.reduceMul, Nat.reduceSub, ↓reduceIte, Int.reduceNeg, Int.reduceToNat, Int.reducePow, hmd, hks, hQ, d1, getE h1]
      exact ⟨_, i + 1, _, (and255 _).choose_spec.1, by omega, congrArg (AV.int .i64) (and255 _).choose_spec.2, rfl⟩
    · have d1 : decide ((i : Int) < (b.length : Nat)) = false := decide_eq_false h1
      unfold cur
      refine specEx_C hmx p_S_l1Byte [] 13 [true] ⟨Nat.le_of_ble_eq_true rfl, Nat.le_of_ble_eq_true rfl⟩ rfl ?_
      intro w hP hmd hks hQ
      unfold c_S_l1Byte
      simp +decide (maxSteps := 20000000) (disch := omega) only [↓SBK, ↓SBK2, SX, Nat.reduceEqDiff, Nat.reduceAdd, Nat.reduceMul, Nat.reduceSub, ↓reduceIte, Int.reduceNeg, Int.reduceToNat, Int.reducePow, hmd, hks, hQ]
      simp +decide (maxSteps := 20000000) (disch := omega) only [↓SBK, ↓SBK2, SX, Nat.reduceEqDiff, Nat.reduceAdd, Nat.reduceMul, Nat.reduceSub, ↓reduceIte, Int.reduceNeg, Int.reduceToNat, Int.reducePow, hmd, hks, hQ, d1]
      exact ⟨_, i, _, (and255 _).choose_spec.1, hi, congrArg (AV.int .i64) (and255 _).choose_spec.2, rfl⟩
  obtain ⟨_, _, ⟨x, i', h', hx, hi', rfl, rfl⟩, hS⟩ := key
  exact ⟨x, i', h', hx, hi', hS⟩
theorem tmod_n (a b : Nat) : ((a : Int)).tmod (b : Int) = ((a % b : Nat) : Int) := rfl
/-- 0..n-1; 0 where n is not above 0 -/
def below (x : Nat) (n : Int) : Prop := if 0 < n then (x : Int) < n else x = 0
theorem s_l1Below (v : Value) (b : Bytes) (i : Nat) (h : Int) (n : Int) (hl : b.length < 2 ^ 48) (hi : i ≤ b.length) (hn : n < 2 ^ 62) : ∃ (x i' : Nat) (h' : Int), below x n ∧ i' ≤ b.length ∧
    Spec Try.prog 148 [cur v b i h, .int .i64 n] (.int .i64 x) [cur v b i' h', .undef] := by
  by_cases h0 : n ≤ 0
  · have d0 : decide (n ≤ 0) = true := decide_eq_true h0
    refine ⟨0, i, h, by rw [below, if_neg (by omega)], hi, ?_⟩
    unfold cur
    refine spec_C hmx p_S_l1Below [(179, [.l], [])] 243 [true, false] ⟨Nat.le_of_ble_eq_true rfl, Nat.le_of_ble_eq_true rfl⟩ rfl rfl ?_
    intro w hP hmd hks hQ
    unfold c_S_l1Below
    simp +decide (maxSteps := 20000000) (disch := omega) only [↓SBK, ↓SBK2, SX, Nat.reduceEqDiff, Nat.reduceAdd, Nat.reduceMul, Nat.reduceSub, ↓reduceIte, Int.reduceNeg, Int.reduceToNat, Int.reducePow, hmd, hks, hQ]
    simp +decide (maxSteps := 20000000) (disch := omega) only [↓SBK, ↓SBK2, SX, Nat.reduceEqDiff, Nat.reduceAdd, Nat.reduceMul, Nat.reduceSub, ↓reduceIte, Int.reduceNeg, Int.reduceToNat, Int.reducePow, hmd, hks, hQ, d0]
  · have d0 : decide (n ≤ 0) = false := decide_eq_false h0
    obtain ⟨m, rfl⟩ : ∃ m : Nat, n = m := ⟨n.toNat, by omega⟩
    have hm : ((m : Nat) : Int) ≠ 0 := by omega
    obtain ⟨x, i1, h1, hx, hi1, k1⟩ := s_l1Byte v b i h hl hi
    by_cases h2 : (m : Int) ≤ 256
    · have d2 : decide ((m : Int) ≤ 256) = true := decide_eq_true h2
      refine ⟨x % m, i1, h1, ?_, hi1, ?_⟩
      · rw [below, if_pos (by omega)]
        have := Nat.mod_lt x (show m > 0 by omega)
        omega
      unfold cur at *
      refine spec_C hmx p_S_l1Below [(179, [.l], [])] 243 [true, false] ⟨Nat.le_of_ble_eq_true rfl, Nat.le_of_ble_eq_true rfl⟩ rfl rfl ?_
      intro w hP hmd hks hQ
      unfold c_S_l1Below
      simp +decide (maxSteps := 20000000) (disch := omega) only [↓SBK, ↓SBK2, SX, Nat.reduceEqDiff, Nat.reduceAdd, Nat.reduceMul, Nat.reduceSub, ↓reduceIte, Int.reduceNeg, Int.reduceToNat, Int.reducePow, hmd, hks, hQ]
      simp +decide (maxSteps := 20000000) (disch := omega) only [↓SBK, ↓SBK2, SX, Nat.reduceEqDiff, Nat.reduceAdd, Nat.reduceMul, Nat.reduceSub, ↓reduceIte, Int.reduceNeg, Int.reduceToNat, Int.reducePow, hmd, hks, hQ, d0, d2]
      (first | refine call_i hP (k1) (.inl ⟨rfl, fun _ hx => hx⟩) ?_ | refine callH_i hP (k1) (.inl ⟨rfl, fun _ hx => hx⟩) ?_)
      simp +decide (maxSteps := 20000000) (disch := omega) only [↓SBK, ↓SBK2, SX, Nat.reduceEqDiff, Nat.reduceAdd, Nat.reduceMul, Nat.reduceSub, ↓reduceIte, Int.reduceNeg, Int.reduceToNat, Int.reducePow, hmd, hks, hQ, hm, tmod_n]
    · have d2 : decide ((m : Int) ≤ 256) = false := decide_eq_false h2
      obtain ⟨y, i2, h2, hy, hi2, k2⟩ := s_l1Byte v b i1 h1 hl hi1
      obtain ⟨z, i3, h3, hz, hi3, k3⟩ := s_l1Byte v b i2 h2 hl hi2
      refine ⟨(x * 65536 + y * 256 + z) % m, i3, h3, ?_, hi3, ?_⟩
      · rw [below, if_pos (by omega)]
        have := Nat.mod_lt (x * 65536 + y * 256 + z) (show m > 0 by omega)
        omega
      have e : ((x : Int) * 65536 + (y : Int) * 256 + (z : Int)) = ((x * 65536 + y * 256 + z : Nat) : Int) := by omega
      have w1 : IntKind.i64.wrap ((x : Int) * 65536) = (x : Int) * 65536 := by have := wrap64 (n := x * 65536) (by omega); simpa using this
      have w2 : IntKind.i64.wrap ((y : Int) * 256) = (y : Int) * 256 := by have := wrap64 (n := y * 256) (by omega); simpa using this
      unfold cur at *
      refine spec_C hmx p_S_l1Below [(179, [.l], [])] 243 [true, false] ⟨Nat.le_of_ble_eq_true rfl, Nat.le_of_ble_eq_true rfl⟩ rfl rfl ?_
      intro w hP hmd hks hQ
      unfold c_S_l1Below
      simp +decide (maxSteps := 20000000) (disch := omega) only [↓SBK, ↓SBK2, SX, Nat.reduceEqDiff, Nat.reduceAdd, Nat.reduceMul, Nat.reduceSub, ↓reduceIte, Int.reduceNeg, Int.reduceToNat, Int.reducePow, hmd, hks, hQ]
      simp +decide (maxSteps := 20000000) (disch := omega) only [↓SBK, ↓SBK2, SX, Nat.reduceEqDiff, Nat.reduceAdd, Nat.reduceMul, Nat.reduceSub, ↓reduceIte, Int.reduceNeg, Int.reduceToNat, Int.reducePow, hmd, hks, hQ, d0, d2]
      (first | refine call_i hP (k1) (.inl ⟨rfl, fun _ hx => hx⟩) ?_ | refine callH_i hP (k1) (.inl ⟨rfl, fun _ hx => hx⟩) ?_)
      simp +decide (maxSteps := 20000000) (disch := omega) only [↓SBK, ↓SBK2, SX, Nat.reduceEqDiff, Nat.reduceAdd, Nat.reduceMul, Nat.reduceSub, ↓reduceIte, Int.reduceNeg, Int.reduceToNat, Int.reducePow, hmd, hks, hQ]
      (first | refine call_i hP (k2) (.inl ⟨rfl, fun _ hx => hx⟩) ?_ | refine callH_i hP (k2) (.inl ⟨rfl, fun _ hx => hx⟩) ?_)
      simp +decide (maxSteps := 20000000) (disch := omega) only [↓SBK, ↓SBK2, SX, Nat.reduceEqDiff, Nat.reduceAdd, Nat.reduceMul, Nat.reduceSub, ↓reduceIte, Int.reduceNeg, Int.reduceToNat, Int.reducePow, hmd, hks, hQ]
      (first | refine call_i hP (k3) (.inl ⟨rfl, fun _ hx => hx⟩) ?_ | refine callH_i hP (k3) (.inl ⟨rfl, fun _ hx => hx⟩) ?_)
      simp +decide (maxSteps := 20000000) (disch := omega) only [↓SBK, ↓SBK2, SX, Nat.reduceEqDiff, Nat.reduceAdd, Nat.reduceMul, Nat.reduceSub, ↓reduceIte, Int.reduceNeg, Int.reduceToNat, Int.reducePow, hmd, hks, hQ, hm, e, tmod_n, w1, w2]
theorem s_l1Once (v : Value) (b : Bytes) (i : Nat) (h : Int) (n : Int) (hl : b.length < 2 ^ 48) (hi : i ≤ b.length) (hn : n < 2 ^ 62) : ∃ (t : Bool) (i' : Nat) (h' : Int), i' ≤ b.length ∧
    Spec Try.prog 154 [cur v b i h, .int .i64 n] (.bool t) [cur v b i' h', .undef] := by
  obtain ⟨x, i1, h1, hx, hi1, k1⟩ := s_l1Below v b i h n hl hi hn
  refine ⟨decide ((x : Int) = 0), i1, h1, hi1, ?_⟩
  unfold cur at *
  refine spec_C hmx p_S_l1Once [(148, [.l, .b], [])] 19 [true, false] ⟨Nat.le_of_ble_eq_true rfl, Nat.le_of_ble_eq_true rfl⟩ rfl rfl ?_
  intro w hP hmd hks hQ
  unfold c_S_l1Once
  simp +decide (maxSteps := 20000000) (disch := omega) only [↓SBK, ↓SBK2, SX, Nat.reduceEqDiff, Nat.reduceAdd, Nat.reduceMul, Nat.reduceSub, ↓reduceIte, Int.reduceNeg, Int.reduceToNat, Int.reducePow, hmd, hks, hQ]
  (first | refine call_i hP (k1) (.inl ⟨rfl, fun _ hx => hx⟩) ?_ | refine callH_i hP (k1) (.inl ⟨rfl, fun _ hx => hx⟩) ?_)
  simp +decide (maxSteps := 20000000) (disch := omega) only [↓SBK, ↓SBK2, SX, Nat.reduceEqDiff, Nat.reduceAdd, Nat.reduceMul, Nat.reduceSub, ↓reduceIte, Int.reduceNeg, Int.reduceToNat, Int.reducePow, hmd, hks, hQ]
def intR (l : List Int) : List (List TV) := l.map fun v => [TV.int .i64 v]
theorem intR_len (l : List Int) : (intR l).length = l.length := by simp [intR]
theorem intR_get (l : List Int) (k : Nat) : (intR l)[k]? = (l[k]?).map fun v => [TV.int .i64 v] := by simp [intR]
theorem s_l1Int (v : Value) (b : Bytes) (i : Nat) (h : Int) (l : List Int) (hl : b.length < 2 ^ 48) (hi : i ≤ b.length) (h0 : l ≠ []) (hn : l.length < 2 ^ 40) : ∃ (r : Int) (i' : Nat) (h' : Int), r ∈ l ∧ i' ≤ b.length ∧
    Spec Try.prog 145 [cur v b i h, .ext 1 (intR l)] (.int .i64 r) [cur v b i' h', .undef] := by
  obtain ⟨x, i1, h1, hx, hi1, k1⟩ := s_l1Below v b i h l.length hl hi (by omega)
  have hp : 0 < l.length := List.length_pos_iff.2 h0
  have hx' : (x : Int) < (l.length : Nat) := by rw [below, if_pos (by omega)] at hx; exact hx
  refine ⟨l[x]'(by omega), i1, h1, List.getElem_mem _, hi1, ?_⟩
  unfold cur at *
  refine spec_C hmx p_S_l1Int [(148, [.l, .b], [])] 19 [true, false] ⟨Nat.le_of_ble_eq_true rfl, Nat.le_of_ble_eq_true rfl⟩ rfl rfl ?_
  intro w hP hmd hks hQ
  unfold c_S_l1Int
  simp +decide (maxSteps := 20000000) (disch := omega) only [↓SBK, ↓SBK2, SX, Nat.reduceEqDiff, Nat.reduceAdd, Nat.reduceMul, Nat.reduceSub, ↓reduceIte, Int.reduceNeg, Int.reduceToNat, Int.reducePow, hmd, hks, hQ]
  simp +decide (maxSteps := 20000000) (disch := omega) only [↓SBK, ↓SBK2, SX, Nat.reduceEqDiff, Nat.reduceAdd, Nat.reduceMul, Nat.reduceSub, ↓reduceIte, Int.reduceNeg, Int.reduceToNat, Int.reducePow, hmd, hks, hQ, intR_len]
  (first | refine call_i hP (k1) (.inl ⟨rfl, fun _ hx => hx⟩) ?_ | refine callH_i hP (k1) (.inl ⟨rfl, fun _ hx => hx⟩) ?_)
  simp +decide (maxSteps := 20000000) (disch := omega) only [↓SBK, ↓SBK2, SX, Nat.reduceEqDiff, Nat.reduceAdd, Nat.reduceMul, Nat.reduceSub, ↓reduceIte, Int.reduceNeg, Int.reduceToNat, Int.reducePow, hmd, hks, hQ, intR_len, intR_get, getE hx']
theorem s_l1Bytes (v : Value) (b : Bytes) (i : Nat) (h : Int) (n : Int) (hl : b.length < 2 ^ 48) (hi : i ≤ b.length) (hn : n < 2 ^ 40) : ∃ (x : Bytes) (i' : Nat) (h' : Int), x.length = n.toNat ∧ i' ≤ b.length ∧
    Spec Try.prog 182 [cur v b i h, .int .i64 n] (.own 1 (bytesR x)) [cur v b i' h', .undef] := by
  have key : ∃ ret outs, (∃ (x : Bytes) (i' : Nat) (h' : Int), x.length = n.toNat ∧ i' ≤ b.length ∧ ret = .own 1 (bytesR x) ∧ outs = [cur v b i' h', .undef]) ∧ Spec Try.prog 182 [cur v b i h, .int .i64 n] ret outs := by
    unfold cur
    refine specEx_C hmx p_S_l1Bytes [(179, [.l], [])] 115 [true, false] ⟨Nat.le_of_ble_eq_true rfl, Nat.le_of_ble_eq_true rfl⟩ rfl ?_
    intro w hP hmd hks hQ
    unfold c_S_l1Bytes
    simp +decide (maxSteps := 20000000) (disch := omega) only [↓SBK, ↓SBK2, SX, Nat.reduceEqDiff, Nat.reduceAdd, Nat.reduceMul, Nat.reduceSub, ↓reduceIte, Int.reduceNeg, Int.reduceToNat, Int.reducePow, hmd, hks, hQ]
    refine LH_D [] ?_
    simp +decide (maxSteps := 20000000) (disch := omega) only [↓SBK, ↓SBK2, SX, Nat.reduceEqDiff, Nat.reduceAdd, Nat.reduceMul, Nat.reduceSub, ↓reduceIte, Int.reduceNeg, Int.reduceToNat, Int.reducePow, hmd, hks, hQ]
    refine loop_d [] (fun s : Bytes × Nat × Int => [(1000, .box [.extv v 1 (bytesR b), .int .i64 (s.2.1 : Nat), .int .i64 s.2.2]), (5, .own 1 (bytesR s.1)), (6, .int .i64 (s.1.length : Nat))]) (fun s => s.1.length ≤ n.toNat ∧ s.2.1 ≤ b.length) (fun s => n.toNat - s.1.length) (([], i, h)) hP hmd hks (by simp +decide (maxSteps := 20000000) (disch := omega) only [↓SBK, ↓SBK2, SX, Nat.reduceEqDiff, Nat.reduceAdd, Nat.reduceMul, Nat.reduceSub, ↓reduceIte, Int.reduceNeg, Int.reduceToNat, Int.reducePow, hmd, hks, hQ]; rfl) (⟨by simp, hi⟩) ?_
    rintro ⟨x, j, g⟩ ⟨hx, hj⟩ w1 hP1 hmd1 hks1 hQ1
    simp +decide (maxSteps := 20000000) (disch := omega) only [↓SBK, ↓SBK2, SX, Nat.reduceEqDiff, Nat.reduceAdd, Nat.reduceMul, Nat.reduceSub, ↓reduceIte, Int.reduceNeg, Int.reduceToNat, Int.reducePow, hmd, hks, hQ, hmd1, hks1, hQ1]
    simp only at hx hj
    (first | with_reducible refine if_d _ ?_ ?_ | refine if_i _ ?_ ?_) <;> intro h1
    · obtain ⟨y, j1, g1, hy, hj1, k1⟩ := s_l1Byte v b j g hl hj
      unfold cur at k1
      simp +decide (maxSteps := 20000000) (disch := omega) only [↓SBK, ↓SBK2, SX, Nat.reduceEqDiff, Nat.reduceAdd, Nat.reduceMul, Nat.reduceSub, ↓reduceIte, Int.reduceNeg, Int.reduceToNat, Int.reducePow, hmd, hks, hQ, hmd1, hks1, hQ1]
      (first | refine call_i hP1 (k1) (.inl ⟨rfl, fun _ hx => hx⟩) ?_ | refine callH_i hP1 (k1) (.inl ⟨rfl, fun _ hx => hx⟩) ?_)
      simp +decide (maxSteps := 20000000) (disch := omega) only [↓SBK, ↓SBK2, SX, Nat.reduceEqDiff, Nat.reduceAdd, Nat.reduceMul, Nat.reduceSub, ↓reduceIte, Int.reduceNeg, Int.reduceToNat, Int.reducePow, hmd, hks, hQ, hmd1, hks1, hQ1]
      rw [bytesR_snoc _ _ (by omega)]
      exact ⟨(x ++ [UInt8.ofNat (y : Int).toNat], j1, g1), by simp, ⟨by simp; omega, hj1⟩, by simp; omega⟩
    · simp +decide (maxSteps := 20000000) (disch := omega) only [↓SBK, ↓SBK2, SX, Nat.reduceEqDiff, Nat.reduceAdd, Nat.reduceMul, Nat.reduceSub, ↓reduceIte, Int.reduceNeg, Int.reduceToNat, Int.reducePow, hmd, hks, hQ, hmd1, hks1, hQ1]
      exact ⟨x, j, g, by omega, hj, rfl, rfl⟩
  obtain ⟨_, _, ⟨x, i', h', hx, hi', rfl, rfl⟩, hS⟩ := key
  exact ⟨x, i', h', hx, hi', hS⟩
theorem s_l1Some (v : Value) (b : Bytes) (i : Nat) (h : Int) (hl : b.length < 2 ^ 48) (hi : i ≤ b.length) : ∃ (x : Bytes) (i' : Nat) (h' : Int), x.length ≤ 9 ∧ i' ≤ b.length ∧
    Spec Try.prog 153 [cur v b i h] (.own 1 (bytesR x)) [cur v b i' h'] := by
  obtain ⟨r, i1, h1, hv, hi1, k1⟩ := s_l1Int v b i h [0, 1, 2, 5, 9] hl hi (by simp) (by simp)
  have hv' : 0 ≤ r ∧ r ≤ 9 := by simp at hv; omega
  obtain ⟨x, i2, h2, hx, hi2, k2⟩ := s_l1Bytes v b i1 h1 r hl hi1 (by omega)
  refine ⟨x, i2, h2, by omega, hi2, ?_⟩
  unfold cur at *
  simp only [intR, List.map_cons, List.map_nil] at k1
  refine spec_C hmx p_S_l1Some [(145, [.l, .b], []), (182, [.l, .b], [])] 5 [true] ⟨Nat.le_of_ble_eq_true rfl, Nat.le_of_ble_eq_true rfl⟩ rfl rfl ?_
  intro w hP hmd hks hQ
  unfold c_S_l1Some
  simp +decide (maxSteps := 20000000) (disch := omega) only [↓SBK, ↓SBK2, SX, Nat.reduceEqDiff, Nat.reduceAdd, Nat.reduceMul, Nat.reduceSub, ↓reduceIte, Int.reduceNeg, Int.reduceToNat, Int.reducePow, hmd, hks, hQ]
  (first | refine call_i hP (k1) (.inl ⟨rfl, fun _ hx => hx⟩) ?_ | refine callH_i hP (k1) (.inl ⟨rfl, fun _ hx => hx⟩) ?_)
  simp +decide (maxSteps := 20000000) (disch := omega) only [↓SBK, ↓SBK2, SX, Nat.reduceEqDiff, Nat.reduceAdd, Nat.reduceMul, Nat.reduceSub, ↓reduceIte, Int.reduceNeg, Int.reduceToNat, Int.reducePow, hmd, hks, hQ]
  (first | refine call_i hP (k2) (.inl ⟨rfl, fun _ hx => hx⟩) ?_ | refine callH_i hP (k2) (.inl ⟨rfl, fun _ hx => hx⟩) ?_)
  simp +decide (maxSteps := 20000000) (disch := omega) only [↓SBK, ↓SBK2, SX, Nat.reduceEqDiff, Nat.reduceAdd, Nat.reduceMul, Nat.reduceSub, ↓reduceIte, Int.reduceNeg, Int.reduceToNat, Int.reducePow, hmd, hks, hQ]
theorem s_big (b : Bytes) (hl : b.length < 2 ^ 48) : Spec Try.prog 68 [.ext 1 (bytesR b)] (.bool (decide ((1048576 : Int) < (b.length : Nat)))) [.undef] := by
  refine spec_C hmx p_L_big [] 5 [] ⟨Nat.le_of_ble_eq_true rfl, Nat.le_of_ble_eq_true rfl⟩ rfl rfl ?_
  intro w hP hmd hks hQ
  unfold c_L_big
  simp +decide (maxSteps := 20000000) (disch := omega) only [↓SBK, ↓SBK2, SX, Nat.reduceEqDiff, Nat.reduceAdd, Nat.reduceMul, Nat.reduceSub, ↓reduceIte, Int.reduceNeg, Int.reduceToNat, Int.reducePow, hmd, hks, hQ]
end Go.Proofs.Ytliklgcfdgdigaa.Awp

namespace Go.Proofs.Ytliklgcfdgdigaa.Awp
open Go.Proofs
set_option linter.unusedSimpArgs false
set_option linter.unusedVariables false
set_option maxRecDepth 100000
set_option maxHeartbeats 20000000

/-! ### faults -/
def prevF (l : List Fault) : Nat → Bool
  | 0 => true
  | m + 1 => match l[m]?, l[m + 1]? with
    | some q, some f => decide (q.at' < f.at')
    | _, _ => true
def faultOk (l : List Fault) (i : Nat) : Bool := match l[i]? with
  | some f => inR f.at' 0 100000 && (inR f.kind 1 2 && (inR f.keep 0 400 && prevF l i))
  | none => true
def faultsIn (l : List Fault) : Bool := (List.range l.length).all (faultOk l)
def faultsOk (l : List Fault) : Bool := faultsIn l && decide ((l.length : Int) ≤ 20)
theorem faultOk_at {l : List Fault} {i : Nat} (h : i < l.length) : faultOk l i = (inR l[i].at' 0 100000 && (inR l[i].kind 1 2 && (inR l[i].keep 0 400 && prevF l i))) := by
  rw [faultOk, List.getElem?_eq_getElem h]
theorem prevF_at {l : List Fault} {m : Nat} (h : m + 1 < l.length) : prevF l (m + 1) = decide (l[m].at' < l[m + 1].at') := by
  rw [prevF, List.getElem?_eq_getElem h, List.getElem?_eq_getElem (show m < l.length by omega)]
theorem faultsIn_no {l : List Fault} {i : Nat} (h : i < l.length) (hf : faultOk l i = false) : faultsIn l = false := by
  rw [faultsIn, List.all_eq_false]
  exact ⟨i, by simpa using h, by simp [hf]⟩
theorem faultsIn_yes {l : List Fault} (h : ∀ k, k < l.length → faultOk l k = true) : faultsIn l = true := by
  rw [faultsIn, List.all_eq_true]
  intro k hk
  exact h k (by simpa using hk)
theorem lt_step {p : Nat → Bool} {i : Nat} (h : ∀ k, k < i → p k = true) (hi : p i = true) : ∀ k, k < i + 1 → p k = true := by
  intro k hk
  by_cases e : k = i
  · subst e; exact hi
  · exact h k (by omega)
theorem sS_l11Faults (l : List Fault) (hl : l.length < 2 ^ 48) : Spec Try.prog 157 [.ext 3 (l.map Fault.row)] (.bool (faultsOk l)) [.undef] := by
  refine spec_C hmx p_S_l11Faults [] 13 [] ⟨Nat.le_of_ble_eq_true rfl, Nat.le_of_ble_eq_true rfl⟩ rfl rfl ?_
  intro w hP hmd hks hQ
  unfold c_S_l11Faults
  simp +decide (maxSteps := 20000000) (disch := omega) only [↓SBK, ↓SBK2, SX, Nat.reduceEqDiff, Nat.reduceAdd, Nat.reduceMul, Nat.reduceSub, ↓reduceIte, Int.reduceNeg, Int.reduceToNat, Int.reducePow, hmd, hks, hQ]
  refine LH_D [2] ?_
  simp +decide (maxSteps := 20000000) (disch := omega) only [↓SBK, ↓SBK2, SX, Nat.reduceEqDiff, Nat.reduceAdd, Nat.reduceMul, Nat.reduceSub, ↓reduceIte, Int.reduceNeg, Int.reduceToNat, Int.reducePow, hmd, hks, hQ]
  refine loop_d [2] (fun i : Nat => [(3, .int .i64 i)]) (fun i => i ≤ l.length ∧ ∀ k, k < i → faultOk l k = true) (fun i => l.length - i) (0) hP hmd hks (rfl) (by simp) ?_
  rintro i ⟨hi, hk⟩ w1 hP1 hmd1 hks1 hQ1
  simp +decide (maxSteps := 20000000) (disch := omega) only [↓SBK, ↓SBK2, SX, Nat.reduceEqDiff, Nat.reduceAdd, Nat.reduceMul, Nat.reduceSub, ↓reduceIte, Int.reduceNeg, Int.reduceToNat, Int.reducePow, hmd, hks, hQ, hmd1, hks1, hQ1]
  (first | with_reducible refine if_d _ ?_ ?_ | refine if_i _ ?_ ?_) <;> intro h1
  · have hat := faultOk_at (l := l) (i := i) (by omega)
    cases hA : inR (l[i]'(by omega)).at' 0 100000 with
    | false =>
      simp +decide (maxSteps := 20000000) (disch := omega) only [↓SBK, ↓SBK2, SX, Nat.reduceEqDiff, Nat.reduceAdd, Nat.reduceMul, Nat.reduceSub, ↓reduceIte, Int.reduceNeg, Int.reduceToNat, Int.reducePow, hmd, hks, hQ, hmd1, hks1, hQ1, getE h1]
      (first | refine call_i hP1 (s_l1In (l[i]'(by omega)).at' 0 100000) (.inl ⟨rfl, fun _ hx => nomatch hx⟩) ?_ | refine callH_i hP1 (s_l1In (l[i]'(by omega)).at' 0 100000) (.inl ⟨rfl, fun _ hx => nomatch hx⟩) ?_)
      simp +decide (maxSteps := 20000000) (disch := omega) only [↓SBK, ↓SBK2, SX, Nat.reduceEqDiff, Nat.reduceAdd, Nat.reduceMul, Nat.reduceSub, ↓reduceIte, Int.reduceNeg, Int.reduceToNat, Int.reducePow, hmd, hks, hQ, hmd1, hks1, hQ1, hA]
      rw [faultsOk, faultsIn_no (i := i) (by omega) (by rw [hat, hA]; rfl)]; rfl
    | true =>
      cases hB : inR (l[i]'(by omega)).kind 1 2 with
      | false =>
        simp +decide (maxSteps := 20000000) (disch := omega) only [↓SBK, ↓SBK2, SX, Nat.reduceEqDiff, Nat.reduceAdd, Nat.reduceMul, Nat.reduceSub, ↓reduceIte, Int.reduceNeg, Int.reduceToNat, Int.reducePow, hmd, hks, hQ, hmd1, hks1, hQ1, getE h1]
        (first | refine call_i hP1 (s_l1In (l[i]'(by omega)).at' 0 100000) (.inl ⟨rfl, fun _ hx => nomatch hx⟩) ?_ | refine callH_i hP1 (s_l1In (l[i]'(by omega)).at' 0 100000) (.inl ⟨rfl, fun _ hx => nomatch hx⟩) ?_)
        simp +decide (maxSteps := 20000000) (disch := omega) only [↓SBK, ↓SBK2, SX, Nat.reduceEqDiff, Nat.reduceAdd, Nat.reduceMul, Nat.reduceSub, ↓reduceIte, Int.reduceNeg, Int.reduceToNat, Int.reducePow, hmd, hks, hQ, hmd1, hks1, hQ1, hA, getE h1]
        (first | refine call_i hP1 (s_l1In (l[i]'(by omega)).kind 1 2) (.inl ⟨rfl, fun _ hx => nomatch hx⟩) ?_ | refine callH_i hP1 (s_l1In (l[i]'(by omega)).kind 1 2) (.inl ⟨rfl, fun _ hx => nomatch hx⟩) ?_)
        simp +decide (maxSteps := 20000000) (disch := omega) only [↓SBK, ↓SBK2, SX, Nat.reduceEqDiff, Nat.reduceAdd, Nat.reduceMul, Nat.reduceSub, ↓reduceIte, Int.reduceNeg, Int.reduceToNat, Int.reducePow, hmd, hks, hQ, hmd1, hks1, hQ1, hB]
        rw [faultsOk, faultsIn_no (i := i) (by omega) (by rw [hat, hA, hB]; rfl)]; rfl
      | true =>
        cases hC : inR (l[i]'(by omega)).keep 0 400 with
        | false =>
          simp +decide (maxSteps := 20000000) (disch := omega) only [↓SBK, ↓SBK2, SX, Nat.reduceEqDiff, Nat.reduceAdd, Nat.reduceMul, Nat.reduceSub, ↓reduceIte, Int.reduceNeg, Int.reduceToNat, Int.reducePow, hmd, hks, hQ, hmd1, hks1, hQ1, getE h1]
          (first | refine call_i hP1 (s_l1In (l[i]'(by omega)).at' 0 100000) (.inl ⟨rfl, fun _ hx => nomatch hx⟩) ?_ | refine callH_i hP1 (s_l1In (l[i]'(by omega)).at' 0 100000) (.inl ⟨rfl, fun _ hx => nomatch hx⟩) ?_)
          simp +decide (maxSteps := 20000000) (disch := omega) only [↓SBK, ↓SBK2, SX, Nat.reduceEqDiff, Nat.reduceAdd, Nat.reduceMul, Nat.reduceSub, ↓reduceIte, Int.reduceNeg, Int.reduceToNat, Int.reducePow, hmd, hks, hQ, hmd1, hks1, hQ1, hA, getE h1]
          (first | refine call_i hP1 (s_l1In (l[i]'(by omega)).kind 1 2) (.inl ⟨rfl, fun _ hx => nomatch hx⟩) ?_ | refine callH_i hP1 (s_l1In (l[i]'(by omega)).kind 1 2) (.inl ⟨rfl, fun _ hx => nomatch hx⟩) ?_)
          simp +decide (maxSteps := 20000000) (disch := omega) only [↓SBK, ↓SBK2, SX, Nat.reduceEqDiff, Nat.reduceAdd, Nat.reduceMul, Nat.reduceSub, ↓reduceIte, Int.reduceNeg, Int.reduceToNat, Int.reducePow, hmd, hks, hQ, hmd1, hks1, hQ1, hB, getE h1]
          (first | refine call_i hP1 (s_l1In (l[i]'(by omega)).keep 0 400) (.inl ⟨rfl, fun _ hx => nomatch hx⟩) ?_ | refine callH_i hP1 (s_l1In (l[i]'(by omega)).keep 0 400) (.inl ⟨rfl, fun _ hx => nomatch hx⟩) ?_)
          simp +decide (maxSteps := 20000000) (disch := omega) only [↓SBK, ↓SBK2, SX, Nat.reduceEqDiff, Nat.reduceAdd, Nat.reduceMul, Nat.reduceSub, ↓reduceIte, Int.reduceNeg, Int.reduceToNat, Int.reducePow, hmd, hks, hQ, hmd1, hks1, hQ1, hC]
          rw [faultsOk, faultsIn_no (i := i) (by omega) (by rw [hat, hA, hB, hC]; rfl)]; rfl
        | true =>
          cases i with
          | zero =>
            simp +decide (maxSteps := 20000000) (disch := omega) only [↓SBK, ↓SBK2, SX, Nat.reduceEqDiff, Nat.reduceAdd, Nat.reduceMul, Nat.reduceSub, ↓reduceIte, Int.reduceNeg, Int.reduceToNat, Int.reducePow, hmd, hks, hQ, hmd1, hks1, hQ1, getE h1]
            (first | refine call_i hP1 (s_l1In (l[0]'(by omega)).at' 0 100000) (.inl ⟨rfl, fun _ hx => nomatch hx⟩) ?_ | refine callH_i hP1 (s_l1In (l[0]'(by omega)).at' 0 100000) (.inl ⟨rfl, fun _ hx => nomatch hx⟩) ?_)
            simp +decide (maxSteps := 20000000) (disch := omega) only [↓SBK, ↓SBK2, SX, Nat.reduceEqDiff, Nat.reduceAdd, Nat.reduceMul, Nat.reduceSub, ↓reduceIte, Int.reduceNeg, Int.reduceToNat, Int.reducePow, hmd, hks, hQ, hmd1, hks1, hQ1, hA, getE h1]
            (first | refine call_i hP1 (s_l1In (l[0]'(by omega)).kind 1 2) (.inl ⟨rfl, fun _ hx => nomatch hx⟩) ?_ | refine callH_i hP1 (s_l1In (l[0]'(by omega)).kind 1 2) (.inl ⟨rfl, fun _ hx => nomatch hx⟩) ?_)
            simp +decide (maxSteps := 20000000) (disch := omega) only [↓SBK, ↓SBK2, SX, Nat.reduceEqDiff, Nat.reduceAdd, Nat.reduceMul, Nat.reduceSub, ↓reduceIte, Int.reduceNeg, Int.reduceToNat, Int.reducePow, hmd, hks, hQ, hmd1, hks1, hQ1, hB, getE h1]
            (first | refine call_i hP1 (s_l1In (l[0]'(by omega)).keep 0 400) (.inl ⟨rfl, fun _ hx => nomatch hx⟩) ?_ | refine callH_i hP1 (s_l1In (l[0]'(by omega)).keep 0 400) (.inl ⟨rfl, fun _ hx => nomatch hx⟩) ?_)
            simp +decide (maxSteps := 20000000) (disch := omega) only [↓SBK, ↓SBK2, SX, Nat.reduceEqDiff, Nat.reduceAdd, Nat.reduceMul, Nat.reduceSub, ↓reduceIte, Int.reduceNeg, Int.reduceToNat, Int.reducePow, hmd, hks, hQ, hmd1, hks1, hQ1, hC]
            exact ⟨1, rfl, ⟨by omega, lt_step hk (by rw [hat, hA, hB, hC]; rfl)⟩, by omega⟩
          | succ m =>
            have w4 : decide ((0 : Int) < ((m + 1 : Nat) : Int)) = true := decide_eq_true (by omega)
            have hm := getE (show ((m : Nat) : Int) < (l.length : Nat) by omega)
            cases hD : decide ((l[m]'(by omega)).at' < (l[m + 1]'(by omega)).at') with
            | false =>
              have hD' : decide ((l[m + 1]'(by omega)).at' ≤ (l[m]'(by omega)).at') = true := decide_eq_true (by simpa using hD)
              simp +decide (maxSteps := 20000000) (disch := omega) only [↓SBK, ↓SBK2, SX, Nat.reduceEqDiff, Nat.reduceAdd, Nat.reduceMul, Nat.reduceSub, ↓reduceIte, Int.reduceNeg, Int.reduceToNat, Int.reducePow, hmd, hks, hQ, hmd1, hks1, hQ1, getE h1]
              (first | refine call_i hP1 (s_l1In (l[m + 1]'(by omega)).at' 0 100000) (.inl ⟨rfl, fun _ hx => nomatch hx⟩) ?_ | refine callH_i hP1 (s_l1In (l[m + 1]'(by omega)).at' 0 100000) (.inl ⟨rfl, fun _ hx => nomatch hx⟩) ?_)
              simp +decide (maxSteps := 20000000) (disch := omega) only [↓SBK, ↓SBK2, SX, Nat.reduceEqDiff, Nat.reduceAdd, Nat.reduceMul, Nat.reduceSub, ↓reduceIte, Int.reduceNeg, Int.reduceToNat, Int.reducePow, hmd, hks, hQ, hmd1, hks1, hQ1, hA, getE h1]
              (first | refine call_i hP1 (s_l1In (l[m + 1]'(by omega)).kind 1 2) (.inl ⟨rfl, fun _ hx => nomatch hx⟩) ?_ | refine callH_i hP1 (s_l1In (l[m + 1]'(by omega)).kind 1 2) (.inl ⟨rfl, fun _ hx => nomatch hx⟩) ?_)
              simp +decide (maxSteps := 20000000) (disch := omega) only [↓SBK, ↓SBK2, SX, Nat.reduceEqDiff, Nat.reduceAdd, Nat.reduceMul, Nat.reduceSub, ↓reduceIte, Int.reduceNeg, Int.reduceToNat, Int.reducePow, hmd, hks, hQ, hmd1, hks1, hQ1, hB, getE h1]
              (first | refine call_i hP1 (s_l1In (l[m + 1]'(by omega)).keep 0 400) (.inl ⟨rfl, fun _ hx => nomatch hx⟩) ?_ | refine callH_i hP1 (s_l1In (l[m + 1]'(by omega)).keep 0 400) (.inl ⟨rfl, fun _ hx => nomatch hx⟩) ?_)
              simp +decide (maxSteps := 20000000) (disch := omega) only [↓SBK, ↓SBK2, SX, Nat.reduceEqDiff, Nat.reduceAdd, Nat.reduceMul, Nat.reduceSub, ↓reduceIte, Int.reduceNeg, Int.reduceToNat, Int.reducePow, hmd, hks, hQ, hmd1, hks1, hQ1, hC, w4, cast_pred, hm, getE h1, hD']
              rw [faultsOk, faultsIn_no (i := m + 1) (by omega) (by rw [hat, hA, hB, hC, prevF_at (by omega), hD]; rfl)]; rfl
            | true =>
              have hD' : decide ((l[m + 1]'(by omega)).at' ≤ (l[m]'(by omega)).at') = false := decide_eq_false (by have := of_decide_eq_true hD; omega)
              simp +decide (maxSteps := 20000000) (disch := omega) only [↓SBK, ↓SBK2, SX, Nat.reduceEqDiff, Nat.reduceAdd, Nat.reduceMul, Nat.reduceSub, ↓reduceIte, Int.reduceNeg, Int.reduceToNat, Int.reducePow, hmd, hks, hQ, hmd1, hks1, hQ1, getE h1]
              (first | refine call_i hP1 (s_l1In (l[m + 1]'(by omega)).at' 0 100000) (.inl ⟨rfl, fun _ hx => nomatch hx⟩) ?_ | refine callH_i hP1 (s_l1In (l[m + 1]'(by omega)).at' 0 100000) (.inl ⟨rfl, fun _ hx => nomatch hx⟩) ?_)
              simp +decide (maxSteps := 20000000) (disch := omega) only [↓SBK, ↓SBK2, SX, Nat.reduceEqDiff, Nat.reduceAdd, Nat.reduceMul, Nat.reduceSub, ↓reduceIte, Int.reduceNeg, Int.reduceToNat, Int.reducePow, hmd, hks, hQ, hmd1, hks1, hQ1, hA, getE h1]
              (first | refine call_i hP1 (s_l1In (l[m + 1]'(by omega)).kind 1 2) (.inl ⟨rfl, fun _ hx => nomatch hx⟩) ?_ | refine callH_i hP1 (s_l1In (l[m + 1]'(by omega)).kind 1 2) (.inl ⟨rfl, fun _ hx => nomatch hx⟩) ?_)
              simp +decide (maxSteps := 20000000) (disch := omega) only [↓SBK, ↓SBK2, SX, Nat.reduceEqDiff, Nat.reduceAdd, Nat.reduceMul, Nat.reduceSub, ↓reduceIte, Int.reduceNeg, Int.reduceToNat, Int.reducePow, hmd, hks, hQ, hmd1, hks1, hQ1, hB, getE h1]
              (first | refine call_i hP1 (s_l1In (l[m + 1]'(by omega)).keep 0 400) (.inl ⟨rfl, fun _ hx => nomatch hx⟩) ?_ | refine callH_i hP1 (s_l1In (l[m + 1]'(by omega)).keep 0 400) (.inl ⟨rfl, fun _ hx => nomatch hx⟩) ?_)
              simp +decide (maxSteps := 20000000) (disch := omega) only [↓SBK, ↓SBK2, SX, Nat.reduceEqDiff, Nat.reduceAdd, Nat.reduceMul, Nat.reduceSub, ↓reduceIte, Int.reduceNeg, Int.reduceToNat, Int.reducePow, hmd, hks, hQ, hmd1, hks1, hQ1, hC, w4, cast_pred, hm, getE h1, hD']
              exact ⟨m + 1 + 1, rfl, ⟨by omega, lt_step hk (by rw [hat, hA, hB, hC, prevF_at (by omega), hD]; rfl)⟩, by omega⟩
  · obtain rfl : i = l.length := by omega
    simp +decide (maxSteps := 20000000) (disch := omega) only [↓SBK, ↓SBK2, SX, Nat.reduceEqDiff, Nat.reduceAdd, Nat.reduceMul, Nat.reduceSub, ↓reduceIte, Int.reduceNeg, Int.reduceToNat, Int.reducePow, hmd, hks, hQ, hmd1, hks1, hQ1]
    rw [faultsOk, faultsIn_yes hk]; rfl
end Go.Proofs.Ytliklgcfdgdigaa.Awp

namespace Go.Proofs.Ytliklgcfdgdigaa.Awp
open Go.Proofs
set_option linter.unusedSimpArgs false
set_option linter.unusedVariables false
set_option maxRecDepth 100000
set_option maxHeartbeats 20000000

noncomputable def devOk (d : Dev) : Bool := chipOk d.c && (inR d.ops 0 100000 && faultsOk d.faults)
theorem sS_DevOk (d : Dev) (hf : d.fine) : Spec Try.prog 94 [d.x] (.bool (devOk d)) [.undef] := by
  obtain ⟨h1, h2⟩ := hf
  have hC := sS_ChipOk d.c h1
  cases hA : chipOk d.c with
  | false =>
    rw [hA] at hC
    refine spec_C hmx p_S_DevOk [] 7 [] ⟨Nat.le_of_ble_eq_true rfl, Nat.le_of_ble_eq_true rfl⟩ rfl rfl ?_
    intro w hP hmd hks hQ
    unfold c_S_DevOk
    simp +decide (maxSteps := 20000000) (disch := omega) only [↓SBK, ↓SBK2, SX, Nat.reduceEqDiff, Nat.reduceAdd, Nat.reduceMul, Nat.reduceSub, ↓reduceIte, Int.reduceNeg, Int.reduceToNat, Int.reducePow, hmd, hks, hQ]
    (first | refine call_i hP (hC) (.inl ⟨rfl, fun _ hx => nomatch hx⟩) ?_ | refine callH_i hP (hC) (.inl ⟨rfl, fun _ hx => nomatch hx⟩) ?_)
    simp +decide (maxSteps := 20000000) (disch := omega) only [↓SBK, ↓SBK2, SX, Nat.reduceEqDiff, Nat.reduceAdd, Nat.reduceMul, Nat.reduceSub, ↓reduceIte, Int.reduceNeg, Int.reduceToNat, Int.reducePow, hmd, hks, hQ]
    rw [devOk, hA]; rfl
  | true =>
    rw [hA] at hC
    cases hB : inR d.ops 0 100000 with
    | false =>
      refine spec_C hmx p_S_DevOk [] 7 [] ⟨Nat.le_of_ble_eq_true rfl, Nat.le_of_ble_eq_true rfl⟩ rfl rfl ?_
      intro w hP hmd hks hQ
      unfold c_S_DevOk
      simp +decide (maxSteps := 20000000) (disch := omega) only [↓SBK, ↓SBK2, SX, Nat.reduceEqDiff, Nat.reduceAdd, Nat.reduceMul, Nat.reduceSub, ↓reduceIte, Int.reduceNeg, Int.reduceToNat, Int.reducePow, hmd, hks, hQ]
      (first | refine call_i hP (hC) (.inl ⟨rfl, fun _ hx => nomatch hx⟩) ?_ | refine callH_i hP (hC) (.inl ⟨rfl, fun _ hx => nomatch hx⟩) ?_)
      simp +decide (maxSteps := 20000000) (disch := omega) only [↓SBK, ↓SBK2, SX, Nat.reduceEqDiff, Nat.reduceAdd, Nat.reduceMul, Nat.reduceSub, ↓reduceIte, Int.reduceNeg, Int.reduceToNat, Int.reducePow, hmd, hks, hQ]
      (first | refine call_i hP (s_l1In d.ops 0 100000) (.inl ⟨rfl, fun _ hx => nomatch hx⟩) ?_ | refine callH_i hP (s_l1In d.ops 0 100000) (.inl ⟨rfl, fun _ hx => nomatch hx⟩) ?_)
      simp +decide (maxSteps := 20000000) (disch := omega) only [↓SBK, ↓SBK2, SX, Nat.reduceEqDiff, Nat.reduceAdd, Nat.reduceMul, Nat.reduceSub, ↓reduceIte, Int.reduceNeg, Int.reduceToNat, Int.reducePow, hmd, hks, hQ, hB]
      rw [devOk, hA, hB]; rfl
    | true =>
      refine spec_C hmx p_S_DevOk [] 7 [] ⟨Nat.le_of_ble_eq_true rfl, Nat.le_of_ble_eq_true rfl⟩ rfl rfl ?_
      intro w hP hmd hks hQ
      unfold c_S_DevOk
      simp +decide (maxSteps := 20000000) (disch := omega) only [↓SBK, ↓SBK2, SX, Nat.reduceEqDiff, Nat.reduceAdd, Nat.reduceMul, Nat.reduceSub, ↓reduceIte, Int.reduceNeg, Int.reduceToNat, Int.reducePow, hmd, hks, hQ]
      (first | refine call_i hP (hC) (.inl ⟨rfl, fun _ hx => nomatch hx⟩) ?_ | refine callH_i hP (hC) (.inl ⟨rfl, fun _ hx => nomatch hx⟩) ?_)
      simp +decide (maxSteps := 20000000) (disch := omega) only [↓SBK, ↓SBK2, SX, Nat.reduceEqDiff, Nat.reduceAdd, Nat.reduceMul, Nat.reduceSub, ↓reduceIte, Int.reduceNeg, Int.reduceToNat, Int.reducePow, hmd, hks, hQ]
      (first | refine call_i hP (s_l1In d.ops 0 100000) (.inl ⟨rfl, fun _ hx => nomatch hx⟩) ?_ | refine callH_i hP (s_l1In d.ops 0 100000) (.inl ⟨rfl, fun _ hx => nomatch hx⟩) ?_)
      simp +decide (maxSteps := 20000000) (disch := omega) only [↓SBK, ↓SBK2, SX, Nat.reduceEqDiff, Nat.reduceAdd, Nat.reduceMul, Nat.reduceSub, ↓reduceIte, Int.reduceNeg, Int.reduceToNat, Int.reducePow, hmd, hks, hQ, hB]
      (first | refine call_i hP (sS_l11Faults d.faults h2) (.inl ⟨rfl, fun _ hx => nomatch hx⟩) ?_ | refine callH_i hP (sS_l11Faults d.faults h2) (.inl ⟨rfl, fun _ hx => nomatch hx⟩) ?_)
      simp +decide (maxSteps := 20000000) (disch := omega) only [↓SBK, ↓SBK2, SX, Nat.reduceEqDiff, Nat.reduceAdd, Nat.reduceMul, Nat.reduceSub, ↓reduceIte, Int.reduceNeg, Int.reduceToNat, Int.reducePow, hmd, hks, hQ]
      rw [devOk, hA, hB]; rfl
theorem sI_DevOk (d : Dev) (hf : d.fine) : Spec Try.prog 95 [d.x] (.bool (devOk d)) [.undef] := by
  obtain ⟨hf1, hf2⟩ := hf
  have hCk := sI_ChipOk d.c hf1
  have hno : ∀ i, (h : i < d.faults.length) → faultOk d.faults i = false → devOk d = false := by
    intro i h e
    rw [devOk, faultsOk, faultsIn_no h e]
    simp
  refine spec_C hmx p_I_DevOk [] 479 [] ⟨Nat.le_of_ble_eq_true rfl, Nat.le_of_ble_eq_true rfl⟩ rfl rfl ?_
  intro w hP hmd hks hQ
  unfold c_I_DevOk
  simp +decide (maxSteps := 20000000) (disch := omega) only [↓SBK, ↓SBK2, SX, Nat.reduceEqDiff, Nat.reduceAdd, Nat.reduceMul, Nat.reduceSub, ↓reduceIte, Int.reduceNeg, Int.reduceToNat, Int.reducePow, hmd, hks, hQ]
  refine LH_D [2, 3, 4, 5004] ?_
  simp +decide (maxSteps := 20000000) (disch := omega) only [↓SBK, ↓SBK2, SX, Nat.reduceEqDiff, Nat.reduceAdd, Nat.reduceMul, Nat.reduceSub, ↓reduceIte, Int.reduceNeg, Int.reduceToNat, Int.reducePow, hmd, hks, hQ]
  refine loop_d [2, 3, 4, 5004] (fun i : Nat => [(8, .int .i64 i)]) (fun i => i ≤ d.faults.length ∧ ∀ k, k < i → faultOk d.faults k = true) (fun i => d.faults.length - i) (0) hP hmd hks (rfl) (by simp) ?_
  rintro i ⟨hi, hk⟩ w1 hP1 hmd1 hks1 hQ1
  simp +decide (maxSteps := 20000000) (disch := omega) only [↓SBK, ↓SBK2, SX, Nat.reduceEqDiff, Nat.reduceAdd, Nat.reduceMul, Nat.reduceSub, ↓reduceIte, Int.reduceNeg, Int.reduceToNat, Int.reducePow, hmd, hks, hQ, hmd1, hks1, hQ1]
  (first | with_reducible refine if_d _ ?_ ?_ | refine if_i _ ?_ ?_) <;> intro h1
  · have hat := faultOk_at (l := d.faults) (i := i) (by omega)
    cases hA : inR (d.faults[i]'(by omega)).at' 0 100000 with
    | false =>
      simp +decide (maxSteps := 20000000) (disch := omega) only [↓SBK, ↓SBK2, SX, Nat.reduceEqDiff, Nat.reduceAdd, Nat.reduceMul, Nat.reduceSub, ↓reduceIte, Int.reduceNeg, Int.reduceToNat, Int.reducePow, hmd, hks, hQ, hmd1, hks1, hQ1, getE h1]
      (first | refine call_i hP1 (s_from (d.faults[i]'(by omega)).at' 0 100000) (.inl ⟨rfl, fun _ hx => nomatch hx⟩) ?_ | refine callH_i hP1 (s_from (d.faults[i]'(by omega)).at' 0 100000) (.inl ⟨rfl, fun _ hx => nomatch hx⟩) ?_)
      simp +decide (maxSteps := 20000000) (disch := omega) only [↓SBK, ↓SBK2, SX, Nat.reduceEqDiff, Nat.reduceAdd, Nat.reduceMul, Nat.reduceSub, ↓reduceIte, Int.reduceNeg, Int.reduceToNat, Int.reducePow, hmd, hks, hQ, hmd1, hks1, hQ1, hA]
      rw [hno i (by omega) (by rw [hat, hA]; rfl)]
    | true =>
      cases hB : inR (d.faults[i]'(by omega)).kind 1 2 with
      | false =>
        simp +decide (maxSteps := 20000000) (disch := omega) only [↓SBK, ↓SBK2, SX, Nat.reduceEqDiff, Nat.reduceAdd, Nat.reduceMul, Nat.reduceSub, ↓reduceIte, Int.reduceNeg, Int.reduceToNat, Int.reducePow, hmd, hks, hQ, hmd1, hks1, hQ1, getE h1]
        (first | refine call_i hP1 (s_from (d.faults[i]'(by omega)).at' 0 100000) (.inl ⟨rfl, fun _ hx => nomatch hx⟩) ?_ | refine callH_i hP1 (s_from (d.faults[i]'(by omega)).at' 0 100000) (.inl ⟨rfl, fun _ hx => nomatch hx⟩) ?_)
        simp +decide (maxSteps := 20000000) (disch := omega) only [↓SBK, ↓SBK2, SX, Nat.reduceEqDiff, Nat.reduceAdd, Nat.reduceMul, Nat.reduceSub, ↓reduceIte, Int.reduceNeg, Int.reduceToNat, Int.reducePow, hmd, hks, hQ, hmd1, hks1, hQ1, hA, getE h1]
        (first | refine call_i hP1 (s_from (d.faults[i]'(by omega)).kind 1 2) (.inl ⟨rfl, fun _ hx => nomatch hx⟩) ?_ | refine callH_i hP1 (s_from (d.faults[i]'(by omega)).kind 1 2) (.inl ⟨rfl, fun _ hx => nomatch hx⟩) ?_)
        simp +decide (maxSteps := 20000000) (disch := omega) only [↓SBK, ↓SBK2, SX, Nat.reduceEqDiff, Nat.reduceAdd, Nat.reduceMul, Nat.reduceSub, ↓reduceIte, Int.reduceNeg, Int.reduceToNat, Int.reducePow, hmd, hks, hQ, hmd1, hks1, hQ1, hB]
        rw [hno i (by omega) (by rw [hat, hA, hB]; rfl)]
      | true =>
        cases hC : inR (d.faults[i]'(by omega)).keep 0 400 with
        | false =>
          simp +decide (maxSteps := 20000000) (disch := omega) only [↓SBK, ↓SBK2, SX, Nat.reduceEqDiff, Nat.reduceAdd, Nat.reduceMul, Nat.reduceSub, ↓reduceIte, Int.reduceNeg, Int.reduceToNat, Int.reducePow, hmd, hks, hQ, hmd1, hks1, hQ1, getE h1]
          (first | refine call_i hP1 (s_from (d.faults[i]'(by omega)).at' 0 100000) (.inl ⟨rfl, fun _ hx => nomatch hx⟩) ?_ | refine callH_i hP1 (s_from (d.faults[i]'(by omega)).at' 0 100000) (.inl ⟨rfl, fun _ hx => nomatch hx⟩) ?_)
          simp +decide (maxSteps := 20000000) (disch := omega) only [↓SBK, ↓SBK2, SX, Nat.reduceEqDiff, Nat.reduceAdd, Nat.reduceMul, Nat.reduceSub, ↓reduceIte, Int.reduceNeg, Int.reduceToNat, Int.reducePow, hmd, hks, hQ, hmd1, hks1, hQ1, hA, getE h1]
          (first | refine call_i hP1 (s_from (d.faults[i]'(by omega)).kind 1 2) (.inl ⟨rfl, fun _ hx => nomatch hx⟩) ?_ | refine callH_i hP1 (s_from (d.faults[i]'(by omega)).kind 1 2) (.inl ⟨rfl, fun _ hx => nomatch hx⟩) ?_)
          simp +decide (maxSteps := 20000000) (disch := omega) only [↓SBK, ↓SBK2, SX, Nat.reduceEqDiff, Nat.reduceAdd, Nat.reduceMul, Nat.reduceSub, ↓reduceIte, Int.reduceNeg, Int.reduceToNat, Int.reducePow, hmd, hks, hQ, hmd1, hks1, hQ1, hB, getE h1]
          (first | refine call_i hP1 (s_from (d.faults[i]'(by omega)).keep 0 400) (.inl ⟨rfl, fun _ hx => nomatch hx⟩) ?_ | refine callH_i hP1 (s_from (d.faults[i]'(by omega)).keep 0 400) (.inl ⟨rfl, fun _ hx => nomatch hx⟩) ?_)
          simp +decide (maxSteps := 20000000) (disch := omega) only [↓SBK, ↓SBK2, SX, Nat.reduceEqDiff, Nat.reduceAdd, Nat.reduceMul, Nat.reduceSub, ↓reduceIte, Int.reduceNeg, Int.reduceToNat, Int.reducePow, hmd, hks, hQ, hmd1, hks1, hQ1, hC]
          rw [hno i (by omega) (by rw [hat, hA, hB, hC]; rfl)]
        | true =>
          cases i with
          | zero =>
            simp +decide (maxSteps := 20000000) (disch := omega) only [↓SBK, ↓SBK2, SX, Nat.reduceEqDiff, Nat.reduceAdd, Nat.reduceMul, Nat.reduceSub, ↓reduceIte, Int.reduceNeg, Int.reduceToNat, Int.reducePow, hmd, hks, hQ, hmd1, hks1, hQ1, getE h1]
            (first | refine call_i hP1 (s_from (d.faults[0]'(by omega)).at' 0 100000) (.inl ⟨rfl, fun _ hx => nomatch hx⟩) ?_ | refine callH_i hP1 (s_from (d.faults[0]'(by omega)).at' 0 100000) (.inl ⟨rfl, fun _ hx => nomatch hx⟩) ?_)
            simp +decide (maxSteps := 20000000) (disch := omega) only [↓SBK, ↓SBK2, SX, Nat.reduceEqDiff, Nat.reduceAdd, Nat.reduceMul, Nat.reduceSub, ↓reduceIte, Int.reduceNeg, Int.reduceToNat, Int.reducePow, hmd, hks, hQ, hmd1, hks1, hQ1, hA, getE h1]
            (first | refine call_i hP1 (s_from (d.faults[0]'(by omega)).kind 1 2) (.inl ⟨rfl, fun _ hx => nomatch hx⟩) ?_ | refine callH_i hP1 (s_from (d.faults[0]'(by omega)).kind 1 2) (.inl ⟨rfl, fun _ hx => nomatch hx⟩) ?_)
            simp +decide (maxSteps := 20000000) (disch := omega) only [↓SBK, ↓SBK2, SX, Nat.reduceEqDiff, Nat.reduceAdd, Nat.reduceMul, Nat.reduceSub, ↓reduceIte, Int.reduceNeg, Int.reduceToNat, Int.reducePow, hmd, hks, hQ, hmd1, hks1, hQ1, hB, getE h1]
            (first | refine call_i hP1 (s_from (d.faults[0]'(by omega)).keep 0 400) (.inl ⟨rfl, fun _ hx => nomatch hx⟩) ?_ | refine callH_i hP1 (s_from (d.faults[0]'(by omega)).keep 0 400) (.inl ⟨rfl, fun _ hx => nomatch hx⟩) ?_)
            simp +decide (maxSteps := 20000000) (disch := omega) only [↓SBK, ↓SBK2, SX, Nat.reduceEqDiff, Nat.reduceAdd, Nat.reduceMul, Nat.reduceSub, ↓reduceIte, Int.reduceNeg, Int.reduceToNat, Int.reducePow, hmd, hks, hQ, hmd1, hks1, hQ1, hC]
            exact ⟨1, rfl, ⟨by omega, lt_step hk (by rw [hat, hA, hB, hC]; rfl)⟩, by omega⟩
          | succ m =>
            have w4 : decide ((0 : Int) < ((m + 1 : Nat) : Int)) = true := decide_eq_true (by omega)
            have hm := getE (show ((m : Nat) : Int) < (d.faults.length : Nat) by omega)
            cases hD : decide ((d.faults[m]'(by omega)).at' < (d.faults[m + 1]'(by omega)).at') with
            | false =>
              have hD' : decide ((d.faults[m + 1]'(by omega)).at' ≤ (d.faults[m]'(by omega)).at') = true := decide_eq_true (by simpa using hD)
              simp +decide (maxSteps := 20000000) (disch := omega) only [↓SBK, ↓SBK2, SX, Nat.reduceEqDiff, Nat.reduceAdd, Nat.reduceMul, Nat.reduceSub, ↓reduceIte, Int.reduceNeg, Int.reduceToNat, Int.reducePow, hmd, hks, hQ, hmd1, hks1, hQ1, getE h1]
              (first | refine call_i hP1 (s_from (d.faults[m + 1]'(by omega)).at' 0 100000) (.inl ⟨rfl, fun _ hx => nomatch hx⟩) ?_ | refine callH_i hP1 (s_from (d.faults[m + 1]'(by omega)).at' 0 100000) (.inl ⟨rfl, fun _ hx => nomatch hx⟩) ?_)
              simp +decide (maxSteps := 20000000) (disch := omega) only [↓SBK, ↓SBK2, SX, Nat.reduceEqDiff, Nat.reduceAdd, Nat.reduceMul, Nat.reduceSub, ↓reduceIte, Int.reduceNeg, Int.reduceToNat, Int.reducePow, hmd, hks, hQ, hmd1, hks1, hQ1, hA, getE h1]
              (first | refine call_i hP1 (s_from (d.faults[m + 1]'(by omega)).kind 1 2) (.inl ⟨rfl, fun _ hx => nomatch hx⟩) ?_ | refine callH_i hP1 (s_from (d.faults[m + 1]'(by omega)).kind 1 2) (.inl ⟨rfl, fun _ hx => nomatch hx⟩) ?_)
              simp +decide (maxSteps := 20000000) (disch := omega) only [↓SBK, ↓SBK2, SX, Nat.reduceEqDiff, Nat.reduceAdd, Nat.reduceMul, Nat.reduceSub, ↓reduceIte, Int.reduceNeg, Int.reduceToNat, Int.reducePow, hmd, hks, hQ, hmd1, hks1, hQ1, hB, getE h1]
              (first | refine call_i hP1 (s_from (d.faults[m + 1]'(by omega)).keep 0 400) (.inl ⟨rfl, fun _ hx => nomatch hx⟩) ?_ | refine callH_i hP1 (s_from (d.faults[m + 1]'(by omega)).keep 0 400) (.inl ⟨rfl, fun _ hx => nomatch hx⟩) ?_)
              simp +decide (maxSteps := 20000000) (disch := omega) only [↓SBK, ↓SBK2, SX, Nat.reduceEqDiff, Nat.reduceAdd, Nat.reduceMul, Nat.reduceSub, ↓reduceIte, Int.reduceNeg, Int.reduceToNat, Int.reducePow, hmd, hks, hQ, hmd1, hks1, hQ1, hC, w4, cast_pred, hm, getE h1, hD']
              rw [hno (m + 1) (by omega) (by rw [hat, hA, hB, hC, prevF_at (by omega), hD]; rfl)]
            | true =>
              have hD' : decide ((d.faults[m + 1]'(by omega)).at' ≤ (d.faults[m]'(by omega)).at') = false := decide_eq_false (by have := of_decide_eq_true hD; omega)
              simp +decide (maxSteps := 20000000) (disch := omega) only [↓SBK, ↓SBK2, SX, Nat.reduceEqDiff, Nat.reduceAdd, Nat.reduceMul, Nat.reduceSub, ↓reduceIte, Int.reduceNeg, Int.reduceToNat, Int.reducePow, hmd, hks, hQ, hmd1, hks1, hQ1, getE h1]
              (first | refine call_i hP1 (s_from (d.faults[m + 1]'(by omega)).at' 0 100000) (.inl ⟨rfl, fun _ hx => nomatch hx⟩) ?_ | refine callH_i hP1 (s_from (d.faults[m + 1]'(by omega)).at' 0 100000) (.inl ⟨rfl, fun _ hx => nomatch hx⟩) ?_)
              simp +decide (maxSteps := 20000000) (disch := omega) only [↓SBK, ↓SBK2, SX, Nat.reduceEqDiff, Nat.reduceAdd, Nat.reduceMul, Nat.reduceSub, ↓reduceIte, Int.reduceNeg, Int.reduceToNat, Int.reducePow, hmd, hks, hQ, hmd1, hks1, hQ1, hA, getE h1]
              (first | refine call_i hP1 (s_from (d.faults[m + 1]'(by omega)).kind 1 2) (.inl ⟨rfl, fun _ hx => nomatch hx⟩) ?_ | refine callH_i hP1 (s_from (d.faults[m + 1]'(by omega)).kind 1 2) (.inl ⟨rfl, fun _ hx => nomatch hx⟩) ?_)
              simp +decide (maxSteps := 20000000) (disch := omega) only [↓SBK, ↓SBK2, SX, Nat.reduceEqDiff, Nat.reduceAdd, Nat.reduceMul, Nat.reduceSub, ↓reduceIte, Int.reduceNeg, Int.reduceToNat, Int.reducePow, hmd, hks, hQ, hmd1, hks1, hQ1, hB, getE h1]
              (first | refine call_i hP1 (s_from (d.faults[m + 1]'(by omega)).keep 0 400) (.inl ⟨rfl, fun _ hx => nomatch hx⟩) ?_ | refine callH_i hP1 (s_from (d.faults[m + 1]'(by omega)).keep 0 400) (.inl ⟨rfl, fun _ hx => nomatch hx⟩) ?_)
              simp +decide (maxSteps := 20000000) (disch := omega) only [↓SBK, ↓SBK2, SX, Nat.reduceEqDiff, Nat.reduceAdd, Nat.reduceMul, Nat.reduceSub, ↓reduceIte, Int.reduceNeg, Int.reduceToNat, Int.reducePow, hmd, hks, hQ, hmd1, hks1, hQ1, hC, w4, cast_pred, hm, getE h1, hD']
              exact ⟨m + 1 + 1, rfl, ⟨by omega, lt_step hk (by rw [hat, hA, hB, hC, prevF_at (by omega), hD]; rfl)⟩, by omega⟩
  · obtain rfl : i = d.faults.length := by omega
    have e : devOk d = (chipOk d.c && (inR d.ops 0 100000 && decide ((d.faults.length : Int) ≤ 20))) := by rw [devOk, faultsOk, faultsIn_yes hk]; rfl
    simp +decide (maxSteps := 20000000) (disch := omega) only [↓SBK, ↓SBK2, SX, Nat.reduceEqDiff, Nat.reduceAdd, Nat.reduceMul, Nat.reduceSub, ↓reduceIte, Int.reduceNeg, Int.reduceToNat, Int.reducePow, hmd, hks, hQ, hmd1, hks1, hQ1]
    cases hA : chipOk d.c with
    | false =>
      rw [hA] at hCk
      (first | refine call_i hP (hCk) (.inl ⟨rfl, fun _ hx => nomatch hx⟩) ?_ | refine callH_i hP (hCk) (.inl ⟨rfl, fun _ hx => nomatch hx⟩) ?_)
      simp +decide (maxSteps := 20000000) (disch := omega) only [↓SBK, ↓SBK2, SX, Nat.reduceEqDiff, Nat.reduceAdd, Nat.reduceMul, Nat.reduceSub, ↓reduceIte, Int.reduceNeg, Int.reduceToNat, Int.reducePow, hmd, hks, hQ]
      rw [e, hA]; rfl
    | true =>
      rw [hA] at hCk
      cases hB : inR d.ops 0 100000 with
      | false =>
        (first | refine call_i hP (hCk) (.inl ⟨rfl, fun _ hx => nomatch hx⟩) ?_ | refine callH_i hP (hCk) (.inl ⟨rfl, fun _ hx => nomatch hx⟩) ?_)
        simp +decide (maxSteps := 20000000) (disch := omega) only [↓SBK, ↓SBK2, SX, Nat.reduceEqDiff, Nat.reduceAdd, Nat.reduceMul, Nat.reduceSub, ↓reduceIte, Int.reduceNeg, Int.reduceToNat, Int.reducePow, hmd, hks, hQ]
        (first | refine call_i hP (s_from d.ops 0 100000) (.inl ⟨rfl, fun _ hx => nomatch hx⟩) ?_ | refine callH_i hP (s_from d.ops 0 100000) (.inl ⟨rfl, fun _ hx => nomatch hx⟩) ?_)
        simp +decide (maxSteps := 20000000) (disch := omega) only [↓SBK, ↓SBK2, SX, Nat.reduceEqDiff, Nat.reduceAdd, Nat.reduceMul, Nat.reduceSub, ↓reduceIte, Int.reduceNeg, Int.reduceToNat, Int.reducePow, hmd, hks, hQ, hB]
        rw [e, hA, hB]; rfl
      | true =>
        (first | refine call_i hP (hCk) (.inl ⟨rfl, fun _ hx => nomatch hx⟩) ?_ | refine callH_i hP (hCk) (.inl ⟨rfl, fun _ hx => nomatch hx⟩) ?_)
        simp +decide (maxSteps := 20000000) (disch := omega) only [↓SBK, ↓SBK2, SX, Nat.reduceEqDiff, Nat.reduceAdd, Nat.reduceMul, Nat.reduceSub, ↓reduceIte, Int.reduceNeg, Int.reduceToNat, Int.reducePow, hmd, hks, hQ]
        (first | refine call_i hP (s_from d.ops 0 100000) (.inl ⟨rfl, fun _ hx => nomatch hx⟩) ?_ | refine callH_i hP (s_from d.ops 0 100000) (.inl ⟨rfl, fun _ hx => nomatch hx⟩) ?_)
        simp +decide (maxSteps := 20000000) (disch := omega) only [↓SBK, ↓SBK2, SX, Nat.reduceEqDiff, Nat.reduceAdd, Nat.reduceMul, Nat.reduceSub, ↓reduceIte, Int.reduceNeg, Int.reduceToNat, Int.reducePow, hmd, hks, hQ, hB]
        rw [e, hA, hB]; rfl
end Go.Proofs.Ytliklgcfdgdigaa.Awp

namespace Go.Proofs.Ytliklgcfdgdigaa.Awp
open Go.Proofs
set_option linter.unusedSimpArgs false
set_option linter.unusedVariables false
set_option maxRecDepth 100000
set_option maxHeartbeats 20000000

/-! ### the fault of an operation; copies; new devices -/
def zFault : Fault := { at' := 0, kind := 0, keep := 0 }
def faultIn (l : List Fault) (n : Int) : Option Fault := l.find? (fun f => decide (f.at' = n))
def faultAt (d : Dev) : Fault × Bool := match faultIn d.faults d.ops with | some f => (f, true) | none => (zFault, false)
theorem find_none_step {α : Type} {l : List α} {p : α → Bool} {i : Nat} (hk : ∀ k, k < i → (h : k < l.length) → p l[k] = false) (h : i < l.length) (hi : p l[i] = true) : l.find? p = some l[i] := by
  induction l generalizing i with
  | nil => simp at h
  | cons x l ih =>
    cases i with
    | zero => simp only [List.getElem_cons_zero] at hi ⊢; rw [List.find?_cons, hi]
    | succ i =>
      have h0 := hk 0 (by omega) (by simp)
      simp only [List.getElem_cons_zero] at h0
      rw [List.find?_cons, h0]
      simp only [List.getElem_cons_succ] at hi ⊢
      exact ih (fun k hk' hkl => by have := hk (k + 1) (by omega) (by simp; omega); simpa using this) (by simpa using h) hi
theorem find_none_all {α : Type} {l : List α} {p : α → Bool} (hk : ∀ k, (h : k < l.length) → p l[k] = false) : l.find? p = none := by
  rw [List.find?_eq_none]
  intro x hx
  obtain ⟨k, h, rfl⟩ := List.getElem_of_mem hx
  simp [hk k h]
theorem no_step {α : Type} {l : List α} {p : α → Bool} {i : Nat} (hk : ∀ k, k < i → (h : k < l.length) → p l[k] = false) (h : i < l.length) (hi : p l[i] = false) : ∀ k, k < i + 1 → (h : k < l.length) → p l[k] = false := by
  intro k hlt hl
  by_cases e : k = i
  · subst e; exact hi
  · exact hk k (by omega) hl
theorem sS_FaultAt (d : Dev) (hl : d.faults.length < 2 ^ 48) : Spec Try.prog 82 [d.x] (.tup [(faultAt d).1.o, .bool (faultAt d).2]) [.undef] := by
  refine spec_C hmx p_S_FaultAt [] 31 [] ⟨Nat.le_of_ble_eq_true rfl, Nat.le_of_ble_eq_true rfl⟩ rfl rfl ?_
  intro w hP hmd hks hQ
  unfold c_S_FaultAt
  simp +decide (maxSteps := 20000000) (disch := omega) only [↓SBK, ↓SBK2, SX, Nat.reduceEqDiff, Nat.reduceAdd, Nat.reduceMul, Nat.reduceSub, ↓reduceIte, Int.reduceNeg, Int.reduceToNat, Int.reducePow, hmd, hks, hQ]
  refine LH_D [3] ?_
  simp +decide (maxSteps := 20000000) (disch := omega) only [↓SBK, ↓SBK2, SX, Nat.reduceEqDiff, Nat.reduceAdd, Nat.reduceMul, Nat.reduceSub, ↓reduceIte, Int.reduceNeg, Int.reduceToNat, Int.reducePow, hmd, hks, hQ]
  refine loop_d [3] (fun i : Nat => [(4, .int .i64 i)]) (fun i => i ≤ d.faults.length ∧ ∀ k, k < i → (h : k < d.faults.length) → decide (d.faults[k].at' = d.ops) = false) (fun i => d.faults.length - i) (0) hP hmd hks (rfl) (by simp) ?_
  rintro i ⟨hi, hk⟩ w1 hP1 hmd1 hks1 hQ1
  simp +decide (maxSteps := 20000000) (disch := omega) only [↓SBK, ↓SBK2, SX, Nat.reduceEqDiff, Nat.reduceAdd, Nat.reduceMul, Nat.reduceSub, ↓reduceIte, Int.reduceNeg, Int.reduceToNat, Int.reducePow, hmd, hks, hQ, hmd1, hks1, hQ1]
  (first | with_reducible refine if_d _ ?_ ?_ | refine if_i _ ?_ ?_) <;> intro h1
  · simp +decide (maxSteps := 20000000) (disch := omega) only [↓SBK, ↓SBK2, SX, Nat.reduceEqDiff, Nat.reduceAdd, Nat.reduceMul, Nat.reduceSub, ↓reduceIte, Int.reduceNeg, Int.reduceToNat, Int.reducePow, hmd, hks, hQ, hmd1, hks1, hQ1, getE h1]
    (first | with_reducible refine if_d _ ?_ ?_ | refine if_i _ ?_ ?_) <;> intro h2
    · simp +decide (maxSteps := 20000000) (disch := omega) only [↓SBK, ↓SBK2, SX, Nat.reduceEqDiff, Nat.reduceAdd, Nat.reduceMul, Nat.reduceSub, ↓reduceIte, Int.reduceNeg, Int.reduceToNat, Int.reducePow, hmd, hks, hQ, hmd1, hks1, hQ1, getE h1]
      rw [faultAt, faultIn, find_none_step (p := fun f : Fault => decide (f.at' = d.ops)) hk (by omega) (decide_eq_true h2)]
    · simp +decide (maxSteps := 20000000) (disch := omega) only [↓SBK, ↓SBK2, SX, Nat.reduceEqDiff, Nat.reduceAdd, Nat.reduceMul, Nat.reduceSub, ↓reduceIte, Int.reduceNeg, Int.reduceToNat, Int.reducePow, hmd, hks, hQ, hmd1, hks1, hQ1]
      exact ⟨i + 1, rfl, ⟨by omega, no_step (p := fun f : Fault => decide (f.at' = d.ops)) hk (by omega) (decide_eq_false h2)⟩, by omega⟩
  · obtain rfl : i = d.faults.length := by omega
    simp +decide (maxSteps := 20000000) (disch := omega) only [↓SBK, ↓SBK2, SX, Nat.reduceEqDiff, Nat.reduceAdd, Nat.reduceMul, Nat.reduceSub, ↓reduceIte, Int.reduceNeg, Int.reduceToNat, Int.reducePow, hmd, hks, hQ, hmd1, hks1, hQ1]
    rw [faultAt, faultIn, find_none_all (p := fun f : Fault => decide (f.at' = d.ops)) fun k h => hk k h h]; rfl
theorem sI_FaultAt (d : Dev) (hl : d.faults.length < 2 ^ 48) : Spec Try.prog 84 [d.x] (.tup [(faultAt d).1.o, .bool (faultAt d).2]) [.undef] := by
  refine spec_C hmx p_I_FaultAt [] 943 [] ⟨Nat.le_of_ble_eq_true rfl, Nat.le_of_ble_eq_true rfl⟩ rfl rfl ?_
  intro w hP hmd hks hQ
  unfold c_I_FaultAt
  simp +decide (maxSteps := 20000000) (disch := omega) only [↓SBK, ↓SBK2, SX, Nat.reduceEqDiff, Nat.reduceAdd, Nat.reduceMul, Nat.reduceSub, ↓reduceIte, Int.reduceNeg, Int.reduceToNat, Int.reducePow, hmd, hks, hQ]
  refine LH_D [3, 5, 5005] ?_
  simp +decide (maxSteps := 20000000) (disch := omega) only [↓SBK, ↓SBK2, SX, Nat.reduceEqDiff, Nat.reduceAdd, Nat.reduceMul, Nat.reduceSub, ↓reduceIte, Int.reduceNeg, Int.reduceToNat, Int.reducePow, hmd, hks, hQ]
  refine loop_d [3, 5, 5005] (fun i : Nat => [(9, .int .i64 i)]) (fun i => i ≤ d.faults.length ∧ ∀ k, k < i → (h : k < d.faults.length) → decide (d.faults[k].at' = d.ops) = false) (fun i => d.faults.length - i) (0) hP hmd hks (rfl) (by simp) ?_
  rintro i ⟨hi, hk⟩ w1 hP1 hmd1 hks1 hQ1
  simp +decide (maxSteps := 20000000) (disch := omega) only [↓SBK, ↓SBK2, SX, Nat.reduceEqDiff, Nat.reduceAdd, Nat.reduceMul, Nat.reduceSub, ↓reduceIte, Int.reduceNeg, Int.reduceToNat, Int.reducePow, hmd, hks, hQ, hmd1, hks1, hQ1]
  (first | with_reducible refine if_d _ ?_ ?_ | refine if_i _ ?_ ?_) <;> intro h1
  · simp +decide (maxSteps := 20000000) (disch := omega) only [↓SBK, ↓SBK2, SX, Nat.reduceEqDiff, Nat.reduceAdd, Nat.reduceMul, Nat.reduceSub, ↓reduceIte, Int.reduceNeg, Int.reduceToNat, Int.reducePow, hmd, hks, hQ, hmd1, hks1, hQ1, getE h1]
    (first | with_reducible refine if_d _ ?_ ?_ | refine if_i _ ?_ ?_) <;> intro h2
    · simp +decide (maxSteps := 20000000) (disch := omega) only [↓SBK, ↓SBK2, SX, Nat.reduceEqDiff, Nat.reduceAdd, Nat.reduceMul, Nat.reduceSub, ↓reduceIte, Int.reduceNeg, Int.reduceToNat, Int.reducePow, hmd, hks, hQ, hmd1, hks1, hQ1, getE h1]
      rw [faultAt, faultIn, find_none_step (p := fun f : Fault => decide (f.at' = d.ops)) hk (by omega) (decide_eq_true h2)]
    · simp +decide (maxSteps := 20000000) (disch := omega) only [↓SBK, ↓SBK2, SX, Nat.reduceEqDiff, Nat.reduceAdd, Nat.reduceMul, Nat.reduceSub, ↓reduceIte, Int.reduceNeg, Int.reduceToNat, Int.reducePow, hmd, hks, hQ, hmd1, hks1, hQ1]
      exact ⟨i + 1, rfl, ⟨by omega, no_step (p := fun f : Fault => decide (f.at' = d.ops)) hk (by omega) (decide_eq_false h2)⟩, by omega⟩
  · obtain rfl : i = d.faults.length := by omega
    simp +decide (maxSteps := 20000000) (disch := omega) only [↓SBK, ↓SBK2, SX, Nat.reduceEqDiff, Nat.reduceAdd, Nat.reduceMul, Nat.reduceSub, ↓reduceIte, Int.reduceNeg, Int.reduceToNat, Int.reducePow, hmd, hks, hQ, hmd1, hks1, hQ1]
    rw [faultAt, faultIn, find_none_all (p := fun f : Fault => decide (f.at' = d.ops)) fun k h => hk k h h]; rfl
theorem flatR_map {α : Type} (f : α → List TV) (h : ∀ x, (f x).all flatT = true) (l : List α) : flatR (l.map f) = true := by
  rw [flatR, List.all_eq_true]
  intro r hr
  obtain ⟨x, _, rfl⟩ := List.mem_map.1 hr
  exact h x
theorem flatR_F (l : List Fault) : flatR (l.map Fault.row) = true := flatR_map Fault.row (fun _ => rfl) l
theorem s_CloneF (l : List Fault) (hl : l.length < 2 ^ 40) : Spec Try.prog 159 [.ext 3 (l.map Fault.row)] (.own 3 (l.map Fault.row)) [.undef] := by
  refine spec_extv fun a len cap ha => ?_
  cases a with
  | none =>
    obtain rfl : l = [] := by simpa using ha rfl
    refine spec_C hmx p_X_Clone_Fault [] 5 [] ⟨Nat.le_of_ble_eq_true rfl, Nat.le_of_ble_eq_true rfl⟩ rfl rfl ?_
    intro w hP hmd hks hQ
    unfold c_X_Clone_Fault
    simp +decide (maxSteps := 20000000) (disch := omega) only [↓SBK, ↓SBK2, SX, Nat.reduceEqDiff, Nat.reduceAdd, Nat.reduceMul, Nat.reduceSub, ↓reduceIte, Int.reduceNeg, Int.reduceToNat, Int.reducePow, hmd, hks, hQ]
  | some a =>
    refine spec_C hmx p_X_Clone_Fault [] 5 [] ⟨Nat.le_of_ble_eq_true rfl, Nat.le_of_ble_eq_true rfl⟩ rfl rfl ?_
    intro w hP hmd hks hQ
    unfold c_X_Clone_Fault
    simp +decide (maxSteps := 20000000) (disch := omega) only [↓SBK, ↓SBK2, SX, Nat.reduceEqDiff, Nat.reduceAdd, Nat.reduceMul, Nat.reduceSub, ↓reduceIte, Int.reduceNeg, Int.reduceToNat, Int.reducePow, hmd, hks, hQ]
    simp +decide (maxSteps := 20000000) (disch := omega) only [↓SBK, ↓SBK2, SX, Nat.reduceEqDiff, Nat.reduceAdd, Nat.reduceMul, Nat.reduceSub, ↓reduceIte, Int.reduceNeg, Int.reduceToNat, Int.reducePow, hmd, hks, hQ, flatR_F]
theorem dev_sz {d : Dev} {n : Nat} (hs : d.sz < n) : d.c.sz < n ∧ d.faults.length < n := by
  have : d.sz = d.c.sz + d.faults.length := rfl
  omega
theorem sI_copyDev (d : Dev) (hs : d.sz < 2 ^ 40) : Spec Try.prog 162 [d.x] d.o [.undef] := by
  obtain ⟨h1, h2⟩ := dev_sz hs
  refine spec_C hmx p_I_copyDev [] 7 [] ⟨Nat.le_of_ble_eq_true rfl, Nat.le_of_ble_eq_true rfl⟩ rfl rfl ?_
  intro w hP hmd hks hQ
  unfold c_I_copyDev
  simp +decide (maxSteps := 20000000) (disch := omega) only [↓SBK, ↓SBK2, SX, Nat.reduceEqDiff, Nat.reduceAdd, Nat.reduceMul, Nat.reduceSub, ↓reduceIte, Int.reduceNeg, Int.reduceToNat, Int.reducePow, hmd, hks, hQ]
  (first | refine call_i hP (sI_copyChip d.c h1) (.inl ⟨rfl, fun _ hx => nomatch hx⟩) ?_ | refine callH_i hP (sI_copyChip d.c h1) (.inl ⟨rfl, fun _ hx => nomatch hx⟩) ?_)
  simp +decide (maxSteps := 20000000) (disch := omega) only [↓SBK, ↓SBK2, SX, Nat.reduceEqDiff, Nat.reduceAdd, Nat.reduceMul, Nat.reduceSub, ↓reduceIte, Int.reduceNeg, Int.reduceToNat, Int.reducePow, hmd, hks, hQ]
  (first | refine call_i hP (s_CloneF d.faults h2) (.inl ⟨rfl, fun _ hx => nomatch hx⟩) ?_ | refine callH_i hP (s_CloneF d.faults h2) (.inl ⟨rfl, fun _ hx => nomatch hx⟩) ?_)
  simp +decide (maxSteps := 20000000) (disch := omega) only [↓SBK, ↓SBK2, SX, Nat.reduceEqDiff, Nat.reduceAdd, Nat.reduceMul, Nat.reduceSub, ↓reduceIte, Int.reduceNeg, Int.reduceToNat, Int.reducePow, hmd, hks, hQ]
theorem sS_l11Copy (d : Dev) (hs : d.sz < 2 ^ 40) : Spec Try.prog 161 [d.x] d.o [.undef] := by
  obtain ⟨h1, h2⟩ := dev_sz hs
  refine spec_C hmx p_S_l11Copy [] 7 [] ⟨Nat.le_of_ble_eq_true rfl, Nat.le_of_ble_eq_true rfl⟩ rfl rfl ?_
  intro w hP hmd hks hQ
  unfold c_S_l11Copy
  simp +decide (maxSteps := 20000000) (disch := omega) only [↓SBK, ↓SBK2, SX, Nat.reduceEqDiff, Nat.reduceAdd, Nat.reduceMul, Nat.reduceSub, ↓reduceIte, Int.reduceNeg, Int.reduceToNat, Int.reducePow, hmd, hks, hQ]
  (first | refine call_i hP (sS_l10Copy d.c h1) (.inl ⟨rfl, fun _ hx => nomatch hx⟩) ?_ | refine callH_i hP (sS_l10Copy d.c h1) (.inl ⟨rfl, fun _ hx => nomatch hx⟩) ?_)
  simp +decide (maxSteps := 20000000) (disch := omega) only [↓SBK, ↓SBK2, SX, Nat.reduceEqDiff, Nat.reduceAdd, Nat.reduceMul, Nat.reduceSub, ↓reduceIte, Int.reduceNeg, Int.reduceToNat, Int.reducePow, hmd, hks, hQ, flatR_F]
def upD (d : Dev) : Dev := { c := d.c, ops := d.ops, faults := d.faults, down := false }
theorem sI_PowerUp (d : Dev) (hs : d.sz < 2 ^ 40) : Spec Try.prog 110 [d.x] (upD d).o [.undef] := by
  refine spec_C hmx p_I_PowerUp [] 7 [] ⟨Nat.le_of_ble_eq_true rfl, Nat.le_of_ble_eq_true rfl⟩ rfl rfl ?_
  intro w hP hmd hks hQ
  unfold c_I_PowerUp
  simp +decide (maxSteps := 20000000) (disch := omega) only [↓SBK, ↓SBK2, SX, Nat.reduceEqDiff, Nat.reduceAdd, Nat.reduceMul, Nat.reduceSub, ↓reduceIte, Int.reduceNeg, Int.reduceToNat, Int.reducePow, hmd, hks, hQ]
  (first | refine call_i hP (sI_copyDev d hs) (.inl ⟨rfl, fun _ hx => nomatch hx⟩) ?_ | refine callH_i hP (sI_copyDev d hs) (.inl ⟨rfl, fun _ hx => nomatch hx⟩) ?_)
  simp +decide (maxSteps := 20000000) (disch := omega) only [↓SBK, ↓SBK2, SX, Nat.reduceEqDiff, Nat.reduceAdd, Nat.reduceMul, Nat.reduceSub, ↓reduceIte, Int.reduceNeg, Int.reduceToNat, Int.reducePow, hmd, hks, hQ]
  rfl
end Go.Proofs.Ytliklgcfdgdigaa.Awp

namespace Go.Proofs.Ytliklgcfdgdigaa.Awp
open Go.Proofs
set_option linter.unusedSimpArgs false
set_option linter.unusedVariables false
set_option maxRecDepth 100000
set_option maxHeartbeats 20000000

end Go.Proofs.Ytliklgcfdgdigaa.Awp

namespace Go.Proofs.Ytliklgcfdgdigaa.Awp
open Go.Proofs
set_option linter.unusedSimpArgs false
set_option linter.unusedVariables false
set_option maxRecDepth 100000
set_option maxHeartbeats 20000000

theorem chip_l {c : Chip} {n : Nat} (hs : c.sz < n) : c.blocks.length < n := by
  simp only [Chip.sz, szM] at hs; omega
theorem blk_s {c : Chip} {n i : Nat} (hs : c.sz < n) (h : i < c.blocks.length) : (c.blocks[i]).sz < n := by
  have := sum_get Block.sz (l := c.blocks) (i := i) h
  simp only [Chip.sz, szM] at hs; omega
theorem nextPage_at {c : Chip} {i : Nat} (h : i < c.blocks.length) : nextPage c i = ((usedN (c.blocks[i]).pages : Nat) : Int) := by
  rw [nextPage, blk_some (by omega) (by omega)]; rfl
end Go.Proofs.Ytliklgcfdgdigaa.Awp

namespace Go.Proofs.Ytliklgcfdgdigaa.Awp
open Go.Proofs
set_option linter.unusedSimpArgs false
set_option linter.unusedVariables false
set_option maxRecDepth 100000
set_option maxHeartbeats 20000000

end Go.Proofs.Ytliklgcfdgdigaa.Awp

namespace Go.Proofs.Ytliklgcfdgdigaa.Awp
open Go.Proofs
set_option linter.unusedSimpArgs false
set_option linter.unusedVariables false
set_option maxRecDepth 100000
set_option maxHeartbeats 20000000

theorem sum_modify {α : Type} (f : α → Nat) (h : α → α) (K : Nat) (hK : ∀ x, f (h x) ≤ K) : ∀ (l : List α) (i : Nat), ((l.modify i h).map f).sum ≤ (l.map f).sum + K := by
  intro l
  induction l with
  | nil => intro i; simp
  | cons x l ih =>
    intro i
    cases i with
    | zero => simp only [List.modify_zero_cons, List.map_cons, List.sum_cons]; have := hK x; omega
    | succ i => simp only [List.modify_succ_cons, List.map_cons, List.sum_cons]; have := ih i; omega
theorem erB_sz (b : Block) : Block.sz (erB b) = 8 := by
  unfold erB Block.sz szM
  rfl
theorem eraseC_sz (c : Chip) (k : Int) : (eraseC c k).sz ≤ c.sz + 8 := by
  by_cases h : eraseCode c k = 0
  · rw [eraseC, if_pos h]
    have := sum_modify Block.sz erB 8 (fun b => Nat.le_of_eq (erB_sz b)) c.blocks k.toNat
    have e1 : Chip.sz { blocks := c.blocks.modify k.toNat erB } = (c.blocks.modify k.toNat erB).length + ((c.blocks.modify k.toNat erB).map Block.sz).sum := rfl
    have e2 : c.sz = c.blocks.length + (c.blocks.map Block.sz).sum := rfl
    rw [e1, e2, List.length_modify]
    omega
  · rw [eraseC, if_neg h]
    omega
end Go.Proofs.Ytliklgcfdgdigaa.Awp

