/- Contracts of the functions that laws.FnRecsRead reaches are proved here (part 1). Condition: none. -/
import Derived.Test.YtliklgcfdgdigaaAwp4
import Derived.Test.YtliklgcfdgdigaaRows
import Derived.OpenShut
import Derived.KernelRfl
namespace Go.Proofs.Ytliklgcfdgdigaa.Awp
open I

def c_L_FnRecsRead : Cmd := Q (R [n 2 (asg 2 k0)]) (Q (Q (R [n 8 (mov 8 (v 0)), n 9 (call (some 9) 68 [v 8])]) (F (v 9) (Q (R [n 2 (asg 2 k1)]) .ret) .skip)) (Q (R [n 10 (mov 10 (v 0)), n 11 (call (some 11) 93 [v 10]), n 3 (asg 3 (v 11))]) (Q (R [n 13 (mov 13 (v 3)), n 14 (call (some 14) 70 [v 13]), n 12 (mov 12 (v 14)), n 15 (xtr 15 (v 12) 0), n 16 (xtr 16 (v 12) 1), n 4 (alc 4 [.int .i64 0, .int .i64 0, .sl 1 []]), m (st (v 4) (v 15) 3), n 5 (asg 5 (v 16))]) (Q (R [n 18 (mov 18 (v 3)), n 19 (call (some 19) 79 [v 18]), n 17 (mov 17 (v 19)), n 20 (xtr 20 (v 17) 0), n 21 (xtr 21 (v 17) 1), n 6 (alc 6 [.int .i64 0, .int .i64 0, .sl 1 []]), m (st (v 6) (v 20) 3), n 7 (asg 7 (v 21))]) (Q (R [n 22 (mov 22 (v 5)), n 23 (mov 23 (v 7)), n 24 (beq 24 false (v 22) (v 23)), n 25 (mov 25 (v 24)), h 25 true 26 (mov 26 (v 5)), h 25 true 27 (un 27 .not (v 26)), h 25 true 28 (mov 28 (v 27)), h 28 true 29 (fld 29 (v 4) 0), h 28 true 30 (ld 30 (v 29) 1 false), h 28 true 31 (bin 31 .eql (v 30) (k 0)), h 25 true 32 (pck 32 (v 28) (v 31) k0), h 25 true 33 (mov 33 (v 32)), h 33 false 34 (mov 34 (v 5)), h 33 false 35 (mov 35 (v 34)), h 35 true 36 (ld 36 (v 4) 3 true), h 35 true 37 (call (some 37) 35 [v 36]), h 33 false 38 (pck 38 (v 35) (v 37) k0), h 33 false 39 (mov 39 (v 38)), h 39 true 40 (ld 40 (v 4) 3 true), h 39 true 41 (call (some 41) 54 [v 40]), h 39 true 42 (mov 42 (v 3)), h 39 true 43 (call (some 43) 72 [v 41, v 42]), h 33 false 44 (pck 44 (v 39) (v 43) k0), h 25 true 45 (pck 45 (v 33) k1 (v 44)), n 46 (pck 46 (v 25) (v 45) k0), n 2 (asg 2 (v 46))]) .ret)))))
def c_S_RecOk : Cmd := Q (R [n 1 (box 1 (v 0)), n 2 (asg 2 k0)]) (Q (R [n 3 (fld 3 (v 1) 0), n 4 (ld 4 (v 3) 1 false), n 5 (call (some 5) 120 [v 4, k 1, k 4]), n 6 (mov 6 (v 5)), h 6 true 7 (fld 7 (v 1) 1), h 6 true 8 (ld 8 (v 7) 1 false), h 6 true 9 (call (some 9) 120 [v 8, k 0, k 1000000]), n 10 (pck 10 (v 6) (v 9) k0), n 11 (mov 11 (v 10)), h 11 true 12 (fld 12 (v 1) 2), h 11 true 13 (ld 13 (v 12) 1 false), h 11 true 14 (len 14 (v 13)), h 11 true 15 (bin 15 .leq (v 14) (k 380)), n 16 (pck 16 (v 11) (v 15) k0), n 2 (asg 2 (v 16))]) .ret)
def c_I_RecOk : Cmd := Q (R [n 1 (box 1 (v 0)), n 2 (asg 2 k0)]) (Q (R [n 3 (fld 3 (v 1) 0), n 4 (ld 4 (v 3) 1 false), n 5 (call (some 5) 121 [v 4, k 1, k 4]), n 6 (mov 6 (v 5)), h 6 true 7 (fld 7 (v 1) 1), h 6 true 8 (ld 8 (v 7) 1 false), h 6 true 9 (call (some 9) 121 [v 8, k 0, k 1000000]), n 10 (pck 10 (v 6) (v 9) k0), n 11 (mov 11 (v 10)), h 11 true 12 (fld 12 (v 1) 2), h 11 true 13 (ld 13 (v 12) 1 false), h 11 true 14 (len 14 (v 13)), h 11 true 15 (bin 15 .leq (v 14) (k 380)), n 16 (pck 16 (v 11) (v 15) k0), n 2 (asg 2 (v 16))]) .ret)
def c_S_PutRec : Cmd := Q (R [n 1 (box 1 (v 0)), n 2 (asg 2 (.c (.own 1 [])))]) (Q (Q (R [n 5 (ld 5 (v 1) 3 true), n 6 (call (some 6) 33 [v 5]), n 7 (un 7 .not (v 6))]) (F (v 7) (Q (R [n 8 (bsl 8 1 []), n 2 (asg 2 (v 8))]) .ret) .skip)) (Q (D [0, 0, 2, 7, 0, 16, 63, 0, 128, 384, 1023, 2047] [n 9 (bsl 9 1 []), n 10 (fld 10 (v 1) 0), n 11 (ld 11 (v 10) 1 false), n 12 (call (some 12) 123 [v 9, v 11]), n 13 (fld 13 (v 1) 1), n 14 (ld 14 (v 13) 1 false), n 15 (call (some 15) 123 [v 12, v 14]), n 16 (fld 16 (v 1) 2), n 17 (ld 17 (v 16) 1 false), n 18 (b2s 18 (v 17)), n 19 (call (some 19) 122 [v 15, v 18]), n 3 (asg 3 (v 19))]) (Q (R [n 20 (mov 20 (v 3)), n 21 (call (some 21) 129 [v 20]), n 4 (asg 4 (v 21))]) (Q (R [n 22 (mov 22 (v 3)), n 23 (mov 23 (v 4)), n 24 (bin 24 .shr (v 23) (.c (.int .u64 24))), n 25 (conv 25 .u8 (v 24)), n 26 (mov 26 (v 4)), n 27 (bin 27 .shr (v 26) (.c (.int .u64 16))), n 28 (conv 28 .u8 (v 27)), n 29 (mov 29 (v 4)), n 30 (bin 30 .shr (v 29) (.c (.int .u64 8))), n 31 (conv 31 .u8 (v 30)), n 32 (mov 32 (v 4)), n 33 (conv 33 .u8 (v 32)), n 34 (bsl 34 1 [v 25, v 28, v 31, v 33]), n 35 (app 35 (v 22) (v 34) 1 1), n 2 (asg 2 (v 35))]) .ret))))
def c_I_PutRec : Cmd := Q (R [n 1 (box 1 (v 0)), n 2 (asg 2 (.c (.own 1 [])))]) (Q (Q (R [n 3 (ld 3 (v 1) 3 true), n 4 (call (some 4) 35 [v 3]), n 5 (un 5 .not (v 4))]) (F (v 5) (Q (R [n 2 (asg 2 (.c (.own 1 [])))]) .ret) .skip)) (Q (D [0, 1, 3, 0, 8, 31, 0, 64, 192, 511, 1023, 2047] [n 6 (fld 6 (v 1) 0), n 7 (ld 7 (v 6) 1 false), n 8 (call (some 8) 124 [.c (.own 1 []), v 7]), n 9 (fld 9 (v 1) 1), n 10 (ld 10 (v 9) 1 false), n 11 (call (some 11) 124 [v 8, v 10]), n 12 (fld 12 (v 1) 2), n 13 (ld 13 (v 12) 1 false), n 14 (b2s 14 (v 13)), n 15 (call (some 15) 125 [v 11, v 14]), n 16 (call (some 16) 130 [v 15]), n 2 (asg 2 (v 16))]) .ret))
def c_L_big : Cmd := Q (R [n 2 (asg 2 k0)]) (Q (R [n 3 (mov 3 (v 0)), n 4 (len 4 (v 3)), n 5 (bin 5 .gtr (v 4) (k 1048576)), n 2 (asg 2 (v 5))]) .ret)
def c_I_GetRec : Cmd := Q (R [n 2 (alc 2 [.int .i64 0, .int .i64 0, .sl 1 []]), n 3 (asg 3 k0)]) (Q (R [n 9 (mov 9 (v 0)), n 10 (call (some 10) 143 [v 9]), n 8 (mov 8 (v 10)), n 11 (xtr 11 (v 8) 0), n 12 (xtr 12 (v 8) 1), n 4 (asg 4 (v 11)), n 5 (asg 5 (v 12))]) (Q (R [n 13 (mov 13 (v 4)), n 14 (mov 14 (v 5)), n 15 (bld 15 [.sl 1 [], .int .i64 0, .bool false] [(0, 1, v 13), (2, 1, v 14)]), n 16 (box 16 (v 15)), n 6 (asg 6 (v 16))]) (Q (R [n 17 (bld 17 [.int .i64 0, .int .i64 0, .sl 1 []] []), n 7 (alc 7 [.int .i64 0, .int .i64 0, .sl 1 []]), m (st (v 7) (v 17) 3)]) (Q (R [n 18 (mov 18 (v 6)), n 19 (call (some 19) 135 [v 18]), n 20 (fld 20 (v 7) 0), m (st (v 20) (v 19) 1)]) (Q (R [n 21 (mov 21 (v 6)), n 22 (call (some 22) 135 [v 21]), n 23 (fld 23 (v 7) 1), m (st (v 23) (v 22) 1)]) (Q (R [n 24 (mov 24 (v 6)), n 25 (call (some 25) 136 [v 24]), n 26 (s2b 26 (v 25)), n 27 (fld 27 (v 7) 2), m (st (v 27) (v 26) 1)]) (Q (Q (R [n 28 (mov 28 (v 6)), n 29 (call (some 29) 137 [v 28]), n 30 (un 30 .not (v 29)), n 31 (mov 31 (v 30)), h 31 false 32 (ld 32 (v 7) 3 true), h 31 false 33 (call (some 33) 35 [v 32]), h 31 false 34 (un 34 .not (v 33)), n 35 (pck 35 (v 31) k1 (v 34))]) (F (v 35) (Q (R [n 36 (bld 36 [.int .i64 0, .int .i64 0, .sl 1 []] []), m (st (v 2) (v 36) 3), n 3 (asg 3 k0)]) .ret) .skip)) (Q (R [n 37 (ld 37 (v 7) 3 true), m (st (v 2) (v 37) 3), n 3 (asg 3 k1)]) .ret))))))))
def c_L_sameBytes : Cmd := Q (R [n 4 (asg 4 k0)]) (Q (Q (R [n 6 (mov 6 (v 0)), n 7 (len 7 (v 6)), n 8 (mov 8 (v 1)), n 9 (len 9 (v 8)), n 10 (bin 10 .neq (v 7) (v 9))]) (F (v 10) (Q (R [n 4 (asg 4 k0)]) .ret) .skip)) (Q (Q (R [n 5 (asg 5 (k 0))]) (.blk 0 (.loop (Q (Q (R [n 11 (mov 11 (v 5)), n 12 (mov 12 (v 0)), n 13 (len 13 (v 12)), n 14 (bin 14 .lss (v 11) (v 13))]) (F (v 14) .skip (.exit 0))) (Q (.blk 1 (Q (D [0, 0, 3, 7, 0, 0, 48, 112, 255] [n 17 (mov 17 (v 0)), n 18 (mov 18 (v 5)), n 19 (idx 19 (v 17) (v 18) 1), n 20 (ld 20 (v 19) 1 false), n 21 (mov 21 (v 1)), n 22 (mov 22 (v 5)), n 23 (idx 23 (v 21) (v 22) 1), n 24 (ld 24 (v 23) 1 false), n 25 (bin 25 .neq (v 20) (v 24))]) (F (v 25) (Q (R [n 4 (asg 4 k0)]) .ret) .skip))) (R [n 15 (mov 15 (v 5)), n 16 (bin 16 .add (v 15) (k 1)), n 5 (asg 5 (v 16))])))))) (Q (R [n 4 (asg 4 k1)]) .ret)))
def c_S_GetRec : Cmd := Q (R [n 2 (alc 2 [.int .i64 0, .int .i64 0, .sl 1 []]), n 3 (asg 3 k0)]) (Q (R [n 9 (mov 9 (v 0)), n 10 (len 10 (v 9)), n 11 (bin 11 .sub (v 10) (k 4)), n 4 (asg 4 (v 11))]) (Q (Q (R [n 12 (mov 12 (v 4)), n 13 (bin 13 .lss (v 12) (k 0))]) (F (v 13) (Q (R [n 14 (bld 14 [.int .i64 0, .int .i64 0, .sl 1 []] []), m (st (v 2) (v 14) 3), n 3 (asg 3 k0)]) .ret) .skip)) (Q (R [n 5 (asg 5 (k 0))]) (Q (Q (R [n 15 (mov 15 (v 4)), n 6 (asg 6 (v 15))]) (.blk 0 (.loop (Q (Q (R [n 16 (mov 16 (v 6)), n 17 (mov 17 (v 0)), n 18 (len 18 (v 17)), n 19 (bin 19 .lss (v 16) (v 18))]) (F (v 19) .skip (.exit 0))) (Q (.blk 1 (R [n 22 (mov 22 (v 5)), n 23 (bin 23 .shl (v 22) (.c (.int .u64 8))), n 24 (mov 24 (v 0)), n 25 (mov 25 (v 6)), n 26 (idx 26 (v 24) (v 25) 1), n 27 (ld 27 (v 26) 1 false), n 28 (conv 28 .i64 (v 27)), n 29 (bin 29 .or (v 23) (v 28)), n 5 (asg 5 (v 29))])) (R [n 20 (mov 20 (v 6)), n 21 (bin 21 .add (v 20) (k 1)), n 6 (asg 6 (v 21))])))))) (Q (R [n 30 (mov 30 (v 0)), n 31 (mov 31 (v 4)), n 32 (slc 32 (v 30) none (some (v 31)) 1), n 33 (bld 33 [.sl 1 [], .int .i64 0, .bool false] [(0, 1, v 32)]), n 34 (box 34 (v 33)), n 7 (asg 7 (v 34))]) (Q (R [n 35 (mov 35 (v 7)), n 36 (call (some 36) 133 [v 35]), n 37 (bld 37 [.int .i64 0, .int .i64 0, .sl 1 []] [(0, 1, v 36)]), n 8 (alc 8 [.int .i64 0, .int .i64 0, .sl 1 []]), m (st (v 8) (v 37) 3)]) (Q (R [n 38 (mov 38 (v 7)), n 39 (call (some 39) 133 [v 38]), n 40 (fld 40 (v 8) 1), m (st (v 40) (v 39) 1)]) (Q (R [n 41 (mov 41 (v 7)), n 42 (call (some 42) 134 [v 41]), n 43 (s2b 43 (v 42)), n 44 (fld 44 (v 8) 2), m (st (v 44) (v 43) 1)]) (Q (Q (R [n 45 (mov 45 (v 7)), n 46 (nck 46 (v 45)), n 47 (fld 47 (v 46) 2), n 48 (ld 48 (v 47) 1 false), n 49 (mov 49 (v 48)), h 49 false 50 (mov 50 (v 7)), h 49 false 51 (nck 51 (v 50)), h 49 false 52 (fld 52 (v 51) 1), h 49 false 53 (ld 53 (v 52) 1 false), h 49 false 54 (mov 54 (v 4)), h 49 false 55 (bin 55 .neq (v 53) (v 54)), n 56 (pck 56 (v 49) k1 (v 55)), n 57 (mov 57 (v 56)), h 57 false 58 (mov 58 (v 5)), h 57 false 59 (mov 59 (v 0)), h 57 false 60 (mov 60 (v 4)), h 57 false 61 (slc 61 (v 59) none (some (v 60)) 1), h 57 false 62 (call (some 62) 129 [v 61]), h 57 false 63 (bin 63 .neq (v 58) (v 62)), n 64 (pck 64 (v 57) k1 (v 63)), n 65 (mov 65 (v 64)), h 65 false 66 (ld 66 (v 8) 3 true), h 65 false 67 (call (some 67) 33 [v 66]), h 65 false 68 (un 68 .not (v 67)), n 69 (pck 69 (v 65) k1 (v 68))]) (F (v 69) (Q (R [n 70 (bld 70 [.int .i64 0, .int .i64 0, .sl 1 []] []), m (st (v 2) (v 70) 3), n 3 (asg 3 k0)]) .ret) .skip)) (Q (R [n 71 (ld 71 (v 8) 3 true), m (st (v 2) (v 71) 3), n 3 (asg 3 k1)]) .ret))))))))))
def c_S_DrawGetRec : Cmd := Q (R [n 2 (asg 2 (.c (.own 1 [])))]) (Q (R [n 5 (mov 5 (v 0)), n 6 (call (some 6) 141 [v 5]), n 3 (asg 3 (v 6))]) (Q (R [n 7 (mov 7 (v 3)), n 8 (call (some 8) 156 [v 7]), n 9 (call (some 9) 53 [v 8]), n 4 (asg 4 (v 9))]) (Q (Q (R [n 10 (mov 10 (v 3)), n 11 (call (some 11) 148 [v 10, k 5])]) (.blk 0 (Q (R [n 13 (bin 13 .eql (v 11) (k 0)), n 12 (asg 12 (v 13))]) (F (v 12) (D [0, 0, 0, 4, 14, 31, 63, 0, 158, 414, 926, 2047, 4095, 8191] [n 14 (mov 14 (v 4)), n 15 (mov 15 (v 3)), n 16 (mov 16 (v 4)), n 17 (len 17 (v 16)), n 18 (call (some 18) 148 [v 15, v 17]), n 19 (idx 19 (v 14) (v 18) 1), n 20 (ld 20 (v 19) 1 false), n 21 (mov 21 (v 3)), n 22 (call (some 22) 148 [v 21, k 8]), n 23 (conv 23 .u64 (v 22)), n 24 (bin 24 .shl (.c (.int .u8 1)) (v 23)), n 25 (bin 25 .xor (v 20) (v 24)), n 26 (idx 26 (v 14) (v 18) 1), m (st (v 26) (v 25) 1)]) (Q (R [n 28 (bin 28 .eql (v 11) (k 1)), n 27 (asg 27 (v 28))]) (F (v 27) (R [n 29 (mov 29 (v 4)), n 30 (mov 30 (v 3)), n 31 (mov 31 (v 4)), n 32 (len 32 (v 31)), n 33 (call (some 33) 148 [v 30, v 32]), n 34 (slc 34 (v 29) none (some (v 33)) 1), n 4 (asg 4 (v 34))]) (Q (R [n 36 (bin 36 .eql (v 11) (k 2)), n 35 (asg 35 (v 36))]) (F (v 35) (R [n 37 (mov 37 (v 4)), n 38 (bsl 38 1 [.c (.int .u8 0)]), n 39 (app 39 (v 37) (v 38) 1 1), n 4 (asg 4 (v 39))]) .skip)))))))) (Q (R [n 40 (mov 40 (v 4)), n 2 (asg 2 (v 40))]) .ret))))
def c_S_l1In : Cmd := Q (R [n 6 (asg 6 k0)]) (Q (R [n 7 (mov 7 (v 0)), n 8 (mov 8 (v 1)), n 9 (bin 9 .geq (v 7) (v 8)), n 10 (mov 10 (v 9)), h 10 true 11 (mov 11 (v 0)), h 10 true 12 (mov 12 (v 2)), h 10 true 13 (bin 13 .leq (v 11) (v 12)), n 14 (pck 14 (v 10) (v 13) k0), n 6 (asg 6 (v 14))]) .ret)
def c_I_from : Cmd := Q (R [n 6 (asg 6 k0)]) (Q (R [n 7 (mov 7 (v 0)), n 8 (mov 8 (v 1)), n 9 (bin 9 .geq (v 7) (v 8)), n 10 (mov 10 (v 9)), h 10 true 11 (mov 11 (v 0)), h 10 true 12 (mov 12 (v 2)), h 10 true 13 (bin 13 .leq (v 11) (v 12)), n 14 (pck 14 (v 10) (v 13) k0), n 6 (asg 6 (v 14))]) .ret)
def c_S_PutText : Cmd := Q (R [n 4 (asg 4 (.c (.own 1 [])))]) (Q (R [n 5 (mov 5 (v 0)), n 6 (mov 6 (v 1)), n 7 (lens 7 (v 6)), n 8 (call (some 8) 123 [v 5, v 7]), n 9 (mov 9 (v 1)), n 10 (app 10 (v 8) (v 9) 1 1), n 4 (asg 4 (v 10))]) .ret)
def c_S_PutNum : Cmd := Q (R [n 4 (asg 4 (.c (.own 1 [])))]) (Q (R [n 6 (bsl 6 1 []), n 7 (mov 7 (v 0)), n 8 (app 8 (v 6) (v 7) 1 1), n 5 (asg 5 (v 8))]) (Q (Q (R [n 9 (mov 9 (v 1)), n 10 (bin 10 .gtr (v 9) (k 1000000))]) (F (v 10) (R [n 1 (asg 1 (k 1000000))]) .skip)) (Q (Q (R [n 11 (mov 11 (v 1)), n 12 (bin 12 .lss (v 11) (k 0))]) (F (v 12) (R [n 1 (asg 1 (k 0))]) .skip)) (Q (.blk 0 (.loop (Q (Q (R [n 13 (mov 13 (v 1)), n 14 (bin 14 .gtr (v 13) (k 127))]) (F (v 14) .skip (.exit 0))) (.blk 1 (Q (R [n 15 (mov 15 (v 5)), n 16 (mov 16 (v 1)), n 17 (bin 17 .and (v 16) (k 127)), n 18 (bin 18 .or (v 17) (k 128)), n 19 (conv 19 .u8 (v 18)), n 20 (bsl 20 1 [v 19]), n 21 (app 21 (v 15) (v 20) 1 1), n 5 (asg 5 (v 21))]) (R [n 22 (mov 22 (v 1)), n 23 (bin 23 .shr (v 22) (.c (.int .u64 7))), n 1 (asg 1 (v 23))])))))) (Q (R [n 24 (mov 24 (v 5)), n 25 (mov 25 (v 1)), n 26 (conv 26 .u8 (v 25)), n 27 (bsl 27 1 [v 26]), n 28 (app 28 (v 24) (v 27) 1 1), n 4 (asg 4 (v 28))]) .ret)))))
def c_I_PutNum : Cmd := Q (R [n 4 (asg 4 (.c (.own 1 [])))]) (Q (R [n 6 (mov 6 (v 0)), n 7 (call (some 7) 144 [v 6]), n 5 (asg 5 (v 7))]) (Q (R [n 8 (mov 8 (v 1)), n 9 (mn 9 (v 8) (k 1000000)), n 10 (mx 10 (k 0) (v 9)), n 1 (asg 1 (v 10))]) (Q (.blk 0 (.loop (Q (Q (R [n 11 (mov 11 (v 1)), n 12 (bin 12 .geq (v 11) (k 128))]) (F (v 12) .skip (.exit 0))) (.blk 1 (Q (R [n 13 (mov 13 (v 5)), n 14 (mov 14 (v 1)), n 15 (bin 15 .rem (v 14) (k 128)), n 16 (bin 16 .add (v 15) (k 128)), n 17 (conv 17 .u8 (v 16)), n 18 (bsl 18 1 [v 17]), n 19 (app 19 (v 13) (v 18) 1 1), n 5 (asg 5 (v 19))]) (R [n 20 (mov 20 (v 1)), n 21 (bin 21 .quo (v 20) (k 128)), n 1 (asg 1 (v 21))])))))) (Q (R [n 22 (mov 22 (v 5)), n 23 (mov 23 (v 1)), n 24 (conv 24 .u8 (v 23)), n 25 (bsl 25 1 [v 24]), n 26 (app 26 (v 22) (v 25) 1 1), n 4 (asg 4 (v 26))]) .ret))))
def c_I_PutText : Cmd := Q (R [n 4 (asg 4 (.c (.own 1 [])))]) (Q (R [n 5 (mov 5 (v 0)), n 6 (mov 6 (v 1)), n 7 (lens 7 (v 6)), n 8 (call (some 8) 124 [v 5, v 7]), n 9 (mov 9 (v 1)), n 10 (app 10 (v 8) (v 9) 1 1), n 4 (asg 4 (v 10))]) .ret)
def c_S_Crc : Cmd := Q (R [n 2 (asg 2 (k 0))]) (Q (R [n 3 (asg 3 (k 4294967295))]) (Q (Q (R [n 4 (asg 4 (k 0))]) (.blk 0 (.loop (Q (Q (R [n 7 (mov 7 (v 4)), n 8 (mov 8 (v 0)), n 9 (len 9 (v 8)), n 10 (bin 10 .lss (v 7) (v 9))]) (F (v 10) .skip (.exit 0))) (Q (.blk 1 (Q (R [n 13 (mov 13 (v 3)), n 14 (mov 14 (v 0)), n 15 (mov 15 (v 4)), n 16 (idx 16 (v 14) (v 15) 1), n 17 (ld 17 (v 16) 1 false), n 18 (conv 18 .i64 (v 17)), n 19 (bin 19 .xor (v 13) (v 18)), n 3 (asg 3 (v 19))]) (Q (R [n 5 (asg 5 (k 0))]) (.blk 2 (.loop (Q (Q (R [n 20 (mov 20 (v 5)), n 21 (bin 21 .lss (v 20) (k 8))]) (F (v 21) .skip (.exit 2))) (Q (.blk 3 (Q (R [n 24 (mov 24 (v 3)), n 25 (bin 25 .and (v 24) (k 1)), n 6 (asg 6 (v 25))]) (Q (R [n 26 (mov 26 (v 3)), n 27 (bin 27 .shr (v 26) (.c (.int .u64 1))), n 3 (asg 3 (v 27))]) (Q (R [n 28 (mov 28 (v 6)), n 29 (bin 29 .eql (v 28) (k 1))]) (F (v 29) (R [n 30 (mov 30 (v 3)), n 31 (bin 31 .xor (v 30) (k 2197175160)), n 3 (asg 3 (v 31))]) .skip))))) (R [n 22 (mov 22 (v 5)), n 23 (bin 23 .add (v 22) (k 1)), n 5 (asg 5 (v 23))])))))))) (R [n 11 (mov 11 (v 4)), n 12 (bin 12 .add (v 11) (k 1)), n 4 (asg 4 (v 12))])))))) (Q (R [n 32 (mov 32 (v 3)), n 33 (bin 33 .xor (v 32) (k 4294967295)), n 2 (asg 2 (v 33))]) .ret)))
def c_I_sealed : Cmd := Q (R [n 2 (asg 2 (.c (.own 1 [])))]) (Q (R [n 4 (mov 4 (v 0)), n 5 (call (some 5) 172 [v 4]), n 3 (asg 3 (v 5))]) (Q (R [n 6 (mov 6 (v 0)), n 7 (call (some 7) 144 [v 6]), n 8 (mov 8 (v 3)), n 9 (bin 9 .shr (v 8) (.c (.int .u64 24))), n 10 (conv 10 .u8 (v 9)), n 11 (mov 11 (v 3)), n 12 (bin 12 .shr (v 11) (.c (.int .u64 16))), n 13 (conv 13 .u8 (v 12)), n 14 (mov 14 (v 3)), n 15 (bin 15 .shr (v 14) (.c (.int .u64 8))), n 16 (conv 16 .u8 (v 15)), n 17 (mov 17 (v 3)), n 18 (conv 18 .u8 (v 17)), n 19 (bsl 19 1 [v 10, v 13, v 16, v 18]), n 20 (app 20 (v 7) (v 19) 1 1), n 2 (asg 2 (v 20))]) .ret))
def c_S_l3Num : Cmd := Q (R [n 2 (asg 2 (k 0))]) (Q (D [0, 1, 3, 7, 0, 16, 48, 112, 255, 511, 1023, 2047, 4095, 2047, 12287, 32767] [n 7 (mov 7 (v 0)), n 8 (nck 8 (v 7)), n 9 (fld 9 (v 8) 0), n 10 (ld 10 (v 9) 1 false), n 11 (mov 11 (v 0)), n 12 (nck 12 (v 11)), n 13 (fld 13 (v 12) 1), n 14 (ld 14 (v 13) 1 false), n 15 (call (some 15) 175 [v 10, v 14]), n 6 (mov 6 (v 15)), n 16 (xtr 16 (v 6) 0), n 17 (xtr 17 (v 6) 1), n 18 (xtr 18 (v 6) 2), n 3 (asg 3 (v 16)), n 4 (asg 4 (v 17)), n 5 (asg 5 (v 18))]) (Q (Q (R [n 19 (mov 19 (v 0)), n 20 (nck 20 (v 19)), n 21 (fld 21 (v 20) 2), n 22 (ld 22 (v 21) 1 false), n 23 (mov 23 (v 22)), h 23 false 24 (mov 24 (v 5)), h 23 false 25 (un 25 .not (v 24)), n 26 (pck 26 (v 23) k1 (v 25))]) (F (v 26) (Q (R [n 27 (mov 27 (v 0)), n 28 (nck 28 (v 27)), n 29 (fld 29 (v 28) 2), m (st (v 29) k1 1)]) (Q (R [n 2 (asg 2 (k 0))]) .ret)) .skip)) (Q (R [n 30 (mov 30 (v 0)), n 31 (mov 31 (v 4)), n 32 (nck 32 (v 30)), n 33 (fld 33 (v 32) 1), m (st (v 33) (v 31) 1)]) (Q (R [n 34 (mov 34 (v 3)), n 2 (asg 2 (v 34))]) .ret))))
def c_S_l3Text : Cmd := Q (R [n 2 (asg 2 (.c (.str [])))]) (Q (D [0, 1, 3, 7, 0, 16, 48, 112, 255, 511, 1023, 2047, 4095, 2047, 12287, 32767] [n 7 (mov 7 (v 0)), n 8 (nck 8 (v 7)), n 9 (fld 9 (v 8) 0), n 10 (ld 10 (v 9) 1 false), n 11 (mov 11 (v 0)), n 12 (nck 12 (v 11)), n 13 (fld 13 (v 12) 1), n 14 (ld 14 (v 13) 1 false), n 15 (call (some 15) 176 [v 10, v 14]), n 6 (mov 6 (v 15)), n 16 (xtr 16 (v 6) 0), n 17 (xtr 17 (v 6) 1), n 18 (xtr 18 (v 6) 2), n 3 (asg 3 (v 16)), n 4 (asg 4 (v 17)), n 5 (asg 5 (v 18))]) (Q (Q (R [n 19 (mov 19 (v 0)), n 20 (nck 20 (v 19)), n 21 (fld 21 (v 20) 2), n 22 (ld 22 (v 21) 1 false), n 23 (mov 23 (v 22)), h 23 false 24 (mov 24 (v 5)), h 23 false 25 (un 25 .not (v 24)), n 26 (pck 26 (v 23) k1 (v 25))]) (F (v 26) (Q (R [n 27 (mov 27 (v 0)), n 28 (nck 28 (v 27)), n 29 (fld 29 (v 28) 2), m (st (v 29) k1 1)]) (Q (R [n 2 (asg 2 (.c (.str [])))]) .ret)) .skip)) (Q (R [n 30 (mov 30 (v 0)), n 31 (mov 31 (v 4)), n 32 (nck 32 (v 30)), n 33 (fld 33 (v 32) 1), m (st (v 33) (v 31) 1)]) (Q (R [n 34 (mov 34 (v 3)), n 2 (asg 2 (v 34))]) .ret))))
def c_I_reader_num : Cmd := Q (R [n 2 (asg 2 (k 0))]) (Q (Q (R [n 6 (mov 6 (v 0)), n 7 (nck 7 (v 6)), n 8 (fld 8 (v 7) 2), n 9 (ld 9 (v 8) 1 false), n 10 (un 10 .not (v 9))]) (F (v 10) (Q (R [n 2 (asg 2 (k 0))]) .ret) .skip)) (Q (D [0, 1, 3, 7, 0, 16, 48, 112, 255, 511, 1023, 2047, 4095, 2047, 12287, 32767] [n 12 (mov 12 (v 0)), n 13 (nck 13 (v 12)), n 14 (fld 14 (v 13) 0), n 15 (ld 15 (v 14) 1 false), n 16 (mov 16 (v 0)), n 17 (nck 17 (v 16)), n 18 (fld 18 (v 17) 1), n 19 (ld 19 (v 18) 1 false), n 20 (call (some 20) 177 [v 15, v 19]), n 11 (mov 11 (v 20)), n 21 (xtr 21 (v 11) 0), n 22 (xtr 22 (v 11) 1), n 23 (xtr 23 (v 11) 2), n 3 (asg 3 (v 21)), n 4 (asg 4 (v 22)), n 5 (asg 5 (v 23))]) (Q (R [n 24 (mov 24 (v 0)), n 25 (mov 25 (v 0)), n 26 (mov 26 (v 4)), n 27 (mov 27 (v 5)), n 28 (nck 28 (v 24)), n 29 (fld 29 (v 28) 1), m (st (v 29) (v 26) 1), n 30 (nck 30 (v 25)), n 31 (fld 31 (v 30) 2), m (st (v 31) (v 27) 1)]) (Q (R [n 32 (mov 32 (v 3)), n 2 (asg 2 (v 32))]) .ret))))
def c_I_reader_text : Cmd := Q (R [n 2 (asg 2 (.c (.str [])))]) (Q (Q (R [n 6 (mov 6 (v 0)), n 7 (nck 7 (v 6)), n 8 (fld 8 (v 7) 2), n 9 (ld 9 (v 8) 1 false), n 10 (un 10 .not (v 9))]) (F (v 10) (Q (R [n 2 (asg 2 (.c (.str [])))]) .ret) .skip)) (Q (D [0, 1, 3, 7, 0, 16, 48, 112, 255, 511, 1023, 2047, 4095, 2047, 12287, 32767] [n 12 (mov 12 (v 0)), n 13 (nck 13 (v 12)), n 14 (fld 14 (v 13) 0), n 15 (ld 15 (v 14) 1 false), n 16 (mov 16 (v 0)), n 17 (nck 17 (v 16)), n 18 (fld 18 (v 17) 1), n 19 (ld 19 (v 18) 1 false), n 20 (call (some 20) 178 [v 15, v 19]), n 11 (mov 11 (v 20)), n 21 (xtr 21 (v 11) 0), n 22 (xtr 22 (v 11) 1), n 23 (xtr 23 (v 11) 2), n 3 (asg 3 (v 21)), n 4 (asg 4 (v 22)), n 5 (asg 5 (v 23))]) (Q (R [n 24 (mov 24 (v 0)), n 25 (mov 25 (v 0)), n 26 (mov 26 (v 4)), n 27 (mov 27 (v 5)), n 28 (nck 28 (v 24)), n 29 (fld 29 (v 28) 1), m (st (v 29) (v 26) 1), n 30 (nck 30 (v 25)), n 31 (fld 31 (v 30) 2), m (st (v 31) (v 27) 1)]) (Q (R [n 32 (mov 32 (v 3)), n 2 (asg 2 (v 32))]) .ret))))
def c_I_reader_done : Cmd := Q (R [n 2 (asg 2 k0)]) (Q (D [0, 1, 3, 7, 15, 31, 63, 127, 255, 31, 543, 1567, 3615, 7711, 16383, 32767, 65535] [n 3 (mov 3 (v 0)), n 4 (nck 4 (v 3)), n 5 (fld 5 (v 4) 2), n 6 (ld 6 (v 5) 1 false), n 7 (mov 7 (v 6)), h 7 true 8 (mov 8 (v 0)), h 7 true 9 (nck 9 (v 8)), h 7 true 10 (fld 10 (v 9) 1), h 7 true 11 (ld 11 (v 10) 1 false), h 7 true 12 (mov 12 (v 0)), h 7 true 13 (nck 13 (v 12)), h 7 true 14 (fld 14 (v 13) 0), h 7 true 15 (ld 15 (v 14) 1 false), h 7 true 16 (len 16 (v 15)), h 7 true 17 (bin 17 .eql (v 11) (v 16)), n 18 (pck 18 (v 7) (v 17) k0), n 2 (asg 2 (v 18))]) .ret)
def c_S_l1New : Cmd := Q (R [n 2 (asg 2 (.c (.undef)))]) (Q (R [n 5 (mov 5 (v 0)), n 6 (len 6 (v 5)), n 7 (bin 7 .add (k 351351) (v 6)), n 3 (asg 3 (v 7))]) (Q (Q (R [n 4 (asg 4 (k 0))]) (.blk 0 (.loop (Q (Q (R [n 8 (mov 8 (v 4)), n 9 (mov 9 (v 0)), n 10 (len 10 (v 9)), n 11 (bin 11 .lss (v 8) (v 10)), n 12 (mov 12 (v 11)), h 12 true 13 (mov 13 (v 4)), h 12 true 14 (bin 14 .lss (v 13) (k 4000)), n 15 (pck 15 (v 12) (v 14) k0)]) (F (v 15) .skip (.exit 0))) (Q (.blk 1 (R [n 18 (mov 18 (v 3)), n 19 (bin 19 .mul (v 18) (k 137)), n 20 (mov 20 (v 0)), n 21 (mov 21 (v 4)), n 22 (idx 22 (v 20) (v 21) 1), n 23 (ld 23 (v 22) 1 false), n 24 (conv 24 .i64 (v 23)), n 25 (bin 25 .add (v 19) (v 24)), n 26 (bin 26 .add (v 25) (k 11)), n 27 (bin 27 .and (v 26) (k 1073741823)), n 3 (asg 3 (v 27))])) (R [n 16 (mov 16 (v 4)), n 17 (bin 17 .add (v 16) (k 1)), n 4 (asg 4 (v 17))])))))) (Q (R [n 28 (mov 28 (v 0)), n 29 (mov 29 (v 3)), n 30 (bld 30 [.sl 1 [], .int .i64 0, .int .i64 0] [(0, 1, v 28), (2, 1, v 29)]), n 31 (box 31 (v 30)), n 2 (asg 2 (v 31))]) .ret)))
def c_I_opened : Cmd := Q (R [n 2 (asg 2 (.c (.own 1 []))), n 3 (asg 3 k0)]) (Q (R [n 5 (mov 5 (v 0)), n 6 (len 6 (v 5)), n 7 (bin 7 .sub (v 6) (k 4)), n 4 (asg 4 (v 7))]) (Q (Q (D [0, 1, 3, 7, 7, 31, 63, 127, 7, 263, 1023, 2047] [n 8 (mov 8 (v 4)), n 9 (bin 9 .lss (v 8) (k 0)), n 10 (mov 10 (v 9)), h 10 false 11 (mov 11 (v 0)), h 10 false 12 (mov 12 (v 4)), h 10 false 13 (slc 13 (v 11) none (some (v 12)) 1), h 10 false 14 (call (some 14) 130 [v 13]), h 10 false 15 (b2s 15 (v 14)), h 10 false 16 (mov 16 (v 0)), h 10 false 17 (b2s 17 (v 16)), h 10 false 18 (bin 18 .neq (v 15) (v 17)), n 19 (pck 19 (v 10) k1 (v 18))]) (F (v 19) (Q (R [n 2 (asg 2 (.c (.own 1 []))), n 3 (asg 3 k0)]) .ret) .skip)) (Q (R [n 20 (mov 20 (v 0)), n 21 (mov 21 (v 4)), n 22 (slc 22 (v 20) none (some (v 21)) 1), n 2 (asg 2 (v 22)), n 3 (asg 3 k1)]) .ret)))
def c_X_Clone_byte : Cmd := Q (R [n 2 (asg 2 (.c (.own 1 [])))]) (Q (Q (R [n 3 (mov 3 (v 0)), n 4 (isn 4 false (v 3) (.c (.own 1 [])))]) (F (v 4) (Q (R [n 2 (asg 2 (.c (.own 1 [])))]) .ret) .skip)) (Q (R [n 5 (bsl 5 1 []), n 6 (mov 6 (v 0)), n 7 (app 7 (v 5) (v 6) 1 1), n 2 (asg 2 (v 7))]) .ret))
def c_S_l1Int : Cmd := Q (R [n 4 (asg 4 (k 0))]) (Q (R [n 5 (mov 5 (v 1)), n 6 (mov 6 (v 0)), n 7 (mov 7 (v 1)), n 8 (len 8 (v 7)), n 9 (call (some 9) 148 [v 6, v 8]), n 10 (idx 10 (v 5) (v 9) 1), n 11 (ld 11 (v 10) 1 false), n 4 (asg 4 (v 11))]) .ret)
def c_S_l1Below : Cmd := Q (R [n 4 (asg 4 (k 0))]) (Q (Q (R [n 8 (mov 8 (v 1)), n 9 (bin 9 .leq (v 8) (k 0))]) (F (v 9) (Q (R [n 4 (asg 4 (k 0))]) .ret) .skip)) (Q (Q (R [n 10 (mov 10 (v 1)), n 11 (bin 11 .leq (v 10) (k 256))]) (F (v 11) (Q (R [n 12 (mov 12 (v 0)), n 13 (call (some 13) 179 [v 12]), n 14 (mov 14 (v 1)), n 15 (bin 15 .rem (v 13) (v 14)), n 4 (asg 4 (v 15))]) .ret) .skip)) (Q (R [n 16 (mov 16 (v 0)), n 17 (call (some 17) 179 [v 16]), n 5 (asg 5 (v 17))]) (Q (R [n 18 (mov 18 (v 0)), n 19 (call (some 19) 179 [v 18]), n 6 (asg 6 (v 19))]) (Q (R [n 20 (mov 20 (v 0)), n 21 (call (some 21) 179 [v 20]), n 7 (asg 7 (v 21))]) (Q (R [n 22 (mov 22 (v 5)), n 23 (bin 23 .mul (v 22) (k 65536)), n 24 (mov 24 (v 6)), n 25 (bin 25 .mul (v 24) (k 256)), n 26 (bin 26 .add (v 23) (v 25)), n 27 (mov 27 (v 7)), n 28 (bin 28 .add (v 26) (v 27)), n 29 (mov 29 (v 1)), n 30 (bin 30 .rem (v 28) (v 29)), n 4 (asg 4 (v 30))]) .ret))))))
def c_S_l1Some : Cmd := Q (R [n 2 (asg 2 (.c (.own 1 [])))]) (Q (R [n 3 (mov 3 (v 0)), n 4 (mov 4 (v 0)), n 5 (bsl 5 1 [k 0, k 1, k 2, k 5, k 9]), n 6 (call (some 6) 145 [v 4, v 5]), n 7 (call (some 7) 182 [v 3, v 6]), n 2 (asg 2 (v 7))]) .ret)
def c_S_l12Draw : Cmd := Q (R [n 2 (alc 2 [.int .i64 0, .int .i64 0, .sl 1 []])]) (Q (R [n 3 (mov 3 (v 0)), n 4 (call (some 4) 148 [v 3, k 4]), n 5 (bin 5 .add (k 1) (v 4)), n 6 (mov 6 (v 0)), n 7 (bsl 7 1 [k 0, k 1, k 300, k 1000000]), n 8 (call (some 8) 145 [v 6, v 7]), n 9 (mov 9 (v 0)), n 10 (call (some 10) 153 [v 9]), n 11 (bld 11 [.int .i64 0, .int .i64 0, .sl 1 []] [(0, 1, v 5), (1, 1, v 8), (2, 1, v 10)]), m (st (v 2) (v 11) 3)]) .ret)
def c_I_Crc : Cmd := Q (R [n 2 (asg 2 (k 0))]) (Q (R [n 3 (asg 3 (.c (.int .u32 4294967295)))]) (Q (Q (R [n 7 (mov 7 (v 0)), n 8 (len 8 (v 7)), n 9 (mov 9 (k 0))]) (.blk 0 (.loop (Q (R [n 10 (bin 10 .lss (v 9) (v 8))]) (Q (F (v 10) .skip (.exit 0)) (Q (.blk 1 (Q (R [n 11 (idx 11 (v 7) (v 9) 1), n 12 (ld 12 (v 11) 1 false), n 5 (asg 5 (v 12))]) (Q (R [n 13 (mov 13 (v 3)), n 14 (mov 14 (v 5)), n 15 (conv 15 .u32 (v 14)), n 16 (bin 16 .xor (v 13) (v 15)), n 3 (asg 3 (v 16))]) (Q (R [n 17 (mov 17 (k 0))]) (.blk 2 (.loop (Q (R [n 18 (bin 18 .lss (v 17) (k 8))]) (Q (F (v 18) .skip (.exit 2)) (Q (.blk 3 (Q (R [n 19 (mov 19 (v 3)), n 20 (bin 20 .and (v 19) (.c (.int .u32 1))), n 6 (asg 6 (v 20))]) (Q (R [n 21 (mov 21 (v 3)), n 22 (bin 22 .shr (v 21) (.c (.int .u64 1))), n 3 (asg 3 (v 22))]) (Q (R [n 23 (mov 23 (v 6)), n 24 (bin 24 .eql (v 23) (.c (.int .u32 1)))]) (F (v 24) (R [n 25 (mov 25 (v 3)), n 26 (bin 26 .xor (v 25) (.c (.int .u32 2197175160))), n 3 (asg 3 (v 26))]) .skip))))) (R [n 27 (bin 27 .add (v 17) (k 1)), n 17 (mov 17 (v 27))])))))))))) (R [n 28 (bin 28 .add (v 9) (k 1)), n 9 (mov 9 (v 28))]))))))) (Q (R [n 29 (mov 29 (v 3)), n 30 (un 30 .xor (v 29)), n 31 (conv 31 .i64 (v 30)), n 2 (asg 2 (v 31))]) .ret)))
def c_S_GetNum : Cmd := Q (R [n 4 (asg 4 (k 0)), n 5 (asg 5 (k 0)), n 6 (asg 6 k0)]) (Q (R [n 7 (asg 7 (k 0))]) (Q (Q (R [n 8 (asg 8 (k 0))]) (.blk 0 (.loop (Q (Q (R [n 10 (mov 10 (v 8)), n 11 (bin 11 .lss (v 10) (k 3)), n 12 (mov 12 (v 11)), h 12 true 13 (mov 13 (v 1)), h 12 true 14 (bin 14 .geq (v 13) (k 0)), n 15 (pck 15 (v 12) (v 14) k0), n 16 (mov 16 (v 15)), h 16 true 17 (mov 17 (v 1)), h 16 true 18 (mov 18 (v 0)), h 16 true 19 (len 19 (v 18)), h 16 true 20 (bin 20 .lss (v 17) (v 19)), n 21 (pck 21 (v 16) (v 20) k0), n 22 (mov 22 (v 21)), h 22 true 23 (mov 23 (v 1)), h 22 true 24 (mov 24 (v 8)), h 22 true 25 (bin 25 .add (v 23) (v 24)), h 22 true 26 (mov 26 (v 0)), h 22 true 27 (len 27 (v 26)), h 22 true 28 (bin 28 .lss (v 25) (v 27)), n 29 (pck 29 (v 22) (v 28) k0)]) (F (v 29) .skip (.exit 0))) (Q (.blk 1 (Q (R [n 32 (mov 32 (v 0)), n 33 (mov 33 (v 1)), n 34 (mov 34 (v 8)), n 35 (bin 35 .add (v 33) (v 34)), n 36 (idx 36 (v 32) (v 35) 1), n 37 (ld 37 (v 36) 1 false), n 38 (conv 38 .i64 (v 37)), n 9 (asg 9 (v 38))]) (Q (R [n 39 (mov 39 (v 7)), n 40 (mov 40 (v 9)), n 41 (bin 41 .and (v 40) (k 127)), n 42 (mov 42 (v 8)), n 43 (bin 43 .mul (k 7) (v 42)), n 44 (conv 44 .u64 (v 43)), n 45 (bin 45 .shl (v 41) (v 44)), n 46 (bin 46 .or (v 39) (v 45)), n 7 (asg 7 (v 46))]) (Q (Q (R [n 47 (mov 47 (v 9)), n 48 (bin 48 .gtr (v 47) (k 127))]) (F (v 48) (.exit 1) .skip)) (Q (Q (R [n 49 (mov 49 (v 8)), n 50 (bin 50 .gtr (v 49) (k 0)), n 51 (mov 51 (v 50)), h 51 true 52 (mov 52 (v 9)), h 51 true 53 (bin 53 .eql (v 52) (k 0)), n 54 (pck 54 (v 51) (v 53) k0), n 55 (mov 55 (v 54)), h 55 false 56 (mov 56 (v 7)), h 55 false 57 (bin 57 .gtr (v 56) (k 1000000)), n 58 (pck 58 (v 55) k1 (v 57))]) (F (v 58) (Q (R [n 4 (asg 4 (k 0)), n 5 (asg 5 (k 0)), n 6 (asg 6 k0)]) .ret) .skip)) (Q (R [n 59 (mov 59 (v 7)), n 60 (mov 60 (v 1)), n 61 (mov 61 (v 8)), n 62 (bin 62 .add (v 60) (v 61)), n 63 (bin 63 .add (v 62) (k 1)), n 4 (asg 4 (v 59)), n 5 (asg 5 (v 63)), n 6 (asg 6 k1)]) .ret)))))) (R [n 30 (mov 30 (v 8)), n 31 (bin 31 .add (v 30) (k 1)), n 8 (asg 8 (v 31))])))))) (Q (R [n 4 (asg 4 (k 0)), n 5 (asg 5 (k 0)), n 6 (asg 6 k0)]) .ret)))
def c_S_GetText : Cmd := Q (R [n 4 (asg 4 (.c (.str []))), n 5 (asg 5 (k 0)), n 6 (asg 6 k0)]) (Q (R [n 11 (mov 11 (v 0)), n 12 (mov 12 (v 1)), n 13 (call (some 13) 175 [v 11, v 12]), n 10 (mov 10 (v 13)), n 14 (xtr 14 (v 10) 0), n 15 (xtr 15 (v 10) 1), n 16 (xtr 16 (v 10) 2), n 7 (asg 7 (v 14)), n 8 (asg 8 (v 15)), n 9 (asg 9 (v 16))]) (Q (Q (R [n 17 (mov 17 (v 9)), n 18 (un 18 .not (v 17)), n 19 (mov 19 (v 18)), h 19 false 20 (mov 20 (v 7)), h 19 false 21 (mov 21 (v 0)), h 19 false 22 (len 22 (v 21)), h 19 false 23 (mov 23 (v 8)), h 19 false 24 (bin 24 .sub (v 22) (v 23)), h 19 false 25 (bin 25 .gtr (v 20) (v 24)), n 26 (pck 26 (v 19) k1 (v 25))]) (F (v 26) (Q (R [n 4 (asg 4 (.c (.str []))), n 5 (asg 5 (k 0)), n 6 (asg 6 k0)]) .ret) .skip)) (Q (R [n 27 (mov 27 (v 0)), n 28 (mov 28 (v 8)), n 29 (mov 29 (v 8)), n 30 (mov 30 (v 7)), n 31 (bin 31 .add (v 29) (v 30)), n 32 (slc 32 (v 27) (some (v 28)) (some (v 31)) 1), n 33 (b2s 33 (v 32)), n 34 (mov 34 (v 8)), n 35 (mov 35 (v 7)), n 36 (bin 36 .add (v 34) (v 35)), n 4 (asg 4 (v 33)), n 5 (asg 5 (v 36)), n 6 (asg 6 k1)]) .ret)))
def c_I_GetNum : Cmd := Q (R [n 4 (asg 4 (k 0)), n 5 (asg 5 (k 0)), n 6 (asg 6 k0)]) (Q (Q (R [n 11 (mov 11 (v 1)), n 12 (bin 12 .lss (v 11) (k 0))]) (F (v 12) (Q (R [n 4 (asg 4 (k 0)), n 5 (asg 5 (k 0)), n 6 (asg 6 k0)]) .ret) .skip)) (Q (R [n 7 (asg 7 (k 0))]) (Q (R [n 8 (asg 8 (k 1))]) (Q (Q (R [n 9 (asg 9 (k 0))]) (.blk 0 (.loop (Q (Q (R [n 13 (mov 13 (v 9)), n 14 (bin 14 .lss (v 13) (k 3)), n 15 (mov 15 (v 14)), h 15 true 16 (mov 16 (v 1)), h 15 true 17 (mov 17 (v 0)), h 15 true 18 (len 18 (v 17)), h 15 true 19 (mov 19 (v 9)), h 15 true 20 (bin 20 .sub (v 18) (v 19)), h 15 true 21 (bin 21 .lss (v 16) (v 20)), n 22 (pck 22 (v 15) (v 21) k0)]) (F (v 22) .skip (.exit 0))) (Q (.blk 1 (Q (R [n 25 (mov 25 (v 0)), n 26 (mov 26 (v 1)), n 27 (mov 27 (v 9)), n 28 (bin 28 .add (v 26) (v 27)), n 29 (idx 29 (v 25) (v 28) 1), n 30 (ld 30 (v 29) 1 false), n 31 (conv 31 .i64 (v 30)), n 10 (asg 10 (v 31))]) (Q (R [n 32 (mov 32 (v 7)), n 33 (mov 33 (v 10)), n 34 (bin 34 .rem (v 33) (k 128)), n 35 (mov 35 (v 8)), n 36 (bin 36 .mul (v 34) (v 35)), n 37 (bin 37 .add (v 32) (v 36)), n 7 (asg 7 (v 37))]) (Q (R [n 38 (mov 38 (v 8)), n 39 (bin 39 .mul (v 38) (k 128)), n 8 (asg 8 (v 39))]) (Q (Q (R [n 40 (mov 40 (v 10)), n 41 (bin 41 .geq (v 40) (k 128))]) (F (v 41) (.exit 1) .skip)) (Q (Q (R [n 42 (mov 42 (v 7)), n 43 (bin 43 .gtr (v 42) (k 1000000)), n 44 (mov 44 (v 43)), h 44 false 45 (mov 45 (v 10)), h 44 false 46 (bin 46 .eql (v 45) (k 0)), h 44 false 47 (mov 47 (v 46)), h 47 true 48 (mov 48 (v 9)), h 47 true 49 (bin 49 .gtr (v 48) (k 0)), h 44 false 50 (pck 50 (v 47) (v 49) k0), n 51 (pck 51 (v 44) k1 (v 50))]) (F (v 51) (.exit 0) .skip)) (Q (R [n 52 (mov 52 (v 7)), n 53 (mov 53 (v 1)), n 54 (mov 54 (v 9)), n 55 (bin 55 .add (v 53) (v 54)), n 56 (bin 56 .add (v 55) (k 1)), n 4 (asg 4 (v 52)), n 5 (asg 5 (v 56)), n 6 (asg 6 k1)]) .ret))))))) (R [n 23 (mov 23 (v 9)), n 24 (bin 24 .add (v 23) (k 1)), n 9 (asg 9 (v 24))])))))) (Q (R [n 4 (asg 4 (k 0)), n 5 (asg 5 (k 0)), n 6 (asg 6 k0)]) .ret)))))
def c_I_GetText : Cmd := Q (R [n 4 (asg 4 (.c (.str []))), n 5 (asg 5 (k 0)), n 6 (asg 6 k0)]) (Q (R [n 11 (mov 11 (v 0)), n 12 (mov 12 (v 1)), n 13 (call (some 13) 177 [v 11, v 12]), n 10 (mov 10 (v 13)), n 14 (xtr 14 (v 10) 0), n 15 (xtr 15 (v 10) 1), n 16 (xtr 16 (v 10) 2), n 7 (asg 7 (v 14)), n 8 (asg 8 (v 15)), n 9 (asg 9 (v 16))]) (Q (Q (R [n 17 (mov 17 (v 9)), n 18 (un 18 .not (v 17)), n 19 (mov 19 (v 18)), h 19 false 20 (mov 20 (v 7)), h 19 false 21 (mov 21 (v 0)), h 19 false 22 (len 22 (v 21)), h 19 false 23 (mov 23 (v 8)), h 19 false 24 (bin 24 .sub (v 22) (v 23)), h 19 false 25 (bin 25 .gtr (v 20) (v 24)), n 26 (pck 26 (v 19) k1 (v 25))]) (F (v 26) (Q (R [n 4 (asg 4 (.c (.str []))), n 5 (asg 5 (k 0)), n 6 (asg 6 k0)]) .ret) .skip)) (Q (R [n 27 (mov 27 (v 0)), n 28 (mov 28 (v 8)), n 29 (mov 29 (v 8)), n 30 (mov 30 (v 7)), n 31 (bin 31 .add (v 29) (v 30)), n 32 (slc 32 (v 27) (some (v 28)) (some (v 31)) 1), n 33 (b2s 33 (v 32)), n 34 (mov 34 (v 8)), n 35 (mov 35 (v 7)), n 36 (bin 36 .add (v 34) (v 35)), n 4 (asg 4 (v 33)), n 5 (asg 5 (v 36)), n 6 (asg 6 k1)]) .ret)))
def c_S_l1Byte : Cmd := Q (R [n 2 (asg 2 (k 0))]) (Q (R [n 4 (mov 4 (v 0)), n 5 (mov 5 (v 0)), n 6 (nck 6 (v 5)), n 7 (fld 7 (v 6) 2), n 8 (ld 8 (v 7) 1 false), n 9 (bin 9 .mul (v 8) (k 6364136223846793005)), n 10 (bin 10 .add (v 9) (k 1442695040888963407)), n 11 (nck 11 (v 4)), n 12 (fld 12 (v 11) 2), m (st (v 12) (v 10) 1)]) (Q (D [0, 1, 3, 7, 15, 0, 32, 96, 224, 480, 1023, 2047, 4095] [n 13 (mov 13 (v 0)), n 14 (nck 14 (v 13)), n 15 (fld 15 (v 14) 2), n 16 (ld 16 (v 15) 1 false), n 17 (bin 17 .shr (v 16) (.c (.int .u64 33))), n 18 (mov 18 (v 0)), n 19 (nck 19 (v 18)), n 20 (fld 20 (v 19) 2), n 21 (ld 21 (v 20) 1 false), n 22 (bin 22 .shr (v 21) (.c (.int .u64 47))), n 23 (bin 23 .xor (v 17) (v 22)), n 24 (bin 24 .and (v 23) (k 255)), n 3 (asg 3 (v 24))]) (Q (Q (D [0, 1, 3, 7, 0, 16, 48, 112, 240, 511] [n 25 (mov 25 (v 0)), n 26 (nck 26 (v 25)), n 27 (fld 27 (v 26) 1), n 28 (ld 28 (v 27) 1 false), n 29 (mov 29 (v 0)), n 30 (nck 30 (v 29)), n 31 (fld 31 (v 30) 0), n 32 (ld 32 (v 31) 1 false), n 33 (len 33 (v 32)), n 34 (bin 34 .lss (v 28) (v 33))]) (F (v 34) (Q (D [0, 0, 2, 6, 14, 0, 32, 96, 224, 510, 1022, 2046, 4095, 8191, 16383] [n 35 (mov 35 (v 3)), n 36 (mov 36 (v 0)), n 37 (nck 37 (v 36)), n 38 (fld 38 (v 37) 0), n 39 (ld 39 (v 38) 1 false), n 40 (mov 40 (v 0)), n 41 (nck 41 (v 40)), n 42 (fld 42 (v 41) 1), n 43 (ld 43 (v 42) 1 false), n 44 (idx 44 (v 39) (v 43) 1), n 45 (ld 45 (v 44) 1 false), n 46 (conv 46 .i64 (v 45)), n 47 (bin 47 .add (v 35) (v 46)), n 48 (bin 48 .and (v 47) (k 255)), n 3 (asg 3 (v 48))]) (R [n 49 (mov 49 (v 0)), n 50 (mov 50 (v 0)), n 51 (nck 51 (v 50)), n 52 (fld 52 (v 51) 1), n 53 (ld 53 (v 52) 1 false), n 54 (bin 54 .add (v 53) (k 1)), n 55 (nck 55 (v 49)), n 56 (fld 56 (v 55) 1), m (st (v 56) (v 54) 1)])) .skip)) (Q (R [n 57 (mov 57 (v 3)), n 2 (asg 2 (v 57))]) .ret))))
def c_S_l1Bytes : Cmd := Q (R [n 4 (asg 4 (.c (.own 1 [])))]) (Q (R [n 7 (bsl 7 1 []), n 5 (asg 5 (v 7))]) (Q (Q (R [n 6 (asg 6 (k 0))]) (.blk 0 (.loop (Q (Q (R [n 8 (mov 8 (v 6)), n 9 (mov 9 (v 1)), n 10 (bin 10 .lss (v 8) (v 9))]) (F (v 10) .skip (.exit 0))) (Q (.blk 1 (R [n 13 (mov 13 (v 5)), n 14 (mov 14 (v 0)), n 15 (call (some 15) 179 [v 14]), n 16 (conv 16 .u8 (v 15)), n 17 (bsl 17 1 [v 16]), n 18 (app 18 (v 13) (v 17) 1 1), n 5 (asg 5 (v 18))])) (R [n 11 (mov 11 (v 6)), n 12 (bin 12 .add (v 11) (k 1)), n 6 (asg 6 (v 12))])))))) (Q (R [n 19 (mov 19 (v 5)), n 4 (asg 4 (v 19))]) .ret)))
end Go.Proofs.Ytliklgcfdgdigaa.Awp

namespace Go.Proofs.Ytliklgcfdgdigaa.Awp
open Go.Proofs

theorem hmx : Try.prog.follows .mixedOrders = true := by kernel_rfl
theorem p_L_FnRecsRead : compile Try.prog 20 = some (47, [.t 2], c_L_FnRecsRead) := by kernel_rfl
theorem p_S_RecOk : compile Try.prog 33 = some (17, [.t 2], c_S_RecOk) := by kernel_rfl
theorem p_I_RecOk : compile Try.prog 35 = some (17, [.t 2], c_I_RecOk) := by kernel_rfl
theorem p_S_PutRec : compile Try.prog 53 = some (36, [.t 2], c_S_PutRec) := by kernel_rfl
theorem p_I_PutRec : compile Try.prog 54 = some (17, [.t 2], c_I_PutRec) := by kernel_rfl
theorem p_L_big : compile Try.prog 68 = some (6, [.t 2], c_L_big) := by kernel_rfl
theorem p_I_GetRec : compile Try.prog 70 = some (38, [.c 2 3 true, .t 3], c_I_GetRec) := by kernel_rfl
theorem p_L_sameBytes : compile Try.prog 72 = some (26, [.t 4], c_L_sameBytes) := by kernel_rfl
theorem p_S_GetRec : compile Try.prog 79 = some (72, [.c 2 3 true, .t 3], c_S_GetRec) := by kernel_rfl
theorem p_S_DrawGetRec : compile Try.prog 93 = some (41, [.t 2], c_S_DrawGetRec) := by kernel_rfl
theorem p_S_l1In : compile Try.prog 120 = some (15, [.t 6], c_S_l1In) := by kernel_rfl
theorem p_I_from : compile Try.prog 121 = some (15, [.t 6], c_I_from) := by kernel_rfl
theorem p_S_PutText : compile Try.prog 122 = some (11, [.t 4], c_S_PutText) := by kernel_rfl
theorem p_S_PutNum : compile Try.prog 123 = some (29, [.t 4], c_S_PutNum) := by kernel_rfl
theorem p_I_PutNum : compile Try.prog 124 = some (27, [.t 4], c_I_PutNum) := by kernel_rfl
theorem p_I_PutText : compile Try.prog 125 = some (11, [.t 4], c_I_PutText) := by kernel_rfl
theorem p_S_Crc : compile Try.prog 129 = some (34, [.t 2], c_S_Crc) := by kernel_rfl
theorem p_I_sealed : compile Try.prog 130 = some (21, [.t 2], c_I_sealed) := by kernel_rfl
theorem p_S_l3Num : compile Try.prog 133 = some (35, [.t 2], c_S_l3Num) := by kernel_rfl
theorem p_S_l3Text : compile Try.prog 134 = some (35, [.t 2], c_S_l3Text) := by kernel_rfl
theorem p_I_reader_num : compile Try.prog 135 = some (33, [.t 2], c_I_reader_num) := by kernel_rfl
theorem p_I_reader_text : compile Try.prog 136 = some (33, [.t 2], c_I_reader_text) := by kernel_rfl
theorem p_I_reader_done : compile Try.prog 137 = some (19, [.t 2], c_I_reader_done) := by kernel_rfl
theorem p_S_l1New : compile Try.prog 141 = some (32, [.t 2], c_S_l1New) := by kernel_rfl
theorem p_I_opened : compile Try.prog 143 = some (23, [.t 2, .t 3], c_I_opened) := by kernel_rfl
theorem p_X_Clone_byte : compile Try.prog 144 = some (8, [.t 2], c_X_Clone_byte) := by kernel_rfl
theorem p_S_l1Int : compile Try.prog 145 = some (12, [.t 4], c_S_l1Int) := by kernel_rfl
theorem p_S_l1Below : compile Try.prog 148 = some (31, [.t 4], c_S_l1Below) := by kernel_rfl
theorem p_S_l1Some : compile Try.prog 153 = some (8, [.t 2], c_S_l1Some) := by kernel_rfl
theorem p_S_l12Draw : compile Try.prog 156 = some (12, [.c 2 3 true], c_S_l12Draw) := by kernel_rfl
theorem p_I_Crc : compile Try.prog 172 = some (32, [.t 2], c_I_Crc) := by kernel_rfl
theorem p_S_GetNum : compile Try.prog 175 = some (64, [.t 4, .t 5, .t 6], c_S_GetNum) := by kernel_rfl
theorem p_S_GetText : compile Try.prog 176 = some (37, [.t 4, .t 5, .t 6], c_S_GetText) := by kernel_rfl
theorem p_I_GetNum : compile Try.prog 177 = some (57, [.t 4, .t 5, .t 6], c_I_GetNum) := by kernel_rfl
theorem p_I_GetText : compile Try.prog 178 = some (37, [.t 4, .t 5, .t 6], c_I_GetText) := by kernel_rfl
theorem p_S_l1Byte : compile Try.prog 179 = some (58, [.t 2], c_S_l1Byte) := by kernel_rfl
theorem p_S_l1Bytes : compile Try.prog 182 = some (20, [.t 4], c_S_l1Bytes) := by kernel_rfl
end Go.Proofs.Ytliklgcfdgdigaa.Awp

namespace Go.Proofs.Ytliklgcfdgdigaa.Awp
set_option linter.unusedVariables false

/-! ### what goes on behind a bind is left alone till its first part is known -/
@[congr] theorem bind_congr_l {α β : Type} {a b : Option α} {f : α → Option β} (h : a = b) : a.bind f = b.bind f := by rw [h]
@[congr] theorem map_congr_l {α β : Type} {a b : Option α} {f : α → β} (h : a = b) : a.map f = b.map f := by rw [h]

/-- are the places of an argument's parts empty? -/
def allU (E : Env) : List Plc → Bool
  | [] => true
  | (_, _, r, p) :: l => isU (aget (E.f r) p) && allU E l
theorem allU_eq (E : Env) : ∀ l : List Plc, allU E l = l.all (fun q => isU (aget (E.f q.2.2.1) q.2.2.2)) := by
  intro l
  induction l with
  | nil => rfl
  | cons q l ih => obtain ⟨k, j, r, p⟩ := q; simp [allU, ih]
theorem SBK2 : ∀ (E : Env) (q : Plc) (pls : List Plc) (outs : List AV), backA E none (q :: pls) outs = if allU E (q :: pls) = true then backP E outs (q :: pls) else none := by
  intro E q pls outs
  rw [allU_eq]; rfl
theorem SAU : (∀ E : Env, allU E [] = true) ∧ (∀ (E : Env) (k : Nat) (j : Option Nat) (r : Nat) (p : Path) (l : List Plc), allU E ((k, j, r, p) :: l) = (isU (aget (E.f r) p) && allU E l)) := ⟨fun _ => rfl, fun _ _ _ _ _ _ => rfl⟩
theorem SBK : ∀ (E : Env) (outs : List AV), backA E none [] outs = backP E outs [] := by
  intro E outs
  simp [backA]

/-! ### the program's values -/
abbrev Bytes := List UInt8
theorem sum_mem {α : Type} {f : α → Nat} {l : List α} {x : α} (h : x ∈ l) : f x ≤ (l.map f).sum := by
  induction l with
  | nil => simp at h
  | cons y l ih =>
    rcases List.mem_cons.1 h with rfl | h
    · simp
    · have := ih h; simp; omega
theorem getE {α : Type} {l : List α} {i : Nat} (h : (i : Int) < (l.length : Nat)) : l[i]? = some (l[i]'(by omega)) := by simp
theorem sum_get {α : Type} (f : α → Nat) {l : List α} {i : Nat} (h : i < l.length) : f l[i] ≤ (l.map f).sum := sum_mem (List.getElem_mem h)
theorem sum_take {α : Type} (f : α → Nat) (l : List α) (i : Nat) (h : i < l.length) : ((l.take (i + 1)).map f).sum = ((l.take i).map f).sum + f l[i] := by
  rw [List.take_succ_eq_append_getElem h, List.map_append, List.sum_append]
  simp only [List.map_cons, List.map_nil, List.sum_cons, List.sum_nil, Nat.add_zero]
theorem sum_take_le {α : Type} (f : α → Nat) (l : List α) (i : Nat) : ((l.take i).map f).sum ≤ (l.map f).sum := by
  conv => rhs; rw [← List.take_append_drop i l, List.map_append, List.sum_append]
  omega
theorem take_eq_succ {α : Type} {a b : List α} {i : Nat} (h : a.take i = b.take i) (h1 : i < a.length) (h2 : i < b.length) (e : a[i] = b[i]) : a.take (i + 1) = b.take (i + 1) := by
  rw [List.take_succ_eq_append_getElem h1, List.take_succ_eq_append_getElem h2, h, e]
theorem take_all {α : Type} {a b : List α} {i : Nat} (h : a.take i = b.take i) (h1 : a.length ≤ i) (h2 : b.length ≤ i) : a = b := by
  rwa [List.take_of_length_le h1, List.take_of_length_le h2] at h

/-! ### rows that are filled, or marked, one by one -/
def mixM {α β : Type} (f : α → Int → β) (g : α → β) (c : α → Nat) : List α → Int → Nat → List β
  | [], _, _ => []
  | x :: l, _, 0 => g x :: l.map g
  | x :: l, k, i + 1 => f x k :: mixM f g c l (k + c x) i
def markL {α β : Type} (f : α → Int → β) (c : α → Nat) : List α → Int → List β
  | [], _ => []
  | x :: l, k => f x k :: markL f c l (k + c x)
section
variable {α β γ : Type} (f : α → Int → β) (g : α → β) (c : α → Nat)
theorem mixM_0 (l : List α) (k : Int) : mixM f g c l k 0 = l.map g := by cases l <;> rfl
theorem mixM_len : ∀ (l : List α) (k : Int) (i : Nat), (mixM f g c l k i).length = l.length := by
  intro l
  induction l with
  | nil => intro k i; rfl
  | cons x l ih => intro k i; cases i <;> simp [mixM, ih]
theorem mixM_all : ∀ (l : List α) (k : Int) (i : Nat), l.length ≤ i → mixM f g c l k i = markL f c l k := by
  intro l
  induction l with
  | nil => intro k i h; rfl
  | cons x l ih =>
    intro k i h
    cases i with
    | zero => simp at h
    | succ i => simp only [mixM, markL]; rw [ih _ _ (by simpa using h)]
theorem mixM_get : ∀ (l : List α) (k : Int) (i : Nat), (mixM f g c l k i)[i]? = (l[i]?).map g := by
  intro l
  induction l with
  | nil => intro k i; simp [mixM]
  | cons x l ih => intro k i; cases i <;> simp [mixM, ih]
theorem mixM_set : ∀ (l : List α) (k : Int) (i : Nat) (hi : i < l.length) (h : β → β) (e : h (g l[i]) = f l[i] (k + ((l.take i).map c).sum)), (mixM f g c l k i).modify i h = mixM f g c l k (i + 1) := by
  intro l
  induction l with
  | nil => intro k i hi; simp at hi
  | cons x l ih =>
    intro k i hi h e
    cases i with
    | zero => simp only [mixM, List.modify_zero_cons]; simp at e; rw [e, mixM_0]
    | succ i =>
      simp only [mixM, List.modify_succ_cons]
      rw [ih _ i (by simpa using hi) h]
      simp only [List.getElem_cons_succ, List.take_succ_cons, List.map_cons, List.sum_cons] at e
      rw [e]; congr 1; omega
theorem markL_len : ∀ (l : List α) (k : Int), (markL f c l k).length = l.length := by
  intro l
  induction l with
  | nil => intro k; rfl
  | cons x l ih => intro k; simp [markL, ih]
theorem markL_get : ∀ (l : List α) (k : Int) (i : Nat), (markL f c l k)[i]? = (l[i]?).map fun x => f x (k + ((l.take i).map c).sum) := by
  intro l
  induction l with
  | nil => intro k i; simp [markL]
  | cons x l ih =>
    intro k i
    cases i with
    | zero => simp [markL]
    | succ i =>
      simp only [markL, List.getElem?_cons_succ, ih, List.take_succ_cons, List.map_cons, List.sum_cons]
      congr 1; funext y; congr 1; omega
theorem markL_map (r : β → γ) : ∀ (l : List α) (k : Int), (markL f c l k).map r = markL (fun x k => r (f x k)) c l k := by
  intro l
  induction l with
  | nil => intro k; rfl
  | cons x l ih => intro k; simp [markL, ih]
end
/-- rows that are filled one by one -/
def fillR {α : Type} (f : α → List TV) (z : List TV) (l : List α) (i : Nat) : List (List TV) := mixM (fun x _ => f x) (fun _ => z) (fun _ => 0) l 0 i
theorem fillR_0 {α : Type} (f : α → List TV) (z : List TV) (l : List α) : fillR f z l 0 = List.replicate l.length z := by
  rw [fillR, mixM_0, List.map_const']
theorem fillR_all {α : Type} (f : α → List TV) (z : List TV) (l : List α) (i : Nat) (h : l.length ≤ i) : fillR f z l i = l.map f := by
  rw [fillR, mixM_all _ _ _ _ _ _ h]
  generalize (0 : Int) = k
  induction l generalizing k i with
  | nil => rfl
  | cons x l ih => simp only [markL, List.map_cons]; rw [ih l.length (by omega)]
theorem fillR_len {α : Type} (f : α → List TV) (z : List TV) (l : List α) (i : Nat) : (fillR f z l i).length = l.length := mixM_len ..
theorem fillR_set {α : Type} (f : α → List TV) (z : List TV) (l : List α) (i : Nat) (h : i < l.length) (g : List TV → List TV) (hg : g z = f l[i]) : (fillR f z l i).modify i g = fillR f z l (i + 1) :=
  mixM_set _ _ _ _ _ _ h _ hg
/-- rows that are marked one by one -/
def mixR {α : Type} (r : α → List TV) (f : α → Int → α) (c : α → Nat) (l : List α) (k : Int) (i : Nat) : List (List TV) := mixM (fun x k => r (f x k)) r c l k i
section
variable {α : Type} (r : α → List TV) (f : α → Int → α) (c : α → Nat)
theorem mixR_0 (l : List α) (k : Int) : mixR r f c l k 0 = l.map r := mixM_0 ..
theorem mixR_len (l : List α) (k : Int) (i : Nat) : (mixR r f c l k i).length = l.length := mixM_len ..
theorem mixR_get (l : List α) (k : Int) (i : Nat) : (mixR r f c l k i)[i]? = (l[i]?).map r := mixM_get ..
theorem mixR_all (l : List α) (k : Int) (i : Nat) (h : l.length ≤ i) : mixR r f c l k i = (markL f c l k).map r := by rw [mixR, mixM_all _ _ _ _ _ _ h, markL_map]
theorem mixR_set (l : List α) (k : Int) (i : Nat) (hi : i < l.length) (h : List TV → List TV) (e : h (r l[i]) = r (f l[i] (k + ((l.take i).map c).sum))) : (mixR r f c l k i).modify i h = mixR r f c l k (i + 1) :=
  mixM_set _ _ _ _ _ _ hi _ e
end
def byteRow (x : UInt8) : List TV := [.int .u8 x.toNat]
def markBy (b : Bytes) (k : Int) : Bytes := markL (fun _ k => UInt8.ofInt k) (fun _ => 1) b k
theorem sum_one {α : Type} (l : List α) : (l.map fun _ => 1).sum = l.length := by induction l with | nil => rfl | cons x l ih => simp [ih]; omega
theorem markBy_len (b : Bytes) (k : Int) : (markBy b k).length = b.length := markL_len ..
theorem markBy_get (b : Bytes) (k : Int) (i : Nat) : (markBy b k)[i]? = (b[i]?).map fun _ => UInt8.ofInt (k + i) := by
  rw [markBy, markL_get]
  by_cases h : i < b.length
  · simp only [sum_one, List.length_take, Nat.min_eq_left (Nat.le_of_lt h)]
  · rw [List.getElem?_eq_none (by omega)]; rfl
theorem wrap_ofInt (k : Int) : IntKind.u8.wrap k = ((UInt8.ofInt k).toNat : Int) := by
  have e : IntKind.u8.wrap k = k % 256 := by
    have h1 : ((2 : Int) ^ IntKind.u8.bits) = 256 := by decide
    unfold IntKind.wrap
    simp only [h1]
    simp [IntKind.signed]
  rw [e]
  simp [UInt8.ofInt]
  omega
theorem bytesR_row (b : Bytes) : bytesR b = b.map byteRow := rfl
theorem markBy_row (b : Bytes) (k : Int) (i : Nat) (h : b.length ≤ i) : mixR byteRow (fun _ k => UInt8.ofInt k) (fun _ => 1) b k i = bytesR (markBy b k) := mixR_all _ _ _ _ _ _ h
theorem SF : (∀ (α : Type) (f : α → List TV) (z : List TV) (l : List α) (i : Nat), (fillR f z l i).length = l.length) ∧
    (∀ (α : Type) (r : α → List TV) (f : α → Int → α) (c : α → Nat) (l : List α) (k : Int) (i : Nat), (mixR r f c l k i).length = l.length) ∧
    (∀ (α : Type) (r : α → List TV) (f : α → Int → α) (c : α → Nat) (l : List α) (k : Int) (i : Nat), (mixR r f c l k i)[i]? = (l[i]?).map r) ∧
    (∀ (α β : Type) (f : α → Int → β) (c : α → Nat) (l : List α) (k : Int), (markL f c l k).length = l.length) ∧
    (∀ (α β : Type) (f : α → Int → β) (c : α → Nat) (l : List α) (k : Int) (i : Nat), (markL f c l k)[i]? = (l[i]?).map fun x => f x (k + ((l.take i).map c).sum)) ∧
    (∀ (b : Bytes) (k : Int), (markBy b k).length = b.length) ∧ (∀ (b : Bytes) (k : Int) (i : Nat), (markBy b k)[i]? = (b[i]?).map fun _ => UInt8.ofInt (k + i)) ∧
    (∀ (α : Type) (l : List α) (i : Nat) (f g : α → α), (l.modify i f).modify i g = l.modify i (fun x => g (f x))) ∧ (∀ (α : Type) (l : List α) (i : Nat) (f : α → α), (l.modify i f)[i]? = (l[i]?).map f) ∧
    (∀ (α : Type) (l : List α) (i : Nat) (f : α → α), (l.modify i f).length = l.length) :=
  ⟨fun _ => fillR_len, fun _ => mixR_len, fun _ => mixR_get, fun _ _ => markL_len, fun _ _ => markL_get, markBy_len, markBy_get,
    fun _ l i f g => List.modify_modify_eq f g i l, fun _ l i f => by simp, fun _ l i f => by simp⟩
theorem flatR_bytes (b : Bytes) : flatR (bytesR b) = true := by
  simp [flatR, bytesR]
  intros; rfl
theorem knownR_bytes (b : Bytes) : knownR (bytesR b) = true := by
  simp [knownR, bytesR]
  intros; rfl
theorem rowsBytes_R (b : Bytes) : rowsBytes (bytesR b) = some b := by
  induction b with
  | nil => rfl
  | cons x b ih =>
    simp only [bytesR, List.map_cons]
    simp only [bytesR] at ih
    have h1 : rowByte [.int .u8 x.toNat] = some x := by
      have := x.toNat_lt
      simp [rowByte]
      try omega
    simp [rowsBytes, ih, h1]
theorem SK : knownR [] = true ∧ (∀ (e : List TV) (l : List (List TV)), knownR (e :: l) = (e.all knownT && knownR l)) ∧ (∀ (t : TV) (e : List TV), (t :: e).all knownT = (knownT t && e.all knownT)) ∧ ([] : List TV).all knownT = true ∧
    (∀ b, knownT (.bool b) = true) ∧ (∀ k n, knownT (.int k n) = true) ∧ (∀ s, knownT (.str s) = true) ∧ (∀ s es, knownT (.sl s es) = true) ∧
    flatR [] = true ∧ (∀ (e : List TV) (l : List (List TV)), flatR (e :: l) = (e.all flatT && flatR l)) ∧ (∀ (t : TV) (e : List TV), (t :: e).all flatT = (flatT t && e.all flatT)) ∧ ([] : List TV).all flatT = true ∧
    (∀ b, flatT (.bool b) = true) ∧ (∀ k n, flatT (.int k n) = true) ∧ (∀ s, flatT (.str s) = true) ∧
    (∀ b : Bytes, flatR (bytesR b) = true) ∧ (∀ b : Bytes, knownR (bytesR b) = true) ∧ (∀ b : Bytes, rowsBytes (bytesR b) = some b) :=
  ⟨rfl, fun _ _ => rfl, fun _ _ => rfl, rfl, fun _ => rfl, fun _ _ => rfl, fun _ => rfl, fun _ _ => rfl, rfl, fun _ _ => rfl, fun _ _ => rfl, rfl, fun _ => rfl, fun _ _ => rfl, fun _ => rfl, flatR_bytes, knownR_bytes, rowsBytes_R⟩
theorem SB : min 1 IntKind.i64.bits = 1 ∧ min 7 IntKind.i64.bits = 7 ∧ min 8 IntKind.i64.bits = 8 ∧ min 14 IntKind.i64.bits = 14 ∧ min 16 IntKind.i64.bits = 16 ∧ min 24 IntKind.i64.bits = 24 ∧ min 33 IntKind.i64.bits = 33 ∧ min 47 IntKind.i64.bits = 47 ∧ min 1 IntKind.u32.bits = 1 ∧ min 8 IntKind.u32.bits = 8 ∧ min 16 IntKind.u32.bits = 16 ∧ min 24 IntKind.u32.bits = 24 := by decide
theorem bytesR_map (b : Bytes) : bytesR b = b.map fun x => [.int .u8 x.toNat] := rfl

theorem cnt_len {α : Type} (c : α → Nat) (h : ∀ x, 1 ≤ c x) (l : List α) : l.length ≤ (l.map c).sum := by
  induction l with
  | nil => simp
  | cons x l ih => have := h x; simp; omega
/-- what is left of a size -/
def szC (l : Int) (n : Nat) : Int := if l < n then -1 else l - n
theorem szC_lt {l : Int} {n : Nat} (h : l < n) : szC l n = -1 := if_pos h
theorem szC_ge {l : Int} {n : Nat} (h : ¬ l < n) : szC l n = l - n := if_neg h
/-- decimal digits -/
def digB (n : Nat) : Bytes := if h : n = 0 then [] else digB (n / 10) ++ [UInt8.ofNat (48 + n % 10)]
termination_by n
def markText (k : Int) : Bytes := if k ≤ 0 then [109, 48] else 109 :: digB k.toNat
def cntM {α : Type} (c : α → Nat) (l : List α) : Nat := (l.map c).sum
def szM {α : Type} (c : α → Nat) (l : List α) : Nat := l.length + (l.map c).sum

structure Page where
  used : Bool
  b : Bytes
  deriving DecidableEq, Inhabited
def Page.row (a : Page) : List TV := [.bool a.used, .sl 1 (bytesR a.b)]
def Page.x (a : Page) : AV := .agg [.bool a.used, .ext 1 (bytesR a.b)]
def Page.o (a : Page) : AV := .agg [.bool a.used, .own 1 (bytesR a.b)]
def Page.sz (a : Page) : Nat := a.b.length
def Page.fine (a : Page) : Prop := (a.b.length < 2 ^ 48)
def Page.cnt (a : Page) : Nat := 1 + a.b.length
def Page.cntT (a : Page) : Nat := a.b.length
def Page.marked (a : Page) (k : Int) : Page := { used := decide ((k).tmod 3 = 0), b := markBy a.b (k + 1) }
def Page.markT (a : Page) (k : Int) : Page := { used := a.used, b := markBy a.b (k) }
def Page.zero : List TV := [.bool false, .sl 1 []]
theorem Page.eq' {a b : Page} (h0 : a.used = b.used) (h1 : a.b = b.b) : a = b := by cases a; cases b; simp_all
theorem Page.cnt1 (a : Page) : 1 ≤ a.cnt := by simp only [Page.cnt]; omega

structure Block where
  pages : List Page
  wear : Int
  bad : Bool
  deriving DecidableEq, Inhabited
def Block.row (a : Block) : List TV := [.sl 2 (a.pages.map Page.row), .int .i64 a.wear, .bool a.bad]
def Block.x (a : Block) : AV := .agg [.ext 2 (a.pages.map Page.row), .int .i64 a.wear, .bool a.bad]
def Block.o (a : Block) : AV := .agg [.own 2 (a.pages.map Page.row), .int .i64 a.wear, .bool a.bad]
def Block.sz (a : Block) : Nat := szM Page.sz a.pages
def Block.fine (a : Block) : Prop := (a.pages.length < 2 ^ 48 ∧ ∀ x ∈ a.pages, x.fine)
def Block.cnt (a : Block) : Nat := cntM Page.cnt a.pages + 1 + 1
def Block.cntT (a : Block) : Nat := cntM Page.cnt a.pages
def Block.marked (a : Block) (k : Int) : Block := { pages := markL Page.marked Page.cnt a.pages (k), wear := k + (cntM Page.cnt a.pages : Nat), bad := decide ((k + (cntM Page.cnt a.pages : Nat) + 1).tmod 3 = 0) }
def Block.markT (a : Block) (k : Int) : Block := { pages := markL Page.marked Page.cnt a.pages (k), wear := a.wear, bad := a.bad }
def Block.zero : List TV := [.sl 2 [], .int .i64 0, .bool false]
theorem Block.eq' {a b : Block} (h0 : a.pages = b.pages) (h1 : a.wear = b.wear) (h2 : a.bad = b.bad) : a = b := by cases a; cases b; simp_all
theorem Block.cnt1 (a : Block) : 1 ≤ a.cnt := by simp only [Block.cnt]; omega

structure Chip where
  blocks : List Block
  deriving DecidableEq, Inhabited
def Chip.row (a : Chip) : List TV := [.sl 3 (a.blocks.map Block.row)]
def Chip.x (a : Chip) : AV := .agg [.ext 3 (a.blocks.map Block.row)]
def Chip.o (a : Chip) : AV := .agg [.own 3 (a.blocks.map Block.row)]
def Chip.sz (a : Chip) : Nat := szM Block.sz a.blocks
def Chip.fine (a : Chip) : Prop := (a.blocks.length < 2 ^ 48 ∧ ∀ x ∈ a.blocks, x.fine)
def Chip.cnt (a : Chip) : Nat := cntM Block.cnt a.blocks
def Chip.cntT (a : Chip) : Nat := cntM Block.cnt a.blocks
def Chip.marked (a : Chip) (k : Int) : Chip := { blocks := markL Block.marked Block.cnt a.blocks (k) }
def Chip.markT (a : Chip) (k : Int) : Chip := { blocks := markL Block.marked Block.cnt a.blocks (k) }
def Chip.zero : List TV := [.sl 3 []]
theorem Chip.eq' {a b : Chip} (h0 : a.blocks = b.blocks) : a = b := by cases a; cases b; simp_all


structure Fault where
  at' : Int
  kind : Int
  keep : Int
  deriving DecidableEq, Inhabited
def Fault.row (a : Fault) : List TV := [.int .i64 a.at', .int .i64 a.kind, .int .i64 a.keep]
def Fault.x (a : Fault) : AV := .agg [.int .i64 a.at', .int .i64 a.kind, .int .i64 a.keep]
def Fault.o (a : Fault) : AV := .agg [.int .i64 a.at', .int .i64 a.kind, .int .i64 a.keep]
def Fault.sz (a : Fault) : Nat := 0
def Fault.fine (a : Fault) : Prop := True
def Fault.cnt (a : Fault) : Nat := 1 + 1 + 1
def Fault.cntT (a : Fault) : Nat := 0
def Fault.marked (a : Fault) (k : Int) : Fault := { at' := k, kind := k + 1, keep := k + 1 + 1 }
def Fault.markT (a : Fault) (k : Int) : Fault := { at' := a.at', kind := a.kind, keep := a.keep }
def Fault.zero : List TV := [.int .i64 0, .int .i64 0, .int .i64 0]
theorem Fault.eq' {a b : Fault} (h0 : a.at' = b.at') (h1 : a.kind = b.kind) (h2 : a.keep = b.keep) : a = b := by cases a; cases b; simp_all
theorem Fault.cnt1 (a : Fault) : 1 ≤ a.cnt := by simp only [Fault.cnt]; omega

structure Dev where
  c : Chip
  ops : Int
  faults : List Fault
  down : Bool
  deriving DecidableEq, Inhabited
def Dev.row (a : Dev) : List TV := [.sl 3 (a.c.blocks.map Block.row), .int .i64 a.ops, .sl 3 (a.faults.map Fault.row), .bool a.down]
def Dev.x (a : Dev) : AV := .agg [.ext 3 (a.c.blocks.map Block.row), .int .i64 a.ops, .ext 3 (a.faults.map Fault.row), .bool a.down]
def Dev.o (a : Dev) : AV := .agg [.own 3 (a.c.blocks.map Block.row), .int .i64 a.ops, .own 3 (a.faults.map Fault.row), .bool a.down]
def Dev.sz (a : Dev) : Nat := a.c.sz + a.faults.length
def Dev.fine (a : Dev) : Prop := (a.c.fine) ∧ (a.faults.length < 2 ^ 48)
def Dev.cnt (a : Dev) : Nat := cntM Block.cnt a.c.blocks + 1 + cntM Fault.cnt a.faults + 1
def Dev.cntT (a : Dev) : Nat := a.c.cntT + cntM Fault.cnt a.faults
def Dev.marked (a : Dev) (k : Int) : Dev := { c := { blocks := markL Block.marked Block.cnt a.c.blocks (k) }, ops := k + (cntM Block.cnt a.c.blocks : Nat), faults := markL Fault.marked Fault.cnt a.faults (k + (cntM Block.cnt a.c.blocks : Nat) + 1), down := decide ((k + (cntM Block.cnt a.c.blocks : Nat) + 1 + (cntM Fault.cnt a.faults : Nat)).tmod 3 = 0) }
def Dev.markT (a : Dev) (k : Int) : Dev := { c := a.c.markT (k), ops := a.ops, faults := markL Fault.marked Fault.cnt a.faults (k + (a.c.cntT : Nat)), down := a.down }
def Dev.zero : List TV := [.sl 3 [], .int .i64 0, .sl 3 [], .bool false]
theorem Dev.eq' {a b : Dev} (h0 : a.c = b.c) (h1 : a.ops = b.ops) (h2 : a.faults = b.faults) (h3 : a.down = b.down) : a = b := by cases a; cases b; simp_all
theorem Dev.cnt1 (a : Dev) : 1 ≤ a.cnt := by simp only [Dev.cnt]; omega

structure Rec where
  kind : Int
  seq : Int
  body : Bytes
  deriving DecidableEq, Inhabited
def Rec.row (a : Rec) : List TV := [.int .i64 a.kind, .int .i64 a.seq, .sl 1 (bytesR a.body)]
def Rec.x (a : Rec) : AV := .agg [.int .i64 a.kind, .int .i64 a.seq, .ext 1 (bytesR a.body)]
def Rec.o (a : Rec) : AV := .agg [.int .i64 a.kind, .int .i64 a.seq, .own 1 (bytesR a.body)]
def Rec.sz (a : Rec) : Nat := a.body.length
def Rec.fine (a : Rec) : Prop := (a.body.length < 2 ^ 48)
def Rec.cnt (a : Rec) : Nat := 1 + 1 + a.body.length
def Rec.cntT (a : Rec) : Nat := a.body.length
def Rec.marked (a : Rec) (k : Int) : Rec := { kind := k, seq := k + 1, body := markBy a.body (k + 1 + 1) }
def Rec.markT (a : Rec) (k : Int) : Rec := { kind := a.kind, seq := a.seq, body := markBy a.body (k) }
def Rec.zero : List TV := [.int .i64 0, .int .i64 0, .sl 1 []]
theorem Rec.eq' {a b : Rec} (h0 : a.kind = b.kind) (h1 : a.seq = b.seq) (h2 : a.body = b.body) : a = b := by cases a; cases b; simp_all
theorem Rec.cnt1 (a : Rec) : 1 ≤ a.cnt := by simp only [Rec.cnt]; omega

structure Op where
  kind : Int
  vol : Int
  path : Bytes
  to' : Bytes
  off : Int
  data : Bytes
  deriving DecidableEq, Inhabited
def Op.row (a : Op) : List TV := [.int .i64 a.kind, .int .i64 a.vol, .str a.path, .str a.to', .int .i64 a.off, .sl 1 (bytesR a.data)]
def Op.x (a : Op) : AV := .agg [.int .i64 a.kind, .int .i64 a.vol, .str a.path, .str a.to', .int .i64 a.off, .ext 1 (bytesR a.data)]
def Op.o (a : Op) : AV := .agg [.int .i64 a.kind, .int .i64 a.vol, .str a.path, .str a.to', .int .i64 a.off, .own 1 (bytesR a.data)]
def Op.sz (a : Op) : Nat := a.path.length + a.to'.length + a.data.length
def Op.fine (a : Op) : Prop := (a.path.length < 2 ^ 48) ∧ (a.to'.length < 2 ^ 48) ∧ (a.data.length < 2 ^ 48)
def Op.cnt (a : Op) : Nat := 1 + 1 + 1 + 1 + 1 + a.data.length
def Op.cntT (a : Op) : Nat := a.data.length
def Op.marked (a : Op) (k : Int) : Op := { kind := k, vol := k + 1, path := markText (k + 1 + 1), to' := markText (k + 1 + 1 + 1), off := k + 1 + 1 + 1 + 1, data := markBy a.data (k + 1 + 1 + 1 + 1 + 1) }
def Op.markT (a : Op) (k : Int) : Op := { kind := a.kind, vol := a.vol, path := a.path, to' := a.to', off := a.off, data := markBy a.data (k) }
def Op.zero : List TV := [.int .i64 0, .int .i64 0, .str [], .str [], .int .i64 0, .sl 1 []]
theorem Op.eq' {a b : Op} (h0 : a.kind = b.kind) (h1 : a.vol = b.vol) (h2 : a.path = b.path) (h3 : a.to' = b.to') (h4 : a.off = b.off) (h5 : a.data = b.data) : a = b := by cases a; cases b; simp_all
theorem Op.cnt1 (a : Op) : 1 ≤ a.cnt := by simp only [Op.cnt]; omega

structure Log where
  d : Dev
  seq : Int
  deriving DecidableEq, Inhabited
def Log.row (a : Log) : List TV := [.sl 3 (a.d.c.blocks.map Block.row), .int .i64 a.d.ops, .sl 3 (a.d.faults.map Fault.row), .bool a.d.down, .int .i64 a.seq]
def Log.x (a : Log) : AV := .agg [.ext 3 (a.d.c.blocks.map Block.row), .int .i64 a.d.ops, .ext 3 (a.d.faults.map Fault.row), .bool a.d.down, .int .i64 a.seq]
def Log.o (a : Log) : AV := .agg [.own 3 (a.d.c.blocks.map Block.row), .int .i64 a.d.ops, .own 3 (a.d.faults.map Fault.row), .bool a.d.down, .int .i64 a.seq]
def Log.sz (a : Log) : Nat := a.d.sz
def Log.fine (a : Log) : Prop := (a.d.fine)
def Log.cnt (a : Log) : Nat := cntM Block.cnt a.d.c.blocks + 1 + cntM Fault.cnt a.d.faults + 1 + 1
def Log.cntT (a : Log) : Nat := a.d.cntT
def Log.marked (a : Log) (k : Int) : Log := { d := { c := { blocks := markL Block.marked Block.cnt a.d.c.blocks (k) }, ops := k + (cntM Block.cnt a.d.c.blocks : Nat), faults := markL Fault.marked Fault.cnt a.d.faults (k + (cntM Block.cnt a.d.c.blocks : Nat) + 1), down := decide ((k + (cntM Block.cnt a.d.c.blocks : Nat) + 1 + (cntM Fault.cnt a.d.faults : Nat)).tmod 3 = 0) }, seq := k + (cntM Block.cnt a.d.c.blocks : Nat) + 1 + (cntM Fault.cnt a.d.faults : Nat) + 1 }
def Log.markT (a : Log) (k : Int) : Log := { d := a.d.markT (k), seq := a.seq }
def Log.zero : List TV := [.sl 3 [], .int .i64 0, .sl 3 [], .bool false, .int .i64 0]
theorem Log.eq' {a b : Log} (h0 : a.d = b.d) (h1 : a.seq = b.seq) : a = b := by cases a; cases b; simp_all
theorem Log.cnt1 (a : Log) : 1 ≤ a.cnt := by simp only [Log.cnt]; omega

theorem ST :
    (∀ a : Page, a.row = [.bool a.used, .sl 1 (bytesR a.b)]) ∧
    (∀ a : Page, a.x = .agg [.bool a.used, .ext 1 (bytesR a.b)]) ∧
    (∀ a : Page, a.o = .agg [.bool a.used, .own 1 (bytesR a.b)]) ∧
    (∀ a : Block, a.row = [.sl 2 (a.pages.map Page.row), .int .i64 a.wear, .bool a.bad]) ∧
    (∀ a : Block, a.x = .agg [.ext 2 (a.pages.map Page.row), .int .i64 a.wear, .bool a.bad]) ∧
    (∀ a : Block, a.o = .agg [.own 2 (a.pages.map Page.row), .int .i64 a.wear, .bool a.bad]) ∧
    (∀ a : Chip, a.row = [.sl 3 (a.blocks.map Block.row)]) ∧
    (∀ a : Chip, a.x = .agg [.ext 3 (a.blocks.map Block.row)]) ∧
    (∀ a : Chip, a.o = .agg [.own 3 (a.blocks.map Block.row)]) ∧
    (∀ a : Fault, a.row = [.int .i64 a.at', .int .i64 a.kind, .int .i64 a.keep]) ∧
    (∀ a : Fault, a.x = .agg [.int .i64 a.at', .int .i64 a.kind, .int .i64 a.keep]) ∧
    (∀ a : Fault, a.o = .agg [.int .i64 a.at', .int .i64 a.kind, .int .i64 a.keep]) ∧
    (∀ a : Dev, a.row = [.sl 3 (a.c.blocks.map Block.row), .int .i64 a.ops, .sl 3 (a.faults.map Fault.row), .bool a.down]) ∧
    (∀ a : Dev, a.x = .agg [.ext 3 (a.c.blocks.map Block.row), .int .i64 a.ops, .ext 3 (a.faults.map Fault.row), .bool a.down]) ∧
    (∀ a : Dev, a.o = .agg [.own 3 (a.c.blocks.map Block.row), .int .i64 a.ops, .own 3 (a.faults.map Fault.row), .bool a.down]) ∧
    (∀ a : Rec, a.row = [.int .i64 a.kind, .int .i64 a.seq, .sl 1 (bytesR a.body)]) ∧
    (∀ a : Rec, a.x = .agg [.int .i64 a.kind, .int .i64 a.seq, .ext 1 (bytesR a.body)]) ∧
    (∀ a : Rec, a.o = .agg [.int .i64 a.kind, .int .i64 a.seq, .own 1 (bytesR a.body)]) ∧
    (∀ a : Op, a.row = [.int .i64 a.kind, .int .i64 a.vol, .str a.path, .str a.to', .int .i64 a.off, .sl 1 (bytesR a.data)]) ∧
    (∀ a : Op, a.x = .agg [.int .i64 a.kind, .int .i64 a.vol, .str a.path, .str a.to', .int .i64 a.off, .ext 1 (bytesR a.data)]) ∧
    (∀ a : Op, a.o = .agg [.int .i64 a.kind, .int .i64 a.vol, .str a.path, .str a.to', .int .i64 a.off, .own 1 (bytesR a.data)]) ∧
    (∀ a : Log, a.row = [.sl 3 (a.d.c.blocks.map Block.row), .int .i64 a.d.ops, .sl 3 (a.d.faults.map Fault.row), .bool a.d.down, .int .i64 a.seq]) ∧
    (∀ a : Log, a.x = .agg [.ext 3 (a.d.c.blocks.map Block.row), .int .i64 a.d.ops, .ext 3 (a.d.faults.map Fault.row), .bool a.d.down, .int .i64 a.seq]) ∧
    (∀ a : Log, a.o = .agg [.own 3 (a.d.c.blocks.map Block.row), .int .i64 a.d.ops, .own 3 (a.d.faults.map Fault.row), .bool a.d.down, .int .i64 a.seq]) ∧
    (∀ (α β : Type) (f : α → β) (l : List α), (l.map f).length = l.length) ∧ (∀ (α β : Type) (f : α → β) (l : List α) (i : Nat), (l.map f)[i]? = (l[i]?).map f) := by
  refine ⟨?_, ?_, ?_, ?_, ?_, ?_, ?_, ?_, ?_, ?_, ?_, ?_, ?_, ?_, ?_, ?_, ?_, ?_, ?_, ?_, ?_, ?_, ?_, ?_, ?_, ?_⟩ <;> intros <;> first | rfl | simp

/-- what each run uses -/
theorem SX : type_of% (And.intro SAU <| And.intro SU <| And.intro SGs <| And.intro SD <| And.intro S1 <| And.intro S2 <| And.intro S3 <| And.intro SE <| And.intro SC <| And.intro SO <| And.intro ST <| And.intro SF <| And.intro SK <| And.intro @bytes_len <| And.intro @bytes_get <| And.intro @Bool.beq_eq_decide_eq.{0} <| And.intro @Int.natCast_zero <| And.intro @Int.add_zero <| And.intro @ge_iff_le.{0} <| And.intro @gt_iff_lt.{0} <| And.intro @Option.isNone_none.{0} <| And.intro @Option.isNone_some.{0} <| And.intro @List.nil_append.{0} <| And.intro @List.append_nil.{0} <| And.intro @Bool.and_true <| And.intro @Bool.and_self <| SB) := And.intro SAU <| And.intro SU <| And.intro SGs <| And.intro SD <| And.intro S1 <| And.intro S2 <| And.intro S3 <| And.intro SE <| And.intro SC <| And.intro SO <| And.intro ST <| And.intro SF <| And.intro SK <| And.intro @bytes_len <| And.intro @bytes_get <| And.intro @Bool.beq_eq_decide_eq.{0} <| And.intro @Int.natCast_zero <| And.intro @Int.add_zero <| And.intro @ge_iff_le.{0} <| And.intro @gt_iff_lt.{0} <| And.intro @Option.isNone_none.{0} <| And.intro @Option.isNone_some.{0} <| And.intro @List.nil_append.{0} <| And.intro @List.append_nil.{0} <| And.intro @Bool.and_true <| And.intro @Bool.and_self <| SB
end Go.Proofs.Ytliklgcfdgdigaa.Awp

namespace Go.Proofs.Ytliklgcfdgdigaa.Awp
open Go.Proofs
set_option linter.unusedSimpArgs false
set_option linter.unusedVariables false

/-! ### whole numbers, as bytes -/
def inR (x a b : Int) : Bool := decide (a ≤ x ∧ x ≤ b)
def recOk (r : Rec) : Bool := inR r.kind 1 4 && inR r.seq 0 1000000 && decide (r.body.length ≤ 380)
def numB (n : Nat) : Bytes := if h : n < 128 then [UInt8.ofNat n] else UInt8.ofNat (n % 128 + 128) :: numB (n / 128)
theorem numB_lt {n : Nat} (h : n < 128) : numB n = [UInt8.ofNat n] := by rw [numB, dif_pos h]
theorem numB_ge {n : Nat} (h : ¬ n < 128) : numB n = UInt8.ofNat (n % 128 + 128) :: numB (n / 128) := by rw [numB, dif_neg h]
def clampN (n : Int) : Nat := (max 0 (min n 1000000)).toNat
theorem clampN_eq (n : Int) : ((clampN n : Nat) : Int) = max 0 (min n 1000000) := by unfold clampN; omega
theorem clampN_le (n : Int) : clampN n ≤ 1000000 := by unfold clampN; omega
def putNum (b : Bytes) (n : Int) : Bytes := b ++ numB (clampN n)
def putText (b s : Bytes) : Bytes := putNum b s.length ++ s
theorem numB_len (n : Nat) (h : n ≤ 1000000) : (numB n).length ≤ 3 := by
  by_cases h1 : n < 128
  · rw [numB_lt h1]; simp
  · rw [numB_ge h1]
    by_cases h2 : n / 128 < 128
    · rw [numB_lt h2]; simp
    · rw [numB_ge h2]
      have h3 : n / 128 / 128 < 128 := by omega
      rw [numB_lt h3]; simp
theorem putNum_len (b : Bytes) (n : Int) : (putNum b n).length ≤ b.length + 3 := by
  have := numB_len _ (clampN_le n)
  simp only [putNum, List.length_append]; omega
theorem putText_len (b s : Bytes) : (putText b s).length ≤ b.length + s.length + 3 := by
  have := putNum_len b s.length
  simp only [putText, List.length_append]; omega

theorem ofInt_nat {n : Nat} (w : Nat) : BitVec.ofInt w (n : Int) = BitVec.ofNat w n := by
  apply BitVec.eq_of_toNat_eq
  simp [BitVec.toNat_ofInt, BitVec.toNat_ofNat]
theorem wrap64 {n : Nat} (h : n < 2 ^ 63) : IntKind.i64.wrap (n : Int) = n := by
  have h1 : ((2 : Int) ^ IntKind.i64.bits) = 2 ^ 64 := by decide
  have h2 : ((2 : Int) ^ (IntKind.i64.bits - 1)) = 2 ^ 63 := by decide
  unfold IntKind.wrap
  simp only [h1, h2, IntKind.signed]
  simp
  omega
theorem wrapu32 {n : Nat} (h : n < 2 ^ 32) : IntKind.u32.wrap (n : Int) = n := by
  have h1 : ((2 : Int) ^ IntKind.u32.bits) = 2 ^ 32 := by decide
  unfold IntKind.wrap
  simp only [h1, IntKind.signed]
  simp
  omega
theorem and64 {a b : Nat} (ha : a < 2 ^ 63) (hb : b < 2 ^ 63) : IntKind.i64.wrap ((BitVec.ofInt IntKind.i64.bits (a : Int) &&& BitVec.ofInt IntKind.i64.bits (b : Int)).toNat : Int) = ((a &&& b : Nat) : Int) := by
  show IntKind.wrap _ ((BitVec.ofInt 64 (a : Int) &&& BitVec.ofInt 64 (b : Int)).toNat : Int) = _
  rw [ofInt_nat, ofInt_nat, BitVec.toNat_and, BitVec.toNat_ofNat, BitVec.toNat_ofNat, Nat.mod_eq_of_lt (by omega), Nat.mod_eq_of_lt (by omega)]
  exact wrap64 (Nat.lt_of_le_of_lt Nat.and_le_left ha)
theorem or64 {a b : Nat} (ha : a < 2 ^ 63) (hb : b < 2 ^ 63) : IntKind.i64.wrap ((BitVec.ofInt IntKind.i64.bits (a : Int) ||| BitVec.ofInt IntKind.i64.bits (b : Int)).toNat : Int) = ((a ||| b : Nat) : Int) := by
  show IntKind.wrap _ ((BitVec.ofInt 64 (a : Int) ||| BitVec.ofInt 64 (b : Int)).toNat : Int) = _
  rw [ofInt_nat, ofInt_nat, BitVec.toNat_or, BitVec.toNat_ofNat, BitVec.toNat_ofNat, Nat.mod_eq_of_lt (by omega), Nat.mod_eq_of_lt (by omega)]
  exact wrap64 (Nat.or_lt_two_pow ha hb)
theorem xor64 {a b : Nat} (ha : a < 2 ^ 63) (hb : b < 2 ^ 63) : IntKind.i64.wrap ((BitVec.ofInt IntKind.i64.bits (a : Int) ^^^ BitVec.ofInt IntKind.i64.bits (b : Int)).toNat : Int) = ((a ^^^ b : Nat) : Int) := by
  show IntKind.wrap _ ((BitVec.ofInt 64 (a : Int) ^^^ BitVec.ofInt 64 (b : Int)).toNat : Int) = _
  rw [ofInt_nat, ofInt_nat, BitVec.toNat_xor, BitVec.toNat_ofNat, BitVec.toNat_ofNat, Nat.mod_eq_of_lt (by omega), Nat.mod_eq_of_lt (by omega)]
  exact wrap64 (Nat.xor_lt_two_pow ha hb)
theorem and32 {a b : Nat} (ha : a < 2 ^ 32) (hb : b < 2 ^ 32) : IntKind.u32.wrap ((BitVec.ofInt IntKind.u32.bits (a : Int) &&& BitVec.ofInt IntKind.u32.bits (b : Int)).toNat : Int) = ((a &&& b : Nat) : Int) := by
  show IntKind.wrap _ ((BitVec.ofInt 32 (a : Int) &&& BitVec.ofInt 32 (b : Int)).toNat : Int) = _
  rw [ofInt_nat, ofInt_nat, BitVec.toNat_and, BitVec.toNat_ofNat, BitVec.toNat_ofNat, Nat.mod_eq_of_lt (by omega), Nat.mod_eq_of_lt (by omega)]
  exact wrapu32 (Nat.lt_of_le_of_lt Nat.and_le_left ha)
theorem xor32 {a b : Nat} (ha : a < 2 ^ 32) (hb : b < 2 ^ 32) : IntKind.u32.wrap ((BitVec.ofInt IntKind.u32.bits (a : Int) ^^^ BitVec.ofInt IntKind.u32.bits (b : Int)).toNat : Int) = ((a ^^^ b : Nat) : Int) := by
  show IntKind.wrap _ ((BitVec.ofInt 32 (a : Int) ^^^ BitVec.ofInt 32 (b : Int)).toNat : Int) = _
  rw [ofInt_nat, ofInt_nat, BitVec.toNat_xor, BitVec.toNat_ofNat, BitVec.toNat_ofNat, Nat.mod_eq_of_lt (by omega), Nat.mod_eq_of_lt (by omega)]
  exact wrapu32 (Nat.xor_lt_two_pow ha hb)
theorem and127 (n : Nat) : n &&& 127 = n % 128 := Nat.and_two_pow_sub_one_eq_mod n 7
theorem or128 {m : Nat} (h : m < 128) : m ||| 128 = m + 128 := by
  have : ∀ k : _root_.Fin 128, k.val ||| 128 = k.val + 128 := by decide
  exact this ⟨m, h⟩
theorem and1 (n : Nat) : n &&& 1 = n % 2 := Nat.and_two_pow_sub_one_eq_mod n 1
theorem shr7 (n : Nat) : (n : Int).fdiv 128 = ((n / 128 : Nat) : Int) := by
  rw [Int.fdiv_eq_ediv_of_nonneg _ (by omega)]; rfl
theorem shr1 (n : Nat) : (n : Int).fdiv 2 = ((n / 2 : Nat) : Int) := by
  rw [Int.fdiv_eq_ediv_of_nonneg _ (by omega)]; rfl

/-! ### the sum of bytes -/
def crcBit (x : Nat) : Nat := if x % 2 = 1 then (x / 2) ^^^ 2197175160 else x / 2
def crcBits : Nat → Nat → Nat
  | 0, x => x
  | k + 1, x => crcBits k (crcBit x)
def crcGo : Bytes → Nat → Nat
  | [], x => x
  | b :: l, x => crcGo l (crcBits 8 (x ^^^ b.toNat))
def crcN (b : Bytes) : Nat := crcGo b 4294967295 ^^^ 4294967295
theorem crcBit_lt {x : Nat} (h : x < 2 ^ 32) : crcBit x < 2 ^ 32 := by
  unfold crcBit
  split
  · exact Nat.xor_lt_two_pow (by omega) (by decide)
  · omega
theorem crcBits_lt : ∀ (k : Nat) {x : Nat}, x < 2 ^ 32 → crcBits k x < 2 ^ 32 := by
  intro k
  induction k with
  | zero => intro x h; exact h
  | succ k ih => intro x h; exact ih (crcBit_lt h)
theorem crcGo_lt : ∀ (b : Bytes) {x : Nat}, x < 2 ^ 32 → crcGo b x < 2 ^ 32 := by
  intro b
  induction b with
  | nil => intro x h; exact h
  | cons c l ih =>
    intro x h
    have : c.toNat < 2 ^ 8 := c.toNat_lt
    exact ih (crcBits_lt _ (Nat.xor_lt_two_pow h (by omega)))
theorem crcN_lt (b : Bytes) : crcN b < 2 ^ 32 := Nat.xor_lt_two_pow (crcGo_lt b (by decide)) (by decide)
theorem crcGo_take (b : Bytes) (i : Nat) (h : i < b.length) : ∀ x, crcGo (b.take (i + 1)) x = crcBits 8 (crcGo (b.take i) x ^^^ b[i].toNat) := by
  induction b generalizing i with
  | nil => simp at h
  | cons c l ih =>
    intro x
    cases i with
    | zero => simp [crcGo]
    | succ i => simp only [List.take_succ_cons, crcGo, List.getElem_cons_succ]; exact ih i (by simpa using h) _
def sealB (b : Bytes) : Bytes := b ++ [UInt8.ofNat (crcN b / 2 ^ 24), UInt8.ofNat (crcN b / 2 ^ 16), UInt8.ofNat (crcN b / 2 ^ 8), UInt8.ofNat (crcN b)]
def putRec (r : Rec) : Bytes := if recOk r then sealB (putText (putNum (putNum [] r.kind) r.seq) r.body) else []
end Go.Proofs.Ytliklgcfdgdigaa.Awp

namespace Go.Proofs.Ytliklgcfdgdigaa.Awp
open Go.Proofs
set_option linter.unusedSimpArgs false
set_option linter.unusedVariables false
set_option maxRecDepth 100000
set_option maxHeartbeats 20000000

theorem s_sameBytes (a b : Bytes) (hl : a.length < 2 ^ 40) : Spec Try.prog 72 [.ext 1 (bytesR a), .ext 1 (bytesR b)] (.bool (decide (a = b))) [.undef, .undef] := by
  refine spec_C hmx p_L_sameBytes [] 51 [] ⟨Nat.le_of_ble_eq_true rfl, Nat.le_of_ble_eq_true rfl⟩ rfl rfl ?_
  intro w hP hmd hks hQ
  unfold c_L_sameBytes
  simp +decide (maxSteps := 20000000) (disch := omega) only [↓SBK, ↓SBK2, SX, Nat.reduceEqDiff, Nat.reduceAdd, Nat.reduceMul, Nat.reduceSub, ↓reduceIte, Int.reduceNeg, Int.reduceToNat, Int.reducePow, hmd, hks, hQ]
  (first | with_reducible refine if_d _ ?_ ?_ | refine if_i _ ?_ ?_) <;> intro h
  · simp +decide (maxSteps := 20000000) (disch := omega) only [↓SBK, ↓SBK2, SX, Nat.reduceEqDiff, Nat.reduceAdd, Nat.reduceMul, Nat.reduceSub, ↓reduceIte, Int.reduceNeg, Int.reduceToNat, Int.reducePow, hmd, hks, hQ]
    refine loop_i (fun i : Nat => [(5, .int .i64 i)]) (fun i => i ≤ a.length ∧ a.take i = b.take i) (fun i => a.length - i) (0) hP hmd hks (rfl) (by simp) ?_
    rintro i ⟨hi, hab⟩ w1 hP1 hmd1 hks1 hQ1
    simp +decide (maxSteps := 20000000) (disch := omega) only [↓SBK, ↓SBK2, SX, Nat.reduceEqDiff, Nat.reduceAdd, Nat.reduceMul, Nat.reduceSub, ↓reduceIte, Int.reduceNeg, Int.reduceToNat, Int.reducePow, hmd, hks, hQ, hmd1, hks1, hQ1]
    (first | with_reducible refine if_d _ ?_ ?_ | refine if_i _ ?_ ?_) <;> intro h1
    · simp +decide (maxSteps := 20000000) (disch := omega) only [↓SBK, ↓SBK2, SX, Nat.reduceEqDiff, Nat.reduceAdd, Nat.reduceMul, Nat.reduceSub, ↓reduceIte, Int.reduceNeg, Int.reduceToNat, Int.reducePow, hmd, hks, hQ, hmd1, hks1, hQ1, getE h1, getE (h ▸ h1)]
      (first | with_reducible refine if_d _ ?_ ?_ | refine if_i _ ?_ ?_) <;> intro h2
      · simp +decide (maxSteps := 20000000) (disch := omega) only [↓SBK, ↓SBK2, SX, Nat.reduceEqDiff, Nat.reduceAdd, Nat.reduceMul, Nat.reduceSub, ↓reduceIte, Int.reduceNeg, Int.reduceToNat, Int.reducePow, hmd, hks, hQ, hmd1, hks1, hQ1]
        exact ⟨i + 1, rfl, ⟨by omega, take_eq_succ hab _ _ (UInt8.toNat_inj.1 (by omega))⟩, by omega⟩
      · simp +decide (maxSteps := 20000000) (disch := omega) only [↓SBK, ↓SBK2, SX, Nat.reduceEqDiff, Nat.reduceAdd, Nat.reduceMul, Nat.reduceSub, ↓reduceIte, Int.reduceNeg, Int.reduceToNat, Int.reducePow, hmd, hks, hQ, hmd1, hks1, hQ1]
        rw [decide_eq_false]
        rintro rfl; exact h2 rfl
    · simp +decide (maxSteps := 20000000) (disch := omega) only [↓SBK, ↓SBK2, SX, Nat.reduceEqDiff, Nat.reduceAdd, Nat.reduceMul, Nat.reduceSub, ↓reduceIte, Int.reduceNeg, Int.reduceToNat, Int.reducePow, hmd, hks, hQ, hmd1, hks1, hQ1]
      rw [decide_eq_true (take_all hab (by omega) (by omega))]
  · simp +decide (maxSteps := 20000000) (disch := omega) only [↓SBK, ↓SBK2, SX, Nat.reduceEqDiff, Nat.reduceAdd, Nat.reduceMul, Nat.reduceSub, ↓reduceIte, Int.reduceNeg, Int.reduceToNat, Int.reducePow, hmd, hks, hQ, hQ]
    rw [decide_eq_false]
    rintro rfl; exact h rfl

end Go.Proofs.Ytliklgcfdgdigaa.Awp

namespace Go.Proofs.Ytliklgcfdgdigaa.Awp
open Go.Proofs
set_option linter.unusedSimpArgs false
set_option linter.unusedVariables false
set_option maxRecDepth 100000
set_option maxHeartbeats 20000000

end Go.Proofs.Ytliklgcfdgdigaa.Awp

namespace Go.Proofs.Ytliklgcfdgdigaa.Awp
open Go.Proofs
set_option linter.unusedSimpArgs false
set_option linter.unusedVariables false
set_option maxRecDepth 100000
set_option maxHeartbeats 20000000

end Go.Proofs.Ytliklgcfdgdigaa.Awp

namespace Go.Proofs.Ytliklgcfdgdigaa.Awp
open Go.Proofs
set_option linter.unusedSimpArgs false
set_option linter.unusedVariables false
set_option maxRecDepth 100000
set_option maxHeartbeats 20000000

end Go.Proofs.Ytliklgcfdgdigaa.Awp

namespace Go.Proofs.Ytliklgcfdgdigaa.Awp
open Go.Proofs
set_option linter.unusedSimpArgs false
set_option linter.unusedVariables false
set_option maxRecDepth 100000
set_option maxHeartbeats 20000000

end Go.Proofs.Ytliklgcfdgdigaa.Awp

namespace Go.Proofs.Ytliklgcfdgdigaa.Awp
open Go.Proofs
set_option linter.unusedSimpArgs false
set_option linter.unusedVariables false
set_option maxRecDepth 100000
set_option maxHeartbeats 20000000

end Go.Proofs.Ytliklgcfdgdigaa.Awp

namespace Go.Proofs.Ytliklgcfdgdigaa.Awp
open Go.Proofs
set_option linter.unusedSimpArgs false
set_option linter.unusedVariables false
set_option maxRecDepth 100000
set_option maxHeartbeats 20000000

theorem s_l1In (x a b : Int) : Spec Try.prog 120 [.int .i64 x, .int .i64 a, .int .i64 b] (.bool (inR x a b)) [.undef, .undef, .undef] := by
  refine spec_C hmx p_S_l1In [] 71 [] ⟨Nat.le_of_ble_eq_true rfl, Nat.le_of_ble_eq_true rfl⟩ rfl rfl ?_
  intro w hP hmd hks hQ
  unfold c_S_l1In
  simp +decide (maxSteps := 20000000) (disch := omega) only [↓SBK, ↓SBK2, SX, Nat.reduceEqDiff, Nat.reduceAdd, Nat.reduceMul, Nat.reduceSub, ↓reduceIte, Int.reduceNeg, Int.reduceToNat, Int.reducePow, hmd, hks, hQ]
  (first | with_reducible refine gd_d _ ?_ ?_ | refine gd_i _ ?_ ?_) <;> intro h1
  · simp +decide (maxSteps := 20000000) (disch := omega) only [↓SBK, ↓SBK2, SX, Nat.reduceEqDiff, Nat.reduceAdd, Nat.reduceMul, Nat.reduceSub, ↓reduceIte, Int.reduceNeg, Int.reduceToNat, Int.reducePow, hmd, hks, hQ, h1]
    simp [inR, h1]
  · simp +decide (maxSteps := 20000000) (disch := omega) only [↓SBK, ↓SBK2, SX, Nat.reduceEqDiff, Nat.reduceAdd, Nat.reduceMul, Nat.reduceSub, ↓reduceIte, Int.reduceNeg, Int.reduceToNat, Int.reducePow, hmd, hks, hQ, h1]
    simp [inR, h1]
theorem s_from (x a b : Int) : Spec Try.prog 121 [.int .i64 x, .int .i64 a, .int .i64 b] (.bool (inR x a b)) [.undef, .undef, .undef] := by
  refine spec_C hmx p_I_from [] 71 [] ⟨Nat.le_of_ble_eq_true rfl, Nat.le_of_ble_eq_true rfl⟩ rfl rfl ?_
  intro w hP hmd hks hQ
  unfold c_I_from
  simp +decide (maxSteps := 20000000) (disch := omega) only [↓SBK, ↓SBK2, SX, Nat.reduceEqDiff, Nat.reduceAdd, Nat.reduceMul, Nat.reduceSub, ↓reduceIte, Int.reduceNeg, Int.reduceToNat, Int.reducePow, hmd, hks, hQ]
  (first | with_reducible refine gd_d _ ?_ ?_ | refine gd_i _ ?_ ?_) <;> intro h1
  · simp +decide (maxSteps := 20000000) (disch := omega) only [↓SBK, ↓SBK2, SX, Nat.reduceEqDiff, Nat.reduceAdd, Nat.reduceMul, Nat.reduceSub, ↓reduceIte, Int.reduceNeg, Int.reduceToNat, Int.reducePow, hmd, hks, hQ, h1]
    simp [inR, h1]
  · simp +decide (maxSteps := 20000000) (disch := omega) only [↓SBK, ↓SBK2, SX, Nat.reduceEqDiff, Nat.reduceAdd, Nat.reduceMul, Nat.reduceSub, ↓reduceIte, Int.reduceNeg, Int.reduceToNat, Int.reducePow, hmd, hks, hQ, h1]
    simp [inR, h1]
theorem sS_RecOk (r : Rec) (hl : r.body.length < 2 ^ 48) : Spec Try.prog 33 [r.x] (.bool (recOk r)) [.undef] := by
  refine spec_C hmx p_S_RecOk [] 7 [] ⟨Nat.le_of_ble_eq_true rfl, Nat.le_of_ble_eq_true rfl⟩ rfl rfl ?_
  intro w hP hmd hks hQ
  unfold c_S_RecOk
  simp +decide (maxSteps := 20000000) (disch := omega) only [↓SBK, ↓SBK2, SX, Nat.reduceEqDiff, Nat.reduceAdd, Nat.reduceMul, Nat.reduceSub, ↓reduceIte, Int.reduceNeg, Int.reduceToNat, Int.reducePow, hmd, hks, hQ]
  (first | refine call_i hP (s_l1In r.kind 1 4) (.inl ⟨rfl, fun _ hx => nomatch hx⟩) ?_ | refine callH_i hP (s_l1In r.kind 1 4) (.inl ⟨rfl, fun _ hx => nomatch hx⟩) ?_)
  simp +decide (maxSteps := 20000000) (disch := omega) only [↓SBK, ↓SBK2, SX, Nat.reduceEqDiff, Nat.reduceAdd, Nat.reduceMul, Nat.reduceSub, ↓reduceIte, Int.reduceNeg, Int.reduceToNat, Int.reducePow, hmd, hks, hQ]
  (first | with_reducible refine gd_d _ ?_ ?_ | refine gd_i _ ?_ ?_) <;> intro h1
  · simp +decide (maxSteps := 20000000) (disch := omega) only [↓SBK, ↓SBK2, SX, Nat.reduceEqDiff, Nat.reduceAdd, Nat.reduceMul, Nat.reduceSub, ↓reduceIte, Int.reduceNeg, Int.reduceToNat, Int.reducePow, hmd, hks, hQ, h1]
    (first | refine call_i hP (s_l1In r.seq 0 1000000) (.inl ⟨rfl, fun _ hx => nomatch hx⟩) ?_ | refine callH_i hP (s_l1In r.seq 0 1000000) (.inl ⟨rfl, fun _ hx => nomatch hx⟩) ?_)
    simp +decide (maxSteps := 20000000) (disch := omega) only [↓SBK, ↓SBK2, SX, Nat.reduceEqDiff, Nat.reduceAdd, Nat.reduceMul, Nat.reduceSub, ↓reduceIte, Int.reduceNeg, Int.reduceToNat, Int.reducePow, hmd, hks, hQ, h1]
    (first | with_reducible refine gd_d _ ?_ ?_ | refine gd_i _ ?_ ?_) <;> intro h2
    · simp +decide (maxSteps := 20000000) (disch := omega) only [↓SBK, ↓SBK2, SX, Nat.reduceEqDiff, Nat.reduceAdd, Nat.reduceMul, Nat.reduceSub, ↓reduceIte, Int.reduceNeg, Int.reduceToNat, Int.reducePow, hmd, hks, hQ, h1, h2]
      simp [recOk, h1, h2]
      try omega
    · simp +decide (maxSteps := 20000000) (disch := omega) only [↓SBK, ↓SBK2, SX, Nat.reduceEqDiff, Nat.reduceAdd, Nat.reduceMul, Nat.reduceSub, ↓reduceIte, Int.reduceNeg, Int.reduceToNat, Int.reducePow, hmd, hks, hQ, h1, h2]
      simp [recOk, h1, h2]
  · simp +decide (maxSteps := 20000000) (disch := omega) only [↓SBK, ↓SBK2, SX, Nat.reduceEqDiff, Nat.reduceAdd, Nat.reduceMul, Nat.reduceSub, ↓reduceIte, Int.reduceNeg, Int.reduceToNat, Int.reducePow, hmd, hks, hQ, h1]
    simp [recOk, h1]
theorem sI_RecOk (r : Rec) (hl : r.body.length < 2 ^ 48) : Spec Try.prog 35 [r.x] (.bool (recOk r)) [.undef] := by
  refine spec_C hmx p_I_RecOk [] 7 [] ⟨Nat.le_of_ble_eq_true rfl, Nat.le_of_ble_eq_true rfl⟩ rfl rfl ?_
  intro w hP hmd hks hQ
  unfold c_I_RecOk
  simp +decide (maxSteps := 20000000) (disch := omega) only [↓SBK, ↓SBK2, SX, Nat.reduceEqDiff, Nat.reduceAdd, Nat.reduceMul, Nat.reduceSub, ↓reduceIte, Int.reduceNeg, Int.reduceToNat, Int.reducePow, hmd, hks, hQ]
  (first | refine call_i hP (s_from r.kind 1 4) (.inl ⟨rfl, fun _ hx => nomatch hx⟩) ?_ | refine callH_i hP (s_from r.kind 1 4) (.inl ⟨rfl, fun _ hx => nomatch hx⟩) ?_)
  simp +decide (maxSteps := 20000000) (disch := omega) only [↓SBK, ↓SBK2, SX, Nat.reduceEqDiff, Nat.reduceAdd, Nat.reduceMul, Nat.reduceSub, ↓reduceIte, Int.reduceNeg, Int.reduceToNat, Int.reducePow, hmd, hks, hQ]
  (first | with_reducible refine gd_d _ ?_ ?_ | refine gd_i _ ?_ ?_) <;> intro h1
  · simp +decide (maxSteps := 20000000) (disch := omega) only [↓SBK, ↓SBK2, SX, Nat.reduceEqDiff, Nat.reduceAdd, Nat.reduceMul, Nat.reduceSub, ↓reduceIte, Int.reduceNeg, Int.reduceToNat, Int.reducePow, hmd, hks, hQ, h1]
    (first | refine call_i hP (s_from r.seq 0 1000000) (.inl ⟨rfl, fun _ hx => nomatch hx⟩) ?_ | refine callH_i hP (s_from r.seq 0 1000000) (.inl ⟨rfl, fun _ hx => nomatch hx⟩) ?_)
    simp +decide (maxSteps := 20000000) (disch := omega) only [↓SBK, ↓SBK2, SX, Nat.reduceEqDiff, Nat.reduceAdd, Nat.reduceMul, Nat.reduceSub, ↓reduceIte, Int.reduceNeg, Int.reduceToNat, Int.reducePow, hmd, hks, hQ, h1]
    (first | with_reducible refine gd_d _ ?_ ?_ | refine gd_i _ ?_ ?_) <;> intro h2
    · simp +decide (maxSteps := 20000000) (disch := omega) only [↓SBK, ↓SBK2, SX, Nat.reduceEqDiff, Nat.reduceAdd, Nat.reduceMul, Nat.reduceSub, ↓reduceIte, Int.reduceNeg, Int.reduceToNat, Int.reducePow, hmd, hks, hQ, h1, h2]
      simp [recOk, h1, h2]
      try omega
    · simp +decide (maxSteps := 20000000) (disch := omega) only [↓SBK, ↓SBK2, SX, Nat.reduceEqDiff, Nat.reduceAdd, Nat.reduceMul, Nat.reduceSub, ↓reduceIte, Int.reduceNeg, Int.reduceToNat, Int.reducePow, hmd, hks, hQ, h1, h2]
      simp [recOk, h1, h2]
  · simp +decide (maxSteps := 20000000) (disch := omega) only [↓SBK, ↓SBK2, SX, Nat.reduceEqDiff, Nat.reduceAdd, Nat.reduceMul, Nat.reduceSub, ↓reduceIte, Int.reduceNeg, Int.reduceToNat, Int.reducePow, hmd, hks, hQ, h1]
    simp [recOk, h1]
end Go.Proofs.Ytliklgcfdgdigaa.Awp

namespace Go.Proofs.Ytliklgcfdgdigaa.Awp
open Go.Proofs
set_option linter.unusedSimpArgs false
set_option linter.unusedVariables false
set_option maxRecDepth 100000
set_option maxHeartbeats 20000000

/-! ### bytes -/
theorem s_Clone8 (b : Bytes) (hl : b.length < 2 ^ 40) : Spec Try.prog 144 [.ext 1 (bytesR b)] (.own 1 (bytesR b)) [.undef] := by
  refine spec_extv fun a len cap ha => ?_
  cases a with
  | none =>
    obtain rfl : b = [] := by simpa [bytesR] using ha rfl
    refine spec_C hmx p_X_Clone_byte [] 5 [] ⟨Nat.le_of_ble_eq_true rfl, Nat.le_of_ble_eq_true rfl⟩ rfl rfl ?_
    intro w hP hmd hks hQ
    unfold c_X_Clone_byte
    simp +decide (maxSteps := 20000000) (disch := omega) only [↓SBK, ↓SBK2, SX, Nat.reduceEqDiff, Nat.reduceAdd, Nat.reduceMul, Nat.reduceSub, ↓reduceIte, Int.reduceNeg, Int.reduceToNat, Int.reducePow, hmd, hks, hQ]
    rfl
  | some a =>
    refine spec_C hmx p_X_Clone_byte [] 5 [] ⟨Nat.le_of_ble_eq_true rfl, Nat.le_of_ble_eq_true rfl⟩ rfl rfl ?_
    intro w hP hmd hks hQ
    unfold c_X_Clone_byte
    simp +decide (maxSteps := 20000000) (disch := omega) only [↓SBK, ↓SBK2, SX, Nat.reduceEqDiff, Nat.reduceAdd, Nat.reduceMul, Nat.reduceSub, ↓reduceIte, Int.reduceNeg, Int.reduceToNat, Int.reducePow, hmd, hks, hQ]

theorem numB_go (n : Nat) : numB n = if n < 128 then [UInt8.ofNat n] else UInt8.ofNat (n % 128 + 128) :: numB (n / 128) := by
  by_cases h : n < 128
  · rw [numB_lt h, if_pos h]
  · rw [numB_ge h, if_neg h]
theorem wrap8 (n : Nat) : IntKind.u8.wrap (n : Int) = ((UInt8.ofNat n).toNat : Int) := by
  rw [wrap_ofInt]
  have : UInt8.ofInt (n : Int) = UInt8.ofNat n := by simp [UInt8.ofInt]; apply UInt8.toNat_inj.1; simp; omega
  rw [this]
theorem bytesR_app (a b : Bytes) : bytesR a ++ bytesR b = bytesR (a ++ b) := by simp [bytesR]
theorem bytesR_snoc (x : Bytes) (k : Int) (h : 0 ≤ k ∧ k < 256) : bytesR x ++ [[TV.int .u8 k]] = bytesR (x ++ [UInt8.ofNat k.toNat]) := by
  have : (UInt8.ofNat k.toNat).toNat = k.toNat := by simp; omega
  simp [bytesR, this]
  omega
theorem tm128 (m : Nat) : (m : Int).tmod 128 = ((m % 128 : Nat) : Int) := rfl
theorem td128 (m : Nat) : (m : Int).tdiv 128 = ((m / 128 : Nat) : Int) := rfl
theorem clampI (n : Int) : (if 0 < if 1000000 < n then 1000000 else n then if 1000000 < n then 1000000 else n else 0) = ((clampN n : Nat) : Int) := by
  rw [clampN_eq]
  split <;> split <;> omega
theorem sI_PutNum (b : Bytes) (n : Int) (hl : b.length < 2 ^ 39) : Spec Try.prog 124 [.ext 1 (bytesR b), .int .i64 n] (.own 1 (bytesR (putNum b n))) [.undef, .undef] := by
  refine spec_C hmx p_I_PutNum [] 51 [] ⟨Nat.le_of_ble_eq_true rfl, Nat.le_of_ble_eq_true rfl⟩ rfl rfl ?_
  intro w hP hmd hks hQ
  unfold c_I_PutNum
  simp +decide (maxSteps := 20000000) (disch := omega) only [↓SBK, ↓SBK2, SX, Nat.reduceEqDiff, Nat.reduceAdd, Nat.reduceMul, Nat.reduceSub, ↓reduceIte, Int.reduceNeg, Int.reduceToNat, Int.reducePow, hmd, hks, hQ]
  (first | refine call_i hP (s_Clone8 b (by omega)) (.inl ⟨rfl, fun _ hx => nomatch hx⟩) ?_ | refine callH_i hP (s_Clone8 b (by omega)) (.inl ⟨rfl, fun _ hx => nomatch hx⟩) ?_)
  simp +decide (maxSteps := 20000000) (disch := omega) only [↓SBK, ↓SBK2, SX, Nat.reduceEqDiff, Nat.reduceAdd, Nat.reduceMul, Nat.reduceSub, ↓reduceIte, Int.reduceNeg, Int.reduceToNat, Int.reducePow, hmd, hks, hQ]
  simp only [clampI]
  refine loop_i (fun s : Bytes × Nat => [(5, .own 1 (bytesR s.1)), (1, .int .i64 (s.2 : Nat))]) (fun s => s.1 ++ numB s.2 = putNum b n ∧ s.2 ≤ 1000000 ∧ s.1.length ≤ b.length + 1000000 - s.2) (fun s => s.2) ((b, clampN n)) hP hmd hks (rfl) (by have := clampN_le n; exact ⟨rfl, this, by simp only; omega⟩) ?_
  rintro ⟨x, m⟩ ⟨h1, h2, h3⟩ w1 hP1 hmd1 hks1 hQ1
  simp +decide (maxSteps := 20000000) (disch := omega) only [↓SBK, ↓SBK2, SX, Nat.reduceEqDiff, Nat.reduceAdd, Nat.reduceMul, Nat.reduceSub, ↓reduceIte, Int.reduceNeg, Int.reduceToNat, Int.reducePow, hmd, hks, hQ, hmd1, hks1, hQ1]
  simp only at h1 h2 h3
  (first | with_reducible refine if_d _ ?_ ?_ | refine if_i _ ?_ ?_) <;> intro h4
  · simp +decide (maxSteps := 20000000) (disch := omega) only [↓SBK, ↓SBK2, SX, Nat.reduceEqDiff, Nat.reduceAdd, Nat.reduceMul, Nat.reduceSub, ↓reduceIte, Int.reduceNeg, Int.reduceToNat, Int.reducePow, hmd, hks, hQ, hmd1, hks1, hQ1, tm128, td128]
    rw [bytesR_snoc _ _ (by omega)]
    refine ⟨(x ++ [UInt8.ofNat (m % 128 + 128)], m / 128), rfl, ⟨?_, ?_, ?_⟩, ?_⟩
    · rw [← h1, numB_go m, if_neg (by omega)]; simp
    · simp only; omega
    · simp only [List.length_append, List.length_singleton]; omega
    · simp only; omega
  · simp +decide (maxSteps := 20000000) (disch := omega) only [↓SBK, ↓SBK2, SX, Nat.reduceEqDiff, Nat.reduceAdd, Nat.reduceMul, Nat.reduceSub, ↓reduceIte, Int.reduceNeg, Int.reduceToNat, Int.reducePow, hmd, hks, hQ, hmd1, hks1, hQ1]
    rw [bytesR_snoc _ _ (by omega), ← h1, numB_go m, if_pos (by omega)]
    simp

theorem andor {m : Nat} (h : m ≤ 1000000) : IntKind.i64.wrap ((BitVec.ofInt IntKind.i64.bits (IntKind.i64.wrap ((BitVec.ofInt IntKind.i64.bits (m : Int) &&& BitVec.ofInt IntKind.i64.bits 127).toNat : Int)) ||| BitVec.ofInt IntKind.i64.bits 128).toNat : Int) = ((m % 128 : Nat) : Int) + 128 := by
  have e1 := and64 (a := m) (b := 127) (by omega) (by decide)
  have e2 := or64 (a := m &&& 127) (b := 128) (Nat.lt_of_le_of_lt Nat.and_le_left (by omega)) (by decide)
  simp only [Int.cast_ofNat_Int] at e1 e2
  rw [e1, e2, and127, or128 (by omega)]
  omega
theorem sS_PutNum (b : Bytes) (n : Int) (hl : b.length < 2 ^ 39) : Spec Try.prog 123 [.ext 1 (bytesR b), .int .i64 n] (.own 1 (bytesR (putNum b n))) [.undef, .undef] := by
  refine spec_C hmx p_S_PutNum [] 51 [] ⟨Nat.le_of_ble_eq_true rfl, Nat.le_of_ble_eq_true rfl⟩ rfl rfl ?_
  intro w hP hmd hks hQ
  unfold c_S_PutNum
  simp +decide (maxSteps := 20000000) (disch := omega) only [↓SBK, ↓SBK2, SX, Nat.reduceEqDiff, Nat.reduceAdd, Nat.reduceMul, Nat.reduceSub, ↓reduceIte, Int.reduceNeg, Int.reduceToNat, Int.reducePow, hmd, hks, hQ]
  (first | with_reducible refine if_d _ ?_ ?_ | refine if_i _ ?_ ?_) <;> intro h1
  · have hc : ((clampN n : Nat) : Int) = 1000000 := by rw [clampN_eq]; omega
    simp +decide (maxSteps := 20000000) (disch := omega) only [↓SBK, ↓SBK2, SX, Nat.reduceEqDiff, Nat.reduceAdd, Nat.reduceMul, Nat.reduceSub, ↓reduceIte, Int.reduceNeg, Int.reduceToNat, Int.reducePow, hmd, hks, hQ]
    refine loop_i (fun s : Bytes × Nat => [(5, .own 1 (bytesR s.1)), (1, .int .i64 (s.2 : Nat))]) (fun s => s.1 ++ numB s.2 = putNum b n ∧ s.2 ≤ 1000000 ∧ s.1.length ≤ b.length + 1000000 - s.2) (fun s => s.2) ((b, clampN n)) hP hmd hks (by simp +decide (maxSteps := 20000000) (disch := omega) only [↓SBK, ↓SBK2, SX, Nat.reduceEqDiff, Nat.reduceAdd, Nat.reduceMul, Nat.reduceSub, ↓reduceIte, Int.reduceNeg, Int.reduceToNat, Int.reducePow, hmd, hks, hQ, hc]) (by have := clampN_le n; exact ⟨rfl, this, by simp only; omega⟩) ?_
    rintro ⟨x, m⟩ ⟨g1, g2, g3⟩ w1 hP1 hmd1 hks1 hQ1
    simp +decide (maxSteps := 20000000) (disch := omega) only [↓SBK, ↓SBK2, SX, Nat.reduceEqDiff, Nat.reduceAdd, Nat.reduceMul, Nat.reduceSub, ↓reduceIte, Int.reduceNeg, Int.reduceToNat, Int.reducePow, hmd, hks, hQ, hmd1, hks1, hQ1]
    simp only at g1 g2 g3
    (first | with_reducible refine if_d _ ?_ ?_ | refine if_i _ ?_ ?_) <;> intro h4
    · simp +decide (maxSteps := 20000000) (disch := omega) only [↓SBK, ↓SBK2, SX, Nat.reduceEqDiff, Nat.reduceAdd, Nat.reduceMul, Nat.reduceSub, ↓reduceIte, Int.reduceNeg, Int.reduceToNat, Int.reducePow, hmd, hks, hQ, hmd1, hks1, hQ1, andor g2, shr7]
      rw [bytesR_snoc _ _ (by omega)]
      refine ⟨(x ++ [UInt8.ofNat (m % 128 + 128)], m / 128), rfl, ⟨?_, ?_, ?_⟩, ?_⟩
      · rw [← g1, numB_go m, if_neg (by omega)]; simp
      · simp only; omega
      · simp only [List.length_append, List.length_singleton]; omega
      · simp only; omega
    · simp +decide (maxSteps := 20000000) (disch := omega) only [↓SBK, ↓SBK2, SX, Nat.reduceEqDiff, Nat.reduceAdd, Nat.reduceMul, Nat.reduceSub, ↓reduceIte, Int.reduceNeg, Int.reduceToNat, Int.reducePow, hmd, hks, hQ, hmd1, hks1, hQ1]
      rw [bytesR_snoc _ _ (by omega), ← g1, numB_go m, if_pos (by omega)]
      simp
  · simp +decide (maxSteps := 20000000) (disch := omega) only [↓SBK, ↓SBK2, SX, Nat.reduceEqDiff, Nat.reduceAdd, Nat.reduceMul, Nat.reduceSub, ↓reduceIte, Int.reduceNeg, Int.reduceToNat, Int.reducePow, hmd, hks, hQ]
    (first | with_reducible refine if_d _ ?_ ?_ | refine if_i _ ?_ ?_) <;> intro h2
    · have hc : ((clampN n : Nat) : Int) = 0 := by rw [clampN_eq]; omega
      simp +decide (maxSteps := 20000000) (disch := omega) only [↓SBK, ↓SBK2, SX, Nat.reduceEqDiff, Nat.reduceAdd, Nat.reduceMul, Nat.reduceSub, ↓reduceIte, Int.reduceNeg, Int.reduceToNat, Int.reducePow, hmd, hks, hQ]
      refine loop_i (fun s : Bytes × Nat => [(5, .own 1 (bytesR s.1)), (1, .int .i64 (s.2 : Nat))]) (fun s => s.1 ++ numB s.2 = putNum b n ∧ s.2 ≤ 1000000 ∧ s.1.length ≤ b.length + 1000000 - s.2) (fun s => s.2) ((b, clampN n)) hP hmd hks (by simp +decide (maxSteps := 20000000) (disch := omega) only [↓SBK, ↓SBK2, SX, Nat.reduceEqDiff, Nat.reduceAdd, Nat.reduceMul, Nat.reduceSub, ↓reduceIte, Int.reduceNeg, Int.reduceToNat, Int.reducePow, hmd, hks, hQ, hc]) (by have := clampN_le n; exact ⟨rfl, this, by simp only; omega⟩) ?_
      rintro ⟨x, m⟩ ⟨g1, g2, g3⟩ w1 hP1 hmd1 hks1 hQ1
      simp +decide (maxSteps := 20000000) (disch := omega) only [↓SBK, ↓SBK2, SX, Nat.reduceEqDiff, Nat.reduceAdd, Nat.reduceMul, Nat.reduceSub, ↓reduceIte, Int.reduceNeg, Int.reduceToNat, Int.reducePow, hmd, hks, hQ, hmd1, hks1, hQ1]
      simp only at g1 g2 g3
      (first | with_reducible refine if_d _ ?_ ?_ | refine if_i _ ?_ ?_) <;> intro h4
      · simp +decide (maxSteps := 20000000) (disch := omega) only [↓SBK, ↓SBK2, SX, Nat.reduceEqDiff, Nat.reduceAdd, Nat.reduceMul, Nat.reduceSub, ↓reduceIte, Int.reduceNeg, Int.reduceToNat, Int.reducePow, hmd, hks, hQ, hmd1, hks1, hQ1, andor g2, shr7]
        rw [bytesR_snoc _ _ (by omega)]
        refine ⟨(x ++ [UInt8.ofNat (m % 128 + 128)], m / 128), rfl, ⟨?_, ?_, ?_⟩, ?_⟩
        · rw [← g1, numB_go m, if_neg (by omega)]; simp
        · simp only; omega
        · simp only [List.length_append, List.length_singleton]; omega
        · simp only; omega
      · simp +decide (maxSteps := 20000000) (disch := omega) only [↓SBK, ↓SBK2, SX, Nat.reduceEqDiff, Nat.reduceAdd, Nat.reduceMul, Nat.reduceSub, ↓reduceIte, Int.reduceNeg, Int.reduceToNat, Int.reducePow, hmd, hks, hQ, hmd1, hks1, hQ1]
        rw [bytesR_snoc _ _ (by omega), ← g1, numB_go m, if_pos (by omega)]
        simp
    · have hc : ((clampN n : Nat) : Int) = n := by rw [clampN_eq]; omega
      simp +decide (maxSteps := 20000000) (disch := omega) only [↓SBK, ↓SBK2, SX, Nat.reduceEqDiff, Nat.reduceAdd, Nat.reduceMul, Nat.reduceSub, ↓reduceIte, Int.reduceNeg, Int.reduceToNat, Int.reducePow, hmd, hks, hQ]
      refine loop_i (fun s : Bytes × Nat => [(5, .own 1 (bytesR s.1)), (1, .int .i64 (s.2 : Nat))]) (fun s => s.1 ++ numB s.2 = putNum b n ∧ s.2 ≤ 1000000 ∧ s.1.length ≤ b.length + 1000000 - s.2) (fun s => s.2) ((b, clampN n)) hP hmd hks (by simp +decide (maxSteps := 20000000) (disch := omega) only [↓SBK, ↓SBK2, SX, Nat.reduceEqDiff, Nat.reduceAdd, Nat.reduceMul, Nat.reduceSub, ↓reduceIte, Int.reduceNeg, Int.reduceToNat, Int.reducePow, hmd, hks, hQ, hc]) (by have := clampN_le n; exact ⟨rfl, this, by simp only; omega⟩) ?_
      rintro ⟨x, m⟩ ⟨g1, g2, g3⟩ w1 hP1 hmd1 hks1 hQ1
      simp +decide (maxSteps := 20000000) (disch := omega) only [↓SBK, ↓SBK2, SX, Nat.reduceEqDiff, Nat.reduceAdd, Nat.reduceMul, Nat.reduceSub, ↓reduceIte, Int.reduceNeg, Int.reduceToNat, Int.reducePow, hmd, hks, hQ, hmd1, hks1, hQ1]
      simp only at g1 g2 g3
      (first | with_reducible refine if_d _ ?_ ?_ | refine if_i _ ?_ ?_) <;> intro h4
      · simp +decide (maxSteps := 20000000) (disch := omega) only [↓SBK, ↓SBK2, SX, Nat.reduceEqDiff, Nat.reduceAdd, Nat.reduceMul, Nat.reduceSub, ↓reduceIte, Int.reduceNeg, Int.reduceToNat, Int.reducePow, hmd, hks, hQ, hmd1, hks1, hQ1, andor g2, shr7]
        rw [bytesR_snoc _ _ (by omega)]
        refine ⟨(x ++ [UInt8.ofNat (m % 128 + 128)], m / 128), rfl, ⟨?_, ?_, ?_⟩, ?_⟩
        · rw [← g1, numB_go m, if_neg (by omega)]; simp
        · simp only; omega
        · simp only [List.length_append, List.length_singleton]; omega
        · simp only; omega
      · simp +decide (maxSteps := 20000000) (disch := omega) only [↓SBK, ↓SBK2, SX, Nat.reduceEqDiff, Nat.reduceAdd, Nat.reduceMul, Nat.reduceSub, ↓reduceIte, Int.reduceNeg, Int.reduceToNat, Int.reducePow, hmd, hks, hQ, hmd1, hks1, hQ1]
        rw [bytesR_snoc _ _ (by omega), ← g1, numB_go m, if_pos (by omega)]
        simp
end Go.Proofs.Ytliklgcfdgdigaa.Awp

namespace Go.Proofs.Ytliklgcfdgdigaa.Awp
open Go.Proofs
set_option linter.unusedSimpArgs false
set_option linter.unusedVariables false
set_option maxRecDepth 100000
set_option maxHeartbeats 20000000

theorem sI_PutText (b s : Bytes) (hl : b.length < 2 ^ 38) (hs : s.length < 2 ^ 38) : Spec Try.prog 125 [.ext 1 (bytesR b), .str s] (.own 1 (bytesR (putText b s))) [.undef, .undef] := by
  have hp := putNum_len b s.length
  refine spec_C hmx p_I_PutText [] 19 [] ⟨Nat.le_of_ble_eq_true rfl, Nat.le_of_ble_eq_true rfl⟩ rfl rfl ?_
  intro w hP hmd hks hQ
  unfold c_I_PutText
  simp +decide (maxSteps := 20000000) (disch := omega) only [↓SBK, ↓SBK2, SX, Nat.reduceEqDiff, Nat.reduceAdd, Nat.reduceMul, Nat.reduceSub, ↓reduceIte, Int.reduceNeg, Int.reduceToNat, Int.reducePow, hmd, hks, hQ]
  (first | refine call_i hP (sI_PutNum b s.length (by omega)) (.inl ⟨rfl, fun _ hx => nomatch hx⟩) ?_ | refine callH_i hP (sI_PutNum b s.length (by omega)) (.inl ⟨rfl, fun _ hx => nomatch hx⟩) ?_)
  simp +decide (maxSteps := 20000000) (disch := omega) only [↓SBK, ↓SBK2, SX, Nat.reduceEqDiff, Nat.reduceAdd, Nat.reduceMul, Nat.reduceSub, ↓reduceIte, Int.reduceNeg, Int.reduceToNat, Int.reducePow, hmd, hks, hQ, bytesR_app]
  rfl
theorem sS_PutText (b s : Bytes) (hl : b.length < 2 ^ 38) (hs : s.length < 2 ^ 38) : Spec Try.prog 122 [.ext 1 (bytesR b), .str s] (.own 1 (bytesR (putText b s))) [.undef, .undef] := by
  have hp := putNum_len b s.length
  refine spec_C hmx p_S_PutText [] 19 [] ⟨Nat.le_of_ble_eq_true rfl, Nat.le_of_ble_eq_true rfl⟩ rfl rfl ?_
  intro w hP hmd hks hQ
  unfold c_S_PutText
  simp +decide (maxSteps := 20000000) (disch := omega) only [↓SBK, ↓SBK2, SX, Nat.reduceEqDiff, Nat.reduceAdd, Nat.reduceMul, Nat.reduceSub, ↓reduceIte, Int.reduceNeg, Int.reduceToNat, Int.reducePow, hmd, hks, hQ]
  (first | refine call_i hP (sS_PutNum b s.length (by omega)) (.inl ⟨rfl, fun _ hx => nomatch hx⟩) ?_ | refine callH_i hP (sS_PutNum b s.length (by omega)) (.inl ⟨rfl, fun _ hx => nomatch hx⟩) ?_)
  simp +decide (maxSteps := 20000000) (disch := omega) only [↓SBK, ↓SBK2, SX, Nat.reduceEqDiff, Nat.reduceAdd, Nat.reduceMul, Nat.reduceSub, ↓reduceIte, Int.reduceNeg, Int.reduceToNat, Int.reducePow, hmd, hks, hQ, bytesR_app]
  rfl
end Go.Proofs.Ytliklgcfdgdigaa.Awp

namespace Go.Proofs.Ytliklgcfdgdigaa.Awp
open Go.Proofs
set_option linter.unusedSimpArgs false
set_option linter.unusedVariables false
set_option maxRecDepth 100000
set_option maxHeartbeats 20000000

end Go.Proofs.Ytliklgcfdgdigaa.Awp

namespace Go.Proofs.Ytliklgcfdgdigaa.Awp
open Go.Proofs
set_option linter.unusedSimpArgs false
set_option linter.unusedVariables false
set_option maxRecDepth 100000
set_option maxHeartbeats 20000000

def pads : List Nat → List (Nat × AV)
  | [] => []
  | k :: l => (k, .undef) :: pads l
theorem getL_pads (l : List (Nat × AV)) (ks : List Nat) (t : Nat) : getL (l ++ pads ks) t = getL l t := by
  induction l with
  | nil =>
    induction ks with
    | nil => rfl
    | cons k ks ih => simp only [List.nil_append, pads, getL] at *; split <;> simp_all
  | cons x l ih => obtain ⟨k, a⟩ := x; simp only [List.cons_append, getL]; rw [ih]
theorem mkV_pads (K : Nat) (l : List (Nat × AV)) (ks : List Nat) : mkV K l [] [] = mkV K (l ++ pads ks) [] [] := by
  unfold mkV
  congr 1
  funext t
  rw [getL_pads]
theorem crcBits_succ : ∀ (k x : Nat), crcBits (k + 1) x = crcBit (crcBits k x) := by
  intro k
  induction k with
  | zero => intro x; rfl
  | succ k ih => intro x; rw [crcBits, ih, crcBits]
theorem sI_Crc (b : Bytes) (hl : b.length < 2 ^ 40) : Spec Try.prog 172 [.ext 1 (bytesR b)] (.int .i64 (crcN b : Nat)) [.undef] := by
  refine spec_C hmx p_I_Crc [] 132077 [] ⟨Nat.le_of_ble_eq_true rfl, Nat.le_of_ble_eq_true rfl⟩ rfl rfl ?_
  intro w hP hmd hks hQ
  unfold c_I_Crc
  simp +decide (maxSteps := 20000000) (disch := omega) only [↓SBK, ↓SBK2, SX, Nat.reduceEqDiff, Nat.reduceAdd, Nat.reduceMul, Nat.reduceSub, ↓reduceIte, Int.reduceNeg, Int.reduceToNat, Int.reducePow, hmd, hks, hQ]
  rw [mkV_pads _ _ [5, 17, 6]]
  simp only [pads, List.cons_append, List.nil_append]
  refine loop_i (fun s : Nat × Nat × AV × AV × AV => [(9, .int .i64 (s.1 : Nat)), (3, .int .u32 (s.2.1 : Nat)), (5, s.2.2.1), (17, s.2.2.2.1), (6, s.2.2.2.2)]) (fun s => s.1 ≤ b.length ∧ s.2.1 = crcGo (b.take s.1) 4294967295 ∧ s.2.1 < 2 ^ 32 ∧ (∀ E K, fixA E K s.2.2.1 = s.2.2.1) ∧ (∀ E K, fixA E K s.2.2.2.1 = s.2.2.2.1) ∧ (∀ E K, fixA E K s.2.2.2.2 = s.2.2.2.2)) (fun s => b.length - s.1) ((0, 4294967295, .undef, .undef, .undef)) hP hmd hks (rfl) (⟨by simp, by simp [crcGo], by decide, fun _ _ => rfl, fun _ _ => rfl, fun _ _ => rfl⟩) ?_
  rintro ⟨i, x, a5, a17, a6⟩ ⟨g1, g2, g3, h5, h17, h6⟩ w1 hP1 hmd1 hks1 hQ1
  simp +decide (maxSteps := 20000000) (disch := omega) only [↓SBK, ↓SBK2, SX, Nat.reduceEqDiff, Nat.reduceAdd, Nat.reduceMul, Nat.reduceSub, ↓reduceIte, Int.reduceNeg, Int.reduceToNat, Int.reducePow, hmd, hks, hQ, hmd1, hks1, hQ1]
  simp only at g1 g2 g3 h5 h17 h6
  (first | with_reducible refine if_d _ ?_ ?_ | refine if_i _ ?_ ?_) <;> intro h1
  · have hb : (b[i]'(by omega)).toNat < 2 ^ 8 := (b[i]'(by omega)).toNat_lt
    have e0 : IntKind.u32.wrap ((b[i]'(by omega)).toNat : Int) = ((b[i]'(by omega)).toNat : Int) := wrapu32 (by omega)
    have e1 := xor32 (a := x) (b := (b[i]'(by omega)).toNat) (by omega) (by omega)
    have l0 : x ^^^ (b[i]'(by omega)).toNat < 2 ^ 32 := Nat.xor_lt_two_pow g3 (by omega)
    simp +decide (maxSteps := 20000000) (disch := omega) only [↓SBK, ↓SBK2, SX, Nat.reduceEqDiff, Nat.reduceAdd, Nat.reduceMul, Nat.reduceSub, ↓reduceIte, Int.reduceNeg, Int.reduceToNat, Int.reducePow, hmd, hks, hQ, hmd1, hks1, hQ1, getE h1, e0, e1, h5, h17, h6]
    refine loop_i (fun s : Nat × Nat × AV => [(17, .int .i64 (s.1 : Nat)), (3, .int .u32 (s.2.1 : Nat)), (6, s.2.2)]) (fun s => s.1 ≤ 8 ∧ s.2.1 = crcBits s.1 (x ^^^ (b[i]'(by omega)).toNat) ∧ (∀ E K, fixA E K s.2.2 = s.2.2)) (fun s => 8 - s.1) ((0, x ^^^ (b[i]'(by omega)).toNat, a6)) hP1 hmd1 hks1 (by simp +decide (maxSteps := 20000000) (disch := omega) only [↓SBK, ↓SBK2, SX, Nat.reduceEqDiff, Nat.reduceAdd, Nat.reduceMul, Nat.reduceSub, ↓reduceIte, Int.reduceNeg, Int.reduceToNat, Int.reducePow, hmd, hks, hQ, hmd1, hks1, hQ1, e0, e1, h5, h17, h6]) (⟨by simp, rfl, h6⟩) ?_
    rintro ⟨j, y, c6⟩ ⟨k1, k2, kk⟩ w2 hP2 hmd2 hks2 hQ2
    simp +decide (maxSteps := 20000000) (disch := omega) only [↓SBK, ↓SBK2, SX, Nat.reduceEqDiff, Nat.reduceAdd, Nat.reduceMul, Nat.reduceSub, ↓reduceIte, Int.reduceNeg, Int.reduceToNat, Int.reducePow, hmd, hks, hQ, hmd1, hks1, hQ1, hmd2, hks2, hQ2]
    simp only at k1 k2 kk
    have k3 : y < 2 ^ 32 := by rw [k2]; exact crcBits_lt _ l0
    (first | with_reducible refine if_d _ ?_ ?_ | refine if_i _ ?_ ?_) <;> intro h2
    · have e2 := and32 (a := y) (b := 1) (by omega) (by decide)
      have e3 := xor32 (a := y / 2) (b := 2197175160) (by omega) (by decide)
      simp only [Int.cast_ofNat_Int, and1] at e2 e3
      simp +decide (maxSteps := 20000000) (disch := omega) only [↓SBK, ↓SBK2, SX, Nat.reduceEqDiff, Nat.reduceAdd, Nat.reduceMul, Nat.reduceSub, ↓reduceIte, Int.reduceNeg, Int.reduceToNat, Int.reducePow, hmd, hks, hQ, hmd1, hks1, hQ1, hmd2, hks2, hQ2, e2, shr1, kk, h5]
      (first | with_reducible refine if_d _ ?_ ?_ | refine if_i _ ?_ ?_) <;> intro h3
      · simp +decide (maxSteps := 20000000) (disch := omega) only [↓SBK, ↓SBK2, SX, Nat.reduceEqDiff, Nat.reduceAdd, Nat.reduceMul, Nat.reduceSub, ↓reduceIte, Int.reduceNeg, Int.reduceToNat, Int.reducePow, hmd, hks, hQ, hmd1, hks1, hQ1, hmd2, hks2, hQ2, e3, kk, h5]
        exact ⟨(j + 1, (y / 2) ^^^ 2197175160, _), rfl, ⟨by simp only; omega, by simp only; rw [crcBits_succ, ← k2, crcBit, if_pos (by omega)], fun _ _ => rfl⟩, by simp only; omega⟩
      · simp +decide (maxSteps := 20000000) (disch := omega) only [↓SBK, ↓SBK2, SX, Nat.reduceEqDiff, Nat.reduceAdd, Nat.reduceMul, Nat.reduceSub, ↓reduceIte, Int.reduceNeg, Int.reduceToNat, Int.reducePow, hmd, hks, hQ, hmd1, hks1, hQ1, hmd2, hks2, hQ2]
        exact ⟨(j + 1, y / 2, _), rfl, ⟨by simp only; omega, by simp only; rw [crcBits_succ, ← k2, crcBit, if_neg (by omega)], fun _ _ => rfl⟩, by simp only; omega⟩
    · obtain rfl : j = 8 := by omega
      simp +decide (maxSteps := 20000000) (disch := omega) only [↓SBK, ↓SBK2, SX, Nat.reduceEqDiff, Nat.reduceAdd, Nat.reduceMul, Nat.reduceSub, ↓reduceIte, Int.reduceNeg, Int.reduceToNat, Int.reducePow, hmd, hks, hQ, hmd1, hks1, hQ1, hmd2, hks2, hQ2, kk, h5]
      exact ⟨(i + 1, y, _, _, _), rfl, ⟨by simp only; omega, by simp only; rw [crcGo_take b i (by omega), ← g2, k2], k3, fun _ _ => rfl, fun _ _ => rfl, kk⟩, by simp only; omega⟩
  · obtain rfl : i = b.length := by omega
    rw [List.take_length] at g2
    have e4 := xor32 (a := 4294967295) (b := x) (by decide) (by omega)
    simp +decide (maxSteps := 20000000) (disch := omega) only [↓SBK, ↓SBK2, SX, Nat.reduceEqDiff, Nat.reduceAdd, Nat.reduceMul, Nat.reduceSub, ↓reduceIte, Int.reduceNeg, Int.reduceToNat, Int.reducePow, hmd, hks, hQ, hmd1, hks1, hQ1, h5, h6, h17]
    have e5 : (4294967295 ^^^ x) < 2 ^ 32 := Nat.xor_lt_two_pow (by decide) g3
    rw [show (IntKind.u32.max : Int) = ((4294967295 : Nat) : Int) from rfl, e4, wrap64 (by omega), crcN, ← g2, Nat.xor_comm]
theorem sS_Crc (b : Bytes) (hl : b.length < 2 ^ 40) : Spec Try.prog 129 [.ext 1 (bytesR b)] (.int .i64 (crcN b : Nat)) [.undef] := by
  refine spec_C hmx p_S_Crc [] 125 [] ⟨Nat.le_of_ble_eq_true rfl, Nat.le_of_ble_eq_true rfl⟩ rfl rfl ?_
  intro w hP hmd hks hQ
  unfold c_S_Crc
  simp +decide (maxSteps := 20000000) (disch := omega) only [↓SBK, ↓SBK2, SX, Nat.reduceEqDiff, Nat.reduceAdd, Nat.reduceMul, Nat.reduceSub, ↓reduceIte, Int.reduceNeg, Int.reduceToNat, Int.reducePow, hmd, hks, hQ]
  rw [mkV_pads _ _ [5, 6]]
  simp only [pads, List.cons_append, List.nil_append]
  refine loop_i (fun s : Nat × Nat × AV × AV => [(4, .int .i64 (s.1 : Nat)), (3, .int .i64 (s.2.1 : Nat)), (5, s.2.2.1), (6, s.2.2.2)]) (fun s => s.1 ≤ b.length ∧ s.2.1 = crcGo (b.take s.1) 4294967295 ∧ s.2.1 < 2 ^ 32 ∧ (∀ E K, fixA E K s.2.2.1 = s.2.2.1) ∧ (∀ E K, fixA E K s.2.2.2 = s.2.2.2)) (fun s => b.length - s.1) ((0, 4294967295, .undef, .undef)) hP hmd hks (rfl) (⟨by simp, by simp [crcGo], by decide, fun _ _ => rfl, fun _ _ => rfl⟩) ?_
  rintro ⟨i, x, a5, a6⟩ ⟨g1, g2, g3, h5, h6⟩ w1 hP1 hmd1 hks1 hQ1
  simp +decide (maxSteps := 20000000) (disch := omega) only [↓SBK, ↓SBK2, SX, Nat.reduceEqDiff, Nat.reduceAdd, Nat.reduceMul, Nat.reduceSub, ↓reduceIte, Int.reduceNeg, Int.reduceToNat, Int.reducePow, hmd, hks, hQ, hmd1, hks1, hQ1]
  simp only at g1 g2 g3 h5 h6
  (first | with_reducible refine if_d _ ?_ ?_ | refine if_i _ ?_ ?_) <;> intro h1
  · have hb : (b[i]'(by omega)).toNat < 2 ^ 8 := (b[i]'(by omega)).toNat_lt
    have e0 : IntKind.i64.wrap ((b[i]'(by omega)).toNat : Int) = ((b[i]'(by omega)).toNat : Int) := wrap64 (by omega)
    have e1 := xor64 (a := x) (b := (b[i]'(by omega)).toNat) (by omega) (by omega)
    have l0 : x ^^^ (b[i]'(by omega)).toNat < 2 ^ 32 := Nat.xor_lt_two_pow g3 (by omega)
    simp +decide (maxSteps := 20000000) (disch := omega) only [↓SBK, ↓SBK2, SX, Nat.reduceEqDiff, Nat.reduceAdd, Nat.reduceMul, Nat.reduceSub, ↓reduceIte, Int.reduceNeg, Int.reduceToNat, Int.reducePow, hmd, hks, hQ, hmd1, hks1, hQ1, getE h1, e0, e1, h5, h6]
    refine loop_i (fun s : Nat × Nat × AV => [(5, .int .i64 (s.1 : Nat)), (3, .int .i64 (s.2.1 : Nat)), (6, s.2.2)]) (fun s => s.1 ≤ 8 ∧ s.2.1 = crcBits s.1 (x ^^^ (b[i]'(by omega)).toNat) ∧ (∀ E K, fixA E K s.2.2 = s.2.2)) (fun s => 8 - s.1) ((0, x ^^^ (b[i]'(by omega)).toNat, a6)) hP1 hmd1 hks1 (by simp +decide (maxSteps := 20000000) (disch := omega) only [↓SBK, ↓SBK2, SX, Nat.reduceEqDiff, Nat.reduceAdd, Nat.reduceMul, Nat.reduceSub, ↓reduceIte, Int.reduceNeg, Int.reduceToNat, Int.reducePow, hmd, hks, hQ, hmd1, hks1, hQ1, e0, e1, h5, h6]) (⟨by simp, rfl, h6⟩) ?_
    rintro ⟨j, y, c6⟩ ⟨k1, k2, kk⟩ w2 hP2 hmd2 hks2 hQ2
    simp +decide (maxSteps := 20000000) (disch := omega) only [↓SBK, ↓SBK2, SX, Nat.reduceEqDiff, Nat.reduceAdd, Nat.reduceMul, Nat.reduceSub, ↓reduceIte, Int.reduceNeg, Int.reduceToNat, Int.reducePow, hmd, hks, hQ, hmd1, hks1, hQ1, hmd2, hks2, hQ2]
    simp only at k1 k2 kk
    have k3 : y < 2 ^ 32 := by rw [k2]; exact crcBits_lt _ l0
    (first | with_reducible refine if_d _ ?_ ?_ | refine if_i _ ?_ ?_) <;> intro h2
    · have e2 := and64 (a := y) (b := 1) (by omega) (by decide)
      have e3 := xor64 (a := y / 2) (b := 2197175160) (by omega) (by decide)
      simp only [Int.cast_ofNat_Int, and1] at e2 e3
      simp +decide (maxSteps := 20000000) (disch := omega) only [↓SBK, ↓SBK2, SX, Nat.reduceEqDiff, Nat.reduceAdd, Nat.reduceMul, Nat.reduceSub, ↓reduceIte, Int.reduceNeg, Int.reduceToNat, Int.reducePow, hmd, hks, hQ, hmd1, hks1, hQ1, hmd2, hks2, hQ2, e2, shr1, kk, h5]
      (first | with_reducible refine if_d _ ?_ ?_ | refine if_i _ ?_ ?_) <;> intro h3
      · simp +decide (maxSteps := 20000000) (disch := omega) only [↓SBK, ↓SBK2, SX, Nat.reduceEqDiff, Nat.reduceAdd, Nat.reduceMul, Nat.reduceSub, ↓reduceIte, Int.reduceNeg, Int.reduceToNat, Int.reducePow, hmd, hks, hQ, hmd1, hks1, hQ1, hmd2, hks2, hQ2, e3, kk, h5]
        exact ⟨(j + 1, (y / 2) ^^^ 2197175160, _), rfl, ⟨by simp only; omega, by simp only; rw [crcBits_succ, ← k2, crcBit, if_pos (by omega)], fun _ _ => rfl⟩, by simp only; omega⟩
      · simp +decide (maxSteps := 20000000) (disch := omega) only [↓SBK, ↓SBK2, SX, Nat.reduceEqDiff, Nat.reduceAdd, Nat.reduceMul, Nat.reduceSub, ↓reduceIte, Int.reduceNeg, Int.reduceToNat, Int.reducePow, hmd, hks, hQ, hmd1, hks1, hQ1, hmd2, hks2, hQ2]
        exact ⟨(j + 1, y / 2, _), rfl, ⟨by simp only; omega, by simp only; rw [crcBits_succ, ← k2, crcBit, if_neg (by omega)], fun _ _ => rfl⟩, by simp only; omega⟩
    · obtain rfl : j = 8 := by omega
      simp +decide (maxSteps := 20000000) (disch := omega) only [↓SBK, ↓SBK2, SX, Nat.reduceEqDiff, Nat.reduceAdd, Nat.reduceMul, Nat.reduceSub, ↓reduceIte, Int.reduceNeg, Int.reduceToNat, Int.reducePow, hmd, hks, hQ, hmd1, hks1, hQ1, hmd2, hks2, hQ2, kk, h5]
      exact ⟨(i + 1, y, _, _), rfl, ⟨by simp only; omega, by simp only; rw [crcGo_take b i (by omega), ← g2, k2], k3, fun _ _ => rfl, kk⟩, by simp only; omega⟩
  · obtain rfl : i = b.length := by omega
    rw [List.take_length] at g2
    have e4 := xor64 (a := x) (b := 4294967295) (by omega) (by decide)
    simp only [Int.cast_ofNat_Int] at e4
    simp +decide (maxSteps := 20000000) (disch := omega) only [↓SBK, ↓SBK2, SX, Nat.reduceEqDiff, Nat.reduceAdd, Nat.reduceMul, Nat.reduceSub, ↓reduceIte, Int.reduceNeg, Int.reduceToNat, Int.reducePow, hmd, hks, hQ, hmd1, hks1, hQ1, h5, h6]
    rw [e4, crcN, ← g2]
theorem shr8 (n : Nat) : (n : Int).fdiv 256 = ((n / 256 : Nat) : Int) := by
  rw [Int.fdiv_eq_ediv_of_nonneg _ (by omega)]; rfl
theorem shr16 (n : Nat) : (n : Int).fdiv 65536 = ((n / 65536 : Nat) : Int) := by
  rw [Int.fdiv_eq_ediv_of_nonneg _ (by omega)]; rfl
theorem shr24 (n : Nat) : (n : Int).fdiv 16777216 = ((n / 16777216 : Nat) : Int) := by
  rw [Int.fdiv_eq_ediv_of_nonneg _ (by omega)]; rfl
theorem seal_row (b : Bytes) (n : Nat) : bytesR b ++ [[TV.int .u8 (IntKind.u8.wrap ((n / 16777216 : Nat) : Int))], [TV.int .u8 (IntKind.u8.wrap ((n / 65536 : Nat) : Int))], [TV.int .u8 (IntKind.u8.wrap ((n / 256 : Nat) : Int))], [TV.int .u8 (IntKind.u8.wrap ((n : Nat) : Int))]] =
    bytesR (b ++ [UInt8.ofNat (n / 2 ^ 24), UInt8.ofNat (n / 2 ^ 16), UInt8.ofNat (n / 2 ^ 8), UInt8.ofNat n]) := by
  rw [wrap8, wrap8, wrap8, wrap8]
  simp [bytesR]
theorem wrap8id (n : Nat) (h : n < 256) : IntKind.u8.wrap (n : Int) = (n : Int) := by
  rw [wrap8]
  have : (UInt8.ofNat n).toNat = n := by simp; omega
  rw [this]
theorem sI_sealed (b : Bytes) (hl : b.length < 2 ^ 39) : Spec Try.prog 130 [.ext 1 (bytesR b)] (.own 1 (bytesR (sealB b))) [.undef] := by
  have hc := crcN_lt b
  refine spec_C hmx p_I_sealed [] 13 [] ⟨Nat.le_of_ble_eq_true rfl, Nat.le_of_ble_eq_true rfl⟩ rfl rfl ?_
  intro w hP hmd hks hQ
  unfold c_I_sealed
  simp +decide (maxSteps := 20000000) (disch := omega) only [↓SBK, ↓SBK2, SX, Nat.reduceEqDiff, Nat.reduceAdd, Nat.reduceMul, Nat.reduceSub, ↓reduceIte, Int.reduceNeg, Int.reduceToNat, Int.reducePow, hmd, hks, hQ]
  (first | refine call_i hP (sI_Crc b (by omega)) (.inl ⟨rfl, fun _ hx => nomatch hx⟩) ?_ | refine callH_i hP (sI_Crc b (by omega)) (.inl ⟨rfl, fun _ hx => nomatch hx⟩) ?_)
  simp +decide (maxSteps := 20000000) (disch := omega) only [↓SBK, ↓SBK2, SX, Nat.reduceEqDiff, Nat.reduceAdd, Nat.reduceMul, Nat.reduceSub, ↓reduceIte, Int.reduceNeg, Int.reduceToNat, Int.reducePow, hmd, hks, hQ]
  (first | refine call_i hP (s_Clone8 b (by omega)) (.inl ⟨rfl, fun _ hx => nomatch hx⟩) ?_ | refine callH_i hP (s_Clone8 b (by omega)) (.inl ⟨rfl, fun _ hx => nomatch hx⟩) ?_)
  simp +decide (maxSteps := 20000000) (disch := omega) only [↓SBK, ↓SBK2, SX, Nat.reduceEqDiff, Nat.reduceAdd, Nat.reduceMul, Nat.reduceSub, ↓reduceIte, Int.reduceNeg, Int.reduceToNat, Int.reducePow, hmd, hks, hQ, shr8, shr16, shr24]
  rw [← wrap8id (crcN b / 16777216) (by omega), seal_row]
  rfl
theorem sealB_len (b : Bytes) : (sealB b).length = b.length + 4 := by simp [sealB]
def recB (r : Rec) : Bytes := putText (putNum (putNum [] r.kind) r.seq) r.body
theorem putRec_ok {r : Rec} (h : recOk r = true) : putRec r = sealB (recB r) := if_pos h
theorem putRec_no {r : Rec} (h : ¬ recOk r = true) : putRec r = [] := if_neg h
theorem recB_lens (r : Rec) (hl : r.body.length < 2 ^ 30) : (putNum [] r.kind).length < 2 ^ 31 ∧ (putNum (putNum [] r.kind) r.seq).length < 2 ^ 31 ∧ (recB r).length < 2 ^ 31 := by
  have l1 := putNum_len [] r.kind
  have l2 := putNum_len (putNum [] r.kind) r.seq
  have l3 := putText_len (putNum (putNum [] r.kind) r.seq) r.body
  simp only [List.length_nil] at l1
  refine ⟨by omega, by omega, ?_⟩
  unfold recB; omega
theorem sI_PutRec (r : Rec) (hl : r.sz < 2 ^ 30) : Spec Try.prog 54 [r.x] (.own 1 (bytesR (putRec r))) [.undef] := by
  simp only [Rec.sz] at hl
  obtain ⟨l1, l2, l3⟩ := recB_lens r hl
  refine spec_C hmx p_I_PutRec [] 7 [] ⟨Nat.le_of_ble_eq_true rfl, Nat.le_of_ble_eq_true rfl⟩ rfl rfl ?_
  intro w hP hmd hks hQ
  unfold c_I_PutRec
  simp +decide (maxSteps := 20000000) (disch := omega) only [↓SBK, ↓SBK2, SX, Nat.reduceEqDiff, Nat.reduceAdd, Nat.reduceMul, Nat.reduceSub, ↓reduceIte, Int.reduceNeg, Int.reduceToNat, Int.reducePow, hmd, hks, hQ]
  (first | refine call_i hP (sI_RecOk r (by omega)) (.inl ⟨rfl, fun _ hx => nomatch hx⟩) ?_ | refine callH_i hP (sI_RecOk r (by omega)) (.inl ⟨rfl, fun _ hx => nomatch hx⟩) ?_)
  simp +decide (maxSteps := 20000000) (disch := omega) only [↓SBK, ↓SBK2, SX, Nat.reduceEqDiff, Nat.reduceAdd, Nat.reduceMul, Nat.reduceSub, ↓reduceIte, Int.reduceNeg, Int.reduceToNat, Int.reducePow, hmd, hks, hQ]
  (first | with_reducible refine if_d _ ?_ ?_ | refine if_i _ ?_ ?_) <;> intro h1
  · simp only [h1, Bool.not_true, Bool.not_false]
    simp +decide (maxSteps := 20000000) (disch := omega) only [↓SBK, ↓SBK2, SX, Nat.reduceEqDiff, Nat.reduceAdd, Nat.reduceMul, Nat.reduceSub, ↓reduceIte, Int.reduceNeg, Int.reduceToNat, Int.reducePow, hmd, hks, hQ]
    (first | refine call_i hP (sI_PutNum [] r.kind (by decide)) (.inl ⟨rfl, fun _ hx => nomatch hx⟩) ?_ | refine callH_i hP (sI_PutNum [] r.kind (by decide)) (.inl ⟨rfl, fun _ hx => nomatch hx⟩) ?_)
    simp +decide (maxSteps := 20000000) (disch := omega) only [↓SBK, ↓SBK2, SX, Nat.reduceEqDiff, Nat.reduceAdd, Nat.reduceMul, Nat.reduceSub, ↓reduceIte, Int.reduceNeg, Int.reduceToNat, Int.reducePow, hmd, hks, hQ]
    (first | refine call_i hP (sI_PutNum (putNum [] r.kind) r.seq (by omega)) (.inl ⟨rfl, fun _ hx => nomatch hx⟩) ?_ | refine callH_i hP (sI_PutNum (putNum [] r.kind) r.seq (by omega)) (.inl ⟨rfl, fun _ hx => nomatch hx⟩) ?_)
    simp +decide (maxSteps := 20000000) (disch := omega) only [↓SBK, ↓SBK2, SX, Nat.reduceEqDiff, Nat.reduceAdd, Nat.reduceMul, Nat.reduceSub, ↓reduceIte, Int.reduceNeg, Int.reduceToNat, Int.reducePow, hmd, hks, hQ]
    (first | refine call_i hP (sI_PutText (putNum (putNum [] r.kind) r.seq) r.body (by omega) (by omega)) (.inl ⟨rfl, fun _ hx => nomatch hx⟩) ?_ | refine callH_i hP (sI_PutText (putNum (putNum [] r.kind) r.seq) r.body (by omega) (by omega)) (.inl ⟨rfl, fun _ hx => nomatch hx⟩) ?_)
    simp +decide (maxSteps := 20000000) (disch := omega) only [↓SBK, ↓SBK2, SX, Nat.reduceEqDiff, Nat.reduceAdd, Nat.reduceMul, Nat.reduceSub, ↓reduceIte, Int.reduceNeg, Int.reduceToNat, Int.reducePow, hmd, hks, hQ]
    (first | refine call_i hP (sI_sealed (recB r) (by omega)) (.inl ⟨rfl, fun _ hx => nomatch hx⟩) ?_ | refine callH_i hP (sI_sealed (recB r) (by omega)) (.inl ⟨rfl, fun _ hx => nomatch hx⟩) ?_)
    simp +decide (maxSteps := 20000000) (disch := omega) only [↓SBK, ↓SBK2, SX, Nat.reduceEqDiff, Nat.reduceAdd, Nat.reduceMul, Nat.reduceSub, ↓reduceIte, Int.reduceNeg, Int.reduceToNat, Int.reducePow, hmd, hks, hQ]
    rw [putRec_ok h1]
  · simp only [h1, Bool.not_true, Bool.not_false]
    simp +decide (maxSteps := 20000000) (disch := omega) only [↓SBK, ↓SBK2, SX, Nat.reduceEqDiff, Nat.reduceAdd, Nat.reduceMul, Nat.reduceSub, ↓reduceIte, Int.reduceNeg, Int.reduceToNat, Int.reducePow, hmd, hks, hQ]
    rw [putRec_no (by simp [h1])]; rfl
theorem sS_PutRec (r : Rec) (hl : r.sz < 2 ^ 30) : Spec Try.prog 53 [r.x] (.own 1 (bytesR (putRec r))) [.undef] := by
  simp only [Rec.sz] at hl
  obtain ⟨l1, l2, l3⟩ := recB_lens r hl
  have hc := crcN_lt (recB r)
  have l4 : (putText (putNum (putNum [] r.kind) r.seq) r.body).length < 2 ^ 31 := l3
  refine spec_C hmx p_S_PutRec [] 31 [] ⟨Nat.le_of_ble_eq_true rfl, Nat.le_of_ble_eq_true rfl⟩ rfl rfl ?_
  intro w hP hmd hks hQ
  unfold c_S_PutRec
  simp +decide (maxSteps := 20000000) (disch := omega) only [↓SBK, ↓SBK2, SX, Nat.reduceEqDiff, Nat.reduceAdd, Nat.reduceMul, Nat.reduceSub, ↓reduceIte, Int.reduceNeg, Int.reduceToNat, Int.reducePow, hmd, hks, hQ]
  (first | refine call_i hP (sS_RecOk r (by omega)) (.inl ⟨rfl, fun _ hx => nomatch hx⟩) ?_ | refine callH_i hP (sS_RecOk r (by omega)) (.inl ⟨rfl, fun _ hx => nomatch hx⟩) ?_)
  simp +decide (maxSteps := 20000000) (disch := omega) only [↓SBK, ↓SBK2, SX, Nat.reduceEqDiff, Nat.reduceAdd, Nat.reduceMul, Nat.reduceSub, ↓reduceIte, Int.reduceNeg, Int.reduceToNat, Int.reducePow, hmd, hks, hQ]
  (first | with_reducible refine if_d _ ?_ ?_ | refine if_i _ ?_ ?_) <;> intro h1
  · simp only [h1, Bool.not_true, Bool.not_false]
    simp +decide (maxSteps := 20000000) (disch := omega) only [↓SBK, ↓SBK2, SX, Nat.reduceEqDiff, Nat.reduceAdd, Nat.reduceMul, Nat.reduceSub, ↓reduceIte, Int.reduceNeg, Int.reduceToNat, Int.reducePow, hmd, hks, hQ]
    (first | refine call_i hP (sS_PutNum [] r.kind (by decide)) (.inl ⟨rfl, fun _ hx => nomatch hx⟩) ?_ | refine callH_i hP (sS_PutNum [] r.kind (by decide)) (.inl ⟨rfl, fun _ hx => nomatch hx⟩) ?_)
    simp +decide (maxSteps := 20000000) (disch := omega) only [↓SBK, ↓SBK2, SX, Nat.reduceEqDiff, Nat.reduceAdd, Nat.reduceMul, Nat.reduceSub, ↓reduceIte, Int.reduceNeg, Int.reduceToNat, Int.reducePow, hmd, hks, hQ]
    (first | refine call_i hP (sS_PutNum (putNum [] r.kind) r.seq (by omega)) (.inl ⟨rfl, fun _ hx => nomatch hx⟩) ?_ | refine callH_i hP (sS_PutNum (putNum [] r.kind) r.seq (by omega)) (.inl ⟨rfl, fun _ hx => nomatch hx⟩) ?_)
    simp +decide (maxSteps := 20000000) (disch := omega) only [↓SBK, ↓SBK2, SX, Nat.reduceEqDiff, Nat.reduceAdd, Nat.reduceMul, Nat.reduceSub, ↓reduceIte, Int.reduceNeg, Int.reduceToNat, Int.reducePow, hmd, hks, hQ]
    (first | refine call_i hP (sS_PutText (putNum (putNum [] r.kind) r.seq) r.body (by omega) (by omega)) (.inl ⟨rfl, fun _ hx => nomatch hx⟩) ?_ | refine callH_i hP (sS_PutText (putNum (putNum [] r.kind) r.seq) r.body (by omega) (by omega)) (.inl ⟨rfl, fun _ hx => nomatch hx⟩) ?_)
    simp +decide (maxSteps := 20000000) (disch := omega) only [↓SBK, ↓SBK2, SX, Nat.reduceEqDiff, Nat.reduceAdd, Nat.reduceMul, Nat.reduceSub, ↓reduceIte, Int.reduceNeg, Int.reduceToNat, Int.reducePow, hmd, hks, hQ]
    (first | refine call_i hP (sS_Crc (recB r) (by omega)) (.inl ⟨rfl, fun _ hx => nomatch hx⟩) ?_ | refine callH_i hP (sS_Crc (recB r) (by omega)) (.inl ⟨rfl, fun _ hx => nomatch hx⟩) ?_)
    simp +decide (maxSteps := 20000000) (disch := omega) only [↓SBK, ↓SBK2, SX, Nat.reduceEqDiff, Nat.reduceAdd, Nat.reduceMul, Nat.reduceSub, ↓reduceIte, Int.reduceNeg, Int.reduceToNat, Int.reducePow, hmd, hks, hQ, shr8, shr16, shr24]
    rw [← wrap8id (crcN (recB r) / 16777216) (by omega), seal_row, putRec_ok h1]
    rfl
  · simp only [h1, Bool.not_true, Bool.not_false]
    simp +decide (maxSteps := 20000000) (disch := omega) only [↓SBK, ↓SBK2, SX, Nat.reduceEqDiff, Nat.reduceAdd, Nat.reduceMul, Nat.reduceSub, ↓reduceIte, Int.reduceNeg, Int.reduceToNat, Int.reducePow, hmd, hks, hQ]
    rw [putRec_no (by simp [h1])]; rfl
end Go.Proofs.Ytliklgcfdgdigaa.Awp

namespace Go.Proofs.Ytliklgcfdgdigaa.Awp
open Go.Proofs
set_option linter.unusedSimpArgs false
set_option linter.unusedVariables false
set_option maxRecDepth 100000
set_option maxHeartbeats 20000000

/-- a number is read: rounds that are left, this round, what is read so far -/
def gnGo (b : Bytes) (a : Nat) : Nat → Nat → Nat → Option (Nat × Nat)
  | 0, _, _ => none
  | r + 1, i, n => match b[a + i]? with
    | none => none
    | some x => if 128 ≤ x.toNat then gnGo b a r (i + 1) (n + x.toNat % 128 * 128 ^ i)
      else if 1000000 < n + x.toNat % 128 * 128 ^ i ∨ (x.toNat = 0 ∧ 0 < i) then none else some (n + x.toNat % 128 * 128 ^ i, a + i + 1)
def getN (b : Bytes) (a : Int) : Option (Nat × Nat) := if 0 ≤ a then gnGo b a.toNat 3 0 0 else none
def outN : Option (Nat × Nat) → Int × Int × Bool
  | some (n, k) => ((n : Nat), (k : Nat), true)
  | none => (0, 0, false)
def getNum (b : Bytes) (a : Int) : Int × Int × Bool := outN (getN b a)
theorem getNum_neg {b : Bytes} {a : Int} (h : a < 0) : getNum b a = (0, 0, false) := by rw [getNum, getN, if_neg (by omega)]; rfl
theorem getNum_nat {b : Bytes} {a : Nat} {o : Option (Nat × Nat)} (h : gnGo b a 3 0 0 = o) : getNum b a = outN o := by
  rw [getNum, getN, if_pos (by omega)]
  simp only [Int.toNat_natCast, h]
theorem gn_none {b : Bytes} {a r i n : Nat} (h : ¬ ((a + i : Nat) : Int) < (b.length : Nat)) : gnGo b a (r + 1) i n = none := by
  rw [gnGo, List.getElem?_eq_none (by omega)]
theorem gn_more {b : Bytes} {a r i n : Nat} (h : a + i < b.length) (h2 : 128 ≤ b[a + i].toNat) : gnGo b a (r + 1) i n = gnGo b a r (i + 1) (n + b[a + i].toNat % 128 * 128 ^ i) := by
  rw [gnGo, List.getElem?_eq_getElem h]
  simp only [h2, if_true]
theorem gn_bad {b : Bytes} {a r i n : Nat} (h : a + i < b.length) (h2 : ¬ 128 ≤ b[a + i].toNat) (h3 : 1000000 < n + b[a + i].toNat % 128 * 128 ^ i ∨ (b[a + i].toNat = 0 ∧ 0 < i)) : gnGo b a (r + 1) i n = none := by
  rw [gnGo, List.getElem?_eq_getElem h]
  simp only [h2, if_false, h3, if_true]
theorem gn_done {b : Bytes} {a r i n : Nat} (h : a + i < b.length) (h2 : ¬ 128 ≤ b[a + i].toNat) (h3 : ¬ (1000000 < n + b[a + i].toNat % 128 * 128 ^ i ∨ (b[a + i].toNat = 0 ∧ 0 < i))) :
    gnGo b a (r + 1) i n = some (n + b[a + i].toNat % 128 * 128 ^ i, a + i + 1) := by
  rw [gnGo, List.getElem?_eq_getElem h]
  simp only [h2, if_false, h3]
theorem sI_GetNum (b : Bytes) (a : Int) (hl : b.length < 2 ^ 40) (ha : a < 2 ^ 62) : Spec Try.prog 177 [.ext 1 (bytesR b), .int .i64 a] (.tup [.int .i64 (getNum b a).1, .int .i64 (getNum b a).2.1, .bool (getNum b a).2.2]) [.undef, .undef] := by
  refine spec_C hmx p_I_GetNum [] 2035 [] ⟨Nat.le_of_ble_eq_true rfl, Nat.le_of_ble_eq_true rfl⟩ rfl rfl ?_
  intro w hP hmd hks hQ
  unfold c_I_GetNum
  simp +decide (maxSteps := 20000000) (disch := omega) only [↓SBK, ↓SBK2, SX, Nat.reduceEqDiff, Nat.reduceAdd, Nat.reduceMul, Nat.reduceSub, ↓reduceIte, Int.reduceNeg, Int.reduceToNat, Int.reducePow, hmd, hks, hQ]
  (first | with_reducible refine if_d _ ?_ ?_ | refine if_i _ ?_ ?_) <;> intro h1
  · simp +decide (maxSteps := 20000000) (disch := omega) only [↓SBK, ↓SBK2, SX, Nat.reduceEqDiff, Nat.reduceAdd, Nat.reduceMul, Nat.reduceSub, ↓reduceIte, Int.reduceNeg, Int.reduceToNat, Int.reducePow, hmd, hks, hQ]
    rw [getNum_neg h1]
  · obtain ⟨a, rfl⟩ : ∃ k : Nat, a = k := ⟨a.toNat, by omega⟩
    simp +decide (maxSteps := 20000000) (disch := omega) only [↓SBK, ↓SBK2, SX, Nat.reduceEqDiff, Nat.reduceAdd, Nat.reduceMul, Nat.reduceSub, ↓reduceIte, Int.reduceNeg, Int.reduceToNat, Int.reducePow, hmd, hks, hQ]
    rw [mkV_pads _ _ [10]]
    simp only [pads, List.cons_append, List.nil_append]
    refine loop_i (fun s : Nat × Nat × AV => [(9, .int .i64 (s.1 : Nat)), (7, .int .i64 (s.2.1 : Nat)), (8, .int .i64 ((128 ^ s.1 : Nat) : Int)), (10, s.2.2)]) (fun s => s.1 ≤ 3 ∧ s.2.1 < 128 ^ s.1 ∧ gnGo b a 3 0 0 = gnGo b a (3 - s.1) s.1 s.2.1 ∧ (∀ E K, fixA E K s.2.2 = s.2.2)) (fun s => 3 - s.1) ((0, 0, .undef)) hP hmd hks (rfl) (⟨by simp, by simp, rfl, fun _ _ => rfl⟩) ?_
    rintro ⟨i, n, j10⟩ ⟨g1, g2, g3, g4⟩ w1 hP1 hmd1 hks1 hQ1
    simp only at g1 g2 g3 g4
    rcases (show i = 0 ∨ i = 1 ∨ i = 2 ∨ i = 3 by omega) with rfl | rfl | rfl | rfl
    · have eU : (((128 : Nat) ^ 0 : Nat) : Int) = 1 := rfl
      have eI : ((0 : Nat) : Int) = 0 := rfl
      have et : ((a : Int)).toNat = a := by omega
      have g2' : n < 1 := g2
      simp +decide (maxSteps := 20000000) (disch := omega) only [↓SBK, ↓SBK2, SX, Nat.reduceEqDiff, Nat.reduceAdd, Nat.reduceMul, Nat.reduceSub, ↓reduceIte, Int.reduceNeg, Int.reduceToNat, Int.reducePow, hmd, hks, hQ, hmd1, hks1, hQ1, g4, eU, eI, Int.sub_zero]
      (first | with_reducible refine if_d _ ?_ ?_ | refine if_i _ ?_ ?_) <;> intro h2
      · have hx : a + 0 < b.length := by omega
        have hb : (b[a + 0]'hx).toNat < 256 := (b[a + 0]'hx).toNat_lt
        have ei : b[a]? = some (b[a + 0]'hx) := List.getElem?_eq_getElem hx
        simp +decide (maxSteps := 20000000) (disch := omega) only [↓SBK, ↓SBK2, SX, Nat.reduceEqDiff, Nat.reduceAdd, Nat.reduceMul, Nat.reduceSub, ↓reduceIte, Int.reduceNeg, Int.reduceToNat, Int.reducePow, hmd, hks, hQ, hmd1, hks1, hQ1, g4, ei, eI, et, tm128, eU, Int.mul_one, Int.sub_zero]
        (first | with_reducible refine if_d _ ?_ ?_ | refine if_i _ ?_ ?_) <;> intro h3
        · simp +decide (maxSteps := 20000000) (disch := omega) only [↓SBK, ↓SBK2, SX, Nat.reduceEqDiff, Nat.reduceAdd, Nat.reduceMul, Nat.reduceSub, ↓reduceIte, Int.reduceNeg, Int.reduceToNat, Int.reducePow, hmd, hks, hQ, hmd1, hks1, hQ1]
          refine ⟨(0 + 1, n + (b[a + 0]'hx).toNat % 128 * 1, .int .i64 ((b[a + 0]'hx).toNat : Nat)), by simp; try rfl, ⟨by omega, by simp only; omega, ?_, fun _ _ => rfl⟩, by simp only; omega⟩
          exact g3.trans (gn_more hx (by omega))
        · simp +decide (maxSteps := 20000000) (disch := omega) only [↓SBK, ↓SBK2, SX, Nat.reduceEqDiff, Nat.reduceAdd, Nat.reduceMul, Nat.reduceSub, ↓reduceIte, Int.reduceNeg, Int.reduceToNat, Int.reducePow, hmd, hks, hQ, hmd1, hks1, hQ1]
          (first | with_reducible refine gd_d _ ?_ ?_ | refine gd_i _ ?_ ?_) <;> intro h5
          · simp +decide (maxSteps := 20000000) (disch := omega) only [↓SBK, ↓SBK2, SX, Nat.reduceEqDiff, Nat.reduceAdd, Nat.reduceMul, Nat.reduceSub, ↓reduceIte, Int.reduceNeg, Int.reduceToNat, Int.reducePow, hmd, hks, hQ, hmd1, hks1, hQ1, h5]
            rw [getNum_nat (g3.trans (gn_bad hx (by omega) (.inl (by omega))))]; rfl
          · simp +decide (maxSteps := 20000000) (disch := omega) only [↓SBK, ↓SBK2, SX, Nat.reduceEqDiff, Nat.reduceAdd, Nat.reduceMul, Nat.reduceSub, ↓reduceIte, Int.reduceNeg, Int.reduceToNat, Int.reducePow, hmd, hks, hQ, hmd1, hks1, hQ1, h5]
            (first | with_reducible refine gd_d _ ?_ ?_ | refine gd_i _ ?_ ?_) <;> intro h6
            · simp +decide (maxSteps := 20000000) (disch := omega) only [↓SBK, ↓SBK2, SX, Nat.reduceEqDiff, Nat.reduceAdd, Nat.reduceMul, Nat.reduceSub, ↓reduceIte, Int.reduceNeg, Int.reduceToNat, Int.reducePow, hmd, hks, hQ, hmd1, hks1, hQ1, h5, h6, eI]
              rw [getNum_nat (g3.trans (gn_done hx (by omega) (by omega)))]; first | rfl | simp [outN]
            · simp +decide (maxSteps := 20000000) (disch := omega) only [↓SBK, ↓SBK2, SX, Nat.reduceEqDiff, Nat.reduceAdd, Nat.reduceMul, Nat.reduceSub, ↓reduceIte, Int.reduceNeg, Int.reduceToNat, Int.reducePow, hmd, hks, hQ, hmd1, hks1, hQ1, h5, h6, eI]
              rw [getNum_nat (g3.trans (gn_done hx (by omega) (by omega)))]; first | rfl | simp [outN]
      · simp +decide (maxSteps := 20000000) (disch := omega) only [↓SBK, ↓SBK2, SX, Nat.reduceEqDiff, Nat.reduceAdd, Nat.reduceMul, Nat.reduceSub, ↓reduceIte, Int.reduceNeg, Int.reduceToNat, Int.reducePow, hmd, hks, hQ, hmd1, hks1, hQ1, g4]
        rw [getNum_nat (g3.trans (gn_none (by omega)))]; rfl
    · have eU : (((128 : Nat) ^ 1 : Nat) : Int) = 128 := rfl
      have eI : ((1 : Nat) : Int) = 1 := rfl
      have et : ((a : Int) + 1).toNat = a + 1 := by omega
      have g2' : n < 128 := g2
      simp +decide (maxSteps := 20000000) (disch := omega) only [↓SBK, ↓SBK2, SX, Nat.reduceEqDiff, Nat.reduceAdd, Nat.reduceMul, Nat.reduceSub, ↓reduceIte, Int.reduceNeg, Int.reduceToNat, Int.reducePow, hmd, hks, hQ, hmd1, hks1, hQ1, g4, eU, eI, Int.sub_zero]
      (first | with_reducible refine if_d _ ?_ ?_ | refine if_i _ ?_ ?_) <;> intro h2
      · have hx : a + 1 < b.length := by omega
        have hb : (b[a + 1]'hx).toNat < 256 := (b[a + 1]'hx).toNat_lt
        have ei : b[a + 1]? = some (b[a + 1]'hx) := List.getElem?_eq_getElem hx
        simp +decide (maxSteps := 20000000) (disch := omega) only [↓SBK, ↓SBK2, SX, Nat.reduceEqDiff, Nat.reduceAdd, Nat.reduceMul, Nat.reduceSub, ↓reduceIte, Int.reduceNeg, Int.reduceToNat, Int.reducePow, hmd, hks, hQ, hmd1, hks1, hQ1, g4, ei, eI, et, tm128, eU, Int.mul_one, Int.sub_zero]
        (first | with_reducible refine if_d _ ?_ ?_ | refine if_i _ ?_ ?_) <;> intro h3
        · simp +decide (maxSteps := 20000000) (disch := omega) only [↓SBK, ↓SBK2, SX, Nat.reduceEqDiff, Nat.reduceAdd, Nat.reduceMul, Nat.reduceSub, ↓reduceIte, Int.reduceNeg, Int.reduceToNat, Int.reducePow, hmd, hks, hQ, hmd1, hks1, hQ1]
          refine ⟨(1 + 1, n + (b[a + 1]'hx).toNat % 128 * 128, .int .i64 ((b[a + 1]'hx).toNat : Nat)), by simp; try rfl, ⟨by omega, by simp only; omega, ?_, fun _ _ => rfl⟩, by simp only; omega⟩
          exact g3.trans (gn_more hx (by omega))
        · simp +decide (maxSteps := 20000000) (disch := omega) only [↓SBK, ↓SBK2, SX, Nat.reduceEqDiff, Nat.reduceAdd, Nat.reduceMul, Nat.reduceSub, ↓reduceIte, Int.reduceNeg, Int.reduceToNat, Int.reducePow, hmd, hks, hQ, hmd1, hks1, hQ1]
          (first | with_reducible refine gd_d _ ?_ ?_ | refine gd_i _ ?_ ?_) <;> intro h5
          · simp +decide (maxSteps := 20000000) (disch := omega) only [↓SBK, ↓SBK2, SX, Nat.reduceEqDiff, Nat.reduceAdd, Nat.reduceMul, Nat.reduceSub, ↓reduceIte, Int.reduceNeg, Int.reduceToNat, Int.reducePow, hmd, hks, hQ, hmd1, hks1, hQ1, h5]
            rw [getNum_nat (g3.trans (gn_bad hx (by omega) (.inl (by omega))))]; rfl
          · simp +decide (maxSteps := 20000000) (disch := omega) only [↓SBK, ↓SBK2, SX, Nat.reduceEqDiff, Nat.reduceAdd, Nat.reduceMul, Nat.reduceSub, ↓reduceIte, Int.reduceNeg, Int.reduceToNat, Int.reducePow, hmd, hks, hQ, hmd1, hks1, hQ1, h5]
            (first | with_reducible refine gd_d _ ?_ ?_ | refine gd_i _ ?_ ?_) <;> intro h6
            · simp +decide (maxSteps := 20000000) (disch := omega) only [↓SBK, ↓SBK2, SX, Nat.reduceEqDiff, Nat.reduceAdd, Nat.reduceMul, Nat.reduceSub, ↓reduceIte, Int.reduceNeg, Int.reduceToNat, Int.reducePow, hmd, hks, hQ, hmd1, hks1, hQ1, h5, h6, eI]
              rw [getNum_nat (g3.trans (gn_bad hx (by omega) (.inr ⟨by omega, by omega⟩)))]; rfl
            · simp +decide (maxSteps := 20000000) (disch := omega) only [↓SBK, ↓SBK2, SX, Nat.reduceEqDiff, Nat.reduceAdd, Nat.reduceMul, Nat.reduceSub, ↓reduceIte, Int.reduceNeg, Int.reduceToNat, Int.reducePow, hmd, hks, hQ, hmd1, hks1, hQ1, h5, h6, eI]
              rw [getNum_nat (g3.trans (gn_done hx (by omega) (by omega)))]; first | rfl | simp [outN]
      · simp +decide (maxSteps := 20000000) (disch := omega) only [↓SBK, ↓SBK2, SX, Nat.reduceEqDiff, Nat.reduceAdd, Nat.reduceMul, Nat.reduceSub, ↓reduceIte, Int.reduceNeg, Int.reduceToNat, Int.reducePow, hmd, hks, hQ, hmd1, hks1, hQ1, g4]
        rw [getNum_nat (g3.trans (gn_none (by omega)))]; rfl
    · have eU : (((128 : Nat) ^ 2 : Nat) : Int) = 16384 := rfl
      have eI : ((2 : Nat) : Int) = 2 := rfl
      have et : ((a : Int) + 2).toNat = a + 2 := by omega
      have g2' : n < 16384 := g2
      simp +decide (maxSteps := 20000000) (disch := omega) only [↓SBK, ↓SBK2, SX, Nat.reduceEqDiff, Nat.reduceAdd, Nat.reduceMul, Nat.reduceSub, ↓reduceIte, Int.reduceNeg, Int.reduceToNat, Int.reducePow, hmd, hks, hQ, hmd1, hks1, hQ1, g4, eU, eI, Int.sub_zero]
      (first | with_reducible refine if_d _ ?_ ?_ | refine if_i _ ?_ ?_) <;> intro h2
      · have hx : a + 2 < b.length := by omega
        have hb : (b[a + 2]'hx).toNat < 256 := (b[a + 2]'hx).toNat_lt
        have ei : b[a + 2]? = some (b[a + 2]'hx) := List.getElem?_eq_getElem hx
        simp +decide (maxSteps := 20000000) (disch := omega) only [↓SBK, ↓SBK2, SX, Nat.reduceEqDiff, Nat.reduceAdd, Nat.reduceMul, Nat.reduceSub, ↓reduceIte, Int.reduceNeg, Int.reduceToNat, Int.reducePow, hmd, hks, hQ, hmd1, hks1, hQ1, g4, ei, eI, et, tm128, eU, Int.mul_one, Int.sub_zero]
        (first | with_reducible refine if_d _ ?_ ?_ | refine if_i _ ?_ ?_) <;> intro h3
        · simp +decide (maxSteps := 20000000) (disch := omega) only [↓SBK, ↓SBK2, SX, Nat.reduceEqDiff, Nat.reduceAdd, Nat.reduceMul, Nat.reduceSub, ↓reduceIte, Int.reduceNeg, Int.reduceToNat, Int.reducePow, hmd, hks, hQ, hmd1, hks1, hQ1]
          refine ⟨(2 + 1, n + (b[a + 2]'hx).toNat % 128 * 16384, .int .i64 ((b[a + 2]'hx).toNat : Nat)), by simp; try rfl, ⟨by omega, by simp only; omega, ?_, fun _ _ => rfl⟩, by simp only; omega⟩
          exact g3.trans (gn_more hx (by omega))
        · simp +decide (maxSteps := 20000000) (disch := omega) only [↓SBK, ↓SBK2, SX, Nat.reduceEqDiff, Nat.reduceAdd, Nat.reduceMul, Nat.reduceSub, ↓reduceIte, Int.reduceNeg, Int.reduceToNat, Int.reducePow, hmd, hks, hQ, hmd1, hks1, hQ1]
          (first | with_reducible refine gd_d _ ?_ ?_ | refine gd_i _ ?_ ?_) <;> intro h5
          · simp +decide (maxSteps := 20000000) (disch := omega) only [↓SBK, ↓SBK2, SX, Nat.reduceEqDiff, Nat.reduceAdd, Nat.reduceMul, Nat.reduceSub, ↓reduceIte, Int.reduceNeg, Int.reduceToNat, Int.reducePow, hmd, hks, hQ, hmd1, hks1, hQ1, h5]
            rw [getNum_nat (g3.trans (gn_bad hx (by omega) (.inl (by omega))))]; rfl
          · simp +decide (maxSteps := 20000000) (disch := omega) only [↓SBK, ↓SBK2, SX, Nat.reduceEqDiff, Nat.reduceAdd, Nat.reduceMul, Nat.reduceSub, ↓reduceIte, Int.reduceNeg, Int.reduceToNat, Int.reducePow, hmd, hks, hQ, hmd1, hks1, hQ1, h5]
            (first | with_reducible refine gd_d _ ?_ ?_ | refine gd_i _ ?_ ?_) <;> intro h6
            · simp +decide (maxSteps := 20000000) (disch := omega) only [↓SBK, ↓SBK2, SX, Nat.reduceEqDiff, Nat.reduceAdd, Nat.reduceMul, Nat.reduceSub, ↓reduceIte, Int.reduceNeg, Int.reduceToNat, Int.reducePow, hmd, hks, hQ, hmd1, hks1, hQ1, h5, h6, eI]
              rw [getNum_nat (g3.trans (gn_bad hx (by omega) (.inr ⟨by omega, by omega⟩)))]; rfl
            · simp +decide (maxSteps := 20000000) (disch := omega) only [↓SBK, ↓SBK2, SX, Nat.reduceEqDiff, Nat.reduceAdd, Nat.reduceMul, Nat.reduceSub, ↓reduceIte, Int.reduceNeg, Int.reduceToNat, Int.reducePow, hmd, hks, hQ, hmd1, hks1, hQ1, h5, h6, eI]
              rw [getNum_nat (g3.trans (gn_done hx (by omega) (by omega)))]; first | rfl | simp [outN]
      · simp +decide (maxSteps := 20000000) (disch := omega) only [↓SBK, ↓SBK2, SX, Nat.reduceEqDiff, Nat.reduceAdd, Nat.reduceMul, Nat.reduceSub, ↓reduceIte, Int.reduceNeg, Int.reduceToNat, Int.reducePow, hmd, hks, hQ, hmd1, hks1, hQ1, g4]
        rw [getNum_nat (g3.trans (gn_none (by omega)))]; rfl
    · simp +decide (maxSteps := 20000000) (disch := omega) only [↓SBK, ↓SBK2, SX, Nat.reduceEqDiff, Nat.reduceAdd, Nat.reduceMul, Nat.reduceSub, ↓reduceIte, Int.reduceNeg, Int.reduceToNat, Int.reducePow, hmd, hks, hQ, hmd1, hks1, hQ1, g4]
      rw [getNum_nat g3]; rfl
end Go.Proofs.Ytliklgcfdgdigaa.Awp

namespace Go.Proofs.Ytliklgcfdgdigaa.Awp
open Go.Proofs
set_option linter.unusedSimpArgs false
set_option linter.unusedVariables false
set_option maxRecDepth 100000
set_option maxHeartbeats 20000000

theorem orU0 {n m : Nat} (h : n < 1) : n ||| m = n + m := by
  obtain rfl : n = 0 := by omega
  simp
theorem orU1 {n m : Nat} (h : n < 128) : n ||| m * 128 = n + m * 128 := by
  have := Nat.two_pow_add_eq_or_of_lt (i := 7) (b := n) h m
  rw [Nat.or_comm, Nat.mul_comm m 128, show (128 : Nat) = 2 ^ 7 from rfl, ← this]; omega
theorem orU2 {n m : Nat} (h : n < 16384) : n ||| m * 16384 = n + m * 16384 := by
  have := Nat.two_pow_add_eq_or_of_lt (i := 14) (b := n) h m
  rw [Nat.or_comm, Nat.mul_comm m 16384, show (16384 : Nat) = 2 ^ 14 from rfl, ← this]; omega
theorem orsh0 {n m : Nat} (h : n < 1) (hm : m < 128) : IntKind.i64.wrap ((BitVec.ofInt IntKind.i64.bits (n : Int) ||| BitVec.ofInt IntKind.i64.bits (IntKind.i64.wrap ((m : Int) * 2 ^ min (IntKind.u64.wrap 0).toNat IntKind.i64.bits))).toNat : Int) = ((n + m * 1 : Nat) : Int) := by
  have e : min (IntKind.u64.wrap 0).toNat IntKind.i64.bits = 0 := by decide
  have e' : ((m : Int) * 2 ^ 0) = ((m * 1 : Nat) : Int) := by simp
  rw [e, e', wrap64 (n := m * 1) (by omega), or64 (by omega) (by omega)]
  rw [Nat.mul_one, orU0 h]
theorem orsh1 {n m : Nat} (h : n < 128) (hm : m < 128) : IntKind.i64.wrap ((BitVec.ofInt IntKind.i64.bits (n : Int) ||| BitVec.ofInt IntKind.i64.bits (IntKind.i64.wrap ((m : Int) * 2 ^ min (IntKind.u64.wrap 7).toNat IntKind.i64.bits))).toNat : Int) = ((n + m * 128 : Nat) : Int) := by
  have e : min (IntKind.u64.wrap 7).toNat IntKind.i64.bits = 7 := by decide
  have e' : ((m : Int) * 2 ^ 7) = ((m * 128 : Nat) : Int) := by simp
  rw [e, e', wrap64 (n := m * 128) (by omega), or64 (by omega) (by omega)]
  rw [orU1 h]
theorem orsh2 {n m : Nat} (h : n < 16384) (hm : m < 128) : IntKind.i64.wrap ((BitVec.ofInt IntKind.i64.bits (n : Int) ||| BitVec.ofInt IntKind.i64.bits (IntKind.i64.wrap ((m : Int) * 2 ^ min (IntKind.u64.wrap 14).toNat IntKind.i64.bits))).toNat : Int) = ((n + m * 16384 : Nat) : Int) := by
  have e : min (IntKind.u64.wrap 14).toNat IntKind.i64.bits = 14 := by decide
  have e' : ((m : Int) * 2 ^ 14) = ((m * 16384 : Nat) : Int) := by simp
  rw [e, e', wrap64 (n := m * 16384) (by omega), or64 (by omega) (by omega)]
  rw [orU2 h]
theorem sS_GetNum (b : Bytes) (a : Int) (hl : b.length < 2 ^ 40) (ha : a < 2 ^ 62) : Spec Try.prog 175 [.ext 1 (bytesR b), .int .i64 a] (.tup [.int .i64 (getNum b a).1, .int .i64 (getNum b a).2.1, .bool (getNum b a).2.2]) [.undef, .undef] := by
  by_cases h0 : a < 0
  · have ea : decide (0 ≤ a) = false := decide_eq_false (by omega)
    refine spec_C hmx p_S_GetNum [] 1011 [] ⟨Nat.le_of_ble_eq_true rfl, Nat.le_of_ble_eq_true rfl⟩ rfl rfl ?_
    intro w hP hmd hks hQ
    unfold c_S_GetNum
    simp +decide (maxSteps := 20000000) (disch := omega) only [↓SBK, ↓SBK2, SX, Nat.reduceEqDiff, Nat.reduceAdd, Nat.reduceMul, Nat.reduceSub, ↓reduceIte, Int.reduceNeg, Int.reduceToNat, Int.reducePow, hmd, hks, hQ]
    rw [mkV_pads _ _ [9]]
    simp only [pads, List.cons_append, List.nil_append]
    refine loop_i (fun s : Nat => [(8, .int .i64 0), (7, .int .i64 0), (9, .undef)]) (fun s => True) (fun s => 0) (0) hP hmd hks (rfl) (trivial) ?_
    rintro i - w1 hP1 hmd1 hks1 hQ1
    simp +decide (maxSteps := 20000000) (disch := omega) only [↓SBK, ↓SBK2, SX, Nat.reduceEqDiff, Nat.reduceAdd, Nat.reduceMul, Nat.reduceSub, ↓reduceIte, Int.reduceNeg, Int.reduceToNat, Int.reducePow, hmd, hks, hQ, hmd1, hks1, hQ1, ea]
    rw [getNum_neg h0]
  · obtain ⟨a, rfl⟩ : ∃ k : Nat, a = k := ⟨a.toNat, by omega⟩
    have ea : decide ((0 : Int) ≤ (a : Int)) = true := decide_eq_true (by omega)
    refine spec_C hmx p_S_GetNum [] 1011 [] ⟨Nat.le_of_ble_eq_true rfl, Nat.le_of_ble_eq_true rfl⟩ rfl rfl ?_
    intro w hP hmd hks hQ
    unfold c_S_GetNum
    simp +decide (maxSteps := 20000000) (disch := omega) only [↓SBK, ↓SBK2, SX, Nat.reduceEqDiff, Nat.reduceAdd, Nat.reduceMul, Nat.reduceSub, ↓reduceIte, Int.reduceNeg, Int.reduceToNat, Int.reducePow, hmd, hks, hQ]
    rw [mkV_pads _ _ [9]]
    simp only [pads, List.cons_append, List.nil_append]
    refine loop_i (fun s : Nat × Nat × AV => [(8, .int .i64 (s.1 : Nat)), (7, .int .i64 (s.2.1 : Nat)), (9, s.2.2)]) (fun s => s.1 ≤ 3 ∧ s.2.1 < 128 ^ s.1 ∧ gnGo b a 3 0 0 = gnGo b a (3 - s.1) s.1 s.2.1 ∧ (∀ E K, fixA E K s.2.2 = s.2.2)) (fun s => 3 - s.1) ((0, 0, .undef)) hP hmd hks (rfl) (⟨by simp, by simp, rfl, fun _ _ => rfl⟩) ?_
    rintro ⟨i, n, j10⟩ ⟨g1, g2, g3, g4⟩ w1 hP1 hmd1 hks1 hQ1
    simp only at g1 g2 g3 g4
    rcases (show i = 0 ∨ i = 1 ∨ i = 2 ∨ i = 3 by omega) with rfl | rfl | rfl | rfl
    · have eU : (((128 : Nat) ^ 0 : Nat) : Int) = 1 := rfl
      have eI : ((0 : Nat) : Int) = 0 := rfl
      have et : ((a : Int)).toNat = a := by omega
      have g2' : n < 1 := g2
      simp +decide (maxSteps := 20000000) (disch := omega) only [↓SBK, ↓SBK2, SX, Nat.reduceEqDiff, Nat.reduceAdd, Nat.reduceMul, Nat.reduceSub, ↓reduceIte, Int.reduceNeg, Int.reduceToNat, Int.reducePow, hmd, hks, hQ, hmd1, hks1, hQ1, g4, eI, ea, Int.sub_zero, Int.add_zero]
      (first | with_reducible refine gd_d _ ?_ ?_ | refine gd_i _ ?_ ?_) <;> intro h1
      · have hx : a + 0 < b.length := by omega
        have hb : (b[a + 0]'hx).toNat < 256 := (b[a + 0]'hx).toNat_lt
        have ei : b[a]? = some (b[a + 0]'hx) := List.getElem?_eq_getElem hx
        have e1 := and64 (a := (b[a + 0]'hx).toNat) (b := 127) (by omega) (by decide)
        rw [and127] at e1
        simp only [Int.cast_ofNat_Int] at e1
        simp +decide (maxSteps := 20000000) (disch := omega) only [↓SBK, ↓SBK2, SX, Nat.reduceEqDiff, Nat.reduceAdd, Nat.reduceMul, Nat.reduceSub, ↓reduceIte, Int.reduceNeg, Int.reduceToNat, Int.reducePow, hmd, hks, hQ, hmd1, hks1, hQ1, h1, g4, ei, eI, et, e1, orsh0 (n := n) (m := (b[a + 0]'hx).toNat % 128) g2' (by omega), Int.mul_one, Int.add_zero, Nat.zero_min, Nat.reduceMul, Int.reduceMul]
        (first | with_reducible refine if_d _ ?_ ?_ | refine if_i _ ?_ ?_) <;> intro h3
        · simp +decide (maxSteps := 20000000) (disch := omega) only [↓SBK, ↓SBK2, SX, Nat.reduceEqDiff, Nat.reduceAdd, Nat.reduceMul, Nat.reduceSub, ↓reduceIte, Int.reduceNeg, Int.reduceToNat, Int.reducePow, hmd, hks, hQ, hmd1, hks1, hQ1]
          exact ⟨(0 + 1, n + (b[a + 0]'hx).toNat % 128 * 1, .int .i64 ((b[a + 0]'hx).toNat : Nat)), rfl, ⟨by omega, by simp only; omega, g3.trans (gn_more hx (by omega)), fun _ _ => rfl⟩, by simp only; omega⟩
        · simp +decide (maxSteps := 20000000) (disch := omega) only [↓SBK, ↓SBK2, SX, Nat.reduceEqDiff, Nat.reduceAdd, Nat.reduceMul, Nat.reduceSub, ↓reduceIte, Int.reduceNeg, Int.reduceToNat, Int.reducePow, hmd, hks, hQ, hmd1, hks1, hQ1]
          (first | with_reducible refine if_d _ ?_ ?_ | refine if_i _ ?_ ?_) <;> intro h6
          · exfalso; omega
          · simp +decide (maxSteps := 20000000) (disch := omega) only [↓SBK, ↓SBK2, SX, Nat.reduceEqDiff, Nat.reduceAdd, Nat.reduceMul, Nat.reduceSub, ↓reduceIte, Int.reduceNeg, Int.reduceToNat, Int.reducePow, hmd, hks, hQ, hmd1, hks1, hQ1]
            rw [getNum_nat (g3.trans (gn_done hx (by omega) (by omega)))]; first | rfl | simp [outN]
      · simp +decide (maxSteps := 20000000) (disch := omega) only [↓SBK, ↓SBK2, SX, Nat.reduceEqDiff, Nat.reduceAdd, Nat.reduceMul, Nat.reduceSub, ↓reduceIte, Int.reduceNeg, Int.reduceToNat, Int.reducePow, hmd, hks, hQ, hmd1, hks1, hQ1, h1]
        rw [getNum_nat (g3.trans (gn_none (by omega)))]; rfl
    · have eU : (((128 : Nat) ^ 1 : Nat) : Int) = 128 := rfl
      have eI : ((1 : Nat) : Int) = 1 := rfl
      have et : ((a : Int) + 1).toNat = a + 1 := by omega
      have g2' : n < 128 := g2
      simp +decide (maxSteps := 20000000) (disch := omega) only [↓SBK, ↓SBK2, SX, Nat.reduceEqDiff, Nat.reduceAdd, Nat.reduceMul, Nat.reduceSub, ↓reduceIte, Int.reduceNeg, Int.reduceToNat, Int.reducePow, hmd, hks, hQ, hmd1, hks1, hQ1, g4, eI, ea, Int.sub_zero, Int.add_zero]
      (first | with_reducible refine gd_d _ ?_ ?_ | refine gd_i _ ?_ ?_) <;> intro h1
      · simp +decide (maxSteps := 20000000) (disch := omega) only [↓SBK, ↓SBK2, SX, Nat.reduceEqDiff, Nat.reduceAdd, Nat.reduceMul, Nat.reduceSub, ↓reduceIte, Int.reduceNeg, Int.reduceToNat, Int.reducePow, hmd, hks, hQ, hmd1, hks1, hQ1, h1, eI, Int.add_zero]
        (first | with_reducible refine if_d _ ?_ ?_ | refine if_i _ ?_ ?_) <;> intro h2
        · have hx : a + 1 < b.length := by omega
          have hb : (b[a + 1]'hx).toNat < 256 := (b[a + 1]'hx).toNat_lt
          have ei : b[a + 1]? = some (b[a + 1]'hx) := List.getElem?_eq_getElem hx
          have e1 := and64 (a := (b[a + 1]'hx).toNat) (b := 127) (by omega) (by decide)
          rw [and127] at e1
          simp only [Int.cast_ofNat_Int] at e1
          simp +decide (maxSteps := 20000000) (disch := omega) only [↓SBK, ↓SBK2, SX, Nat.reduceEqDiff, Nat.reduceAdd, Nat.reduceMul, Nat.reduceSub, ↓reduceIte, Int.reduceNeg, Int.reduceToNat, Int.reducePow, hmd, hks, hQ, hmd1, hks1, hQ1, g4, ei, eI, et, e1, orsh1 (n := n) (m := (b[a + 1]'hx).toNat % 128) g2' (by omega), Int.mul_one, Int.add_zero, Nat.zero_min, Nat.reduceMul, Int.reduceMul]
          (first | with_reducible refine if_d _ ?_ ?_ | refine if_i _ ?_ ?_) <;> intro h3
          · simp +decide (maxSteps := 20000000) (disch := omega) only [↓SBK, ↓SBK2, SX, Nat.reduceEqDiff, Nat.reduceAdd, Nat.reduceMul, Nat.reduceSub, ↓reduceIte, Int.reduceNeg, Int.reduceToNat, Int.reducePow, hmd, hks, hQ, hmd1, hks1, hQ1]
            exact ⟨(1 + 1, n + (b[a + 1]'hx).toNat % 128 * 128, .int .i64 ((b[a + 1]'hx).toNat : Nat)), rfl, ⟨by omega, by simp only; omega, g3.trans (gn_more hx (by omega)), fun _ _ => rfl⟩, by simp only; omega⟩
          · simp +decide (maxSteps := 20000000) (disch := omega) only [↓SBK, ↓SBK2, SX, Nat.reduceEqDiff, Nat.reduceAdd, Nat.reduceMul, Nat.reduceSub, ↓reduceIte, Int.reduceNeg, Int.reduceToNat, Int.reducePow, hmd, hks, hQ, hmd1, hks1, hQ1]
            (first | with_reducible refine gd_d _ ?_ ?_ | refine gd_i _ ?_ ?_) <;> intro h5
            · simp +decide (maxSteps := 20000000) (disch := omega) only [↓SBK, ↓SBK2, SX, Nat.reduceEqDiff, Nat.reduceAdd, Nat.reduceMul, Nat.reduceSub, ↓reduceIte, Int.reduceNeg, Int.reduceToNat, Int.reducePow, hmd, hks, hQ, hmd1, hks1, hQ1, h5]
              rw [getNum_nat (g3.trans (gn_bad hx (by omega) (.inr ⟨by omega, by omega⟩)))]; rfl
            · simp +decide (maxSteps := 20000000) (disch := omega) only [↓SBK, ↓SBK2, SX, Nat.reduceEqDiff, Nat.reduceAdd, Nat.reduceMul, Nat.reduceSub, ↓reduceIte, Int.reduceNeg, Int.reduceToNat, Int.reducePow, hmd, hks, hQ, hmd1, hks1, hQ1, h5]
              (first | with_reducible refine if_d _ ?_ ?_ | refine if_i _ ?_ ?_) <;> intro h6
              · simp +decide (maxSteps := 20000000) (disch := omega) only [↓SBK, ↓SBK2, SX, Nat.reduceEqDiff, Nat.reduceAdd, Nat.reduceMul, Nat.reduceSub, ↓reduceIte, Int.reduceNeg, Int.reduceToNat, Int.reducePow, hmd, hks, hQ, hmd1, hks1, hQ1]
                rw [getNum_nat (g3.trans (gn_bad hx (by omega) (.inl (by omega))))]; rfl
              · simp +decide (maxSteps := 20000000) (disch := omega) only [↓SBK, ↓SBK2, SX, Nat.reduceEqDiff, Nat.reduceAdd, Nat.reduceMul, Nat.reduceSub, ↓reduceIte, Int.reduceNeg, Int.reduceToNat, Int.reducePow, hmd, hks, hQ, hmd1, hks1, hQ1]
                rw [getNum_nat (g3.trans (gn_done hx (by omega) (by omega)))]; first | rfl | simp [outN]
        · simp +decide (maxSteps := 20000000) (disch := omega) only [↓SBK, ↓SBK2, SX, Nat.reduceEqDiff, Nat.reduceAdd, Nat.reduceMul, Nat.reduceSub, ↓reduceIte, Int.reduceNeg, Int.reduceToNat, Int.reducePow, hmd, hks, hQ, hmd1, hks1, hQ1, h1]
          rw [getNum_nat (g3.trans (gn_none (by omega)))]; rfl
      · simp +decide (maxSteps := 20000000) (disch := omega) only [↓SBK, ↓SBK2, SX, Nat.reduceEqDiff, Nat.reduceAdd, Nat.reduceMul, Nat.reduceSub, ↓reduceIte, Int.reduceNeg, Int.reduceToNat, Int.reducePow, hmd, hks, hQ, hmd1, hks1, hQ1, h1]
        rw [getNum_nat (g3.trans (gn_none (by omega)))]; rfl
    · have eU : (((128 : Nat) ^ 2 : Nat) : Int) = 16384 := rfl
      have eI : ((2 : Nat) : Int) = 2 := rfl
      have et : ((a : Int) + 2).toNat = a + 2 := by omega
      have g2' : n < 16384 := g2
      simp +decide (maxSteps := 20000000) (disch := omega) only [↓SBK, ↓SBK2, SX, Nat.reduceEqDiff, Nat.reduceAdd, Nat.reduceMul, Nat.reduceSub, ↓reduceIte, Int.reduceNeg, Int.reduceToNat, Int.reducePow, hmd, hks, hQ, hmd1, hks1, hQ1, g4, eI, ea, Int.sub_zero, Int.add_zero]
      (first | with_reducible refine gd_d _ ?_ ?_ | refine gd_i _ ?_ ?_) <;> intro h1
      · simp +decide (maxSteps := 20000000) (disch := omega) only [↓SBK, ↓SBK2, SX, Nat.reduceEqDiff, Nat.reduceAdd, Nat.reduceMul, Nat.reduceSub, ↓reduceIte, Int.reduceNeg, Int.reduceToNat, Int.reducePow, hmd, hks, hQ, hmd1, hks1, hQ1, h1, eI, Int.add_zero]
        (first | with_reducible refine if_d _ ?_ ?_ | refine if_i _ ?_ ?_) <;> intro h2
        · have hx : a + 2 < b.length := by omega
          have hb : (b[a + 2]'hx).toNat < 256 := (b[a + 2]'hx).toNat_lt
          have ei : b[a + 2]? = some (b[a + 2]'hx) := List.getElem?_eq_getElem hx
          have e1 := and64 (a := (b[a + 2]'hx).toNat) (b := 127) (by omega) (by decide)
          rw [and127] at e1
          simp only [Int.cast_ofNat_Int] at e1
          simp +decide (maxSteps := 20000000) (disch := omega) only [↓SBK, ↓SBK2, SX, Nat.reduceEqDiff, Nat.reduceAdd, Nat.reduceMul, Nat.reduceSub, ↓reduceIte, Int.reduceNeg, Int.reduceToNat, Int.reducePow, hmd, hks, hQ, hmd1, hks1, hQ1, g4, ei, eI, et, e1, orsh2 (n := n) (m := (b[a + 2]'hx).toNat % 128) g2' (by omega), Int.mul_one, Int.add_zero, Nat.zero_min, Nat.reduceMul, Int.reduceMul]
          (first | with_reducible refine if_d _ ?_ ?_ | refine if_i _ ?_ ?_) <;> intro h3
          · simp +decide (maxSteps := 20000000) (disch := omega) only [↓SBK, ↓SBK2, SX, Nat.reduceEqDiff, Nat.reduceAdd, Nat.reduceMul, Nat.reduceSub, ↓reduceIte, Int.reduceNeg, Int.reduceToNat, Int.reducePow, hmd, hks, hQ, hmd1, hks1, hQ1]
            exact ⟨(2 + 1, n + (b[a + 2]'hx).toNat % 128 * 16384, .int .i64 ((b[a + 2]'hx).toNat : Nat)), rfl, ⟨by omega, by simp only; omega, g3.trans (gn_more hx (by omega)), fun _ _ => rfl⟩, by simp only; omega⟩
          · simp +decide (maxSteps := 20000000) (disch := omega) only [↓SBK, ↓SBK2, SX, Nat.reduceEqDiff, Nat.reduceAdd, Nat.reduceMul, Nat.reduceSub, ↓reduceIte, Int.reduceNeg, Int.reduceToNat, Int.reducePow, hmd, hks, hQ, hmd1, hks1, hQ1]
            (first | with_reducible refine gd_d _ ?_ ?_ | refine gd_i _ ?_ ?_) <;> intro h5
            · simp +decide (maxSteps := 20000000) (disch := omega) only [↓SBK, ↓SBK2, SX, Nat.reduceEqDiff, Nat.reduceAdd, Nat.reduceMul, Nat.reduceSub, ↓reduceIte, Int.reduceNeg, Int.reduceToNat, Int.reducePow, hmd, hks, hQ, hmd1, hks1, hQ1, h5]
              rw [getNum_nat (g3.trans (gn_bad hx (by omega) (.inr ⟨by omega, by omega⟩)))]; rfl
            · simp +decide (maxSteps := 20000000) (disch := omega) only [↓SBK, ↓SBK2, SX, Nat.reduceEqDiff, Nat.reduceAdd, Nat.reduceMul, Nat.reduceSub, ↓reduceIte, Int.reduceNeg, Int.reduceToNat, Int.reducePow, hmd, hks, hQ, hmd1, hks1, hQ1, h5]
              (first | with_reducible refine if_d _ ?_ ?_ | refine if_i _ ?_ ?_) <;> intro h6
              · simp +decide (maxSteps := 20000000) (disch := omega) only [↓SBK, ↓SBK2, SX, Nat.reduceEqDiff, Nat.reduceAdd, Nat.reduceMul, Nat.reduceSub, ↓reduceIte, Int.reduceNeg, Int.reduceToNat, Int.reducePow, hmd, hks, hQ, hmd1, hks1, hQ1]
                rw [getNum_nat (g3.trans (gn_bad hx (by omega) (.inl (by omega))))]; rfl
              · simp +decide (maxSteps := 20000000) (disch := omega) only [↓SBK, ↓SBK2, SX, Nat.reduceEqDiff, Nat.reduceAdd, Nat.reduceMul, Nat.reduceSub, ↓reduceIte, Int.reduceNeg, Int.reduceToNat, Int.reducePow, hmd, hks, hQ, hmd1, hks1, hQ1]
                rw [getNum_nat (g3.trans (gn_done hx (by omega) (by omega)))]; first | rfl | simp [outN]
        · simp +decide (maxSteps := 20000000) (disch := omega) only [↓SBK, ↓SBK2, SX, Nat.reduceEqDiff, Nat.reduceAdd, Nat.reduceMul, Nat.reduceSub, ↓reduceIte, Int.reduceNeg, Int.reduceToNat, Int.reducePow, hmd, hks, hQ, hmd1, hks1, hQ1, h1]
          rw [getNum_nat (g3.trans (gn_none (by omega)))]; rfl
      · simp +decide (maxSteps := 20000000) (disch := omega) only [↓SBK, ↓SBK2, SX, Nat.reduceEqDiff, Nat.reduceAdd, Nat.reduceMul, Nat.reduceSub, ↓reduceIte, Int.reduceNeg, Int.reduceToNat, Int.reducePow, hmd, hks, hQ, hmd1, hks1, hQ1, h1]
        rw [getNum_nat (g3.trans (gn_none (by omega)))]; rfl
    · simp +decide (maxSteps := 20000000) (disch := omega) only [↓SBK, ↓SBK2, SX, Nat.reduceEqDiff, Nat.reduceAdd, Nat.reduceMul, Nat.reduceSub, ↓reduceIte, Int.reduceNeg, Int.reduceToNat, Int.reducePow, hmd, hks, hQ, hmd1, hks1, hQ1, g4]
      rw [getNum_nat g3]; rfl
end Go.Proofs.Ytliklgcfdgdigaa.Awp

namespace Go.Proofs.Ytliklgcfdgdigaa.Awp
open Go.Proofs
set_option linter.unusedSimpArgs false
set_option linter.unusedVariables false
set_option maxRecDepth 100000
set_option maxHeartbeats 20000000

theorem gn_le {b : Bytes} {a : Nat} : ∀ (r i n : Nat) {m k : Nat}, gnGo b a r i n = some (m, k) → k ≤ b.length ∧ m ≤ 1000000 := by
  intro r
  induction r with
  | zero => intro i n m k h; simp [gnGo] at h
  | succ r ih =>
    intro i n m k h
    by_cases hx : a + i < b.length
    · by_cases h2 : 128 ≤ (b[a + i]'hx).toNat
      · rw [gn_more hx h2] at h; exact ih _ _ h
      · by_cases h3 : 1000000 < n + (b[a + i]'hx).toNat % 128 * 128 ^ i ∨ ((b[a + i]'hx).toNat = 0 ∧ 0 < i)
        · rw [gn_bad hx h2 h3] at h; cases h
        · rw [gn_done hx h2 h3] at h
          simp only [Option.some.injEq, Prod.mk.injEq] at h
          omega
    · rw [gn_none (by omega)] at h; cases h
theorem getN_le {b : Bytes} {a : Int} {m k : Nat} (h : getN b a = some (m, k)) : k ≤ b.length ∧ m ≤ 1000000 := by
  unfold getN at h
  split at h
  · exact gn_le _ _ _ h
  · cases h
theorem bytesR_sub (b : Bytes) (n k : Nat) : List.take n (List.drop k (bytesR b)) = bytesR (List.take n (List.drop k b)) := by simp [bytesR, List.map_take, List.map_drop]
def outT : Option (Bytes × Nat) → Bytes × Int × Bool
  | some (s, k) => (s, (k : Nat), true)
  | none => ([], 0, false)
def getT (b : Bytes) (a : Int) : Option (Bytes × Nat) := (getN b a).bind fun q => if q.1 + q.2 ≤ b.length then some ((b.drop q.2).take q.1, q.2 + q.1) else none
def getText (b : Bytes) (a : Int) : Bytes × Int × Bool := outT (getT b a)
theorem getText_none {b : Bytes} {a : Int} (h : getN b a = none) : getText b a = ([], 0, false) := by rw [getText, getT, h]; rfl
theorem getText_some {b : Bytes} {a : Int} {n k : Nat} (h : getN b a = some (n, k)) (h1 : n + k ≤ b.length) : getText b a = ((b.drop k).take n, ((k + n : Nat) : Int), true) := by
  rw [getText, getT, h, Option.bind_some, if_pos h1]; rfl
theorem getText_long {b : Bytes} {a : Int} {n k : Nat} (h : getN b a = some (n, k)) (h1 : ¬ n + k ≤ b.length) : getText b a = ([], 0, false) := by
  rw [getText, getT, h, Option.bind_some, if_neg h1]; rfl
theorem sI_GetText (b : Bytes) (a : Int) (hl : b.length < 2 ^ 40) (ha : a < 2 ^ 62) : Spec Try.prog 178 [.ext 1 (bytesR b), .int .i64 a] (.tup [.str (getText b a).1, .int .i64 (getText b a).2.1, .bool (getText b a).2.2]) [.undef, .undef] := by
  have hc := sI_GetNum b a hl ha
  cases hN : getN b a with
  | none =>
    rw [getNum, hN] at hc
    simp only [outN] at hc
    rw [getText_none hN]
    refine spec_C hmx p_I_GetText [] 1011 [] ⟨Nat.le_of_ble_eq_true rfl, Nat.le_of_ble_eq_true rfl⟩ rfl rfl ?_
    intro w hP hmd hks hQ
    unfold c_I_GetText
    simp +decide (maxSteps := 20000000) (disch := omega) only [↓SBK, ↓SBK2, SX, Nat.reduceEqDiff, Nat.reduceAdd, Nat.reduceMul, Nat.reduceSub, ↓reduceIte, Int.reduceNeg, Int.reduceToNat, Int.reducePow, hmd, hks, hQ]
    (first | refine call_i hP (hc) (.inl ⟨rfl, fun _ hx => nomatch hx⟩) ?_ | refine callH_i hP (hc) (.inl ⟨rfl, fun _ hx => nomatch hx⟩) ?_)
    simp +decide (maxSteps := 20000000) (disch := omega) only [↓SBK, ↓SBK2, SX, Nat.reduceEqDiff, Nat.reduceAdd, Nat.reduceMul, Nat.reduceSub, ↓reduceIte, Int.reduceNeg, Int.reduceToNat, Int.reducePow, hmd, hks, hQ]
  | some q =>
    obtain ⟨n, k⟩ := q
    obtain ⟨hk, hn⟩ := getN_le hN
    rw [getNum, hN] at hc
    simp only [outN] at hc
    by_cases h1 : n + k ≤ b.length
    · have d1 : decide (((b.length : Nat) : Int) - (k : Int) < (n : Int)) = false := decide_eq_false (by omega)
      rw [getText_some hN h1]
      refine spec_C hmx p_I_GetText [] 1011 [] ⟨Nat.le_of_ble_eq_true rfl, Nat.le_of_ble_eq_true rfl⟩ rfl rfl ?_
      intro w hP hmd hks hQ
      unfold c_I_GetText
      simp +decide (maxSteps := 20000000) (disch := omega) only [↓SBK, ↓SBK2, SX, Nat.reduceEqDiff, Nat.reduceAdd, Nat.reduceMul, Nat.reduceSub, ↓reduceIte, Int.reduceNeg, Int.reduceToNat, Int.reducePow, hmd, hks, hQ]
      have en : ((k : Int) + (n : Int) - (k : Int)).toNat = n := by omega
      (first | refine call_i hP (hc) (.inl ⟨rfl, fun _ hx => nomatch hx⟩) ?_ | refine callH_i hP (hc) (.inl ⟨rfl, fun _ hx => nomatch hx⟩) ?_)
      simp +decide (maxSteps := 20000000) (disch := omega) only [↓SBK, ↓SBK2, SX, Nat.reduceEqDiff, Nat.reduceAdd, Nat.reduceMul, Nat.reduceSub, ↓reduceIte, Int.reduceNeg, Int.reduceToNat, Int.reducePow, hmd, hks, hQ, d1, en, bytesR_sub]
      simp
    · have d1 : decide (((b.length : Nat) : Int) - (k : Int) < (n : Int)) = true := decide_eq_true (by omega)
      rw [getText_long hN h1]
      refine spec_C hmx p_I_GetText [] 1011 [] ⟨Nat.le_of_ble_eq_true rfl, Nat.le_of_ble_eq_true rfl⟩ rfl rfl ?_
      intro w hP hmd hks hQ
      unfold c_I_GetText
      simp +decide (maxSteps := 20000000) (disch := omega) only [↓SBK, ↓SBK2, SX, Nat.reduceEqDiff, Nat.reduceAdd, Nat.reduceMul, Nat.reduceSub, ↓reduceIte, Int.reduceNeg, Int.reduceToNat, Int.reducePow, hmd, hks, hQ]
      (first | refine call_i hP (hc) (.inl ⟨rfl, fun _ hx => nomatch hx⟩) ?_ | refine callH_i hP (hc) (.inl ⟨rfl, fun _ hx => nomatch hx⟩) ?_)
      simp +decide (maxSteps := 20000000) (disch := omega) only [↓SBK, ↓SBK2, SX, Nat.reduceEqDiff, Nat.reduceAdd, Nat.reduceMul, Nat.reduceSub, ↓reduceIte, Int.reduceNeg, Int.reduceToNat, Int.reducePow, hmd, hks, hQ, d1]
theorem sS_GetText (b : Bytes) (a : Int) (hl : b.length < 2 ^ 40) (ha : a < 2 ^ 62) : Spec Try.prog 176 [.ext 1 (bytesR b), .int .i64 a] (.tup [.str (getText b a).1, .int .i64 (getText b a).2.1, .bool (getText b a).2.2]) [.undef, .undef] := by
  have hc := sS_GetNum b a hl ha
  cases hN : getN b a with
  | none =>
    rw [getNum, hN] at hc
    simp only [outN] at hc
    rw [getText_none hN]
    refine spec_C hmx p_S_GetText [] 1011 [] ⟨Nat.le_of_ble_eq_true rfl, Nat.le_of_ble_eq_true rfl⟩ rfl rfl ?_
    intro w hP hmd hks hQ
    unfold c_S_GetText
    simp +decide (maxSteps := 20000000) (disch := omega) only [↓SBK, ↓SBK2, SX, Nat.reduceEqDiff, Nat.reduceAdd, Nat.reduceMul, Nat.reduceSub, ↓reduceIte, Int.reduceNeg, Int.reduceToNat, Int.reducePow, hmd, hks, hQ]
    (first | refine call_i hP (hc) (.inl ⟨rfl, fun _ hx => nomatch hx⟩) ?_ | refine callH_i hP (hc) (.inl ⟨rfl, fun _ hx => nomatch hx⟩) ?_)
    simp +decide (maxSteps := 20000000) (disch := omega) only [↓SBK, ↓SBK2, SX, Nat.reduceEqDiff, Nat.reduceAdd, Nat.reduceMul, Nat.reduceSub, ↓reduceIte, Int.reduceNeg, Int.reduceToNat, Int.reducePow, hmd, hks, hQ]
  | some q =>
    obtain ⟨n, k⟩ := q
    obtain ⟨hk, hn⟩ := getN_le hN
    rw [getNum, hN] at hc
    simp only [outN] at hc
    by_cases h1 : n + k ≤ b.length
    · have d1 : decide (((b.length : Nat) : Int) - (k : Int) < (n : Int)) = false := decide_eq_false (by omega)
      rw [getText_some hN h1]
      refine spec_C hmx p_S_GetText [] 1011 [] ⟨Nat.le_of_ble_eq_true rfl, Nat.le_of_ble_eq_true rfl⟩ rfl rfl ?_
      intro w hP hmd hks hQ
      unfold c_S_GetText
      simp +decide (maxSteps := 20000000) (disch := omega) only [↓SBK, ↓SBK2, SX, Nat.reduceEqDiff, Nat.reduceAdd, Nat.reduceMul, Nat.reduceSub, ↓reduceIte, Int.reduceNeg, Int.reduceToNat, Int.reducePow, hmd, hks, hQ]
      have en : ((k : Int) + (n : Int) - (k : Int)).toNat = n := by omega
      (first | refine call_i hP (hc) (.inl ⟨rfl, fun _ hx => nomatch hx⟩) ?_ | refine callH_i hP (hc) (.inl ⟨rfl, fun _ hx => nomatch hx⟩) ?_)
      simp +decide (maxSteps := 20000000) (disch := omega) only [↓SBK, ↓SBK2, SX, Nat.reduceEqDiff, Nat.reduceAdd, Nat.reduceMul, Nat.reduceSub, ↓reduceIte, Int.reduceNeg, Int.reduceToNat, Int.reducePow, hmd, hks, hQ, d1, en, bytesR_sub]
      simp
    · have d1 : decide (((b.length : Nat) : Int) - (k : Int) < (n : Int)) = true := decide_eq_true (by omega)
      rw [getText_long hN h1]
      refine spec_C hmx p_S_GetText [] 1011 [] ⟨Nat.le_of_ble_eq_true rfl, Nat.le_of_ble_eq_true rfl⟩ rfl rfl ?_
      intro w hP hmd hks hQ
      unfold c_S_GetText
      simp +decide (maxSteps := 20000000) (disch := omega) only [↓SBK, ↓SBK2, SX, Nat.reduceEqDiff, Nat.reduceAdd, Nat.reduceMul, Nat.reduceSub, ↓reduceIte, Int.reduceNeg, Int.reduceToNat, Int.reducePow, hmd, hks, hQ]
      (first | refine call_i hP (hc) (.inl ⟨rfl, fun _ hx => nomatch hx⟩) ?_ | refine callH_i hP (hc) (.inl ⟨rfl, fun _ hx => nomatch hx⟩) ?_)
      simp +decide (maxSteps := 20000000) (disch := omega) only [↓SBK, ↓SBK2, SX, Nat.reduceEqDiff, Nat.reduceAdd, Nat.reduceMul, Nat.reduceSub, ↓reduceIte, Int.reduceNeg, Int.reduceToNat, Int.reducePow, hmd, hks, hQ, d1]
end Go.Proofs.Ytliklgcfdgdigaa.Awp

namespace Go.Proofs.Ytliklgcfdgdigaa.Awp
open Go.Proofs
set_option linter.unusedSimpArgs false
set_option linter.unusedVariables false
set_option maxRecDepth 100000
set_option maxHeartbeats 20000000

/-- a reader: where it is, and whether all was right -/
def rdNum (b : Bytes) (s : Int × Bool) : Int × Int × Bool := if s.2 = true then getNum b s.1 else (0, s)
def rdText (b : Bytes) (s : Int × Bool) : Bytes × Int × Bool := if s.2 = true then getText b s.1 else ([], s)
theorem spec_ext {P : Program} {f : FuncId} {s : Nat} {es : List (List TV)} {xs outs : List AV} {ret : AV} {v : Value} (h : Spec P f (.ext s es :: xs) ret outs) : Spec P f (.extv v s es :: xs) ret outs := by
  refine ⟨h.1, h.2.1, ?_⟩
  intro w vs F X r
  cases r with
  | extv _ _ X1 X2 _ _ _ vs _ h1 hr hX => exact h.2.2 w _ F X (.ext _ _ X1 X2 _ _ _ _ _ h1 hr hX)
end Go.Proofs.Ytliklgcfdgdigaa.Awp

namespace Go.Proofs.Ytliklgcfdgdigaa.Awp
open Go.Proofs
set_option linter.unusedSimpArgs false
set_option linter.unusedVariables false
set_option maxRecDepth 100000
set_option maxHeartbeats 20000000

/-- the reader of the reference: where it is, and whether something was wrong -/
def l3num (b : Bytes) (s : Int × Bool) : Int × Int × Bool := if s.2 = true then (0, s) else match getN b s.1 with | some (n, k) => ((n : Nat), ((k : Nat) : Int), false) | none => (0, s.1, true)
def l3text (b : Bytes) (s : Int × Bool) : Bytes × Int × Bool := if s.2 = true then ([], s) else match getT b s.1 with | some (n, k) => (n, ((k : Nat) : Int), false) | none => ([], s.1, true)
end Go.Proofs.Ytliklgcfdgdigaa.Awp

namespace Go.Proofs.Ytliklgcfdgdigaa.Awp
open Go.Proofs
set_option linter.unusedSimpArgs false
set_option linter.unusedVariables false
set_option maxRecDepth 100000
set_option maxHeartbeats 20000000

theorem getT_le {b : Bytes} {a : Int} {x : Bytes} {k : Nat} (h : getT b a = some (x, k)) : k ≤ b.length ∧ x.length ≤ b.length := by
  unfold getT at h
  obtain ⟨q, hq, h⟩ := Option.bind_eq_some_iff.1 h
  split at h
  · simp only [Option.some.injEq, Prod.mk.injEq] at h
    obtain ⟨rfl, rfl⟩ := h
    simp only [List.length_take, List.length_drop]
    omega
  · cases h
theorem rdNum_lt {b : Bytes} {s : Int × Bool} (hl : b.length < 2 ^ 40) (h : s.1 < 2 ^ 62) : (rdNum b s).2.1 < 2 ^ 62 := by
  unfold rdNum
  split
  · unfold getNum
    cases hN : getN b s.1 with
    | none => simp [outN]
    | some q => obtain ⟨n, k⟩ := q; have := (getN_le hN).1; simp only [outN]; omega
  · exact h
theorem l3num_lt {b : Bytes} {s : Int × Bool} (hl : b.length < 2 ^ 40) (h : s.1 < 2 ^ 62) : (l3num b s).2.1 < 2 ^ 62 := by
  unfold l3num
  split
  · exact h
  · cases hN : getN b s.1 with
    | none => exact h
    | some q => obtain ⟨n, k⟩ := q; have := (getN_le hN).1; simp only; omega
def kI (b : Bytes) : Int × Int × Bool := rdNum b (0, true)
def kS (b : Bytes) : Int × Int × Bool := l3num b (0, false)
/-- the two readers go side by side -/
def Side (s t : Int × Bool) : Prop := (s.2 = true ∧ t = (s.1, false)) ∨ (s.2 = false ∧ t.2 = true)
theorem side_num (b : Bytes) {s t : Int × Bool} (h : Side s t) : (rdNum b s).1 = (l3num b t).1 ∧ Side (rdNum b s).2 (l3num b t).2 := by
  rcases h with ⟨h1, rfl⟩ | ⟨h1, h2⟩
  · unfold rdNum l3num getNum
    rw [if_pos h1, if_neg (by simp)]
    simp only
    cases getN b s.1 with
    | none => exact ⟨rfl, .inr ⟨rfl, rfl⟩⟩
    | some q => obtain ⟨n, k⟩ := q; exact ⟨rfl, .inl ⟨rfl, rfl⟩⟩
  · unfold rdNum l3num
    rw [if_neg (by simp [h1]), if_pos h2]
    exact ⟨rfl, .inr ⟨h1, h2⟩⟩
theorem side_text (b : Bytes) {s t : Int × Bool} (h : Side s t) : (rdText b s).1 = (l3text b t).1 ∧ Side (rdText b s).2 (l3text b t).2 := by
  rcases h with ⟨h1, rfl⟩ | ⟨h1, h2⟩
  · unfold rdText l3text getText
    rw [if_pos h1, if_neg (by simp)]
    simp only
    cases getT b s.1 with
    | none => exact ⟨rfl, .inr ⟨rfl, rfl⟩⟩
    | some q => obtain ⟨n, k⟩ := q; exact ⟨rfl, .inl ⟨rfl, rfl⟩⟩
  · unfold rdText l3text
    rw [if_neg (by simp [h1]), if_pos h2]
    exact ⟨rfl, .inr ⟨h1, h2⟩⟩
end Go.Proofs.Ytliklgcfdgdigaa.Awp

namespace Go.Proofs.Ytliklgcfdgdigaa.Awp
open Go.Proofs
set_option linter.unusedSimpArgs false
set_option linter.unusedVariables false
set_option maxRecDepth 100000
set_option maxHeartbeats 20000000

end Go.Proofs.Ytliklgcfdgdigaa.Awp

namespace Go.Proofs.Ytliklgcfdgdigaa.Awp
open Go.Proofs
set_option linter.unusedSimpArgs false
set_option linter.unusedVariables false
set_option maxRecDepth 100000
set_option maxHeartbeats 20000000

def zPage : Page := { used := false, b := [] }
end Go.Proofs.Ytliklgcfdgdigaa.Awp

namespace Go.Proofs.Ytliklgcfdgdigaa.Awp
open Go.Proofs
set_option linter.unusedSimpArgs false
set_option linter.unusedVariables false
set_option maxRecDepth 100000
set_option maxHeartbeats 20000000

end Go.Proofs.Ytliklgcfdgdigaa.Awp

namespace Go.Proofs.Ytliklgcfdgdigaa.Awp
open Go.Proofs
set_option linter.unusedSimpArgs false
set_option linter.unusedVariables false
set_option maxRecDepth 100000
set_option maxHeartbeats 20000000

def usedN (l : List Page) : Nat := l.countP (·.used)
end Go.Proofs.Ytliklgcfdgdigaa.Awp

namespace Go.Proofs.Ytliklgcfdgdigaa.Awp
open Go.Proofs
set_option linter.unusedSimpArgs false
set_option linter.unusedVariables false
set_option maxRecDepth 100000
set_option maxHeartbeats 20000000

/-- the block of a number, if there is one -/
def blk? (c : Chip) (k : Int) : Option Block := if 0 ≤ k then c.blocks[k.toNat]? else none
def nextPage (c : Chip) (k : Int) : Int := match blk? c k with | some b => (usedN b.pages : Nat) | none => -1
end Go.Proofs.Ytliklgcfdgdigaa.Awp

namespace Go.Proofs.Ytliklgcfdgdigaa.Awp
open Go.Proofs
set_option linter.unusedSimpArgs false
set_option linter.unusedVariables false
set_option maxRecDepth 100000
set_option maxHeartbeats 20000000

/-- a page is right where it stands -/
def okP (P : List Page) (i : Nat) : Prop := ∀ p, P[i]? = some p → p.b.length ≤ 400 ∧ (p.used = false → p.b.length = 0) ∧ (0 < i → p.used = true → ∃ q, P[i - 1]? = some q ∧ q.used = true)
def okB (b : Block) : Prop := b.pages.length = 8 ∧ inR b.wear 0 100000 = true ∧ ∀ i, i < b.pages.length → okP b.pages i
def okC (c : Chip) : Prop := (∀ b ∈ c.blocks, okB b) ∧ inR (c.blocks.length : Nat) 3 24 = true
open Classical in
noncomputable def blkOk (b : Block) : Bool := decide (okB b)
open Classical in
noncomputable def chipOk (c : Chip) : Bool := decide (okC c)
end Go.Proofs.Ytliklgcfdgdigaa.Awp

namespace Go.Proofs.Ytliklgcfdgdigaa.Awp
open Go.Proofs
set_option linter.unusedSimpArgs false
set_option linter.unusedVariables false
set_option maxRecDepth 100000
set_option maxHeartbeats 20000000

end Go.Proofs.Ytliklgcfdgdigaa.Awp

namespace Go.Proofs.Ytliklgcfdgdigaa.Awp
open Go.Proofs
set_option linter.unusedSimpArgs false
set_option linter.unusedVariables false
set_option maxRecDepth 100000
set_option maxHeartbeats 20000000

end Go.Proofs.Ytliklgcfdgdigaa.Awp

namespace Go.Proofs.Ytliklgcfdgdigaa.Awp
open Go.Proofs
set_option linter.unusedSimpArgs false
set_option linter.unusedVariables false
set_option maxRecDepth 100000
set_option maxHeartbeats 20000000

end Go.Proofs.Ytliklgcfdgdigaa.Awp

namespace Go.Proofs.Ytliklgcfdgdigaa.Awp
open Go.Proofs
set_option linter.unusedSimpArgs false
set_option linter.unusedVariables false
set_option maxRecDepth 100000
set_option maxHeartbeats 20000000

end Go.Proofs.Ytliklgcfdgdigaa.Awp

namespace Go.Proofs.Ytliklgcfdgdigaa.Awp
open Go.Proofs
set_option linter.unusedSimpArgs false
set_option linter.unusedVariables false
set_option maxRecDepth 100000
set_option maxHeartbeats 20000000

end Go.Proofs.Ytliklgcfdgdigaa.Awp

namespace Go.Proofs.Ytliklgcfdgdigaa.Awp
open Go.Proofs
set_option linter.unusedSimpArgs false
set_option linter.unusedVariables false
set_option maxRecDepth 100000
set_option maxHeartbeats 20000000

end Go.Proofs.Ytliklgcfdgdigaa.Awp

namespace Go.Proofs.Ytliklgcfdgdigaa.Awp
open Go.Proofs
set_option linter.unusedSimpArgs false
set_option linter.unusedVariables false
set_option maxRecDepth 100000
set_option maxHeartbeats 20000000

noncomputable def mayCode (c : Chip) (k : Int) (full : Bool) : Int := if chipOk c = true then (match blk? c k with | none => 1 | some b => if b.bad = true then 2 else if full = true then 5 else 0) else 1
def fullE (c : Chip) (k : Int) : Bool := match blk? c k with | some b => decide (100000 ≤ b.wear) | none => false
noncomputable def eraseCode (c : Chip) (k : Int) : Int := mayCode c k (fullE c k)
end Go.Proofs.Ytliklgcfdgdigaa.Awp

namespace Go.Proofs.Ytliklgcfdgdigaa.Awp
open Go.Proofs
set_option linter.unusedSimpArgs false
set_option linter.unusedVariables false
set_option maxRecDepth 100000
set_option maxHeartbeats 20000000

def erB (b : Block) : Block := { pages := List.replicate 8 zPage, wear := b.wear + 1, bad := b.bad }
noncomputable def eraseC (c : Chip) (k : Int) : Chip := if eraseCode c k = 0 then { blocks := c.blocks.modify k.toNat erB } else c
end Go.Proofs.Ytliklgcfdgdigaa.Awp

namespace Go.Proofs.Ytliklgcfdgdigaa.Awp
open Go.Proofs
set_option linter.unusedSimpArgs false
set_option linter.unusedVariables false
set_option maxRecDepth 100000
set_option maxHeartbeats 20000000

/-! ### faults -/
def prevF (l : List Fault) : Nat → Bool
  | 0 => true
  | m + 1 => match l[m]?, l[m + 1]? with
    | some q, some f => decide (q.at' < f.at')
    | _, _ => true
def faultOk (l : List Fault) (i : Nat) : Bool := match l[i]? with
  | some f => inR f.at' 0 100000 && (inR f.kind 1 2 && (inR f.keep 0 400 && prevF l i))
  | none => true
def faultsIn (l : List Fault) : Bool := (List.range l.length).all (faultOk l)
def faultsOk (l : List Fault) : Bool := faultsIn l && decide ((l.length : Int) ≤ 20)
end Go.Proofs.Ytliklgcfdgdigaa.Awp

namespace Go.Proofs.Ytliklgcfdgdigaa.Awp
open Go.Proofs
set_option linter.unusedSimpArgs false
set_option linter.unusedVariables false
set_option maxRecDepth 100000
set_option maxHeartbeats 20000000

noncomputable def devOk (d : Dev) : Bool := chipOk d.c && (inR d.ops 0 100000 && faultsOk d.faults)
end Go.Proofs.Ytliklgcfdgdigaa.Awp

namespace Go.Proofs.Ytliklgcfdgdigaa.Awp
open Go.Proofs
set_option linter.unusedSimpArgs false
set_option linter.unusedVariables false
set_option maxRecDepth 100000
set_option maxHeartbeats 20000000

/-! ### the fault of an operation; copies; new devices -/
end Go.Proofs.Ytliklgcfdgdigaa.Awp

namespace Go.Proofs.Ytliklgcfdgdigaa.Awp
open Go.Proofs
set_option linter.unusedSimpArgs false
set_option linter.unusedVariables false
set_option maxRecDepth 100000
set_option maxHeartbeats 20000000

end Go.Proofs.Ytliklgcfdgdigaa.Awp

namespace Go.Proofs.Ytliklgcfdgdigaa.Awp
open Go.Proofs
set_option linter.unusedSimpArgs false
set_option linter.unusedVariables false
set_option maxRecDepth 100000
set_option maxHeartbeats 20000000

end Go.Proofs.Ytliklgcfdgdigaa.Awp

namespace Go.Proofs.Ytliklgcfdgdigaa.Awp
open Go.Proofs
set_option linter.unusedSimpArgs false
set_option linter.unusedVariables false
set_option maxRecDepth 100000
set_option maxHeartbeats 20000000

end Go.Proofs.Ytliklgcfdgdigaa.Awp

namespace Go.Proofs.Ytliklgcfdgdigaa.Awp
open Go.Proofs
set_option linter.unusedSimpArgs false
set_option linter.unusedVariables false
set_option maxRecDepth 100000
set_option maxHeartbeats 20000000

end Go.Proofs.Ytliklgcfdgdigaa.Awp

namespace Go.Proofs.Ytliklgcfdgdigaa.Awp
open Go.Proofs
set_option linter.unusedSimpArgs false
set_option linter.unusedVariables false
set_option maxRecDepth 100000
set_option maxHeartbeats 20000000

noncomputable def progCode (c : Chip) (k : Int) (b : Bytes) : Int := if 400 < (b.length : Int) then 1 else mayCode c k (decide (nextPage c k = 8))
def prB (b : Bytes) (x : Block) : Block := { pages := x.pages.modify (usedN x.pages) fun _ => { used := true, b := b }, wear := x.wear, bad := x.bad }
noncomputable def progC (c : Chip) (k : Int) (b : Bytes) : Chip := if progCode c k b = 0 then { blocks := c.blocks.modify k.toNat (prB b) } else c
end Go.Proofs.Ytliklgcfdgdigaa.Awp

namespace Go.Proofs.Ytliklgcfdgdigaa.Awp
open Go.Proofs
set_option linter.unusedSimpArgs false
set_option linter.unusedVariables false
set_option maxRecDepth 100000
set_option maxHeartbeats 20000000

theorem sI_numE (b : Bytes) (a : Int) (ok : Bool) (hl : b.length < 2 ^ 40) (ha : a < 2 ^ 62) :
    Spec Try.prog 135 [.box [.ext 1 (bytesR b), .int .i64 a, .bool ok]] (.int .i64 (rdNum b (a, ok)).1) [.box [.ext 1 (bytesR b), .int .i64 (rdNum b (a, ok)).2.1, .bool (rdNum b (a, ok)).2.2]] := by
  cases ok with
  | false =>
    refine spec_C hmx p_I_reader_num [] 61 [true] ⟨Nat.le_of_ble_eq_true rfl, Nat.le_of_ble_eq_true rfl⟩ rfl rfl ?_
    intro w hP hmd hks hQ
    unfold c_I_reader_num
    simp +decide (maxSteps := 20000000) (disch := omega) only [↓SBK, ↓SBK2, SX, Nat.reduceEqDiff, Nat.reduceAdd, Nat.reduceMul, Nat.reduceSub, ↓reduceIte, Int.reduceNeg, Int.reduceToNat, Int.reducePow, hmd, hks, hQ]
    simp [rdNum]
  | true =>
    refine spec_C hmx p_I_reader_num [] 61 [true] ⟨Nat.le_of_ble_eq_true rfl, Nat.le_of_ble_eq_true rfl⟩ rfl rfl ?_
    intro w hP hmd hks hQ
    unfold c_I_reader_num
    simp +decide (maxSteps := 20000000) (disch := omega) only [↓SBK, ↓SBK2, SX, Nat.reduceEqDiff, Nat.reduceAdd, Nat.reduceMul, Nat.reduceSub, ↓reduceIte, Int.reduceNeg, Int.reduceToNat, Int.reducePow, hmd, hks, hQ]
    (first | refine call_i hP (sI_GetNum b a hl ha) (.inl ⟨rfl, fun _ hx => nomatch hx⟩) ?_ | refine callH_i hP (sI_GetNum b a hl ha) (.inl ⟨rfl, fun _ hx => nomatch hx⟩) ?_)
    simp +decide (maxSteps := 20000000) (disch := omega) only [↓SBK, ↓SBK2, SX, Nat.reduceEqDiff, Nat.reduceAdd, Nat.reduceMul, Nat.reduceSub, ↓reduceIte, Int.reduceNeg, Int.reduceToNat, Int.reducePow, hmd, hks, hQ]
    simp [rdNum]
theorem sI_textE (b : Bytes) (a : Int) (ok : Bool) (hl : b.length < 2 ^ 40) (ha : a < 2 ^ 62) :
    Spec Try.prog 136 [.box [.ext 1 (bytesR b), .int .i64 a, .bool ok]] (.str (rdText b (a, ok)).1) [.box [.ext 1 (bytesR b), .int .i64 (rdText b (a, ok)).2.1, .bool (rdText b (a, ok)).2.2]] := by
  cases ok with
  | false =>
    refine spec_C hmx p_I_reader_text [] 61 [true] ⟨Nat.le_of_ble_eq_true rfl, Nat.le_of_ble_eq_true rfl⟩ rfl rfl ?_
    intro w hP hmd hks hQ
    unfold c_I_reader_text
    simp +decide (maxSteps := 20000000) (disch := omega) only [↓SBK, ↓SBK2, SX, Nat.reduceEqDiff, Nat.reduceAdd, Nat.reduceMul, Nat.reduceSub, ↓reduceIte, Int.reduceNeg, Int.reduceToNat, Int.reducePow, hmd, hks, hQ]
    simp [rdText]
  | true =>
    refine spec_C hmx p_I_reader_text [] 61 [true] ⟨Nat.le_of_ble_eq_true rfl, Nat.le_of_ble_eq_true rfl⟩ rfl rfl ?_
    intro w hP hmd hks hQ
    unfold c_I_reader_text
    simp +decide (maxSteps := 20000000) (disch := omega) only [↓SBK, ↓SBK2, SX, Nat.reduceEqDiff, Nat.reduceAdd, Nat.reduceMul, Nat.reduceSub, ↓reduceIte, Int.reduceNeg, Int.reduceToNat, Int.reducePow, hmd, hks, hQ]
    (first | refine call_i hP (sI_GetText b a hl ha) (.inl ⟨rfl, fun _ hx => nomatch hx⟩) ?_ | refine callH_i hP (sI_GetText b a hl ha) (.inl ⟨rfl, fun _ hx => nomatch hx⟩) ?_)
    simp +decide (maxSteps := 20000000) (disch := omega) only [↓SBK, ↓SBK2, SX, Nat.reduceEqDiff, Nat.reduceAdd, Nat.reduceMul, Nat.reduceSub, ↓reduceIte, Int.reduceNeg, Int.reduceToNat, Int.reducePow, hmd, hks, hQ]
    simp [rdText]
theorem sI_doneE (b : Bytes) (a : Int) (ok : Bool) (hl : b.length < 2 ^ 40) :
    Spec Try.prog 137 [.box [.ext 1 (bytesR b), .int .i64 a, .bool ok]] (.bool (ok && decide (a = (b.length : Nat)))) [.box [.ext 1 (bytesR b), .int .i64 a, .bool ok]] := by
  cases ok with
  | false =>
    refine spec_C hmx p_I_reader_done [] 5 [true] ⟨Nat.le_of_ble_eq_true rfl, Nat.le_of_ble_eq_true rfl⟩ rfl rfl ?_
    intro w hP hmd hks hQ
    unfold c_I_reader_done
    simp +decide (maxSteps := 20000000) (disch := omega) only [↓SBK, ↓SBK2, SX, Nat.reduceEqDiff, Nat.reduceAdd, Nat.reduceMul, Nat.reduceSub, ↓reduceIte, Int.reduceNeg, Int.reduceToNat, Int.reducePow, hmd, hks, hQ]
  | true =>
    refine spec_C hmx p_I_reader_done [] 5 [true] ⟨Nat.le_of_ble_eq_true rfl, Nat.le_of_ble_eq_true rfl⟩ rfl rfl ?_
    intro w hP hmd hks hQ
    unfold c_I_reader_done
    simp +decide (maxSteps := 20000000) (disch := omega) only [↓SBK, ↓SBK2, SX, Nat.reduceEqDiff, Nat.reduceAdd, Nat.reduceMul, Nat.reduceSub, ↓reduceIte, Int.reduceNeg, Int.reduceToNat, Int.reducePow, hmd, hks, hQ]
theorem sS_l3NumE (b : Bytes) (a : Int) (bad : Bool) (hl : b.length < 2 ^ 40) (ha : a < 2 ^ 62) :
    Spec Try.prog 133 [.box [.ext 1 (bytesR b), .int .i64 a, .bool bad]] (.int .i64 (l3num b (a, bad)).1) [.box [.ext 1 (bytesR b), .int .i64 (l3num b (a, bad)).2.1, .bool (l3num b (a, bad)).2.2]] := by
  have hc := sS_GetNum b a hl ha
  cases hN : getN b a with
  | none =>
    rw [getNum, hN] at hc
    simp only [outN] at hc
    cases bad with
    | false =>
      refine spec_C hmx p_S_l3Num [] 61 [true] ⟨Nat.le_of_ble_eq_true rfl, Nat.le_of_ble_eq_true rfl⟩ rfl rfl ?_
      intro w hP hmd hks hQ
      unfold c_S_l3Num
      simp +decide (maxSteps := 20000000) (disch := omega) only [↓SBK, ↓SBK2, SX, Nat.reduceEqDiff, Nat.reduceAdd, Nat.reduceMul, Nat.reduceSub, ↓reduceIte, Int.reduceNeg, Int.reduceToNat, Int.reducePow, hmd, hks, hQ]
      (first | refine call_i hP (hc) (.inl ⟨rfl, fun _ hx => nomatch hx⟩) ?_ | refine callH_i hP (hc) (.inl ⟨rfl, fun _ hx => nomatch hx⟩) ?_)
      simp +decide (maxSteps := 20000000) (disch := omega) only [↓SBK, ↓SBK2, SX, Nat.reduceEqDiff, Nat.reduceAdd, Nat.reduceMul, Nat.reduceSub, ↓reduceIte, Int.reduceNeg, Int.reduceToNat, Int.reducePow, hmd, hks, hQ]
      simp [l3num, hN]
    | true =>
      refine spec_C hmx p_S_l3Num [] 61 [true] ⟨Nat.le_of_ble_eq_true rfl, Nat.le_of_ble_eq_true rfl⟩ rfl rfl ?_
      intro w hP hmd hks hQ
      unfold c_S_l3Num
      simp +decide (maxSteps := 20000000) (disch := omega) only [↓SBK, ↓SBK2, SX, Nat.reduceEqDiff, Nat.reduceAdd, Nat.reduceMul, Nat.reduceSub, ↓reduceIte, Int.reduceNeg, Int.reduceToNat, Int.reducePow, hmd, hks, hQ]
      (first | refine call_i hP (hc) (.inl ⟨rfl, fun _ hx => nomatch hx⟩) ?_ | refine callH_i hP (hc) (.inl ⟨rfl, fun _ hx => nomatch hx⟩) ?_)
      simp +decide (maxSteps := 20000000) (disch := omega) only [↓SBK, ↓SBK2, SX, Nat.reduceEqDiff, Nat.reduceAdd, Nat.reduceMul, Nat.reduceSub, ↓reduceIte, Int.reduceNeg, Int.reduceToNat, Int.reducePow, hmd, hks, hQ]
      simp [l3num, hN]
  | some q =>
    obtain ⟨n, k⟩ := q
    rw [getNum, hN] at hc
    simp only [outN] at hc
    cases bad with
    | false =>
      refine spec_C hmx p_S_l3Num [] 61 [true] ⟨Nat.le_of_ble_eq_true rfl, Nat.le_of_ble_eq_true rfl⟩ rfl rfl ?_
      intro w hP hmd hks hQ
      unfold c_S_l3Num
      simp +decide (maxSteps := 20000000) (disch := omega) only [↓SBK, ↓SBK2, SX, Nat.reduceEqDiff, Nat.reduceAdd, Nat.reduceMul, Nat.reduceSub, ↓reduceIte, Int.reduceNeg, Int.reduceToNat, Int.reducePow, hmd, hks, hQ]
      (first | refine call_i hP (hc) (.inl ⟨rfl, fun _ hx => nomatch hx⟩) ?_ | refine callH_i hP (hc) (.inl ⟨rfl, fun _ hx => nomatch hx⟩) ?_)
      simp +decide (maxSteps := 20000000) (disch := omega) only [↓SBK, ↓SBK2, SX, Nat.reduceEqDiff, Nat.reduceAdd, Nat.reduceMul, Nat.reduceSub, ↓reduceIte, Int.reduceNeg, Int.reduceToNat, Int.reducePow, hmd, hks, hQ]
      simp [l3num, hN]
    | true =>
      refine spec_C hmx p_S_l3Num [] 61 [true] ⟨Nat.le_of_ble_eq_true rfl, Nat.le_of_ble_eq_true rfl⟩ rfl rfl ?_
      intro w hP hmd hks hQ
      unfold c_S_l3Num
      simp +decide (maxSteps := 20000000) (disch := omega) only [↓SBK, ↓SBK2, SX, Nat.reduceEqDiff, Nat.reduceAdd, Nat.reduceMul, Nat.reduceSub, ↓reduceIte, Int.reduceNeg, Int.reduceToNat, Int.reducePow, hmd, hks, hQ]
      (first | refine call_i hP (hc) (.inl ⟨rfl, fun _ hx => nomatch hx⟩) ?_ | refine callH_i hP (hc) (.inl ⟨rfl, fun _ hx => nomatch hx⟩) ?_)
      simp +decide (maxSteps := 20000000) (disch := omega) only [↓SBK, ↓SBK2, SX, Nat.reduceEqDiff, Nat.reduceAdd, Nat.reduceMul, Nat.reduceSub, ↓reduceIte, Int.reduceNeg, Int.reduceToNat, Int.reducePow, hmd, hks, hQ]
      simp [l3num, hN]
theorem sS_l3TextE (b : Bytes) (a : Int) (bad : Bool) (hl : b.length < 2 ^ 40) (ha : a < 2 ^ 62) :
    Spec Try.prog 134 [.box [.ext 1 (bytesR b), .int .i64 a, .bool bad]] (.str (l3text b (a, bad)).1) [.box [.ext 1 (bytesR b), .int .i64 (l3text b (a, bad)).2.1, .bool (l3text b (a, bad)).2.2]] := by
  have hc := sS_GetText b a hl ha
  cases hN : getT b a with
  | none =>
    rw [getText, hN] at hc
    simp only [outT] at hc
    cases bad with
    | false =>
      refine spec_C hmx p_S_l3Text [] 61 [true] ⟨Nat.le_of_ble_eq_true rfl, Nat.le_of_ble_eq_true rfl⟩ rfl rfl ?_
      intro w hP hmd hks hQ
      unfold c_S_l3Text
      simp +decide (maxSteps := 20000000) (disch := omega) only [↓SBK, ↓SBK2, SX, Nat.reduceEqDiff, Nat.reduceAdd, Nat.reduceMul, Nat.reduceSub, ↓reduceIte, Int.reduceNeg, Int.reduceToNat, Int.reducePow, hmd, hks, hQ]
      (first | refine call_i hP (hc) (.inl ⟨rfl, fun _ hx => nomatch hx⟩) ?_ | refine callH_i hP (hc) (.inl ⟨rfl, fun _ hx => nomatch hx⟩) ?_)
      simp +decide (maxSteps := 20000000) (disch := omega) only [↓SBK, ↓SBK2, SX, Nat.reduceEqDiff, Nat.reduceAdd, Nat.reduceMul, Nat.reduceSub, ↓reduceIte, Int.reduceNeg, Int.reduceToNat, Int.reducePow, hmd, hks, hQ]
      simp [l3text, hN]
    | true =>
      refine spec_C hmx p_S_l3Text [] 61 [true] ⟨Nat.le_of_ble_eq_true rfl, Nat.le_of_ble_eq_true rfl⟩ rfl rfl ?_
      intro w hP hmd hks hQ
      unfold c_S_l3Text
      simp +decide (maxSteps := 20000000) (disch := omega) only [↓SBK, ↓SBK2, SX, Nat.reduceEqDiff, Nat.reduceAdd, Nat.reduceMul, Nat.reduceSub, ↓reduceIte, Int.reduceNeg, Int.reduceToNat, Int.reducePow, hmd, hks, hQ]
      (first | refine call_i hP (hc) (.inl ⟨rfl, fun _ hx => nomatch hx⟩) ?_ | refine callH_i hP (hc) (.inl ⟨rfl, fun _ hx => nomatch hx⟩) ?_)
      simp +decide (maxSteps := 20000000) (disch := omega) only [↓SBK, ↓SBK2, SX, Nat.reduceEqDiff, Nat.reduceAdd, Nat.reduceMul, Nat.reduceSub, ↓reduceIte, Int.reduceNeg, Int.reduceToNat, Int.reducePow, hmd, hks, hQ]
      simp [l3text, hN]
  | some q =>
    obtain ⟨n, k⟩ := q
    rw [getText, hN] at hc
    simp only [outT] at hc
    cases bad with
    | false =>
      refine spec_C hmx p_S_l3Text [] 61 [true] ⟨Nat.le_of_ble_eq_true rfl, Nat.le_of_ble_eq_true rfl⟩ rfl rfl ?_
      intro w hP hmd hks hQ
      unfold c_S_l3Text
      simp +decide (maxSteps := 20000000) (disch := omega) only [↓SBK, ↓SBK2, SX, Nat.reduceEqDiff, Nat.reduceAdd, Nat.reduceMul, Nat.reduceSub, ↓reduceIte, Int.reduceNeg, Int.reduceToNat, Int.reducePow, hmd, hks, hQ]
      (first | refine call_i hP (hc) (.inl ⟨rfl, fun _ hx => nomatch hx⟩) ?_ | refine callH_i hP (hc) (.inl ⟨rfl, fun _ hx => nomatch hx⟩) ?_)
      simp +decide (maxSteps := 20000000) (disch := omega) only [↓SBK, ↓SBK2, SX, Nat.reduceEqDiff, Nat.reduceAdd, Nat.reduceMul, Nat.reduceSub, ↓reduceIte, Int.reduceNeg, Int.reduceToNat, Int.reducePow, hmd, hks, hQ]
      simp [l3text, hN]
    | true =>
      refine spec_C hmx p_S_l3Text [] 61 [true] ⟨Nat.le_of_ble_eq_true rfl, Nat.le_of_ble_eq_true rfl⟩ rfl rfl ?_
      intro w hP hmd hks hQ
      unfold c_S_l3Text
      simp +decide (maxSteps := 20000000) (disch := omega) only [↓SBK, ↓SBK2, SX, Nat.reduceEqDiff, Nat.reduceAdd, Nat.reduceMul, Nat.reduceSub, ↓reduceIte, Int.reduceNeg, Int.reduceToNat, Int.reducePow, hmd, hks, hQ]
      (first | refine call_i hP (hc) (.inl ⟨rfl, fun _ hx => nomatch hx⟩) ?_ | refine callH_i hP (hc) (.inl ⟨rfl, fun _ hx => nomatch hx⟩) ?_)
      simp +decide (maxSteps := 20000000) (disch := omega) only [↓SBK, ↓SBK2, SX, Nat.reduceEqDiff, Nat.reduceAdd, Nat.reduceMul, Nat.reduceSub, ↓reduceIte, Int.reduceNeg, Int.reduceToNat, Int.reducePow, hmd, hks, hQ]
      simp [l3text, hN]

/-! ### a reader that is not right reads nothing -/
theorem sI_numX (x : AV) (hx : x = .own 1 []) : Spec Try.prog 135 [.box [x, .int .i64 0, .bool false]] (.int .i64 0) [.box [x, .int .i64 0, .bool false]] := by
  subst hx
  refine spec_C hmx p_I_reader_num [] 61 [true] ⟨Nat.le_of_ble_eq_true rfl, Nat.le_of_ble_eq_true rfl⟩ rfl rfl ?_
  intro w hP hmd hks hQ
  unfold c_I_reader_num
  simp +decide (maxSteps := 20000000) (disch := omega) only [↓SBK, ↓SBK2, SX, Nat.reduceEqDiff, Nat.reduceAdd, Nat.reduceMul, Nat.reduceSub, ↓reduceIte, Int.reduceNeg, Int.reduceToNat, Int.reducePow, hmd, hks, hQ]
theorem sI_textX (x : AV) (hx : x = .own 1 []) : Spec Try.prog 136 [.box [x, .int .i64 0, .bool false]] (.str []) [.box [x, .int .i64 0, .bool false]] := by
  subst hx
  refine spec_C hmx p_I_reader_text [] 61 [true] ⟨Nat.le_of_ble_eq_true rfl, Nat.le_of_ble_eq_true rfl⟩ rfl rfl ?_
  intro w hP hmd hks hQ
  unfold c_I_reader_text
  simp +decide (maxSteps := 20000000) (disch := omega) only [↓SBK, ↓SBK2, SX, Nat.reduceEqDiff, Nat.reduceAdd, Nat.reduceMul, Nat.reduceSub, ↓reduceIte, Int.reduceNeg, Int.reduceToNat, Int.reducePow, hmd, hks, hQ]
theorem sI_doneX (x : AV) (hx : x = .own 1 []) : Spec Try.prog 137 [.box [x, .int .i64 0, .bool false]] (.bool false) [.box [x, .int .i64 0, .bool false]] := by
  subst hx
  refine spec_C hmx p_I_reader_done [] 5 [true] ⟨Nat.le_of_ble_eq_true rfl, Nat.le_of_ble_eq_true rfl⟩ rfl rfl ?_
  intro w hP hmd hks hQ
  unfold c_I_reader_done
  simp +decide (maxSteps := 20000000) (disch := omega) only [↓SBK, ↓SBK2, SX, Nat.reduceEqDiff, Nat.reduceAdd, Nat.reduceMul, Nat.reduceSub, ↓reduceIte, Int.reduceNeg, Int.reduceToNat, Int.reducePow, hmd, hks, hQ]
end Go.Proofs.Ytliklgcfdgdigaa.Awp

namespace Go.Proofs.Ytliklgcfdgdigaa.Awp
open Go.Proofs
set_option linter.unusedSimpArgs false
set_option linter.unusedVariables false
set_option maxRecDepth 100000
set_option maxHeartbeats 20000000

/-! ### a record of its bytes -/
def bodyOf (b : Bytes) : Bytes := b.take (b.length - 4)
def isOpen (b : Bytes) : Bool := decide (4 ≤ b.length) && decide (sealB (bodyOf b) = b)
theorem bytesR_take (b : Bytes) (n : Nat) : List.take n (bytesR b) = bytesR (b.take n) := by simp [bytesR, List.map_take]
theorem bodyOf_n {b : Bytes} {n : Nat} (hn : b.length = n + 4) : bodyOf b = b.take n := by unfold bodyOf; congr 1; omega
theorem sI_opened_t (b : Bytes) (hl : b.length < 2 ^ 39) (h : isOpen b = true) : Spec Try.prog 143 [.ext 1 (bytesR b)] (.tup [.ext 1 (bytesR (bodyOf b)), .bool true]) [.undef] := by
  obtain ⟨h1, h2⟩ := Bool.and_eq_true_iff.1 h
  have h1 := of_decide_eq_true h1
  have h2 := of_decide_eq_true h2
  obtain ⟨n, hn⟩ : ∃ n, b.length = n + 4 := ⟨b.length - 4, by omega⟩
  have e1 : ((b.length : Nat) : Int) - 4 = (n : Nat) := by omega
  have e2 := bodyOf_n hn
  have d1 : decide (((n : Nat) : Int) < 0) = false := decide_eq_false (by omega)
  have hsl := sI_sealed (bodyOf b) (by simp [e2]; omega)
  rw [h2, e2] at hsl
  have d2 : decide (b = b) = true := decide_eq_true rfl
  rw [e2]
  refine spec_C hmx p_I_opened [] 29 [] ⟨Nat.le_of_ble_eq_true rfl, Nat.le_of_ble_eq_true rfl⟩ rfl rfl ?_
  intro w hP hmd hks hQ
  unfold c_I_opened
  simp +decide (maxSteps := 20000000) (disch := omega) only [↓SBK, ↓SBK2, SX, Nat.reduceEqDiff, Nat.reduceAdd, Nat.reduceMul, Nat.reduceSub, ↓reduceIte, Int.reduceNeg, Int.reduceToNat, Int.reducePow, hmd, hks, hQ]
  simp +decide (maxSteps := 20000000) (disch := omega) only [↓SBK, ↓SBK2, SX, Nat.reduceEqDiff, Nat.reduceAdd, Nat.reduceMul, Nat.reduceSub, ↓reduceIte, Int.reduceNeg, Int.reduceToNat, Int.reducePow, hmd, hks, hQ, e1, d1, Int.sub_zero, bytesR_take]
  (first | refine call_i hP (hsl) (.inl ⟨rfl, fun _ hx => nomatch hx⟩) ?_ | refine callH_i hP (hsl) (.inl ⟨rfl, fun _ hx => nomatch hx⟩) ?_)
  simp +decide (maxSteps := 20000000) (disch := omega) only [↓SBK, ↓SBK2, SX, Nat.reduceEqDiff, Nat.reduceAdd, Nat.reduceMul, Nat.reduceSub, ↓reduceIte, Int.reduceNeg, Int.reduceToNat, Int.reducePow, hmd, hks, hQ, rowsBytes_R, d2, Int.sub_zero, bytesR_take]
theorem sI_opened_f (b : Bytes) (hl : b.length < 2 ^ 39) (h : isOpen b = false) : Spec Try.prog 143 [.ext 1 (bytesR b)] (.tup [.own 1 [], .bool false]) [.undef] := by
  by_cases h1 : 4 ≤ b.length
  · obtain ⟨n, hn⟩ : ∃ n, b.length = n + 4 := ⟨b.length - 4, by omega⟩
    have e1 : ((b.length : Nat) : Int) - 4 = (n : Nat) := by omega
    have e2 := bodyOf_n hn
    have d1 : decide (((n : Nat) : Int) < 0) = false := decide_eq_false (by omega)
    have hsl := sI_sealed (bodyOf b) (by simp [e2]; omega)
    have h2 : decide (sealB (b.take n) = b) = false := by
      rw [isOpen, e2, decide_eq_true h1] at h; simpa using h
    rw [e2] at hsl
    refine spec_C hmx p_I_opened [] 29 [] ⟨Nat.le_of_ble_eq_true rfl, Nat.le_of_ble_eq_true rfl⟩ rfl rfl ?_
    intro w hP hmd hks hQ
    unfold c_I_opened
    simp +decide (maxSteps := 20000000) (disch := omega) only [↓SBK, ↓SBK2, SX, Nat.reduceEqDiff, Nat.reduceAdd, Nat.reduceMul, Nat.reduceSub, ↓reduceIte, Int.reduceNeg, Int.reduceToNat, Int.reducePow, hmd, hks, hQ]
    simp +decide (maxSteps := 20000000) (disch := omega) only [↓SBK, ↓SBK2, SX, Nat.reduceEqDiff, Nat.reduceAdd, Nat.reduceMul, Nat.reduceSub, ↓reduceIte, Int.reduceNeg, Int.reduceToNat, Int.reducePow, hmd, hks, hQ, e1, d1, Int.sub_zero, bytesR_take]
    (first | refine call_i hP (hsl) (.inl ⟨rfl, fun _ hx => nomatch hx⟩) ?_ | refine callH_i hP (hsl) (.inl ⟨rfl, fun _ hx => nomatch hx⟩) ?_)
    simp +decide (maxSteps := 20000000) (disch := omega) only [↓SBK, ↓SBK2, SX, Nat.reduceEqDiff, Nat.reduceAdd, Nat.reduceMul, Nat.reduceSub, ↓reduceIte, Int.reduceNeg, Int.reduceToNat, Int.reducePow, hmd, hks, hQ, rowsBytes_R, h2, Int.sub_zero, bytesR_take]
  · have d1 : decide (((b.length : Nat) : Int) - 4 < 0) = true := decide_eq_true (by omega)
    refine spec_C hmx p_I_opened [] 29 [] ⟨Nat.le_of_ble_eq_true rfl, Nat.le_of_ble_eq_true rfl⟩ rfl rfl ?_
    intro w hP hmd hks hQ
    unfold c_I_opened
    simp +decide (maxSteps := 20000000) (disch := omega) only [↓SBK, ↓SBK2, SX, Nat.reduceEqDiff, Nat.reduceAdd, Nat.reduceMul, Nat.reduceSub, ↓reduceIte, Int.reduceNeg, Int.reduceToNat, Int.reducePow, hmd, hks, hQ]
    simp +decide (maxSteps := 20000000) (disch := omega) only [↓SBK, ↓SBK2, SX, Nat.reduceEqDiff, Nat.reduceAdd, Nat.reduceMul, Nat.reduceSub, ↓reduceIte, Int.reduceNeg, Int.reduceToNat, Int.reducePow, hmd, hks, hQ, d1]
def zRec : Rec := { kind := 0, seq := 0, body := [] }
def recK (x : Bytes) : Int × Int × Bool := rdNum x (0, true)
def recQ (x : Bytes) : Int × Int × Bool := rdNum x (recK x).2
def recT (x : Bytes) : Bytes × Int × Bool := rdText x (recQ x).2
def recI (x : Bytes) : Rec := { kind := (recK x).1, seq := (recQ x).1, body := (recT x).1 }
def fitI (x : Bytes) : Bool := ((recT x).2.2 && decide ((recT x).2.1 = (x.length : Nat))) && recOk (recI x)
def getRec (b : Bytes) : Rec × Bool := if isOpen b = true ∧ fitI (bodyOf b) = true then (recI (bodyOf b), true) else (zRec, false)
theorem rdText_len (b : Bytes) (s : Int × Bool) : (rdText b s).1.length ≤ b.length := by
  unfold rdText getText
  split
  · cases hN : getT b s.1 with
    | none => simp [outT]
    | some q => obtain ⟨x, k⟩ := q; exact (getT_le hN).2
  · simp
theorem sI_GetRec (b : Bytes) (hl : b.length < 2 ^ 39) : Spec Try.prog 70 [.ext 1 (bytesR b)] (.tup [(getRec b).1.o, .bool (getRec b).2]) [.undef] := by
  cases h : isOpen b with
  | false =>
    rw [getRec, if_neg (by rw [h]; simp)]
    refine spec_C hmx p_I_GetRec [(135, [.l], []), (136, [.l], []), (137, [.l], [])] 253 [] ⟨Nat.le_of_ble_eq_true rfl, Nat.le_of_ble_eq_true rfl⟩ rfl rfl ?_
    intro w hP hmd hks hQ
    unfold c_I_GetRec
    simp +decide (maxSteps := 20000000) (disch := omega) only [↓SBK, ↓SBK2, SX, Nat.reduceEqDiff, Nat.reduceAdd, Nat.reduceMul, Nat.reduceSub, ↓reduceIte, Int.reduceNeg, Int.reduceToNat, Int.reducePow, hmd, hks, hQ]
    (first | refine call_i hP (sI_opened_f b hl h) (.inl ⟨rfl, fun _ hx => nomatch hx⟩) ?_ | refine callH_i hP (sI_opened_f b hl h) (.inl ⟨rfl, fun _ hx => nomatch hx⟩) ?_)
    simp +decide (maxSteps := 20000000) (disch := omega) only [↓SBK, ↓SBK2, SX, Nat.reduceEqDiff, Nat.reduceAdd, Nat.reduceMul, Nat.reduceSub, ↓reduceIte, Int.reduceNeg, Int.reduceToNat, Int.reducePow, hmd, hks, hQ]
    (first | refine call_i hP (sI_numX _ rfl) (.inl ⟨rfl, fun _ hx => nomatch hx⟩) ?_ | refine callH_i hP (sI_numX _ rfl) (.inl ⟨rfl, fun _ hx => nomatch hx⟩) ?_)
    simp +decide (maxSteps := 20000000) (disch := omega) only [↓SBK, ↓SBK2, SX, Nat.reduceEqDiff, Nat.reduceAdd, Nat.reduceMul, Nat.reduceSub, ↓reduceIte, Int.reduceNeg, Int.reduceToNat, Int.reducePow, hmd, hks, hQ]
    (first | refine call_i hP (sI_numX _ rfl) (.inl ⟨rfl, fun _ hx => nomatch hx⟩) ?_ | refine callH_i hP (sI_numX _ rfl) (.inl ⟨rfl, fun _ hx => nomatch hx⟩) ?_)
    simp +decide (maxSteps := 20000000) (disch := omega) only [↓SBK, ↓SBK2, SX, Nat.reduceEqDiff, Nat.reduceAdd, Nat.reduceMul, Nat.reduceSub, ↓reduceIte, Int.reduceNeg, Int.reduceToNat, Int.reducePow, hmd, hks, hQ]
    (first | refine call_i hP (sI_textX _ rfl) (.inl ⟨rfl, fun _ hx => nomatch hx⟩) ?_ | refine callH_i hP (sI_textX _ rfl) (.inl ⟨rfl, fun _ hx => nomatch hx⟩) ?_)
    simp +decide (maxSteps := 20000000) (disch := omega) only [↓SBK, ↓SBK2, SX, Nat.reduceEqDiff, Nat.reduceAdd, Nat.reduceMul, Nat.reduceSub, ↓reduceIte, Int.reduceNeg, Int.reduceToNat, Int.reducePow, hmd, hks, hQ]
    (first | refine call_i hP (sI_doneX _ rfl) (.inl ⟨rfl, fun _ hx => nomatch hx⟩) ?_ | refine callH_i hP (sI_doneX _ rfl) (.inl ⟨rfl, fun _ hx => nomatch hx⟩) ?_)
    simp +decide (maxSteps := 20000000) (disch := omega) only [↓SBK, ↓SBK2, SX, Nat.reduceEqDiff, Nat.reduceAdd, Nat.reduceMul, Nat.reduceSub, ↓reduceIte, Int.reduceNeg, Int.reduceToNat, Int.reducePow, hmd, hks, hQ]
    rfl
  | true =>
    have hx : (bodyOf b).length < 2 ^ 40 := by simp [bodyOf]; omega
    have ho := sI_opened_t b hl h
    have e : getRec b = if fitI (bodyOf b) = true then (recI (bodyOf b), true) else (zRec, false) := by rw [getRec, h]; simp
    rw [e]
    generalize bodyOf b = x at *
    have a1 : (recK x).2.1 < 2 ^ 62 := rdNum_lt hx (by decide)
    have a2 : (recQ x).2.1 < 2 ^ 62 := rdNum_lt hx a1
    have hbl : (recT x).1.length < 2 ^ 48 := by have := rdText_len x (recQ x).2; unfold recT; omega
    have hR := sI_RecOk (recI x) hbl
    have k1 := sI_numE x 0 true hx (by decide)
    have k2 := sI_numE x (recK x).2.1 (recK x).2.2 hx a1
    have k3 := sI_textE x (recQ x).2.1 (recQ x).2.2 hx a2
    have k4 := sI_doneE x (recT x).2.1 (recT x).2.2 hx
    rw [show rdNum x (0, true) = recK x from rfl] at k1
    rw [show rdNum x ((recK x).2.1, (recK x).2.2) = recQ x from rfl] at k2
    rw [show rdText x ((recQ x).2.1, (recQ x).2.2) = recT x from rfl] at k3
    have ef : fitI x = (((recT x).2.2 && decide ((recT x).2.1 = (x.length : Nat))) && recOk (recI x)) := rfl
    cases hd : ((recT x).2.2 && decide ((recT x).2.1 = (x.length : Nat))) with
    | false =>
      rw [hd] at ef k4
      rw [ef]
      refine spec_C hmx p_I_GetRec [(135, [.l], []), (136, [.l], []), (137, [.l], [])] 253 [] ⟨Nat.le_of_ble_eq_true rfl, Nat.le_of_ble_eq_true rfl⟩ rfl rfl ?_
      intro w hP hmd hks hQ
      unfold c_I_GetRec
      simp +decide (maxSteps := 20000000) (disch := omega) only [↓SBK, ↓SBK2, SX, Nat.reduceEqDiff, Nat.reduceAdd, Nat.reduceMul, Nat.reduceSub, ↓reduceIte, Int.reduceNeg, Int.reduceToNat, Int.reducePow, hmd, hks, hQ]
      (first | refine call_i hP (ho) (.inr rfl) ?_ | refine callH_i hP (ho) (.inr rfl) ?_)
      simp +decide (maxSteps := 20000000) (disch := omega) only [↓SBK, ↓SBK2, SX, Nat.reduceEqDiff, Nat.reduceAdd, Nat.reduceMul, Nat.reduceSub, ↓reduceIte, Int.reduceNeg, Int.reduceToNat, Int.reducePow, hmd, hks, hQ]
      (first | refine call_i hP (k1) (.inr rfl) ?_ | refine callH_i hP (k1) (.inr rfl) ?_)
      simp +decide (maxSteps := 20000000) (disch := omega) only [↓SBK, ↓SBK2, SX, Nat.reduceEqDiff, Nat.reduceAdd, Nat.reduceMul, Nat.reduceSub, ↓reduceIte, Int.reduceNeg, Int.reduceToNat, Int.reducePow, hmd, hks, hQ]
      (first | refine call_i hP (k2) (.inr rfl) ?_ | refine callH_i hP (k2) (.inr rfl) ?_)
      simp +decide (maxSteps := 20000000) (disch := omega) only [↓SBK, ↓SBK2, SX, Nat.reduceEqDiff, Nat.reduceAdd, Nat.reduceMul, Nat.reduceSub, ↓reduceIte, Int.reduceNeg, Int.reduceToNat, Int.reducePow, hmd, hks, hQ]
      (first | refine call_i hP (k3) (.inr rfl) ?_ | refine callH_i hP (k3) (.inr rfl) ?_)
      simp +decide (maxSteps := 20000000) (disch := omega) only [↓SBK, ↓SBK2, SX, Nat.reduceEqDiff, Nat.reduceAdd, Nat.reduceMul, Nat.reduceSub, ↓reduceIte, Int.reduceNeg, Int.reduceToNat, Int.reducePow, hmd, hks, hQ]
      (first | refine call_i hP (k4) (.inr rfl) ?_ | refine callH_i hP (k4) (.inr rfl) ?_)
      simp +decide (maxSteps := 20000000) (disch := omega) only [↓SBK, ↓SBK2, SX, Nat.reduceEqDiff, Nat.reduceAdd, Nat.reduceMul, Nat.reduceSub, ↓reduceIte, Int.reduceNeg, Int.reduceToNat, Int.reducePow, hmd, hks, hQ]
      rfl
    | true =>
      rw [hd, Bool.true_and] at ef
      rw [hd] at k4
      rw [ef]
      cases hr : recOk (recI x) with
      | false =>
        rw [hr] at hR
        refine spec_C hmx p_I_GetRec [(135, [.l], []), (136, [.l], []), (137, [.l], [])] 253 [] ⟨Nat.le_of_ble_eq_true rfl, Nat.le_of_ble_eq_true rfl⟩ rfl rfl ?_
        intro w hP hmd hks hQ
        unfold c_I_GetRec
        simp +decide (maxSteps := 20000000) (disch := omega) only [↓SBK, ↓SBK2, SX, Nat.reduceEqDiff, Nat.reduceAdd, Nat.reduceMul, Nat.reduceSub, ↓reduceIte, Int.reduceNeg, Int.reduceToNat, Int.reducePow, hmd, hks, hQ]
        (first | refine call_i hP (ho) (.inr rfl) ?_ | refine callH_i hP (ho) (.inr rfl) ?_)
        simp +decide (maxSteps := 20000000) (disch := omega) only [↓SBK, ↓SBK2, SX, Nat.reduceEqDiff, Nat.reduceAdd, Nat.reduceMul, Nat.reduceSub, ↓reduceIte, Int.reduceNeg, Int.reduceToNat, Int.reducePow, hmd, hks, hQ]
        (first | refine call_i hP (k1) (.inr rfl) ?_ | refine callH_i hP (k1) (.inr rfl) ?_)
        simp +decide (maxSteps := 20000000) (disch := omega) only [↓SBK, ↓SBK2, SX, Nat.reduceEqDiff, Nat.reduceAdd, Nat.reduceMul, Nat.reduceSub, ↓reduceIte, Int.reduceNeg, Int.reduceToNat, Int.reducePow, hmd, hks, hQ]
        (first | refine call_i hP (k2) (.inr rfl) ?_ | refine callH_i hP (k2) (.inr rfl) ?_)
        simp +decide (maxSteps := 20000000) (disch := omega) only [↓SBK, ↓SBK2, SX, Nat.reduceEqDiff, Nat.reduceAdd, Nat.reduceMul, Nat.reduceSub, ↓reduceIte, Int.reduceNeg, Int.reduceToNat, Int.reducePow, hmd, hks, hQ]
        (first | refine call_i hP (k3) (.inr rfl) ?_ | refine callH_i hP (k3) (.inr rfl) ?_)
        simp +decide (maxSteps := 20000000) (disch := omega) only [↓SBK, ↓SBK2, SX, Nat.reduceEqDiff, Nat.reduceAdd, Nat.reduceMul, Nat.reduceSub, ↓reduceIte, Int.reduceNeg, Int.reduceToNat, Int.reducePow, hmd, hks, hQ]
        (first | refine call_i hP (k4) (.inr rfl) ?_ | refine callH_i hP (k4) (.inr rfl) ?_)
        simp +decide (maxSteps := 20000000) (disch := omega) only [↓SBK, ↓SBK2, SX, Nat.reduceEqDiff, Nat.reduceAdd, Nat.reduceMul, Nat.reduceSub, ↓reduceIte, Int.reduceNeg, Int.reduceToNat, Int.reducePow, hmd, hks, hQ]
        (first | refine call_i hP (hR) (.inl ⟨rfl, fun _ hx => nomatch hx⟩) ?_ | refine callH_i hP (hR) (.inl ⟨rfl, fun _ hx => nomatch hx⟩) ?_)
        simp +decide (maxSteps := 20000000) (disch := omega) only [↓SBK, ↓SBK2, SX, Nat.reduceEqDiff, Nat.reduceAdd, Nat.reduceMul, Nat.reduceSub, ↓reduceIte, Int.reduceNeg, Int.reduceToNat, Int.reducePow, hmd, hks, hQ]
        rfl
      | true =>
        rw [hr] at hR
        refine spec_C hmx p_I_GetRec [(135, [.l], []), (136, [.l], []), (137, [.l], [])] 253 [] ⟨Nat.le_of_ble_eq_true rfl, Nat.le_of_ble_eq_true rfl⟩ rfl rfl ?_
        intro w hP hmd hks hQ
        unfold c_I_GetRec
        simp +decide (maxSteps := 20000000) (disch := omega) only [↓SBK, ↓SBK2, SX, Nat.reduceEqDiff, Nat.reduceAdd, Nat.reduceMul, Nat.reduceSub, ↓reduceIte, Int.reduceNeg, Int.reduceToNat, Int.reducePow, hmd, hks, hQ]
        (first | refine call_i hP (ho) (.inr rfl) ?_ | refine callH_i hP (ho) (.inr rfl) ?_)
        simp +decide (maxSteps := 20000000) (disch := omega) only [↓SBK, ↓SBK2, SX, Nat.reduceEqDiff, Nat.reduceAdd, Nat.reduceMul, Nat.reduceSub, ↓reduceIte, Int.reduceNeg, Int.reduceToNat, Int.reducePow, hmd, hks, hQ]
        (first | refine call_i hP (k1) (.inr rfl) ?_ | refine callH_i hP (k1) (.inr rfl) ?_)
        simp +decide (maxSteps := 20000000) (disch := omega) only [↓SBK, ↓SBK2, SX, Nat.reduceEqDiff, Nat.reduceAdd, Nat.reduceMul, Nat.reduceSub, ↓reduceIte, Int.reduceNeg, Int.reduceToNat, Int.reducePow, hmd, hks, hQ]
        (first | refine call_i hP (k2) (.inr rfl) ?_ | refine callH_i hP (k2) (.inr rfl) ?_)
        simp +decide (maxSteps := 20000000) (disch := omega) only [↓SBK, ↓SBK2, SX, Nat.reduceEqDiff, Nat.reduceAdd, Nat.reduceMul, Nat.reduceSub, ↓reduceIte, Int.reduceNeg, Int.reduceToNat, Int.reducePow, hmd, hks, hQ]
        (first | refine call_i hP (k3) (.inr rfl) ?_ | refine callH_i hP (k3) (.inr rfl) ?_)
        simp +decide (maxSteps := 20000000) (disch := omega) only [↓SBK, ↓SBK2, SX, Nat.reduceEqDiff, Nat.reduceAdd, Nat.reduceMul, Nat.reduceSub, ↓reduceIte, Int.reduceNeg, Int.reduceToNat, Int.reducePow, hmd, hks, hQ]
        (first | refine call_i hP (k4) (.inr rfl) ?_ | refine callH_i hP (k4) (.inr rfl) ?_)
        simp +decide (maxSteps := 20000000) (disch := omega) only [↓SBK, ↓SBK2, SX, Nat.reduceEqDiff, Nat.reduceAdd, Nat.reduceMul, Nat.reduceSub, ↓reduceIte, Int.reduceNeg, Int.reduceToNat, Int.reducePow, hmd, hks, hQ]
        (first | refine call_i hP (hR) (.inl ⟨rfl, fun _ hx => nomatch hx⟩) ?_ | refine callH_i hP (hR) (.inl ⟨rfl, fun _ hx => nomatch hx⟩) ?_)
        simp +decide (maxSteps := 20000000) (disch := omega) only [↓SBK, ↓SBK2, SX, Nat.reduceEqDiff, Nat.reduceAdd, Nat.reduceMul, Nat.reduceSub, ↓reduceIte, Int.reduceNeg, Int.reduceToNat, Int.reducePow, hmd, hks, hQ]
        rfl
end Go.Proofs.Ytliklgcfdgdigaa.Awp

namespace Go.Proofs.Ytliklgcfdgdigaa.Awp
open Go.Proofs
set_option linter.unusedSimpArgs false
set_option linter.unusedVariables false
set_option maxRecDepth 100000
set_option maxHeartbeats 20000000

def beN (l : Bytes) : Nat := l.foldl (fun n x => n * 256 + x.toNat) 0
theorem beN_snoc (l : Bytes) (x : UInt8) : beN (l ++ [x]) = beN l * 256 + x.toNat := by simp [beN]
theorem beN_lt : ∀ (k : Nat) (l : Bytes), l.length = k → beN l < 256 ^ k := by
  intro k
  induction k with
  | zero => intro l h; have := List.eq_nil_of_length_eq_zero h; subst this; decide
  | succ k ih =>
    intro l h
    obtain ⟨m, x, rfl⟩ : ∃ m x, l = m ++ [x] := ⟨l.dropLast, l.getLast (by intro e; subst e; simp at h), (List.dropLast_concat_getLast _).symm⟩
    rw [beN_snoc]
    have h1 := ih m (by simpa using h)
    have h2 := x.toNat_lt
    rw [Nat.pow_succ]
    omega
theorem orStep {m k : Nat} (hm : m < 2 ^ 24) (hk : k < 256) : IntKind.i64.wrap ((BitVec.ofInt IntKind.i64.bits (IntKind.i64.wrap ((m : Int) * 256)) ||| BitVec.ofInt IntKind.i64.bits (IntKind.i64.wrap (k : Int))).toNat : Int) = ((m * 256 + k : Nat) : Int) := by
  have e1 : ((m : Int) * 256) = ((m * 256 : Nat) : Int) := by omega
  rw [e1, wrap64 (n := m * 256) (by omega), wrap64 (n := k) (by omega), or64 (by omega) (by omega)]
  have := Nat.shiftLeft_add_eq_or_of_lt (b := k) (i := 8) (by omega) m
  rw [Nat.shiftLeft_eq] at this
  rw [show m * 256 = m * 2 ^ 8 by omega, this]
theorem seg_snoc {b : Bytes} {n i : Nat} (h1 : n ≤ i) (h2 : i < b.length) : (b.take (i + 1)).drop n = (b.take i).drop n ++ [b[i]] := by
  rw [List.take_succ_eq_append_getElem h2, List.drop_append_of_le_length (by simp; omega)]
theorem seg_lt {b : Bytes} {n i : Nat} (h1 : i ≤ b.length) (h2 : i < n + 4) : beN ((b.take i).drop n) < 2 ^ 24 := by
  have h := beN_lt _ ((b.take i).drop n) rfl
  have h3 : ((b.take i).drop n).length ≤ 3 := by simp; omega
  exact Nat.lt_of_lt_of_le h (Nat.le_trans (Nat.pow_le_pow_right (by decide) h3) (by decide))
def sK (x : Bytes) : Int × Int × Bool := l3num x (0, false)
def sQ (x : Bytes) : Int × Int × Bool := l3num x (sK x).2
def sT (x : Bytes) : Bytes × Int × Bool := l3text x (sQ x).2
theorem rec_side (x : Bytes) : (recK x).1 = (sK x).1 ∧ (recQ x).1 = (sQ x).1 ∧ (recT x).1 = (sT x).1 ∧ Side (recT x).2 (sT x).2 := by
  have a1 := side_num x (s := (0, true)) (t := (0, false)) (.inl ⟨rfl, rfl⟩)
  have a2 := side_num x a1.2
  have a3 := side_text x a2.2
  exact ⟨a1.1, a2.1, a3.1, a3.2⟩
theorem be4 (a b c d : UInt8) : beN [a, b, c, d] = ((a.toNat * 256 + b.toNat) * 256 + c.toNat) * 256 + d.toNat := by simp [beN]
theorem tail_iff {y t : Bytes} (ht : t.length = 4) : sealB y = y ++ t ↔ beN t = crcN y := by
  match t, ht with
  | [a, b, c, d], _ =>
    have hc := crcN_lt y
    have ha := a.toNat_lt; have hb := b.toNat_lt; have hc' := c.toNat_lt; have hd := d.toNat_lt
    rw [be4, sealB]
    simp only [List.append_cancel_left_eq, List.cons.injEq, and_true, ← UInt8.toNat_inj, UInt8.toNat_ofNat']
    omega
theorem open_iff {b : Bytes} {n : Nat} (hn : b.length = n + 4) : isOpen b = decide (((beN (b.drop n) : Nat) : Int) = ((crcN (b.take n) : Nat) : Int)) := by
  have e := tail_iff (y := b.take n) (t := b.drop n) (by simp; omega)
  rw [List.take_append_drop] at e
  rw [isOpen, bodyOf_n hn, decide_eq_true (by omega), Bool.true_and]
  by_cases h : sealB (b.take n) = b
  · rw [decide_eq_true h, decide_eq_true (by have := e.1 h; omega)]
  · rw [decide_eq_false h, decide_eq_false (fun hh => h (e.2 (by omega)))]
theorem sS_GetRec (b : Bytes) (hl : b.length < 2 ^ 39) : Spec Try.prog 79 [.ext 1 (bytesR b)] (.tup [(getRec b).1.o, .bool (getRec b).2]) [.undef] := by
  by_cases h1 : 4 ≤ b.length
  · obtain ⟨n, hn⟩ : ∃ n, b.length = n + 4 := ⟨b.length - 4, by omega⟩
    have e1 : ((b.length : Nat) : Int) - 4 = (n : Nat) := by omega
    have e2 := bodyOf_n hn
    have d1 : decide (((n : Nat) : Int) < 0) = false := decide_eq_false (by omega)
    have ho := open_iff hn
    have hx : (b.take n).length < 2 ^ 40 := by simp; omega
    have hxl : (b.take n).length = n := by simp; omega
    have eg : getRec b = if isOpen b = true ∧ fitI (b.take n) = true then (recI (b.take n), true) else (zRec, false) := by rw [getRec, e2]
    have hb : (sK (b.take n)).2.1 < 2 ^ 62 := l3num_lt hx (by decide)
    have hb2 : (sQ (b.take n)).2.1 < 2 ^ 62 := l3num_lt hx hb
    obtain ⟨q1, q2, q3, q4⟩ := rec_side (b.take n)
    have k1 := sS_l3NumE (b.take n) 0 false hx (by decide)
    have k2 := sS_l3NumE (b.take n) (sK (b.take n)).2.1 (sK (b.take n)).2.2 hx hb
    have k3 := sS_l3TextE (b.take n) (sQ (b.take n)).2.1 (sQ (b.take n)).2.2 hx hb2
    have kc := sS_Crc (b.take n) hx
    rw [show l3num (b.take n) (0, false) = sK (b.take n) from rfl, ← q1] at k1
    rw [show l3num (b.take n) ((sK (b.take n)).2.1, (sK (b.take n)).2.2) = sQ (b.take n) from rfl, ← q2] at k2
    rw [show l3text (b.take n) ((sQ (b.take n)).2.1, (sQ (b.take n)).2.2) = sT (b.take n) from rfl, ← q3] at k3
    have hbl : (recT (b.take n)).1.length < 2 ^ 48 := by have := rdText_len (b.take n) (recQ (b.take n)).2; unfold recT; omega
    have hR := sS_RecOk (recI (b.take n)) hbl
    have ef : fitI (b.take n) = (((recT (b.take n)).2.2 && decide ((recT (b.take n)).2.1 = ((b.take n).length : Nat))) && recOk (recI (b.take n))) := rfl
    rw [hxl] at ef
    refine spec_C hmx p_S_GetRec [(133, [.l], []), (134, [.l], [])] 509 [] ⟨Nat.le_of_ble_eq_true rfl, Nat.le_of_ble_eq_true rfl⟩ rfl rfl ?_
    intro w hP hmd hks hQ
    unfold c_S_GetRec
    simp +decide (maxSteps := 20000000) (disch := omega) only [↓SBK, ↓SBK2, SX, Nat.reduceEqDiff, Nat.reduceAdd, Nat.reduceMul, Nat.reduceSub, ↓reduceIte, Int.reduceNeg, Int.reduceToNat, Int.reducePow, hmd, hks, hQ]
    simp +decide (maxSteps := 20000000) (disch := omega) only [↓SBK, ↓SBK2, SX, Nat.reduceEqDiff, Nat.reduceAdd, Nat.reduceMul, Nat.reduceSub, ↓reduceIte, Int.reduceNeg, Int.reduceToNat, Int.reducePow, hmd, hks, hQ, e1, d1]
    refine LH_D [] ?_
    simp +decide (maxSteps := 20000000) (disch := omega) only [↓SBK, ↓SBK2, SX, Nat.reduceEqDiff, Nat.reduceAdd, Nat.reduceMul, Nat.reduceSub, ↓reduceIte, Int.reduceNeg, Int.reduceToNat, Int.reducePow, hmd, hks, hQ]
    refine loop_d [] (fun i : Nat => [(6, .int .i64 i), (5, .int .i64 (beN ((b.take i).drop n) : Nat))]) (fun i => n ≤ i ∧ i ≤ b.length) (fun i => b.length - i) (n) hP hmd hks (by simp +decide (maxSteps := 20000000) (disch := omega) only [↓SBK, ↓SBK2, SX, Nat.reduceEqDiff, Nat.reduceAdd, Nat.reduceMul, Nat.reduceSub, ↓reduceIte, Int.reduceNeg, Int.reduceToNat, Int.reducePow, hmd, hks, hQ, List.drop_take_self]; rfl) (by omega) ?_
    rintro i ⟨g1, g2⟩ w1 hP1 hmd1 hks1 hQ1
    simp +decide (maxSteps := 20000000) (disch := omega) only [↓SBK, ↓SBK2, SX, Nat.reduceEqDiff, Nat.reduceAdd, Nat.reduceMul, Nat.reduceSub, ↓reduceIte, Int.reduceNeg, Int.reduceToNat, Int.reducePow, hmd, hks, hQ, hmd1, hks1, hQ1]
    (first | with_reducible refine if_d _ ?_ ?_ | refine if_i _ ?_ ?_) <;> intro h2
    · simp +decide (maxSteps := 20000000) (disch := omega) only [↓SBK, ↓SBK2, SX, Nat.reduceEqDiff, Nat.reduceAdd, Nat.reduceMul, Nat.reduceSub, ↓reduceIte, Int.reduceNeg, Int.reduceToNat, Int.reducePow, hmd, hks, hQ, hmd1, hks1, hQ1, getE h2]
      rw [orStep (seg_lt (by omega) (by omega)) (by have := (b[i]'(by omega)).toNat_lt; omega), ← beN_snoc, ← seg_snoc (by omega) (by omega)]
      exact ⟨i + 1, rfl, by omega, by omega⟩
    · obtain rfl : i = b.length := by omega
      rw [List.take_length]
      simp +decide (maxSteps := 20000000) (disch := omega) only [↓SBK, ↓SBK2, SX, Nat.reduceEqDiff, Nat.reduceAdd, Nat.reduceMul, Nat.reduceSub, ↓reduceIte, Int.reduceNeg, Int.reduceToNat, Int.reducePow, hmd, hks, hQ, hmd1, hks1, hQ1, Int.sub_zero, bytesR_take]
      (first | refine call_i hP (k1) (.inr rfl) ?_ | refine callH_i hP (k1) (.inr rfl) ?_)
      simp +decide (maxSteps := 20000000) (disch := omega) only [↓SBK, ↓SBK2, SX, Nat.reduceEqDiff, Nat.reduceAdd, Nat.reduceMul, Nat.reduceSub, ↓reduceIte, Int.reduceNeg, Int.reduceToNat, Int.reducePow, hmd, hks, hQ]
      (first | refine call_i hP (k2) (.inr rfl) ?_ | refine callH_i hP (k2) (.inr rfl) ?_)
      simp +decide (maxSteps := 20000000) (disch := omega) only [↓SBK, ↓SBK2, SX, Nat.reduceEqDiff, Nat.reduceAdd, Nat.reduceMul, Nat.reduceSub, ↓reduceIte, Int.reduceNeg, Int.reduceToNat, Int.reducePow, hmd, hks, hQ]
      (first | refine call_i hP (k3) (.inr rfl) ?_ | refine callH_i hP (k3) (.inr rfl) ?_)
      simp +decide (maxSteps := 20000000) (disch := omega) only [↓SBK, ↓SBK2, SX, Nat.reduceEqDiff, Nat.reduceAdd, Nat.reduceMul, Nat.reduceSub, ↓reduceIte, Int.reduceNeg, Int.reduceToNat, Int.reducePow, hmd, hks, hQ]
      rcases q4 with ⟨r1, r2⟩ | ⟨r1, r2⟩
      · rw [r2]
        by_cases c1 : (recT (b.take n)).2.1 = (n : Nat)
        · have dc1 : decide ((recT (b.take n)).2.1 = (n : Nat)) = true := decide_eq_true c1
          cases c2 : decide (((beN (b.drop n) : Nat) : Int) = ((crcN (b.take n) : Nat) : Int)) with
          | false =>
            simp +decide (maxSteps := 20000000) (disch := omega) only [↓SBK, ↓SBK2, SX, Nat.reduceEqDiff, Nat.reduceAdd, Nat.reduceMul, Nat.reduceSub, ↓reduceIte, Int.reduceNeg, Int.reduceToNat, Int.reducePow, hmd, hks, hQ, dc1, Int.sub_zero, bytesR_take]
            (first | refine call_i hP (kc) (.inl ⟨rfl, fun _ hx => nomatch hx⟩) ?_ | refine callH_i hP (kc) (.inl ⟨rfl, fun _ hx => nomatch hx⟩) ?_)
            simp +decide (maxSteps := 20000000) (disch := omega) only [↓SBK, ↓SBK2, SX, Nat.reduceEqDiff, Nat.reduceAdd, Nat.reduceMul, Nat.reduceSub, ↓reduceIte, Int.reduceNeg, Int.reduceToNat, Int.reducePow, hmd, hks, hQ, c2]
            rw [eg, ho, c2]; rfl
          | true =>
            cases c3 : recOk (recI (b.take n)) with
            | false =>
              rw [c3] at hR
              simp +decide (maxSteps := 20000000) (disch := omega) only [↓SBK, ↓SBK2, SX, Nat.reduceEqDiff, Nat.reduceAdd, Nat.reduceMul, Nat.reduceSub, ↓reduceIte, Int.reduceNeg, Int.reduceToNat, Int.reducePow, hmd, hks, hQ, dc1, Int.sub_zero, bytesR_take]
              (first | refine call_i hP (kc) (.inl ⟨rfl, fun _ hx => nomatch hx⟩) ?_ | refine callH_i hP (kc) (.inl ⟨rfl, fun _ hx => nomatch hx⟩) ?_)
              simp +decide (maxSteps := 20000000) (disch := omega) only [↓SBK, ↓SBK2, SX, Nat.reduceEqDiff, Nat.reduceAdd, Nat.reduceMul, Nat.reduceSub, ↓reduceIte, Int.reduceNeg, Int.reduceToNat, Int.reducePow, hmd, hks, hQ, c2]
              (first | refine call_i hP (hR) (.inl ⟨rfl, fun _ hx => nomatch hx⟩) ?_ | refine callH_i hP (hR) (.inl ⟨rfl, fun _ hx => nomatch hx⟩) ?_)
              simp +decide (maxSteps := 20000000) (disch := omega) only [↓SBK, ↓SBK2, SX, Nat.reduceEqDiff, Nat.reduceAdd, Nat.reduceMul, Nat.reduceSub, ↓reduceIte, Int.reduceNeg, Int.reduceToNat, Int.reducePow, hmd, hks, hQ]
              rw [eg, if_neg (by rw [ef, c3]; simp)]; rfl
            | true =>
              rw [c3] at hR
              simp +decide (maxSteps := 20000000) (disch := omega) only [↓SBK, ↓SBK2, SX, Nat.reduceEqDiff, Nat.reduceAdd, Nat.reduceMul, Nat.reduceSub, ↓reduceIte, Int.reduceNeg, Int.reduceToNat, Int.reducePow, hmd, hks, hQ, dc1, Int.sub_zero, bytesR_take]
              (first | refine call_i hP (kc) (.inl ⟨rfl, fun _ hx => nomatch hx⟩) ?_ | refine callH_i hP (kc) (.inl ⟨rfl, fun _ hx => nomatch hx⟩) ?_)
              simp +decide (maxSteps := 20000000) (disch := omega) only [↓SBK, ↓SBK2, SX, Nat.reduceEqDiff, Nat.reduceAdd, Nat.reduceMul, Nat.reduceSub, ↓reduceIte, Int.reduceNeg, Int.reduceToNat, Int.reducePow, hmd, hks, hQ, c2]
              (first | refine call_i hP (hR) (.inl ⟨rfl, fun _ hx => nomatch hx⟩) ?_ | refine callH_i hP (hR) (.inl ⟨rfl, fun _ hx => nomatch hx⟩) ?_)
              simp +decide (maxSteps := 20000000) (disch := omega) only [↓SBK, ↓SBK2, SX, Nat.reduceEqDiff, Nat.reduceAdd, Nat.reduceMul, Nat.reduceSub, ↓reduceIte, Int.reduceNeg, Int.reduceToNat, Int.reducePow, hmd, hks, hQ]
              rw [eg, ho, c2, ef, c3, r1, dc1]; rfl
        · have dc1 : decide ((recT (b.take n)).2.1 = (n : Nat)) = false := decide_eq_false c1
          simp +decide (maxSteps := 20000000) (disch := omega) only [↓SBK, ↓SBK2, SX, Nat.reduceEqDiff, Nat.reduceAdd, Nat.reduceMul, Nat.reduceSub, ↓reduceIte, Int.reduceNeg, Int.reduceToNat, Int.reducePow, hmd, hks, hQ, dc1]
          rw [eg, if_neg (by rw [ef, dc1]; simp)]; rfl
      · simp +decide (maxSteps := 20000000) (disch := omega) only [↓SBK, ↓SBK2, SX, Nat.reduceEqDiff, Nat.reduceAdd, Nat.reduceMul, Nat.reduceSub, ↓reduceIte, Int.reduceNeg, Int.reduceToNat, Int.reducePow, hmd, hks, hQ, r2]
        rw [eg, if_neg (by rw [ef, r1]; simp)]; rfl
  · have d1 : decide (((b.length : Nat) : Int) - 4 < 0) = true := decide_eq_true (by omega)
    have ho : isOpen b = false := by rw [isOpen, decide_eq_false h1]; rfl
    rw [getRec, if_neg (by rw [ho]; simp)]
    refine spec_C hmx p_S_GetRec [] 509 [] ⟨Nat.le_of_ble_eq_true rfl, Nat.le_of_ble_eq_true rfl⟩ rfl rfl ?_
    intro w hP hmd hks hQ
    unfold c_S_GetRec
    simp +decide (maxSteps := 20000000) (disch := omega) only [↓SBK, ↓SBK2, SX, Nat.reduceEqDiff, Nat.reduceAdd, Nat.reduceMul, Nat.reduceSub, ↓reduceIte, Int.reduceNeg, Int.reduceToNat, Int.reducePow, hmd, hks, hQ]
    simp +decide (maxSteps := 20000000) (disch := omega) only [↓SBK, ↓SBK2, SX, Nat.reduceEqDiff, Nat.reduceAdd, Nat.reduceMul, Nat.reduceSub, ↓reduceIte, Int.reduceNeg, Int.reduceToNat, Int.reducePow, hmd, hks, hQ, d1]
    rfl
end Go.Proofs.Ytliklgcfdgdigaa.Awp

namespace Go.Proofs.Ytliklgcfdgdigaa.Awp
open Go.Proofs
set_option linter.unusedSimpArgs false
set_option linter.unusedVariables false
set_option maxRecDepth 100000
set_option maxHeartbeats 20000000

/-! ### numbers as bytes: what is written is read, what is read is written -/
theorem numB2 {n : Nat} (h1 : ¬ n < 128) (h2 : n / 128 < 128) : numB n = [UInt8.ofNat (n % 128 + 128), UInt8.ofNat (n / 128)] := by rw [numB_ge h1, numB_lt h2]
theorem numB3 {n : Nat} (h1 : ¬ n < 128) (h2 : ¬ n / 128 < 128) (h3 : n / 128 / 128 < 128) : numB n = [UInt8.ofNat (n % 128 + 128), UInt8.ofNat (n / 128 % 128 + 128), UInt8.ofNat (n / 128 / 128)] := by rw [numB_ge h1, numB_ge h2, numB_lt h3]
theorem ofNat_toNat {n : Nat} (h : n < 256) : (UInt8.ofNat n).toNat = n := by simp; omega
theorem u8_eq {x : UInt8} {n : Nat} (h : x.toNat = n) : x = UInt8.ofNat n := by rw [← h]; simp
theorem getN_inv {b : Bytes} {a : Int} {m k : Nat} (h : getN b a = some (m, k)) : ∃ a' : Nat, a = a' ∧ m ≤ 1000000 ∧ b.drop a' = numB m ++ b.drop k ∧ k = a' + (numB m).length ∧ k ≤ b.length := by
  have hle := getN_le h
  unfold getN at h
  split at h
  case isFalse => cases h
  rename_i h0
  refine ⟨a.toNat, by omega, hle.2, ?_⟩
  generalize a.toNat = a' at h
  by_cases l0 : a' + 0 < b.length
  case neg => rw [gn_none (by omega)] at h; cases h
  have s0 : b.drop a' = b[a' + 0] :: b.drop (a' + 1) := List.drop_eq_getElem_cons l0
  have lt0 := (b[a' + 0]).toNat_lt
  by_cases g0 : 128 ≤ (b[a' + 0]).toNat
  · rw [gn_more l0 g0] at h
    by_cases l1 : a' + 1 < b.length
    case neg => rw [gn_none (by omega)] at h; cases h
    have s1 : b.drop (a' + 1) = b[a' + 1] :: b.drop (a' + 1 + 1) := List.drop_eq_getElem_cons l1
    have lt1 := (b[a' + 1]).toNat_lt
    by_cases g1 : 128 ≤ (b[a' + 1]).toNat
    · rw [gn_more l1 g1] at h
      by_cases l2 : a' + 2 < b.length
      case neg => rw [gn_none (by omega)] at h; cases h
      have s2 : b.drop (a' + 1 + 1) = b[a' + 2] :: b.drop (a' + 2 + 1) := List.drop_eq_getElem_cons l2
      have lt2 := (b[a' + 2]).toNat_lt
      by_cases g2 : 128 ≤ (b[a' + 2]).toNat
      · rw [gn_more l2 g2, gnGo] at h; cases h
      · by_cases c2 : 1000000 < 0 + (b[a' + 0]).toNat % 128 * 128 ^ 0 + (b[a' + 1]).toNat % 128 * 128 ^ 1 + (b[a' + 2]).toNat % 128 * 128 ^ 2 ∨ ((b[a' + 2]).toNat = 0 ∧ 0 < 2)
        · rw [gn_bad l2 g2 c2] at h; cases h
        · rw [gn_done l2 g2 c2] at h
          simp only [Option.some.injEq, Prod.mk.injEq] at h
          obtain ⟨hm, rfl⟩ := h
          generalize (b[a' + 0]) = x0 at *
          generalize (b[a' + 1]) = x1 at *
          generalize (b[a' + 2]) = x2 at *
          have m1 : ¬ m < 128 := by omega
          have m2 : ¬ m / 128 < 128 := by omega
          have m3 : m / 128 / 128 < 128 := by omega
          rw [numB3 m1 m2 m3, s0, s1, s2]
          rw [← u8_eq (x := x0) (n := m % 128 + 128) (by omega), ← u8_eq (x := x1) (n := m / 128 % 128 + 128) (by omega), ← u8_eq (x := x2) (n := m / 128 / 128) (by omega)]
          exact ⟨rfl, rfl, hle.1⟩
    · by_cases c1 : 1000000 < 0 + (b[a' + 0]).toNat % 128 * 128 ^ 0 + (b[a' + 1]).toNat % 128 * 128 ^ 1 ∨ ((b[a' + 1]).toNat = 0 ∧ 0 < 1)
      · rw [gn_bad l1 g1 c1] at h; cases h
      · rw [gn_done l1 g1 c1] at h
        simp only [Option.some.injEq, Prod.mk.injEq] at h
        obtain ⟨hm, rfl⟩ := h
        generalize (b[a' + 0]) = x0 at *
        generalize (b[a' + 1]) = x1 at *
        have m1 : ¬ m < 128 := by omega
        have m2 : m / 128 < 128 := by omega
        rw [numB2 m1 m2, s0, s1]
        rw [← u8_eq (x := x0) (n := m % 128 + 128) (by omega), ← u8_eq (x := x1) (n := m / 128) (by omega)]
        exact ⟨rfl, rfl, hle.1⟩
  · by_cases c0 : 1000000 < 0 + (b[a' + 0]).toNat % 128 * 128 ^ 0 ∨ ((b[a' + 0]).toNat = 0 ∧ 0 < 0)
    · rw [gn_bad l0 g0 c0] at h; cases h
    · rw [gn_done l0 g0 c0] at h
      simp only [Option.some.injEq, Prod.mk.injEq] at h
      obtain ⟨hm, rfl⟩ := h
      generalize (b[a' + 0]) = x0 at *
      have m1 : m < 128 := by omega
      rw [numB_lt m1, s0]
      rw [← u8_eq (x := x0) (n := m) (by omega)]
      exact ⟨rfl, rfl, hle.1⟩
theorem getT_inv {b s : Bytes} {a : Int} {k : Nat} (h : getT b a = some (s, k)) : ∃ a' : Nat, a = a' ∧ s.length ≤ 1000000 ∧ b.drop a' = numB s.length ++ (s ++ b.drop k) ∧ k = a' + (numB s.length).length + s.length ∧ k ≤ b.length := by
  unfold getT at h
  obtain ⟨⟨m, k1⟩, h1, h⟩ := Option.bind_eq_some_iff.1 h
  simp only at h
  split at h
  case isFalse => cases h
  rename_i hle
  simp only [Option.some.injEq, Prod.mk.injEq] at h
  obtain ⟨rfl, rfl⟩ := h
  obtain ⟨a', rfl, hm, hd, rfl, hk⟩ := getN_inv h1
  have hsl : ((b.drop (a' + (numB m).length)).take m).length = m := by
    rw [List.length_take, List.length_drop]; omega
  refine ⟨a', rfl, by omega, ?_, by rw [hsl], by omega⟩
  rw [hsl, hd]
  congr 1
  have := List.take_append_drop m (b.drop (a' + (numB m).length))
  rw [List.drop_drop] at this
  exact this.symm
end Go.Proofs.Ytliklgcfdgdigaa.Awp

namespace Go.Proofs.Ytliklgcfdgdigaa.Awp
open Go.Proofs
set_option linter.unusedSimpArgs false
set_option linter.unusedVariables false
set_option maxRecDepth 100000
set_option maxHeartbeats 20000000

theorem rdNum_t {b : Bytes} {s : Int × Bool} (h : (rdNum b s).2.2 = true) : s.2 = true ∧ ∃ n k : Nat, getN b s.1 = some (n, k) ∧ rdNum b s = ((n : Int), (k : Int), true) := by
  unfold rdNum at h ⊢
  split at h
  · rename_i hs
    rw [if_pos hs]
    refine ⟨hs, ?_⟩
    unfold getNum at h ⊢
    cases hN : getN b s.1 with
    | none => rw [hN] at h; cases h
    | some q => obtain ⟨n, k⟩ := q; exact ⟨n, k, rfl, rfl⟩
  · rename_i hs; exact absurd h hs
theorem rdText_t {b : Bytes} {s : Int × Bool} (h : (rdText b s).2.2 = true) : s.2 = true ∧ ∃ (x : Bytes) (k : Nat), getT b s.1 = some (x, k) ∧ rdText b s = (x, (k : Int), true) := by
  unfold rdText at h ⊢
  split at h
  · rename_i hs
    rw [if_pos hs]
    refine ⟨hs, ?_⟩
    unfold getText at h ⊢
    cases hN : getT b s.1 with
    | none => rw [hN] at h; cases h
    | some q => obtain ⟨n, k⟩ := q; exact ⟨n, k, rfl, rfl⟩
  · rename_i hs; exact absurd h hs
theorem clamp_id {n : Int} (h0 : 0 ≤ n) (h : n ≤ 1000000) : clampN n = n.toNat := by unfold clampN; omega
theorem recOk_info {r : Rec} (h : recOk r = true) : (1 ≤ r.kind ∧ r.kind ≤ 4) ∧ (0 ≤ r.seq ∧ r.seq ≤ 1000000) ∧ r.body.length ≤ 380 := by
  unfold recOk at h
  obtain ⟨h, h3⟩ := Bool.and_eq_true_iff.1 h
  obtain ⟨h1, h2⟩ := Bool.and_eq_true_iff.1 h
  exact ⟨by simpa [inR] using h1, by simpa [inR] using h2, of_decide_eq_true h3⟩
theorem recB_eq {r : Rec} (h : recOk r = true) : recB r = numB r.kind.toNat ++ (numB r.seq.toNat ++ (numB r.body.length ++ (r.body ++ []))) := by
  obtain ⟨h1, h2, h3⟩ := recOk_info h
  unfold recB putText putNum
  rw [clamp_id (by omega) (by omega), clamp_id (by omega) (by omega), clamp_id (n := (r.body.length : Nat)) (by omega) (by omega)]
  simp [List.append_assoc]
theorem recB_len' {r : Rec} (h : recOk r = true) : (recB r).length ≤ 389 := by
  obtain ⟨h1, h2, h3⟩ := recOk_info h
  have a := numB_len r.kind.toNat (by omega)
  have b := numB_len r.seq.toNat (by omega)
  have c := numB_len r.body.length (by omega)
  rw [recB_eq h]
  simp only [List.length_append, List.length_nil]
  omega
/-- what is read is what was written -/
theorem rec_canon {y : Bytes} (h : fitI y = true) : recOk (recI y) = true ∧ recB (recI y) = y := by
  unfold fitI at h
  obtain ⟨h, hok⟩ := Bool.and_eq_true_iff.1 h
  obtain ⟨h1, h2⟩ := Bool.and_eq_true_iff.1 h
  have h2 := of_decide_eq_true h2
  refine ⟨hok, ?_⟩
  obtain ⟨t1, s, k3, g3, e3⟩ := rdText_t (b := y) (s := (recQ y).2) h1
  obtain ⟨t2, q, k2, g2, e2⟩ := rdNum_t (b := y) (s := (recK y).2) t1
  obtain ⟨t3, m, k1, g1, e1⟩ := rdNum_t (b := y) (s := (0, true)) t2
  have f1 : recK y = ((m : Int), (k1 : Int), true) := e1
  have f2 : recQ y = ((q : Int), (k2 : Int), true) := e2
  have f3 : recT y = (s, (k3 : Int), true) := e3
  rw [f1] at g2
  rw [f2] at g3
  obtain ⟨a1, z1, l1, d1, w1, _⟩ := getN_inv g1
  obtain ⟨a2, z2, l2, d2, w2, _⟩ := getN_inv g2
  obtain ⟨a3, z3, l3, d3, w3, w4⟩ := getT_inv g3
  simp only at z1 z2 z3
  obtain rfl : a1 = 0 := by omega
  obtain rfl : a2 = k1 := by omega
  obtain rfl : a3 = k2 := by omega
  rw [f3] at h2
  simp only at h2
  have hk3 : y.drop k3 = [] := List.drop_eq_nil_of_le (by omega)
  rw [recB_eq hok]
  have eI : recI y = { kind := m, seq := q, body := s } := by unfold recI; rw [f1, f2, f3]
  rw [eI]
  simp only [Int.toNat_natCast]
  rw [hk3] at d3
  rw [← d3, ← d2, ← d1, List.drop_zero]
/-! ### the sum of bytes tells one bit -/
theorem xor_inj {a x y : Nat} (h : a ^^^ x = a ^^^ y) : x = y := by
  have e := congrArg (a ^^^ ·) h
  simpa [← Nat.xor_assoc, Nat.xor_self] using e
end Go.Proofs.Ytliklgcfdgdigaa.Awp

namespace Go.Proofs.Ytliklgcfdgdigaa.Awp
open Go.Proofs
set_option linter.unusedSimpArgs false
set_option linter.unusedVariables false
set_option maxRecDepth 100000
set_option maxHeartbeats 20000000

/-! ### draws -/
/-- a cursor over the code -/
def cur (v : Value) (b : Bytes) (i : Nat) (h : Int) : AV := .box [.extv v 1 (bytesR b), .int .i64 i, .int .i64 h]
theorem and255 (a : Int) : ∃ m : Nat, m < 256 ∧ IntKind.i64.wrap ((BitVec.ofInt IntKind.i64.bits a &&& BitVec.ofInt IntKind.i64.bits 255).toNat : Int) = (m : Int) := by
  refine ⟨(BitVec.ofInt IntKind.i64.bits a &&& BitVec.ofInt IntKind.i64.bits 255).toNat, ?_, ?_⟩
  · rw [BitVec.toNat_and]
    have : (BitVec.ofInt IntKind.i64.bits 255).toNat = 255 := by decide
    rw [this]
    exact Nat.lt_of_le_of_lt Nat.and_le_right (by decide)
  · rw [wrap64]
    rw [BitVec.toNat_and]
    have : (BitVec.ofInt IntKind.i64.bits 255).toNat = 255 := by decide
    rw [this]
    exact Nat.lt_of_le_of_lt Nat.and_le_right (by decide)
theorem s_l1New (v : Value) (b : Bytes) (hl : b.length < 2 ^ 48) : ∃ h, Spec Try.prog 141 [.extv v 1 (bytesR b)] (cur v b 0 h) [.undef] := by
  have key : ∃ ret outs, (∃ h, ret = cur v b 0 h ∧ outs = [.undef]) ∧ Spec Try.prog 141 [.extv v 1 (bytesR b)] ret outs := by
    refine specEx_C hmx p_S_l1New [] 29 [] ⟨Nat.le_of_ble_eq_true rfl, Nat.le_of_ble_eq_true rfl⟩ rfl ?_
    intro w hP hmd hks hQ
    unfold c_S_l1New
    simp +decide (maxSteps := 20000000) (disch := omega) only [↓SBK, ↓SBK2, SX, Nat.reduceEqDiff, Nat.reduceAdd, Nat.reduceMul, Nat.reduceSub, ↓reduceIte, Int.reduceNeg, Int.reduceToNat, Int.reducePow, hmd, hks, hQ]
    refine LH_D [] ?_
    simp +decide (maxSteps := 20000000) (disch := omega) only [↓SBK, ↓SBK2, SX, Nat.reduceEqDiff, Nat.reduceAdd, Nat.reduceMul, Nat.reduceSub, ↓reduceIte, Int.reduceNeg, Int.reduceToNat, Int.reducePow, hmd, hks, hQ]
    refine loop_d [] (fun s : Nat × Int => [(4, .int .i64 (s.1 : Nat)), (3, .int .i64 s.2)]) (fun s => s.1 ≤ b.length) (fun s => b.length - s.1) ((0, 351351 + b.length)) hP hmd hks (rfl) (by simp) ?_
    rintro ⟨i, h⟩ hi w1 hP1 hmd1 hks1 hQ1
    simp +decide (maxSteps := 20000000) (disch := omega) only [↓SBK, ↓SBK2, SX, Nat.reduceEqDiff, Nat.reduceAdd, Nat.reduceMul, Nat.reduceSub, ↓reduceIte, Int.reduceNeg, Int.reduceToNat, Int.reducePow, hmd, hks, hQ, hmd1, hks1, hQ1]
    simp only at hi
    (first | with_reducible refine gd_d _ ?_ ?_ | refine gd_i _ ?_ ?_) <;> intro h1
    · simp +decide (maxSteps := 20000000) (disch := omega) only [↓SBK, ↓SBK2, SX, Nat.reduceEqDiff, Nat.reduceAdd, Nat.reduceMul, Nat.reduceSub, ↓reduceIte, Int.reduceNeg, Int.reduceToNat, Int.reducePow, hmd, hks, hQ, hmd1, hks1, hQ1, h1]
      (first | with_reducible refine if_d _ ?_ ?_ | refine if_i _ ?_ ?_) <;> intro h2
      · simp +decide (maxSteps := 20000000) (disch := omega) only [↓SBK, ↓SBK2, SX, Nat.reduceEqDiff, Nat.reduceAdd, Nat.reduceMul, Nat.reduceSub, ↓reduceIte, Int.reduceNeg, Int.reduceToNat, Int.reducePow, hmd, hks, hQ, hmd1, hks1, hQ1, getE h1]
        exact ⟨(i + 1, _), rfl, by simp only; omega, by simp only; omega⟩
      · simp +decide (maxSteps := 20000000) (disch := omega) only [↓SBK, ↓SBK2, SX, Nat.reduceEqDiff, Nat.reduceAdd, Nat.reduceMul, Nat.reduceSub, ↓reduceIte, Int.reduceNeg, Int.reduceToNat, Int.reducePow, hmd, hks, hQ, hmd1, hks1, hQ1]
        exact ⟨_, rfl⟩
    · simp +decide (maxSteps := 20000000) (disch := omega) only [↓SBK, ↓SBK2, SX, Nat.reduceEqDiff, Nat.reduceAdd, Nat.reduceMul, Nat.reduceSub, ↓reduceIte, Int.reduceNeg, Int.reduceToNat, Int.reducePow, hmd, hks, hQ, hmd1, hks1, hQ1, h1]
      exact ⟨_, rfl⟩
  obtain ⟨_, _, ⟨h, rfl, rfl⟩, hS⟩ := key
  exact ⟨h, hS⟩
theorem s_l1Byte (v : Value) (b : Bytes) (i : Nat) (h : Int) (hl : b.length < 2 ^ 48) (hi : i ≤ b.length) : ∃ (x i' : Nat) (h' : Int), x < 256 ∧ i' ≤ b.length ∧ Spec Try.prog 179 [cur v b i h] (.int .i64 x) [cur v b i' h'] := by
  have key : ∃ ret outs, (∃ (x i' : Nat) (h' : Int), x < 256 ∧ i' ≤ b.length ∧ ret = .int .i64 x ∧ outs = [cur v b i' h']) ∧ Spec Try.prog 179 [cur v b i h] ret outs := by
    by_cases h1 : (i : Int) < (b.length : Nat)
    · have d1 : decide ((i : Int) < (b.length : Nat)) = true := decide_eq_true h1
      unfold cur
      refine specEx_C hmx p_S_l1Byte [] 13 [true] ⟨Nat.le_of_ble_eq_true rfl, Nat.le_of_ble_eq_true rfl⟩ rfl ?_
      intro w hP hmd hks hQ
      unfold c_S_l1Byte
      simp +decide (maxSteps := 20000000) (disch := omega) only [↓SBK, ↓SBK2, SX, Nat.reduceEqDiff, Nat.reduceAdd, Nat.reduceMul, Nat.reduceSub, ↓reduceIte, Int.reduceNeg, Int.reduceToNat, Int.reducePow, hmd, hks, hQ]
      simp +decide (maxSteps := 20000000) (disch := omega) only [↓SBK, ↓SBK2, SX, Nat.reduceEqDiff, Nat.reduceAdd, Nat.reduceMul, Nat.reduceSub, ↓reduceIte, Int.reduceNeg, Int.reduceToNat, Int.reducePow, hmd, hks, hQ, d1, getE h1]
      exact ⟨_, i + 1, _, (and255 _).choose_spec.1, by omega, congrArg (AV.int .i64) (and255 _).choose_spec.2, rfl⟩
    · have d1 : decide ((i : Int) < (b.length : Nat)) = false := decide_eq_false h1
      unfold cur
      refine specEx_C hmx p_S_l1Byte [] 13 [true] ⟨Nat.le_of_ble_eq_true rfl, Nat.le_of_ble_eq_true rfl⟩ rfl ?_
      intro w hP hmd hks hQ
      unfold c_S_l1Byte
      simp +decide (maxSteps := 20000000) (disch := omega) only [↓SBK, ↓SBK2, SX, Nat.reduceEqDiff, Nat.reduceAdd, Nat.reduceMul, Nat.reduceSub, ↓reduceIte, Int.reduceNeg, Int.reduceToNat, Int.reducePow, hmd, hks, hQ]
      simp +decide (maxSteps := 20000000) (disch := omega) only [↓SBK, ↓SBK2, SX, Nat.reduceEqDiff, Nat.reduceAdd, Nat.reduceMul, Nat.reduceSub, ↓reduceIte, Int.reduceNeg, Int.reduceToNat, Int.reducePow, hmd, hks, hQ, d1]
      exact ⟨_, i, _, (and255 _).choose_spec.1, hi, congrArg (AV.int .i64) (and255 _).choose_spec.2, rfl⟩
  obtain ⟨_, _, ⟨x, i', h', hx, hi', rfl, rfl⟩, hS⟩ := key
  exact ⟨x, i', h', hx, hi', hS⟩
theorem tmod_n (a b : Nat) : ((a : Int)).tmod (b : Int) = ((a % b : Nat) : Int) := rfl
/-- 0..n-1; 0 where n is not above 0 -/
def below (x : Nat) (n : Int) : Prop := if 0 < n then (x : Int) < n else x = 0
theorem s_l1Below (v : Value) (b : Bytes) (i : Nat) (h : Int) (n : Int) (hl : b.length < 2 ^ 48) (hi : i ≤ b.length) (hn : n < 2 ^ 62) : ∃ (x i' : Nat) (h' : Int), below x n ∧ i' ≤ b.length ∧
    Spec Try.prog 148 [cur v b i h, .int .i64 n] (.int .i64 x) [cur v b i' h', .undef] := by
  by_cases h0 : n ≤ 0
  · have d0 : decide (n ≤ 0) = true := decide_eq_true h0
    refine ⟨0, i, h, by rw [below, if_neg (by omega)], hi, ?_⟩
    unfold cur
    refine spec_C hmx p_S_l1Below [(179, [.l], [])] 243 [true, false] ⟨Nat.le_of_ble_eq_true rfl, Nat.le_of_ble_eq_true rfl⟩ rfl rfl ?_
    intro w hP hmd hks hQ
    unfold c_S_l1Below
    simp +decide (maxSteps := 20000000) (disch := omega) only [↓SBK, ↓SBK2, SX, Nat.reduceEqDiff, Nat.reduceAdd, Nat.reduceMul, Nat.reduceSub, ↓reduceIte, Int.reduceNeg, Int.reduceToNat, Int.reducePow, hmd, hks, hQ]
    simp +decide (maxSteps := 20000000) (disch := omega) only [↓SBK, ↓SBK2, SX, Nat.reduceEqDiff, Nat.reduceAdd, Nat.reduceMul, Nat.reduceSub, ↓reduceIte, Int.reduceNeg, Int.reduceToNat, Int.reducePow, hmd, hks, hQ, d0]
  · have d0 : decide (n ≤ 0) = false := decide_eq_false h0
    obtain ⟨m, rfl⟩ : ∃ m : Nat, n = m := ⟨n.toNat, by omega⟩
    have hm : ((m : Nat) : Int) ≠ 0 := by omega
    obtain ⟨x, i1, h1, hx, hi1, k1⟩ := s_l1Byte v b i h hl hi
    by_cases h2 : (m : Int) ≤ 256
    · have d2 : decide ((m : Int) ≤ 256) = true := decide_eq_true h2
      refine ⟨x % m, i1, h1, ?_, hi1, ?_⟩
      · rw [below, if_pos (by omega)]
        have := Nat.mod_lt x (show m > 0 by omega)
        omega
      unfold cur at *
      refine spec_C hmx p_S_l1Below [(179, [.l], [])] 243 [true, false] ⟨Nat.le_of_ble_eq_true rfl, Nat.le_of_ble_eq_true rfl⟩ rfl rfl ?_
      intro w hP hmd hks hQ
      unfold c_S_l1Below
      simp +decide (maxSteps := 20000000) (disch := omega) only [↓SBK, ↓SBK2, SX, Nat.reduceEqDiff, Nat.reduceAdd, Nat.reduceMul, Nat.reduceSub, ↓reduceIte, Int.reduceNeg, Int.reduceToNat, Int.reducePow, hmd, hks, hQ]
      simp +decide (maxSteps := 20000000) (disch := omega) only [↓SBK, ↓SBK2, SX, Nat.reduceEqDiff, Nat.reduceAdd, Nat.reduceMul, Nat.reduceSub, ↓reduceIte, Int.reduceNeg, Int.reduceToNat, Int.reducePow, hmd, hks, hQ, d0, d2]
      (first | refine call_i hP (k1) (.inl ⟨rfl, fun _ hx => hx⟩) ?_ | refine callH_i hP (k1) (.inl ⟨rfl, fun _ hx => hx⟩) ?_)
      simp +decide (maxSteps := 20000000) (disch := omega) only [↓SBK, ↓SBK2, SX, Nat.reduceEqDiff, Nat.reduceAdd, Nat.reduceMul, Nat.reduceSub, ↓reduceIte, Int.reduceNeg, Int.reduceToNat, Int.reducePow, hmd, hks, hQ, hm, tmod_n]
    · have d2 : decide ((m : Int) ≤ 256) = false := decide_eq_false h2
      obtain ⟨y, i2, h2, hy, hi2, k2⟩ := s_l1Byte v b i1 h1 hl hi1
      obtain ⟨z, i3, h3, hz, hi3, k3⟩ := s_l1Byte v b i2 h2 hl hi2
      refine ⟨(x * 65536 + y * 256 + z) % m, i3, h3, ?_, hi3, ?_⟩
      · rw [below, if_pos (by omega)]
        have := Nat.mod_lt (x * 65536 + y * 256 + z) (show m > 0 by omega)
        omega
      have e : ((x : Int) * 65536 + (y : Int) * 256 + (z : Int)) = ((x * 65536 + y * 256 + z : Nat) : Int) := by omega
      have w1 : IntKind.i64.wrap ((x : Int) * 65536) = (x : Int) * 65536 := by have := wrap64 (n := x * 65536) (by omega); simpa using this
      have w2 : IntKind.i64.wrap ((y : Int) * 256) = (y : Int) * 256 := by have := wrap64 (n := y * 256) (by omega); simpa using this
      unfold cur at *
      refine spec_C hmx p_S_l1Below [(179, [.l], [])] 243 [true, false] ⟨Nat.le_of_ble_eq_true rfl, Nat.le_of_ble_eq_true rfl⟩ rfl rfl ?_
      intro w hP hmd hks hQ
      unfold c_S_l1Below
      simp +decide (maxSteps := 20000000) (disch := omega) only [↓SBK, ↓SBK2, SX, Nat.reduceEqDiff, Nat.reduceAdd, Nat.reduceMul, Nat.reduceSub, ↓reduceIte, Int.reduceNeg, Int.reduceToNat, Int.reducePow, hmd, hks, hQ]
      simp +decide (maxSteps := 20000000) (disch := omega) only [↓SBK, ↓SBK2, SX, Nat.reduceEqDiff, Nat.reduceAdd, Nat.reduceMul, Nat.reduceSub, ↓reduceIte, Int.reduceNeg, Int.reduceToNat, Int.reducePow, hmd, hks, hQ, d0, d2]
      (first | refine call_i hP (k1) (.inl ⟨rfl, fun _ hx => hx⟩) ?_ | refine callH_i hP (k1) (.inl ⟨rfl, fun _ hx => hx⟩) ?_)
      simp +decide (maxSteps := 20000000) (disch := omega) only [↓SBK, ↓SBK2, SX, Nat.reduceEqDiff, Nat.reduceAdd, Nat.reduceMul, Nat.reduceSub, ↓reduceIte, Int.reduceNeg, Int.reduceToNat, Int.reducePow, hmd, hks, hQ]
      (first | refine call_i hP (k2) (.inl ⟨rfl, fun _ hx => hx⟩) ?_ | refine callH_i hP (k2) (.inl ⟨rfl, fun _ hx => hx⟩) ?_)
      simp +decide (maxSteps := 20000000) (disch := omega) only [↓SBK, ↓SBK2, SX, Nat.reduceEqDiff, Nat.reduceAdd, Nat.reduceMul, Nat.reduceSub, ↓reduceIte, Int.reduceNeg, Int.reduceToNat, Int.reducePow, hmd, hks, hQ]
      (first | refine call_i hP (k3) (.inl ⟨rfl, fun _ hx => hx⟩) ?_ | refine callH_i hP (k3) (.inl ⟨rfl, fun _ hx => hx⟩) ?_)
      simp +decide (maxSteps := 20000000) (disch := omega) only [↓SBK, ↓SBK2, SX, Nat.reduceEqDiff, Nat.reduceAdd, Nat.reduceMul, Nat.reduceSub, ↓reduceIte, Int.reduceNeg, Int.reduceToNat, Int.reducePow, hmd, hks, hQ, hm, e, tmod_n, w1, w2]
def intR (l : List Int) : List (List TV) := l.map fun v => [TV.int .i64 v]
theorem intR_len (l : List Int) : (intR l).length = l.length := by simp [intR]
theorem intR_get (l : List Int) (k : Nat) : (intR l)[k]? = (l[k]?).map fun v => [TV.int .i64 v] := by simp [intR]
theorem s_l1Int (v : Value) (b : Bytes) (i : Nat) (h : Int) (l : List Int) (hl : b.length < 2 ^ 48) (hi : i ≤ b.length) (h0 : l ≠ []) (hn : l.length < 2 ^ 40) : ∃ (r : Int) (i' : Nat) (h' : Int), r ∈ l ∧ i' ≤ b.length ∧
    Spec Try.prog 145 [cur v b i h, .ext 1 (intR l)] (.int .i64 r) [cur v b i' h', .undef] := by
  obtain ⟨x, i1, h1, hx, hi1, k1⟩ := s_l1Below v b i h l.length hl hi (by omega)
  have hp : 0 < l.length := List.length_pos_iff.2 h0
  have hx' : (x : Int) < (l.length : Nat) := by rw [below, if_pos (by omega)] at hx; exact hx
  refine ⟨l[x]'(by omega), i1, h1, List.getElem_mem _, hi1, ?_⟩
  unfold cur at *
  refine spec_C hmx p_S_l1Int [(148, [.l, .b], [])] 19 [true, false] ⟨Nat.le_of_ble_eq_true rfl, Nat.le_of_ble_eq_true rfl⟩ rfl rfl ?_
  intro w hP hmd hks hQ
  unfold c_S_l1Int
  simp +decide (maxSteps := 20000000) (disch := omega) only [↓SBK, ↓SBK2, SX, Nat.reduceEqDiff, Nat.reduceAdd, Nat.reduceMul, Nat.reduceSub, ↓reduceIte, Int.reduceNeg, Int.reduceToNat, Int.reducePow, hmd, hks, hQ]
  simp +decide (maxSteps := 20000000) (disch := omega) only [↓SBK, ↓SBK2, SX, Nat.reduceEqDiff, Nat.reduceAdd, Nat.reduceMul, Nat.reduceSub, ↓reduceIte, Int.reduceNeg, Int.reduceToNat, Int.reducePow, hmd, hks, hQ, intR_len]
  (first | refine call_i hP (k1) (.inl ⟨rfl, fun _ hx => hx⟩) ?_ | refine callH_i hP (k1) (.inl ⟨rfl, fun _ hx => hx⟩) ?_)
  simp +decide (maxSteps := 20000000) (disch := omega) only [↓SBK, ↓SBK2, SX, Nat.reduceEqDiff, Nat.reduceAdd, Nat.reduceMul, Nat.reduceSub, ↓reduceIte, Int.reduceNeg, Int.reduceToNat, Int.reducePow, hmd, hks, hQ, intR_len, intR_get, getE hx']
theorem s_l1Bytes (v : Value) (b : Bytes) (i : Nat) (h : Int) (n : Int) (hl : b.length < 2 ^ 48) (hi : i ≤ b.length) (hn : n < 2 ^ 40) : ∃ (x : Bytes) (i' : Nat) (h' : Int), x.length = n.toNat ∧ i' ≤ b.length ∧
    Spec Try.prog 182 [cur v b i h, .int .i64 n] (.own 1 (bytesR x)) [cur v b i' h', .undef] := by
  have key : ∃ ret outs, (∃ (x : Bytes) (i' : Nat) (h' : Int), x.length = n.toNat ∧ i' ≤ b.length ∧ ret = .own 1 (bytesR x) ∧ outs = [cur v b i' h', .undef]) ∧ Spec Try.prog 182 [cur v b i h, .int .i64 n] ret outs := by
    unfold cur
    refine specEx_C hmx p_S_l1Bytes [(179, [.l], [])] 115 [true, false] ⟨Nat.le_of_ble_eq_true rfl, Nat.le_of_ble_eq_true rfl⟩ rfl ?_
    intro w hP hmd hks hQ
    unfold c_S_l1Bytes
    simp +decide (maxSteps := 20000000) (disch := omega) only [↓SBK, ↓SBK2, SX, Nat.reduceEqDiff, Nat.reduceAdd, Nat.reduceMul, Nat.reduceSub, ↓reduceIte, Int.reduceNeg, Int.reduceToNat, Int.reducePow, hmd, hks, hQ]
    refine LH_D [] ?_
    simp +decide (maxSteps := 20000000) (disch := omega) only [↓SBK, ↓SBK2, SX, Nat.reduceEqDiff, Nat.reduceAdd, Nat.reduceMul, Nat.reduceSub, ↓reduceIte, Int.reduceNeg, Int.reduceToNat, Int.reducePow, hmd, hks, hQ]
    refine loop_d [] (fun s : Bytes × Nat × Int => [(1000, .box [.extv v 1 (bytesR b), .int .i64 (s.2.1 : Nat), .int .i64 s.2.2]), (5, .own 1 (bytesR s.1)), (6, .int .i64 (s.1.length : Nat))]) (fun s => s.1.length ≤ n.toNat ∧ s.2.1 ≤ b.length) (fun s => n.toNat - s.1.length) (([], i, h)) hP hmd hks (by simp +decide (maxSteps := 20000000) (disch := omega) only [↓SBK, ↓SBK2, SX, Nat.reduceEqDiff, Nat.reduceAdd, Nat.reduceMul, Nat.reduceSub, ↓reduceIte, Int.reduceNeg, Int.reduceToNat, Int.reducePow, hmd, hks, hQ]; rfl) (⟨by simp, hi⟩) ?_
    rintro ⟨x, j, g⟩ ⟨hx, hj⟩ w1 hP1 hmd1 hks1 hQ1
    simp +decide (maxSteps := 20000000) (disch := omega) only [↓SBK, ↓SBK2, SX, Nat.reduceEqDiff, Nat.reduceAdd, Nat.reduceMul, Nat.reduceSub, ↓reduceIte, Int.reduceNeg, Int.reduceToNat, Int.reducePow, hmd, hks, hQ, hmd1, hks1, hQ1]
    simp only at hx hj
    (first | with_reducible refine if_d _ ?_ ?_ | refine if_i _ ?_ ?_) <;> intro h1
    · obtain ⟨y, j1, g1, hy, hj1, k1⟩ := s_l1Byte v b j g hl hj
      unfold cur at k1
      simp +decide (maxSteps := 20000000) (disch := omega) only [↓SBK, ↓SBK2, SX, Nat.reduceEqDiff, Nat.reduceAdd, Nat.reduceMul, Nat.reduceSub, ↓reduceIte, Int.reduceNeg, Int.reduceToNat, Int.reducePow, hmd, hks, hQ, hmd1, hks1, hQ1]
      (first | refine call_i hP1 (k1) (.inl ⟨rfl, fun _ hx => hx⟩) ?_ | refine callH_i hP1 (k1) (.inl ⟨rfl, fun _ hx => hx⟩) ?_)
      simp +decide (maxSteps := 20000000) (disch := omega) only [↓SBK, ↓SBK2, SX, Nat.reduceEqDiff, Nat.reduceAdd, Nat.reduceMul, Nat.reduceSub, ↓reduceIte, Int.reduceNeg, Int.reduceToNat, Int.reducePow, hmd, hks, hQ, hmd1, hks1, hQ1]
      rw [bytesR_snoc _ _ (by omega)]
      exact ⟨(x ++ [UInt8.ofNat (y : Int).toNat], j1, g1), by simp, ⟨by simp; omega, hj1⟩, by simp; omega⟩
    · simp +decide (maxSteps := 20000000) (disch := omega) only [↓SBK, ↓SBK2, SX, Nat.reduceEqDiff, Nat.reduceAdd, Nat.reduceMul, Nat.reduceSub, ↓reduceIte, Int.reduceNeg, Int.reduceToNat, Int.reducePow, hmd, hks, hQ, hmd1, hks1, hQ1]
      exact ⟨x, j, g, by omega, hj, rfl, rfl⟩
  obtain ⟨_, _, ⟨x, i', h', hx, hi', rfl, rfl⟩, hS⟩ := key
  exact ⟨x, i', h', hx, hi', hS⟩
theorem s_l1Some (v : Value) (b : Bytes) (i : Nat) (h : Int) (hl : b.length < 2 ^ 48) (hi : i ≤ b.length) : ∃ (x : Bytes) (i' : Nat) (h' : Int), x.length ≤ 9 ∧ i' ≤ b.length ∧
    Spec Try.prog 153 [cur v b i h] (.own 1 (bytesR x)) [cur v b i' h'] := by
  obtain ⟨r, i1, h1, hv, hi1, k1⟩ := s_l1Int v b i h [0, 1, 2, 5, 9] hl hi (by simp) (by simp)
  have hv' : 0 ≤ r ∧ r ≤ 9 := by simp at hv; omega
  obtain ⟨x, i2, h2, hx, hi2, k2⟩ := s_l1Bytes v b i1 h1 r hl hi1 (by omega)
  refine ⟨x, i2, h2, by omega, hi2, ?_⟩
  unfold cur at *
  simp only [intR, List.map_cons, List.map_nil] at k1
  refine spec_C hmx p_S_l1Some [(145, [.l, .b], []), (182, [.l, .b], [])] 5 [true] ⟨Nat.le_of_ble_eq_true rfl, Nat.le_of_ble_eq_true rfl⟩ rfl rfl ?_
  intro w hP hmd hks hQ
  unfold c_S_l1Some
  simp +decide (maxSteps := 20000000) (disch := omega) only [↓SBK, ↓SBK2, SX, Nat.reduceEqDiff, Nat.reduceAdd, Nat.reduceMul, Nat.reduceSub, ↓reduceIte, Int.reduceNeg, Int.reduceToNat, Int.reducePow, hmd, hks, hQ]
  (first | refine call_i hP (k1) (.inl ⟨rfl, fun _ hx => hx⟩) ?_ | refine callH_i hP (k1) (.inl ⟨rfl, fun _ hx => hx⟩) ?_)
  simp +decide (maxSteps := 20000000) (disch := omega) only [↓SBK, ↓SBK2, SX, Nat.reduceEqDiff, Nat.reduceAdd, Nat.reduceMul, Nat.reduceSub, ↓reduceIte, Int.reduceNeg, Int.reduceToNat, Int.reducePow, hmd, hks, hQ]
  (first | refine call_i hP (k2) (.inl ⟨rfl, fun _ hx => hx⟩) ?_ | refine callH_i hP (k2) (.inl ⟨rfl, fun _ hx => hx⟩) ?_)
  simp +decide (maxSteps := 20000000) (disch := omega) only [↓SBK, ↓SBK2, SX, Nat.reduceEqDiff, Nat.reduceAdd, Nat.reduceMul, Nat.reduceSub, ↓reduceIte, Int.reduceNeg, Int.reduceToNat, Int.reducePow, hmd, hks, hQ]
theorem s_big (b : Bytes) (hl : b.length < 2 ^ 48) : Spec Try.prog 68 [.ext 1 (bytesR b)] (.bool (decide ((1048576 : Int) < (b.length : Nat)))) [.undef] := by
  refine spec_C hmx p_L_big [] 5 [] ⟨Nat.le_of_ble_eq_true rfl, Nat.le_of_ble_eq_true rfl⟩ rfl rfl ?_
  intro w hP hmd hks hQ
  unfold c_L_big
  simp +decide (maxSteps := 20000000) (disch := omega) only [↓SBK, ↓SBK2, SX, Nat.reduceEqDiff, Nat.reduceAdd, Nat.reduceMul, Nat.reduceSub, ↓reduceIte, Int.reduceNeg, Int.reduceToNat, Int.reducePow, hmd, hks, hQ]
end Go.Proofs.Ytliklgcfdgdigaa.Awp

namespace Go.Proofs.Ytliklgcfdgdigaa.Awp
open Go.Proofs
set_option linter.unusedSimpArgs false
set_option linter.unusedVariables false
set_option maxRecDepth 100000
set_option maxHeartbeats 20000000

theorem getRec_inv {b : Bytes} (h : (getRec b).2 = true) : recOk (getRec b).1 = true ∧ putRec (getRec b).1 = b ∧ isOpen b = true ∧ bodyOf b = recB (getRec b).1 := by
  unfold getRec at h ⊢
  split
  · rename_i hc
    obtain ⟨c1, c2⟩ := rec_canon hc.2
    refine ⟨c1, ?_, hc.1, c2.symm⟩
    rw [putRec_ok c1, c2]
    exact of_decide_eq_true (Bool.and_eq_true_iff.1 hc.1).2
  · rename_i hc; rw [if_neg hc] at h; cases h
theorem putRec_len' {r : Rec} (h : recOk r = true) : (putRec r).length = (recB r).length + 4 := by rw [putRec_ok h, sealB_len]
/-- a bit is turned -/
theorem turn_bit (x : UInt8) (t : Nat) (ht : t < 8) : ∃ y : UInt8, y ≠ x ∧
    IntKind.u8.wrap ((BitVec.ofInt IntKind.u8.bits (x.toNat : Int) ^^^ BitVec.ofInt IntKind.u8.bits (IntKind.u8.wrap (1 * 2 ^ (min t IntKind.u8.bits)))).toNat : Int) = (y.toNat : Int) := by
  have e0 : min t IntKind.u8.bits = t := by have : IntKind.u8.bits = 8 := rfl; omega
  have ep : (2 : Nat) ^ t < 256 := Nat.lt_of_lt_of_le (Nat.pow_lt_pow_right (by decide) ht) (by decide)
  have e1 : IntKind.u8.wrap ((1 : Int) * 2 ^ t) = ((2 ^ t : Nat) : Int) := by
    have := wrap8id (2 ^ t) ep
    rw [Int.one_mul]
    simpa using this
  have hx := x.toNat_lt
  have e2 : (BitVec.ofInt IntKind.u8.bits (x.toNat : Int) ^^^ BitVec.ofInt IntKind.u8.bits ((2 ^ t : Nat) : Int)).toNat = x.toNat ^^^ 2 ^ t := by
    rw [BitVec.toNat_xor, ofInt_nat, ofInt_nat, BitVec.toNat_ofNat, BitVec.toNat_ofNat]
    have : (2 : Nat) ^ IntKind.u8.bits = 256 := rfl
    rw [this, Nat.mod_eq_of_lt (by omega), Nat.mod_eq_of_lt ep]
  have hlt : x.toNat ^^^ 2 ^ t < 2 ^ 8 := Nat.xor_lt_two_pow hx ep
  refine ⟨UInt8.ofNat (x.toNat ^^^ 2 ^ t), ?_, ?_⟩
  · intro e
    have := congrArg UInt8.toNat e
    rw [ofNat_toNat hlt] at this
    have e3 : x.toNat ^^^ 2 ^ t = x.toNat ^^^ 0 := by rw [this]; simp
    have := xor_inj e3
    have := Nat.two_pow_pos t
    omega
  · rw [e0, e1, e2, ofNat_toNat hlt, wrap8id _ hlt]
end Go.Proofs.Ytliklgcfdgdigaa.Awp

namespace Go.Proofs.Ytliklgcfdgdigaa.Awp
open Go.Proofs
set_option linter.unusedSimpArgs false
set_option linter.unusedVariables false
set_option maxRecDepth 100000
set_option maxHeartbeats 20000000

theorem s_l12Draw (v : Value) (b : Bytes) (i : Nat) (h : Int) (hl : b.length < 2 ^ 48) (hi : i ≤ b.length) : ∃ (r : Rec) (i' : Nat) (h' : Int), recOk r = true ∧ i' ≤ b.length ∧
    Spec Try.prog 156 [cur v b i h] r.o [cur v b i' h'] := by
  obtain ⟨x, i1, h1, hx, hi1, k1⟩ := s_l1Below v b i h 4 hl hi (by decide)
  obtain ⟨y, i2, h2, hy, hi2, k2⟩ := s_l1Int v b i1 h1 [0, 1, 300, 1000000] hl hi1 (by simp) (by simp)
  obtain ⟨z, i3, h3, hz, hi3, k3⟩ := s_l1Some v b i2 h2 hl hi2
  rw [below, if_pos (by decide)] at hx
  have hy' : 0 ≤ y ∧ y ≤ 1000000 := by simp at hy; omega
  refine ⟨{ kind := 1 + x, seq := y, body := z }, i3, h3, ?_, hi3, ?_⟩
  · simp only [recOk, inR]
    simp; omega
  unfold cur at *
  simp only [intR, List.map_cons, List.map_nil] at k2
  refine spec_C hmx p_S_l12Draw [(148, [.l, .b], []), (145, [.l, .b], []), (153, [.l], [])] 5 [true] ⟨Nat.le_of_ble_eq_true rfl, Nat.le_of_ble_eq_true rfl⟩ rfl rfl ?_
  intro w hP hmd hks hQ
  unfold c_S_l12Draw
  simp +decide (maxSteps := 20000000) (disch := omega) only [↓SBK, ↓SBK2, SX, Nat.reduceEqDiff, Nat.reduceAdd, Nat.reduceMul, Nat.reduceSub, ↓reduceIte, Int.reduceNeg, Int.reduceToNat, Int.reducePow, hmd, hks, hQ]
  (first | refine call_i hP (k1) (.inl ⟨rfl, fun _ hx => hx⟩) ?_ | refine callH_i hP (k1) (.inl ⟨rfl, fun _ hx => hx⟩) ?_)
  simp +decide (maxSteps := 20000000) (disch := omega) only [↓SBK, ↓SBK2, SX, Nat.reduceEqDiff, Nat.reduceAdd, Nat.reduceMul, Nat.reduceSub, ↓reduceIte, Int.reduceNeg, Int.reduceToNat, Int.reducePow, hmd, hks, hQ]
  (first | refine call_i hP (k2) (.inl ⟨rfl, fun _ hx => hx⟩) ?_ | refine callH_i hP (k2) (.inl ⟨rfl, fun _ hx => hx⟩) ?_)
  simp +decide (maxSteps := 20000000) (disch := omega) only [↓SBK, ↓SBK2, SX, Nat.reduceEqDiff, Nat.reduceAdd, Nat.reduceMul, Nat.reduceSub, ↓reduceIte, Int.reduceNeg, Int.reduceToNat, Int.reducePow, hmd, hks, hQ]
  (first | refine call_i hP (k3) (.inl ⟨rfl, fun _ hx => hx⟩) ?_ | refine callH_i hP (k3) (.inl ⟨rfl, fun _ hx => hx⟩) ?_)
  simp +decide (maxSteps := 20000000) (disch := omega) only [↓SBK, ↓SBK2, SX, Nat.reduceEqDiff, Nat.reduceAdd, Nat.reduceMul, Nat.reduceSub, ↓reduceIte, Int.reduceNeg, Int.reduceToNat, Int.reducePow, hmd, hks, hQ]
theorem sameBytes_self (b : Bytes) (h : b.length < 2 ^ 40) : Spec Try.prog 72 [.ext 1 (bytesR b), .ext 1 (bytesR b)] (.bool true) [.undef, .undef] := by
  have he := s_sameBytes b b h
  rwa [decide_eq_true rfl] at he
theorem u64w (n : Nat) (h : n < 8) : IntKind.u64.wrap (n : Int) = (n : Int) := by
  match n, h with
  | 0, _ => decide
  | 1, _ => decide
  | 2, _ => decide
  | 3, _ => decide
  | 4, _ => decide
  | 5, _ => decide
  | 6, _ => decide
  | 7, _ => decide
  | n + 8, h => omega
theorem bytesR_mod (P : Bytes) (y : UInt8) (k : Nat) : ((bytesR P).modify k fun x => TV.int .u8 ((y.toNat : Nat) : Int) :: List.drop 1 x) = bytesR (P.set k y) := by
  simp only [bytesR]
  apply List.ext_getElem
  · simp
  intro i h1 h2
  rw [List.getElem_modify]
  by_cases he : k = i
  · subst he
    simp
  · simp [he]
end Go.Proofs.Ytliklgcfdgdigaa.Awp

namespace Go.Proofs.Ytliklgcfdgdigaa.Awp
open Go.Proofs
set_option linter.unusedSimpArgs false
set_option linter.unusedVariables false
set_option maxRecDepth 100000
set_option maxHeartbeats 20000000

theorem s_DrawGetRec (v : Value) (b : Bytes) (hl : b.length < 2 ^ 48) : ∃ (g : Bytes), g.length ≤ 401 ∧ Spec Try.prog 93 [.extv v 1 (bytesR b)] (.own 1 (bytesR g)) [.undef] := by
  obtain ⟨h0, k0⟩ := s_l1New v b hl
  obtain ⟨r, i1, h1, hok, hi1, k1⟩ := s_l12Draw v b 0 h0 hl (by omega)
  have hsz : r.sz < 2 ^ 30 := by have := (recOk_info hok).2.2; show r.body.length < _; omega
  have kP := sS_PutRec r hsz
  have hPl := putRec_len' hok
  have hYl := recB_len' hok
  generalize putRec r = P at *
  have hpos : 0 < P.length := by omega
  obtain ⟨t, i2, h2, ht, hi2, k2⟩ := s_l1Below v b i1 h1 5 hl hi1 (by decide)
  match t, ht with
  | 0, _ =>
    obtain ⟨k, i3, h3, hk, hi3, k3⟩ := s_l1Below v b i2 h2 P.length hl hi2 (by omega)
    obtain ⟨m, i4, h4, hm, hi4, k4⟩ := s_l1Below v b i3 h3 8 hl hi3 (by decide)
    rw [below, if_pos (by decide)] at hm
    rw [below, if_pos (by omega)] at hk
    have hk' : k < P.length := by omega
    obtain ⟨y, hy, ey⟩ := turn_bit P[k] m (by omega)
    have gk := List.getElem?_eq_getElem hk'
    have kk : ((k : Nat) : Int) < (P.length : Nat) := by omega
    refine ⟨P.set k y, by simp; omega, ?_⟩
    unfold cur at *
    refine spec_C hmx p_S_DrawGetRec [(156, [.l], []), (148, [.l, .b], []), (999999, [], [(3, 0)])] 2077 [] ⟨Nat.le_of_ble_eq_true rfl, Nat.le_of_ble_eq_true rfl⟩ rfl rfl ?_
    intro w hP hmd hks hQ
    unfold c_S_DrawGetRec
    simp +decide (maxSteps := 20000000) (disch := omega) only [↓SBK, ↓SBK2, SX, Nat.reduceEqDiff, Nat.reduceAdd, Nat.reduceMul, Nat.reduceSub, ↓reduceIte, Int.reduceNeg, Int.reduceToNat, Int.reducePow, hmd, hks, hQ]
    (first | refine call_i hP (k0) (.inl ⟨rfl, fun _ hx => hx⟩) ?_ | refine callH_i hP (k0) (.inl ⟨rfl, fun _ hx => hx⟩) ?_)
    simp +decide (maxSteps := 20000000) (disch := omega) only [↓SBK, ↓SBK2, SX, Nat.reduceEqDiff, Nat.reduceAdd, Nat.reduceMul, Nat.reduceSub, ↓reduceIte, Int.reduceNeg, Int.reduceToNat, Int.reducePow, hmd, hks, hQ]
    (first | refine call_i hP (k1) (.inl ⟨rfl, fun _ hx => hx⟩) ?_ | refine callH_i hP (k1) (.inl ⟨rfl, fun _ hx => hx⟩) ?_)
    simp +decide (maxSteps := 20000000) (disch := omega) only [↓SBK, ↓SBK2, SX, Nat.reduceEqDiff, Nat.reduceAdd, Nat.reduceMul, Nat.reduceSub, ↓reduceIte, Int.reduceNeg, Int.reduceToNat, Int.reducePow, hmd, hks, hQ]
    (first | refine call_i hP (kP) (.inl ⟨rfl, fun _ hx => hx⟩) ?_ | refine callH_i hP (kP) (.inl ⟨rfl, fun _ hx => hx⟩) ?_)
    simp +decide (maxSteps := 20000000) (disch := omega) only [↓SBK, ↓SBK2, SX, Nat.reduceEqDiff, Nat.reduceAdd, Nat.reduceMul, Nat.reduceSub, ↓reduceIte, Int.reduceNeg, Int.reduceToNat, Int.reducePow, hmd, hks, hQ]
    (first | refine call_i hP (k2) (.inl ⟨rfl, fun _ hx => hx⟩) ?_ | refine callH_i hP (k2) (.inl ⟨rfl, fun _ hx => hx⟩) ?_)
    simp +decide (maxSteps := 20000000) (disch := omega) only [↓SBK, ↓SBK2, SX, Nat.reduceEqDiff, Nat.reduceAdd, Nat.reduceMul, Nat.reduceSub, ↓reduceIte, Int.reduceNeg, Int.reduceToNat, Int.reducePow, hmd, hks, hQ]
    have e8 := u64w m (by omega)
    have h8 : ¬ ((m : Int) < 0) := by omega
    have e51 := bytesR_mod P y k
    (first | refine call_i hP (k3) (.inl ⟨rfl, fun _ hx => hx⟩) ?_ | refine callH_i hP (k3) (.inl ⟨rfl, fun _ hx => hx⟩) ?_)
    simp +decide (maxSteps := 20000000) (disch := omega) only [↓SBK, ↓SBK2, SX, Nat.reduceEqDiff, Nat.reduceAdd, Nat.reduceMul, Nat.reduceSub, ↓reduceIte, Int.reduceNeg, Int.reduceToNat, Int.reducePow, hmd, hks, hQ, getE kk]

    (first | refine call_i hP (k4) (.inl ⟨rfl, fun _ hx => hx⟩) ?_ | refine callH_i hP (k4) (.inl ⟨rfl, fun _ hx => hx⟩) ?_)
    simp +decide (maxSteps := 20000000) (disch := omega) only [↓SBK, ↓SBK2, SX, Nat.reduceEqDiff, Nat.reduceAdd, Nat.reduceMul, Nat.reduceSub, ↓reduceIte, Int.reduceNeg, Int.reduceToNat, Int.reducePow, hmd, hks, hQ, e8, h8, Int.toNat_natCast, ey, getE kk, e51]
  | 1, _ =>
    obtain ⟨k, i3, h3, hk, hi3, k3⟩ := s_l1Below v b i2 h2 P.length hl hi2 (by omega)
    rw [below, if_pos (by omega)] at hk
    have hk' : k ≤ P.length := by omega
    refine ⟨P.take k, by simp; omega, ?_⟩
    unfold cur at *
    refine spec_C hmx p_S_DrawGetRec [(156, [.l], []), (148, [.l, .b], []), (999999, [], [(3, 0)])] 2077 [] ⟨Nat.le_of_ble_eq_true rfl, Nat.le_of_ble_eq_true rfl⟩ rfl rfl ?_
    intro w hP hmd hks hQ
    unfold c_S_DrawGetRec
    simp +decide (maxSteps := 20000000) (disch := omega) only [↓SBK, ↓SBK2, SX, Nat.reduceEqDiff, Nat.reduceAdd, Nat.reduceMul, Nat.reduceSub, ↓reduceIte, Int.reduceNeg, Int.reduceToNat, Int.reducePow, hmd, hks, hQ]
    (first | refine call_i hP (k0) (.inl ⟨rfl, fun _ hx => hx⟩) ?_ | refine callH_i hP (k0) (.inl ⟨rfl, fun _ hx => hx⟩) ?_)
    simp +decide (maxSteps := 20000000) (disch := omega) only [↓SBK, ↓SBK2, SX, Nat.reduceEqDiff, Nat.reduceAdd, Nat.reduceMul, Nat.reduceSub, ↓reduceIte, Int.reduceNeg, Int.reduceToNat, Int.reducePow, hmd, hks, hQ]
    (first | refine call_i hP (k1) (.inl ⟨rfl, fun _ hx => hx⟩) ?_ | refine callH_i hP (k1) (.inl ⟨rfl, fun _ hx => hx⟩) ?_)
    simp +decide (maxSteps := 20000000) (disch := omega) only [↓SBK, ↓SBK2, SX, Nat.reduceEqDiff, Nat.reduceAdd, Nat.reduceMul, Nat.reduceSub, ↓reduceIte, Int.reduceNeg, Int.reduceToNat, Int.reducePow, hmd, hks, hQ]
    (first | refine call_i hP (kP) (.inl ⟨rfl, fun _ hx => hx⟩) ?_ | refine callH_i hP (kP) (.inl ⟨rfl, fun _ hx => hx⟩) ?_)
    simp +decide (maxSteps := 20000000) (disch := omega) only [↓SBK, ↓SBK2, SX, Nat.reduceEqDiff, Nat.reduceAdd, Nat.reduceMul, Nat.reduceSub, ↓reduceIte, Int.reduceNeg, Int.reduceToNat, Int.reducePow, hmd, hks, hQ]
    (first | refine call_i hP (k2) (.inl ⟨rfl, fun _ hx => hx⟩) ?_ | refine callH_i hP (k2) (.inl ⟨rfl, fun _ hx => hx⟩) ?_)
    simp +decide (maxSteps := 20000000) (disch := omega) only [↓SBK, ↓SBK2, SX, Nat.reduceEqDiff, Nat.reduceAdd, Nat.reduceMul, Nat.reduceSub, ↓reduceIte, Int.reduceNeg, Int.reduceToNat, Int.reducePow, hmd, hks, hQ]
    (first | refine call_i hP (k3) (.inl ⟨rfl, fun _ hx => hx⟩) ?_ | refine callH_i hP (k3) (.inl ⟨rfl, fun _ hx => hx⟩) ?_)
    simp +decide (maxSteps := 20000000) (disch := omega) only [↓SBK, ↓SBK2, SX, Nat.reduceEqDiff, Nat.reduceAdd, Nat.reduceMul, Nat.reduceSub, ↓reduceIte, Int.reduceNeg, Int.reduceToNat, Int.reducePow, hmd, hks, hQ, hk', Int.sub_zero, bytesR_take, Nat.zero_add]
  | 2, _ =>
    refine ⟨P ++ [0], by simp; omega, ?_⟩
    unfold cur at *
    refine spec_C hmx p_S_DrawGetRec [(156, [.l], []), (148, [.l, .b], []), (999999, [], [(3, 0)])] 2077 [] ⟨Nat.le_of_ble_eq_true rfl, Nat.le_of_ble_eq_true rfl⟩ rfl rfl ?_
    intro w hP hmd hks hQ
    unfold c_S_DrawGetRec
    simp +decide (maxSteps := 20000000) (disch := omega) only [↓SBK, ↓SBK2, SX, Nat.reduceEqDiff, Nat.reduceAdd, Nat.reduceMul, Nat.reduceSub, ↓reduceIte, Int.reduceNeg, Int.reduceToNat, Int.reducePow, hmd, hks, hQ]
    (first | refine call_i hP (k0) (.inl ⟨rfl, fun _ hx => hx⟩) ?_ | refine callH_i hP (k0) (.inl ⟨rfl, fun _ hx => hx⟩) ?_)
    simp +decide (maxSteps := 20000000) (disch := omega) only [↓SBK, ↓SBK2, SX, Nat.reduceEqDiff, Nat.reduceAdd, Nat.reduceMul, Nat.reduceSub, ↓reduceIte, Int.reduceNeg, Int.reduceToNat, Int.reducePow, hmd, hks, hQ]
    (first | refine call_i hP (k1) (.inl ⟨rfl, fun _ hx => hx⟩) ?_ | refine callH_i hP (k1) (.inl ⟨rfl, fun _ hx => hx⟩) ?_)
    simp +decide (maxSteps := 20000000) (disch := omega) only [↓SBK, ↓SBK2, SX, Nat.reduceEqDiff, Nat.reduceAdd, Nat.reduceMul, Nat.reduceSub, ↓reduceIte, Int.reduceNeg, Int.reduceToNat, Int.reducePow, hmd, hks, hQ]
    (first | refine call_i hP (kP) (.inl ⟨rfl, fun _ hx => hx⟩) ?_ | refine callH_i hP (kP) (.inl ⟨rfl, fun _ hx => hx⟩) ?_)
    simp +decide (maxSteps := 20000000) (disch := omega) only [↓SBK, ↓SBK2, SX, Nat.reduceEqDiff, Nat.reduceAdd, Nat.reduceMul, Nat.reduceSub, ↓reduceIte, Int.reduceNeg, Int.reduceToNat, Int.reducePow, hmd, hks, hQ]
    (first | refine call_i hP (k2) (.inl ⟨rfl, fun _ hx => hx⟩) ?_ | refine callH_i hP (k2) (.inl ⟨rfl, fun _ hx => hx⟩) ?_)
    simp +decide (maxSteps := 20000000) (disch := omega) only [↓SBK, ↓SBK2, SX, Nat.reduceEqDiff, Nat.reduceAdd, Nat.reduceMul, Nat.reduceSub, ↓reduceIte, Int.reduceNeg, Int.reduceToNat, Int.reducePow, hmd, hks, hQ]
    simp [bytesR]
  | m + 3, _ =>
    have d0 : decide (((m + 3 : Nat) : Int) = 0) = false := decide_eq_false (by omega)
    have d1 : decide (((m + 3 : Nat) : Int) = 1) = false := decide_eq_false (by omega)
    have d2 : decide (((m + 3 : Nat) : Int) = 2) = false := decide_eq_false (by omega)
    refine ⟨P, by omega, ?_⟩
    unfold cur at *
    refine spec_C hmx p_S_DrawGetRec [(156, [.l], []), (148, [.l, .b], []), (999999, [], [(3, 0)])] 2077 [] ⟨Nat.le_of_ble_eq_true rfl, Nat.le_of_ble_eq_true rfl⟩ rfl rfl ?_
    intro w hP hmd hks hQ
    unfold c_S_DrawGetRec
    simp +decide (maxSteps := 20000000) (disch := omega) only [↓SBK, ↓SBK2, SX, Nat.reduceEqDiff, Nat.reduceAdd, Nat.reduceMul, Nat.reduceSub, ↓reduceIte, Int.reduceNeg, Int.reduceToNat, Int.reducePow, hmd, hks, hQ]
    (first | refine call_i hP (k0) (.inl ⟨rfl, fun _ hx => hx⟩) ?_ | refine callH_i hP (k0) (.inl ⟨rfl, fun _ hx => hx⟩) ?_)
    simp +decide (maxSteps := 20000000) (disch := omega) only [↓SBK, ↓SBK2, SX, Nat.reduceEqDiff, Nat.reduceAdd, Nat.reduceMul, Nat.reduceSub, ↓reduceIte, Int.reduceNeg, Int.reduceToNat, Int.reducePow, hmd, hks, hQ]
    (first | refine call_i hP (k1) (.inl ⟨rfl, fun _ hx => hx⟩) ?_ | refine callH_i hP (k1) (.inl ⟨rfl, fun _ hx => hx⟩) ?_)
    simp +decide (maxSteps := 20000000) (disch := omega) only [↓SBK, ↓SBK2, SX, Nat.reduceEqDiff, Nat.reduceAdd, Nat.reduceMul, Nat.reduceSub, ↓reduceIte, Int.reduceNeg, Int.reduceToNat, Int.reducePow, hmd, hks, hQ]
    (first | refine call_i hP (kP) (.inl ⟨rfl, fun _ hx => hx⟩) ?_ | refine callH_i hP (kP) (.inl ⟨rfl, fun _ hx => hx⟩) ?_)
    simp +decide (maxSteps := 20000000) (disch := omega) only [↓SBK, ↓SBK2, SX, Nat.reduceEqDiff, Nat.reduceAdd, Nat.reduceMul, Nat.reduceSub, ↓reduceIte, Int.reduceNeg, Int.reduceToNat, Int.reducePow, hmd, hks, hQ]
    (first | refine call_i hP (k2) (.inl ⟨rfl, fun _ hx => hx⟩) ?_ | refine callH_i hP (k2) (.inl ⟨rfl, fun _ hx => hx⟩) ?_)
    simp +decide (maxSteps := 20000000) (disch := omega) only [↓SBK, ↓SBK2, SX, Nat.reduceEqDiff, Nat.reduceAdd, Nat.reduceMul, Nat.reduceSub, ↓reduceIte, Int.reduceNeg, Int.reduceToNat, Int.reducePow, hmd, hks, hQ, d0, d1, d2]
theorem s_FnRecsRead (b : Bytes) (hf : b.length < 2 ^ 48) : Spec Try.prog 20 [.ext 1 (bytesR b)] (.bool true) [.undef] := by
  refine spec_extv fun a len cap ha => ?_
  generalize hv : Value.slice a len cap = v
  have hB := spec_ext (v := v) (s_big b hf)
  cases hz : decide ((1048576 : Int) < (b.length : Nat)) with
  | true =>
    rw [hz] at hB
    refine spec_C hmx p_L_FnRecsRead [] 189 [] ⟨Nat.le_of_ble_eq_true rfl, Nat.le_of_ble_eq_true rfl⟩ rfl rfl ?_
    intro w hP hmd hks hQ
    unfold c_L_FnRecsRead
    simp +decide (maxSteps := 20000000) (disch := omega) only [↓SBK, ↓SBK2, SX, Nat.reduceEqDiff, Nat.reduceAdd, Nat.reduceMul, Nat.reduceSub, ↓reduceIte, Int.reduceNeg, Int.reduceToNat, Int.reducePow, hmd, hks, hQ]
    (first | refine call_i hP (hB) (.inl ⟨rfl, fun _ hx => nomatch hx⟩) ?_ | refine callH_i hP (hB) (.inl ⟨rfl, fun _ hx => nomatch hx⟩) ?_)
    simp +decide (maxSteps := 20000000) (disch := omega) only [↓SBK, ↓SBK2, SX, Nat.reduceEqDiff, Nat.reduceAdd, Nat.reduceMul, Nat.reduceSub, ↓reduceIte, Int.reduceNeg, Int.reduceToNat, Int.reducePow, hmd, hks, hQ]
  | false =>
    rw [hz] at hB
    obtain ⟨g, hg, k1⟩ := s_DrawGetRec v b hf
    have kI := sI_GetRec g (by omega)
    have kS := sS_GetRec g (by omega)
    cases hr : (getRec g).2 with
    | false =>
      have hk : (getRec g).1.kind = 0 := by
        unfold getRec at hr ⊢
        split
        · rename_i hc
          rw [if_pos hc] at hr
          exact absurd hr (by simp)
        · rfl
      rw [hr] at kI kS
      generalize (getRec g).1 = r at *
      refine spec_C hmx p_L_FnRecsRead [] 189 [] ⟨Nat.le_of_ble_eq_true rfl, Nat.le_of_ble_eq_true rfl⟩ rfl rfl ?_
      intro w hP hmd hks hQ
      unfold c_L_FnRecsRead
      simp +decide (maxSteps := 20000000) (disch := omega) only [↓SBK, ↓SBK2, SX, Nat.reduceEqDiff, Nat.reduceAdd, Nat.reduceMul, Nat.reduceSub, ↓reduceIte, Int.reduceNeg, Int.reduceToNat, Int.reducePow, hmd, hks, hQ]
      (first | refine call_i hP (hB) (.inl ⟨rfl, fun _ hx => nomatch hx⟩) ?_ | refine callH_i hP (hB) (.inl ⟨rfl, fun _ hx => nomatch hx⟩) ?_)
      simp +decide (maxSteps := 20000000) (disch := omega) only [↓SBK, ↓SBK2, SX, Nat.reduceEqDiff, Nat.reduceAdd, Nat.reduceMul, Nat.reduceSub, ↓reduceIte, Int.reduceNeg, Int.reduceToNat, Int.reducePow, hmd, hks, hQ]
      (first | refine call_i hP (k1) (.inl ⟨rfl, fun _ hx => nomatch hx⟩) ?_ | refine callH_i hP (k1) (.inl ⟨rfl, fun _ hx => nomatch hx⟩) ?_)
      simp +decide (maxSteps := 20000000) (disch := omega) only [↓SBK, ↓SBK2, SX, Nat.reduceEqDiff, Nat.reduceAdd, Nat.reduceMul, Nat.reduceSub, ↓reduceIte, Int.reduceNeg, Int.reduceToNat, Int.reducePow, hmd, hks, hQ]
      (first | refine call_i hP (kI) (.inl ⟨rfl, fun _ hx => nomatch hx⟩) ?_ | refine callH_i hP (kI) (.inl ⟨rfl, fun _ hx => nomatch hx⟩) ?_)
      simp +decide (maxSteps := 20000000) (disch := omega) only [↓SBK, ↓SBK2, SX, Nat.reduceEqDiff, Nat.reduceAdd, Nat.reduceMul, Nat.reduceSub, ↓reduceIte, Int.reduceNeg, Int.reduceToNat, Int.reducePow, hmd, hks, hQ]
      (first | refine call_i hP (kS) (.inl ⟨rfl, fun _ hx => nomatch hx⟩) ?_ | refine callH_i hP (kS) (.inl ⟨rfl, fun _ hx => nomatch hx⟩) ?_)
      simp +decide (maxSteps := 20000000) (disch := omega) only [↓SBK, ↓SBK2, SX, Nat.reduceEqDiff, Nat.reduceAdd, Nat.reduceMul, Nat.reduceSub, ↓reduceIte, Int.reduceNeg, Int.reduceToNat, Int.reducePow, hmd, hks, hQ, hk]
    | true =>
      obtain ⟨h1, h2, h3, h4⟩ := getRec_inv hr
      rw [hr] at kI kS
      generalize (getRec g).1 = r at *
      have hbl := (recOk_info h1).2.2
      have hsz : r.sz < 2 ^ 30 := by show r.body.length < _; omega
      have kP := sI_PutRec r hsz
      have kR := sI_RecOk r (by omega)
      rw [h2] at kP
      rw [h1] at kR
      refine spec_C hmx p_L_FnRecsRead [] 189 [] ⟨Nat.le_of_ble_eq_true rfl, Nat.le_of_ble_eq_true rfl⟩ rfl rfl ?_
      intro w hP hmd hks hQ
      unfold c_L_FnRecsRead
      simp +decide (maxSteps := 20000000) (disch := omega) only [↓SBK, ↓SBK2, SX, Nat.reduceEqDiff, Nat.reduceAdd, Nat.reduceMul, Nat.reduceSub, ↓reduceIte, Int.reduceNeg, Int.reduceToNat, Int.reducePow, hmd, hks, hQ]
      (first | refine call_i hP (hB) (.inl ⟨rfl, fun _ hx => nomatch hx⟩) ?_ | refine callH_i hP (hB) (.inl ⟨rfl, fun _ hx => nomatch hx⟩) ?_)
      simp +decide (maxSteps := 20000000) (disch := omega) only [↓SBK, ↓SBK2, SX, Nat.reduceEqDiff, Nat.reduceAdd, Nat.reduceMul, Nat.reduceSub, ↓reduceIte, Int.reduceNeg, Int.reduceToNat, Int.reducePow, hmd, hks, hQ]
      (first | refine call_i hP (k1) (.inl ⟨rfl, fun _ hx => nomatch hx⟩) ?_ | refine callH_i hP (k1) (.inl ⟨rfl, fun _ hx => nomatch hx⟩) ?_)
      simp +decide (maxSteps := 20000000) (disch := omega) only [↓SBK, ↓SBK2, SX, Nat.reduceEqDiff, Nat.reduceAdd, Nat.reduceMul, Nat.reduceSub, ↓reduceIte, Int.reduceNeg, Int.reduceToNat, Int.reducePow, hmd, hks, hQ]
      (first | refine call_i hP (kI) (.inl ⟨rfl, fun _ hx => nomatch hx⟩) ?_ | refine callH_i hP (kI) (.inl ⟨rfl, fun _ hx => nomatch hx⟩) ?_)
      simp +decide (maxSteps := 20000000) (disch := omega) only [↓SBK, ↓SBK2, SX, Nat.reduceEqDiff, Nat.reduceAdd, Nat.reduceMul, Nat.reduceSub, ↓reduceIte, Int.reduceNeg, Int.reduceToNat, Int.reducePow, hmd, hks, hQ]
      (first | refine call_i hP (kS) (.inl ⟨rfl, fun _ hx => nomatch hx⟩) ?_ | refine callH_i hP (kS) (.inl ⟨rfl, fun _ hx => nomatch hx⟩) ?_)
      simp +decide (maxSteps := 20000000) (disch := omega) only [↓SBK, ↓SBK2, SX, Nat.reduceEqDiff, Nat.reduceAdd, Nat.reduceMul, Nat.reduceSub, ↓reduceIte, Int.reduceNeg, Int.reduceToNat, Int.reducePow, hmd, hks, hQ]
      (first | refine call_i hP (kR) (.inl ⟨rfl, fun _ hx => nomatch hx⟩) ?_ | refine callH_i hP (kR) (.inl ⟨rfl, fun _ hx => nomatch hx⟩) ?_)
      simp +decide (maxSteps := 20000000) (disch := omega) only [↓SBK, ↓SBK2, SX, Nat.reduceEqDiff, Nat.reduceAdd, Nat.reduceMul, Nat.reduceSub, ↓reduceIte, Int.reduceNeg, Int.reduceToNat, Int.reducePow, hmd, hks, hQ]
      (first | refine call_i hP (kP) (.inl ⟨rfl, fun _ hx => nomatch hx⟩) ?_ | refine callH_i hP (kP) (.inl ⟨rfl, fun _ hx => nomatch hx⟩) ?_)
      simp +decide (maxSteps := 20000000) (disch := omega) only [↓SBK, ↓SBK2, SX, Nat.reduceEqDiff, Nat.reduceAdd, Nat.reduceMul, Nat.reduceSub, ↓reduceIte, Int.reduceNeg, Int.reduceToNat, Int.reducePow, hmd, hks, hQ]
      have kB := sameBytes_self g (by omega)
      (first | refine call_i hP (kB) (.inl ⟨rfl, fun _ hx => nomatch hx⟩) ?_ | refine callH_i hP (kB) (.inl ⟨rfl, fun _ hx => nomatch hx⟩) ?_)
      simp +decide (maxSteps := 20000000) (disch := omega) only [↓SBK, ↓SBK2, SX, Nat.reduceEqDiff, Nat.reduceAdd, Nat.reduceMul, Nat.reduceSub, ↓reduceIte, Int.reduceNeg, Int.reduceToNat, Int.reducePow, hmd, hks, hQ]
end Go.Proofs.Ytliklgcfdgdigaa.Awp

namespace Go.Proofs.Ytliklgcfdgdigaa.Awp
open Go.Proofs
set_option linter.unusedSimpArgs false
set_option linter.unusedVariables false

/-! ### what is read of an argument is a value of its type -/
theorem Shp.nil_inv {ts : List TV} (h : Shp [] ts) : ts = [] := by cases h; rfl
theorem Shp.sl_inv {s : Nat} {e ys : List Ty} {ts : List TV} (h : Shp (.sl s e :: ys) ts) : ∃ es us, ts = .sl s es :: us ∧ es.length ≤ 2 ^ 47 ∧ (∀ r ∈ es, Shp e r) ∧ Shp ys us := by
  cases h with | sl _ _ es _ us hl he h => exact ⟨es, us, rfl, hl, he, h⟩
theorem rows_ofShp {α : Type} {sh : List Ty} {row : α → List TV} {good : α → Prop} (H : ∀ ts, Shp sh ts → ∃ x, ts = row x ∧ good x) : ∀ {es : List (List TV)}, (∀ r ∈ es, Shp sh r) → ∃ l : List α, es = l.map row ∧ ∀ x ∈ l, good x := by
  intro es
  induction es with
  | nil => intro _; exact ⟨[], rfl, by simp⟩
  | cons r es ih =>
    intro h
    obtain ⟨x, rfl, hx⟩ := H r (h r (by simp))
    obtain ⟨l, rfl, hl⟩ := ih fun r hr => h r (by simp [hr])
    exact ⟨x :: l, rfl, fun y hy => by rcases List.mem_cons.1 hy with rfl | hy; exact hx; exact hl y hy⟩
theorem byte_ofShp (ts : List TV) (h : Shp [.int .u8] ts) : ∃ x : UInt8, ts = byteRow x ∧ True := by
  cases h with
  | int _ n _ us hn h =>
    cases h
    obtain ⟨h1, h2⟩ := bounds_u8 hn
    refine ⟨UInt8.ofNat n.toNat, ?_, trivial⟩
    have : (UInt8.ofNat n.toNat).toNat = n.toNat := by simp; omega
    simp only [byteRow, this]
    congr 2
    omega
theorem bytes_ofShp {es : List (List TV)} (h : ∀ r ∈ es, Shp [.int .u8] r) : ∃ b : Bytes, es = bytesR b := by
  obtain ⟨l, rfl, _⟩ := rows_ofShp byte_ofShp h
  exact ⟨l, rfl⟩
theorem len_ofb {b : Bytes} (h : (bytesR b).length ≤ 2 ^ 47) : b.length < 2 ^ 48 := Nat.lt_of_le_of_lt (by simpa [bytesR] using h) (by decide)
end Go.Proofs.Ytliklgcfdgdigaa.Awp

