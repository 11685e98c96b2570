/- The law FnExactFreeBlocks (the program's FreeBlocks returns what the reference's FreeBlocks returns, for all arguments) holds for every argument: the given statement FnExactFreeBlocksSaid is proved. Condition: none. -/
import Derived.Test.YtliklgcfdgdigaaAwp4
import Derived.Test.YtliklgcfdgdigaaRows
import Derived.OpenShut
import Derived.KernelRfl
namespace Go.Proofs.Ytliklgcfdgdigaa.Awp
open I

def c_L_FnExactFreeBlocks : Cmd := Q (R [n 1 (box 1 (v 0)), n 2 (asg 2 k0)]) (Q (R [n 3 (asg 3 (k 1048576))]) (Q (R [n 7 (ld 7 (v 1) 5 true), n 8 (mov 8 (v 3)), n 9 (call (some 9) 96 [v 7, v 8]), n 3 (asg 3 (v 9))]) (Q (Q (R [n 10 (mov 10 (v 3)), n 11 (bin 11 .lss (v 10) (k 0))]) (F (v 11) (Q (R [n 2 (asg 2 k1)]) .ret) .skip)) (Q (R [n 12 (ld 12 (v 1) 5 true), n 13 (call (some 13) 98 [v 12]), n 14 (call (some 14) 97 [v 13]), n 4 (asg 4 (v 14))]) (Q (R [n 15 (ld 15 (v 1) 5 true), n 16 (call (some 16) 98 [v 15]), n 5 (alc 5 [.sl 3 [], .int .i64 0, .sl 3 [], .bool false, .int .i64 0]), m (st (v 5) (v 16) 5)]) (Q (R [n 17 (ld 17 (v 5) 5 true), n 18 (call (some 18) 99 [v 17]), n 6 (asg 6 (v 18))]) (Q (Q (R [n 19 (mov 19 (v 6)), n 20 (mov 20 (v 4)), n 21 (bin 21 .neq (v 19) (v 20))]) (F (v 21) (Q (R [n 2 (asg 2 k0)]) .ret) .skip)) (Q (Q (D [0, 0, 2, 7, 15] [n 22 (ld 22 (v 5) 5 true), n 23 (ld 23 (v 1) 5 true), n 24 (call (some 24) 98 [v 23]), n 25 (call (some 25) 100 [v 22, v 24]), n 26 (un 26 .not (v 25))]) (F (v 26) (Q (R [n 2 (asg 2 k0)]) .ret) .skip)) (Q (R [n 2 (asg 2 k1)]) .ret)))))))))
def c_L_eqByteS : Cmd := Q (R [n 4 (asg 4 k0)]) (Q (Q (R [n 6 (mov 6 (v 0)), n 7 (len 7 (v 6)), n 8 (mov 8 (v 1)), n 9 (len 9 (v 8)), n 10 (bin 10 .neq (v 7) (v 9))]) (F (v 10) (Q (R [n 4 (asg 4 k0)]) .ret) .skip)) (Q (Q (R [n 5 (asg 5 (k 0))]) (.blk 0 (.loop (Q (Q (R [n 11 (mov 11 (v 5)), n 12 (mov 12 (v 0)), n 13 (len 13 (v 12)), n 14 (bin 14 .lss (v 11) (v 13))]) (F (v 14) .skip (.exit 0))) (Q (.blk 1 (Q (D [0, 0, 3, 7, 0, 0, 48, 112, 255] [n 17 (mov 17 (v 0)), n 18 (mov 18 (v 5)), n 19 (idx 19 (v 17) (v 18) 1), n 20 (ld 20 (v 19) 1 false), n 21 (mov 21 (v 1)), n 22 (mov 22 (v 5)), n 23 (idx 23 (v 21) (v 22) 1), n 24 (ld 24 (v 23) 1 false), n 25 (bin 25 .neq (v 20) (v 24))]) (F (v 25) (Q (R [n 4 (asg 4 k0)]) .ret) .skip))) (R [n 15 (mov 15 (v 5)), n 16 (bin 16 .add (v 15) (k 1)), n 5 (asg 5 (v 16))])))))) (Q (R [n 4 (asg 4 k1)]) .ret)))
def c_L_eqChip : Cmd := Q (R [n 2 (box 2 (v 0)), n 3 (box 3 (v 1)), n 4 (asg 4 k0)]) (Q (Q (R [n 5 (fld 5 (v 2) 0), n 6 (ld 6 (v 5) 1 false), n 7 (fld 7 (v 3) 0), n 8 (ld 8 (v 7) 1 false), n 9 (call (some 9) 126 [v 6, v 8]), n 10 (un 10 .not (v 9))]) (F (v 10) (Q (R [n 4 (asg 4 k0)]) .ret) .skip)) (Q (R [n 4 (asg 4 k1)]) .ret))
def c_L_szChip : Cmd := Q (R [n 2 (box 2 (v 0)), n 4 (asg 4 (k 0))]) (Q (R [n 5 (fld 5 (v 2) 0), n 6 (ld 6 (v 5) 1 false), n 7 (mov 7 (v 1)), n 8 (call (some 8) 131 [v 6, v 7]), n 1 (asg 1 (v 8))]) (Q (Q (R [n 9 (mov 9 (v 1)), n 10 (bin 10 .lss (v 9) (k 0))]) (F (v 10) (Q (R [n 4 (asg 4 (k (-1)))]) .ret) .skip)) (Q (R [n 11 (mov 11 (v 1)), n 4 (asg 4 (v 11))]) .ret)))
def c_L_toChip : Cmd := Q (R [n 1 (box 1 (v 0)), n 2 (alc 2 [.sl 3 []])]) (Q (R [n 3 (alc 3 [.sl 3 []])]) (Q (R [n 4 (fld 4 (v 1) 0), n 5 (ld 5 (v 4) 1 false), n 6 (call (some 6) 132 [v 5]), n 7 (fld 7 (v 3) 0), m (st (v 7) (v 6) 1)]) (Q (R [n 8 (ld 8 (v 3) 1 true), m (st (v 2) (v 8) 1)]) .ret)))
def c_L_toByteS : Cmd := Q (R [n 2 (asg 2 (.c (.own 1 [])))]) (Q (R [n 5 (mov 5 (v 0)), n 6 (len 6 (v 5)), n 7 (mks 7 (v 6) (v 6) 1 1 [.int .u8 0]), n 3 (asg 3 (v 7))]) (Q (Q (R [n 4 (asg 4 (k 0))]) (.blk 0 (.loop (Q (Q (R [n 8 (mov 8 (v 4)), n 9 (mov 9 (v 0)), n 10 (len 10 (v 9)), n 11 (bin 11 .lss (v 8) (v 10))]) (F (v 11) .skip (.exit 0))) (Q (.blk 1 (R [n 14 (mov 14 (v 3)), n 15 (mov 15 (v 4)), n 16 (mov 16 (v 0)), n 17 (mov 17 (v 4)), n 18 (idx 18 (v 16) (v 17) 1), n 19 (ld 19 (v 18) 1 false), n 20 (idx 20 (v 14) (v 15) 1), m (st (v 20) (v 19) 1)])) (R [n 12 (mov 12 (v 4)), n 13 (bin 13 .add (v 12) (k 1)), n 4 (asg 4 (v 13))])))))) (Q (R [n 21 (mov 21 (v 3)), n 2 (asg 2 (v 21))]) .ret)))
def c_I_NextPage : Cmd := Q (R [n 2 (box 2 (v 0)), n 4 (asg 4 (k 0))]) (Q (Q (R [n 8 (ld 8 (v 2) 1 true), n 9 (mov 9 (v 1)), n 10 (call (some 10) 139 [v 8, v 9]), n 11 (un 11 .not (v 10))]) (F (v 11) (Q (R [n 4 (asg 4 (k (-1)))]) .ret) .skip)) (Q (R [n 5 (asg 5 (k 0))]) (Q (Q (R [n 12 (fld 12 (v 2) 0), n 13 (ld 13 (v 12) 1 false), n 14 (mov 14 (v 1)), n 15 (idx 15 (v 13) (v 14) 3), n 16 (fld 16 (v 15) 0), n 17 (ld 17 (v 16) 1 false), n 18 (len 18 (v 17)), n 19 (mov 19 (k 0))]) (.blk 0 (.loop (Q (R [n 20 (bin 20 .lss (v 19) (v 18))]) (Q (F (v 20) .skip (.exit 0)) (Q (.blk 1 (Q (R [n 21 (idx 21 (v 17) (v 19) 2), n 22 (ld 22 (v 21) 2 true), n 7 (alc 7 [.bool false, .sl 1 []]), m (st (v 7) (v 22) 2)]) (Q (R [n 23 (fld 23 (v 7) 0), n 24 (ld 24 (v 23) 1 false)]) (F (v 24) (R [n 25 (mov 25 (v 5)), n 26 (bin 26 .add (v 25) (k 1)), n 5 (asg 5 (v 26))]) .skip)))) (R [n 27 (bin 27 .add (v 19) (k 1)), n 19 (mov 19 (v 27))]))))))) (Q (R [n 28 (mov 28 (v 5)), n 4 (asg 4 (v 28))]) .ret))))
def c_L_szDev : Cmd := Q (R [n 2 (box 2 (v 0)), n 4 (asg 4 (k 0))]) (Q (R [n 5 (fld 5 (v 2) 0), n 6 (ld 6 (v 5) 1 true), n 7 (mov 7 (v 1)), n 8 (call (some 8) 56 [v 6, v 7]), n 1 (asg 1 (v 8))]) (Q (Q (R [n 9 (mov 9 (v 1)), n 10 (bin 10 .lss (v 9) (k 0))]) (F (v 10) (Q (R [n 4 (asg 4 (k (-1)))]) .ret) .skip)) (Q (R [n 11 (fld 11 (v 2) 2), n 12 (ld 12 (v 11) 1 false), n 13 (mov 13 (v 1)), n 14 (call (some 14) 101 [v 12, v 13]), n 1 (asg 1 (v 14))]) (Q (Q (R [n 15 (mov 15 (v 1)), n 16 (bin 16 .lss (v 15) (k 0))]) (F (v 16) (Q (R [n 4 (asg 4 (k (-1)))]) .ret) .skip)) (Q (R [n 17 (mov 17 (v 1)), n 4 (asg 4 (v 17))]) .ret)))))
def c_L_toDev : Cmd := Q (R [n 1 (box 1 (v 0)), n 2 (alc 2 [.sl 3 [], .int .i64 0, .sl 3 [], .bool false])]) (Q (R [n 3 (alc 3 [.sl 3 [], .int .i64 0, .sl 3 [], .bool false])]) (Q (R [n 4 (fld 4 (v 1) 0), n 5 (ld 5 (v 4) 1 true), n 6 (call (some 6) 58 [v 5]), n 7 (fld 7 (v 3) 0), m (st (v 7) (v 6) 1)]) (Q (R [n 8 (fld 8 (v 1) 1), n 9 (ld 9 (v 8) 1 false), n 10 (fld 10 (v 3) 1), m (st (v 10) (v 9) 1)]) (Q (R [n 11 (fld 11 (v 1) 2), n 12 (ld 12 (v 11) 1 false), n 13 (call (some 13) 103 [v 12]), n 14 (fld 14 (v 3) 2), m (st (v 14) (v 13) 1)]) (Q (R [n 15 (fld 15 (v 1) 3), n 16 (ld 16 (v 15) 1 false), n 17 (fld 17 (v 3) 3), m (st (v 17) (v 16) 1)]) (Q (R [n 18 (ld 18 (v 3) 4 true), m (st (v 2) (v 18) 4)]) .ret))))))
def c_L_eqFault : Cmd := Q (R [n 2 (box 2 (v 0)), n 3 (box 3 (v 1)), n 4 (asg 4 k0)]) (Q (Q (R [n 5 (fld 5 (v 2) 0), n 6 (ld 6 (v 5) 1 false), n 7 (fld 7 (v 3) 0), n 8 (ld 8 (v 7) 1 false), n 9 (bin 9 .neq (v 6) (v 8))]) (F (v 9) (Q (R [n 4 (asg 4 k0)]) .ret) .skip)) (Q (Q (R [n 10 (fld 10 (v 2) 1), n 11 (ld 11 (v 10) 1 false), n 12 (fld 12 (v 3) 1), n 13 (ld 13 (v 12) 1 false), n 14 (bin 14 .neq (v 11) (v 13))]) (F (v 14) (Q (R [n 4 (asg 4 k0)]) .ret) .skip)) (Q (Q (R [n 15 (fld 15 (v 2) 2), n 16 (ld 16 (v 15) 1 false), n 17 (fld 17 (v 3) 2), n 18 (ld 18 (v 17) 1 false), n 19 (bin 19 .neq (v 16) (v 18))]) (F (v 19) (Q (R [n 4 (asg 4 k0)]) .ret) .skip)) (Q (R [n 4 (asg 4 k1)]) .ret))))
def c_L_eqDev : Cmd := Q (R [n 2 (box 2 (v 0)), n 3 (box 3 (v 1)), n 4 (asg 4 k0)]) (Q (Q (R [n 5 (fld 5 (v 2) 0), n 6 (ld 6 (v 5) 1 true), n 7 (fld 7 (v 3) 0), n 8 (ld 8 (v 7) 1 true), n 9 (call (some 9) 50 [v 6, v 8]), n 10 (un 10 .not (v 9))]) (F (v 10) (Q (R [n 4 (asg 4 k0)]) .ret) .skip)) (Q (Q (R [n 11 (fld 11 (v 2) 1), n 12 (ld 12 (v 11) 1 false), n 13 (fld 13 (v 3) 1), n 14 (ld 14 (v 13) 1 false), n 15 (bin 15 .neq (v 12) (v 14))]) (F (v 15) (Q (R [n 4 (asg 4 k0)]) .ret) .skip)) (Q (Q (R [n 16 (fld 16 (v 2) 2), n 17 (ld 17 (v 16) 1 false), n 18 (fld 18 (v 3) 2), n 19 (ld 19 (v 18) 1 false), n 20 (call (some 20) 105 [v 17, v 19]), n 21 (un 21 .not (v 20))]) (F (v 21) (Q (R [n 4 (asg 4 k0)]) .ret) .skip)) (Q (Q (R [n 22 (fld 22 (v 2) 3), n 23 (ld 23 (v 22) 1 false), n 24 (fld 24 (v 3) 3), n 25 (ld 25 (v 24) 1 false), n 26 (beq 26 true (v 23) (v 25))]) (F (v 26) (Q (R [n 4 (asg 4 k0)]) .ret) .skip)) (Q (R [n 4 (asg 4 k1)]) .ret)))))
def c_L_szLog : Cmd := Q (R [n 2 (box 2 (v 0)), n 4 (asg 4 (k 0))]) (Q (R [n 5 (fld 5 (v 2) 0), n 6 (ld 6 (v 5) 4 true), n 7 (mov 7 (v 1)), n 8 (call (some 8) 81 [v 6, v 7]), n 1 (asg 1 (v 8))]) (Q (Q (R [n 9 (mov 9 (v 1)), n 10 (bin 10 .lss (v 9) (k 0))]) (F (v 10) (Q (R [n 4 (asg 4 (k (-1)))]) .ret) .skip)) (Q (R [n 11 (mov 11 (v 1)), n 4 (asg 4 (v 11))]) .ret)))
def c_S_FreeBlocks : Cmd := Q (R [n 1 (box 1 (v 0)), n 2 (asg 2 (k 0))]) (Q (R [n 3 (asg 3 (k 0))]) (Q (Q (R [n 4 (asg 4 (k 0))]) (.blk 0 (.loop (Q (Q (R [n 5 (mov 5 (v 4)), n 6 (fld 6 (v 1) 0), n 7 (fld 7 (v 6) 0), n 8 (fld 8 (v 7) 0), n 9 (ld 9 (v 8) 1 false), n 10 (len 10 (v 9)), n 11 (bin 11 .lss (v 5) (v 10))]) (F (v 11) .skip (.exit 0))) (Q (.blk 1 (Q (R [n 14 (fld 14 (v 1) 0), n 15 (fld 15 (v 14) 0), n 16 (fld 16 (v 15) 0), n 17 (ld 17 (v 16) 1 false), n 18 (mov 18 (v 4)), n 19 (idx 19 (v 17) (v 18) 3), n 20 (fld 20 (v 19) 2), n 21 (ld 21 (v 20) 1 false), n 22 (un 22 .not (v 21)), n 23 (mov 23 (v 22)), h 23 true 24 (fld 24 (v 1) 0), h 23 true 25 (fld 25 (v 24) 0), h 23 true 26 (fld 26 (v 25) 0), h 23 true 27 (ld 27 (v 26) 1 false), h 23 true 28 (mov 28 (v 4)), h 23 true 29 (idx 29 (v 27) (v 28) 3), h 23 true 30 (ld 30 (v 29) 3 true), h 23 true 31 (call (some 31) 138 [v 30]), h 23 true 32 (bin 32 .eql (v 31) (k 0)), n 33 (pck 33 (v 23) (v 32) k0)]) (F (v 33) (R [n 34 (mov 34 (v 3)), n 35 (bin 35 .add (v 34) (k 1)), n 3 (asg 3 (v 35))]) .skip))) (R [n 12 (mov 12 (v 4)), n 13 (bin 13 .add (v 12) (k 1)), n 4 (asg 4 (v 13))])))))) (Q (R [n 36 (mov 36 (v 3)), n 2 (asg 2 (v 36))]) .ret)))
def c_L_toLog : Cmd := Q (R [n 1 (box 1 (v 0)), n 2 (alc 2 [.sl 3 [], .int .i64 0, .sl 3 [], .bool false, .int .i64 0])]) (Q (R [n 3 (alc 3 [.sl 3 [], .int .i64 0, .sl 3 [], .bool false, .int .i64 0])]) (Q (R [n 4 (fld 4 (v 1) 0), n 5 (ld 5 (v 4) 4 true), n 6 (call (some 6) 83 [v 5]), n 7 (fld 7 (v 3) 0), m (st (v 7) (v 6) 4)]) (Q (R [n 8 (fld 8 (v 1) 4), n 9 (ld 9 (v 8) 1 false), n 10 (fld 10 (v 3) 4), m (st (v 10) (v 9) 1)]) (Q (R [n 11 (ld 11 (v 3) 5 true), m (st (v 2) (v 11) 5)]) .ret))))
def c_I_FreeBlocks : Cmd := Q (R [n 1 (box 1 (v 0)), n 2 (asg 2 (k 0))]) (Q (R [n 3 (asg 3 (k 0))]) (Q (Q (R [n 6 (fld 6 (v 1) 0), n 7 (fld 7 (v 6) 0), n 8 (fld 8 (v 7) 0), n 9 (ld 9 (v 8) 1 false), n 10 (len 10 (v 9)), n 11 (mov 11 (k 0))]) (.blk 0 (.loop (Q (R [n 12 (bin 12 .lss (v 11) (v 10))]) (Q (F (v 12) .skip (.exit 0)) (Q (.blk 1 (Q (R [n 13 (mov 13 (v 11)), n 14 (idx 14 (v 9) (v 11) 3), n 15 (ld 15 (v 14) 3 true), n 5 (alc 5 [.sl 2 [], .int .i64 0, .bool false]), n 4 (asg 4 (v 13)), m (st (v 5) (v 15) 3)]) (Q (R [n 16 (fld 16 (v 5) 2), n 17 (ld 17 (v 16) 1 false), n 18 (un 18 .not (v 17)), n 19 (mov 19 (v 18)), h 19 true 20 (fld 20 (v 1) 0), h 19 true 21 (fld 21 (v 20) 0), h 19 true 22 (ld 22 (v 21) 1 true), h 19 true 23 (mov 23 (v 4)), h 19 true 24 (call (some 24) 65 [v 22, v 23]), h 19 true 25 (bin 25 .eql (v 24) (k 0)), n 26 (pck 26 (v 19) (v 25) k0)]) (F (v 26) (R [n 27 (mov 27 (v 3)), n 28 (bin 28 .add (v 27) (k 1)), n 3 (asg 3 (v 28))]) .skip)))) (R [n 29 (bin 29 .add (v 11) (k 1)), n 11 (mov 11 (v 29))]))))))) (Q (R [n 30 (mov 30 (v 3)), n 2 (asg 2 (v 30))]) .ret)))
def c_L_eqLog : Cmd := Q (R [n 2 (box 2 (v 0)), n 3 (box 3 (v 1)), n 4 (asg 4 k0)]) (Q (Q (R [n 5 (fld 5 (v 2) 0), n 6 (ld 6 (v 5) 4 true), n 7 (fld 7 (v 3) 0), n 8 (ld 8 (v 7) 4 true), n 9 (call (some 9) 86 [v 6, v 8]), n 10 (un 10 .not (v 9))]) (F (v 10) (Q (R [n 4 (asg 4 k0)]) .ret) .skip)) (Q (Q (R [n 11 (fld 11 (v 2) 4), n 12 (ld 12 (v 11) 1 false), n 13 (fld 13 (v 3) 4), n 14 (ld 14 (v 13) 1 false), n 15 (bin 15 .neq (v 12) (v 14))]) (F (v 15) (Q (R [n 4 (asg 4 k0)]) .ret) .skip)) (Q (R [n 4 (asg 4 k1)]) .ret)))
def c_L_szFaultS : Cmd := Q (R [n 4 (asg 4 (k 0))]) (Q (R [n 5 (mov 5 (v 1)), n 6 (mov 6 (v 0)), n 7 (len 7 (v 6)), n 8 (bin 8 .sub (v 5) (v 7)), n 1 (asg 1 (v 8))]) (Q (Q (R [n 9 (mov 9 (v 1)), n 10 (bin 10 .lss (v 9) (k 0))]) (F (v 10) (Q (R [n 4 (asg 4 (k (-1)))]) .ret) .skip)) (Q (R [n 11 (mov 11 (v 1)), n 4 (asg 4 (v 11))]) .ret)))
def c_L_toFaultS : Cmd := Q (R [n 2 (asg 2 (.c (.own 3 [])))]) (Q (R [n 5 (mov 5 (v 0)), n 6 (len 6 (v 5)), n 7 (mks 7 (v 6) (v 6) 3 24 [.int .i64 0, .int .i64 0, .int .i64 0]), n 3 (asg 3 (v 7))]) (Q (Q (R [n 4 (asg 4 (k 0))]) (.blk 0 (.loop (Q (Q (R [n 8 (mov 8 (v 4)), n 9 (mov 9 (v 0)), n 10 (len 10 (v 9)), n 11 (bin 11 .lss (v 8) (v 10))]) (F (v 11) .skip (.exit 0))) (Q (.blk 1 (R [n 14 (mov 14 (v 3)), n 15 (mov 15 (v 4)), n 16 (mov 16 (v 0)), n 17 (mov 17 (v 4)), n 18 (idx 18 (v 16) (v 17) 3), n 19 (ld 19 (v 18) 3 true), n 20 (call (some 20) 158 [v 19]), n 21 (idx 21 (v 14) (v 15) 3), m (st (v 21) (v 20) 3)])) (R [n 12 (mov 12 (v 4)), n 13 (bin 13 .add (v 12) (k 1)), n 4 (asg 4 (v 13))])))))) (Q (R [n 22 (mov 22 (v 3)), n 2 (asg 2 (v 22))]) .ret)))
def c_L_eqFaultS : Cmd := Q (R [n 4 (asg 4 k0)]) (Q (Q (R [n 6 (mov 6 (v 0)), n 7 (len 7 (v 6)), n 8 (mov 8 (v 1)), n 9 (len 9 (v 8)), n 10 (bin 10 .neq (v 7) (v 9))]) (F (v 10) (Q (R [n 4 (asg 4 k0)]) .ret) .skip)) (Q (Q (R [n 5 (asg 5 (k 0))]) (.blk 0 (.loop (Q (Q (R [n 11 (mov 11 (v 5)), n 12 (mov 12 (v 0)), n 13 (len 13 (v 12)), n 14 (bin 14 .lss (v 11) (v 13))]) (F (v 14) .skip (.exit 0))) (Q (.blk 1 (Q (D [0, 0, 3, 7, 0, 0, 48, 112, 255, 511] [n 17 (mov 17 (v 0)), n 18 (mov 18 (v 5)), n 19 (idx 19 (v 17) (v 18) 3), n 20 (ld 20 (v 19) 3 true), n 21 (mov 21 (v 1)), n 22 (mov 22 (v 5)), n 23 (idx 23 (v 21) (v 22) 3), n 24 (ld 24 (v 23) 3 true), n 25 (call (some 25) 85 [v 20, v 24]), n 26 (un 26 .not (v 25))]) (F (v 26) (Q (R [n 4 (asg 4 k0)]) .ret) .skip))) (R [n 15 (mov 15 (v 5)), n 16 (bin 16 .add (v 15) (k 1)), n 5 (asg 5 (v 16))])))))) (Q (R [n 4 (asg 4 k1)]) .ret)))
def c_L_szByteS : Cmd := Q (R [n 4 (asg 4 (k 0))]) (Q (R [n 5 (mov 5 (v 1)), n 6 (mov 6 (v 0)), n 7 (len 7 (v 6)), n 8 (bin 8 .sub (v 5) (v 7)), n 1 (asg 1 (v 8))]) (Q (Q (R [n 9 (mov 9 (v 1)), n 10 (bin 10 .lss (v 9) (k 0))]) (F (v 10) (Q (R [n 4 (asg 4 (k (-1)))]) .ret) .skip)) (Q (R [n 11 (mov 11 (v 1)), n 4 (asg 4 (v 11))]) .ret)))
def c_I_from : Cmd := Q (R [n 6 (asg 6 k0)]) (Q (R [n 7 (mov 7 (v 0)), n 8 (mov 8 (v 1)), n 9 (bin 9 .geq (v 7) (v 8)), n 10 (mov 10 (v 9)), h 10 true 11 (mov 11 (v 0)), h 10 true 12 (mov 12 (v 2)), h 10 true 13 (bin 13 .leq (v 11) (v 12)), n 14 (pck 14 (v 10) (v 13) k0), n 6 (asg 6 (v 14))]) .ret)
def c_L_eqBlockS : Cmd := Q (R [n 4 (asg 4 k0)]) (Q (Q (R [n 6 (mov 6 (v 0)), n 7 (len 7 (v 6)), n 8 (mov 8 (v 1)), n 9 (len 9 (v 8)), n 10 (bin 10 .neq (v 7) (v 9))]) (F (v 10) (Q (R [n 4 (asg 4 k0)]) .ret) .skip)) (Q (Q (R [n 5 (asg 5 (k 0))]) (.blk 0 (.loop (Q (Q (R [n 11 (mov 11 (v 5)), n 12 (mov 12 (v 0)), n 13 (len 13 (v 12)), n 14 (bin 14 .lss (v 11) (v 13))]) (F (v 14) .skip (.exit 0))) (Q (.blk 1 (Q (D [0, 0, 3, 7, 0, 0, 48, 112, 255, 511] [n 17 (mov 17 (v 0)), n 18 (mov 18 (v 5)), n 19 (idx 19 (v 17) (v 18) 3), n 20 (ld 20 (v 19) 3 true), n 21 (mov 21 (v 1)), n 22 (mov 22 (v 5)), n 23 (idx 23 (v 21) (v 22) 3), n 24 (ld 24 (v 23) 3 true), n 25 (call (some 25) 169 [v 20, v 24]), n 26 (un 26 .not (v 25))]) (F (v 26) (Q (R [n 4 (asg 4 k0)]) .ret) .skip))) (R [n 15 (mov 15 (v 5)), n 16 (bin 16 .add (v 15) (k 1)), n 5 (asg 5 (v 16))])))))) (Q (R [n 4 (asg 4 k1)]) .ret)))
def c_L_szBlockS : Cmd := Q (R [n 4 (asg 4 (k 0))]) (Q (R [n 6 (mov 6 (v 1)), n 7 (mov 7 (v 0)), n 8 (len 8 (v 7)), n 9 (bin 9 .sub (v 6) (v 8)), n 1 (asg 1 (v 9))]) (Q (Q (R [n 10 (mov 10 (v 1)), n 11 (bin 11 .lss (v 10) (k 0))]) (F (v 11) (Q (R [n 4 (asg 4 (k (-1)))]) .ret) .skip)) (Q (Q (R [n 5 (asg 5 (k 0))]) (.blk 0 (.loop (Q (Q (R [n 12 (mov 12 (v 5)), n 13 (mov 13 (v 0)), n 14 (len 14 (v 13)), n 15 (bin 15 .lss (v 12) (v 14))]) (F (v 15) .skip (.exit 0))) (Q (.blk 1 (Q (R [n 18 (mov 18 (v 0)), n 19 (mov 19 (v 5)), n 20 (idx 20 (v 18) (v 19) 3), n 21 (ld 21 (v 20) 3 true), n 22 (mov 22 (v 1)), n 23 (call (some 23) 173 [v 21, v 22]), n 1 (asg 1 (v 23))]) (Q (R [n 24 (mov 24 (v 1)), n 25 (bin 25 .lss (v 24) (k 0))]) (F (v 25) (Q (R [n 4 (asg 4 (k (-1)))]) .ret) .skip)))) (R [n 16 (mov 16 (v 5)), n 17 (bin 17 .add (v 16) (k 1)), n 5 (asg 5 (v 17))])))))) (Q (R [n 26 (mov 26 (v 1)), n 4 (asg 4 (v 26))]) .ret))))
def c_L_toBlockS : Cmd := Q (R [n 2 (asg 2 (.c (.own 3 [])))]) (Q (R [n 5 (mov 5 (v 0)), n 6 (len 6 (v 5)), n 7 (mks 7 (v 6) (v 6) 3 40 [.sl 2 [], .int .i64 0, .bool false]), n 3 (asg 3 (v 7))]) (Q (Q (R [n 4 (asg 4 (k 0))]) (.blk 0 (.loop (Q (Q (R [n 8 (mov 8 (v 4)), n 9 (mov 9 (v 0)), n 10 (len 10 (v 9)), n 11 (bin 11 .lss (v 8) (v 10))]) (F (v 11) .skip (.exit 0))) (Q (.blk 1 (R [n 14 (mov 14 (v 3)), n 15 (mov 15 (v 4)), n 16 (mov 16 (v 0)), n 17 (mov 17 (v 4)), n 18 (idx 18 (v 16) (v 17) 3), n 19 (ld 19 (v 18) 3 true), n 20 (call (some 20) 174 [v 19]), n 21 (idx 21 (v 14) (v 15) 3), m (st (v 21) (v 20) 3)])) (R [n 12 (mov 12 (v 4)), n 13 (bin 13 .add (v 12) (k 1)), n 4 (asg 4 (v 13))])))))) (Q (R [n 22 (mov 22 (v 3)), n 2 (asg 2 (v 22))]) .ret)))
def c_S_l10Next : Cmd := Q (R [n 1 (box 1 (v 0)), n 2 (asg 2 (k 0))]) (Q (R [n 3 (asg 3 (k 0))]) (Q (Q (R [n 4 (asg 4 (k 0))]) (.blk 0 (.loop (Q (Q (R [n 5 (mov 5 (v 4)), n 6 (fld 6 (v 1) 0), n 7 (ld 7 (v 6) 1 false), n 8 (len 8 (v 7)), n 9 (bin 9 .lss (v 5) (v 8))]) (F (v 9) .skip (.exit 0))) (Q (.blk 1 (Q (R [n 12 (fld 12 (v 1) 0), n 13 (ld 13 (v 12) 1 false), n 14 (mov 14 (v 4)), n 15 (idx 15 (v 13) (v 14) 2), n 16 (fld 16 (v 15) 0), n 17 (ld 17 (v 16) 1 false)]) (F (v 17) (R [n 18 (mov 18 (v 3)), n 19 (bin 19 .add (v 18) (k 1)), n 3 (asg 3 (v 19))]) .skip))) (R [n 10 (mov 10 (v 4)), n 11 (bin 11 .add (v 10) (k 1)), n 4 (asg 4 (v 11))])))))) (Q (R [n 20 (mov 20 (v 3)), n 2 (asg 2 (v 20))]) .ret)))
def c_I_isBlock : Cmd := Q (R [n 2 (box 2 (v 0)), n 4 (asg 4 k0)]) (Q (R [n 5 (mov 5 (v 1)), n 6 (fld 6 (v 2) 0), n 7 (ld 7 (v 6) 1 false), n 8 (len 8 (v 7)), n 9 (bin 9 .sub (v 8) (k 1)), n 10 (call (some 10) 121 [v 5, k 0, v 9]), n 4 (asg 4 (v 10))]) .ret)
def c_L_toFault : Cmd := Q (R [n 1 (box 1 (v 0)), n 2 (alc 2 [.int .i64 0, .int .i64 0, .int .i64 0])]) (Q (R [n 3 (alc 3 [.int .i64 0, .int .i64 0, .int .i64 0])]) (Q (R [n 4 (fld 4 (v 1) 0), n 5 (ld 5 (v 4) 1 false), n 6 (fld 6 (v 3) 0), m (st (v 6) (v 5) 1)]) (Q (R [n 7 (fld 7 (v 1) 1), n 8 (ld 8 (v 7) 1 false), n 9 (fld 9 (v 3) 1), m (st (v 9) (v 8) 1)]) (Q (R [n 10 (fld 10 (v 1) 2), n 11 (ld 11 (v 10) 1 false), n 12 (fld 12 (v 3) 2), m (st (v 12) (v 11) 1)]) (Q (R [n 13 (ld 13 (v 3) 3 true), m (st (v 2) (v 13) 3)]) .ret)))))
def c_L_eqBlock : Cmd := Q (R [n 2 (box 2 (v 0)), n 3 (box 3 (v 1)), n 4 (asg 4 k0)]) (Q (Q (R [n 5 (fld 5 (v 2) 0), n 6 (ld 6 (v 5) 1 false), n 7 (fld 7 (v 3) 0), n 8 (ld 8 (v 7) 1 false), n 9 (call (some 9) 184 [v 6, v 8]), n 10 (un 10 .not (v 9))]) (F (v 10) (Q (R [n 4 (asg 4 k0)]) .ret) .skip)) (Q (Q (R [n 11 (fld 11 (v 2) 1), n 12 (ld 12 (v 11) 1 false), n 13 (fld 13 (v 3) 1), n 14 (ld 14 (v 13) 1 false), n 15 (bin 15 .neq (v 12) (v 14))]) (F (v 15) (Q (R [n 4 (asg 4 k0)]) .ret) .skip)) (Q (Q (R [n 16 (fld 16 (v 2) 2), n 17 (ld 17 (v 16) 1 false), n 18 (fld 18 (v 3) 2), n 19 (ld 19 (v 18) 1 false), n 20 (beq 20 true (v 17) (v 19))]) (F (v 20) (Q (R [n 4 (asg 4 k0)]) .ret) .skip)) (Q (R [n 4 (asg 4 k1)]) .ret))))
def c_L_szBlock : Cmd := Q (R [n 2 (box 2 (v 0)), n 4 (asg 4 (k 0))]) (Q (R [n 5 (fld 5 (v 2) 0), n 6 (ld 6 (v 5) 1 false), n 7 (mov 7 (v 1)), n 8 (call (some 8) 185 [v 6, v 7]), n 1 (asg 1 (v 8))]) (Q (Q (R [n 9 (mov 9 (v 1)), n 10 (bin 10 .lss (v 9) (k 0))]) (F (v 10) (Q (R [n 4 (asg 4 (k (-1)))]) .ret) .skip)) (Q (R [n 11 (mov 11 (v 1)), n 4 (asg 4 (v 11))]) .ret)))
def c_L_toBlock : Cmd := Q (R [n 1 (box 1 (v 0)), n 2 (alc 2 [.sl 2 [], .int .i64 0, .bool false])]) (Q (R [n 3 (alc 3 [.sl 2 [], .int .i64 0, .bool false])]) (Q (R [n 4 (fld 4 (v 1) 0), n 5 (ld 5 (v 4) 1 false), n 6 (call (some 6) 186 [v 5]), n 7 (fld 7 (v 3) 0), m (st (v 7) (v 6) 1)]) (Q (R [n 8 (fld 8 (v 1) 1), n 9 (ld 9 (v 8) 1 false), n 10 (fld 10 (v 3) 1), m (st (v 10) (v 9) 1)]) (Q (R [n 11 (fld 11 (v 1) 2), n 12 (ld 12 (v 11) 1 false), n 13 (fld 13 (v 3) 2), m (st (v 13) (v 12) 1)]) (Q (R [n 14 (ld 14 (v 3) 3 true), m (st (v 2) (v 14) 3)]) .ret)))))
def c_L_eqPageS : Cmd := Q (R [n 4 (asg 4 k0)]) (Q (Q (R [n 6 (mov 6 (v 0)), n 7 (len 7 (v 6)), n 8 (mov 8 (v 1)), n 9 (len 9 (v 8)), n 10 (bin 10 .neq (v 7) (v 9))]) (F (v 10) (Q (R [n 4 (asg 4 k0)]) .ret) .skip)) (Q (Q (R [n 5 (asg 5 (k 0))]) (.blk 0 (.loop (Q (Q (R [n 11 (mov 11 (v 5)), n 12 (mov 12 (v 0)), n 13 (len 13 (v 12)), n 14 (bin 14 .lss (v 11) (v 13))]) (F (v 14) .skip (.exit 0))) (Q (.blk 1 (Q (D [0, 0, 3, 7, 0, 0, 48, 112, 255, 511] [n 17 (mov 17 (v 0)), n 18 (mov 18 (v 5)), n 19 (idx 19 (v 17) (v 18) 2), n 20 (ld 20 (v 19) 2 true), n 21 (mov 21 (v 1)), n 22 (mov 22 (v 5)), n 23 (idx 23 (v 21) (v 22) 2), n 24 (ld 24 (v 23) 2 true), n 25 (call (some 25) 187 [v 20, v 24]), n 26 (un 26 .not (v 25))]) (F (v 26) (Q (R [n 4 (asg 4 k0)]) .ret) .skip))) (R [n 15 (mov 15 (v 5)), n 16 (bin 16 .add (v 15) (k 1)), n 5 (asg 5 (v 16))])))))) (Q (R [n 4 (asg 4 k1)]) .ret)))
def c_L_szPageS : Cmd := Q (R [n 4 (asg 4 (k 0))]) (Q (R [n 6 (mov 6 (v 1)), n 7 (mov 7 (v 0)), n 8 (len 8 (v 7)), n 9 (bin 9 .sub (v 6) (v 8)), n 1 (asg 1 (v 9))]) (Q (Q (R [n 10 (mov 10 (v 1)), n 11 (bin 11 .lss (v 10) (k 0))]) (F (v 11) (Q (R [n 4 (asg 4 (k (-1)))]) .ret) .skip)) (Q (Q (R [n 5 (asg 5 (k 0))]) (.blk 0 (.loop (Q (Q (R [n 12 (mov 12 (v 5)), n 13 (mov 13 (v 0)), n 14 (len 14 (v 13)), n 15 (bin 15 .lss (v 12) (v 14))]) (F (v 15) .skip (.exit 0))) (Q (.blk 1 (Q (R [n 18 (mov 18 (v 0)), n 19 (mov 19 (v 5)), n 20 (idx 20 (v 18) (v 19) 2), n 21 (ld 21 (v 20) 2 true), n 22 (mov 22 (v 1)), n 23 (call (some 23) 188 [v 21, v 22]), n 1 (asg 1 (v 23))]) (Q (R [n 24 (mov 24 (v 1)), n 25 (bin 25 .lss (v 24) (k 0))]) (F (v 25) (Q (R [n 4 (asg 4 (k (-1)))]) .ret) .skip)))) (R [n 16 (mov 16 (v 5)), n 17 (bin 17 .add (v 16) (k 1)), n 5 (asg 5 (v 17))])))))) (Q (R [n 26 (mov 26 (v 1)), n 4 (asg 4 (v 26))]) .ret))))
def c_L_toPageS : Cmd := Q (R [n 2 (asg 2 (.c (.own 2 [])))]) (Q (R [n 5 (mov 5 (v 0)), n 6 (len 6 (v 5)), n 7 (mks 7 (v 6) (v 6) 2 32 [.bool false, .sl 1 []]), n 3 (asg 3 (v 7))]) (Q (Q (R [n 4 (asg 4 (k 0))]) (.blk 0 (.loop (Q (Q (R [n 8 (mov 8 (v 4)), n 9 (mov 9 (v 0)), n 10 (len 10 (v 9)), n 11 (bin 11 .lss (v 8) (v 10))]) (F (v 11) .skip (.exit 0))) (Q (.blk 1 (R [n 14 (mov 14 (v 3)), n 15 (mov 15 (v 4)), n 16 (mov 16 (v 0)), n 17 (mov 17 (v 4)), n 18 (idx 18 (v 16) (v 17) 2), n 19 (ld 19 (v 18) 2 true), n 20 (call (some 20) 189 [v 19]), n 21 (idx 21 (v 14) (v 15) 2), m (st (v 21) (v 20) 2)])) (R [n 12 (mov 12 (v 4)), n 13 (bin 13 .add (v 12) (k 1)), n 4 (asg 4 (v 13))])))))) (Q (R [n 22 (mov 22 (v 3)), n 2 (asg 2 (v 22))]) .ret)))
def c_L_eqPage : Cmd := Q (R [n 2 (box 2 (v 0)), n 3 (box 3 (v 1)), n 4 (asg 4 k0)]) (Q (Q (R [n 5 (fld 5 (v 2) 0), n 6 (ld 6 (v 5) 1 false), n 7 (fld 7 (v 3) 0), n 8 (ld 8 (v 7) 1 false), n 9 (beq 9 true (v 6) (v 8))]) (F (v 9) (Q (R [n 4 (asg 4 k0)]) .ret) .skip)) (Q (Q (R [n 10 (fld 10 (v 2) 1), n 11 (ld 11 (v 10) 1 false), n 12 (fld 12 (v 3) 1), n 13 (ld 13 (v 12) 1 false), n 14 (call (some 14) 44 [v 11, v 13]), n 15 (un 15 .not (v 14))]) (F (v 15) (Q (R [n 4 (asg 4 k0)]) .ret) .skip)) (Q (R [n 4 (asg 4 k1)]) .ret)))
def c_L_szPage : Cmd := Q (R [n 2 (box 2 (v 0)), n 4 (asg 4 (k 0))]) (Q (R [n 5 (fld 5 (v 2) 1), n 6 (ld 6 (v 5) 1 false), n 7 (mov 7 (v 1)), n 8 (call (some 8) 119 [v 6, v 7]), n 1 (asg 1 (v 8))]) (Q (Q (R [n 9 (mov 9 (v 1)), n 10 (bin 10 .lss (v 9) (k 0))]) (F (v 10) (Q (R [n 4 (asg 4 (k (-1)))]) .ret) .skip)) (Q (R [n 11 (mov 11 (v 1)), n 4 (asg 4 (v 11))]) .ret)))
def c_L_toPage : Cmd := Q (R [n 1 (box 1 (v 0)), n 2 (alc 2 [.bool false, .sl 1 []])]) (Q (R [n 3 (alc 3 [.bool false, .sl 1 []])]) (Q (R [n 4 (fld 4 (v 1) 0), n 5 (ld 5 (v 4) 1 false), n 6 (fld 6 (v 3) 0), m (st (v 6) (v 5) 1)]) (Q (R [n 7 (fld 7 (v 1) 1), n 8 (ld 8 (v 7) 1 false), n 9 (call (some 9) 61 [v 8]), n 10 (fld 10 (v 3) 1), m (st (v 10) (v 9) 1)]) (Q (R [n 11 (ld 11 (v 3) 2 true), m (st (v 2) (v 11) 2)]) .ret))))

end Go.Proofs.Ytliklgcfdgdigaa.Awp

namespace Go.Proofs.Ytliklgcfdgdigaa.Awp
open Go.Proofs

theorem hmx : Try.prog.follows .mixedOrders = true := by kernel_rfl
theorem p_L_FnExactFreeBlocks : compile Try.prog 22 = some (27, [.t 2], c_L_FnExactFreeBlocks) := by kernel_rfl
theorem p_L_eqByteS : compile Try.prog 44 = some (26, [.t 4], c_L_eqByteS) := by kernel_rfl
theorem p_L_eqChip : compile Try.prog 50 = some (11, [.t 4], c_L_eqChip) := by kernel_rfl
theorem p_L_szChip : compile Try.prog 56 = some (12, [.t 4], c_L_szChip) := by kernel_rfl
theorem p_L_toChip : compile Try.prog 58 = some (9, [.c 2 1 true], c_L_toChip) := by kernel_rfl
theorem p_L_toByteS : compile Try.prog 61 = some (22, [.t 2], c_L_toByteS) := by kernel_rfl
theorem p_I_NextPage : compile Try.prog 65 = some (29, [.t 4], c_I_NextPage) := by kernel_rfl
theorem p_L_szDev : compile Try.prog 81 = some (18, [.t 4], c_L_szDev) := by kernel_rfl
theorem p_L_toDev : compile Try.prog 83 = some (19, [.c 2 4 true], c_L_toDev) := by kernel_rfl
theorem p_L_eqFault : compile Try.prog 85 = some (20, [.t 4], c_L_eqFault) := by kernel_rfl
theorem p_L_eqDev : compile Try.prog 86 = some (27, [.t 4], c_L_eqDev) := by kernel_rfl
theorem p_L_szLog : compile Try.prog 96 = some (12, [.t 4], c_L_szLog) := by kernel_rfl
theorem p_S_FreeBlocks : compile Try.prog 97 = some (37, [.t 2], c_S_FreeBlocks) := by kernel_rfl
theorem p_L_toLog : compile Try.prog 98 = some (12, [.c 2 5 true], c_L_toLog) := by kernel_rfl
theorem p_I_FreeBlocks : compile Try.prog 99 = some (31, [.t 2], c_I_FreeBlocks) := by kernel_rfl
theorem p_L_eqLog : compile Try.prog 100 = some (16, [.t 4], c_L_eqLog) := by kernel_rfl
theorem p_L_szFaultS : compile Try.prog 101 = some (12, [.t 4], c_L_szFaultS) := by kernel_rfl
theorem p_L_toFaultS : compile Try.prog 103 = some (23, [.t 2], c_L_toFaultS) := by kernel_rfl
theorem p_L_eqFaultS : compile Try.prog 105 = some (27, [.t 4], c_L_eqFaultS) := by kernel_rfl
theorem p_L_szByteS : compile Try.prog 119 = some (12, [.t 4], c_L_szByteS) := by kernel_rfl
theorem p_I_from : compile Try.prog 121 = some (15, [.t 6], c_I_from) := by kernel_rfl
theorem p_L_eqBlockS : compile Try.prog 126 = some (27, [.t 4], c_L_eqBlockS) := by kernel_rfl
theorem p_L_szBlockS : compile Try.prog 131 = some (27, [.t 4], c_L_szBlockS) := by kernel_rfl
theorem p_L_toBlockS : compile Try.prog 132 = some (23, [.t 2], c_L_toBlockS) := by kernel_rfl
theorem p_S_l10Next : compile Try.prog 138 = some (21, [.t 2], c_S_l10Next) := by kernel_rfl
theorem p_I_isBlock : compile Try.prog 139 = some (11, [.t 4], c_I_isBlock) := by kernel_rfl
theorem p_L_toFault : compile Try.prog 158 = some (14, [.c 2 3 true], c_L_toFault) := by kernel_rfl
theorem p_L_eqBlock : compile Try.prog 169 = some (21, [.t 4], c_L_eqBlock) := by kernel_rfl
theorem p_L_szBlock : compile Try.prog 173 = some (12, [.t 4], c_L_szBlock) := by kernel_rfl
theorem p_L_toBlock : compile Try.prog 174 = some (15, [.c 2 3 true], c_L_toBlock) := by kernel_rfl
theorem p_L_eqPageS : compile Try.prog 184 = some (27, [.t 4], c_L_eqPageS) := by kernel_rfl
theorem p_L_szPageS : compile Try.prog 185 = some (27, [.t 4], c_L_szPageS) := by kernel_rfl
theorem p_L_toPageS : compile Try.prog 186 = some (23, [.t 2], c_L_toPageS) := by kernel_rfl
theorem p_L_eqPage : compile Try.prog 187 = some (16, [.t 4], c_L_eqPage) := by kernel_rfl
theorem p_L_szPage : compile Try.prog 188 = some (12, [.t 4], c_L_szPage) := by kernel_rfl
theorem p_L_toPage : compile Try.prog 189 = some (12, [.c 2 2 true], c_L_toPage) := by kernel_rfl

end Go.Proofs.Ytliklgcfdgdigaa.Awp

namespace Go.Proofs.Ytliklgcfdgdigaa.Awp
set_option linter.unusedVariables false

/-! ### what goes on behind a bind is left alone till its first part is known -/
@[congr] theorem bind_congr_l {α β : Type} {a b : Option α} {f : α → Option β} (h : a = b) : a.bind f = b.bind f := by rw [h]
@[congr] theorem map_congr_l {α β : Type} {a b : Option α} {f : α → β} (h : a = b) : a.map f = b.map f := by rw [h]

/-- are the places of an argument's parts empty? -/
def allU (E : Env) : List Plc → Bool
  | [] => true
  | (_, _, r, p) :: l => isU (aget (E.f r) p) && allU E l
theorem allU_eq (E : Env) : ∀ l : List Plc, allU E l = l.all (fun q => isU (aget (E.f q.2.2.1) q.2.2.2)) := by
  intro l
  induction l with
  | nil => rfl
  | cons q l ih => obtain ⟨k, j, r, p⟩ := q; simp [allU, ih]
theorem SBK2 : ∀ (E : Env) (q : Plc) (pls : List Plc) (outs : List AV), backA E none (q :: pls) outs = if allU E (q :: pls) = true then backP E outs (q :: pls) else none := by
  intro E q pls outs
  rw [allU_eq]; rfl
theorem SAU : (∀ E : Env, allU E [] = true) ∧ (∀ (E : Env) (k : Nat) (j : Option Nat) (r : Nat) (p : Path) (l : List Plc), allU E ((k, j, r, p) :: l) = (isU (aget (E.f r) p) && allU E l)) := ⟨fun _ => rfl, fun _ _ _ _ _ _ => rfl⟩
theorem SBK : ∀ (E : Env) (outs : List AV), backA E none [] outs = backP E outs [] := by
  intro E outs
  simp [backA]

/-! ### the program's values -/
abbrev Bytes := List UInt8
theorem sum_mem {α : Type} {f : α → Nat} {l : List α} {x : α} (h : x ∈ l) : f x ≤ (l.map f).sum := by
  induction l with
  | nil => simp at h
  | cons y l ih =>
    rcases List.mem_cons.1 h with rfl | h
    · simp
    · have := ih h; simp; omega
theorem getE {α : Type} {l : List α} {i : Nat} (h : (i : Int) < (l.length : Nat)) : l[i]? = some (l[i]'(by omega)) := by simp
theorem sum_get {α : Type} (f : α → Nat) {l : List α} {i : Nat} (h : i < l.length) : f l[i] ≤ (l.map f).sum := sum_mem (List.getElem_mem h)
theorem sum_take {α : Type} (f : α → Nat) (l : List α) (i : Nat) (h : i < l.length) : ((l.take (i + 1)).map f).sum = ((l.take i).map f).sum + f l[i] := by
  rw [List.take_succ_eq_append_getElem h, List.map_append, List.sum_append]
  simp only [List.map_cons, List.map_nil, List.sum_cons, List.sum_nil, Nat.add_zero]
theorem sum_take_le {α : Type} (f : α → Nat) (l : List α) (i : Nat) : ((l.take i).map f).sum ≤ (l.map f).sum := by
  conv => rhs; rw [← List.take_append_drop i l, List.map_append, List.sum_append]
  omega
theorem take_eq_succ {α : Type} {a b : List α} {i : Nat} (h : a.take i = b.take i) (h1 : i < a.length) (h2 : i < b.length) (e : a[i] = b[i]) : a.take (i + 1) = b.take (i + 1) := by
  rw [List.take_succ_eq_append_getElem h1, List.take_succ_eq_append_getElem h2, h, e]
theorem take_all {α : Type} {a b : List α} {i : Nat} (h : a.take i = b.take i) (h1 : a.length ≤ i) (h2 : b.length ≤ i) : a = b := by
  rwa [List.take_of_length_le h1, List.take_of_length_le h2] at h

/-! ### rows that are filled, or marked, one by one -/
def mixM {α β : Type} (f : α → Int → β) (g : α → β) (c : α → Nat) : List α → Int → Nat → List β
  | [], _, _ => []
  | x :: l, _, 0 => g x :: l.map g
  | x :: l, k, i + 1 => f x k :: mixM f g c l (k + c x) i
def markL {α β : Type} (f : α → Int → β) (c : α → Nat) : List α → Int → List β
  | [], _ => []
  | x :: l, k => f x k :: markL f c l (k + c x)
section
variable {α β γ : Type} (f : α → Int → β) (g : α → β) (c : α → Nat)
theorem mixM_0 (l : List α) (k : Int) : mixM f g c l k 0 = l.map g := by cases l <;> rfl
theorem mixM_len : ∀ (l : List α) (k : Int) (i : Nat), (mixM f g c l k i).length = l.length := by
  intro l
  induction l with
  | nil => intro k i; rfl
  | cons x l ih => intro k i; cases i <;> simp [mixM, ih]
theorem mixM_all : ∀ (l : List α) (k : Int) (i : Nat), l.length ≤ i → mixM f g c l k i = markL f c l k := by
  intro l
  induction l with
  | nil => intro k i h; rfl
  | cons x l ih =>
    intro k i h
    cases i with
    | zero => simp at h
    | succ i => simp only [mixM, markL]; rw [ih _ _ (by simpa using h)]
theorem mixM_get : ∀ (l : List α) (k : Int) (i : Nat), (mixM f g c l k i)[i]? = (l[i]?).map g := by
  intro l
  induction l with
  | nil => intro k i; simp [mixM]
  | cons x l ih => intro k i; cases i <;> simp [mixM, ih]
theorem mixM_set : ∀ (l : List α) (k : Int) (i : Nat) (hi : i < l.length) (h : β → β) (e : h (g l[i]) = f l[i] (k + ((l.take i).map c).sum)), (mixM f g c l k i).modify i h = mixM f g c l k (i + 1) := by
  intro l
  induction l with
  | nil => intro k i hi; simp at hi
  | cons x l ih =>
    intro k i hi h e
    cases i with
    | zero => simp only [mixM, List.modify_zero_cons]; simp at e; rw [e, mixM_0]
    | succ i =>
      simp only [mixM, List.modify_succ_cons]
      rw [ih _ i (by simpa using hi) h]
      simp only [List.getElem_cons_succ, List.take_succ_cons, List.map_cons, List.sum_cons] at e
      rw [e]; congr 1; omega
theorem markL_len : ∀ (l : List α) (k : Int), (markL f c l k).length = l.length := by
  intro l
  induction l with
  | nil => intro k; rfl
  | cons x l ih => intro k; simp [markL, ih]
theorem markL_get : ∀ (l : List α) (k : Int) (i : Nat), (markL f c l k)[i]? = (l[i]?).map fun x => f x (k + ((l.take i).map c).sum) := by
  intro l
  induction l with
  | nil => intro k i; simp [markL]
  | cons x l ih =>
    intro k i
    cases i with
    | zero => simp [markL]
    | succ i =>
      simp only [markL, List.getElem?_cons_succ, ih, List.take_succ_cons, List.map_cons, List.sum_cons]
      congr 1; funext y; congr 1; omega
theorem markL_map (r : β → γ) : ∀ (l : List α) (k : Int), (markL f c l k).map r = markL (fun x k => r (f x k)) c l k := by
  intro l
  induction l with
  | nil => intro k; rfl
  | cons x l ih => intro k; simp [markL, ih]
end
/-- rows that are filled one by one -/
def fillR {α : Type} (f : α → List TV) (z : List TV) (l : List α) (i : Nat) : List (List TV) := mixM (fun x _ => f x) (fun _ => z) (fun _ => 0) l 0 i
theorem fillR_0 {α : Type} (f : α → List TV) (z : List TV) (l : List α) : fillR f z l 0 = List.replicate l.length z := by
  rw [fillR, mixM_0, List.map_const']
theorem fillR_all {α : Type} (f : α → List TV) (z : List TV) (l : List α) (i : Nat) (h : l.length ≤ i) : fillR f z l i = l.map f := by
  rw [fillR, mixM_all _ _ _ _ _ _ h]
  generalize (0 : Int) = k
  induction l generalizing k i with
  | nil => rfl
  | cons x l ih => simp only [markL, List.map_cons]; rw [ih l.length (by omega)]
theorem fillR_len {α : Type} (f : α → List TV) (z : List TV) (l : List α) (i : Nat) : (fillR f z l i).length = l.length := mixM_len ..
theorem fillR_set {α : Type} (f : α → List TV) (z : List TV) (l : List α) (i : Nat) (h : i < l.length) (g : List TV → List TV) (hg : g z = f l[i]) : (fillR f z l i).modify i g = fillR f z l (i + 1) :=
  mixM_set _ _ _ _ _ _ h _ hg
/-- rows that are marked one by one -/
def mixR {α : Type} (r : α → List TV) (f : α → Int → α) (c : α → Nat) (l : List α) (k : Int) (i : Nat) : List (List TV) := mixM (fun x k => r (f x k)) r c l k i
section
variable {α : Type} (r : α → List TV) (f : α → Int → α) (c : α → Nat)
theorem mixR_0 (l : List α) (k : Int) : mixR r f c l k 0 = l.map r := mixM_0 ..
theorem mixR_len (l : List α) (k : Int) (i : Nat) : (mixR r f c l k i).length = l.length := mixM_len ..
theorem mixR_get (l : List α) (k : Int) (i : Nat) : (mixR r f c l k i)[i]? = (l[i]?).map r := mixM_get ..
theorem mixR_all (l : List α) (k : Int) (i : Nat) (h : l.length ≤ i) : mixR r f c l k i = (markL f c l k).map r := by rw [mixR, mixM_all _ _ _ _ _ _ h, markL_map]
theorem mixR_set (l : List α) (k : Int) (i : Nat) (hi : i < l.length) (h : List TV → List TV) (e : h (r l[i]) = r (f l[i] (k + ((l.take i).map c).sum))) : (mixR r f c l k i).modify i h = mixR r f c l k (i + 1) :=
  mixM_set _ _ _ _ _ _ hi _ e
end
def byteRow (x : UInt8) : List TV := [.int .u8 x.toNat]
def markBy (b : Bytes) (k : Int) : Bytes := markL (fun _ k => UInt8.ofInt k) (fun _ => 1) b k
theorem sum_one {α : Type} (l : List α) : (l.map fun _ => 1).sum = l.length := by induction l with | nil => rfl | cons x l ih => simp [ih]; omega
theorem markBy_len (b : Bytes) (k : Int) : (markBy b k).length = b.length := markL_len ..
theorem markBy_get (b : Bytes) (k : Int) (i : Nat) : (markBy b k)[i]? = (b[i]?).map fun _ => UInt8.ofInt (k + i) := by
  rw [markBy, markL_get]
  by_cases h : i < b.length
  · simp only [sum_one, List.length_take, Nat.min_eq_left (Nat.le_of_lt h)]
  · rw [List.getElem?_eq_none (by omega)]; rfl
theorem wrap_ofInt (k : Int) : IntKind.u8.wrap k = ((UInt8.ofInt k).toNat : Int) := by
  have e : IntKind.u8.wrap k = k % 256 := by
    have h1 : ((2 : Int) ^ IntKind.u8.bits) = 256 := by decide
    unfold IntKind.wrap
    simp only [h1]
    simp [IntKind.signed]
  rw [e]
  simp [UInt8.ofInt]
  omega
theorem bytesR_row (b : Bytes) : bytesR b = b.map byteRow := rfl
theorem markBy_row (b : Bytes) (k : Int) (i : Nat) (h : b.length ≤ i) : mixR byteRow (fun _ k => UInt8.ofInt k) (fun _ => 1) b k i = bytesR (markBy b k) := mixR_all _ _ _ _ _ _ h
theorem SF : (∀ (α : Type) (f : α → List TV) (z : List TV) (l : List α) (i : Nat), (fillR f z l i).length = l.length) ∧
    (∀ (α : Type) (r : α → List TV) (f : α → Int → α) (c : α → Nat) (l : List α) (k : Int) (i : Nat), (mixR r f c l k i).length = l.length) ∧
    (∀ (α : Type) (r : α → List TV) (f : α → Int → α) (c : α → Nat) (l : List α) (k : Int) (i : Nat), (mixR r f c l k i)[i]? = (l[i]?).map r) ∧
    (∀ (α β : Type) (f : α → Int → β) (c : α → Nat) (l : List α) (k : Int), (markL f c l k).length = l.length) ∧
    (∀ (α β : Type) (f : α → Int → β) (c : α → Nat) (l : List α) (k : Int) (i : Nat), (markL f c l k)[i]? = (l[i]?).map fun x => f x (k + ((l.take i).map c).sum)) ∧
    (∀ (b : Bytes) (k : Int), (markBy b k).length = b.length) ∧ (∀ (b : Bytes) (k : Int) (i : Nat), (markBy b k)[i]? = (b[i]?).map fun _ => UInt8.ofInt (k + i)) ∧
    (∀ (α : Type) (l : List α) (i : Nat) (f g : α → α), (l.modify i f).modify i g = l.modify i (fun x => g (f x))) ∧ (∀ (α : Type) (l : List α) (i : Nat) (f : α → α), (l.modify i f)[i]? = (l[i]?).map f) ∧
    (∀ (α : Type) (l : List α) (i : Nat) (f : α → α), (l.modify i f).length = l.length) :=
  ⟨fun _ => fillR_len, fun _ => mixR_len, fun _ => mixR_get, fun _ _ => markL_len, fun _ _ => markL_get, markBy_len, markBy_get,
    fun _ l i f g => List.modify_modify_eq f g i l, fun _ l i f => by simp, fun _ l i f => by simp⟩
theorem flatR_bytes (b : Bytes) : flatR (bytesR b) = true := by
  simp [flatR, bytesR]
  intros; rfl
theorem knownR_bytes (b : Bytes) : knownR (bytesR b) = true := by
  simp [knownR, bytesR]
  intros; rfl
theorem rowsBytes_R (b : Bytes) : rowsBytes (bytesR b) = some b := by
  induction b with
  | nil => rfl
  | cons x b ih =>
    simp only [bytesR, List.map_cons]
    simp only [bytesR] at ih
    have h1 : rowByte [.int .u8 x.toNat] = some x := by
      have := x.toNat_lt
      simp [rowByte]
      try omega
    simp [rowsBytes, ih, h1]
theorem SK : knownR [] = true ∧ (∀ (e : List TV) (l : List (List TV)), knownR (e :: l) = (e.all knownT && knownR l)) ∧ (∀ (t : TV) (e : List TV), (t :: e).all knownT = (knownT t && e.all knownT)) ∧ ([] : List TV).all knownT = true ∧
    (∀ b, knownT (.bool b) = true) ∧ (∀ k n, knownT (.int k n) = true) ∧ (∀ s, knownT (.str s) = true) ∧ (∀ s es, knownT (.sl s es) = true) ∧
    flatR [] = true ∧ (∀ (e : List TV) (l : List (List TV)), flatR (e :: l) = (e.all flatT && flatR l)) ∧ (∀ (t : TV) (e : List TV), (t :: e).all flatT = (flatT t && e.all flatT)) ∧ ([] : List TV).all flatT = true ∧
    (∀ b, flatT (.bool b) = true) ∧ (∀ k n, flatT (.int k n) = true) ∧ (∀ s, flatT (.str s) = true) ∧
    (∀ b : Bytes, flatR (bytesR b) = true) ∧ (∀ b : Bytes, knownR (bytesR b) = true) ∧ (∀ b : Bytes, rowsBytes (bytesR b) = some b) :=
  ⟨rfl, fun _ _ => rfl, fun _ _ => rfl, rfl, fun _ => rfl, fun _ _ => rfl, fun _ => rfl, fun _ _ => rfl, rfl, fun _ _ => rfl, fun _ _ => rfl, rfl, fun _ => rfl, fun _ _ => rfl, fun _ => rfl, flatR_bytes, knownR_bytes, rowsBytes_R⟩
theorem SB : min 1 IntKind.i64.bits = 1 ∧ min 7 IntKind.i64.bits = 7 ∧ min 8 IntKind.i64.bits = 8 ∧ min 14 IntKind.i64.bits = 14 ∧ min 16 IntKind.i64.bits = 16 ∧ min 24 IntKind.i64.bits = 24 ∧ min 33 IntKind.i64.bits = 33 ∧ min 47 IntKind.i64.bits = 47 ∧ min 1 IntKind.u32.bits = 1 ∧ min 8 IntKind.u32.bits = 8 ∧ min 16 IntKind.u32.bits = 16 ∧ min 24 IntKind.u32.bits = 24 := by decide
theorem bytesR_map (b : Bytes) : bytesR b = b.map fun x => [.int .u8 x.toNat] := rfl

theorem cnt_len {α : Type} (c : α → Nat) (h : ∀ x, 1 ≤ c x) (l : List α) : l.length ≤ (l.map c).sum := by
  induction l with
  | nil => simp
  | cons x l ih => have := h x; simp; omega
/-- what is left of a size -/
def szC (l : Int) (n : Nat) : Int := if l < n then -1 else l - n
theorem szC_lt {l : Int} {n : Nat} (h : l < n) : szC l n = -1 := if_pos h
theorem szC_ge {l : Int} {n : Nat} (h : ¬ l < n) : szC l n = l - n := if_neg h
/-- decimal digits -/
def digB (n : Nat) : Bytes := if h : n = 0 then [] else digB (n / 10) ++ [UInt8.ofNat (48 + n % 10)]
termination_by n
def markText (k : Int) : Bytes := if k ≤ 0 then [109, 48] else 109 :: digB k.toNat
def cntM {α : Type} (c : α → Nat) (l : List α) : Nat := (l.map c).sum
def szM {α : Type} (c : α → Nat) (l : List α) : Nat := l.length + (l.map c).sum

structure Page where
  used : Bool
  b : Bytes
  deriving DecidableEq, Inhabited
def Page.row (a : Page) : List TV := [.bool a.used, .sl 1 (bytesR a.b)]
def Page.x (a : Page) : AV := .agg [.bool a.used, .ext 1 (bytesR a.b)]
def Page.o (a : Page) : AV := .agg [.bool a.used, .own 1 (bytesR a.b)]
def Page.sz (a : Page) : Nat := a.b.length
def Page.fine (a : Page) : Prop := (a.b.length < 2 ^ 48)
def Page.cnt (a : Page) : Nat := 1 + a.b.length
def Page.cntT (a : Page) : Nat := a.b.length
def Page.marked (a : Page) (k : Int) : Page := { used := decide ((k).tmod 3 = 0), b := markBy a.b (k + 1) }
def Page.markT (a : Page) (k : Int) : Page := { used := a.used, b := markBy a.b (k) }
def Page.zero : List TV := [.bool false, .sl 1 []]
theorem Page.eq' {a b : Page} (h0 : a.used = b.used) (h1 : a.b = b.b) : a = b := by cases a; cases b; simp_all
theorem Page.cnt1 (a : Page) : 1 ≤ a.cnt := by simp only [Page.cnt]; omega

structure Block where
  pages : List Page
  wear : Int
  bad : Bool
  deriving DecidableEq, Inhabited
def Block.row (a : Block) : List TV := [.sl 2 (a.pages.map Page.row), .int .i64 a.wear, .bool a.bad]
def Block.x (a : Block) : AV := .agg [.ext 2 (a.pages.map Page.row), .int .i64 a.wear, .bool a.bad]
def Block.o (a : Block) : AV := .agg [.own 2 (a.pages.map Page.row), .int .i64 a.wear, .bool a.bad]
def Block.sz (a : Block) : Nat := szM Page.sz a.pages
def Block.fine (a : Block) : Prop := (a.pages.length < 2 ^ 48 ∧ ∀ x ∈ a.pages, x.fine)
def Block.cnt (a : Block) : Nat := cntM Page.cnt a.pages + 1 + 1
def Block.cntT (a : Block) : Nat := cntM Page.cnt a.pages
def Block.marked (a : Block) (k : Int) : Block := { pages := markL Page.marked Page.cnt a.pages (k), wear := k + (cntM Page.cnt a.pages : Nat), bad := decide ((k + (cntM Page.cnt a.pages : Nat) + 1).tmod 3 = 0) }
def Block.markT (a : Block) (k : Int) : Block := { pages := markL Page.marked Page.cnt a.pages (k), wear := a.wear, bad := a.bad }
def Block.zero : List TV := [.sl 2 [], .int .i64 0, .bool false]
theorem Block.eq' {a b : Block} (h0 : a.pages = b.pages) (h1 : a.wear = b.wear) (h2 : a.bad = b.bad) : a = b := by cases a; cases b; simp_all
theorem Block.cnt1 (a : Block) : 1 ≤ a.cnt := by simp only [Block.cnt]; omega

structure Chip where
  blocks : List Block
  deriving DecidableEq, Inhabited
def Chip.row (a : Chip) : List TV := [.sl 3 (a.blocks.map Block.row)]
def Chip.x (a : Chip) : AV := .agg [.ext 3 (a.blocks.map Block.row)]
def Chip.o (a : Chip) : AV := .agg [.own 3 (a.blocks.map Block.row)]
def Chip.sz (a : Chip) : Nat := szM Block.sz a.blocks
def Chip.fine (a : Chip) : Prop := (a.blocks.length < 2 ^ 48 ∧ ∀ x ∈ a.blocks, x.fine)
def Chip.cnt (a : Chip) : Nat := cntM Block.cnt a.blocks
def Chip.cntT (a : Chip) : Nat := cntM Block.cnt a.blocks
def Chip.marked (a : Chip) (k : Int) : Chip := { blocks := markL Block.marked Block.cnt a.blocks (k) }
def Chip.markT (a : Chip) (k : Int) : Chip := { blocks := markL Block.marked Block.cnt a.blocks (k) }
def Chip.zero : List TV := [.sl 3 []]
theorem Chip.eq' {a b : Chip} (h0 : a.blocks = b.blocks) : a = b := by cases a; cases b; simp_all


structure Fault where
  at' : Int
  kind : Int
  keep : Int
  deriving DecidableEq, Inhabited
def Fault.row (a : Fault) : List TV := [.int .i64 a.at', .int .i64 a.kind, .int .i64 a.keep]
def Fault.x (a : Fault) : AV := .agg [.int .i64 a.at', .int .i64 a.kind, .int .i64 a.keep]
def Fault.o (a : Fault) : AV := .agg [.int .i64 a.at', .int .i64 a.kind, .int .i64 a.keep]
def Fault.sz (a : Fault) : Nat := 0
def Fault.fine (a : Fault) : Prop := True
def Fault.cnt (a : Fault) : Nat := 1 + 1 + 1
def Fault.cntT (a : Fault) : Nat := 0
def Fault.marked (a : Fault) (k : Int) : Fault := { at' := k, kind := k + 1, keep := k + 1 + 1 }
def Fault.markT (a : Fault) (k : Int) : Fault := { at' := a.at', kind := a.kind, keep := a.keep }
def Fault.zero : List TV := [.int .i64 0, .int .i64 0, .int .i64 0]
theorem Fault.eq' {a b : Fault} (h0 : a.at' = b.at') (h1 : a.kind = b.kind) (h2 : a.keep = b.keep) : a = b := by cases a; cases b; simp_all
theorem Fault.cnt1 (a : Fault) : 1 ≤ a.cnt := by simp only [Fault.cnt]; omega

structure Dev where
  c : Chip
  ops : Int
  faults : List Fault
  down : Bool
  deriving DecidableEq, Inhabited
def Dev.row (a : Dev) : List TV := [.sl 3 (a.c.blocks.map Block.row), .int .i64 a.ops, .sl 3 (a.faults.map Fault.row), .bool a.down]
def Dev.x (a : Dev) : AV := .agg [.ext 3 (a.c.blocks.map Block.row), .int .i64 a.ops, .ext 3 (a.faults.map Fault.row), .bool a.down]
def Dev.o (a : Dev) : AV := .agg [.own 3 (a.c.blocks.map Block.row), .int .i64 a.ops, .own 3 (a.faults.map Fault.row), .bool a.down]
def Dev.sz (a : Dev) : Nat := a.c.sz + a.faults.length
def Dev.fine (a : Dev) : Prop := (a.c.fine) ∧ (a.faults.length < 2 ^ 48)
def Dev.cnt (a : Dev) : Nat := cntM Block.cnt a.c.blocks + 1 + cntM Fault.cnt a.faults + 1
def Dev.cntT (a : Dev) : Nat := a.c.cntT + cntM Fault.cnt a.faults
def Dev.marked (a : Dev) (k : Int) : Dev := { c := { blocks := markL Block.marked Block.cnt a.c.blocks (k) }, ops := k + (cntM Block.cnt a.c.blocks : Nat), faults := markL Fault.marked Fault.cnt a.faults (k + (cntM Block.cnt a.c.blocks : Nat) + 1), down := decide ((k + (cntM Block.cnt a.c.blocks : Nat) + 1 + (cntM Fault.cnt a.faults : Nat)).tmod 3 = 0) }
def Dev.markT (a : Dev) (k : Int) : Dev := { c := a.c.markT (k), ops := a.ops, faults := markL Fault.marked Fault.cnt a.faults (k + (a.c.cntT : Nat)), down := a.down }
def Dev.zero : List TV := [.sl 3 [], .int .i64 0, .sl 3 [], .bool false]
theorem Dev.eq' {a b : Dev} (h0 : a.c = b.c) (h1 : a.ops = b.ops) (h2 : a.faults = b.faults) (h3 : a.down = b.down) : a = b := by cases a; cases b; simp_all
theorem Dev.cnt1 (a : Dev) : 1 ≤ a.cnt := by simp only [Dev.cnt]; omega

structure Rec where
  kind : Int
  seq : Int
  body : Bytes
  deriving DecidableEq, Inhabited
def Rec.row (a : Rec) : List TV := [.int .i64 a.kind, .int .i64 a.seq, .sl 1 (bytesR a.body)]
def Rec.x (a : Rec) : AV := .agg [.int .i64 a.kind, .int .i64 a.seq, .ext 1 (bytesR a.body)]
def Rec.o (a : Rec) : AV := .agg [.int .i64 a.kind, .int .i64 a.seq, .own 1 (bytesR a.body)]
def Rec.sz (a : Rec) : Nat := a.body.length
def Rec.fine (a : Rec) : Prop := (a.body.length < 2 ^ 48)
def Rec.cnt (a : Rec) : Nat := 1 + 1 + a.body.length
def Rec.cntT (a : Rec) : Nat := a.body.length
def Rec.marked (a : Rec) (k : Int) : Rec := { kind := k, seq := k + 1, body := markBy a.body (k + 1 + 1) }
def Rec.markT (a : Rec) (k : Int) : Rec := { kind := a.kind, seq := a.seq, body := markBy a.body (k) }
def Rec.zero : List TV := [.int .i64 0, .int .i64 0, .sl 1 []]
theorem Rec.eq' {a b : Rec} (h0 : a.kind = b.kind) (h1 : a.seq = b.seq) (h2 : a.body = b.body) : a = b := by cases a; cases b; simp_all
theorem Rec.cnt1 (a : Rec) : 1 ≤ a.cnt := by simp only [Rec.cnt]; omega

structure Op where
  kind : Int
  vol : Int
  path : Bytes
  to' : Bytes
  off : Int
  data : Bytes
  deriving DecidableEq, Inhabited
def Op.row (a : Op) : List TV := [.int .i64 a.kind, .int .i64 a.vol, .str a.path, .str a.to', .int .i64 a.off, .sl 1 (bytesR a.data)]
def Op.x (a : Op) : AV := .agg [.int .i64 a.kind, .int .i64 a.vol, .str a.path, .str a.to', .int .i64 a.off, .ext 1 (bytesR a.data)]
def Op.o (a : Op) : AV := .agg [.int .i64 a.kind, .int .i64 a.vol, .str a.path, .str a.to', .int .i64 a.off, .own 1 (bytesR a.data)]
def Op.sz (a : Op) : Nat := a.path.length + a.to'.length + a.data.length
def Op.fine (a : Op) : Prop := (a.path.length < 2 ^ 48) ∧ (a.to'.length < 2 ^ 48) ∧ (a.data.length < 2 ^ 48)
def Op.cnt (a : Op) : Nat := 1 + 1 + 1 + 1 + 1 + a.data.length
def Op.cntT (a : Op) : Nat := a.data.length
def Op.marked (a : Op) (k : Int) : Op := { kind := k, vol := k + 1, path := markText (k + 1 + 1), to' := markText (k + 1 + 1 + 1), off := k + 1 + 1 + 1 + 1, data := markBy a.data (k + 1 + 1 + 1 + 1 + 1) }
def Op.markT (a : Op) (k : Int) : Op := { kind := a.kind, vol := a.vol, path := a.path, to' := a.to', off := a.off, data := markBy a.data (k) }
def Op.zero : List TV := [.int .i64 0, .int .i64 0, .str [], .str [], .int .i64 0, .sl 1 []]
theorem Op.eq' {a b : Op} (h0 : a.kind = b.kind) (h1 : a.vol = b.vol) (h2 : a.path = b.path) (h3 : a.to' = b.to') (h4 : a.off = b.off) (h5 : a.data = b.data) : a = b := by cases a; cases b; simp_all
theorem Op.cnt1 (a : Op) : 1 ≤ a.cnt := by simp only [Op.cnt]; omega

structure Log where
  d : Dev
  seq : Int
  deriving DecidableEq, Inhabited
def Log.row (a : Log) : List TV := [.sl 3 (a.d.c.blocks.map Block.row), .int .i64 a.d.ops, .sl 3 (a.d.faults.map Fault.row), .bool a.d.down, .int .i64 a.seq]
def Log.x (a : Log) : AV := .agg [.ext 3 (a.d.c.blocks.map Block.row), .int .i64 a.d.ops, .ext 3 (a.d.faults.map Fault.row), .bool a.d.down, .int .i64 a.seq]
def Log.o (a : Log) : AV := .agg [.own 3 (a.d.c.blocks.map Block.row), .int .i64 a.d.ops, .own 3 (a.d.faults.map Fault.row), .bool a.d.down, .int .i64 a.seq]
def Log.sz (a : Log) : Nat := a.d.sz
def Log.fine (a : Log) : Prop := (a.d.fine)
def Log.cnt (a : Log) : Nat := cntM Block.cnt a.d.c.blocks + 1 + cntM Fault.cnt a.d.faults + 1 + 1
def Log.cntT (a : Log) : Nat := a.d.cntT
def Log.marked (a : Log) (k : Int) : Log := { d := { c := { blocks := markL Block.marked Block.cnt a.d.c.blocks (k) }, ops := k + (cntM Block.cnt a.d.c.blocks : Nat), faults := markL Fault.marked Fault.cnt a.d.faults (k + (cntM Block.cnt a.d.c.blocks : Nat) + 1), down := decide ((k + (cntM Block.cnt a.d.c.blocks : Nat) + 1 + (cntM Fault.cnt a.d.faults : Nat)).tmod 3 = 0) }, seq := k + (cntM Block.cnt a.d.c.blocks : Nat) + 1 + (cntM Fault.cnt a.d.faults : Nat) + 1 }
def Log.markT (a : Log) (k : Int) : Log := { d := a.d.markT (k), seq := a.seq }
def Log.zero : List TV := [.sl 3 [], .int .i64 0, .sl 3 [], .bool false, .int .i64 0]
theorem Log.eq' {a b : Log} (h0 : a.d = b.d) (h1 : a.seq = b.seq) : a = b := by cases a; cases b; simp_all
theorem Log.cnt1 (a : Log) : 1 ≤ a.cnt := by simp only [Log.cnt]; omega

theorem ST :
    (∀ a : Page, a.row = [.bool a.used, .sl 1 (bytesR a.b)]) ∧
    (∀ a : Page, a.x = .agg [.bool a.used, .ext 1 (bytesR a.b)]) ∧
    (∀ a : Page, a.o = .agg [.bool a.used, .own 1 (bytesR a.b)]) ∧
    (∀ a : Block, a.row = [.sl 2 (a.pages.map Page.row), .int .i64 a.wear, .bool a.bad]) ∧
    (∀ a : Block, a.x = .agg [.ext 2 (a.pages.map Page.row), .int .i64 a.wear, .bool a.bad]) ∧
    (∀ a : Block, a.o = .agg [.own 2 (a.pages.map Page.row), .int .i64 a.wear, .bool a.bad]) ∧
    (∀ a : Chip, a.row = [.sl 3 (a.blocks.map Block.row)]) ∧
    (∀ a : Chip, a.x = .agg [.ext 3 (a.blocks.map Block.row)]) ∧
    (∀ a : Chip, a.o = .agg [.own 3 (a.blocks.map Block.row)]) ∧
    (∀ a : Fault, a.row = [.int .i64 a.at', .int .i64 a.kind, .int .i64 a.keep]) ∧
    (∀ a : Fault, a.x = .agg [.int .i64 a.at', .int .i64 a.kind, .int .i64 a.keep]) ∧
    (∀ a : Fault, a.o = .agg [.int .i64 a.at', .int .i64 a.kind, .int .i64 a.keep]) ∧
    (∀ a : Dev, a.row = [.sl 3 (a.c.blocks.map Block.row), .int .i64 a.ops, .sl 3 (a.faults.map Fault.row), .bool a.down]) ∧
    (∀ a : Dev, a.x = .agg [.ext 3 (a.c.blocks.map Block.row), .int .i64 a.ops, .ext 3 (a.faults.map Fault.row), .bool a.down]) ∧
    (∀ a : Dev, a.o = .agg [.own 3 (a.c.blocks.map Block.row), .int .i64 a.ops, .own 3 (a.faults.map Fault.row), .bool a.down]) ∧
    (∀ a : Rec, a.row = [.int .i64 a.kind, .int .i64 a.seq, .sl 1 (bytesR a.body)]) ∧
    (∀ a : Rec, a.x = .agg [.int .i64 a.kind, .int .i64 a.seq, .ext 1 (bytesR a.body)]) ∧
    (∀ a : Rec, a.o = .agg [.int .i64 a.kind, .int .i64 a.seq, .own 1 (bytesR a.body)]) ∧
    (∀ a : Op, a.row = [.int .i64 a.kind, .int .i64 a.vol, .str a.path, .str a.to', .int .i64 a.off, .sl 1 (bytesR a.data)]) ∧
    (∀ a : Op, a.x = .agg [.int .i64 a.kind, .int .i64 a.vol, .str a.path, .str a.to', .int .i64 a.off, .ext 1 (bytesR a.data)]) ∧
    (∀ a : Op, a.o = .agg [.int .i64 a.kind, .int .i64 a.vol, .str a.path, .str a.to', .int .i64 a.off, .own 1 (bytesR a.data)]) ∧
    (∀ a : Log, a.row = [.sl 3 (a.d.c.blocks.map Block.row), .int .i64 a.d.ops, .sl 3 (a.d.faults.map Fault.row), .bool a.d.down, .int .i64 a.seq]) ∧
    (∀ a : Log, a.x = .agg [.ext 3 (a.d.c.blocks.map Block.row), .int .i64 a.d.ops, .ext 3 (a.d.faults.map Fault.row), .bool a.d.down, .int .i64 a.seq]) ∧
    (∀ a : Log, a.o = .agg [.own 3 (a.d.c.blocks.map Block.row), .int .i64 a.d.ops, .own 3 (a.d.faults.map Fault.row), .bool a.d.down, .int .i64 a.seq]) ∧
    (∀ (α β : Type) (f : α → β) (l : List α), (l.map f).length = l.length) ∧ (∀ (α β : Type) (f : α → β) (l : List α) (i : Nat), (l.map f)[i]? = (l[i]?).map f) := by
  refine ⟨?_, ?_, ?_, ?_, ?_, ?_, ?_, ?_, ?_, ?_, ?_, ?_, ?_, ?_, ?_, ?_, ?_, ?_, ?_, ?_, ?_, ?_, ?_, ?_, ?_, ?_⟩ <;> intros <;> first | rfl | simp

end Go.Proofs.Ytliklgcfdgdigaa.Awp

namespace Go.Proofs.Ytliklgcfdgdigaa.Awp
open Go.Proofs
set_option linter.unusedSimpArgs false
set_option linter.unusedVariables false

/-! ### whole numbers, as bytes -/
def inR (x a b : Int) : Bool := decide (a ≤ x ∧ x ≤ b)
/-! ### the sum of bytes -/
end Go.Proofs.Ytliklgcfdgdigaa.Awp

namespace Go.Proofs.Ytliklgcfdgdigaa.Awp
open Go.Proofs
set_option linter.unusedSimpArgs false
set_option linter.unusedVariables false
set_option maxRecDepth 100000
set_option maxHeartbeats 20000000

theorem s_eqByteS (a b : Bytes) (hl : a.length < 2 ^ 40) : Spec Try.prog 44 [.ext 1 (bytesR a), .ext 1 (bytesR b)] (.bool (decide (a = b))) [.undef, .undef] := by
  refine spec_C hmx p_L_eqByteS [] 51 [] ⟨Nat.le_of_ble_eq_true rfl, Nat.le_of_ble_eq_true rfl⟩ rfl rfl ?_
  intro w hP hmd hks hQ
  unfold c_L_eqByteS
  simp +decide (maxSteps := 20000000) (disch := omega) only [↓SBK, ↓SBK2, SAU, SGs, SD, S1, S2, S3, SE, SC, SO, ST, SF, SK, bytes_len, bytes_get, Nat.reduceEqDiff, Nat.reduceAdd, Nat.reduceMul, Nat.reduceSub, ↓reduceIte, Int.reduceNeg, Int.reduceToNat, hmd, hks, Bool.beq_eq_decide_eq, Int.natCast_zero, Int.add_zero, ge_iff_le, gt_iff_lt, Option.isNone_none, Option.isNone_some, List.nil_append, List.append_nil, Bool.and_true, Bool.and_self, SB, Int.reducePow, hQ]
  (first | with_reducible refine if_d _ ?_ ?_ | refine if_i _ ?_ ?_) <;> intro h
  · simp +decide (maxSteps := 20000000) (disch := omega) only [↓SBK, ↓SBK2, SAU, SGs, SD, S1, S2, S3, SE, SC, SO, ST, SF, SK, bytes_len, bytes_get, Nat.reduceEqDiff, Nat.reduceAdd, Nat.reduceMul, Nat.reduceSub, ↓reduceIte, Int.reduceNeg, Int.reduceToNat, hmd, hks, Bool.beq_eq_decide_eq, Int.natCast_zero, Int.add_zero, ge_iff_le, gt_iff_lt, Option.isNone_none, Option.isNone_some, List.nil_append, List.append_nil, Bool.and_true, Bool.and_self, SB, Int.reducePow, hQ]
    refine loop_i (fun i : Nat => [(5, .int .i64 i)]) (fun i => i ≤ a.length ∧ a.take i = b.take i) (fun i => a.length - i) (0) hP hmd hks (rfl) (by simp) ?_
    rintro i ⟨hi, hab⟩ w1 hP1 hmd1 hks1 hQ1
    simp +decide (maxSteps := 20000000) (disch := omega) only [↓SBK, ↓SBK2, SAU, SGs, SD, S1, S2, S3, SE, SC, SO, ST, SF, SK, bytes_len, bytes_get, Nat.reduceEqDiff, Nat.reduceAdd, Nat.reduceMul, Nat.reduceSub, ↓reduceIte, Int.reduceNeg, Int.reduceToNat, hmd, hks, Bool.beq_eq_decide_eq, Int.natCast_zero, Int.add_zero, ge_iff_le, gt_iff_lt, Option.isNone_none, Option.isNone_some, List.nil_append, List.append_nil, Bool.and_true, Bool.and_self, SB, Int.reducePow, hQ, hmd1, hks1, hQ1]
    (first | with_reducible refine if_d _ ?_ ?_ | refine if_i _ ?_ ?_) <;> intro h1
    · simp +decide (maxSteps := 20000000) (disch := omega) only [↓SBK, ↓SBK2, SAU, SGs, SD, S1, S2, S3, SE, SC, SO, ST, SF, SK, bytes_len, bytes_get, Nat.reduceEqDiff, Nat.reduceAdd, Nat.reduceMul, Nat.reduceSub, ↓reduceIte, Int.reduceNeg, Int.reduceToNat, hmd, hks, Bool.beq_eq_decide_eq, Int.natCast_zero, Int.add_zero, ge_iff_le, gt_iff_lt, Option.isNone_none, Option.isNone_some, List.nil_append, List.append_nil, Bool.and_true, Bool.and_self, SB, Int.reducePow, hQ, hmd1, hks1, hQ1, getE h1, getE (h ▸ h1)]
      (first | with_reducible refine if_d _ ?_ ?_ | refine if_i _ ?_ ?_) <;> intro h2
      · simp +decide (maxSteps := 20000000) (disch := omega) only [↓SBK, ↓SBK2, SAU, SGs, SD, S1, S2, S3, SE, SC, SO, ST, SF, SK, bytes_len, bytes_get, Nat.reduceEqDiff, Nat.reduceAdd, Nat.reduceMul, Nat.reduceSub, ↓reduceIte, Int.reduceNeg, Int.reduceToNat, hmd, hks, Bool.beq_eq_decide_eq, Int.natCast_zero, Int.add_zero, ge_iff_le, gt_iff_lt, Option.isNone_none, Option.isNone_some, List.nil_append, List.append_nil, Bool.and_true, Bool.and_self, SB, Int.reducePow, hQ, hmd1, hks1, hQ1]
        exact ⟨i + 1, rfl, ⟨by omega, take_eq_succ hab _ _ (UInt8.toNat_inj.1 (by omega))⟩, by omega⟩
      · simp +decide (maxSteps := 20000000) (disch := omega) only [↓SBK, ↓SBK2, SAU, SGs, SD, S1, S2, S3, SE, SC, SO, ST, SF, SK, bytes_len, bytes_get, Nat.reduceEqDiff, Nat.reduceAdd, Nat.reduceMul, Nat.reduceSub, ↓reduceIte, Int.reduceNeg, Int.reduceToNat, hmd, hks, Bool.beq_eq_decide_eq, Int.natCast_zero, Int.add_zero, ge_iff_le, gt_iff_lt, Option.isNone_none, Option.isNone_some, List.nil_append, List.append_nil, Bool.and_true, Bool.and_self, SB, Int.reducePow, hQ, hmd1, hks1, hQ1]
        rw [decide_eq_false]
        rintro rfl; exact h2 rfl
    · simp +decide (maxSteps := 20000000) (disch := omega) only [↓SBK, ↓SBK2, SAU, SGs, SD, S1, S2, S3, SE, SC, SO, ST, SF, SK, bytes_len, bytes_get, Nat.reduceEqDiff, Nat.reduceAdd, Nat.reduceMul, Nat.reduceSub, ↓reduceIte, Int.reduceNeg, Int.reduceToNat, hmd, hks, Bool.beq_eq_decide_eq, Int.natCast_zero, Int.add_zero, ge_iff_le, gt_iff_lt, Option.isNone_none, Option.isNone_some, List.nil_append, List.append_nil, Bool.and_true, Bool.and_self, SB, Int.reducePow, hQ, hmd1, hks1, hQ1]
      rw [decide_eq_true (take_all hab (by omega) (by omega))]
  · simp +decide (maxSteps := 20000000) (disch := omega) only [↓SBK, ↓SBK2, SAU, SGs, SD, S1, S2, S3, SE, SC, SO, ST, SF, SK, bytes_len, bytes_get, Nat.reduceEqDiff, Nat.reduceAdd, Nat.reduceMul, Nat.reduceSub, ↓reduceIte, Int.reduceNeg, Int.reduceToNat, hmd, hks, Bool.beq_eq_decide_eq, Int.natCast_zero, Int.add_zero, ge_iff_le, gt_iff_lt, Option.isNone_none, Option.isNone_some, List.nil_append, List.append_nil, Bool.and_true, Bool.and_self, SB, Int.reducePow, hQ, hQ]
    rw [decide_eq_false]
    rintro rfl; exact h rfl

theorem s_szByteS (a : Bytes) (left : Int) (hl : a.length < 2 ^ 48) (h0 : 0 ≤ left) (h1 : left < 2 ^ 40) :
    Spec Try.prog 119 [.ext 1 (bytesR a), .int .i64 left] (.int .i64 (szC left a.length)) [.undef, .undef] := by
  refine spec_C hmx p_L_szByteS [] 19 [] ⟨Nat.le_of_ble_eq_true rfl, Nat.le_of_ble_eq_true rfl⟩ rfl rfl ?_
  intro w hP hmd hks hQ
  unfold c_L_szByteS
  simp +decide (maxSteps := 20000000) (disch := omega) only [↓SBK, ↓SBK2, SAU, SGs, SD, S1, S2, S3, SE, SC, SO, ST, SF, SK, bytes_len, bytes_get, Nat.reduceEqDiff, Nat.reduceAdd, Nat.reduceMul, Nat.reduceSub, ↓reduceIte, Int.reduceNeg, Int.reduceToNat, hmd, hks, Bool.beq_eq_decide_eq, Int.natCast_zero, Int.add_zero, ge_iff_le, gt_iff_lt, Option.isNone_none, Option.isNone_some, List.nil_append, List.append_nil, Bool.and_true, Bool.and_self, SB, Int.reducePow, hQ]
  (first | with_reducible refine if_d _ ?_ ?_ | refine if_i _ ?_ ?_) <;> intro h
  · simp +decide (maxSteps := 20000000) (disch := omega) only [↓SBK, ↓SBK2, SAU, SGs, SD, S1, S2, S3, SE, SC, SO, ST, SF, SK, bytes_len, bytes_get, Nat.reduceEqDiff, Nat.reduceAdd, Nat.reduceMul, Nat.reduceSub, ↓reduceIte, Int.reduceNeg, Int.reduceToNat, hmd, hks, Bool.beq_eq_decide_eq, Int.natCast_zero, Int.add_zero, ge_iff_le, gt_iff_lt, Option.isNone_none, Option.isNone_some, List.nil_append, List.append_nil, Bool.and_true, Bool.and_self, SB, Int.reducePow, hQ]
    rw [szC_lt (by omega)]
  · simp +decide (maxSteps := 20000000) (disch := omega) only [↓SBK, ↓SBK2, SAU, SGs, SD, S1, S2, S3, SE, SC, SO, ST, SF, SK, bytes_len, bytes_get, Nat.reduceEqDiff, Nat.reduceAdd, Nat.reduceMul, Nat.reduceSub, ↓reduceIte, Int.reduceNeg, Int.reduceToNat, hmd, hks, Bool.beq_eq_decide_eq, Int.natCast_zero, Int.add_zero, ge_iff_le, gt_iff_lt, Option.isNone_none, Option.isNone_some, List.nil_append, List.append_nil, Bool.and_true, Bool.and_self, SB, Int.reducePow, hQ]
    rw [szC_ge (by omega)]

theorem s_toByteS (a : Bytes) (hl : a.length < 2 ^ 40) : Spec Try.prog 61 [.ext 1 (bytesR a)] (.own 1 (bytesR a)) [.undef] := by
  refine spec_C hmx p_L_toByteS [] 29 [] ⟨Nat.le_of_ble_eq_true rfl, Nat.le_of_ble_eq_true rfl⟩ rfl rfl ?_
  intro w hP hmd hks hQ
  unfold c_L_toByteS
  simp +decide (maxSteps := 20000000) (disch := omega) only [↓SBK, ↓SBK2, SAU, SGs, SD, S1, S2, S3, SE, SC, SO, ST, SF, SK, bytes_len, bytes_get, Nat.reduceEqDiff, Nat.reduceAdd, Nat.reduceMul, Nat.reduceSub, ↓reduceIte, Int.reduceNeg, Int.reduceToNat, hmd, hks, Bool.beq_eq_decide_eq, Int.natCast_zero, Int.add_zero, ge_iff_le, gt_iff_lt, Option.isNone_none, Option.isNone_some, List.nil_append, List.append_nil, Bool.and_true, Bool.and_self, SB, Int.reducePow, hQ]
  refine loop_i (fun i : Nat => [(3, .own 1 (fillR byteRow [.int .u8 0] a i)), (4, .int .i64 i)]) (fun i => i ≤ a.length) (fun i => a.length - i) (0) hP hmd hks (by simp +decide (maxSteps := 20000000) (disch := omega) only [↓SBK, ↓SBK2, SAU, SGs, SD, S1, S2, S3, SE, SC, SO, ST, SF, SK, bytes_len, bytes_get, Nat.reduceEqDiff, Nat.reduceAdd, Nat.reduceMul, Nat.reduceSub, ↓reduceIte, Int.reduceNeg, Int.reduceToNat, hmd, hks, Bool.beq_eq_decide_eq, Int.natCast_zero, Int.add_zero, ge_iff_le, gt_iff_lt, Option.isNone_none, Option.isNone_some, List.nil_append, List.append_nil, Bool.and_true, Bool.and_self, SB, Int.reducePow, hQ, fillR_0]) (by omega) ?_
  rintro i hi w1 hP1 hmd1 hks1 hQ1
  simp +decide (maxSteps := 20000000) (disch := omega) only [↓SBK, ↓SBK2, SAU, SGs, SD, S1, S2, S3, SE, SC, SO, ST, SF, SK, bytes_len, bytes_get, Nat.reduceEqDiff, Nat.reduceAdd, Nat.reduceMul, Nat.reduceSub, ↓reduceIte, Int.reduceNeg, Int.reduceToNat, hmd, hks, Bool.beq_eq_decide_eq, Int.natCast_zero, Int.add_zero, ge_iff_le, gt_iff_lt, Option.isNone_none, Option.isNone_some, List.nil_append, List.append_nil, Bool.and_true, Bool.and_self, SB, Int.reducePow, hQ, hmd1, hks1, hQ1]
  (first | with_reducible refine if_d _ ?_ ?_ | refine if_i _ ?_ ?_) <;> intro h1
  · simp +decide (maxSteps := 20000000) (disch := omega) only [↓SBK, ↓SBK2, SAU, SGs, SD, S1, S2, S3, SE, SC, SO, ST, SF, SK, bytes_len, bytes_get, Nat.reduceEqDiff, Nat.reduceAdd, Nat.reduceMul, Nat.reduceSub, ↓reduceIte, Int.reduceNeg, Int.reduceToNat, hmd, hks, Bool.beq_eq_decide_eq, Int.natCast_zero, Int.add_zero, ge_iff_le, gt_iff_lt, Option.isNone_none, Option.isNone_some, List.nil_append, List.append_nil, Bool.and_true, Bool.and_self, SB, Int.reducePow, hQ, hmd1, hks1, hQ1, getE h1]
    rw [fillR_set _ _ _ _ (by omega) _ (by rfl)]
    exact ⟨i + 1, rfl, by omega, by omega⟩
  · simp +decide (maxSteps := 20000000) (disch := omega) only [↓SBK, ↓SBK2, SAU, SGs, SD, S1, S2, S3, SE, SC, SO, ST, SF, SK, bytes_len, bytes_get, Nat.reduceEqDiff, Nat.reduceAdd, Nat.reduceMul, Nat.reduceSub, ↓reduceIte, Int.reduceNeg, Int.reduceToNat, hmd, hks, Bool.beq_eq_decide_eq, Int.natCast_zero, Int.add_zero, ge_iff_le, gt_iff_lt, Option.isNone_none, Option.isNone_some, List.nil_append, List.append_nil, Bool.and_true, Bool.and_self, SB, Int.reducePow, hQ, hmd1, hks1, hQ1, fillR_all, bytesR_row]

end Go.Proofs.Ytliklgcfdgdigaa.Awp

namespace Go.Proofs.Ytliklgcfdgdigaa.Awp
open Go.Proofs
set_option linter.unusedSimpArgs false
set_option linter.unusedVariables false
set_option maxRecDepth 100000
set_option maxHeartbeats 20000000

theorem s_eqPage (a b : Page) (hl : a.sz < 2 ^ 40) : Spec Try.prog 187 [a.x, b.x] (.bool (decide (a = b))) [.undef, .undef] := by
  simp only [Page.sz] at hl
  refine spec_C hmx p_L_eqPage [] 31 [] ⟨Nat.le_of_ble_eq_true rfl, Nat.le_of_ble_eq_true rfl⟩ rfl rfl ?_
  intro w hP hmd hks hQ
  unfold c_L_eqPage
  simp +decide (maxSteps := 20000000) (disch := omega) only [↓SBK, ↓SBK2, SAU, SGs, SD, S1, S2, S3, SE, SC, SO, ST, SF, SK, bytes_len, bytes_get, Nat.reduceEqDiff, Nat.reduceAdd, Nat.reduceMul, Nat.reduceSub, ↓reduceIte, Int.reduceNeg, Int.reduceToNat, hmd, hks, Bool.beq_eq_decide_eq, Int.natCast_zero, Int.add_zero, ge_iff_le, gt_iff_lt, Option.isNone_none, Option.isNone_some, List.nil_append, List.append_nil, Bool.and_true, Bool.and_self, SB, Int.reducePow, hQ]
  (first | with_reducible refine if_d _ ?_ ?_ | refine if_i _ ?_ ?_) <;> intro h0
  rotate_left
  · simp +decide (maxSteps := 20000000) (disch := omega) only [↓SBK, ↓SBK2, SAU, SGs, SD, S1, S2, S3, SE, SC, SO, ST, SF, SK, bytes_len, bytes_get, Nat.reduceEqDiff, Nat.reduceAdd, Nat.reduceMul, Nat.reduceSub, ↓reduceIte, Int.reduceNeg, Int.reduceToNat, hmd, hks, Bool.beq_eq_decide_eq, Int.natCast_zero, Int.add_zero, ge_iff_le, gt_iff_lt, Option.isNone_none, Option.isNone_some, List.nil_append, List.append_nil, Bool.and_true, Bool.and_self, SB, Int.reducePow, hQ]
    rw [decide_eq_false (by rintro rfl; exact h0 rfl)]
  simp +decide (maxSteps := 20000000) (disch := omega) only [↓SBK, ↓SBK2, SAU, SGs, SD, S1, S2, S3, SE, SC, SO, ST, SF, SK, bytes_len, bytes_get, Nat.reduceEqDiff, Nat.reduceAdd, Nat.reduceMul, Nat.reduceSub, ↓reduceIte, Int.reduceNeg, Int.reduceToNat, hmd, hks, Bool.beq_eq_decide_eq, Int.natCast_zero, Int.add_zero, ge_iff_le, gt_iff_lt, Option.isNone_none, Option.isNone_some, List.nil_append, List.append_nil, Bool.and_true, Bool.and_self, SB, Int.reducePow, hQ]
  (first | refine call_i hP (s_eqByteS a.b b.b (by omega)) (.inl ⟨rfl, fun _ hx => nomatch hx⟩) ?_ | refine callH_i hP (s_eqByteS a.b b.b (by omega)) (.inl ⟨rfl, fun _ hx => nomatch hx⟩) ?_)
  simp +decide (maxSteps := 20000000) (disch := omega) only [↓SBK, ↓SBK2, SAU, SGs, SD, S1, S2, S3, SE, SC, SO, ST, SF, SK, bytes_len, bytes_get, Nat.reduceEqDiff, Nat.reduceAdd, Nat.reduceMul, Nat.reduceSub, ↓reduceIte, Int.reduceNeg, Int.reduceToNat, hmd, hks, Bool.beq_eq_decide_eq, Int.natCast_zero, Int.add_zero, ge_iff_le, gt_iff_lt, Option.isNone_none, Option.isNone_some, List.nil_append, List.append_nil, Bool.and_true, Bool.and_self, SB, Int.reducePow, hQ]
  (first | with_reducible refine if_d _ ?_ ?_ | refine if_i _ ?_ ?_) <;> intro h1
  rotate_left
  · simp +decide (maxSteps := 20000000) (disch := omega) only [↓SBK, ↓SBK2, SAU, SGs, SD, S1, S2, S3, SE, SC, SO, ST, SF, SK, bytes_len, bytes_get, Nat.reduceEqDiff, Nat.reduceAdd, Nat.reduceMul, Nat.reduceSub, ↓reduceIte, Int.reduceNeg, Int.reduceToNat, hmd, hks, Bool.beq_eq_decide_eq, Int.natCast_zero, Int.add_zero, ge_iff_le, gt_iff_lt, Option.isNone_none, Option.isNone_some, List.nil_append, List.append_nil, Bool.and_true, Bool.and_self, SB, Int.reducePow, hQ]
    rw [decide_eq_false (by rintro rfl; exact h1 rfl)]
  simp +decide (maxSteps := 20000000) (disch := omega) only [↓SBK, ↓SBK2, SAU, SGs, SD, S1, S2, S3, SE, SC, SO, ST, SF, SK, bytes_len, bytes_get, Nat.reduceEqDiff, Nat.reduceAdd, Nat.reduceMul, Nat.reduceSub, ↓reduceIte, Int.reduceNeg, Int.reduceToNat, hmd, hks, Bool.beq_eq_decide_eq, Int.natCast_zero, Int.add_zero, ge_iff_le, gt_iff_lt, Option.isNone_none, Option.isNone_some, List.nil_append, List.append_nil, Bool.and_true, Bool.and_self, SB, Int.reducePow, hQ]
  rw [decide_eq_true (Page.eq' h0 h1)]

theorem s_eqPageS (a b : List Page) (hl : szM Page.sz a < 2 ^ 40) : Spec Try.prog 184 [.ext 2 (a.map Page.row), .ext 2 (b.map Page.row)] (.bool (decide (a = b))) [.undef, .undef] := by
  simp only [szM] at hl
  refine spec_C hmx p_L_eqPageS [] 51 [] ⟨Nat.le_of_ble_eq_true rfl, Nat.le_of_ble_eq_true rfl⟩ rfl rfl ?_
  intro w hP hmd hks hQ
  unfold c_L_eqPageS
  simp +decide (maxSteps := 20000000) (disch := omega) only [↓SBK, ↓SBK2, SAU, SGs, SD, S1, S2, S3, SE, SC, SO, ST, SF, SK, bytes_len, bytes_get, Nat.reduceEqDiff, Nat.reduceAdd, Nat.reduceMul, Nat.reduceSub, ↓reduceIte, Int.reduceNeg, Int.reduceToNat, hmd, hks, Bool.beq_eq_decide_eq, Int.natCast_zero, Int.add_zero, ge_iff_le, gt_iff_lt, Option.isNone_none, Option.isNone_some, List.nil_append, List.append_nil, Bool.and_true, Bool.and_self, SB, Int.reducePow, hQ]
  (first | with_reducible refine if_d _ ?_ ?_ | refine if_i _ ?_ ?_) <;> intro h
  rotate_left
  · simp +decide (maxSteps := 20000000) (disch := omega) only [↓SBK, ↓SBK2, SAU, SGs, SD, S1, S2, S3, SE, SC, SO, ST, SF, SK, bytes_len, bytes_get, Nat.reduceEqDiff, Nat.reduceAdd, Nat.reduceMul, Nat.reduceSub, ↓reduceIte, Int.reduceNeg, Int.reduceToNat, hmd, hks, Bool.beq_eq_decide_eq, Int.natCast_zero, Int.add_zero, ge_iff_le, gt_iff_lt, Option.isNone_none, Option.isNone_some, List.nil_append, List.append_nil, Bool.and_true, Bool.and_self, SB, Int.reducePow, hQ]
    rw [decide_eq_false (by rintro rfl; exact h rfl)]
  simp +decide (maxSteps := 20000000) (disch := omega) only [↓SBK, ↓SBK2, SAU, SGs, SD, S1, S2, S3, SE, SC, SO, ST, SF, SK, bytes_len, bytes_get, Nat.reduceEqDiff, Nat.reduceAdd, Nat.reduceMul, Nat.reduceSub, ↓reduceIte, Int.reduceNeg, Int.reduceToNat, hmd, hks, Bool.beq_eq_decide_eq, Int.natCast_zero, Int.add_zero, ge_iff_le, gt_iff_lt, Option.isNone_none, Option.isNone_some, List.nil_append, List.append_nil, Bool.and_true, Bool.and_self, SB, Int.reducePow, hQ]
  refine loop_i (fun i : Nat => [(5, .int .i64 i)]) (fun i => i ≤ a.length ∧ a.take i = b.take i) (fun i => a.length - i) (0) hP hmd hks (rfl) (by simp) ?_
  rintro i ⟨hi, hab⟩ w1 hP1 hmd1 hks1 hQ1
  simp +decide (maxSteps := 20000000) (disch := omega) only [↓SBK, ↓SBK2, SAU, SGs, SD, S1, S2, S3, SE, SC, SO, ST, SF, SK, bytes_len, bytes_get, Nat.reduceEqDiff, Nat.reduceAdd, Nat.reduceMul, Nat.reduceSub, ↓reduceIte, Int.reduceNeg, Int.reduceToNat, hmd, hks, Bool.beq_eq_decide_eq, Int.natCast_zero, Int.add_zero, ge_iff_le, gt_iff_lt, Option.isNone_none, Option.isNone_some, List.nil_append, List.append_nil, Bool.and_true, Bool.and_self, SB, Int.reducePow, hQ, hmd1, hks1, hQ1]
  (first | with_reducible refine if_d _ ?_ ?_ | refine if_i _ ?_ ?_) <;> intro h1
  · simp +decide (maxSteps := 20000000) (disch := omega) only [↓SBK, ↓SBK2, SAU, SGs, SD, S1, S2, S3, SE, SC, SO, ST, SF, SK, bytes_len, bytes_get, Nat.reduceEqDiff, Nat.reduceAdd, Nat.reduceMul, Nat.reduceSub, ↓reduceIte, Int.reduceNeg, Int.reduceToNat, hmd, hks, Bool.beq_eq_decide_eq, Int.natCast_zero, Int.add_zero, ge_iff_le, gt_iff_lt, Option.isNone_none, Option.isNone_some, List.nil_append, List.append_nil, Bool.and_true, Bool.and_self, SB, Int.reducePow, hQ, hmd1, hks1, hQ1, getE h1, getE (h ▸ h1)]
    (first | refine call_i hP1 (s_eqPage (a[i]'(by omega)) (b[i]'(by omega)) (Nat.lt_of_le_of_lt (sum_get Page.sz _) (by omega))) (.inl ⟨rfl, fun _ hx => nomatch hx⟩) ?_ | refine callH_i hP1 (s_eqPage (a[i]'(by omega)) (b[i]'(by omega)) (Nat.lt_of_le_of_lt (sum_get Page.sz _) (by omega))) (.inl ⟨rfl, fun _ hx => nomatch hx⟩) ?_)
    simp +decide (maxSteps := 20000000) (disch := omega) only [↓SBK, ↓SBK2, SAU, SGs, SD, S1, S2, S3, SE, SC, SO, ST, SF, SK, bytes_len, bytes_get, Nat.reduceEqDiff, Nat.reduceAdd, Nat.reduceMul, Nat.reduceSub, ↓reduceIte, Int.reduceNeg, Int.reduceToNat, hmd, hks, Bool.beq_eq_decide_eq, Int.natCast_zero, Int.add_zero, ge_iff_le, gt_iff_lt, Option.isNone_none, Option.isNone_some, List.nil_append, List.append_nil, Bool.and_true, Bool.and_self, SB, Int.reducePow, hQ, hmd1, hks1, hQ1]
    (first | with_reducible refine if_d _ ?_ ?_ | refine if_i _ ?_ ?_) <;> intro h2
    · simp +decide (maxSteps := 20000000) (disch := omega) only [↓SBK, ↓SBK2, SAU, SGs, SD, S1, S2, S3, SE, SC, SO, ST, SF, SK, bytes_len, bytes_get, Nat.reduceEqDiff, Nat.reduceAdd, Nat.reduceMul, Nat.reduceSub, ↓reduceIte, Int.reduceNeg, Int.reduceToNat, hmd, hks, Bool.beq_eq_decide_eq, Int.natCast_zero, Int.add_zero, ge_iff_le, gt_iff_lt, Option.isNone_none, Option.isNone_some, List.nil_append, List.append_nil, Bool.and_true, Bool.and_self, SB, Int.reducePow, hQ, hmd1, hks1, hQ1]
      exact ⟨i + 1, rfl, ⟨by omega, take_eq_succ hab _ _ h2⟩, by omega⟩
    · simp +decide (maxSteps := 20000000) (disch := omega) only [↓SBK, ↓SBK2, SAU, SGs, SD, S1, S2, S3, SE, SC, SO, ST, SF, SK, bytes_len, bytes_get, Nat.reduceEqDiff, Nat.reduceAdd, Nat.reduceMul, Nat.reduceSub, ↓reduceIte, Int.reduceNeg, Int.reduceToNat, hmd, hks, Bool.beq_eq_decide_eq, Int.natCast_zero, Int.add_zero, ge_iff_le, gt_iff_lt, Option.isNone_none, Option.isNone_some, List.nil_append, List.append_nil, Bool.and_true, Bool.and_self, SB, Int.reducePow, hQ, hmd1, hks1, hQ1]
      rw [decide_eq_false (by rintro rfl; exact h2 rfl)]
  · simp +decide (maxSteps := 20000000) (disch := omega) only [↓SBK, ↓SBK2, SAU, SGs, SD, S1, S2, S3, SE, SC, SO, ST, SF, SK, bytes_len, bytes_get, Nat.reduceEqDiff, Nat.reduceAdd, Nat.reduceMul, Nat.reduceSub, ↓reduceIte, Int.reduceNeg, Int.reduceToNat, hmd, hks, Bool.beq_eq_decide_eq, Int.natCast_zero, Int.add_zero, ge_iff_le, gt_iff_lt, Option.isNone_none, Option.isNone_some, List.nil_append, List.append_nil, Bool.and_true, Bool.and_self, SB, Int.reducePow, hQ, hmd1, hks1, hQ1]
    rw [decide_eq_true (take_all hab (by omega) (by omega))]

theorem s_eqBlock (a b : Block) (hl : a.sz < 2 ^ 40) : Spec Try.prog 169 [a.x, b.x] (.bool (decide (a = b))) [.undef, .undef] := by
  simp only [Block.sz] at hl
  refine spec_C hmx p_L_eqBlock [] 31 [] ⟨Nat.le_of_ble_eq_true rfl, Nat.le_of_ble_eq_true rfl⟩ rfl rfl ?_
  intro w hP hmd hks hQ
  unfold c_L_eqBlock
  simp +decide (maxSteps := 20000000) (disch := omega) only [↓SBK, ↓SBK2, SAU, SGs, SD, S1, S2, S3, SE, SC, SO, ST, SF, SK, bytes_len, bytes_get, Nat.reduceEqDiff, Nat.reduceAdd, Nat.reduceMul, Nat.reduceSub, ↓reduceIte, Int.reduceNeg, Int.reduceToNat, hmd, hks, Bool.beq_eq_decide_eq, Int.natCast_zero, Int.add_zero, ge_iff_le, gt_iff_lt, Option.isNone_none, Option.isNone_some, List.nil_append, List.append_nil, Bool.and_true, Bool.and_self, SB, Int.reducePow, hQ]
  (first | refine call_i hP (s_eqPageS a.pages b.pages (by omega)) (.inl ⟨rfl, fun _ hx => nomatch hx⟩) ?_ | refine callH_i hP (s_eqPageS a.pages b.pages (by omega)) (.inl ⟨rfl, fun _ hx => nomatch hx⟩) ?_)
  simp +decide (maxSteps := 20000000) (disch := omega) only [↓SBK, ↓SBK2, SAU, SGs, SD, S1, S2, S3, SE, SC, SO, ST, SF, SK, bytes_len, bytes_get, Nat.reduceEqDiff, Nat.reduceAdd, Nat.reduceMul, Nat.reduceSub, ↓reduceIte, Int.reduceNeg, Int.reduceToNat, hmd, hks, Bool.beq_eq_decide_eq, Int.natCast_zero, Int.add_zero, ge_iff_le, gt_iff_lt, Option.isNone_none, Option.isNone_some, List.nil_append, List.append_nil, Bool.and_true, Bool.and_self, SB, Int.reducePow, hQ]
  (first | with_reducible refine if_d _ ?_ ?_ | refine if_i _ ?_ ?_) <;> intro h0
  rotate_left
  · simp +decide (maxSteps := 20000000) (disch := omega) only [↓SBK, ↓SBK2, SAU, SGs, SD, S1, S2, S3, SE, SC, SO, ST, SF, SK, bytes_len, bytes_get, Nat.reduceEqDiff, Nat.reduceAdd, Nat.reduceMul, Nat.reduceSub, ↓reduceIte, Int.reduceNeg, Int.reduceToNat, hmd, hks, Bool.beq_eq_decide_eq, Int.natCast_zero, Int.add_zero, ge_iff_le, gt_iff_lt, Option.isNone_none, Option.isNone_some, List.nil_append, List.append_nil, Bool.and_true, Bool.and_self, SB, Int.reducePow, hQ]
    rw [decide_eq_false (by rintro rfl; exact h0 rfl)]
  simp +decide (maxSteps := 20000000) (disch := omega) only [↓SBK, ↓SBK2, SAU, SGs, SD, S1, S2, S3, SE, SC, SO, ST, SF, SK, bytes_len, bytes_get, Nat.reduceEqDiff, Nat.reduceAdd, Nat.reduceMul, Nat.reduceSub, ↓reduceIte, Int.reduceNeg, Int.reduceToNat, hmd, hks, Bool.beq_eq_decide_eq, Int.natCast_zero, Int.add_zero, ge_iff_le, gt_iff_lt, Option.isNone_none, Option.isNone_some, List.nil_append, List.append_nil, Bool.and_true, Bool.and_self, SB, Int.reducePow, hQ]
  (first | with_reducible refine if_d _ ?_ ?_ | refine if_i _ ?_ ?_) <;> intro h1
  rotate_left
  · simp +decide (maxSteps := 20000000) (disch := omega) only [↓SBK, ↓SBK2, SAU, SGs, SD, S1, S2, S3, SE, SC, SO, ST, SF, SK, bytes_len, bytes_get, Nat.reduceEqDiff, Nat.reduceAdd, Nat.reduceMul, Nat.reduceSub, ↓reduceIte, Int.reduceNeg, Int.reduceToNat, hmd, hks, Bool.beq_eq_decide_eq, Int.natCast_zero, Int.add_zero, ge_iff_le, gt_iff_lt, Option.isNone_none, Option.isNone_some, List.nil_append, List.append_nil, Bool.and_true, Bool.and_self, SB, Int.reducePow, hQ]
    rw [decide_eq_false (by rintro rfl; exact h1 rfl)]
  simp +decide (maxSteps := 20000000) (disch := omega) only [↓SBK, ↓SBK2, SAU, SGs, SD, S1, S2, S3, SE, SC, SO, ST, SF, SK, bytes_len, bytes_get, Nat.reduceEqDiff, Nat.reduceAdd, Nat.reduceMul, Nat.reduceSub, ↓reduceIte, Int.reduceNeg, Int.reduceToNat, hmd, hks, Bool.beq_eq_decide_eq, Int.natCast_zero, Int.add_zero, ge_iff_le, gt_iff_lt, Option.isNone_none, Option.isNone_some, List.nil_append, List.append_nil, Bool.and_true, Bool.and_self, SB, Int.reducePow, hQ]
  (first | with_reducible refine if_d _ ?_ ?_ | refine if_i _ ?_ ?_) <;> intro h2
  rotate_left
  · simp +decide (maxSteps := 20000000) (disch := omega) only [↓SBK, ↓SBK2, SAU, SGs, SD, S1, S2, S3, SE, SC, SO, ST, SF, SK, bytes_len, bytes_get, Nat.reduceEqDiff, Nat.reduceAdd, Nat.reduceMul, Nat.reduceSub, ↓reduceIte, Int.reduceNeg, Int.reduceToNat, hmd, hks, Bool.beq_eq_decide_eq, Int.natCast_zero, Int.add_zero, ge_iff_le, gt_iff_lt, Option.isNone_none, Option.isNone_some, List.nil_append, List.append_nil, Bool.and_true, Bool.and_self, SB, Int.reducePow, hQ]
    rw [decide_eq_false (by rintro rfl; exact h2 rfl)]
  simp +decide (maxSteps := 20000000) (disch := omega) only [↓SBK, ↓SBK2, SAU, SGs, SD, S1, S2, S3, SE, SC, SO, ST, SF, SK, bytes_len, bytes_get, Nat.reduceEqDiff, Nat.reduceAdd, Nat.reduceMul, Nat.reduceSub, ↓reduceIte, Int.reduceNeg, Int.reduceToNat, hmd, hks, Bool.beq_eq_decide_eq, Int.natCast_zero, Int.add_zero, ge_iff_le, gt_iff_lt, Option.isNone_none, Option.isNone_some, List.nil_append, List.append_nil, Bool.and_true, Bool.and_self, SB, Int.reducePow, hQ]
  rw [decide_eq_true (Block.eq' h0 h1 h2)]

theorem s_eqBlockS (a b : List Block) (hl : szM Block.sz a < 2 ^ 40) : Spec Try.prog 126 [.ext 3 (a.map Block.row), .ext 3 (b.map Block.row)] (.bool (decide (a = b))) [.undef, .undef] := by
  simp only [szM] at hl
  refine spec_C hmx p_L_eqBlockS [] 51 [] ⟨Nat.le_of_ble_eq_true rfl, Nat.le_of_ble_eq_true rfl⟩ rfl rfl ?_
  intro w hP hmd hks hQ
  unfold c_L_eqBlockS
  simp +decide (maxSteps := 20000000) (disch := omega) only [↓SBK, ↓SBK2, SAU, SGs, SD, S1, S2, S3, SE, SC, SO, ST, SF, SK, bytes_len, bytes_get, Nat.reduceEqDiff, Nat.reduceAdd, Nat.reduceMul, Nat.reduceSub, ↓reduceIte, Int.reduceNeg, Int.reduceToNat, hmd, hks, Bool.beq_eq_decide_eq, Int.natCast_zero, Int.add_zero, ge_iff_le, gt_iff_lt, Option.isNone_none, Option.isNone_some, List.nil_append, List.append_nil, Bool.and_true, Bool.and_self, SB, Int.reducePow, hQ]
  (first | with_reducible refine if_d _ ?_ ?_ | refine if_i _ ?_ ?_) <;> intro h
  rotate_left
  · simp +decide (maxSteps := 20000000) (disch := omega) only [↓SBK, ↓SBK2, SAU, SGs, SD, S1, S2, S3, SE, SC, SO, ST, SF, SK, bytes_len, bytes_get, Nat.reduceEqDiff, Nat.reduceAdd, Nat.reduceMul, Nat.reduceSub, ↓reduceIte, Int.reduceNeg, Int.reduceToNat, hmd, hks, Bool.beq_eq_decide_eq, Int.natCast_zero, Int.add_zero, ge_iff_le, gt_iff_lt, Option.isNone_none, Option.isNone_some, List.nil_append, List.append_nil, Bool.and_true, Bool.and_self, SB, Int.reducePow, hQ]
    rw [decide_eq_false (by rintro rfl; exact h rfl)]
  simp +decide (maxSteps := 20000000) (disch := omega) only [↓SBK, ↓SBK2, SAU, SGs, SD, S1, S2, S3, SE, SC, SO, ST, SF, SK, bytes_len, bytes_get, Nat.reduceEqDiff, Nat.reduceAdd, Nat.reduceMul, Nat.reduceSub, ↓reduceIte, Int.reduceNeg, Int.reduceToNat, hmd, hks, Bool.beq_eq_decide_eq, Int.natCast_zero, Int.add_zero, ge_iff_le, gt_iff_lt, Option.isNone_none, Option.isNone_some, List.nil_append, List.append_nil, Bool.and_true, Bool.and_self, SB, Int.reducePow, hQ]
  refine loop_i (fun i : Nat => [(5, .int .i64 i)]) (fun i => i ≤ a.length ∧ a.take i = b.take i) (fun i => a.length - i) (0) hP hmd hks (rfl) (by simp) ?_
  rintro i ⟨hi, hab⟩ w1 hP1 hmd1 hks1 hQ1
  simp +decide (maxSteps := 20000000) (disch := omega) only [↓SBK, ↓SBK2, SAU, SGs, SD, S1, S2, S3, SE, SC, SO, ST, SF, SK, bytes_len, bytes_get, Nat.reduceEqDiff, Nat.reduceAdd, Nat.reduceMul, Nat.reduceSub, ↓reduceIte, Int.reduceNeg, Int.reduceToNat, hmd, hks, Bool.beq_eq_decide_eq, Int.natCast_zero, Int.add_zero, ge_iff_le, gt_iff_lt, Option.isNone_none, Option.isNone_some, List.nil_append, List.append_nil, Bool.and_true, Bool.and_self, SB, Int.reducePow, hQ, hmd1, hks1, hQ1]
  (first | with_reducible refine if_d _ ?_ ?_ | refine if_i _ ?_ ?_) <;> intro h1
  · simp +decide (maxSteps := 20000000) (disch := omega) only [↓SBK, ↓SBK2, SAU, SGs, SD, S1, S2, S3, SE, SC, SO, ST, SF, SK, bytes_len, bytes_get, Nat.reduceEqDiff, Nat.reduceAdd, Nat.reduceMul, Nat.reduceSub, ↓reduceIte, Int.reduceNeg, Int.reduceToNat, hmd, hks, Bool.beq_eq_decide_eq, Int.natCast_zero, Int.add_zero, ge_iff_le, gt_iff_lt, Option.isNone_none, Option.isNone_some, List.nil_append, List.append_nil, Bool.and_true, Bool.and_self, SB, Int.reducePow, hQ, hmd1, hks1, hQ1, getE h1, getE (h ▸ h1)]
    (first | refine call_i hP1 (s_eqBlock (a[i]'(by omega)) (b[i]'(by omega)) (Nat.lt_of_le_of_lt (sum_get Block.sz _) (by omega))) (.inl ⟨rfl, fun _ hx => nomatch hx⟩) ?_ | refine callH_i hP1 (s_eqBlock (a[i]'(by omega)) (b[i]'(by omega)) (Nat.lt_of_le_of_lt (sum_get Block.sz _) (by omega))) (.inl ⟨rfl, fun _ hx => nomatch hx⟩) ?_)
    simp +decide (maxSteps := 20000000) (disch := omega) only [↓SBK, ↓SBK2, SAU, SGs, SD, S1, S2, S3, SE, SC, SO, ST, SF, SK, bytes_len, bytes_get, Nat.reduceEqDiff, Nat.reduceAdd, Nat.reduceMul, Nat.reduceSub, ↓reduceIte, Int.reduceNeg, Int.reduceToNat, hmd, hks, Bool.beq_eq_decide_eq, Int.natCast_zero, Int.add_zero, ge_iff_le, gt_iff_lt, Option.isNone_none, Option.isNone_some, List.nil_append, List.append_nil, Bool.and_true, Bool.and_self, SB, Int.reducePow, hQ, hmd1, hks1, hQ1]
    (first | with_reducible refine if_d _ ?_ ?_ | refine if_i _ ?_ ?_) <;> intro h2
    · simp +decide (maxSteps := 20000000) (disch := omega) only [↓SBK, ↓SBK2, SAU, SGs, SD, S1, S2, S3, SE, SC, SO, ST, SF, SK, bytes_len, bytes_get, Nat.reduceEqDiff, Nat.reduceAdd, Nat.reduceMul, Nat.reduceSub, ↓reduceIte, Int.reduceNeg, Int.reduceToNat, hmd, hks, Bool.beq_eq_decide_eq, Int.natCast_zero, Int.add_zero, ge_iff_le, gt_iff_lt, Option.isNone_none, Option.isNone_some, List.nil_append, List.append_nil, Bool.and_true, Bool.and_self, SB, Int.reducePow, hQ, hmd1, hks1, hQ1]
      exact ⟨i + 1, rfl, ⟨by omega, take_eq_succ hab _ _ h2⟩, by omega⟩
    · simp +decide (maxSteps := 20000000) (disch := omega) only [↓SBK, ↓SBK2, SAU, SGs, SD, S1, S2, S3, SE, SC, SO, ST, SF, SK, bytes_len, bytes_get, Nat.reduceEqDiff, Nat.reduceAdd, Nat.reduceMul, Nat.reduceSub, ↓reduceIte, Int.reduceNeg, Int.reduceToNat, hmd, hks, Bool.beq_eq_decide_eq, Int.natCast_zero, Int.add_zero, ge_iff_le, gt_iff_lt, Option.isNone_none, Option.isNone_some, List.nil_append, List.append_nil, Bool.and_true, Bool.and_self, SB, Int.reducePow, hQ, hmd1, hks1, hQ1]
      rw [decide_eq_false (by rintro rfl; exact h2 rfl)]
  · simp +decide (maxSteps := 20000000) (disch := omega) only [↓SBK, ↓SBK2, SAU, SGs, SD, S1, S2, S3, SE, SC, SO, ST, SF, SK, bytes_len, bytes_get, Nat.reduceEqDiff, Nat.reduceAdd, Nat.reduceMul, Nat.reduceSub, ↓reduceIte, Int.reduceNeg, Int.reduceToNat, hmd, hks, Bool.beq_eq_decide_eq, Int.natCast_zero, Int.add_zero, ge_iff_le, gt_iff_lt, Option.isNone_none, Option.isNone_some, List.nil_append, List.append_nil, Bool.and_true, Bool.and_self, SB, Int.reducePow, hQ, hmd1, hks1, hQ1]
    rw [decide_eq_true (take_all hab (by omega) (by omega))]

theorem s_eqChip (a b : Chip) (hl : a.sz < 2 ^ 40) : Spec Try.prog 50 [a.x, b.x] (.bool (decide (a = b))) [.undef, .undef] := by
  simp only [Chip.sz] at hl
  refine spec_C hmx p_L_eqChip [] 31 [] ⟨Nat.le_of_ble_eq_true rfl, Nat.le_of_ble_eq_true rfl⟩ rfl rfl ?_
  intro w hP hmd hks hQ
  unfold c_L_eqChip
  simp +decide (maxSteps := 20000000) (disch := omega) only [↓SBK, ↓SBK2, SAU, SGs, SD, S1, S2, S3, SE, SC, SO, ST, SF, SK, bytes_len, bytes_get, Nat.reduceEqDiff, Nat.reduceAdd, Nat.reduceMul, Nat.reduceSub, ↓reduceIte, Int.reduceNeg, Int.reduceToNat, hmd, hks, Bool.beq_eq_decide_eq, Int.natCast_zero, Int.add_zero, ge_iff_le, gt_iff_lt, Option.isNone_none, Option.isNone_some, List.nil_append, List.append_nil, Bool.and_true, Bool.and_self, SB, Int.reducePow, hQ]
  (first | refine call_i hP (s_eqBlockS a.blocks b.blocks (by omega)) (.inl ⟨rfl, fun _ hx => nomatch hx⟩) ?_ | refine callH_i hP (s_eqBlockS a.blocks b.blocks (by omega)) (.inl ⟨rfl, fun _ hx => nomatch hx⟩) ?_)
  simp +decide (maxSteps := 20000000) (disch := omega) only [↓SBK, ↓SBK2, SAU, SGs, SD, S1, S2, S3, SE, SC, SO, ST, SF, SK, bytes_len, bytes_get, Nat.reduceEqDiff, Nat.reduceAdd, Nat.reduceMul, Nat.reduceSub, ↓reduceIte, Int.reduceNeg, Int.reduceToNat, hmd, hks, Bool.beq_eq_decide_eq, Int.natCast_zero, Int.add_zero, ge_iff_le, gt_iff_lt, Option.isNone_none, Option.isNone_some, List.nil_append, List.append_nil, Bool.and_true, Bool.and_self, SB, Int.reducePow, hQ]
  (first | with_reducible refine if_d _ ?_ ?_ | refine if_i _ ?_ ?_) <;> intro h0
  rotate_left
  · simp +decide (maxSteps := 20000000) (disch := omega) only [↓SBK, ↓SBK2, SAU, SGs, SD, S1, S2, S3, SE, SC, SO, ST, SF, SK, bytes_len, bytes_get, Nat.reduceEqDiff, Nat.reduceAdd, Nat.reduceMul, Nat.reduceSub, ↓reduceIte, Int.reduceNeg, Int.reduceToNat, hmd, hks, Bool.beq_eq_decide_eq, Int.natCast_zero, Int.add_zero, ge_iff_le, gt_iff_lt, Option.isNone_none, Option.isNone_some, List.nil_append, List.append_nil, Bool.and_true, Bool.and_self, SB, Int.reducePow, hQ]
    rw [decide_eq_false (by rintro rfl; exact h0 rfl)]
  simp +decide (maxSteps := 20000000) (disch := omega) only [↓SBK, ↓SBK2, SAU, SGs, SD, S1, S2, S3, SE, SC, SO, ST, SF, SK, bytes_len, bytes_get, Nat.reduceEqDiff, Nat.reduceAdd, Nat.reduceMul, Nat.reduceSub, ↓reduceIte, Int.reduceNeg, Int.reduceToNat, hmd, hks, Bool.beq_eq_decide_eq, Int.natCast_zero, Int.add_zero, ge_iff_le, gt_iff_lt, Option.isNone_none, Option.isNone_some, List.nil_append, List.append_nil, Bool.and_true, Bool.and_self, SB, Int.reducePow, hQ]
  rw [decide_eq_true (Chip.eq' h0)]

theorem s_eqFault (a b : Fault) (hl : a.sz < 2 ^ 40) : Spec Try.prog 85 [a.x, b.x] (.bool (decide (a = b))) [.undef, .undef] := by
  simp only [Fault.sz] at hl
  refine spec_C hmx p_L_eqFault [] 31 [] ⟨Nat.le_of_ble_eq_true rfl, Nat.le_of_ble_eq_true rfl⟩ rfl rfl ?_
  intro w hP hmd hks hQ
  unfold c_L_eqFault
  simp +decide (maxSteps := 20000000) (disch := omega) only [↓SBK, ↓SBK2, SAU, SGs, SD, S1, S2, S3, SE, SC, SO, ST, SF, SK, bytes_len, bytes_get, Nat.reduceEqDiff, Nat.reduceAdd, Nat.reduceMul, Nat.reduceSub, ↓reduceIte, Int.reduceNeg, Int.reduceToNat, hmd, hks, Bool.beq_eq_decide_eq, Int.natCast_zero, Int.add_zero, ge_iff_le, gt_iff_lt, Option.isNone_none, Option.isNone_some, List.nil_append, List.append_nil, Bool.and_true, Bool.and_self, SB, Int.reducePow, hQ]
  (first | with_reducible refine if_d _ ?_ ?_ | refine if_i _ ?_ ?_) <;> intro h0
  rotate_left
  · simp +decide (maxSteps := 20000000) (disch := omega) only [↓SBK, ↓SBK2, SAU, SGs, SD, S1, S2, S3, SE, SC, SO, ST, SF, SK, bytes_len, bytes_get, Nat.reduceEqDiff, Nat.reduceAdd, Nat.reduceMul, Nat.reduceSub, ↓reduceIte, Int.reduceNeg, Int.reduceToNat, hmd, hks, Bool.beq_eq_decide_eq, Int.natCast_zero, Int.add_zero, ge_iff_le, gt_iff_lt, Option.isNone_none, Option.isNone_some, List.nil_append, List.append_nil, Bool.and_true, Bool.and_self, SB, Int.reducePow, hQ]
    rw [decide_eq_false (by rintro rfl; exact h0 rfl)]
  simp +decide (maxSteps := 20000000) (disch := omega) only [↓SBK, ↓SBK2, SAU, SGs, SD, S1, S2, S3, SE, SC, SO, ST, SF, SK, bytes_len, bytes_get, Nat.reduceEqDiff, Nat.reduceAdd, Nat.reduceMul, Nat.reduceSub, ↓reduceIte, Int.reduceNeg, Int.reduceToNat, hmd, hks, Bool.beq_eq_decide_eq, Int.natCast_zero, Int.add_zero, ge_iff_le, gt_iff_lt, Option.isNone_none, Option.isNone_some, List.nil_append, List.append_nil, Bool.and_true, Bool.and_self, SB, Int.reducePow, hQ]
  (first | with_reducible refine if_d _ ?_ ?_ | refine if_i _ ?_ ?_) <;> intro h1
  rotate_left
  · simp +decide (maxSteps := 20000000) (disch := omega) only [↓SBK, ↓SBK2, SAU, SGs, SD, S1, S2, S3, SE, SC, SO, ST, SF, SK, bytes_len, bytes_get, Nat.reduceEqDiff, Nat.reduceAdd, Nat.reduceMul, Nat.reduceSub, ↓reduceIte, Int.reduceNeg, Int.reduceToNat, hmd, hks, Bool.beq_eq_decide_eq, Int.natCast_zero, Int.add_zero, ge_iff_le, gt_iff_lt, Option.isNone_none, Option.isNone_some, List.nil_append, List.append_nil, Bool.and_true, Bool.and_self, SB, Int.reducePow, hQ]
    rw [decide_eq_false (by rintro rfl; exact h1 rfl)]
  simp +decide (maxSteps := 20000000) (disch := omega) only [↓SBK, ↓SBK2, SAU, SGs, SD, S1, S2, S3, SE, SC, SO, ST, SF, SK, bytes_len, bytes_get, Nat.reduceEqDiff, Nat.reduceAdd, Nat.reduceMul, Nat.reduceSub, ↓reduceIte, Int.reduceNeg, Int.reduceToNat, hmd, hks, Bool.beq_eq_decide_eq, Int.natCast_zero, Int.add_zero, ge_iff_le, gt_iff_lt, Option.isNone_none, Option.isNone_some, List.nil_append, List.append_nil, Bool.and_true, Bool.and_self, SB, Int.reducePow, hQ]
  (first | with_reducible refine if_d _ ?_ ?_ | refine if_i _ ?_ ?_) <;> intro h2
  rotate_left
  · simp +decide (maxSteps := 20000000) (disch := omega) only [↓SBK, ↓SBK2, SAU, SGs, SD, S1, S2, S3, SE, SC, SO, ST, SF, SK, bytes_len, bytes_get, Nat.reduceEqDiff, Nat.reduceAdd, Nat.reduceMul, Nat.reduceSub, ↓reduceIte, Int.reduceNeg, Int.reduceToNat, hmd, hks, Bool.beq_eq_decide_eq, Int.natCast_zero, Int.add_zero, ge_iff_le, gt_iff_lt, Option.isNone_none, Option.isNone_some, List.nil_append, List.append_nil, Bool.and_true, Bool.and_self, SB, Int.reducePow, hQ]
    rw [decide_eq_false (by rintro rfl; exact h2 rfl)]
  simp +decide (maxSteps := 20000000) (disch := omega) only [↓SBK, ↓SBK2, SAU, SGs, SD, S1, S2, S3, SE, SC, SO, ST, SF, SK, bytes_len, bytes_get, Nat.reduceEqDiff, Nat.reduceAdd, Nat.reduceMul, Nat.reduceSub, ↓reduceIte, Int.reduceNeg, Int.reduceToNat, hmd, hks, Bool.beq_eq_decide_eq, Int.natCast_zero, Int.add_zero, ge_iff_le, gt_iff_lt, Option.isNone_none, Option.isNone_some, List.nil_append, List.append_nil, Bool.and_true, Bool.and_self, SB, Int.reducePow, hQ]
  rw [decide_eq_true (Fault.eq' h0 h1 h2)]

theorem s_eqFaultS (a b : List Fault) (hl : a.length < 2 ^ 40) : Spec Try.prog 105 [.ext 3 (a.map Fault.row), .ext 3 (b.map Fault.row)] (.bool (decide (a = b))) [.undef, .undef] := by
  refine spec_C hmx p_L_eqFaultS [] 51 [] ⟨Nat.le_of_ble_eq_true rfl, Nat.le_of_ble_eq_true rfl⟩ rfl rfl ?_
  intro w hP hmd hks hQ
  unfold c_L_eqFaultS
  simp +decide (maxSteps := 20000000) (disch := omega) only [↓SBK, ↓SBK2, SAU, SGs, SD, S1, S2, S3, SE, SC, SO, ST, SF, SK, bytes_len, bytes_get, Nat.reduceEqDiff, Nat.reduceAdd, Nat.reduceMul, Nat.reduceSub, ↓reduceIte, Int.reduceNeg, Int.reduceToNat, hmd, hks, Bool.beq_eq_decide_eq, Int.natCast_zero, Int.add_zero, ge_iff_le, gt_iff_lt, Option.isNone_none, Option.isNone_some, List.nil_append, List.append_nil, Bool.and_true, Bool.and_self, SB, Int.reducePow, hQ]
  (first | with_reducible refine if_d _ ?_ ?_ | refine if_i _ ?_ ?_) <;> intro h
  rotate_left
  · simp +decide (maxSteps := 20000000) (disch := omega) only [↓SBK, ↓SBK2, SAU, SGs, SD, S1, S2, S3, SE, SC, SO, ST, SF, SK, bytes_len, bytes_get, Nat.reduceEqDiff, Nat.reduceAdd, Nat.reduceMul, Nat.reduceSub, ↓reduceIte, Int.reduceNeg, Int.reduceToNat, hmd, hks, Bool.beq_eq_decide_eq, Int.natCast_zero, Int.add_zero, ge_iff_le, gt_iff_lt, Option.isNone_none, Option.isNone_some, List.nil_append, List.append_nil, Bool.and_true, Bool.and_self, SB, Int.reducePow, hQ]
    rw [decide_eq_false (by rintro rfl; exact h rfl)]
  simp +decide (maxSteps := 20000000) (disch := omega) only [↓SBK, ↓SBK2, SAU, SGs, SD, S1, S2, S3, SE, SC, SO, ST, SF, SK, bytes_len, bytes_get, Nat.reduceEqDiff, Nat.reduceAdd, Nat.reduceMul, Nat.reduceSub, ↓reduceIte, Int.reduceNeg, Int.reduceToNat, hmd, hks, Bool.beq_eq_decide_eq, Int.natCast_zero, Int.add_zero, ge_iff_le, gt_iff_lt, Option.isNone_none, Option.isNone_some, List.nil_append, List.append_nil, Bool.and_true, Bool.and_self, SB, Int.reducePow, hQ]
  refine loop_i (fun i : Nat => [(5, .int .i64 i)]) (fun i => i ≤ a.length ∧ a.take i = b.take i) (fun i => a.length - i) (0) hP hmd hks (rfl) (by simp) ?_
  rintro i ⟨hi, hab⟩ w1 hP1 hmd1 hks1 hQ1
  simp +decide (maxSteps := 20000000) (disch := omega) only [↓SBK, ↓SBK2, SAU, SGs, SD, S1, S2, S3, SE, SC, SO, ST, SF, SK, bytes_len, bytes_get, Nat.reduceEqDiff, Nat.reduceAdd, Nat.reduceMul, Nat.reduceSub, ↓reduceIte, Int.reduceNeg, Int.reduceToNat, hmd, hks, Bool.beq_eq_decide_eq, Int.natCast_zero, Int.add_zero, ge_iff_le, gt_iff_lt, Option.isNone_none, Option.isNone_some, List.nil_append, List.append_nil, Bool.and_true, Bool.and_self, SB, Int.reducePow, hQ, hmd1, hks1, hQ1]
  (first | with_reducible refine if_d _ ?_ ?_ | refine if_i _ ?_ ?_) <;> intro h1
  · simp +decide (maxSteps := 20000000) (disch := omega) only [↓SBK, ↓SBK2, SAU, SGs, SD, S1, S2, S3, SE, SC, SO, ST, SF, SK, bytes_len, bytes_get, Nat.reduceEqDiff, Nat.reduceAdd, Nat.reduceMul, Nat.reduceSub, ↓reduceIte, Int.reduceNeg, Int.reduceToNat, hmd, hks, Bool.beq_eq_decide_eq, Int.natCast_zero, Int.add_zero, ge_iff_le, gt_iff_lt, Option.isNone_none, Option.isNone_some, List.nil_append, List.append_nil, Bool.and_true, Bool.and_self, SB, Int.reducePow, hQ, hmd1, hks1, hQ1, getE h1, getE (h ▸ h1)]
    (first | refine call_i hP1 (s_eqFault (a[i]'(by omega)) (b[i]'(by omega)) (by simp only [Fault.sz]; omega)) (.inl ⟨rfl, fun _ hx => nomatch hx⟩) ?_ | refine callH_i hP1 (s_eqFault (a[i]'(by omega)) (b[i]'(by omega)) (by simp only [Fault.sz]; omega)) (.inl ⟨rfl, fun _ hx => nomatch hx⟩) ?_)
    simp +decide (maxSteps := 20000000) (disch := omega) only [↓SBK, ↓SBK2, SAU, SGs, SD, S1, S2, S3, SE, SC, SO, ST, SF, SK, bytes_len, bytes_get, Nat.reduceEqDiff, Nat.reduceAdd, Nat.reduceMul, Nat.reduceSub, ↓reduceIte, Int.reduceNeg, Int.reduceToNat, hmd, hks, Bool.beq_eq_decide_eq, Int.natCast_zero, Int.add_zero, ge_iff_le, gt_iff_lt, Option.isNone_none, Option.isNone_some, List.nil_append, List.append_nil, Bool.and_true, Bool.and_self, SB, Int.reducePow, hQ, hmd1, hks1, hQ1]
    (first | with_reducible refine if_d _ ?_ ?_ | refine if_i _ ?_ ?_) <;> intro h2
    · simp +decide (maxSteps := 20000000) (disch := omega) only [↓SBK, ↓SBK2, SAU, SGs, SD, S1, S2, S3, SE, SC, SO, ST, SF, SK, bytes_len, bytes_get, Nat.reduceEqDiff, Nat.reduceAdd, Nat.reduceMul, Nat.reduceSub, ↓reduceIte, Int.reduceNeg, Int.reduceToNat, hmd, hks, Bool.beq_eq_decide_eq, Int.natCast_zero, Int.add_zero, ge_iff_le, gt_iff_lt, Option.isNone_none, Option.isNone_some, List.nil_append, List.append_nil, Bool.and_true, Bool.and_self, SB, Int.reducePow, hQ, hmd1, hks1, hQ1]
      exact ⟨i + 1, rfl, ⟨by omega, take_eq_succ hab _ _ h2⟩, by omega⟩
    · simp +decide (maxSteps := 20000000) (disch := omega) only [↓SBK, ↓SBK2, SAU, SGs, SD, S1, S2, S3, SE, SC, SO, ST, SF, SK, bytes_len, bytes_get, Nat.reduceEqDiff, Nat.reduceAdd, Nat.reduceMul, Nat.reduceSub, ↓reduceIte, Int.reduceNeg, Int.reduceToNat, hmd, hks, Bool.beq_eq_decide_eq, Int.natCast_zero, Int.add_zero, ge_iff_le, gt_iff_lt, Option.isNone_none, Option.isNone_some, List.nil_append, List.append_nil, Bool.and_true, Bool.and_self, SB, Int.reducePow, hQ, hmd1, hks1, hQ1]
      rw [decide_eq_false (by rintro rfl; exact h2 rfl)]
  · simp +decide (maxSteps := 20000000) (disch := omega) only [↓SBK, ↓SBK2, SAU, SGs, SD, S1, S2, S3, SE, SC, SO, ST, SF, SK, bytes_len, bytes_get, Nat.reduceEqDiff, Nat.reduceAdd, Nat.reduceMul, Nat.reduceSub, ↓reduceIte, Int.reduceNeg, Int.reduceToNat, hmd, hks, Bool.beq_eq_decide_eq, Int.natCast_zero, Int.add_zero, ge_iff_le, gt_iff_lt, Option.isNone_none, Option.isNone_some, List.nil_append, List.append_nil, Bool.and_true, Bool.and_self, SB, Int.reducePow, hQ, hmd1, hks1, hQ1]
    rw [decide_eq_true (take_all hab (by omega) (by omega))]

theorem s_eqDev (a b : Dev) (hl : a.sz < 2 ^ 40) : Spec Try.prog 86 [a.x, b.x] (.bool (decide (a = b))) [.undef, .undef] := by
  simp only [Dev.sz] at hl
  refine spec_C hmx p_L_eqDev [] 31 [] ⟨Nat.le_of_ble_eq_true rfl, Nat.le_of_ble_eq_true rfl⟩ rfl rfl ?_
  intro w hP hmd hks hQ
  unfold c_L_eqDev
  simp +decide (maxSteps := 20000000) (disch := omega) only [↓SBK, ↓SBK2, SAU, SGs, SD, S1, S2, S3, SE, SC, SO, ST, SF, SK, bytes_len, bytes_get, Nat.reduceEqDiff, Nat.reduceAdd, Nat.reduceMul, Nat.reduceSub, ↓reduceIte, Int.reduceNeg, Int.reduceToNat, hmd, hks, Bool.beq_eq_decide_eq, Int.natCast_zero, Int.add_zero, ge_iff_le, gt_iff_lt, Option.isNone_none, Option.isNone_some, List.nil_append, List.append_nil, Bool.and_true, Bool.and_self, SB, Int.reducePow, hQ]
  (first | refine call_i hP (s_eqChip a.c b.c (by omega)) (.inl ⟨rfl, fun _ hx => nomatch hx⟩) ?_ | refine callH_i hP (s_eqChip a.c b.c (by omega)) (.inl ⟨rfl, fun _ hx => nomatch hx⟩) ?_)
  simp +decide (maxSteps := 20000000) (disch := omega) only [↓SBK, ↓SBK2, SAU, SGs, SD, S1, S2, S3, SE, SC, SO, ST, SF, SK, bytes_len, bytes_get, Nat.reduceEqDiff, Nat.reduceAdd, Nat.reduceMul, Nat.reduceSub, ↓reduceIte, Int.reduceNeg, Int.reduceToNat, hmd, hks, Bool.beq_eq_decide_eq, Int.natCast_zero, Int.add_zero, ge_iff_le, gt_iff_lt, Option.isNone_none, Option.isNone_some, List.nil_append, List.append_nil, Bool.and_true, Bool.and_self, SB, Int.reducePow, hQ]
  (first | with_reducible refine if_d _ ?_ ?_ | refine if_i _ ?_ ?_) <;> intro h0
  rotate_left
  · simp +decide (maxSteps := 20000000) (disch := omega) only [↓SBK, ↓SBK2, SAU, SGs, SD, S1, S2, S3, SE, SC, SO, ST, SF, SK, bytes_len, bytes_get, Nat.reduceEqDiff, Nat.reduceAdd, Nat.reduceMul, Nat.reduceSub, ↓reduceIte, Int.reduceNeg, Int.reduceToNat, hmd, hks, Bool.beq_eq_decide_eq, Int.natCast_zero, Int.add_zero, ge_iff_le, gt_iff_lt, Option.isNone_none, Option.isNone_some, List.nil_append, List.append_nil, Bool.and_true, Bool.and_self, SB, Int.reducePow, hQ]
    rw [decide_eq_false (by rintro rfl; exact h0 rfl)]
  simp +decide (maxSteps := 20000000) (disch := omega) only [↓SBK, ↓SBK2, SAU, SGs, SD, S1, S2, S3, SE, SC, SO, ST, SF, SK, bytes_len, bytes_get, Nat.reduceEqDiff, Nat.reduceAdd, Nat.reduceMul, Nat.reduceSub, ↓reduceIte, Int.reduceNeg, Int.reduceToNat, hmd, hks, Bool.beq_eq_decide_eq, Int.natCast_zero, Int.add_zero, ge_iff_le, gt_iff_lt, Option.isNone_none, Option.isNone_some, List.nil_append, List.append_nil, Bool.and_true, Bool.and_self, SB, Int.reducePow, hQ]
  (first | with_reducible refine if_d _ ?_ ?_ | refine if_i _ ?_ ?_) <;> intro h1
  rotate_left
  · simp +decide (maxSteps := 20000000) (disch := omega) only [↓SBK, ↓SBK2, SAU, SGs, SD, S1, S2, S3, SE, SC, SO, ST, SF, SK, bytes_len, bytes_get, Nat.reduceEqDiff, Nat.reduceAdd, Nat.reduceMul, Nat.reduceSub, ↓reduceIte, Int.reduceNeg, Int.reduceToNat, hmd, hks, Bool.beq_eq_decide_eq, Int.natCast_zero, Int.add_zero, ge_iff_le, gt_iff_lt, Option.isNone_none, Option.isNone_some, List.nil_append, List.append_nil, Bool.and_true, Bool.and_self, SB, Int.reducePow, hQ]
    rw [decide_eq_false (by rintro rfl; exact h1 rfl)]
  simp +decide (maxSteps := 20000000) (disch := omega) only [↓SBK, ↓SBK2, SAU, SGs, SD, S1, S2, S3, SE, SC, SO, ST, SF, SK, bytes_len, bytes_get, Nat.reduceEqDiff, Nat.reduceAdd, Nat.reduceMul, Nat.reduceSub, ↓reduceIte, Int.reduceNeg, Int.reduceToNat, hmd, hks, Bool.beq_eq_decide_eq, Int.natCast_zero, Int.add_zero, ge_iff_le, gt_iff_lt, Option.isNone_none, Option.isNone_some, List.nil_append, List.append_nil, Bool.and_true, Bool.and_self, SB, Int.reducePow, hQ]
  (first | refine call_i hP (s_eqFaultS a.faults b.faults (by omega)) (.inl ⟨rfl, fun _ hx => nomatch hx⟩) ?_ | refine callH_i hP (s_eqFaultS a.faults b.faults (by omega)) (.inl ⟨rfl, fun _ hx => nomatch hx⟩) ?_)
  simp +decide (maxSteps := 20000000) (disch := omega) only [↓SBK, ↓SBK2, SAU, SGs, SD, S1, S2, S3, SE, SC, SO, ST, SF, SK, bytes_len, bytes_get, Nat.reduceEqDiff, Nat.reduceAdd, Nat.reduceMul, Nat.reduceSub, ↓reduceIte, Int.reduceNeg, Int.reduceToNat, hmd, hks, Bool.beq_eq_decide_eq, Int.natCast_zero, Int.add_zero, ge_iff_le, gt_iff_lt, Option.isNone_none, Option.isNone_some, List.nil_append, List.append_nil, Bool.and_true, Bool.and_self, SB, Int.reducePow, hQ]
  (first | with_reducible refine if_d _ ?_ ?_ | refine if_i _ ?_ ?_) <;> intro h2
  rotate_left
  · simp +decide (maxSteps := 20000000) (disch := omega) only [↓SBK, ↓SBK2, SAU, SGs, SD, S1, S2, S3, SE, SC, SO, ST, SF, SK, bytes_len, bytes_get, Nat.reduceEqDiff, Nat.reduceAdd, Nat.reduceMul, Nat.reduceSub, ↓reduceIte, Int.reduceNeg, Int.reduceToNat, hmd, hks, Bool.beq_eq_decide_eq, Int.natCast_zero, Int.add_zero, ge_iff_le, gt_iff_lt, Option.isNone_none, Option.isNone_some, List.nil_append, List.append_nil, Bool.and_true, Bool.and_self, SB, Int.reducePow, hQ]
    rw [decide_eq_false (by rintro rfl; exact h2 rfl)]
  simp +decide (maxSteps := 20000000) (disch := omega) only [↓SBK, ↓SBK2, SAU, SGs, SD, S1, S2, S3, SE, SC, SO, ST, SF, SK, bytes_len, bytes_get, Nat.reduceEqDiff, Nat.reduceAdd, Nat.reduceMul, Nat.reduceSub, ↓reduceIte, Int.reduceNeg, Int.reduceToNat, hmd, hks, Bool.beq_eq_decide_eq, Int.natCast_zero, Int.add_zero, ge_iff_le, gt_iff_lt, Option.isNone_none, Option.isNone_some, List.nil_append, List.append_nil, Bool.and_true, Bool.and_self, SB, Int.reducePow, hQ]
  (first | with_reducible refine if_d _ ?_ ?_ | refine if_i _ ?_ ?_) <;> intro h3
  rotate_left
  · simp +decide (maxSteps := 20000000) (disch := omega) only [↓SBK, ↓SBK2, SAU, SGs, SD, S1, S2, S3, SE, SC, SO, ST, SF, SK, bytes_len, bytes_get, Nat.reduceEqDiff, Nat.reduceAdd, Nat.reduceMul, Nat.reduceSub, ↓reduceIte, Int.reduceNeg, Int.reduceToNat, hmd, hks, Bool.beq_eq_decide_eq, Int.natCast_zero, Int.add_zero, ge_iff_le, gt_iff_lt, Option.isNone_none, Option.isNone_some, List.nil_append, List.append_nil, Bool.and_true, Bool.and_self, SB, Int.reducePow, hQ]
    rw [decide_eq_false (by rintro rfl; exact h3 rfl)]
  simp +decide (maxSteps := 20000000) (disch := omega) only [↓SBK, ↓SBK2, SAU, SGs, SD, S1, S2, S3, SE, SC, SO, ST, SF, SK, bytes_len, bytes_get, Nat.reduceEqDiff, Nat.reduceAdd, Nat.reduceMul, Nat.reduceSub, ↓reduceIte, Int.reduceNeg, Int.reduceToNat, hmd, hks, Bool.beq_eq_decide_eq, Int.natCast_zero, Int.add_zero, ge_iff_le, gt_iff_lt, Option.isNone_none, Option.isNone_some, List.nil_append, List.append_nil, Bool.and_true, Bool.and_self, SB, Int.reducePow, hQ]
  rw [decide_eq_true (Dev.eq' h0 h1 h2 h3)]

theorem s_eqLog (a b : Log) (hl : a.sz < 2 ^ 40) : Spec Try.prog 100 [a.x, b.x] (.bool (decide (a = b))) [.undef, .undef] := by
  simp only [Log.sz] at hl
  refine spec_C hmx p_L_eqLog [] 31 [] ⟨Nat.le_of_ble_eq_true rfl, Nat.le_of_ble_eq_true rfl⟩ rfl rfl ?_
  intro w hP hmd hks hQ
  unfold c_L_eqLog
  simp +decide (maxSteps := 20000000) (disch := omega) only [↓SBK, ↓SBK2, SAU, SGs, SD, S1, S2, S3, SE, SC, SO, ST, SF, SK, bytes_len, bytes_get, Nat.reduceEqDiff, Nat.reduceAdd, Nat.reduceMul, Nat.reduceSub, ↓reduceIte, Int.reduceNeg, Int.reduceToNat, hmd, hks, Bool.beq_eq_decide_eq, Int.natCast_zero, Int.add_zero, ge_iff_le, gt_iff_lt, Option.isNone_none, Option.isNone_some, List.nil_append, List.append_nil, Bool.and_true, Bool.and_self, SB, Int.reducePow, hQ]
  (first | refine call_i hP (s_eqDev a.d b.d (by omega)) (.inl ⟨rfl, fun _ hx => nomatch hx⟩) ?_ | refine callH_i hP (s_eqDev a.d b.d (by omega)) (.inl ⟨rfl, fun _ hx => nomatch hx⟩) ?_)
  simp +decide (maxSteps := 20000000) (disch := omega) only [↓SBK, ↓SBK2, SAU, SGs, SD, S1, S2, S3, SE, SC, SO, ST, SF, SK, bytes_len, bytes_get, Nat.reduceEqDiff, Nat.reduceAdd, Nat.reduceMul, Nat.reduceSub, ↓reduceIte, Int.reduceNeg, Int.reduceToNat, hmd, hks, Bool.beq_eq_decide_eq, Int.natCast_zero, Int.add_zero, ge_iff_le, gt_iff_lt, Option.isNone_none, Option.isNone_some, List.nil_append, List.append_nil, Bool.and_true, Bool.and_self, SB, Int.reducePow, hQ]
  (first | with_reducible refine if_d _ ?_ ?_ | refine if_i _ ?_ ?_) <;> intro h0
  rotate_left
  · simp +decide (maxSteps := 20000000) (disch := omega) only [↓SBK, ↓SBK2, SAU, SGs, SD, S1, S2, S3, SE, SC, SO, ST, SF, SK, bytes_len, bytes_get, Nat.reduceEqDiff, Nat.reduceAdd, Nat.reduceMul, Nat.reduceSub, ↓reduceIte, Int.reduceNeg, Int.reduceToNat, hmd, hks, Bool.beq_eq_decide_eq, Int.natCast_zero, Int.add_zero, ge_iff_le, gt_iff_lt, Option.isNone_none, Option.isNone_some, List.nil_append, List.append_nil, Bool.and_true, Bool.and_self, SB, Int.reducePow, hQ]
    rw [decide_eq_false (by rintro rfl; exact h0 rfl)]
  simp +decide (maxSteps := 20000000) (disch := omega) only [↓SBK, ↓SBK2, SAU, SGs, SD, S1, S2, S3, SE, SC, SO, ST, SF, SK, bytes_len, bytes_get, Nat.reduceEqDiff, Nat.reduceAdd, Nat.reduceMul, Nat.reduceSub, ↓reduceIte, Int.reduceNeg, Int.reduceToNat, hmd, hks, Bool.beq_eq_decide_eq, Int.natCast_zero, Int.add_zero, ge_iff_le, gt_iff_lt, Option.isNone_none, Option.isNone_some, List.nil_append, List.append_nil, Bool.and_true, Bool.and_self, SB, Int.reducePow, hQ]
  (first | with_reducible refine if_d _ ?_ ?_ | refine if_i _ ?_ ?_) <;> intro h1
  rotate_left
  · simp +decide (maxSteps := 20000000) (disch := omega) only [↓SBK, ↓SBK2, SAU, SGs, SD, S1, S2, S3, SE, SC, SO, ST, SF, SK, bytes_len, bytes_get, Nat.reduceEqDiff, Nat.reduceAdd, Nat.reduceMul, Nat.reduceSub, ↓reduceIte, Int.reduceNeg, Int.reduceToNat, hmd, hks, Bool.beq_eq_decide_eq, Int.natCast_zero, Int.add_zero, ge_iff_le, gt_iff_lt, Option.isNone_none, Option.isNone_some, List.nil_append, List.append_nil, Bool.and_true, Bool.and_self, SB, Int.reducePow, hQ]
    rw [decide_eq_false (by rintro rfl; exact h1 rfl)]
  simp +decide (maxSteps := 20000000) (disch := omega) only [↓SBK, ↓SBK2, SAU, SGs, SD, S1, S2, S3, SE, SC, SO, ST, SF, SK, bytes_len, bytes_get, Nat.reduceEqDiff, Nat.reduceAdd, Nat.reduceMul, Nat.reduceSub, ↓reduceIte, Int.reduceNeg, Int.reduceToNat, hmd, hks, Bool.beq_eq_decide_eq, Int.natCast_zero, Int.add_zero, ge_iff_le, gt_iff_lt, Option.isNone_none, Option.isNone_some, List.nil_append, List.append_nil, Bool.and_true, Bool.and_self, SB, Int.reducePow, hQ]
  rw [decide_eq_true (Log.eq' h0 h1)]
end Go.Proofs.Ytliklgcfdgdigaa.Awp

namespace Go.Proofs.Ytliklgcfdgdigaa.Awp
open Go.Proofs
set_option linter.unusedSimpArgs false
set_option linter.unusedVariables false
set_option maxRecDepth 100000
set_option maxHeartbeats 20000000

theorem s_toPage (a : Page) (hl : a.sz < 2 ^ 40) : Spec Try.prog 189 [a.x] a.o [.undef] := by
  simp only [Page.sz] at hl
  refine spec_C hmx p_L_toPage [] 15 [] ⟨Nat.le_of_ble_eq_true rfl, Nat.le_of_ble_eq_true rfl⟩ rfl rfl ?_
  intro w hP hmd hks hQ
  unfold c_L_toPage
  simp +decide (maxSteps := 20000000) (disch := omega) only [↓SBK, ↓SBK2, SAU, SGs, SD, S1, S2, S3, SE, SC, SO, ST, SF, SK, bytes_len, bytes_get, Nat.reduceEqDiff, Nat.reduceAdd, Nat.reduceMul, Nat.reduceSub, ↓reduceIte, Int.reduceNeg, Int.reduceToNat, hmd, hks, Bool.beq_eq_decide_eq, Int.natCast_zero, Int.add_zero, ge_iff_le, gt_iff_lt, Option.isNone_none, Option.isNone_some, List.nil_append, List.append_nil, Bool.and_true, Bool.and_self, SB, Int.reducePow, hQ]
  (first | refine call_i hP (s_toByteS a.b (by omega)) (.inl ⟨rfl, fun _ hx => nomatch hx⟩) ?_ | refine callH_i hP (s_toByteS a.b (by omega)) (.inl ⟨rfl, fun _ hx => nomatch hx⟩) ?_)
  simp +decide (maxSteps := 20000000) (disch := omega) only [↓SBK, ↓SBK2, SAU, SGs, SD, S1, S2, S3, SE, SC, SO, ST, SF, SK, bytes_len, bytes_get, Nat.reduceEqDiff, Nat.reduceAdd, Nat.reduceMul, Nat.reduceSub, ↓reduceIte, Int.reduceNeg, Int.reduceToNat, hmd, hks, Bool.beq_eq_decide_eq, Int.natCast_zero, Int.add_zero, ge_iff_le, gt_iff_lt, Option.isNone_none, Option.isNone_some, List.nil_append, List.append_nil, Bool.and_true, Bool.and_self, SB, Int.reducePow, hQ]

theorem s_toPageS (a : List Page) (hl : szM Page.sz a < 2 ^ 40) : Spec Try.prog 186 [.ext 2 (a.map Page.row)] (.own 2 (a.map Page.row)) [.undef] := by
  simp only [szM] at hl
  refine spec_C hmx p_L_toPageS [] 29 [] ⟨Nat.le_of_ble_eq_true rfl, Nat.le_of_ble_eq_true rfl⟩ rfl rfl ?_
  intro w hP hmd hks hQ
  unfold c_L_toPageS
  simp +decide (maxSteps := 20000000) (disch := omega) only [↓SBK, ↓SBK2, SAU, SGs, SD, S1, S2, S3, SE, SC, SO, ST, SF, SK, bytes_len, bytes_get, Nat.reduceEqDiff, Nat.reduceAdd, Nat.reduceMul, Nat.reduceSub, ↓reduceIte, Int.reduceNeg, Int.reduceToNat, hmd, hks, Bool.beq_eq_decide_eq, Int.natCast_zero, Int.add_zero, ge_iff_le, gt_iff_lt, Option.isNone_none, Option.isNone_some, List.nil_append, List.append_nil, Bool.and_true, Bool.and_self, SB, Int.reducePow, hQ]
  refine loop_i (fun i : Nat => [(3, .own 2 (fillR Page.row Page.zero a i)), (4, .int .i64 i)]) (fun i => i ≤ a.length) (fun i => a.length - i) (0) hP hmd hks (by simp +decide (maxSteps := 20000000) (disch := omega) only [↓SBK, ↓SBK2, SAU, SGs, SD, S1, S2, S3, SE, SC, SO, ST, SF, SK, bytes_len, bytes_get, Nat.reduceEqDiff, Nat.reduceAdd, Nat.reduceMul, Nat.reduceSub, ↓reduceIte, Int.reduceNeg, Int.reduceToNat, hmd, hks, Bool.beq_eq_decide_eq, Int.natCast_zero, Int.add_zero, ge_iff_le, gt_iff_lt, Option.isNone_none, Option.isNone_some, List.nil_append, List.append_nil, Bool.and_true, Bool.and_self, SB, Int.reducePow, hQ, fillR_0]; rfl) (by omega) ?_
  rintro i hi w1 hP1 hmd1 hks1 hQ1
  simp +decide (maxSteps := 20000000) (disch := omega) only [↓SBK, ↓SBK2, SAU, SGs, SD, S1, S2, S3, SE, SC, SO, ST, SF, SK, bytes_len, bytes_get, Nat.reduceEqDiff, Nat.reduceAdd, Nat.reduceMul, Nat.reduceSub, ↓reduceIte, Int.reduceNeg, Int.reduceToNat, hmd, hks, Bool.beq_eq_decide_eq, Int.natCast_zero, Int.add_zero, ge_iff_le, gt_iff_lt, Option.isNone_none, Option.isNone_some, List.nil_append, List.append_nil, Bool.and_true, Bool.and_self, SB, Int.reducePow, hQ, hmd1, hks1, hQ1]
  (first | with_reducible refine if_d _ ?_ ?_ | refine if_i _ ?_ ?_) <;> intro h1
  · simp +decide (maxSteps := 20000000) (disch := omega) only [↓SBK, ↓SBK2, SAU, SGs, SD, S1, S2, S3, SE, SC, SO, ST, SF, SK, bytes_len, bytes_get, Nat.reduceEqDiff, Nat.reduceAdd, Nat.reduceMul, Nat.reduceSub, ↓reduceIte, Int.reduceNeg, Int.reduceToNat, hmd, hks, Bool.beq_eq_decide_eq, Int.natCast_zero, Int.add_zero, ge_iff_le, gt_iff_lt, Option.isNone_none, Option.isNone_some, List.nil_append, List.append_nil, Bool.and_true, Bool.and_self, SB, Int.reducePow, hQ, hmd1, hks1, hQ1, getE h1]
    (first | refine call_i hP1 (s_toPage (a[i]'(by omega)) (Nat.lt_of_le_of_lt (sum_get Page.sz _) (by omega))) (.inl ⟨rfl, fun _ hx => nomatch hx⟩) ?_ | refine callH_i hP1 (s_toPage (a[i]'(by omega)) (Nat.lt_of_le_of_lt (sum_get Page.sz _) (by omega))) (.inl ⟨rfl, fun _ hx => nomatch hx⟩) ?_)
    simp +decide (maxSteps := 20000000) (disch := omega) only [↓SBK, ↓SBK2, SAU, SGs, SD, S1, S2, S3, SE, SC, SO, ST, SF, SK, bytes_len, bytes_get, Nat.reduceEqDiff, Nat.reduceAdd, Nat.reduceMul, Nat.reduceSub, ↓reduceIte, Int.reduceNeg, Int.reduceToNat, hmd, hks, Bool.beq_eq_decide_eq, Int.natCast_zero, Int.add_zero, ge_iff_le, gt_iff_lt, Option.isNone_none, Option.isNone_some, List.nil_append, List.append_nil, Bool.and_true, Bool.and_self, SB, Int.reducePow, hQ, hmd1, hks1, hQ1]
    rw [fillR_set _ _ _ _ (by omega) _ (by rfl)]
    exact ⟨i + 1, rfl, by omega, by omega⟩
  · simp +decide (maxSteps := 20000000) (disch := omega) only [↓SBK, ↓SBK2, SAU, SGs, SD, S1, S2, S3, SE, SC, SO, ST, SF, SK, bytes_len, bytes_get, Nat.reduceEqDiff, Nat.reduceAdd, Nat.reduceMul, Nat.reduceSub, ↓reduceIte, Int.reduceNeg, Int.reduceToNat, hmd, hks, Bool.beq_eq_decide_eq, Int.natCast_zero, Int.add_zero, ge_iff_le, gt_iff_lt, Option.isNone_none, Option.isNone_some, List.nil_append, List.append_nil, Bool.and_true, Bool.and_self, SB, Int.reducePow, hQ, hmd1, hks1, hQ1, fillR_all]

theorem s_toBlock (a : Block) (hl : a.sz < 2 ^ 40) : Spec Try.prog 174 [a.x] a.o [.undef] := by
  simp only [Block.sz] at hl
  refine spec_C hmx p_L_toBlock [] 15 [] ⟨Nat.le_of_ble_eq_true rfl, Nat.le_of_ble_eq_true rfl⟩ rfl rfl ?_
  intro w hP hmd hks hQ
  unfold c_L_toBlock
  simp +decide (maxSteps := 20000000) (disch := omega) only [↓SBK, ↓SBK2, SAU, SGs, SD, S1, S2, S3, SE, SC, SO, ST, SF, SK, bytes_len, bytes_get, Nat.reduceEqDiff, Nat.reduceAdd, Nat.reduceMul, Nat.reduceSub, ↓reduceIte, Int.reduceNeg, Int.reduceToNat, hmd, hks, Bool.beq_eq_decide_eq, Int.natCast_zero, Int.add_zero, ge_iff_le, gt_iff_lt, Option.isNone_none, Option.isNone_some, List.nil_append, List.append_nil, Bool.and_true, Bool.and_self, SB, Int.reducePow, hQ]
  (first | refine call_i hP (s_toPageS a.pages (by omega)) (.inl ⟨rfl, fun _ hx => nomatch hx⟩) ?_ | refine callH_i hP (s_toPageS a.pages (by omega)) (.inl ⟨rfl, fun _ hx => nomatch hx⟩) ?_)
  simp +decide (maxSteps := 20000000) (disch := omega) only [↓SBK, ↓SBK2, SAU, SGs, SD, S1, S2, S3, SE, SC, SO, ST, SF, SK, bytes_len, bytes_get, Nat.reduceEqDiff, Nat.reduceAdd, Nat.reduceMul, Nat.reduceSub, ↓reduceIte, Int.reduceNeg, Int.reduceToNat, hmd, hks, Bool.beq_eq_decide_eq, Int.natCast_zero, Int.add_zero, ge_iff_le, gt_iff_lt, Option.isNone_none, Option.isNone_some, List.nil_append, List.append_nil, Bool.and_true, Bool.and_self, SB, Int.reducePow, hQ]

theorem s_toBlockS (a : List Block) (hl : szM Block.sz a < 2 ^ 40) : Spec Try.prog 132 [.ext 3 (a.map Block.row)] (.own 3 (a.map Block.row)) [.undef] := by
  simp only [szM] at hl
  refine spec_C hmx p_L_toBlockS [] 29 [] ⟨Nat.le_of_ble_eq_true rfl, Nat.le_of_ble_eq_true rfl⟩ rfl rfl ?_
  intro w hP hmd hks hQ
  unfold c_L_toBlockS
  simp +decide (maxSteps := 20000000) (disch := omega) only [↓SBK, ↓SBK2, SAU, SGs, SD, S1, S2, S3, SE, SC, SO, ST, SF, SK, bytes_len, bytes_get, Nat.reduceEqDiff, Nat.reduceAdd, Nat.reduceMul, Nat.reduceSub, ↓reduceIte, Int.reduceNeg, Int.reduceToNat, hmd, hks, Bool.beq_eq_decide_eq, Int.natCast_zero, Int.add_zero, ge_iff_le, gt_iff_lt, Option.isNone_none, Option.isNone_some, List.nil_append, List.append_nil, Bool.and_true, Bool.and_self, SB, Int.reducePow, hQ]
  refine loop_i (fun i : Nat => [(3, .own 3 (fillR Block.row Block.zero a i)), (4, .int .i64 i)]) (fun i => i ≤ a.length) (fun i => a.length - i) (0) hP hmd hks (by simp +decide (maxSteps := 20000000) (disch := omega) only [↓SBK, ↓SBK2, SAU, SGs, SD, S1, S2, S3, SE, SC, SO, ST, SF, SK, bytes_len, bytes_get, Nat.reduceEqDiff, Nat.reduceAdd, Nat.reduceMul, Nat.reduceSub, ↓reduceIte, Int.reduceNeg, Int.reduceToNat, hmd, hks, Bool.beq_eq_decide_eq, Int.natCast_zero, Int.add_zero, ge_iff_le, gt_iff_lt, Option.isNone_none, Option.isNone_some, List.nil_append, List.append_nil, Bool.and_true, Bool.and_self, SB, Int.reducePow, hQ, fillR_0]; rfl) (by omega) ?_
  rintro i hi w1 hP1 hmd1 hks1 hQ1
  simp +decide (maxSteps := 20000000) (disch := omega) only [↓SBK, ↓SBK2, SAU, SGs, SD, S1, S2, S3, SE, SC, SO, ST, SF, SK, bytes_len, bytes_get, Nat.reduceEqDiff, Nat.reduceAdd, Nat.reduceMul, Nat.reduceSub, ↓reduceIte, Int.reduceNeg, Int.reduceToNat, hmd, hks, Bool.beq_eq_decide_eq, Int.natCast_zero, Int.add_zero, ge_iff_le, gt_iff_lt, Option.isNone_none, Option.isNone_some, List.nil_append, List.append_nil, Bool.and_true, Bool.and_self, SB, Int.reducePow, hQ, hmd1, hks1, hQ1]
  (first | with_reducible refine if_d _ ?_ ?_ | refine if_i _ ?_ ?_) <;> intro h1
  · simp +decide (maxSteps := 20000000) (disch := omega) only [↓SBK, ↓SBK2, SAU, SGs, SD, S1, S2, S3, SE, SC, SO, ST, SF, SK, bytes_len, bytes_get, Nat.reduceEqDiff, Nat.reduceAdd, Nat.reduceMul, Nat.reduceSub, ↓reduceIte, Int.reduceNeg, Int.reduceToNat, hmd, hks, Bool.beq_eq_decide_eq, Int.natCast_zero, Int.add_zero, ge_iff_le, gt_iff_lt, Option.isNone_none, Option.isNone_some, List.nil_append, List.append_nil, Bool.and_true, Bool.and_self, SB, Int.reducePow, hQ, hmd1, hks1, hQ1, getE h1]
    (first | refine call_i hP1 (s_toBlock (a[i]'(by omega)) (Nat.lt_of_le_of_lt (sum_get Block.sz _) (by omega))) (.inl ⟨rfl, fun _ hx => nomatch hx⟩) ?_ | refine callH_i hP1 (s_toBlock (a[i]'(by omega)) (Nat.lt_of_le_of_lt (sum_get Block.sz _) (by omega))) (.inl ⟨rfl, fun _ hx => nomatch hx⟩) ?_)
    simp +decide (maxSteps := 20000000) (disch := omega) only [↓SBK, ↓SBK2, SAU, SGs, SD, S1, S2, S3, SE, SC, SO, ST, SF, SK, bytes_len, bytes_get, Nat.reduceEqDiff, Nat.reduceAdd, Nat.reduceMul, Nat.reduceSub, ↓reduceIte, Int.reduceNeg, Int.reduceToNat, hmd, hks, Bool.beq_eq_decide_eq, Int.natCast_zero, Int.add_zero, ge_iff_le, gt_iff_lt, Option.isNone_none, Option.isNone_some, List.nil_append, List.append_nil, Bool.and_true, Bool.and_self, SB, Int.reducePow, hQ, hmd1, hks1, hQ1]
    rw [fillR_set _ _ _ _ (by omega) _ (by rfl)]
    exact ⟨i + 1, rfl, by omega, by omega⟩
  · simp +decide (maxSteps := 20000000) (disch := omega) only [↓SBK, ↓SBK2, SAU, SGs, SD, S1, S2, S3, SE, SC, SO, ST, SF, SK, bytes_len, bytes_get, Nat.reduceEqDiff, Nat.reduceAdd, Nat.reduceMul, Nat.reduceSub, ↓reduceIte, Int.reduceNeg, Int.reduceToNat, hmd, hks, Bool.beq_eq_decide_eq, Int.natCast_zero, Int.add_zero, ge_iff_le, gt_iff_lt, Option.isNone_none, Option.isNone_some, List.nil_append, List.append_nil, Bool.and_true, Bool.and_self, SB, Int.reducePow, hQ, hmd1, hks1, hQ1, fillR_all]

theorem s_toChip (a : Chip) (hl : a.sz < 2 ^ 40) : Spec Try.prog 58 [a.x] a.o [.undef] := by
  simp only [Chip.sz] at hl
  refine spec_C hmx p_L_toChip [] 15 [] ⟨Nat.le_of_ble_eq_true rfl, Nat.le_of_ble_eq_true rfl⟩ rfl rfl ?_
  intro w hP hmd hks hQ
  unfold c_L_toChip
  simp +decide (maxSteps := 20000000) (disch := omega) only [↓SBK, ↓SBK2, SAU, SGs, SD, S1, S2, S3, SE, SC, SO, ST, SF, SK, bytes_len, bytes_get, Nat.reduceEqDiff, Nat.reduceAdd, Nat.reduceMul, Nat.reduceSub, ↓reduceIte, Int.reduceNeg, Int.reduceToNat, hmd, hks, Bool.beq_eq_decide_eq, Int.natCast_zero, Int.add_zero, ge_iff_le, gt_iff_lt, Option.isNone_none, Option.isNone_some, List.nil_append, List.append_nil, Bool.and_true, Bool.and_self, SB, Int.reducePow, hQ]
  (first | refine call_i hP (s_toBlockS a.blocks (by omega)) (.inl ⟨rfl, fun _ hx => nomatch hx⟩) ?_ | refine callH_i hP (s_toBlockS a.blocks (by omega)) (.inl ⟨rfl, fun _ hx => nomatch hx⟩) ?_)
  simp +decide (maxSteps := 20000000) (disch := omega) only [↓SBK, ↓SBK2, SAU, SGs, SD, S1, S2, S3, SE, SC, SO, ST, SF, SK, bytes_len, bytes_get, Nat.reduceEqDiff, Nat.reduceAdd, Nat.reduceMul, Nat.reduceSub, ↓reduceIte, Int.reduceNeg, Int.reduceToNat, hmd, hks, Bool.beq_eq_decide_eq, Int.natCast_zero, Int.add_zero, ge_iff_le, gt_iff_lt, Option.isNone_none, Option.isNone_some, List.nil_append, List.append_nil, Bool.and_true, Bool.and_self, SB, Int.reducePow, hQ]

theorem s_toFault (a : Fault) (hl : a.sz < 2 ^ 40) : Spec Try.prog 158 [a.x] a.o [.undef] := by
  simp only [Fault.sz] at hl
  refine spec_C hmx p_L_toFault [] 15 [] ⟨Nat.le_of_ble_eq_true rfl, Nat.le_of_ble_eq_true rfl⟩ rfl rfl ?_
  intro w hP hmd hks hQ
  unfold c_L_toFault
  simp +decide (maxSteps := 20000000) (disch := omega) only [↓SBK, ↓SBK2, SAU, SGs, SD, S1, S2, S3, SE, SC, SO, ST, SF, SK, bytes_len, bytes_get, Nat.reduceEqDiff, Nat.reduceAdd, Nat.reduceMul, Nat.reduceSub, ↓reduceIte, Int.reduceNeg, Int.reduceToNat, hmd, hks, Bool.beq_eq_decide_eq, Int.natCast_zero, Int.add_zero, ge_iff_le, gt_iff_lt, Option.isNone_none, Option.isNone_some, List.nil_append, List.append_nil, Bool.and_true, Bool.and_self, SB, Int.reducePow, hQ]

theorem s_toFaultS (a : List Fault) (hl : a.length < 2 ^ 40) : Spec Try.prog 103 [.ext 3 (a.map Fault.row)] (.own 3 (a.map Fault.row)) [.undef] := by
  refine spec_C hmx p_L_toFaultS [] 29 [] ⟨Nat.le_of_ble_eq_true rfl, Nat.le_of_ble_eq_true rfl⟩ rfl rfl ?_
  intro w hP hmd hks hQ
  unfold c_L_toFaultS
  simp +decide (maxSteps := 20000000) (disch := omega) only [↓SBK, ↓SBK2, SAU, SGs, SD, S1, S2, S3, SE, SC, SO, ST, SF, SK, bytes_len, bytes_get, Nat.reduceEqDiff, Nat.reduceAdd, Nat.reduceMul, Nat.reduceSub, ↓reduceIte, Int.reduceNeg, Int.reduceToNat, hmd, hks, Bool.beq_eq_decide_eq, Int.natCast_zero, Int.add_zero, ge_iff_le, gt_iff_lt, Option.isNone_none, Option.isNone_some, List.nil_append, List.append_nil, Bool.and_true, Bool.and_self, SB, Int.reducePow, hQ]
  refine loop_i (fun i : Nat => [(3, .own 3 (fillR Fault.row Fault.zero a i)), (4, .int .i64 i)]) (fun i => i ≤ a.length) (fun i => a.length - i) (0) hP hmd hks (by simp +decide (maxSteps := 20000000) (disch := omega) only [↓SBK, ↓SBK2, SAU, SGs, SD, S1, S2, S3, SE, SC, SO, ST, SF, SK, bytes_len, bytes_get, Nat.reduceEqDiff, Nat.reduceAdd, Nat.reduceMul, Nat.reduceSub, ↓reduceIte, Int.reduceNeg, Int.reduceToNat, hmd, hks, Bool.beq_eq_decide_eq, Int.natCast_zero, Int.add_zero, ge_iff_le, gt_iff_lt, Option.isNone_none, Option.isNone_some, List.nil_append, List.append_nil, Bool.and_true, Bool.and_self, SB, Int.reducePow, hQ, fillR_0]; rfl) (by omega) ?_
  rintro i hi w1 hP1 hmd1 hks1 hQ1
  simp +decide (maxSteps := 20000000) (disch := omega) only [↓SBK, ↓SBK2, SAU, SGs, SD, S1, S2, S3, SE, SC, SO, ST, SF, SK, bytes_len, bytes_get, Nat.reduceEqDiff, Nat.reduceAdd, Nat.reduceMul, Nat.reduceSub, ↓reduceIte, Int.reduceNeg, Int.reduceToNat, hmd, hks, Bool.beq_eq_decide_eq, Int.natCast_zero, Int.add_zero, ge_iff_le, gt_iff_lt, Option.isNone_none, Option.isNone_some, List.nil_append, List.append_nil, Bool.and_true, Bool.and_self, SB, Int.reducePow, hQ, hmd1, hks1, hQ1]
  (first | with_reducible refine if_d _ ?_ ?_ | refine if_i _ ?_ ?_) <;> intro h1
  · simp +decide (maxSteps := 20000000) (disch := omega) only [↓SBK, ↓SBK2, SAU, SGs, SD, S1, S2, S3, SE, SC, SO, ST, SF, SK, bytes_len, bytes_get, Nat.reduceEqDiff, Nat.reduceAdd, Nat.reduceMul, Nat.reduceSub, ↓reduceIte, Int.reduceNeg, Int.reduceToNat, hmd, hks, Bool.beq_eq_decide_eq, Int.natCast_zero, Int.add_zero, ge_iff_le, gt_iff_lt, Option.isNone_none, Option.isNone_some, List.nil_append, List.append_nil, Bool.and_true, Bool.and_self, SB, Int.reducePow, hQ, hmd1, hks1, hQ1, getE h1]
    (first | refine call_i hP1 (s_toFault (a[i]'(by omega)) (by simp only [Fault.sz]; omega)) (.inl ⟨rfl, fun _ hx => nomatch hx⟩) ?_ | refine callH_i hP1 (s_toFault (a[i]'(by omega)) (by simp only [Fault.sz]; omega)) (.inl ⟨rfl, fun _ hx => nomatch hx⟩) ?_)
    simp +decide (maxSteps := 20000000) (disch := omega) only [↓SBK, ↓SBK2, SAU, SGs, SD, S1, S2, S3, SE, SC, SO, ST, SF, SK, bytes_len, bytes_get, Nat.reduceEqDiff, Nat.reduceAdd, Nat.reduceMul, Nat.reduceSub, ↓reduceIte, Int.reduceNeg, Int.reduceToNat, hmd, hks, Bool.beq_eq_decide_eq, Int.natCast_zero, Int.add_zero, ge_iff_le, gt_iff_lt, Option.isNone_none, Option.isNone_some, List.nil_append, List.append_nil, Bool.and_true, Bool.and_self, SB, Int.reducePow, hQ, hmd1, hks1, hQ1]
    rw [fillR_set _ _ _ _ (by omega) _ (by rfl)]
    exact ⟨i + 1, rfl, by omega, by omega⟩
  · simp +decide (maxSteps := 20000000) (disch := omega) only [↓SBK, ↓SBK2, SAU, SGs, SD, S1, S2, S3, SE, SC, SO, ST, SF, SK, bytes_len, bytes_get, Nat.reduceEqDiff, Nat.reduceAdd, Nat.reduceMul, Nat.reduceSub, ↓reduceIte, Int.reduceNeg, Int.reduceToNat, hmd, hks, Bool.beq_eq_decide_eq, Int.natCast_zero, Int.add_zero, ge_iff_le, gt_iff_lt, Option.isNone_none, Option.isNone_some, List.nil_append, List.append_nil, Bool.and_true, Bool.and_self, SB, Int.reducePow, hQ, hmd1, hks1, hQ1, fillR_all]

theorem s_toDev (a : Dev) (hl : a.sz < 2 ^ 40) : Spec Try.prog 83 [a.x] a.o [.undef] := by
  simp only [Dev.sz] at hl
  refine spec_C hmx p_L_toDev [] 15 [] ⟨Nat.le_of_ble_eq_true rfl, Nat.le_of_ble_eq_true rfl⟩ rfl rfl ?_
  intro w hP hmd hks hQ
  unfold c_L_toDev
  simp +decide (maxSteps := 20000000) (disch := omega) only [↓SBK, ↓SBK2, SAU, SGs, SD, S1, S2, S3, SE, SC, SO, ST, SF, SK, bytes_len, bytes_get, Nat.reduceEqDiff, Nat.reduceAdd, Nat.reduceMul, Nat.reduceSub, ↓reduceIte, Int.reduceNeg, Int.reduceToNat, hmd, hks, Bool.beq_eq_decide_eq, Int.natCast_zero, Int.add_zero, ge_iff_le, gt_iff_lt, Option.isNone_none, Option.isNone_some, List.nil_append, List.append_nil, Bool.and_true, Bool.and_self, SB, Int.reducePow, hQ]
  (first | refine call_i hP (s_toChip a.c (by omega)) (.inl ⟨rfl, fun _ hx => nomatch hx⟩) ?_ | refine callH_i hP (s_toChip a.c (by omega)) (.inl ⟨rfl, fun _ hx => nomatch hx⟩) ?_)
  simp +decide (maxSteps := 20000000) (disch := omega) only [↓SBK, ↓SBK2, SAU, SGs, SD, S1, S2, S3, SE, SC, SO, ST, SF, SK, bytes_len, bytes_get, Nat.reduceEqDiff, Nat.reduceAdd, Nat.reduceMul, Nat.reduceSub, ↓reduceIte, Int.reduceNeg, Int.reduceToNat, hmd, hks, Bool.beq_eq_decide_eq, Int.natCast_zero, Int.add_zero, ge_iff_le, gt_iff_lt, Option.isNone_none, Option.isNone_some, List.nil_append, List.append_nil, Bool.and_true, Bool.and_self, SB, Int.reducePow, hQ]
  (first | refine call_i hP (s_toFaultS a.faults (by omega)) (.inl ⟨rfl, fun _ hx => nomatch hx⟩) ?_ | refine callH_i hP (s_toFaultS a.faults (by omega)) (.inl ⟨rfl, fun _ hx => nomatch hx⟩) ?_)
  simp +decide (maxSteps := 20000000) (disch := omega) only [↓SBK, ↓SBK2, SAU, SGs, SD, S1, S2, S3, SE, SC, SO, ST, SF, SK, bytes_len, bytes_get, Nat.reduceEqDiff, Nat.reduceAdd, Nat.reduceMul, Nat.reduceSub, ↓reduceIte, Int.reduceNeg, Int.reduceToNat, hmd, hks, Bool.beq_eq_decide_eq, Int.natCast_zero, Int.add_zero, ge_iff_le, gt_iff_lt, Option.isNone_none, Option.isNone_some, List.nil_append, List.append_nil, Bool.and_true, Bool.and_self, SB, Int.reducePow, hQ]

theorem s_toLog (a : Log) (hl : a.sz < 2 ^ 40) : Spec Try.prog 98 [a.x] a.o [.undef] := by
  simp only [Log.sz] at hl
  refine spec_C hmx p_L_toLog [] 15 [] ⟨Nat.le_of_ble_eq_true rfl, Nat.le_of_ble_eq_true rfl⟩ rfl rfl ?_
  intro w hP hmd hks hQ
  unfold c_L_toLog
  simp +decide (maxSteps := 20000000) (disch := omega) only [↓SBK, ↓SBK2, SAU, SGs, SD, S1, S2, S3, SE, SC, SO, ST, SF, SK, bytes_len, bytes_get, Nat.reduceEqDiff, Nat.reduceAdd, Nat.reduceMul, Nat.reduceSub, ↓reduceIte, Int.reduceNeg, Int.reduceToNat, hmd, hks, Bool.beq_eq_decide_eq, Int.natCast_zero, Int.add_zero, ge_iff_le, gt_iff_lt, Option.isNone_none, Option.isNone_some, List.nil_append, List.append_nil, Bool.and_true, Bool.and_self, SB, Int.reducePow, hQ]
  (first | refine call_i hP (s_toDev a.d (by omega)) (.inl ⟨rfl, fun _ hx => nomatch hx⟩) ?_ | refine callH_i hP (s_toDev a.d (by omega)) (.inl ⟨rfl, fun _ hx => nomatch hx⟩) ?_)
  simp +decide (maxSteps := 20000000) (disch := omega) only [↓SBK, ↓SBK2, SAU, SGs, SD, S1, S2, S3, SE, SC, SO, ST, SF, SK, bytes_len, bytes_get, Nat.reduceEqDiff, Nat.reduceAdd, Nat.reduceMul, Nat.reduceSub, ↓reduceIte, Int.reduceNeg, Int.reduceToNat, hmd, hks, Bool.beq_eq_decide_eq, Int.natCast_zero, Int.add_zero, ge_iff_le, gt_iff_lt, Option.isNone_none, Option.isNone_some, List.nil_append, List.append_nil, Bool.and_true, Bool.and_self, SB, Int.reducePow, hQ]
end Go.Proofs.Ytliklgcfdgdigaa.Awp

namespace Go.Proofs.Ytliklgcfdgdigaa.Awp
open Go.Proofs
set_option linter.unusedSimpArgs false
set_option linter.unusedVariables false
set_option maxRecDepth 100000
set_option maxHeartbeats 20000000

theorem s_szPage (a : Page) (left : Int) (hf : a.fine) (h0 : 0 ≤ left) (hl : left < 2 ^ 40) :
    Spec Try.prog 188 [a.x, .int .i64 left] (.int .i64 (szC left a.sz)) [.undef, .undef] := by
  have hsz : a.sz = a.b.length := rfl
  simp only [Page.fine] at hf
  have hf0 := hf
  refine spec_C hmx p_L_szPage [] 23 [] ⟨Nat.le_of_ble_eq_true rfl, Nat.le_of_ble_eq_true rfl⟩ rfl rfl ?_
  intro w hP hmd hks hQ
  unfold c_L_szPage
  simp +decide (maxSteps := 20000000) (disch := omega) only [↓SBK, ↓SBK2, SAU, SGs, SD, S1, S2, S3, SE, SC, SO, ST, SF, SK, bytes_len, bytes_get, Nat.reduceEqDiff, Nat.reduceAdd, Nat.reduceMul, Nat.reduceSub, ↓reduceIte, Int.reduceNeg, Int.reduceToNat, hmd, hks, Bool.beq_eq_decide_eq, Int.natCast_zero, Int.add_zero, ge_iff_le, gt_iff_lt, Option.isNone_none, Option.isNone_some, List.nil_append, List.append_nil, Bool.and_true, Bool.and_self, SB, Int.reducePow, hQ]
  by_cases g0 : left < ((a.b.length : Nat) : Int)
  · (first | refine call_i hP (s_szByteS a.b (left) hf0 (by omega) (by omega)) (.inl ⟨rfl, fun _ hx => nomatch hx⟩) ?_ | refine callH_i hP (s_szByteS a.b (left) hf0 (by omega) (by omega)) (.inl ⟨rfl, fun _ hx => nomatch hx⟩) ?_)
    simp +decide (maxSteps := 20000000) (disch := omega) only [↓SBK, ↓SBK2, SAU, SGs, SD, S1, S2, S3, SE, SC, SO, ST, SF, SK, bytes_len, bytes_get, Nat.reduceEqDiff, Nat.reduceAdd, Nat.reduceMul, Nat.reduceSub, ↓reduceIte, Int.reduceNeg, Int.reduceToNat, hmd, hks, Bool.beq_eq_decide_eq, Int.natCast_zero, Int.add_zero, ge_iff_le, gt_iff_lt, Option.isNone_none, Option.isNone_some, List.nil_append, List.append_nil, Bool.and_true, Bool.and_self, SB, Int.reducePow, hQ, szC_lt g0]
    rw [szC_lt (by omega)]
  (first | refine call_i hP (s_szByteS a.b (left) hf0 (by omega) (by omega)) (.inl ⟨rfl, fun _ hx => nomatch hx⟩) ?_ | refine callH_i hP (s_szByteS a.b (left) hf0 (by omega) (by omega)) (.inl ⟨rfl, fun _ hx => nomatch hx⟩) ?_)
  simp +decide (maxSteps := 20000000) (disch := omega) only [↓SBK, ↓SBK2, SAU, SGs, SD, S1, S2, S3, SE, SC, SO, ST, SF, SK, bytes_len, bytes_get, Nat.reduceEqDiff, Nat.reduceAdd, Nat.reduceMul, Nat.reduceSub, ↓reduceIte, Int.reduceNeg, Int.reduceToNat, hmd, hks, Bool.beq_eq_decide_eq, Int.natCast_zero, Int.add_zero, ge_iff_le, gt_iff_lt, Option.isNone_none, Option.isNone_some, List.nil_append, List.append_nil, Bool.and_true, Bool.and_self, SB, Int.reducePow, hQ, szC_ge g0]
  (first | with_reducible refine if_d _ ?_ ?_ | refine if_i _ ?_ ?_) <;> intro k0
  · exfalso; omega
  simp +decide (maxSteps := 20000000) (disch := omega) only [↓SBK, ↓SBK2, SAU, SGs, SD, S1, S2, S3, SE, SC, SO, ST, SF, SK, bytes_len, bytes_get, Nat.reduceEqDiff, Nat.reduceAdd, Nat.reduceMul, Nat.reduceSub, ↓reduceIte, Int.reduceNeg, Int.reduceToNat, hmd, hks, Bool.beq_eq_decide_eq, Int.natCast_zero, Int.add_zero, ge_iff_le, gt_iff_lt, Option.isNone_none, Option.isNone_some, List.nil_append, List.append_nil, Bool.and_true, Bool.and_self, SB, Int.reducePow, hQ]
  rw [szC_ge (by omega)]
  simp only [hsz, Int.natCast_add, Int.sub_sub, Int.add_assoc]

theorem s_szPageS (a : List Page) (left : Int) (hf : a.length < 2 ^ 48) (hf' : ∀ x ∈ a, x.fine) (h0 : 0 ≤ left) (hl : left < 2 ^ 40) :
    Spec Try.prog 185 [.ext 2 (a.map Page.row), .int .i64 left] (.int .i64 (szC left (szM Page.sz a))) [.undef, .undef] := by
  have hsz : szM Page.sz a = a.length + (a.map Page.sz).sum := rfl
  refine spec_C hmx p_L_szPageS [] 51 [] ⟨Nat.le_of_ble_eq_true rfl, Nat.le_of_ble_eq_true rfl⟩ rfl rfl ?_
  intro w hP hmd hks hQ
  unfold c_L_szPageS
  simp +decide (maxSteps := 20000000) (disch := omega) only [↓SBK, ↓SBK2, SAU, SGs, SD, S1, S2, S3, SE, SC, SO, ST, SF, SK, bytes_len, bytes_get, Nat.reduceEqDiff, Nat.reduceAdd, Nat.reduceMul, Nat.reduceSub, ↓reduceIte, Int.reduceNeg, Int.reduceToNat, hmd, hks, Bool.beq_eq_decide_eq, Int.natCast_zero, Int.add_zero, ge_iff_le, gt_iff_lt, Option.isNone_none, Option.isNone_some, List.nil_append, List.append_nil, Bool.and_true, Bool.and_self, SB, Int.reducePow, hQ]
  (first | with_reducible refine if_d _ ?_ ?_ | refine if_i _ ?_ ?_) <;> intro h
  · simp +decide (maxSteps := 20000000) (disch := omega) only [↓SBK, ↓SBK2, SAU, SGs, SD, S1, S2, S3, SE, SC, SO, ST, SF, SK, bytes_len, bytes_get, Nat.reduceEqDiff, Nat.reduceAdd, Nat.reduceMul, Nat.reduceSub, ↓reduceIte, Int.reduceNeg, Int.reduceToNat, hmd, hks, Bool.beq_eq_decide_eq, Int.natCast_zero, Int.add_zero, ge_iff_le, gt_iff_lt, Option.isNone_none, Option.isNone_some, List.nil_append, List.append_nil, Bool.and_true, Bool.and_self, SB, Int.reducePow, hQ]
    rw [szC_lt (by omega)]
  simp +decide (maxSteps := 20000000) (disch := omega) only [↓SBK, ↓SBK2, SAU, SGs, SD, S1, S2, S3, SE, SC, SO, ST, SF, SK, bytes_len, bytes_get, Nat.reduceEqDiff, Nat.reduceAdd, Nat.reduceMul, Nat.reduceSub, ↓reduceIte, Int.reduceNeg, Int.reduceToNat, hmd, hks, Bool.beq_eq_decide_eq, Int.natCast_zero, Int.add_zero, ge_iff_le, gt_iff_lt, Option.isNone_none, Option.isNone_some, List.nil_append, List.append_nil, Bool.and_true, Bool.and_self, SB, Int.reducePow, hQ]
  refine loop_i (fun s : Nat × Int => [(1, .int .i64 s.2), (5, .int .i64 s.1)]) (fun s => s.1 ≤ a.length ∧ 0 ≤ s.2 ∧ s.2 = left - a.length - ((a.take s.1).map Page.sz).sum) (fun s => a.length - s.1) ((0, left - a.length)) hP hmd hks (rfl) (by simp; omega) ?_
  rintro ⟨i, c⟩ ⟨hi, h0', hc⟩ w1 hP1 hmd1 hks1 hQ1
  simp +decide (maxSteps := 20000000) (disch := omega) only [↓SBK, ↓SBK2, SAU, SGs, SD, S1, S2, S3, SE, SC, SO, ST, SF, SK, bytes_len, bytes_get, Nat.reduceEqDiff, Nat.reduceAdd, Nat.reduceMul, Nat.reduceSub, ↓reduceIte, Int.reduceNeg, Int.reduceToNat, hmd, hks, Bool.beq_eq_decide_eq, Int.natCast_zero, Int.add_zero, ge_iff_le, gt_iff_lt, Option.isNone_none, Option.isNone_some, List.nil_append, List.append_nil, Bool.and_true, Bool.and_self, SB, Int.reducePow, hQ, hmd1, hks1, hQ1]
  simp only at hi h0' hc
  (first | with_reducible refine if_d _ ?_ ?_ | refine if_i _ ?_ ?_) <;> intro h1
  · have hs := sum_take Page.sz a i (by omega)
    have hs' := sum_take_le Page.sz a (i + 1)
    simp +decide (maxSteps := 20000000) (disch := omega) only [↓SBK, ↓SBK2, SAU, SGs, SD, S1, S2, S3, SE, SC, SO, ST, SF, SK, bytes_len, bytes_get, Nat.reduceEqDiff, Nat.reduceAdd, Nat.reduceMul, Nat.reduceSub, ↓reduceIte, Int.reduceNeg, Int.reduceToNat, hmd, hks, Bool.beq_eq_decide_eq, Int.natCast_zero, Int.add_zero, ge_iff_le, gt_iff_lt, Option.isNone_none, Option.isNone_some, List.nil_append, List.append_nil, Bool.and_true, Bool.and_self, SB, Int.reducePow, hQ, hmd1, hks1, hQ1, getE h1]
    by_cases g : c < ((a[i].sz : Nat) : Int)
    · (first | refine call_i hP1 (s_szPage a[i] c (hf' _ (List.getElem_mem _)) (by omega) (by omega)) (.inl ⟨rfl, fun _ hx => nomatch hx⟩) ?_ | refine callH_i hP1 (s_szPage a[i] c (hf' _ (List.getElem_mem _)) (by omega) (by omega)) (.inl ⟨rfl, fun _ hx => nomatch hx⟩) ?_)
      simp +decide (maxSteps := 20000000) (disch := omega) only [↓SBK, ↓SBK2, SAU, SGs, SD, S1, S2, S3, SE, SC, SO, ST, SF, SK, bytes_len, bytes_get, Nat.reduceEqDiff, Nat.reduceAdd, Nat.reduceMul, Nat.reduceSub, ↓reduceIte, Int.reduceNeg, Int.reduceToNat, hmd, hks, Bool.beq_eq_decide_eq, Int.natCast_zero, Int.add_zero, ge_iff_le, gt_iff_lt, Option.isNone_none, Option.isNone_some, List.nil_append, List.append_nil, Bool.and_true, Bool.and_self, SB, Int.reducePow, hQ, hmd1, hks1, hQ1, szC_lt g]
      rw [szC_lt (by omega)]
    · (first | refine call_i hP1 (s_szPage a[i] c (hf' _ (List.getElem_mem _)) (by omega) (by omega)) (.inl ⟨rfl, fun _ hx => nomatch hx⟩) ?_ | refine callH_i hP1 (s_szPage a[i] c (hf' _ (List.getElem_mem _)) (by omega) (by omega)) (.inl ⟨rfl, fun _ hx => nomatch hx⟩) ?_)
      simp +decide (maxSteps := 20000000) (disch := omega) only [↓SBK, ↓SBK2, SAU, SGs, SD, S1, S2, S3, SE, SC, SO, ST, SF, SK, bytes_len, bytes_get, Nat.reduceEqDiff, Nat.reduceAdd, Nat.reduceMul, Nat.reduceSub, ↓reduceIte, Int.reduceNeg, Int.reduceToNat, hmd, hks, Bool.beq_eq_decide_eq, Int.natCast_zero, Int.add_zero, ge_iff_le, gt_iff_lt, Option.isNone_none, Option.isNone_some, List.nil_append, List.append_nil, Bool.and_true, Bool.and_self, SB, Int.reducePow, hQ, hmd1, hks1, hQ1, szC_ge g]
      (first | with_reducible refine if_d _ ?_ ?_ | refine if_i _ ?_ ?_) <;> intro k
      · exfalso; omega
      simp +decide (maxSteps := 20000000) (disch := omega) only [↓SBK, ↓SBK2, SAU, SGs, SD, S1, S2, S3, SE, SC, SO, ST, SF, SK, bytes_len, bytes_get, Nat.reduceEqDiff, Nat.reduceAdd, Nat.reduceMul, Nat.reduceSub, ↓reduceIte, Int.reduceNeg, Int.reduceToNat, hmd, hks, Bool.beq_eq_decide_eq, Int.natCast_zero, Int.add_zero, ge_iff_le, gt_iff_lt, Option.isNone_none, Option.isNone_some, List.nil_append, List.append_nil, Bool.and_true, Bool.and_self, SB, Int.reducePow, hQ, hmd1, hks1, hQ1]
      exact ⟨(i + 1, c - a[i].sz), rfl, ⟨by simp only; omega, by simp only; omega, by simp only; omega⟩, by simp only; omega⟩
  · obtain rfl : i = a.length := by omega
    rw [List.take_length] at hc
    simp +decide (maxSteps := 20000000) (disch := omega) only [↓SBK, ↓SBK2, SAU, SGs, SD, S1, S2, S3, SE, SC, SO, ST, SF, SK, bytes_len, bytes_get, Nat.reduceEqDiff, Nat.reduceAdd, Nat.reduceMul, Nat.reduceSub, ↓reduceIte, Int.reduceNeg, Int.reduceToNat, hmd, hks, Bool.beq_eq_decide_eq, Int.natCast_zero, Int.add_zero, ge_iff_le, gt_iff_lt, Option.isNone_none, Option.isNone_some, List.nil_append, List.append_nil, Bool.and_true, Bool.and_self, SB, Int.reducePow, hQ, hmd1, hks1, hQ1]
    rw [szC_ge (by omega)]
    simp only [hsz, hc, Int.natCast_add, Int.sub_sub, Int.add_assoc]

theorem s_szBlock (a : Block) (left : Int) (hf : a.fine) (h0 : 0 ≤ left) (hl : left < 2 ^ 40) :
    Spec Try.prog 173 [a.x, .int .i64 left] (.int .i64 (szC left a.sz)) [.undef, .undef] := by
  have hsz : a.sz = szM Page.sz a.pages := rfl
  simp only [Block.fine] at hf
  have hf0 := hf
  refine spec_C hmx p_L_szBlock [] 23 [] ⟨Nat.le_of_ble_eq_true rfl, Nat.le_of_ble_eq_true rfl⟩ rfl rfl ?_
  intro w hP hmd hks hQ
  unfold c_L_szBlock
  simp +decide (maxSteps := 20000000) (disch := omega) only [↓SBK, ↓SBK2, SAU, SGs, SD, S1, S2, S3, SE, SC, SO, ST, SF, SK, bytes_len, bytes_get, Nat.reduceEqDiff, Nat.reduceAdd, Nat.reduceMul, Nat.reduceSub, ↓reduceIte, Int.reduceNeg, Int.reduceToNat, hmd, hks, Bool.beq_eq_decide_eq, Int.natCast_zero, Int.add_zero, ge_iff_le, gt_iff_lt, Option.isNone_none, Option.isNone_some, List.nil_append, List.append_nil, Bool.and_true, Bool.and_self, SB, Int.reducePow, hQ]
  by_cases g0 : left < ((szM Page.sz a.pages : Nat) : Int)
  · (first | refine call_i hP (s_szPageS a.pages (left) hf0.1 hf0.2 (by omega) (by omega)) (.inl ⟨rfl, fun _ hx => nomatch hx⟩) ?_ | refine callH_i hP (s_szPageS a.pages (left) hf0.1 hf0.2 (by omega) (by omega)) (.inl ⟨rfl, fun _ hx => nomatch hx⟩) ?_)
    simp +decide (maxSteps := 20000000) (disch := omega) only [↓SBK, ↓SBK2, SAU, SGs, SD, S1, S2, S3, SE, SC, SO, ST, SF, SK, bytes_len, bytes_get, Nat.reduceEqDiff, Nat.reduceAdd, Nat.reduceMul, Nat.reduceSub, ↓reduceIte, Int.reduceNeg, Int.reduceToNat, hmd, hks, Bool.beq_eq_decide_eq, Int.natCast_zero, Int.add_zero, ge_iff_le, gt_iff_lt, Option.isNone_none, Option.isNone_some, List.nil_append, List.append_nil, Bool.and_true, Bool.and_self, SB, Int.reducePow, hQ, szC_lt g0]
    rw [szC_lt (by omega)]
  (first | refine call_i hP (s_szPageS a.pages (left) hf0.1 hf0.2 (by omega) (by omega)) (.inl ⟨rfl, fun _ hx => nomatch hx⟩) ?_ | refine callH_i hP (s_szPageS a.pages (left) hf0.1 hf0.2 (by omega) (by omega)) (.inl ⟨rfl, fun _ hx => nomatch hx⟩) ?_)
  simp +decide (maxSteps := 20000000) (disch := omega) only [↓SBK, ↓SBK2, SAU, SGs, SD, S1, S2, S3, SE, SC, SO, ST, SF, SK, bytes_len, bytes_get, Nat.reduceEqDiff, Nat.reduceAdd, Nat.reduceMul, Nat.reduceSub, ↓reduceIte, Int.reduceNeg, Int.reduceToNat, hmd, hks, Bool.beq_eq_decide_eq, Int.natCast_zero, Int.add_zero, ge_iff_le, gt_iff_lt, Option.isNone_none, Option.isNone_some, List.nil_append, List.append_nil, Bool.and_true, Bool.and_self, SB, Int.reducePow, hQ, szC_ge g0]
  (first | with_reducible refine if_d _ ?_ ?_ | refine if_i _ ?_ ?_) <;> intro k0
  · exfalso; omega
  simp +decide (maxSteps := 20000000) (disch := omega) only [↓SBK, ↓SBK2, SAU, SGs, SD, S1, S2, S3, SE, SC, SO, ST, SF, SK, bytes_len, bytes_get, Nat.reduceEqDiff, Nat.reduceAdd, Nat.reduceMul, Nat.reduceSub, ↓reduceIte, Int.reduceNeg, Int.reduceToNat, hmd, hks, Bool.beq_eq_decide_eq, Int.natCast_zero, Int.add_zero, ge_iff_le, gt_iff_lt, Option.isNone_none, Option.isNone_some, List.nil_append, List.append_nil, Bool.and_true, Bool.and_self, SB, Int.reducePow, hQ]
  rw [szC_ge (by omega)]
  simp only [hsz, Int.natCast_add, Int.sub_sub, Int.add_assoc]

theorem s_szBlockS (a : List Block) (left : Int) (hf : a.length < 2 ^ 48) (hf' : ∀ x ∈ a, x.fine) (h0 : 0 ≤ left) (hl : left < 2 ^ 40) :
    Spec Try.prog 131 [.ext 3 (a.map Block.row), .int .i64 left] (.int .i64 (szC left (szM Block.sz a))) [.undef, .undef] := by
  have hsz : szM Block.sz a = a.length + (a.map Block.sz).sum := rfl
  refine spec_C hmx p_L_szBlockS [] 51 [] ⟨Nat.le_of_ble_eq_true rfl, Nat.le_of_ble_eq_true rfl⟩ rfl rfl ?_
  intro w hP hmd hks hQ
  unfold c_L_szBlockS
  simp +decide (maxSteps := 20000000) (disch := omega) only [↓SBK, ↓SBK2, SAU, SGs, SD, S1, S2, S3, SE, SC, SO, ST, SF, SK, bytes_len, bytes_get, Nat.reduceEqDiff, Nat.reduceAdd, Nat.reduceMul, Nat.reduceSub, ↓reduceIte, Int.reduceNeg, Int.reduceToNat, hmd, hks, Bool.beq_eq_decide_eq, Int.natCast_zero, Int.add_zero, ge_iff_le, gt_iff_lt, Option.isNone_none, Option.isNone_some, List.nil_append, List.append_nil, Bool.and_true, Bool.and_self, SB, Int.reducePow, hQ]
  (first | with_reducible refine if_d _ ?_ ?_ | refine if_i _ ?_ ?_) <;> intro h
  · simp +decide (maxSteps := 20000000) (disch := omega) only [↓SBK, ↓SBK2, SAU, SGs, SD, S1, S2, S3, SE, SC, SO, ST, SF, SK, bytes_len, bytes_get, Nat.reduceEqDiff, Nat.reduceAdd, Nat.reduceMul, Nat.reduceSub, ↓reduceIte, Int.reduceNeg, Int.reduceToNat, hmd, hks, Bool.beq_eq_decide_eq, Int.natCast_zero, Int.add_zero, ge_iff_le, gt_iff_lt, Option.isNone_none, Option.isNone_some, List.nil_append, List.append_nil, Bool.and_true, Bool.and_self, SB, Int.reducePow, hQ]
    rw [szC_lt (by omega)]
  simp +decide (maxSteps := 20000000) (disch := omega) only [↓SBK, ↓SBK2, SAU, SGs, SD, S1, S2, S3, SE, SC, SO, ST, SF, SK, bytes_len, bytes_get, Nat.reduceEqDiff, Nat.reduceAdd, Nat.reduceMul, Nat.reduceSub, ↓reduceIte, Int.reduceNeg, Int.reduceToNat, hmd, hks, Bool.beq_eq_decide_eq, Int.natCast_zero, Int.add_zero, ge_iff_le, gt_iff_lt, Option.isNone_none, Option.isNone_some, List.nil_append, List.append_nil, Bool.and_true, Bool.and_self, SB, Int.reducePow, hQ]
  refine loop_i (fun s : Nat × Int => [(1, .int .i64 s.2), (5, .int .i64 s.1)]) (fun s => s.1 ≤ a.length ∧ 0 ≤ s.2 ∧ s.2 = left - a.length - ((a.take s.1).map Block.sz).sum) (fun s => a.length - s.1) ((0, left - a.length)) hP hmd hks (rfl) (by simp; omega) ?_
  rintro ⟨i, c⟩ ⟨hi, h0', hc⟩ w1 hP1 hmd1 hks1 hQ1
  simp +decide (maxSteps := 20000000) (disch := omega) only [↓SBK, ↓SBK2, SAU, SGs, SD, S1, S2, S3, SE, SC, SO, ST, SF, SK, bytes_len, bytes_get, Nat.reduceEqDiff, Nat.reduceAdd, Nat.reduceMul, Nat.reduceSub, ↓reduceIte, Int.reduceNeg, Int.reduceToNat, hmd, hks, Bool.beq_eq_decide_eq, Int.natCast_zero, Int.add_zero, ge_iff_le, gt_iff_lt, Option.isNone_none, Option.isNone_some, List.nil_append, List.append_nil, Bool.and_true, Bool.and_self, SB, Int.reducePow, hQ, hmd1, hks1, hQ1]
  simp only at hi h0' hc
  (first | with_reducible refine if_d _ ?_ ?_ | refine if_i _ ?_ ?_) <;> intro h1
  · have hs := sum_take Block.sz a i (by omega)
    have hs' := sum_take_le Block.sz a (i + 1)
    simp +decide (maxSteps := 20000000) (disch := omega) only [↓SBK, ↓SBK2, SAU, SGs, SD, S1, S2, S3, SE, SC, SO, ST, SF, SK, bytes_len, bytes_get, Nat.reduceEqDiff, Nat.reduceAdd, Nat.reduceMul, Nat.reduceSub, ↓reduceIte, Int.reduceNeg, Int.reduceToNat, hmd, hks, Bool.beq_eq_decide_eq, Int.natCast_zero, Int.add_zero, ge_iff_le, gt_iff_lt, Option.isNone_none, Option.isNone_some, List.nil_append, List.append_nil, Bool.and_true, Bool.and_self, SB, Int.reducePow, hQ, hmd1, hks1, hQ1, getE h1]
    by_cases g : c < ((a[i].sz : Nat) : Int)
    · (first | refine call_i hP1 (s_szBlock a[i] c (hf' _ (List.getElem_mem _)) (by omega) (by omega)) (.inl ⟨rfl, fun _ hx => nomatch hx⟩) ?_ | refine callH_i hP1 (s_szBlock a[i] c (hf' _ (List.getElem_mem _)) (by omega) (by omega)) (.inl ⟨rfl, fun _ hx => nomatch hx⟩) ?_)
      simp +decide (maxSteps := 20000000) (disch := omega) only [↓SBK, ↓SBK2, SAU, SGs, SD, S1, S2, S3, SE, SC, SO, ST, SF, SK, bytes_len, bytes_get, Nat.reduceEqDiff, Nat.reduceAdd, Nat.reduceMul, Nat.reduceSub, ↓reduceIte, Int.reduceNeg, Int.reduceToNat, hmd, hks, Bool.beq_eq_decide_eq, Int.natCast_zero, Int.add_zero, ge_iff_le, gt_iff_lt, Option.isNone_none, Option.isNone_some, List.nil_append, List.append_nil, Bool.and_true, Bool.and_self, SB, Int.reducePow, hQ, hmd1, hks1, hQ1, szC_lt g]
      rw [szC_lt (by omega)]
    · (first | refine call_i hP1 (s_szBlock a[i] c (hf' _ (List.getElem_mem _)) (by omega) (by omega)) (.inl ⟨rfl, fun _ hx => nomatch hx⟩) ?_ | refine callH_i hP1 (s_szBlock a[i] c (hf' _ (List.getElem_mem _)) (by omega) (by omega)) (.inl ⟨rfl, fun _ hx => nomatch hx⟩) ?_)
      simp +decide (maxSteps := 20000000) (disch := omega) only [↓SBK, ↓SBK2, SAU, SGs, SD, S1, S2, S3, SE, SC, SO, ST, SF, SK, bytes_len, bytes_get, Nat.reduceEqDiff, Nat.reduceAdd, Nat.reduceMul, Nat.reduceSub, ↓reduceIte, Int.reduceNeg, Int.reduceToNat, hmd, hks, Bool.beq_eq_decide_eq, Int.natCast_zero, Int.add_zero, ge_iff_le, gt_iff_lt, Option.isNone_none, Option.isNone_some, List.nil_append, List.append_nil, Bool.and_true, Bool.and_self, SB, Int.reducePow, hQ, hmd1, hks1, hQ1, szC_ge g]
      (first | with_reducible refine if_d _ ?_ ?_ | refine if_i _ ?_ ?_) <;> intro k
      · exfalso; omega
      simp +decide (maxSteps := 20000000) (disch := omega) only [↓SBK, ↓SBK2, SAU, SGs, SD, S1, S2, S3, SE, SC, SO, ST, SF, SK, bytes_len, bytes_get, Nat.reduceEqDiff, Nat.reduceAdd, Nat.reduceMul, Nat.reduceSub, ↓reduceIte, Int.reduceNeg, Int.reduceToNat, hmd, hks, Bool.beq_eq_decide_eq, Int.natCast_zero, Int.add_zero, ge_iff_le, gt_iff_lt, Option.isNone_none, Option.isNone_some, List.nil_append, List.append_nil, Bool.and_true, Bool.and_self, SB, Int.reducePow, hQ, hmd1, hks1, hQ1]
      exact ⟨(i + 1, c - a[i].sz), rfl, ⟨by simp only; omega, by simp only; omega, by simp only; omega⟩, by simp only; omega⟩
  · obtain rfl : i = a.length := by omega
    rw [List.take_length] at hc
    simp +decide (maxSteps := 20000000) (disch := omega) only [↓SBK, ↓SBK2, SAU, SGs, SD, S1, S2, S3, SE, SC, SO, ST, SF, SK, bytes_len, bytes_get, Nat.reduceEqDiff, Nat.reduceAdd, Nat.reduceMul, Nat.reduceSub, ↓reduceIte, Int.reduceNeg, Int.reduceToNat, hmd, hks, Bool.beq_eq_decide_eq, Int.natCast_zero, Int.add_zero, ge_iff_le, gt_iff_lt, Option.isNone_none, Option.isNone_some, List.nil_append, List.append_nil, Bool.and_true, Bool.and_self, SB, Int.reducePow, hQ, hmd1, hks1, hQ1]
    rw [szC_ge (by omega)]
    simp only [hsz, hc, Int.natCast_add, Int.sub_sub, Int.add_assoc]

theorem s_szChip (a : Chip) (left : Int) (hf : a.fine) (h0 : 0 ≤ left) (hl : left < 2 ^ 40) :
    Spec Try.prog 56 [a.x, .int .i64 left] (.int .i64 (szC left a.sz)) [.undef, .undef] := by
  have hsz : a.sz = szM Block.sz a.blocks := rfl
  simp only [Chip.fine] at hf
  have hf0 := hf
  refine spec_C hmx p_L_szChip [] 23 [] ⟨Nat.le_of_ble_eq_true rfl, Nat.le_of_ble_eq_true rfl⟩ rfl rfl ?_
  intro w hP hmd hks hQ
  unfold c_L_szChip
  simp +decide (maxSteps := 20000000) (disch := omega) only [↓SBK, ↓SBK2, SAU, SGs, SD, S1, S2, S3, SE, SC, SO, ST, SF, SK, bytes_len, bytes_get, Nat.reduceEqDiff, Nat.reduceAdd, Nat.reduceMul, Nat.reduceSub, ↓reduceIte, Int.reduceNeg, Int.reduceToNat, hmd, hks, Bool.beq_eq_decide_eq, Int.natCast_zero, Int.add_zero, ge_iff_le, gt_iff_lt, Option.isNone_none, Option.isNone_some, List.nil_append, List.append_nil, Bool.and_true, Bool.and_self, SB, Int.reducePow, hQ]
  by_cases g0 : left < ((szM Block.sz a.blocks : Nat) : Int)
  · (first | refine call_i hP (s_szBlockS a.blocks (left) hf0.1 hf0.2 (by omega) (by omega)) (.inl ⟨rfl, fun _ hx => nomatch hx⟩) ?_ | refine callH_i hP (s_szBlockS a.blocks (left) hf0.1 hf0.2 (by omega) (by omega)) (.inl ⟨rfl, fun _ hx => nomatch hx⟩) ?_)
    simp +decide (maxSteps := 20000000) (disch := omega) only [↓SBK, ↓SBK2, SAU, SGs, SD, S1, S2, S3, SE, SC, SO, ST, SF, SK, bytes_len, bytes_get, Nat.reduceEqDiff, Nat.reduceAdd, Nat.reduceMul, Nat.reduceSub, ↓reduceIte, Int.reduceNeg, Int.reduceToNat, hmd, hks, Bool.beq_eq_decide_eq, Int.natCast_zero, Int.add_zero, ge_iff_le, gt_iff_lt, Option.isNone_none, Option.isNone_some, List.nil_append, List.append_nil, Bool.and_true, Bool.and_self, SB, Int.reducePow, hQ, szC_lt g0]
    rw [szC_lt (by omega)]
  (first | refine call_i hP (s_szBlockS a.blocks (left) hf0.1 hf0.2 (by omega) (by omega)) (.inl ⟨rfl, fun _ hx => nomatch hx⟩) ?_ | refine callH_i hP (s_szBlockS a.blocks (left) hf0.1 hf0.2 (by omega) (by omega)) (.inl ⟨rfl, fun _ hx => nomatch hx⟩) ?_)
  simp +decide (maxSteps := 20000000) (disch := omega) only [↓SBK, ↓SBK2, SAU, SGs, SD, S1, S2, S3, SE, SC, SO, ST, SF, SK, bytes_len, bytes_get, Nat.reduceEqDiff, Nat.reduceAdd, Nat.reduceMul, Nat.reduceSub, ↓reduceIte, Int.reduceNeg, Int.reduceToNat, hmd, hks, Bool.beq_eq_decide_eq, Int.natCast_zero, Int.add_zero, ge_iff_le, gt_iff_lt, Option.isNone_none, Option.isNone_some, List.nil_append, List.append_nil, Bool.and_true, Bool.and_self, SB, Int.reducePow, hQ, szC_ge g0]
  (first | with_reducible refine if_d _ ?_ ?_ | refine if_i _ ?_ ?_) <;> intro k0
  · exfalso; omega
  simp +decide (maxSteps := 20000000) (disch := omega) only [↓SBK, ↓SBK2, SAU, SGs, SD, S1, S2, S3, SE, SC, SO, ST, SF, SK, bytes_len, bytes_get, Nat.reduceEqDiff, Nat.reduceAdd, Nat.reduceMul, Nat.reduceSub, ↓reduceIte, Int.reduceNeg, Int.reduceToNat, hmd, hks, Bool.beq_eq_decide_eq, Int.natCast_zero, Int.add_zero, ge_iff_le, gt_iff_lt, Option.isNone_none, Option.isNone_some, List.nil_append, List.append_nil, Bool.and_true, Bool.and_self, SB, Int.reducePow, hQ]
  rw [szC_ge (by omega)]
  simp only [hsz, Int.natCast_add, Int.sub_sub, Int.add_assoc]

theorem s_szFaultS (a : List Fault) (left : Int) (hf : a.length < 2 ^ 48) (h0 : 0 ≤ left) (h1 : left < 2 ^ 40) :
    Spec Try.prog 101 [.ext 3 (a.map Fault.row), .int .i64 left] (.int .i64 (szC left a.length)) [.undef, .undef] := by
  refine spec_C hmx p_L_szFaultS [] 19 [] ⟨Nat.le_of_ble_eq_true rfl, Nat.le_of_ble_eq_true rfl⟩ rfl rfl ?_
  intro w hP hmd hks hQ
  unfold c_L_szFaultS
  simp +decide (maxSteps := 20000000) (disch := omega) only [↓SBK, ↓SBK2, SAU, SGs, SD, S1, S2, S3, SE, SC, SO, ST, SF, SK, bytes_len, bytes_get, Nat.reduceEqDiff, Nat.reduceAdd, Nat.reduceMul, Nat.reduceSub, ↓reduceIte, Int.reduceNeg, Int.reduceToNat, hmd, hks, Bool.beq_eq_decide_eq, Int.natCast_zero, Int.add_zero, ge_iff_le, gt_iff_lt, Option.isNone_none, Option.isNone_some, List.nil_append, List.append_nil, Bool.and_true, Bool.and_self, SB, Int.reducePow, hQ]
  (first | with_reducible refine if_d _ ?_ ?_ | refine if_i _ ?_ ?_) <;> intro h
  · simp +decide (maxSteps := 20000000) (disch := omega) only [↓SBK, ↓SBK2, SAU, SGs, SD, S1, S2, S3, SE, SC, SO, ST, SF, SK, bytes_len, bytes_get, Nat.reduceEqDiff, Nat.reduceAdd, Nat.reduceMul, Nat.reduceSub, ↓reduceIte, Int.reduceNeg, Int.reduceToNat, hmd, hks, Bool.beq_eq_decide_eq, Int.natCast_zero, Int.add_zero, ge_iff_le, gt_iff_lt, Option.isNone_none, Option.isNone_some, List.nil_append, List.append_nil, Bool.and_true, Bool.and_self, SB, Int.reducePow, hQ]
    rw [szC_lt (by omega)]
  · simp +decide (maxSteps := 20000000) (disch := omega) only [↓SBK, ↓SBK2, SAU, SGs, SD, S1, S2, S3, SE, SC, SO, ST, SF, SK, bytes_len, bytes_get, Nat.reduceEqDiff, Nat.reduceAdd, Nat.reduceMul, Nat.reduceSub, ↓reduceIte, Int.reduceNeg, Int.reduceToNat, hmd, hks, Bool.beq_eq_decide_eq, Int.natCast_zero, Int.add_zero, ge_iff_le, gt_iff_lt, Option.isNone_none, Option.isNone_some, List.nil_append, List.append_nil, Bool.and_true, Bool.and_self, SB, Int.reducePow, hQ]
    rw [szC_ge (by omega)]

theorem s_szDev (a : Dev) (left : Int) (hf : a.fine) (h0 : 0 ≤ left) (hl : left < 2 ^ 40) :
    Spec Try.prog 81 [a.x, .int .i64 left] (.int .i64 (szC left a.sz)) [.undef, .undef] := by
  have hsz : a.sz = a.c.sz + a.faults.length := rfl
  simp only [Dev.fine] at hf
  obtain ⟨hf0, hf1⟩ := hf
  refine spec_C hmx p_L_szDev [] 23 [] ⟨Nat.le_of_ble_eq_true rfl, Nat.le_of_ble_eq_true rfl⟩ rfl rfl ?_
  intro w hP hmd hks hQ
  unfold c_L_szDev
  simp +decide (maxSteps := 20000000) (disch := omega) only [↓SBK, ↓SBK2, SAU, SGs, SD, S1, S2, S3, SE, SC, SO, ST, SF, SK, bytes_len, bytes_get, Nat.reduceEqDiff, Nat.reduceAdd, Nat.reduceMul, Nat.reduceSub, ↓reduceIte, Int.reduceNeg, Int.reduceToNat, hmd, hks, Bool.beq_eq_decide_eq, Int.natCast_zero, Int.add_zero, ge_iff_le, gt_iff_lt, Option.isNone_none, Option.isNone_some, List.nil_append, List.append_nil, Bool.and_true, Bool.and_self, SB, Int.reducePow, hQ]
  by_cases g0 : left < ((a.c.sz : Nat) : Int)
  · (first | refine call_i hP (s_szChip a.c (left) hf0 (by omega) (by omega)) (.inl ⟨rfl, fun _ hx => nomatch hx⟩) ?_ | refine callH_i hP (s_szChip a.c (left) hf0 (by omega) (by omega)) (.inl ⟨rfl, fun _ hx => nomatch hx⟩) ?_)
    simp +decide (maxSteps := 20000000) (disch := omega) only [↓SBK, ↓SBK2, SAU, SGs, SD, S1, S2, S3, SE, SC, SO, ST, SF, SK, bytes_len, bytes_get, Nat.reduceEqDiff, Nat.reduceAdd, Nat.reduceMul, Nat.reduceSub, ↓reduceIte, Int.reduceNeg, Int.reduceToNat, hmd, hks, Bool.beq_eq_decide_eq, Int.natCast_zero, Int.add_zero, ge_iff_le, gt_iff_lt, Option.isNone_none, Option.isNone_some, List.nil_append, List.append_nil, Bool.and_true, Bool.and_self, SB, Int.reducePow, hQ, szC_lt g0]
    rw [szC_lt (by omega)]
  (first | refine call_i hP (s_szChip a.c (left) hf0 (by omega) (by omega)) (.inl ⟨rfl, fun _ hx => nomatch hx⟩) ?_ | refine callH_i hP (s_szChip a.c (left) hf0 (by omega) (by omega)) (.inl ⟨rfl, fun _ hx => nomatch hx⟩) ?_)
  simp +decide (maxSteps := 20000000) (disch := omega) only [↓SBK, ↓SBK2, SAU, SGs, SD, S1, S2, S3, SE, SC, SO, ST, SF, SK, bytes_len, bytes_get, Nat.reduceEqDiff, Nat.reduceAdd, Nat.reduceMul, Nat.reduceSub, ↓reduceIte, Int.reduceNeg, Int.reduceToNat, hmd, hks, Bool.beq_eq_decide_eq, Int.natCast_zero, Int.add_zero, ge_iff_le, gt_iff_lt, Option.isNone_none, Option.isNone_some, List.nil_append, List.append_nil, Bool.and_true, Bool.and_self, SB, Int.reducePow, hQ, szC_ge g0]
  (first | with_reducible refine if_d _ ?_ ?_ | refine if_i _ ?_ ?_) <;> intro k0
  · exfalso; omega
  simp +decide (maxSteps := 20000000) (disch := omega) only [↓SBK, ↓SBK2, SAU, SGs, SD, S1, S2, S3, SE, SC, SO, ST, SF, SK, bytes_len, bytes_get, Nat.reduceEqDiff, Nat.reduceAdd, Nat.reduceMul, Nat.reduceSub, ↓reduceIte, Int.reduceNeg, Int.reduceToNat, hmd, hks, Bool.beq_eq_decide_eq, Int.natCast_zero, Int.add_zero, ge_iff_le, gt_iff_lt, Option.isNone_none, Option.isNone_some, List.nil_append, List.append_nil, Bool.and_true, Bool.and_self, SB, Int.reducePow, hQ]
  by_cases g1 : left - ((a.c.sz : Nat) : Int) < ((a.faults.length : Nat) : Int)
  · (first | refine call_i hP (s_szFaultS a.faults (left - ((a.c.sz : Nat) : Int)) hf1 (by omega) (by omega)) (.inl ⟨rfl, fun _ hx => nomatch hx⟩) ?_ | refine callH_i hP (s_szFaultS a.faults (left - ((a.c.sz : Nat) : Int)) hf1 (by omega) (by omega)) (.inl ⟨rfl, fun _ hx => nomatch hx⟩) ?_)
    simp +decide (maxSteps := 20000000) (disch := omega) only [↓SBK, ↓SBK2, SAU, SGs, SD, S1, S2, S3, SE, SC, SO, ST, SF, SK, bytes_len, bytes_get, Nat.reduceEqDiff, Nat.reduceAdd, Nat.reduceMul, Nat.reduceSub, ↓reduceIte, Int.reduceNeg, Int.reduceToNat, hmd, hks, Bool.beq_eq_decide_eq, Int.natCast_zero, Int.add_zero, ge_iff_le, gt_iff_lt, Option.isNone_none, Option.isNone_some, List.nil_append, List.append_nil, Bool.and_true, Bool.and_self, SB, Int.reducePow, hQ, szC_lt g1]
    rw [szC_lt (by omega)]
  (first | refine call_i hP (s_szFaultS a.faults (left - ((a.c.sz : Nat) : Int)) hf1 (by omega) (by omega)) (.inl ⟨rfl, fun _ hx => nomatch hx⟩) ?_ | refine callH_i hP (s_szFaultS a.faults (left - ((a.c.sz : Nat) : Int)) hf1 (by omega) (by omega)) (.inl ⟨rfl, fun _ hx => nomatch hx⟩) ?_)
  simp +decide (maxSteps := 20000000) (disch := omega) only [↓SBK, ↓SBK2, SAU, SGs, SD, S1, S2, S3, SE, SC, SO, ST, SF, SK, bytes_len, bytes_get, Nat.reduceEqDiff, Nat.reduceAdd, Nat.reduceMul, Nat.reduceSub, ↓reduceIte, Int.reduceNeg, Int.reduceToNat, hmd, hks, Bool.beq_eq_decide_eq, Int.natCast_zero, Int.add_zero, ge_iff_le, gt_iff_lt, Option.isNone_none, Option.isNone_some, List.nil_append, List.append_nil, Bool.and_true, Bool.and_self, SB, Int.reducePow, hQ, szC_ge g1]
  (first | with_reducible refine if_d _ ?_ ?_ | refine if_i _ ?_ ?_) <;> intro k1
  · exfalso; omega
  simp +decide (maxSteps := 20000000) (disch := omega) only [↓SBK, ↓SBK2, SAU, SGs, SD, S1, S2, S3, SE, SC, SO, ST, SF, SK, bytes_len, bytes_get, Nat.reduceEqDiff, Nat.reduceAdd, Nat.reduceMul, Nat.reduceSub, ↓reduceIte, Int.reduceNeg, Int.reduceToNat, hmd, hks, Bool.beq_eq_decide_eq, Int.natCast_zero, Int.add_zero, ge_iff_le, gt_iff_lt, Option.isNone_none, Option.isNone_some, List.nil_append, List.append_nil, Bool.and_true, Bool.and_self, SB, Int.reducePow, hQ]
  rw [szC_ge (by omega)]
  simp only [hsz, Int.natCast_add, Int.sub_sub, Int.add_assoc]

theorem s_szLog (a : Log) (left : Int) (hf : a.fine) (h0 : 0 ≤ left) (hl : left < 2 ^ 40) :
    Spec Try.prog 96 [a.x, .int .i64 left] (.int .i64 (szC left a.sz)) [.undef, .undef] := by
  have hsz : a.sz = a.d.sz := rfl
  simp only [Log.fine] at hf
  have hf0 := hf
  refine spec_C hmx p_L_szLog [] 23 [] ⟨Nat.le_of_ble_eq_true rfl, Nat.le_of_ble_eq_true rfl⟩ rfl rfl ?_
  intro w hP hmd hks hQ
  unfold c_L_szLog
  simp +decide (maxSteps := 20000000) (disch := omega) only [↓SBK, ↓SBK2, SAU, SGs, SD, S1, S2, S3, SE, SC, SO, ST, SF, SK, bytes_len, bytes_get, Nat.reduceEqDiff, Nat.reduceAdd, Nat.reduceMul, Nat.reduceSub, ↓reduceIte, Int.reduceNeg, Int.reduceToNat, hmd, hks, Bool.beq_eq_decide_eq, Int.natCast_zero, Int.add_zero, ge_iff_le, gt_iff_lt, Option.isNone_none, Option.isNone_some, List.nil_append, List.append_nil, Bool.and_true, Bool.and_self, SB, Int.reducePow, hQ]
  by_cases g0 : left < ((a.d.sz : Nat) : Int)
  · (first | refine call_i hP (s_szDev a.d (left) hf0 (by omega) (by omega)) (.inl ⟨rfl, fun _ hx => nomatch hx⟩) ?_ | refine callH_i hP (s_szDev a.d (left) hf0 (by omega) (by omega)) (.inl ⟨rfl, fun _ hx => nomatch hx⟩) ?_)
    simp +decide (maxSteps := 20000000) (disch := omega) only [↓SBK, ↓SBK2, SAU, SGs, SD, S1, S2, S3, SE, SC, SO, ST, SF, SK, bytes_len, bytes_get, Nat.reduceEqDiff, Nat.reduceAdd, Nat.reduceMul, Nat.reduceSub, ↓reduceIte, Int.reduceNeg, Int.reduceToNat, hmd, hks, Bool.beq_eq_decide_eq, Int.natCast_zero, Int.add_zero, ge_iff_le, gt_iff_lt, Option.isNone_none, Option.isNone_some, List.nil_append, List.append_nil, Bool.and_true, Bool.and_self, SB, Int.reducePow, hQ, szC_lt g0]
    rw [szC_lt (by omega)]
  (first | refine call_i hP (s_szDev a.d (left) hf0 (by omega) (by omega)) (.inl ⟨rfl, fun _ hx => nomatch hx⟩) ?_ | refine callH_i hP (s_szDev a.d (left) hf0 (by omega) (by omega)) (.inl ⟨rfl, fun _ hx => nomatch hx⟩) ?_)
  simp +decide (maxSteps := 20000000) (disch := omega) only [↓SBK, ↓SBK2, SAU, SGs, SD, S1, S2, S3, SE, SC, SO, ST, SF, SK, bytes_len, bytes_get, Nat.reduceEqDiff, Nat.reduceAdd, Nat.reduceMul, Nat.reduceSub, ↓reduceIte, Int.reduceNeg, Int.reduceToNat, hmd, hks, Bool.beq_eq_decide_eq, Int.natCast_zero, Int.add_zero, ge_iff_le, gt_iff_lt, Option.isNone_none, Option.isNone_some, List.nil_append, List.append_nil, Bool.and_true, Bool.and_self, SB, Int.reducePow, hQ, szC_ge g0]
  (first | with_reducible refine if_d _ ?_ ?_ | refine if_i _ ?_ ?_) <;> intro k0
  · exfalso; omega
  simp +decide (maxSteps := 20000000) (disch := omega) only [↓SBK, ↓SBK2, SAU, SGs, SD, S1, S2, S3, SE, SC, SO, ST, SF, SK, bytes_len, bytes_get, Nat.reduceEqDiff, Nat.reduceAdd, Nat.reduceMul, Nat.reduceSub, ↓reduceIte, Int.reduceNeg, Int.reduceToNat, hmd, hks, Bool.beq_eq_decide_eq, Int.natCast_zero, Int.add_zero, ge_iff_le, gt_iff_lt, Option.isNone_none, Option.isNone_some, List.nil_append, List.append_nil, Bool.and_true, Bool.and_self, SB, Int.reducePow, hQ]
  rw [szC_ge (by omega)]
  simp only [hsz, Int.natCast_add, Int.sub_sub, Int.add_assoc]
end Go.Proofs.Ytliklgcfdgdigaa.Awp

namespace Go.Proofs.Ytliklgcfdgdigaa.Awp
open Go.Proofs
set_option linter.unusedSimpArgs false
set_option linter.unusedVariables false
set_option maxRecDepth 100000
set_option maxHeartbeats 20000000

end Go.Proofs.Ytliklgcfdgdigaa.Awp

namespace Go.Proofs.Ytliklgcfdgdigaa.Awp
open Go.Proofs
set_option linter.unusedSimpArgs false
set_option linter.unusedVariables false
set_option maxRecDepth 100000
set_option maxHeartbeats 20000000

end Go.Proofs.Ytliklgcfdgdigaa.Awp

namespace Go.Proofs.Ytliklgcfdgdigaa.Awp
open Go.Proofs
set_option linter.unusedSimpArgs false
set_option linter.unusedVariables false
set_option maxRecDepth 100000
set_option maxHeartbeats 20000000

theorem s_from (x a b : Int) : Spec Try.prog 121 [.int .i64 x, .int .i64 a, .int .i64 b] (.bool (inR x a b)) [.undef, .undef, .undef] := by
  refine spec_C hmx p_I_from [] 71 [] ⟨Nat.le_of_ble_eq_true rfl, Nat.le_of_ble_eq_true rfl⟩ rfl rfl ?_
  intro w hP hmd hks hQ
  unfold c_I_from
  simp +decide (maxSteps := 20000000) (disch := omega) only [↓SBK, ↓SBK2, SAU, SGs, SD, S1, S2, S3, SE, SC, SO, ST, SF, SK, bytes_len, bytes_get, Nat.reduceEqDiff, Nat.reduceAdd, Nat.reduceMul, Nat.reduceSub, ↓reduceIte, Int.reduceNeg, Int.reduceToNat, hmd, hks, Bool.beq_eq_decide_eq, Int.natCast_zero, Int.add_zero, ge_iff_le, gt_iff_lt, Option.isNone_none, Option.isNone_some, List.nil_append, List.append_nil, Bool.and_true, Bool.and_self, SB, Int.reducePow, hQ]
  (first | with_reducible refine gd_d _ ?_ ?_ | refine gd_i _ ?_ ?_) <;> intro h1
  · simp +decide (maxSteps := 20000000) (disch := omega) only [↓SBK, ↓SBK2, SAU, SGs, SD, S1, S2, S3, SE, SC, SO, ST, SF, SK, bytes_len, bytes_get, Nat.reduceEqDiff, Nat.reduceAdd, Nat.reduceMul, Nat.reduceSub, ↓reduceIte, Int.reduceNeg, Int.reduceToNat, hmd, hks, Bool.beq_eq_decide_eq, Int.natCast_zero, Int.add_zero, ge_iff_le, gt_iff_lt, Option.isNone_none, Option.isNone_some, List.nil_append, List.append_nil, Bool.and_true, Bool.and_self, SB, Int.reducePow, hQ, h1]
    simp [inR, h1]
  · simp +decide (maxSteps := 20000000) (disch := omega) only [↓SBK, ↓SBK2, SAU, SGs, SD, S1, S2, S3, SE, SC, SO, ST, SF, SK, bytes_len, bytes_get, Nat.reduceEqDiff, Nat.reduceAdd, Nat.reduceMul, Nat.reduceSub, ↓reduceIte, Int.reduceNeg, Int.reduceToNat, hmd, hks, Bool.beq_eq_decide_eq, Int.natCast_zero, Int.add_zero, ge_iff_le, gt_iff_lt, Option.isNone_none, Option.isNone_some, List.nil_append, List.append_nil, Bool.and_true, Bool.and_self, SB, Int.reducePow, hQ, h1]
    simp [inR, h1]
end Go.Proofs.Ytliklgcfdgdigaa.Awp

namespace Go.Proofs.Ytliklgcfdgdigaa.Awp
open Go.Proofs
set_option linter.unusedSimpArgs false
set_option linter.unusedVariables false
set_option maxRecDepth 100000
set_option maxHeartbeats 20000000

/-! ### bytes -/
end Go.Proofs.Ytliklgcfdgdigaa.Awp

namespace Go.Proofs.Ytliklgcfdgdigaa.Awp
open Go.Proofs
set_option linter.unusedSimpArgs false
set_option linter.unusedVariables false
set_option maxRecDepth 100000
set_option maxHeartbeats 20000000

end Go.Proofs.Ytliklgcfdgdigaa.Awp

namespace Go.Proofs.Ytliklgcfdgdigaa.Awp
open Go.Proofs
set_option linter.unusedSimpArgs false
set_option linter.unusedVariables false
set_option maxRecDepth 100000
set_option maxHeartbeats 20000000

end Go.Proofs.Ytliklgcfdgdigaa.Awp

namespace Go.Proofs.Ytliklgcfdgdigaa.Awp
open Go.Proofs
set_option linter.unusedSimpArgs false
set_option linter.unusedVariables false
set_option maxRecDepth 100000
set_option maxHeartbeats 20000000

def pads : List Nat → List (Nat × AV)
  | [] => []
  | k :: l => (k, .undef) :: pads l
theorem getL_pads (l : List (Nat × AV)) (ks : List Nat) (t : Nat) : getL (l ++ pads ks) t = getL l t := by
  induction l with
  | nil =>
    induction ks with
    | nil => rfl
    | cons k ks ih => simp only [List.nil_append, pads, getL] at *; split <;> simp_all
  | cons x l ih => obtain ⟨k, a⟩ := x; simp only [List.cons_append, getL]; rw [ih]
theorem mkV_pads (K : Nat) (l : List (Nat × AV)) (ks : List Nat) : mkV K l [] [] = mkV K (l ++ pads ks) [] [] := by
  unfold mkV
  congr 1
  funext t
  rw [getL_pads]
end Go.Proofs.Ytliklgcfdgdigaa.Awp

namespace Go.Proofs.Ytliklgcfdgdigaa.Awp
open Go.Proofs
set_option linter.unusedSimpArgs false
set_option linter.unusedVariables false
set_option maxRecDepth 100000
set_option maxHeartbeats 20000000

def zPage : Page := { used := false, b := [] }
theorem inR_iff (x a b : Int) : inR x a b = true ↔ a ≤ x ∧ x ≤ b := by simp [inR]
end Go.Proofs.Ytliklgcfdgdigaa.Awp

namespace Go.Proofs.Ytliklgcfdgdigaa.Awp
open Go.Proofs
set_option linter.unusedSimpArgs false
set_option linter.unusedVariables false
set_option maxRecDepth 100000
set_option maxHeartbeats 20000000

end Go.Proofs.Ytliklgcfdgdigaa.Awp

namespace Go.Proofs.Ytliklgcfdgdigaa.Awp
open Go.Proofs
set_option linter.unusedSimpArgs false
set_option linter.unusedVariables false
set_option maxRecDepth 100000
set_option maxHeartbeats 20000000

def usedN (l : List Page) : Nat := l.countP (·.used)
theorem usedN_take (l : List Page) (i : Nat) (h : i < l.length) : usedN (l.take (i + 1)) = usedN (l.take i) + if l[i].used then 1 else 0 := by
  unfold usedN
  rw [List.take_succ_eq_append_getElem h, List.countP_append]
  simp [List.countP_cons]
theorem sS_l10Next (b : Block) (hl : b.sz < 2 ^ 40) : Spec Try.prog 138 [b.x] (.int .i64 (usedN b.pages : Nat)) [.undef] := by
  simp only [Block.sz, szM] at hl
  refine spec_C hmx p_S_l10Next [] 31 [] ⟨Nat.le_of_ble_eq_true rfl, Nat.le_of_ble_eq_true rfl⟩ rfl rfl ?_
  intro w hP hmd hks hQ
  unfold c_S_l10Next
  simp +decide (maxSteps := 20000000) (disch := omega) only [↓SBK, ↓SBK2, SAU, SGs, SD, S1, S2, S3, SE, SC, SO, ST, SF, SK, bytes_len, bytes_get, Nat.reduceEqDiff, Nat.reduceAdd, Nat.reduceMul, Nat.reduceSub, ↓reduceIte, Int.reduceNeg, Int.reduceToNat, hmd, hks, Bool.beq_eq_decide_eq, Int.natCast_zero, Int.add_zero, ge_iff_le, gt_iff_lt, Option.isNone_none, Option.isNone_some, List.nil_append, List.append_nil, Bool.and_true, Bool.and_self, SB, Int.reducePow, hQ]
  refine loop_i (fun s : Nat × Nat => [(4, .int .i64 (s.1 : Nat)), (3, .int .i64 (s.2 : Nat))]) (fun s => s.1 ≤ b.pages.length ∧ s.2 = usedN (b.pages.take s.1) ∧ s.2 ≤ s.1) (fun s => b.pages.length - s.1) ((0, 0)) hP hmd hks (rfl) (by simp [usedN]) ?_
  rintro ⟨i, n⟩ ⟨g1, g2, g3⟩ w1 hP1 hmd1 hks1 hQ1
  simp +decide (maxSteps := 20000000) (disch := omega) only [↓SBK, ↓SBK2, SAU, SGs, SD, S1, S2, S3, SE, SC, SO, ST, SF, SK, bytes_len, bytes_get, Nat.reduceEqDiff, Nat.reduceAdd, Nat.reduceMul, Nat.reduceSub, ↓reduceIte, Int.reduceNeg, Int.reduceToNat, hmd, hks, Bool.beq_eq_decide_eq, Int.natCast_zero, Int.add_zero, ge_iff_le, gt_iff_lt, Option.isNone_none, Option.isNone_some, List.nil_append, List.append_nil, Bool.and_true, Bool.and_self, SB, Int.reducePow, hQ, hmd1, hks1, hQ1]
  simp only at g1 g2 g3
  (first | with_reducible refine if_d _ ?_ ?_ | refine if_i _ ?_ ?_) <;> intro h1
  · have u := usedN_take b.pages i (by omega)
    simp +decide (maxSteps := 20000000) (disch := omega) only [↓SBK, ↓SBK2, SAU, SGs, SD, S1, S2, S3, SE, SC, SO, ST, SF, SK, bytes_len, bytes_get, Nat.reduceEqDiff, Nat.reduceAdd, Nat.reduceMul, Nat.reduceSub, ↓reduceIte, Int.reduceNeg, Int.reduceToNat, hmd, hks, Bool.beq_eq_decide_eq, Int.natCast_zero, Int.add_zero, ge_iff_le, gt_iff_lt, Option.isNone_none, Option.isNone_some, List.nil_append, List.append_nil, Bool.and_true, Bool.and_self, SB, Int.reducePow, hQ, hmd1, hks1, hQ1, getE h1]
    (first | with_reducible refine if_d _ ?_ ?_ | refine if_i _ ?_ ?_) <;> intro h2
    · simp +decide (maxSteps := 20000000) (disch := omega) only [↓SBK, ↓SBK2, SAU, SGs, SD, S1, S2, S3, SE, SC, SO, ST, SF, SK, bytes_len, bytes_get, Nat.reduceEqDiff, Nat.reduceAdd, Nat.reduceMul, Nat.reduceSub, ↓reduceIte, Int.reduceNeg, Int.reduceToNat, hmd, hks, Bool.beq_eq_decide_eq, Int.natCast_zero, Int.add_zero, ge_iff_le, gt_iff_lt, Option.isNone_none, Option.isNone_some, List.nil_append, List.append_nil, Bool.and_true, Bool.and_self, SB, Int.reducePow, hQ, hmd1, hks1, hQ1]
      exact ⟨(i + 1, n + 1), rfl, ⟨by simp only; omega, by simp only; rw [u, ← g2, if_pos h2], by simp only; omega⟩, by simp only; omega⟩
    · simp +decide (maxSteps := 20000000) (disch := omega) only [↓SBK, ↓SBK2, SAU, SGs, SD, S1, S2, S3, SE, SC, SO, ST, SF, SK, bytes_len, bytes_get, Nat.reduceEqDiff, Nat.reduceAdd, Nat.reduceMul, Nat.reduceSub, ↓reduceIte, Int.reduceNeg, Int.reduceToNat, hmd, hks, Bool.beq_eq_decide_eq, Int.natCast_zero, Int.add_zero, ge_iff_le, gt_iff_lt, Option.isNone_none, Option.isNone_some, List.nil_append, List.append_nil, Bool.and_true, Bool.and_self, SB, Int.reducePow, hQ, hmd1, hks1, hQ1]
      exact ⟨(i + 1, n), rfl, ⟨by simp only; omega, by simp only; rw [u, ← g2, if_neg (by simp [h2])]; rfl, by simp only; omega⟩, by simp only; omega⟩
  · obtain rfl : i = b.pages.length := by omega
    rw [List.take_length] at g2
    simp +decide (maxSteps := 20000000) (disch := omega) only [↓SBK, ↓SBK2, SAU, SGs, SD, S1, S2, S3, SE, SC, SO, ST, SF, SK, bytes_len, bytes_get, Nat.reduceEqDiff, Nat.reduceAdd, Nat.reduceMul, Nat.reduceSub, ↓reduceIte, Int.reduceNeg, Int.reduceToNat, hmd, hks, Bool.beq_eq_decide_eq, Int.natCast_zero, Int.add_zero, ge_iff_le, gt_iff_lt, Option.isNone_none, Option.isNone_some, List.nil_append, List.append_nil, Bool.and_true, Bool.and_self, SB, Int.reducePow, hQ, hmd1, hks1, hQ1, g2]
end Go.Proofs.Ytliklgcfdgdigaa.Awp

namespace Go.Proofs.Ytliklgcfdgdigaa.Awp
open Go.Proofs
set_option linter.unusedSimpArgs false
set_option linter.unusedVariables false
set_option maxRecDepth 100000
set_option maxHeartbeats 20000000

theorem s_isBlock (c : Chip) (k : Int) (hl : c.sz < 2 ^ 40) : Spec Try.prog 139 [c.x, .int .i64 k] (.bool (inR k 0 ((c.blocks.length : Nat) - 1))) [.undef, .undef] := by
  simp only [Chip.sz, szM] at hl
  refine spec_C hmx p_I_isBlock [] 23 [] ⟨Nat.le_of_ble_eq_true rfl, Nat.le_of_ble_eq_true rfl⟩ rfl rfl ?_
  intro w hP hmd hks hQ
  unfold c_I_isBlock
  simp +decide (maxSteps := 20000000) (disch := omega) only [↓SBK, ↓SBK2, SAU, SGs, SD, S1, S2, S3, SE, SC, SO, ST, SF, SK, bytes_len, bytes_get, Nat.reduceEqDiff, Nat.reduceAdd, Nat.reduceMul, Nat.reduceSub, ↓reduceIte, Int.reduceNeg, Int.reduceToNat, hmd, hks, Bool.beq_eq_decide_eq, Int.natCast_zero, Int.add_zero, ge_iff_le, gt_iff_lt, Option.isNone_none, Option.isNone_some, List.nil_append, List.append_nil, Bool.and_true, Bool.and_self, SB, Int.reducePow, hQ]
  (first | refine call_i hP (s_from k 0 ((c.blocks.length : Nat) - 1)) (.inl ⟨rfl, fun _ hx => nomatch hx⟩) ?_ | refine callH_i hP (s_from k 0 ((c.blocks.length : Nat) - 1)) (.inl ⟨rfl, fun _ hx => nomatch hx⟩) ?_)
  simp +decide (maxSteps := 20000000) (disch := omega) only [↓SBK, ↓SBK2, SAU, SGs, SD, S1, S2, S3, SE, SC, SO, ST, SF, SK, bytes_len, bytes_get, Nat.reduceEqDiff, Nat.reduceAdd, Nat.reduceMul, Nat.reduceSub, ↓reduceIte, Int.reduceNeg, Int.reduceToNat, hmd, hks, Bool.beq_eq_decide_eq, Int.natCast_zero, Int.add_zero, ge_iff_le, gt_iff_lt, Option.isNone_none, Option.isNone_some, List.nil_append, List.append_nil, Bool.and_true, Bool.and_self, SB, Int.reducePow, hQ]
/-- the block of a number, if there is one -/
def blk? (c : Chip) (k : Int) : Option Block := if 0 ≤ k then c.blocks[k.toNat]? else none
theorem blk_some {c : Chip} {k : Int} (h : 0 ≤ k) (h' : k < (c.blocks.length : Nat)) : blk? c k = some (c.blocks[k.toNat]'(by omega)) := by
  rw [blk?, if_pos h, List.getElem?_eq_getElem]
theorem blk_none {c : Chip} {k : Int} (h : ¬ (0 ≤ k ∧ k < (c.blocks.length : Nat))) : blk? c k = none := by
  unfold blk?
  split
  · rw [List.getElem?_eq_none]; omega
  · rfl
def nextPage (c : Chip) (k : Int) : Int := match blk? c k with | some b => (usedN b.pages : Nat) | none => -1
def pg7 : Option Page → List (Nat × AV)
  | none => [(5007, .undef), (7, .undef)]
  | some p => [(5007, .box [.bool p.used, .ext 1 (bytesR p.b)]), (7, .ref 5007 0 [] ⟨0, 0, 0⟩)]
theorem sI_NextPage (c : Chip) (k : Int) (hl : c.sz < 2 ^ 40) : Spec Try.prog 65 [c.x, .int .i64 k] (.int .i64 (nextPage c k)) [.undef, .undef] := by
  have hl' := hl
  simp only [Chip.sz, szM] at hl
  refine spec_C hmx p_I_NextPage [] 917687 [] ⟨Nat.le_of_ble_eq_true rfl, Nat.le_of_ble_eq_true rfl⟩ rfl rfl ?_
  intro w hP hmd hks hQ
  unfold c_I_NextPage
  simp +decide (maxSteps := 20000000) (disch := omega) only [↓SBK, ↓SBK2, SAU, SGs, SD, S1, S2, S3, SE, SC, SO, ST, SF, SK, bytes_len, bytes_get, Nat.reduceEqDiff, Nat.reduceAdd, Nat.reduceMul, Nat.reduceSub, ↓reduceIte, Int.reduceNeg, Int.reduceToNat, hmd, hks, Bool.beq_eq_decide_eq, Int.natCast_zero, Int.add_zero, ge_iff_le, gt_iff_lt, Option.isNone_none, Option.isNone_some, List.nil_append, List.append_nil, Bool.and_true, Bool.and_self, SB, Int.reducePow, hQ]
  (first | refine call_i hP (s_isBlock c k hl') (.inl ⟨rfl, fun _ hx => nomatch hx⟩) ?_ | refine callH_i hP (s_isBlock c k hl') (.inl ⟨rfl, fun _ hx => nomatch hx⟩) ?_)
  simp +decide (maxSteps := 20000000) (disch := omega) only [↓SBK, ↓SBK2, SAU, SGs, SD, S1, S2, S3, SE, SC, SO, ST, SF, SK, bytes_len, bytes_get, Nat.reduceEqDiff, Nat.reduceAdd, Nat.reduceMul, Nat.reduceSub, ↓reduceIte, Int.reduceNeg, Int.reduceToNat, hmd, hks, Bool.beq_eq_decide_eq, Int.natCast_zero, Int.add_zero, ge_iff_le, gt_iff_lt, Option.isNone_none, Option.isNone_some, List.nil_append, List.append_nil, Bool.and_true, Bool.and_self, SB, Int.reducePow, hQ]
  (first | with_reducible refine if_d _ ?_ ?_ | refine if_i _ ?_ ?_) <;> intro h1
  · have h1' := (inR_iff _ _ _).1 h1
    obtain ⟨j, rfl⟩ : ∃ j : Nat, k = j := ⟨k.toNat, by omega⟩
    have hj : (j : Int) < (c.blocks.length : Nat) := by omega
    have hz := sum_get Block.sz (l := c.blocks) (i := j) (by omega)
    have hp : (c.blocks[j]'(by omega)).pages.length ≤ (c.blocks[j]'(by omega)).sz := by simp only [Block.sz, szM]; omega
    simp +decide (maxSteps := 20000000) (disch := omega) only [↓SBK, ↓SBK2, SAU, SGs, SD, S1, S2, S3, SE, SC, SO, ST, SF, SK, bytes_len, bytes_get, Nat.reduceEqDiff, Nat.reduceAdd, Nat.reduceMul, Nat.reduceSub, ↓reduceIte, Int.reduceNeg, Int.reduceToNat, hmd, hks, Bool.beq_eq_decide_eq, Int.natCast_zero, Int.add_zero, ge_iff_le, gt_iff_lt, Option.isNone_none, Option.isNone_some, List.nil_append, List.append_nil, Bool.and_true, Bool.and_self, SB, Int.reducePow, hQ, getE hj]
    generalize hP0 : (c.blocks[j]'(by omega)).pages = P at *
    have hfin : nextPage c (j : Int) = ((usedN P : Nat) : Int) := by rw [nextPage, blk_some (by omega) hj]; simp [hP0]
    rw [mkV_pads _ _ [5007, 7]]
    simp only [pads, List.cons_append, List.nil_append]
    refine loop_i (fun s : Nat × Nat × Option Page => (19, .int .i64 (s.1 : Nat)) :: (5, .int .i64 (s.2.1 : Nat)) :: pg7 s.2.2) (fun s => s.1 ≤ P.length ∧ s.2.1 = usedN (P.take s.1) ∧ s.2.1 ≤ s.1) (fun s => P.length - s.1) ((0, 0, none)) hP hmd hks (rfl) (by simp [usedN]) ?_
    rintro ⟨i, n, _ | pg⟩ ⟨g1, g2, g3⟩ w1 hP1 hmd1 hks1 hQ1
    all_goals
      simp only at g1 g2 g3
      simp +decide (maxSteps := 20000000) (disch := omega) only [↓SBK, ↓SBK2, SAU, SGs, SD, S1, S2, S3, SE, SC, SO, ST, SF, SK, bytes_len, bytes_get, Nat.reduceEqDiff, Nat.reduceAdd, Nat.reduceMul, Nat.reduceSub, ↓reduceIte, Int.reduceNeg, Int.reduceToNat, hmd, hks, Bool.beq_eq_decide_eq, Int.natCast_zero, Int.add_zero, ge_iff_le, gt_iff_lt, Option.isNone_none, Option.isNone_some, List.nil_append, List.append_nil, Bool.and_true, Bool.and_self, SB, Int.reducePow, hQ, hmd1, hks1, hQ1, pg7]
      (first | with_reducible refine if_d _ ?_ ?_ | refine if_i _ ?_ ?_) <;> intro h2
      · have u := usedN_take P i (by omega)
        simp +decide (maxSteps := 20000000) (disch := omega) only [↓SBK, ↓SBK2, SAU, SGs, SD, S1, S2, S3, SE, SC, SO, ST, SF, SK, bytes_len, bytes_get, Nat.reduceEqDiff, Nat.reduceAdd, Nat.reduceMul, Nat.reduceSub, ↓reduceIte, Int.reduceNeg, Int.reduceToNat, hmd, hks, Bool.beq_eq_decide_eq, Int.natCast_zero, Int.add_zero, ge_iff_le, gt_iff_lt, Option.isNone_none, Option.isNone_some, List.nil_append, List.append_nil, Bool.and_true, Bool.and_self, SB, Int.reducePow, hQ, hmd1, hks1, hQ1, getE h2, pg7]
        (first | with_reducible refine if_d _ ?_ ?_ | refine if_i _ ?_ ?_) <;> intro h3
        · simp +decide (maxSteps := 20000000) (disch := omega) only [↓SBK, ↓SBK2, SAU, SGs, SD, S1, S2, S3, SE, SC, SO, ST, SF, SK, bytes_len, bytes_get, Nat.reduceEqDiff, Nat.reduceAdd, Nat.reduceMul, Nat.reduceSub, ↓reduceIte, Int.reduceNeg, Int.reduceToNat, hmd, hks, Bool.beq_eq_decide_eq, Int.natCast_zero, Int.add_zero, ge_iff_le, gt_iff_lt, Option.isNone_none, Option.isNone_some, List.nil_append, List.append_nil, Bool.and_true, Bool.and_self, SB, Int.reducePow, hQ, hmd1, hks1, hQ1, pg7]
          exact ⟨(i + 1, n + 1, some (P[i]'(by omega))), rfl, ⟨by simp only; omega, by simp only; rw [u, ← g2, if_pos h3], by simp only; omega⟩, by simp only; omega⟩
        · simp +decide (maxSteps := 20000000) (disch := omega) only [↓SBK, ↓SBK2, SAU, SGs, SD, S1, S2, S3, SE, SC, SO, ST, SF, SK, bytes_len, bytes_get, Nat.reduceEqDiff, Nat.reduceAdd, Nat.reduceMul, Nat.reduceSub, ↓reduceIte, Int.reduceNeg, Int.reduceToNat, hmd, hks, Bool.beq_eq_decide_eq, Int.natCast_zero, Int.add_zero, ge_iff_le, gt_iff_lt, Option.isNone_none, Option.isNone_some, List.nil_append, List.append_nil, Bool.and_true, Bool.and_self, SB, Int.reducePow, hQ, hmd1, hks1, hQ1, pg7]
          exact ⟨(i + 1, n, some (P[i]'(by omega))), rfl, ⟨by simp only; omega, by simp only; rw [u, ← g2, if_neg (by simp [h3])]; rfl, by simp only; omega⟩, by simp only; omega⟩
      · obtain rfl : i = P.length := by omega
        rw [List.take_length] at g2
        simp +decide (maxSteps := 20000000) (disch := omega) only [↓SBK, ↓SBK2, SAU, SGs, SD, S1, S2, S3, SE, SC, SO, ST, SF, SK, bytes_len, bytes_get, Nat.reduceEqDiff, Nat.reduceAdd, Nat.reduceMul, Nat.reduceSub, ↓reduceIte, Int.reduceNeg, Int.reduceToNat, hmd, hks, Bool.beq_eq_decide_eq, Int.natCast_zero, Int.add_zero, ge_iff_le, gt_iff_lt, Option.isNone_none, Option.isNone_some, List.nil_append, List.append_nil, Bool.and_true, Bool.and_self, SB, Int.reducePow, hQ, hmd1, hks1, hQ1, pg7, g2, hfin]
  · simp only [h1, Bool.not_true, Bool.not_false]
    simp +decide (maxSteps := 20000000) (disch := omega) only [↓SBK, ↓SBK2, SAU, SGs, SD, S1, S2, S3, SE, SC, SO, ST, SF, SK, bytes_len, bytes_get, Nat.reduceEqDiff, Nat.reduceAdd, Nat.reduceMul, Nat.reduceSub, ↓reduceIte, Int.reduceNeg, Int.reduceToNat, hmd, hks, Bool.beq_eq_decide_eq, Int.natCast_zero, Int.add_zero, ge_iff_le, gt_iff_lt, Option.isNone_none, Option.isNone_some, List.nil_append, List.append_nil, Bool.and_true, Bool.and_self, SB, Int.reducePow, hQ]
    rw [nextPage, blk_none (fun h => by have := (inR_iff k 0 ((c.blocks.length : Nat) - 1)).2 (by omega); rw [h1] at this; cases this)]

end Go.Proofs.Ytliklgcfdgdigaa.Awp

namespace Go.Proofs.Ytliklgcfdgdigaa.Awp
open Go.Proofs
set_option linter.unusedSimpArgs false
set_option linter.unusedVariables false
set_option maxRecDepth 100000
set_option maxHeartbeats 20000000

/-- a page is right where it stands -/
def okP (P : List Page) (i : Nat) : Prop := ∀ p, P[i]? = some p → p.b.length ≤ 400 ∧ (p.used = false → p.b.length = 0) ∧ (0 < i → p.used = true → ∃ q, P[i - 1]? = some q ∧ q.used = true)
def okB (b : Block) : Prop := b.pages.length = 8 ∧ inR b.wear 0 100000 = true ∧ ∀ i, i < b.pages.length → okP b.pages i
def okC (c : Chip) : Prop := (∀ b ∈ c.blocks, okB b) ∧ inR (c.blocks.length : Nat) 3 24 = true
open Classical in
noncomputable def blkOk (b : Block) : Bool := decide (okB b)
open Classical in
noncomputable def chipOk (c : Chip) : Bool := decide (okC c)
end Go.Proofs.Ytliklgcfdgdigaa.Awp

namespace Go.Proofs.Ytliklgcfdgdigaa.Awp
open Go.Proofs
set_option linter.unusedSimpArgs false
set_option linter.unusedVariables false
set_option maxRecDepth 100000
set_option maxHeartbeats 20000000

end Go.Proofs.Ytliklgcfdgdigaa.Awp

namespace Go.Proofs.Ytliklgcfdgdigaa.Awp
open Go.Proofs
set_option linter.unusedSimpArgs false
set_option linter.unusedVariables false
set_option maxRecDepth 100000
set_option maxHeartbeats 20000000

end Go.Proofs.Ytliklgcfdgdigaa.Awp

namespace Go.Proofs.Ytliklgcfdgdigaa.Awp
open Go.Proofs
set_option linter.unusedSimpArgs false
set_option linter.unusedVariables false
set_option maxRecDepth 100000
set_option maxHeartbeats 20000000

end Go.Proofs.Ytliklgcfdgdigaa.Awp

namespace Go.Proofs.Ytliklgcfdgdigaa.Awp
open Go.Proofs
set_option linter.unusedSimpArgs false
set_option linter.unusedVariables false
set_option maxRecDepth 100000
set_option maxHeartbeats 20000000

end Go.Proofs.Ytliklgcfdgdigaa.Awp

namespace Go.Proofs.Ytliklgcfdgdigaa.Awp
open Go.Proofs
set_option linter.unusedSimpArgs false
set_option linter.unusedVariables false
set_option maxRecDepth 100000
set_option maxHeartbeats 20000000

end Go.Proofs.Ytliklgcfdgdigaa.Awp

namespace Go.Proofs.Ytliklgcfdgdigaa.Awp
open Go.Proofs
set_option linter.unusedSimpArgs false
set_option linter.unusedVariables false
set_option maxRecDepth 100000
set_option maxHeartbeats 20000000

end Go.Proofs.Ytliklgcfdgdigaa.Awp

namespace Go.Proofs.Ytliklgcfdgdigaa.Awp
open Go.Proofs
set_option linter.unusedSimpArgs false
set_option linter.unusedVariables false
set_option maxRecDepth 100000
set_option maxHeartbeats 20000000

noncomputable def mayCode (c : Chip) (k : Int) (full : Bool) : Int := if chipOk c = true then (match blk? c k with | none => 1 | some b => if b.bad = true then 2 else if full = true then 5 else 0) else 1
def fullE (c : Chip) (k : Int) : Bool := match blk? c k with | some b => decide (100000 ≤ b.wear) | none => false
noncomputable def eraseCode (c : Chip) (k : Int) : Int := mayCode c k (fullE c k)
end Go.Proofs.Ytliklgcfdgdigaa.Awp

namespace Go.Proofs.Ytliklgcfdgdigaa.Awp
open Go.Proofs
set_option linter.unusedSimpArgs false
set_option linter.unusedVariables false
set_option maxRecDepth 100000
set_option maxHeartbeats 20000000

def erB (b : Block) : Block := { pages := List.replicate 8 zPage, wear := b.wear + 1, bad := b.bad }
noncomputable def eraseC (c : Chip) (k : Int) : Chip := if eraseCode c k = 0 then { blocks := c.blocks.modify k.toNat erB } else c
end Go.Proofs.Ytliklgcfdgdigaa.Awp

namespace Go.Proofs.Ytliklgcfdgdigaa.Awp
open Go.Proofs
set_option linter.unusedSimpArgs false
set_option linter.unusedVariables false
set_option maxRecDepth 100000
set_option maxHeartbeats 20000000

/-! ### faults -/
def prevF (l : List Fault) : Nat → Bool
  | 0 => true
  | m + 1 => match l[m]?, l[m + 1]? with
    | some q, some f => decide (q.at' < f.at')
    | _, _ => true
def faultOk (l : List Fault) (i : Nat) : Bool := match l[i]? with
  | some f => inR f.at' 0 100000 && (inR f.kind 1 2 && (inR f.keep 0 400 && prevF l i))
  | none => true
def faultsIn (l : List Fault) : Bool := (List.range l.length).all (faultOk l)
def faultsOk (l : List Fault) : Bool := faultsIn l && decide ((l.length : Int) ≤ 20)
end Go.Proofs.Ytliklgcfdgdigaa.Awp

namespace Go.Proofs.Ytliklgcfdgdigaa.Awp
open Go.Proofs
set_option linter.unusedSimpArgs false
set_option linter.unusedVariables false
set_option maxRecDepth 100000
set_option maxHeartbeats 20000000

noncomputable def devOk (d : Dev) : Bool := chipOk d.c && (inR d.ops 0 100000 && faultsOk d.faults)
end Go.Proofs.Ytliklgcfdgdigaa.Awp

namespace Go.Proofs.Ytliklgcfdgdigaa.Awp
open Go.Proofs
set_option linter.unusedSimpArgs false
set_option linter.unusedVariables false
set_option maxRecDepth 100000
set_option maxHeartbeats 20000000

/-! ### the fault of an operation; copies; new devices -/
end Go.Proofs.Ytliklgcfdgdigaa.Awp

namespace Go.Proofs.Ytliklgcfdgdigaa.Awp
open Go.Proofs
set_option linter.unusedSimpArgs false
set_option linter.unusedVariables false
set_option maxRecDepth 100000
set_option maxHeartbeats 20000000

end Go.Proofs.Ytliklgcfdgdigaa.Awp

namespace Go.Proofs.Ytliklgcfdgdigaa.Awp
open Go.Proofs
set_option linter.unusedSimpArgs false
set_option linter.unusedVariables false
set_option maxRecDepth 100000
set_option maxHeartbeats 20000000

def isFree (b : Block) : Bool := !b.bad && decide (((usedN b.pages : Nat) : Int) = 0)
def freeN (l : List Block) : Nat := l.countP isFree
theorem freeN_take (l : List Block) (i : Nat) (h : i < l.length) : freeN (l.take (i + 1)) = freeN (l.take i) + if isFree l[i] = true then 1 else 0 := by
  unfold freeN
  rw [List.take_succ_eq_append_getElem h, List.countP_append]
  congr 1
  simp [List.countP_cons]
theorem log_sz {l : Log} {n : Nat} (hs : l.sz < n) : l.d.c.sz < n := by
  have : l.sz = l.d.c.sz + l.d.faults.length := rfl
  omega
theorem chip_l {c : Chip} {n : Nat} (hs : c.sz < n) : c.blocks.length < n := by
  simp only [Chip.sz, szM] at hs; omega
theorem blk_s {c : Chip} {n i : Nat} (hs : c.sz < n) (h : i < c.blocks.length) : (c.blocks[i]).sz < n := by
  have := sum_get Block.sz (l := c.blocks) (i := i) h
  simp only [Chip.sz, szM] at hs; omega
theorem nextPage_at {c : Chip} {i : Nat} (h : i < c.blocks.length) : nextPage c i = ((usedN (c.blocks[i]).pages : Nat) : Int) := by
  rw [nextPage, blk_some (by omega) (by omega)]; rfl
theorem sS_FreeBlocks (l : Log) (hs : l.sz < 2 ^ 40) : Spec Try.prog 97 [l.x] (.int .i64 (freeN l.d.c.blocks : Nat)) [.undef] := by
  have hc := log_sz hs
  have hl := chip_l hc
  refine spec_C hmx p_S_FreeBlocks [] 31 [] ⟨Nat.le_of_ble_eq_true rfl, Nat.le_of_ble_eq_true rfl⟩ rfl rfl ?_
  intro w hP hmd hks hQ
  unfold c_S_FreeBlocks
  simp +decide (maxSteps := 20000000) (disch := omega) only [↓SBK, ↓SBK2, SAU, SGs, SD, S1, S2, S3, SE, SC, SO, ST, SF, SK, bytes_len, bytes_get, Nat.reduceEqDiff, Nat.reduceAdd, Nat.reduceMul, Nat.reduceSub, ↓reduceIte, Int.reduceNeg, Int.reduceToNat, hmd, hks, Bool.beq_eq_decide_eq, Int.natCast_zero, Int.add_zero, ge_iff_le, gt_iff_lt, Option.isNone_none, Option.isNone_some, List.nil_append, List.append_nil, Bool.and_true, Bool.and_self, SB, Int.reducePow, hQ]
  refine LH_D [] ?_
  simp +decide (maxSteps := 20000000) (disch := omega) only [↓SBK, ↓SBK2, SAU, SGs, SD, S1, S2, S3, SE, SC, SO, ST, SF, SK, bytes_len, bytes_get, Nat.reduceEqDiff, Nat.reduceAdd, Nat.reduceMul, Nat.reduceSub, ↓reduceIte, Int.reduceNeg, Int.reduceToNat, hmd, hks, Bool.beq_eq_decide_eq, Int.natCast_zero, Int.add_zero, ge_iff_le, gt_iff_lt, Option.isNone_none, Option.isNone_some, List.nil_append, List.append_nil, Bool.and_true, Bool.and_self, SB, Int.reducePow, hQ]
  refine loop_d [] (fun s : Nat × Nat => [(4, .int .i64 (s.1 : Nat)), (3, .int .i64 (s.2 : Nat))]) (fun s => s.1 ≤ l.d.c.blocks.length ∧ s.2 = freeN (l.d.c.blocks.take s.1) ∧ s.2 ≤ s.1) (fun s => l.d.c.blocks.length - s.1) ((0, 0)) hP hmd hks (rfl) (by simp [freeN]) ?_
  rintro ⟨i, n⟩ ⟨g1, g2, g3⟩ w1 hP1 hmd1 hks1 hQ1
  simp +decide (maxSteps := 20000000) (disch := omega) only [↓SBK, ↓SBK2, SAU, SGs, SD, S1, S2, S3, SE, SC, SO, ST, SF, SK, bytes_len, bytes_get, Nat.reduceEqDiff, Nat.reduceAdd, Nat.reduceMul, Nat.reduceSub, ↓reduceIte, Int.reduceNeg, Int.reduceToNat, hmd, hks, Bool.beq_eq_decide_eq, Int.natCast_zero, Int.add_zero, ge_iff_le, gt_iff_lt, Option.isNone_none, Option.isNone_some, List.nil_append, List.append_nil, Bool.and_true, Bool.and_self, SB, Int.reducePow, hQ, hmd1, hks1, hQ1]
  simp only at g1 g2 g3
  (first | with_reducible refine if_d _ ?_ ?_ | refine if_i _ ?_ ?_) <;> intro h1
  · have u := freeN_take l.d.c.blocks i (by omega)
    cases hb : (l.d.c.blocks[i]'(by omega)).bad with
    | true =>
      simp +decide (maxSteps := 20000000) (disch := omega) only [↓SBK, ↓SBK2, SAU, SGs, SD, S1, S2, S3, SE, SC, SO, ST, SF, SK, bytes_len, bytes_get, Nat.reduceEqDiff, Nat.reduceAdd, Nat.reduceMul, Nat.reduceSub, ↓reduceIte, Int.reduceNeg, Int.reduceToNat, hmd, hks, Bool.beq_eq_decide_eq, Int.natCast_zero, Int.add_zero, ge_iff_le, gt_iff_lt, Option.isNone_none, Option.isNone_some, List.nil_append, List.append_nil, Bool.and_true, Bool.and_self, SB, Int.reducePow, hQ, hmd1, hks1, hQ1, getE h1, hb]
      exact ⟨(i + 1, n), rfl, ⟨by simp only; omega, by simp only; rw [u, ← g2, if_neg (by simp [isFree, hb])]; rfl, by simp only; omega⟩, by simp only; omega⟩
    | false =>
      have hN := sS_l10Next (l.d.c.blocks[i]'(by omega)) (blk_s hc (by omega))
      simp only [Block.x, hb] at hN
      cases hu : decide (((usedN (l.d.c.blocks[i]'(by omega)).pages : Nat) : Int) = 0) with
      | false =>
        simp +decide (maxSteps := 20000000) (disch := omega) only [↓SBK, ↓SBK2, SAU, SGs, SD, S1, S2, S3, SE, SC, SO, ST, SF, SK, bytes_len, bytes_get, Nat.reduceEqDiff, Nat.reduceAdd, Nat.reduceMul, Nat.reduceSub, ↓reduceIte, Int.reduceNeg, Int.reduceToNat, hmd, hks, Bool.beq_eq_decide_eq, Int.natCast_zero, Int.add_zero, ge_iff_le, gt_iff_lt, Option.isNone_none, Option.isNone_some, List.nil_append, List.append_nil, Bool.and_true, Bool.and_self, SB, Int.reducePow, hQ, hmd1, hks1, hQ1, getE h1, hb]
        (first | refine call_i hP1 (hN) (.inl ⟨rfl, fun _ hx => nomatch hx⟩) ?_ | refine callH_i hP1 (hN) (.inl ⟨rfl, fun _ hx => nomatch hx⟩) ?_)
        simp +decide (maxSteps := 20000000) (disch := omega) only [↓SBK, ↓SBK2, SAU, SGs, SD, S1, S2, S3, SE, SC, SO, ST, SF, SK, bytes_len, bytes_get, Nat.reduceEqDiff, Nat.reduceAdd, Nat.reduceMul, Nat.reduceSub, ↓reduceIte, Int.reduceNeg, Int.reduceToNat, hmd, hks, Bool.beq_eq_decide_eq, Int.natCast_zero, Int.add_zero, ge_iff_le, gt_iff_lt, Option.isNone_none, Option.isNone_some, List.nil_append, List.append_nil, Bool.and_true, Bool.and_self, SB, Int.reducePow, hQ, hmd1, hks1, hQ1, hu]
        exact ⟨(i + 1, n), rfl, ⟨by simp only; omega, by simp only; rw [u, ← g2, if_neg (by rw [isFree, hb, hu]; simp)]; rfl, by simp only; omega⟩, by simp only; omega⟩
      | true =>
        simp +decide (maxSteps := 20000000) (disch := omega) only [↓SBK, ↓SBK2, SAU, SGs, SD, S1, S2, S3, SE, SC, SO, ST, SF, SK, bytes_len, bytes_get, Nat.reduceEqDiff, Nat.reduceAdd, Nat.reduceMul, Nat.reduceSub, ↓reduceIte, Int.reduceNeg, Int.reduceToNat, hmd, hks, Bool.beq_eq_decide_eq, Int.natCast_zero, Int.add_zero, ge_iff_le, gt_iff_lt, Option.isNone_none, Option.isNone_some, List.nil_append, List.append_nil, Bool.and_true, Bool.and_self, SB, Int.reducePow, hQ, hmd1, hks1, hQ1, getE h1, hb]
        (first | refine call_i hP1 (hN) (.inl ⟨rfl, fun _ hx => nomatch hx⟩) ?_ | refine callH_i hP1 (hN) (.inl ⟨rfl, fun _ hx => nomatch hx⟩) ?_)
        simp +decide (maxSteps := 20000000) (disch := omega) only [↓SBK, ↓SBK2, SAU, SGs, SD, S1, S2, S3, SE, SC, SO, ST, SF, SK, bytes_len, bytes_get, Nat.reduceEqDiff, Nat.reduceAdd, Nat.reduceMul, Nat.reduceSub, ↓reduceIte, Int.reduceNeg, Int.reduceToNat, hmd, hks, Bool.beq_eq_decide_eq, Int.natCast_zero, Int.add_zero, ge_iff_le, gt_iff_lt, Option.isNone_none, Option.isNone_some, List.nil_append, List.append_nil, Bool.and_true, Bool.and_self, SB, Int.reducePow, hQ, hmd1, hks1, hQ1, hu]
        exact ⟨(i + 1, n + 1), rfl, ⟨by simp only; omega, by simp only; rw [u, ← g2, if_pos (by rw [isFree, hb, hu]; rfl)], by simp only; omega⟩, by simp only; omega⟩
  · obtain rfl : i = l.d.c.blocks.length := by omega
    rw [List.take_length] at g2
    simp +decide (maxSteps := 20000000) (disch := omega) only [↓SBK, ↓SBK2, SAU, SGs, SD, S1, S2, S3, SE, SC, SO, ST, SF, SK, bytes_len, bytes_get, Nat.reduceEqDiff, Nat.reduceAdd, Nat.reduceMul, Nat.reduceSub, ↓reduceIte, Int.reduceNeg, Int.reduceToNat, hmd, hks, Bool.beq_eq_decide_eq, Int.natCast_zero, Int.add_zero, ge_iff_le, gt_iff_lt, Option.isNone_none, Option.isNone_some, List.nil_append, List.append_nil, Bool.and_true, Bool.and_self, SB, Int.reducePow, hQ, hmd1, hks1, hQ1, g2]
theorem sI_FreeBlocks (l : Log) (hs : l.sz < 2 ^ 40) : Spec Try.prog 99 [l.x] (.int .i64 (freeN l.d.c.blocks : Nat)) [.undef] := by
  have hc := log_sz hs
  have hl := chip_l hc
  refine spec_C hmx p_I_FreeBlocks [] 3647 [] ⟨Nat.le_of_ble_eq_true rfl, Nat.le_of_ble_eq_true rfl⟩ rfl rfl ?_
  intro w hP hmd hks hQ
  unfold c_I_FreeBlocks
  simp +decide (maxSteps := 20000000) (disch := omega) only [↓SBK, ↓SBK2, SAU, SGs, SD, S1, S2, S3, SE, SC, SO, ST, SF, SK, bytes_len, bytes_get, Nat.reduceEqDiff, Nat.reduceAdd, Nat.reduceMul, Nat.reduceSub, ↓reduceIte, Int.reduceNeg, Int.reduceToNat, hmd, hks, Bool.beq_eq_decide_eq, Int.natCast_zero, Int.add_zero, ge_iff_le, gt_iff_lt, Option.isNone_none, Option.isNone_some, List.nil_append, List.append_nil, Bool.and_true, Bool.and_self, SB, Int.reducePow, hQ]
  refine LH_D [4, 5, 5005] ?_
  simp +decide (maxSteps := 20000000) (disch := omega) only [↓SBK, ↓SBK2, SAU, SGs, SD, S1, S2, S3, SE, SC, SO, ST, SF, SK, bytes_len, bytes_get, Nat.reduceEqDiff, Nat.reduceAdd, Nat.reduceMul, Nat.reduceSub, ↓reduceIte, Int.reduceNeg, Int.reduceToNat, hmd, hks, Bool.beq_eq_decide_eq, Int.natCast_zero, Int.add_zero, ge_iff_le, gt_iff_lt, Option.isNone_none, Option.isNone_some, List.nil_append, List.append_nil, Bool.and_true, Bool.and_self, SB, Int.reducePow, hQ]
  refine loop_d [4, 5, 5005] (fun s : Nat × Nat => [(11, .int .i64 (s.1 : Nat)), (3, .int .i64 (s.2 : Nat))]) (fun s => s.1 ≤ l.d.c.blocks.length ∧ s.2 = freeN (l.d.c.blocks.take s.1) ∧ s.2 ≤ s.1) (fun s => l.d.c.blocks.length - s.1) ((0, 0)) hP hmd hks (rfl) (by simp [freeN]) ?_
  rintro ⟨i, n⟩ ⟨g1, g2, g3⟩ w1 hP1 hmd1 hks1 hQ1
  simp +decide (maxSteps := 20000000) (disch := omega) only [↓SBK, ↓SBK2, SAU, SGs, SD, S1, S2, S3, SE, SC, SO, ST, SF, SK, bytes_len, bytes_get, Nat.reduceEqDiff, Nat.reduceAdd, Nat.reduceMul, Nat.reduceSub, ↓reduceIte, Int.reduceNeg, Int.reduceToNat, hmd, hks, Bool.beq_eq_decide_eq, Int.natCast_zero, Int.add_zero, ge_iff_le, gt_iff_lt, Option.isNone_none, Option.isNone_some, List.nil_append, List.append_nil, Bool.and_true, Bool.and_self, SB, Int.reducePow, hQ, hmd1, hks1, hQ1]
  simp only at g1 g2 g3
  (first | with_reducible refine if_d _ ?_ ?_ | refine if_i _ ?_ ?_) <;> intro h1
  · have u := freeN_take l.d.c.blocks i (by omega)
    have hn := nextPage_at (c := l.d.c) (i := i) (by omega)
    cases hb : (l.d.c.blocks[i]'(by omega)).bad with
    | true =>
      simp +decide (maxSteps := 20000000) (disch := omega) only [↓SBK, ↓SBK2, SAU, SGs, SD, S1, S2, S3, SE, SC, SO, ST, SF, SK, bytes_len, bytes_get, Nat.reduceEqDiff, Nat.reduceAdd, Nat.reduceMul, Nat.reduceSub, ↓reduceIte, Int.reduceNeg, Int.reduceToNat, hmd, hks, Bool.beq_eq_decide_eq, Int.natCast_zero, Int.add_zero, ge_iff_le, gt_iff_lt, Option.isNone_none, Option.isNone_some, List.nil_append, List.append_nil, Bool.and_true, Bool.and_self, SB, Int.reducePow, hQ, hmd1, hks1, hQ1, getE h1, hb]
      exact ⟨(i + 1, n), rfl, ⟨by simp only; omega, by simp only; rw [u, ← g2, if_neg (by simp [isFree, hb])]; rfl, by simp only; omega⟩, by simp only; omega⟩
    | false =>
      cases hu : decide (((usedN (l.d.c.blocks[i]'(by omega)).pages : Nat) : Int) = 0) with
      | false =>
        simp +decide (maxSteps := 20000000) (disch := omega) only [↓SBK, ↓SBK2, SAU, SGs, SD, S1, S2, S3, SE, SC, SO, ST, SF, SK, bytes_len, bytes_get, Nat.reduceEqDiff, Nat.reduceAdd, Nat.reduceMul, Nat.reduceSub, ↓reduceIte, Int.reduceNeg, Int.reduceToNat, hmd, hks, Bool.beq_eq_decide_eq, Int.natCast_zero, Int.add_zero, ge_iff_le, gt_iff_lt, Option.isNone_none, Option.isNone_some, List.nil_append, List.append_nil, Bool.and_true, Bool.and_self, SB, Int.reducePow, hQ, hmd1, hks1, hQ1, getE h1, hb]
        (first | refine call_i hP1 (sI_NextPage l.d.c i hc) (.inl ⟨rfl, fun _ hx => nomatch hx⟩) ?_ | refine callH_i hP1 (sI_NextPage l.d.c i hc) (.inl ⟨rfl, fun _ hx => nomatch hx⟩) ?_)
        simp +decide (maxSteps := 20000000) (disch := omega) only [↓SBK, ↓SBK2, SAU, SGs, SD, S1, S2, S3, SE, SC, SO, ST, SF, SK, bytes_len, bytes_get, Nat.reduceEqDiff, Nat.reduceAdd, Nat.reduceMul, Nat.reduceSub, ↓reduceIte, Int.reduceNeg, Int.reduceToNat, hmd, hks, Bool.beq_eq_decide_eq, Int.natCast_zero, Int.add_zero, ge_iff_le, gt_iff_lt, Option.isNone_none, Option.isNone_some, List.nil_append, List.append_nil, Bool.and_true, Bool.and_self, SB, Int.reducePow, hQ, hmd1, hks1, hQ1, hn, hu]
        exact ⟨(i + 1, n), rfl, ⟨by simp only; omega, by simp only; rw [u, ← g2, if_neg (by rw [isFree, hb, hu]; simp)]; rfl, by simp only; omega⟩, by simp only; omega⟩
      | true =>
        simp +decide (maxSteps := 20000000) (disch := omega) only [↓SBK, ↓SBK2, SAU, SGs, SD, S1, S2, S3, SE, SC, SO, ST, SF, SK, bytes_len, bytes_get, Nat.reduceEqDiff, Nat.reduceAdd, Nat.reduceMul, Nat.reduceSub, ↓reduceIte, Int.reduceNeg, Int.reduceToNat, hmd, hks, Bool.beq_eq_decide_eq, Int.natCast_zero, Int.add_zero, ge_iff_le, gt_iff_lt, Option.isNone_none, Option.isNone_some, List.nil_append, List.append_nil, Bool.and_true, Bool.and_self, SB, Int.reducePow, hQ, hmd1, hks1, hQ1, getE h1, hb]
        (first | refine call_i hP1 (sI_NextPage l.d.c i hc) (.inl ⟨rfl, fun _ hx => nomatch hx⟩) ?_ | refine callH_i hP1 (sI_NextPage l.d.c i hc) (.inl ⟨rfl, fun _ hx => nomatch hx⟩) ?_)
        simp +decide (maxSteps := 20000000) (disch := omega) only [↓SBK, ↓SBK2, SAU, SGs, SD, S1, S2, S3, SE, SC, SO, ST, SF, SK, bytes_len, bytes_get, Nat.reduceEqDiff, Nat.reduceAdd, Nat.reduceMul, Nat.reduceSub, ↓reduceIte, Int.reduceNeg, Int.reduceToNat, hmd, hks, Bool.beq_eq_decide_eq, Int.natCast_zero, Int.add_zero, ge_iff_le, gt_iff_lt, Option.isNone_none, Option.isNone_some, List.nil_append, List.append_nil, Bool.and_true, Bool.and_self, SB, Int.reducePow, hQ, hmd1, hks1, hQ1, hn, hu]
        exact ⟨(i + 1, n + 1), rfl, ⟨by simp only; omega, by simp only; rw [u, ← g2, if_pos (by rw [isFree, hb, hu]; rfl)], by simp only; omega⟩, by simp only; omega⟩
  · obtain rfl : i = l.d.c.blocks.length := by omega
    rw [List.take_length] at g2
    simp +decide (maxSteps := 20000000) (disch := omega) only [↓SBK, ↓SBK2, SAU, SGs, SD, S1, S2, S3, SE, SC, SO, ST, SF, SK, bytes_len, bytes_get, Nat.reduceEqDiff, Nat.reduceAdd, Nat.reduceMul, Nat.reduceSub, ↓reduceIte, Int.reduceNeg, Int.reduceToNat, hmd, hks, Bool.beq_eq_decide_eq, Int.natCast_zero, Int.add_zero, ge_iff_le, gt_iff_lt, Option.isNone_none, Option.isNone_some, List.nil_append, List.append_nil, Bool.and_true, Bool.and_self, SB, Int.reducePow, hQ, hmd1, hks1, hQ1, g2]
theorem eqLog_self (d : Log) (h : d.sz < 2 ^ 40) : Spec Try.prog 100 [d.x, d.x] (.bool true) [.undef, .undef] := by
  have he := s_eqLog d d h
  rwa [decide_eq_true rfl] at he
theorem s_FnExactFreeBlocks (r : Log) (hf : r.fine) : Spec Try.prog 22 [r.x] (.bool true) [.undef] := by
  by_cases hz : (1048576 : Int) < (r.sz : Nat)
  · refine spec_C hmx p_L_FnExactFreeBlocks [] 127 [] ⟨Nat.le_of_ble_eq_true rfl, Nat.le_of_ble_eq_true rfl⟩ rfl rfl ?_
    intro w hP hmd hks hQ
    unfold c_L_FnExactFreeBlocks
    simp +decide (maxSteps := 20000000) (disch := omega) only [↓SBK, ↓SBK2, SAU, SGs, SD, S1, S2, S3, SE, SC, SO, ST, SF, SK, bytes_len, bytes_get, Nat.reduceEqDiff, Nat.reduceAdd, Nat.reduceMul, Nat.reduceSub, ↓reduceIte, Int.reduceNeg, Int.reduceToNat, hmd, hks, Bool.beq_eq_decide_eq, Int.natCast_zero, Int.add_zero, ge_iff_le, gt_iff_lt, Option.isNone_none, Option.isNone_some, List.nil_append, List.append_nil, Bool.and_true, Bool.and_self, SB, Int.reducePow, hQ]
    (first | refine call_i hP (s_szLog r 1048576 hf (by omega) (by omega)) (.inl ⟨rfl, fun _ hx => nomatch hx⟩) ?_ | refine callH_i hP (s_szLog r 1048576 hf (by omega) (by omega)) (.inl ⟨rfl, fun _ hx => nomatch hx⟩) ?_)
    simp +decide (maxSteps := 20000000) (disch := omega) only [↓SBK, ↓SBK2, SAU, SGs, SD, S1, S2, S3, SE, SC, SO, ST, SF, SK, bytes_len, bytes_get, Nat.reduceEqDiff, Nat.reduceAdd, Nat.reduceMul, Nat.reduceSub, ↓reduceIte, Int.reduceNeg, Int.reduceToNat, hmd, hks, Bool.beq_eq_decide_eq, Int.natCast_zero, Int.add_zero, ge_iff_le, gt_iff_lt, Option.isNone_none, Option.isNone_some, List.nil_append, List.append_nil, Bool.and_true, Bool.and_self, SB, Int.reducePow, hQ, szC_lt hz]
  · have hs : r.sz < 2 ^ 40 := by omega
    refine spec_C hmx p_L_FnExactFreeBlocks [] 127 [] ⟨Nat.le_of_ble_eq_true rfl, Nat.le_of_ble_eq_true rfl⟩ rfl rfl ?_
    intro w hP hmd hks hQ
    unfold c_L_FnExactFreeBlocks
    simp +decide (maxSteps := 20000000) (disch := omega) only [↓SBK, ↓SBK2, SAU, SGs, SD, S1, S2, S3, SE, SC, SO, ST, SF, SK, bytes_len, bytes_get, Nat.reduceEqDiff, Nat.reduceAdd, Nat.reduceMul, Nat.reduceSub, ↓reduceIte, Int.reduceNeg, Int.reduceToNat, hmd, hks, Bool.beq_eq_decide_eq, Int.natCast_zero, Int.add_zero, ge_iff_le, gt_iff_lt, Option.isNone_none, Option.isNone_some, List.nil_append, List.append_nil, Bool.and_true, Bool.and_self, SB, Int.reducePow, hQ]
    (first | refine call_i hP (s_szLog r 1048576 hf (by omega) (by omega)) (.inl ⟨rfl, fun _ hx => nomatch hx⟩) ?_ | refine callH_i hP (s_szLog r 1048576 hf (by omega) (by omega)) (.inl ⟨rfl, fun _ hx => nomatch hx⟩) ?_)
    simp +decide (maxSteps := 20000000) (disch := omega) only [↓SBK, ↓SBK2, SAU, SGs, SD, S1, S2, S3, SE, SC, SO, ST, SF, SK, bytes_len, bytes_get, Nat.reduceEqDiff, Nat.reduceAdd, Nat.reduceMul, Nat.reduceSub, ↓reduceIte, Int.reduceNeg, Int.reduceToNat, hmd, hks, Bool.beq_eq_decide_eq, Int.natCast_zero, Int.add_zero, ge_iff_le, gt_iff_lt, Option.isNone_none, Option.isNone_some, List.nil_append, List.append_nil, Bool.and_true, Bool.and_self, SB, Int.reducePow, hQ, szC_ge hz]
    (first | with_reducible refine if_d _ ?_ ?_ | refine if_i _ ?_ ?_) <;> intro h
    · exfalso; omega
    simp +decide (maxSteps := 20000000) (disch := omega) only [↓SBK, ↓SBK2, SAU, SGs, SD, S1, S2, S3, SE, SC, SO, ST, SF, SK, bytes_len, bytes_get, Nat.reduceEqDiff, Nat.reduceAdd, Nat.reduceMul, Nat.reduceSub, ↓reduceIte, Int.reduceNeg, Int.reduceToNat, hmd, hks, Bool.beq_eq_decide_eq, Int.natCast_zero, Int.add_zero, ge_iff_le, gt_iff_lt, Option.isNone_none, Option.isNone_some, List.nil_append, List.append_nil, Bool.and_true, Bool.and_self, SB, Int.reducePow, hQ]
    (first | refine call_i hP (s_toLog r hs) (.inl ⟨rfl, fun _ hx => nomatch hx⟩) ?_ | refine callH_i hP (s_toLog r hs) (.inl ⟨rfl, fun _ hx => nomatch hx⟩) ?_)
    simp +decide (maxSteps := 20000000) (disch := omega) only [↓SBK, ↓SBK2, SAU, SGs, SD, S1, S2, S3, SE, SC, SO, ST, SF, SK, bytes_len, bytes_get, Nat.reduceEqDiff, Nat.reduceAdd, Nat.reduceMul, Nat.reduceSub, ↓reduceIte, Int.reduceNeg, Int.reduceToNat, hmd, hks, Bool.beq_eq_decide_eq, Int.natCast_zero, Int.add_zero, ge_iff_le, gt_iff_lt, Option.isNone_none, Option.isNone_some, List.nil_append, List.append_nil, Bool.and_true, Bool.and_self, SB, Int.reducePow, hQ]
    (first | refine call_i hP (sS_FreeBlocks r hs) (.inl ⟨rfl, fun _ hx => nomatch hx⟩) ?_ | refine callH_i hP (sS_FreeBlocks r hs) (.inl ⟨rfl, fun _ hx => nomatch hx⟩) ?_)
    simp +decide (maxSteps := 20000000) (disch := omega) only [↓SBK, ↓SBK2, SAU, SGs, SD, S1, S2, S3, SE, SC, SO, ST, SF, SK, bytes_len, bytes_get, Nat.reduceEqDiff, Nat.reduceAdd, Nat.reduceMul, Nat.reduceSub, ↓reduceIte, Int.reduceNeg, Int.reduceToNat, hmd, hks, Bool.beq_eq_decide_eq, Int.natCast_zero, Int.add_zero, ge_iff_le, gt_iff_lt, Option.isNone_none, Option.isNone_some, List.nil_append, List.append_nil, Bool.and_true, Bool.and_self, SB, Int.reducePow, hQ]
    (first | refine call_i hP (s_toLog r hs) (.inl ⟨rfl, fun _ hx => nomatch hx⟩) ?_ | refine callH_i hP (s_toLog r hs) (.inl ⟨rfl, fun _ hx => nomatch hx⟩) ?_)
    simp +decide (maxSteps := 20000000) (disch := omega) only [↓SBK, ↓SBK2, SAU, SGs, SD, S1, S2, S3, SE, SC, SO, ST, SF, SK, bytes_len, bytes_get, Nat.reduceEqDiff, Nat.reduceAdd, Nat.reduceMul, Nat.reduceSub, ↓reduceIte, Int.reduceNeg, Int.reduceToNat, hmd, hks, Bool.beq_eq_decide_eq, Int.natCast_zero, Int.add_zero, ge_iff_le, gt_iff_lt, Option.isNone_none, Option.isNone_some, List.nil_append, List.append_nil, Bool.and_true, Bool.and_self, SB, Int.reducePow, hQ]
    (first | refine call_i hP (sI_FreeBlocks r hs) (.inl ⟨rfl, fun _ hx => nomatch hx⟩) ?_ | refine callH_i hP (sI_FreeBlocks r hs) (.inl ⟨rfl, fun _ hx => nomatch hx⟩) ?_)
    simp +decide (maxSteps := 20000000) (disch := omega) only [↓SBK, ↓SBK2, SAU, SGs, SD, S1, S2, S3, SE, SC, SO, ST, SF, SK, bytes_len, bytes_get, Nat.reduceEqDiff, Nat.reduceAdd, Nat.reduceMul, Nat.reduceSub, ↓reduceIte, Int.reduceNeg, Int.reduceToNat, hmd, hks, Bool.beq_eq_decide_eq, Int.natCast_zero, Int.add_zero, ge_iff_le, gt_iff_lt, Option.isNone_none, Option.isNone_some, List.nil_append, List.append_nil, Bool.and_true, Bool.and_self, SB, Int.reducePow, hQ]
    (first | refine call_i hP (s_toLog r hs) (.inl ⟨rfl, fun _ hx => nomatch hx⟩) ?_ | refine callH_i hP (s_toLog r hs) (.inl ⟨rfl, fun _ hx => nomatch hx⟩) ?_)
    simp +decide (maxSteps := 20000000) (disch := omega) only [↓SBK, ↓SBK2, SAU, SGs, SD, S1, S2, S3, SE, SC, SO, ST, SF, SK, bytes_len, bytes_get, Nat.reduceEqDiff, Nat.reduceAdd, Nat.reduceMul, Nat.reduceSub, ↓reduceIte, Int.reduceNeg, Int.reduceToNat, hmd, hks, Bool.beq_eq_decide_eq, Int.natCast_zero, Int.add_zero, ge_iff_le, gt_iff_lt, Option.isNone_none, Option.isNone_some, List.nil_append, List.append_nil, Bool.and_true, Bool.and_self, SB, Int.reducePow, hQ]
    (first | refine call_i hP (eqLog_self r hs) (.inl ⟨rfl, fun _ hx => nomatch hx⟩) ?_ | refine callH_i hP (eqLog_self r hs) (.inl ⟨rfl, fun _ hx => nomatch hx⟩) ?_)
    simp +decide (maxSteps := 20000000) (disch := omega) only [↓SBK, ↓SBK2, SAU, SGs, SD, S1, S2, S3, SE, SC, SO, ST, SF, SK, bytes_len, bytes_get, Nat.reduceEqDiff, Nat.reduceAdd, Nat.reduceMul, Nat.reduceSub, ↓reduceIte, Int.reduceNeg, Int.reduceToNat, hmd, hks, Bool.beq_eq_decide_eq, Int.natCast_zero, Int.add_zero, ge_iff_le, gt_iff_lt, Option.isNone_none, Option.isNone_some, List.nil_append, List.append_nil, Bool.and_true, Bool.and_self, SB, Int.reducePow, hQ]
end Go.Proofs.Ytliklgcfdgdigaa.Awp

namespace Go.Proofs.Ytliklgcfdgdigaa.Awp
open Go.Proofs
set_option linter.unusedSimpArgs false
set_option linter.unusedVariables false

/-! ### what is read of an argument is a value of its type -/
theorem Shp.nil_inv {ts : List TV} (h : Shp [] ts) : ts = [] := by cases h; rfl
theorem Shp.bool_inv {ys : List Ty} {ts : List TV} (h : Shp (.bool :: ys) ts) : ∃ b us, ts = .bool b :: us ∧ Shp ys us := by cases h with | bool b _ us h => exact ⟨b, us, rfl, h⟩
theorem Shp.int_inv {k : IntKind} {ys : List Ty} {ts : List TV} (h : Shp (.int k :: ys) ts) : ∃ n us, ts = .int k n :: us ∧ Shp ys us := by cases h with | int _ n _ us _ h => exact ⟨n, us, rfl, h⟩
theorem Shp.str_inv {ys : List Ty} {ts : List TV} (h : Shp (.str :: ys) ts) : ∃ s us, ts = .str s :: us ∧ s.length ≤ 2 ^ 47 ∧ Shp ys us := by cases h with | str s _ us hs h => exact ⟨s, us, rfl, hs, h⟩
theorem Shp.sl_inv {s : Nat} {e ys : List Ty} {ts : List TV} (h : Shp (.sl s e :: ys) ts) : ∃ es us, ts = .sl s es :: us ∧ es.length ≤ 2 ^ 47 ∧ (∀ r ∈ es, Shp e r) ∧ Shp ys us := by
  cases h with | sl _ _ es _ us hl he h => exact ⟨es, us, rfl, hl, he, h⟩
theorem rows_ofShp {α : Type} {sh : List Ty} {row : α → List TV} {good : α → Prop} (H : ∀ ts, Shp sh ts → ∃ x, ts = row x ∧ good x) : ∀ {es : List (List TV)}, (∀ r ∈ es, Shp sh r) → ∃ l : List α, es = l.map row ∧ ∀ x ∈ l, good x := by
  intro es
  induction es with
  | nil => intro _; exact ⟨[], rfl, by simp⟩
  | cons r es ih =>
    intro h
    obtain ⟨x, rfl, hx⟩ := H r (h r (by simp))
    obtain ⟨l, rfl, hl⟩ := ih fun r hr => h r (by simp [hr])
    exact ⟨x :: l, rfl, fun y hy => by rcases List.mem_cons.1 hy with rfl | hy; exact hx; exact hl y hy⟩
theorem byte_ofShp (ts : List TV) (h : Shp [.int .u8] ts) : ∃ x : UInt8, ts = byteRow x ∧ True := by
  cases h with
  | int _ n _ us hn h =>
    cases h
    obtain ⟨h1, h2⟩ := bounds_u8 hn
    refine ⟨UInt8.ofNat n.toNat, ?_, trivial⟩
    have : (UInt8.ofNat n.toNat).toNat = n.toNat := by simp; omega
    simp only [byteRow, this]
    congr 2
    omega
theorem bytes_ofShp {es : List (List TV)} (h : ∀ r ∈ es, Shp [.int .u8] r) : ∃ b : Bytes, es = bytesR b := by
  obtain ⟨l, rfl, _⟩ := rows_ofShp byte_ofShp h
  exact ⟨l, rfl⟩
theorem len_ofs {s : Bytes} (h : s.length ≤ 2 ^ 47) : s.length < 2 ^ 48 := Nat.lt_of_le_of_lt h (by decide)
theorem len_ofb {b : Bytes} (h : (bytesR b).length ≤ 2 ^ 47) : b.length < 2 ^ 48 := Nat.lt_of_le_of_lt (by simpa [bytesR] using h) (by decide)
theorem len_ofl {α β : Type} {f : α → β} {l : List α} (h : (l.map f).length ≤ 2 ^ 47) : l.length < 2 ^ 48 := Nat.lt_of_le_of_lt (by simpa using h) (by decide)

def Page.shape : List Ty := [.bool, .sl 1 [.int .u8]]
theorem Page.ofShp (ts : List TV) (h : Shp Page.shape ts) : ∃ x : Page, ts = x.row ∧ x.fine := by
  obtain ⟨v_used, u0, rfl, h1⟩ := Shp.bool_inv h
  obtain ⟨r1, u1, rfl, lv_b, e1, h2⟩ := Shp.sl_inv h1
  obtain ⟨v_b, rfl⟩ := bytes_ofShp e1
  obtain rfl := Shp.nil_inv h2
  exact ⟨{ used := v_used, b := v_b }, rfl, len_ofb lv_b⟩
def Block.shape : List Ty := [.sl 2 Page.shape, .int .i64, .bool]
theorem Block.ofShp (ts : List TV) (h : Shp Block.shape ts) : ∃ x : Block, ts = x.row ∧ x.fine := by
  obtain ⟨r0, u0, rfl, lv_pages, e0, h1⟩ := Shp.sl_inv h
  obtain ⟨v_pages, rfl, gv_pages⟩ := rows_ofShp Page.ofShp e0
  obtain ⟨v_wear, u1, rfl, h2⟩ := Shp.int_inv h1
  obtain ⟨v_bad, u2, rfl, h3⟩ := Shp.bool_inv h2
  obtain rfl := Shp.nil_inv h3
  exact ⟨{ pages := v_pages, wear := v_wear, bad := v_bad }, rfl, ⟨len_ofl lv_pages, gv_pages⟩⟩
def Chip.shape : List Ty := [.sl 3 Block.shape]
theorem Chip.ofShp (ts : List TV) (h : Shp Chip.shape ts) : ∃ x : Chip, ts = x.row ∧ x.fine := by
  obtain ⟨r0, u0, rfl, lv_blocks, e0, h1⟩ := Shp.sl_inv h
  obtain ⟨v_blocks, rfl, gv_blocks⟩ := rows_ofShp Block.ofShp e0
  obtain rfl := Shp.nil_inv h1
  exact ⟨{ blocks := v_blocks }, rfl, ⟨len_ofl lv_blocks, gv_blocks⟩⟩
def Fault.shape : List Ty := [.int .i64, .int .i64, .int .i64]
theorem Fault.ofShp (ts : List TV) (h : Shp Fault.shape ts) : ∃ x : Fault, ts = x.row ∧ x.fine := by
  obtain ⟨v_at', u0, rfl, h1⟩ := Shp.int_inv h
  obtain ⟨v_kind, u1, rfl, h2⟩ := Shp.int_inv h1
  obtain ⟨v_keep, u2, rfl, h3⟩ := Shp.int_inv h2
  obtain rfl := Shp.nil_inv h3
  exact ⟨{ at' := v_at', kind := v_kind, keep := v_keep }, rfl, trivial⟩
def Dev.shape : List Ty := [.sl 3 Block.shape, .int .i64, .sl 3 Fault.shape, .bool]
theorem Dev.ofShp (ts : List TV) (h : Shp Dev.shape ts) : ∃ x : Dev, ts = x.row ∧ x.fine := by
  obtain ⟨r0, u0, rfl, lv_c_blocks, e0, h1⟩ := Shp.sl_inv h
  obtain ⟨v_c_blocks, rfl, gv_c_blocks⟩ := rows_ofShp Block.ofShp e0
  obtain ⟨v_ops, u1, rfl, h2⟩ := Shp.int_inv h1
  obtain ⟨r2, u2, rfl, lv_faults, e2, h3⟩ := Shp.sl_inv h2
  obtain ⟨v_faults, rfl, gv_faults⟩ := rows_ofShp Fault.ofShp e2
  obtain ⟨v_down, u3, rfl, h4⟩ := Shp.bool_inv h3
  obtain rfl := Shp.nil_inv h4
  exact ⟨{ c := { blocks := v_c_blocks }, ops := v_ops, faults := v_faults, down := v_down }, rfl, ⟨⟨len_ofl lv_c_blocks, gv_c_blocks⟩, len_ofl lv_faults⟩⟩
def Rec.shape : List Ty := [.int .i64, .int .i64, .sl 1 [.int .u8]]
theorem Rec.ofShp (ts : List TV) (h : Shp Rec.shape ts) : ∃ x : Rec, ts = x.row ∧ x.fine := by
  obtain ⟨v_kind, u0, rfl, h1⟩ := Shp.int_inv h
  obtain ⟨v_seq, u1, rfl, h2⟩ := Shp.int_inv h1
  obtain ⟨r2, u2, rfl, lv_body, e2, h3⟩ := Shp.sl_inv h2
  obtain ⟨v_body, rfl⟩ := bytes_ofShp e2
  obtain rfl := Shp.nil_inv h3
  exact ⟨{ kind := v_kind, seq := v_seq, body := v_body }, rfl, len_ofb lv_body⟩
def Op.shape : List Ty := [.int .i64, .int .i64, .str, .str, .int .i64, .sl 1 [.int .u8]]
theorem Op.ofShp (ts : List TV) (h : Shp Op.shape ts) : ∃ x : Op, ts = x.row ∧ x.fine := by
  obtain ⟨v_kind, u0, rfl, h1⟩ := Shp.int_inv h
  obtain ⟨v_vol, u1, rfl, h2⟩ := Shp.int_inv h1
  obtain ⟨v_path, u2, rfl, lv_path, h3⟩ := Shp.str_inv h2
  obtain ⟨v_to', u3, rfl, lv_to', h4⟩ := Shp.str_inv h3
  obtain ⟨v_off, u4, rfl, h5⟩ := Shp.int_inv h4
  obtain ⟨r5, u5, rfl, lv_data, e5, h6⟩ := Shp.sl_inv h5
  obtain ⟨v_data, rfl⟩ := bytes_ofShp e5
  obtain rfl := Shp.nil_inv h6
  exact ⟨{ kind := v_kind, vol := v_vol, path := v_path, to' := v_to', off := v_off, data := v_data }, rfl, ⟨len_ofs lv_path, len_ofs lv_to', len_ofb lv_data⟩⟩
def Log.shape : List Ty := [.sl 3 Block.shape, .int .i64, .sl 3 Fault.shape, .bool, .int .i64]
theorem Log.ofShp (ts : List TV) (h : Shp Log.shape ts) : ∃ x : Log, ts = x.row ∧ x.fine := by
  obtain ⟨r0, u0, rfl, lv_d_c_blocks, e0, h1⟩ := Shp.sl_inv h
  obtain ⟨v_d_c_blocks, rfl, gv_d_c_blocks⟩ := rows_ofShp Block.ofShp e0
  obtain ⟨v_d_ops, u1, rfl, h2⟩ := Shp.int_inv h1
  obtain ⟨r2, u2, rfl, lv_d_faults, e2, h3⟩ := Shp.sl_inv h2
  obtain ⟨v_d_faults, rfl, gv_d_faults⟩ := rows_ofShp Fault.ofShp e2
  obtain ⟨v_d_down, u3, rfl, h4⟩ := Shp.bool_inv h3
  obtain ⟨v_seq, u4, rfl, h5⟩ := Shp.int_inv h4
  obtain rfl := Shp.nil_inv h5
  exact ⟨{ d := { c := { blocks := v_d_c_blocks }, ops := v_d_ops, faults := v_d_faults, down := v_d_down }, seq := v_seq }, rfl, ⟨⟨len_ofl lv_d_c_blocks, gv_d_c_blocks⟩, len_ofl lv_d_faults⟩⟩
end Go.Proofs.Ytliklgcfdgdigaa.Awp

namespace Go.Proofs.Ytliklgcfdgdigaa.Awp
open Go.Proofs Go.Proofs.Ytliklgcfdgdigaa
set_option linter.unusedSimpArgs false
set_option linter.unusedVariables false
set_option maxRecDepth 100000

theorem own : ownKnob Try.prog.godebug = none := by kernel_rfl
/-- how the text of the program's start goes on -/
def ioTail : List Char := [Char.ofNat 97, Char.ofNat 116, Char.ofNat 32, Char.ofNat 108, Char.ofNat 111, Char.ofNat 111, Char.ofNat 112, Char.ofNat 46, Char.ofNat 101, Char.ofNat 120, Char.ofNat 97, Char.ofNat 109, Char.ofNat 112, Char.ofNat 108, Char.ofNat 101, Char.ofNat 47, Char.ofNat 103, Char.ofNat 48, Char.ofNat 48, Char.ofNat 50, Char.ofNat 56, Char.ofNat 53, Char.ofNat 47, Char.ofNat 108, Char.ofNat 97, Char.ofNat 119, Char.ofNat 115, Char.ofNat 46, Char.ofNat 70, Char.ofNat 110, Char.ofNat 69, Char.ofNat 120, Char.ofNat 97, Char.ofNat 99, Char.ofNat 116, Char.ofNat 82, Char.ofNat 101, Char.ofNat 99, Char.ofNat 79, Char.ofNat 107, Char.ofNat 32, Char.ofNat 108, Char.ofNat 111, Char.ofNat 111, Char.ofNat 112, Char.ofNat 46, Char.ofNat 101, Char.ofNat 120, Char.ofNat 97, Char.ofNat 109, Char.ofNat 112, Char.ofNat 108, Char.ofNat 101, Char.ofNat 47, Char.ofNat 103, Char.ofNat 48, Char.ofNat 48, Char.ofNat 50, Char.ofNat 56, Char.ofNat 53] ++ [Char.ofNat 47, Char.ofNat 108, Char.ofNat 97, Char.ofNat 119, Char.ofNat 115, Char.ofNat 46, Char.ofNat 70, Char.ofNat 110, Char.ofNat 69, Char.ofNat 120, Char.ofNat 97, Char.ofNat 99, Char.ofNat 116, Char.ofNat 67, Char.ofNat 104, Char.ofNat 97, Char.ofNat 110, Char.ofNat 103, Char.ofNat 101, Char.ofNat 115, Char.ofNat 32, Char.ofNat 108, Char.ofNat 111, Char.ofNat 111, Char.ofNat 112, Char.ofNat 46, Char.ofNat 101, Char.ofNat 120, Char.ofNat 97, Char.ofNat 109, Char.ofNat 112, Char.ofNat 108, Char.ofNat 101, Char.ofNat 47, Char.ofNat 103, Char.ofNat 48, Char.ofNat 48, Char.ofNat 50, Char.ofNat 56, Char.ofNat 53, Char.ofNat 47, Char.ofNat 108, Char.ofNat 97, Char.ofNat 119, Char.ofNat 115, Char.ofNat 46, Char.ofNat 70, Char.ofNat 110, Char.ofNat 69, Char.ofNat 120, Char.ofNat 97, Char.ofNat 99, Char.ofNat 116, Char.ofNat 80, Char.ofNat 117, Char.ofNat 116, Char.ofNat 79, Char.ofNat 112, Char.ofNat 32, Char.ofNat 108] ++ [Char.ofNat 111, Char.ofNat 111, Char.ofNat 112, Char.ofNat 46, Char.ofNat 101, Char.ofNat 120, Char.ofNat 97, Char.ofNat 109, Char.ofNat 112, Char.ofNat 108, Char.ofNat 101, Char.ofNat 47, Char.ofNat 103, Char.ofNat 48, Char.ofNat 48, Char.ofNat 50, Char.ofNat 56, Char.ofNat 53, Char.ofNat 47, Char.ofNat 108, Char.ofNat 97, Char.ofNat 119, Char.ofNat 115, Char.ofNat 46, Char.ofNat 70, Char.ofNat 110, Char.ofNat 69, Char.ofNat 120, Char.ofNat 97, Char.ofNat 99, Char.ofNat 116, Char.ofNat 67, Char.ofNat 104, Char.ofNat 105, Char.ofNat 112, Char.ofNat 78, Char.ofNat 101, Char.ofNat 119, Char.ofNat 32, Char.ofNat 108, Char.ofNat 111, Char.ofNat 111, Char.ofNat 112, Char.ofNat 46, Char.ofNat 101, Char.ofNat 120, Char.ofNat 97, Char.ofNat 109, Char.ofNat 112, Char.ofNat 108, Char.ofNat 101, Char.ofNat 47, Char.ofNat 103, Char.ofNat 48, Char.ofNat 48, Char.ofNat 50, Char.ofNat 56, Char.ofNat 53, Char.ofNat 47, Char.ofNat 108] ++ [Char.ofNat 97, Char.ofNat 119, Char.ofNat 115, Char.ofNat 46, Char.ofNat 70, Char.ofNat 110, Char.ofNat 69, Char.ofNat 120, Char.ofNat 97, Char.ofNat 99, Char.ofNat 116, Char.ofNat 80, Char.ofNat 117, Char.ofNat 116, Char.ofNat 82, Char.ofNat 101, Char.ofNat 99, Char.ofNat 32, Char.ofNat 108, Char.ofNat 111, Char.ofNat 111, Char.ofNat 112, Char.ofNat 46, Char.ofNat 101, Char.ofNat 120, Char.ofNat 97, Char.ofNat 109, Char.ofNat 112, Char.ofNat 108, Char.ofNat 101, Char.ofNat 47, Char.ofNat 103, Char.ofNat 48, Char.ofNat 48, Char.ofNat 50, Char.ofNat 56, Char.ofNat 53, Char.ofNat 47, Char.ofNat 108, Char.ofNat 97, Char.ofNat 119, Char.ofNat 115, Char.ofNat 46, Char.ofNat 70, Char.ofNat 110, Char.ofNat 69, Char.ofNat 120, Char.ofNat 97, Char.ofNat 99, Char.ofNat 116, Char.ofNat 87, Char.ofNat 111, Char.ofNat 114, Char.ofNat 110, Char.ofNat 79, Char.ofNat 102, Char.ofNat 32, Char.ofNat 108, Char.ofNat 111, Char.ofNat 111] ++ [Char.ofNat 112, Char.ofNat 46, Char.ofNat 101, Char.ofNat 120, Char.ofNat 97, Char.ofNat 109, Char.ofNat 112, Char.ofNat 108, Char.ofNat 101, Char.ofNat 47, Char.ofNat 103, Char.ofNat 48, Char.ofNat 48, Char.ofNat 50, Char.ofNat 56, Char.ofNat 53, Char.ofNat 47, Char.ofNat 108, Char.ofNat 97, Char.ofNat 119, Char.ofNat 115, Char.ofNat 46, Char.ofNat 70, Char.ofNat 110, Char.ofNat 69, Char.ofNat 120, Char.ofNat 97, Char.ofNat 99, Char.ofNat 116, Char.ofNat 71, Char.ofNat 101, Char.ofNat 116, Char.ofNat 79, Char.ofNat 112, Char.ofNat 32, Char.ofNat 108, Char.ofNat 111, Char.ofNat 111, Char.ofNat 112, Char.ofNat 46, Char.ofNat 101, Char.ofNat 120, Char.ofNat 97, Char.ofNat 109, Char.ofNat 112, Char.ofNat 108, Char.ofNat 101, Char.ofNat 47, Char.ofNat 103, Char.ofNat 48, Char.ofNat 48, Char.ofNat 50, Char.ofNat 56, Char.ofNat 53, Char.ofNat 47, Char.ofNat 108, Char.ofNat 97, Char.ofNat 119, Char.ofNat 115, Char.ofNat 46] ++ [Char.ofNat 70, Char.ofNat 110, Char.ofNat 69, Char.ofNat 120, Char.ofNat 97, Char.ofNat 99, Char.ofNat 116, Char.ofNat 78, Char.ofNat 101, Char.ofNat 120, Char.ofNat 116, Char.ofNat 80, Char.ofNat 97, Char.ofNat 103, Char.ofNat 101, Char.ofNat 32, Char.ofNat 108, Char.ofNat 111, Char.ofNat 111, Char.ofNat 112, Char.ofNat 46, Char.ofNat 101, Char.ofNat 120, Char.ofNat 97, Char.ofNat 109, Char.ofNat 112, Char.ofNat 108, Char.ofNat 101, Char.ofNat 47, Char.ofNat 103, Char.ofNat 48, Char.ofNat 48, Char.ofNat 50, Char.ofNat 56, Char.ofNat 53, Char.ofNat 47, Char.ofNat 108, Char.ofNat 97, Char.ofNat 119, Char.ofNat 115, Char.ofNat 46, Char.ofNat 70, Char.ofNat 110, Char.ofNat 69, Char.ofNat 120, Char.ofNat 97, Char.ofNat 99, Char.ofNat 116, Char.ofNat 67, Char.ofNat 104, Char.ofNat 105, Char.ofNat 112, Char.ofNat 79, Char.ofNat 107, Char.ofNat 32, Char.ofNat 108, Char.ofNat 111, Char.ofNat 111, Char.ofNat 112, Char.ofNat 46] ++ [Char.ofNat 101, Char.ofNat 120, Char.ofNat 97, Char.ofNat 109, Char.ofNat 112, Char.ofNat 108, Char.ofNat 101, Char.ofNat 47, Char.ofNat 103, Char.ofNat 48, Char.ofNat 48, Char.ofNat 50, Char.ofNat 56, Char.ofNat 53, Char.ofNat 47, Char.ofNat 108, Char.ofNat 97, Char.ofNat 119, Char.ofNat 115, Char.ofNat 46, Char.ofNat 70, Char.ofNat 110, Char.ofNat 82, Char.ofNat 101, Char.ofNat 99, Char.ofNat 115, Char.ofNat 32, Char.ofNat 108, Char.ofNat 111, Char.ofNat 111, Char.ofNat 112, Char.ofNat 46, Char.ofNat 101, Char.ofNat 120, Char.ofNat 97, Char.ofNat 109, Char.ofNat 112, Char.ofNat 108, Char.ofNat 101, Char.ofNat 47, Char.ofNat 103, Char.ofNat 48, Char.ofNat 48, Char.ofNat 50, Char.ofNat 56, Char.ofNat 53, Char.ofNat 47, Char.ofNat 108, Char.ofNat 97, Char.ofNat 119, Char.ofNat 115, Char.ofNat 46, Char.ofNat 70, Char.ofNat 110, Char.ofNat 69, Char.ofNat 120, Char.ofNat 97, Char.ofNat 99, Char.ofNat 116, Char.ofNat 82] ++ [Char.ofNat 101, Char.ofNat 97, Char.ofNat 100, Char.ofNat 80, Char.ofNat 97, Char.ofNat 103, Char.ofNat 101, Char.ofNat 32, Char.ofNat 108, Char.ofNat 111, Char.ofNat 111, Char.ofNat 112, Char.ofNat 46, Char.ofNat 101, Char.ofNat 120, Char.ofNat 97, Char.ofNat 109, Char.ofNat 112, Char.ofNat 108, Char.ofNat 101, Char.ofNat 47, Char.ofNat 103, Char.ofNat 48, Char.ofNat 48, Char.ofNat 50, Char.ofNat 56, Char.ofNat 53, Char.ofNat 47, Char.ofNat 108, Char.ofNat 97, Char.ofNat 119, Char.ofNat 115, Char.ofNat 46, Char.ofNat 70, Char.ofNat 110, Char.ofNat 78, Char.ofNat 101, Char.ofNat 119, Char.ofNat 67, Char.ofNat 104, Char.ofNat 105, Char.ofNat 112, Char.ofNat 115, Char.ofNat 32, Char.ofNat 108, Char.ofNat 111, Char.ofNat 111, Char.ofNat 112, Char.ofNat 46, Char.ofNat 101, Char.ofNat 120, Char.ofNat 97, Char.ofNat 109, Char.ofNat 112, Char.ofNat 108, Char.ofNat 101, Char.ofNat 47, Char.ofNat 103, Char.ofNat 48, Char.ofNat 48] ++ [Char.ofNat 50, Char.ofNat 56, Char.ofNat 53, Char.ofNat 47, Char.ofNat 108, Char.ofNat 97, Char.ofNat 119, Char.ofNat 115, Char.ofNat 46, Char.ofNat 70, Char.ofNat 110, Char.ofNat 73, Char.ofNat 110, Char.ofNat 84, Char.ofNat 117, Char.ofNat 114, Char.ofNat 110, Char.ofNat 32, Char.ofNat 108, Char.ofNat 111, Char.ofNat 111, Char.ofNat 112, Char.ofNat 46, Char.ofNat 101, Char.ofNat 120, Char.ofNat 97, Char.ofNat 109, Char.ofNat 112, Char.ofNat 108, Char.ofNat 101, Char.ofNat 47, Char.ofNat 103, Char.ofNat 48, Char.ofNat 48, Char.ofNat 50, Char.ofNat 56, Char.ofNat 53, Char.ofNat 47, Char.ofNat 108, Char.ofNat 97, Char.ofNat 119, Char.ofNat 115, Char.ofNat 46, Char.ofNat 70, Char.ofNat 110, Char.ofNat 69, Char.ofNat 120, Char.ofNat 97, Char.ofNat 99, Char.ofNat 116, Char.ofNat 71, Char.ofNat 101, Char.ofNat 116, Char.ofNat 82, Char.ofNat 101, Char.ofNat 99, Char.ofNat 32, Char.ofNat 108, Char.ofNat 111, Char.ofNat 111] ++ [Char.ofNat 112, Char.ofNat 46, Char.ofNat 101, Char.ofNat 120, Char.ofNat 97, Char.ofNat 109, Char.ofNat 112, Char.ofNat 108, Char.ofNat 101, Char.ofNat 47, Char.ofNat 103, Char.ofNat 48, Char.ofNat 48, Char.ofNat 50, Char.ofNat 56, Char.ofNat 53, Char.ofNat 47, Char.ofNat 108, Char.ofNat 97, Char.ofNat 119, Char.ofNat 115, Char.ofNat 46, Char.ofNat 70, Char.ofNat 110, Char.ofNat 69, Char.ofNat 120, Char.ofNat 97, Char.ofNat 99, Char.ofNat 116, Char.ofNat 70, Char.ofNat 97, Char.ofNat 117, Char.ofNat 108, Char.ofNat 116, Char.ofNat 65, Char.ofNat 116, Char.ofNat 32, Char.ofNat 108, Char.ofNat 111, Char.ofNat 111, Char.ofNat 112, Char.ofNat 46, Char.ofNat 101, Char.ofNat 120, Char.ofNat 97, Char.ofNat 109, Char.ofNat 112, Char.ofNat 108, Char.ofNat 101, Char.ofNat 47, Char.ofNat 103, Char.ofNat 48, Char.ofNat 48, Char.ofNat 50, Char.ofNat 56, Char.ofNat 53, Char.ofNat 47, Char.ofNat 108, Char.ofNat 97, Char.ofNat 119] ++ [Char.ofNat 115, Char.ofNat 46, Char.ofNat 70, Char.ofNat 110, Char.ofNat 69, Char.ofNat 114, Char.ofNat 97, Char.ofNat 115, Char.ofNat 101, Char.ofNat 100, Char.ofNat 32, Char.ofNat 108, Char.ofNat 111, Char.ofNat 111, Char.ofNat 112, Char.ofNat 46, Char.ofNat 101, Char.ofNat 120, Char.ofNat 97, Char.ofNat 109, Char.ofNat 112, Char.ofNat 108, Char.ofNat 101, Char.ofNat 47, Char.ofNat 103, Char.ofNat 48, Char.ofNat 48, Char.ofNat 50, Char.ofNat 56, Char.ofNat 53, Char.ofNat 47, Char.ofNat 108, Char.ofNat 97, Char.ofNat 119, Char.ofNat 115, Char.ofNat 46, Char.ofNat 70, Char.ofNat 110, Char.ofNat 67, Char.ofNat 104, Char.ofNat 105, Char.ofNat 112, Char.ofNat 115, Char.ofNat 32, Char.ofNat 108, Char.ofNat 111, Char.ofNat 111, Char.ofNat 112, Char.ofNat 46, Char.ofNat 101, Char.ofNat 120, Char.ofNat 97, Char.ofNat 109, Char.ofNat 112, Char.ofNat 108, Char.ofNat 101, Char.ofNat 47, Char.ofNat 103, Char.ofNat 48, Char.ofNat 48] ++ [Char.ofNat 50, Char.ofNat 56, Char.ofNat 53, Char.ofNat 47, Char.ofNat 108, Char.ofNat 97, Char.ofNat 119, Char.ofNat 115, Char.ofNat 46, Char.ofNat 70, Char.ofNat 110, Char.ofNat 82, Char.ofNat 101, Char.ofNat 99, Char.ofNat 115, Char.ofNat 82, Char.ofNat 101, Char.ofNat 97, Char.ofNat 100, Char.ofNat 32, Char.ofNat 108, Char.ofNat 111, Char.ofNat 111, Char.ofNat 112, Char.ofNat 46, Char.ofNat 101, Char.ofNat 120, Char.ofNat 97, Char.ofNat 109, Char.ofNat 112, Char.ofNat 108, Char.ofNat 101, Char.ofNat 47, Char.ofNat 103, Char.ofNat 48, Char.ofNat 48, Char.ofNat 50, Char.ofNat 56, Char.ofNat 53, Char.ofNat 47, Char.ofNat 108, Char.ofNat 97, Char.ofNat 119, Char.ofNat 115, Char.ofNat 46, Char.ofNat 70, Char.ofNat 110, Char.ofNat 69, Char.ofNat 120, Char.ofNat 97, Char.ofNat 99, Char.ofNat 116, Char.ofNat 68, Char.ofNat 101, Char.ofNat 118, Char.ofNat 79, Char.ofNat 107, Char.ofNat 32, Char.ofNat 108, Char.ofNat 111] ++ [Char.ofNat 111, Char.ofNat 112, Char.ofNat 46, Char.ofNat 101, Char.ofNat 120, Char.ofNat 97, Char.ofNat 109, Char.ofNat 112, Char.ofNat 108, Char.ofNat 101, Char.ofNat 47, Char.ofNat 103, Char.ofNat 48, Char.ofNat 48, Char.ofNat 50, Char.ofNat 56, Char.ofNat 53, Char.ofNat 47, Char.ofNat 108, Char.ofNat 97, Char.ofNat 119, Char.ofNat 115, Char.ofNat 46, Char.ofNat 70, Char.ofNat 110, Char.ofNat 69, Char.ofNat 120, Char.ofNat 97, Char.ofNat 99, Char.ofNat 116, Char.ofNat 70, Char.ofNat 114, Char.ofNat 101, Char.ofNat 101, Char.ofNat 66, Char.ofNat 108, Char.ofNat 111, Char.ofNat 99, Char.ofNat 107, Char.ofNat 115, Char.ofNat 32, Char.ofNat 108, Char.ofNat 111, Char.ofNat 111, Char.ofNat 112, Char.ofNat 46, Char.ofNat 101, Char.ofNat 120, Char.ofNat 97, Char.ofNat 109, Char.ofNat 112, Char.ofNat 108, Char.ofNat 101, Char.ofNat 47, Char.ofNat 103, Char.ofNat 48, Char.ofNat 48, Char.ofNat 50, Char.ofNat 56, Char.ofNat 53] ++ [Char.ofNat 47, Char.ofNat 108, Char.ofNat 97, Char.ofNat 119, Char.ofNat 115, Char.ofNat 46, Char.ofNat 70, Char.ofNat 110, Char.ofNat 69, Char.ofNat 120, Char.ofNat 97, Char.ofNat 99, Char.ofNat 116, Char.ofNat 68, Char.ofNat 101, Char.ofNat 118, Char.ofNat 78, Char.ofNat 101, Char.ofNat 119, Char.ofNat 32, Char.ofNat 108, Char.ofNat 111, Char.ofNat 111, Char.ofNat 112, Char.ofNat 46, Char.ofNat 101, Char.ofNat 120, Char.ofNat 97, Char.ofNat 109, Char.ofNat 112, Char.ofNat 108, Char.ofNat 101, Char.ofNat 47, Char.ofNat 103, Char.ofNat 48, Char.ofNat 48, Char.ofNat 50, Char.ofNat 56, Char.ofNat 53, Char.ofNat 47, Char.ofNat 108, Char.ofNat 97, Char.ofNat 119, Char.ofNat 115, Char.ofNat 46, Char.ofNat 70, Char.ofNat 110, Char.ofNat 69, Char.ofNat 120, Char.ofNat 97, Char.ofNat 99, Char.ofNat 116, Char.ofNat 69, Char.ofNat 114, Char.ofNat 97, Char.ofNat 115, Char.ofNat 101, Char.ofNat 32, Char.ofNat 108, Char.ofNat 111] ++ [Char.ofNat 111, Char.ofNat 112, Char.ofNat 46, Char.ofNat 101, Char.ofNat 120, Char.ofNat 97, Char.ofNat 109, Char.ofNat 112, Char.ofNat 108, Char.ofNat 101, Char.ofNat 47, Char.ofNat 103, Char.ofNat 48, Char.ofNat 48, Char.ofNat 50, Char.ofNat 56, Char.ofNat 53, Char.ofNat 47, Char.ofNat 108, Char.ofNat 97, Char.ofNat 119, Char.ofNat 115, Char.ofNat 46, Char.ofNat 70, Char.ofNat 110, Char.ofNat 69, Char.ofNat 120, Char.ofNat 97, Char.ofNat 99, Char.ofNat 116, Char.ofNat 80, Char.ofNat 114, Char.ofNat 111, Char.ofNat 103, Char.ofNat 114, Char.ofNat 97, Char.ofNat 109, Char.ofNat 32, Char.ofNat 108, Char.ofNat 111, Char.ofNat 111, Char.ofNat 112, Char.ofNat 46, Char.ofNat 101, Char.ofNat 120, Char.ofNat 97, Char.ofNat 109, Char.ofNat 112, Char.ofNat 108, Char.ofNat 101, Char.ofNat 47, Char.ofNat 103, Char.ofNat 48, Char.ofNat 48, Char.ofNat 50, Char.ofNat 56, Char.ofNat 53, Char.ofNat 47, Char.ofNat 108, Char.ofNat 97] ++ [Char.ofNat 119, Char.ofNat 115, Char.ofNat 46, Char.ofNat 70, Char.ofNat 110, Char.ofNat 69, Char.ofNat 120, Char.ofNat 97, Char.ofNat 99, Char.ofNat 116, Char.ofNat 80, Char.ofNat 111, Char.ofNat 119, Char.ofNat 101, Char.ofNat 114, Char.ofNat 85, Char.ofNat 112, Char.ofNat 32, Char.ofNat 108, Char.ofNat 111, Char.ofNat 111, Char.ofNat 112, Char.ofNat 46, Char.ofNat 101, Char.ofNat 120, Char.ofNat 97, Char.ofNat 109, Char.ofNat 112, Char.ofNat 108, Char.ofNat 101, Char.ofNat 47, Char.ofNat 103, Char.ofNat 48, Char.ofNat 48, Char.ofNat 50, Char.ofNat 56, Char.ofNat 53, Char.ofNat 47, Char.ofNat 108, Char.ofNat 97, Char.ofNat 119, Char.ofNat 115, Char.ofNat 46, Char.ofNat 70, Char.ofNat 110, Char.ofNat 68, Char.ofNat 101, Char.ofNat 118, Char.ofNat 115, Char.ofNat 32, Char.ofNat 108, Char.ofNat 111, Char.ofNat 111, Char.ofNat 112, Char.ofNat 46, Char.ofNat 101, Char.ofNat 120, Char.ofNat 97, Char.ofNat 109, Char.ofNat 112] ++ [Char.ofNat 108, Char.ofNat 101, Char.ofNat 47, Char.ofNat 103, Char.ofNat 48, Char.ofNat 48, Char.ofNat 50, Char.ofNat 56, Char.ofNat 53, Char.ofNat 47, Char.ofNat 108, Char.ofNat 97, Char.ofNat 119, Char.ofNat 115, Char.ofNat 46, Char.ofNat 70, Char.ofNat 110, Char.ofNat 68, Char.ofNat 101, Char.ofNat 118, Char.ofNat 69, Char.ofNat 114, Char.ofNat 97, Char.ofNat 115, Char.ofNat 101, Char.ofNat 100, Char.ofNat 32, Char.ofNat 108, Char.ofNat 111, Char.ofNat 111, Char.ofNat 112, Char.ofNat 46, Char.ofNat 101, Char.ofNat 120, Char.ofNat 97, Char.ofNat 109, Char.ofNat 112, Char.ofNat 108, Char.ofNat 101, Char.ofNat 47, Char.ofNat 103, Char.ofNat 48, Char.ofNat 48, Char.ofNat 50, Char.ofNat 56, Char.ofNat 53, Char.ofNat 47, Char.ofNat 108, Char.ofNat 97, Char.ofNat 119, Char.ofNat 115, Char.ofNat 46, Char.ofNat 70, Char.ofNat 110, Char.ofNat 80, Char.ofNat 111, Char.ofNat 119, Char.ofNat 101, Char.ofNat 114, Char.ofNat 115] ++ [Char.ofNat 32, Char.ofNat 108, Char.ofNat 111, Char.ofNat 111, Char.ofNat 112, Char.ofNat 46, Char.ofNat 101, Char.ofNat 120, Char.ofNat 97, Char.ofNat 109, Char.ofNat 112, Char.ofNat 108, Char.ofNat 101, Char.ofNat 47, Char.ofNat 103, Char.ofNat 48, Char.ofNat 48, Char.ofNat 50, Char.ofNat 56, Char.ofNat 53, Char.ofNat 47, Char.ofNat 108, Char.ofNat 97, Char.ofNat 119, Char.ofNat 115, Char.ofNat 46, Char.ofNat 70, Char.ofNat 110, Char.ofNat 69, Char.ofNat 120, Char.ofNat 97, Char.ofNat 99, Char.ofNat 116, Char.ofNat 68, Char.ofNat 101, Char.ofNat 118, Char.ofNat 69, Char.ofNat 114, Char.ofNat 97, Char.ofNat 115, Char.ofNat 101, Char.ofNat 32, Char.ofNat 108, Char.ofNat 111, Char.ofNat 111, Char.ofNat 112, Char.ofNat 46, Char.ofNat 101, Char.ofNat 120, Char.ofNat 97, Char.ofNat 109, Char.ofNat 112, Char.ofNat 108, Char.ofNat 101, Char.ofNat 47, Char.ofNat 103, Char.ofNat 48, Char.ofNat 48, Char.ofNat 50, Char.ofNat 56] ++ [Char.ofNat 53, Char.ofNat 47, Char.ofNat 108, Char.ofNat 97, Char.ofNat 119, Char.ofNat 115, Char.ofNat 46, Char.ofNat 70, Char.ofNat 110, Char.ofNat 69, Char.ofNat 120, Char.ofNat 97, Char.ofNat 99, Char.ofNat 116, Char.ofNat 68, Char.ofNat 101, Char.ofNat 118, Char.ofNat 80, Char.ofNat 114, Char.ofNat 111, Char.ofNat 103, Char.ofNat 114, Char.ofNat 97, Char.ofNat 109]
def ioSum : List Char := [Char.ofNat 98, Char.ofNat 51, Char.ofNat 102, Char.ofNat 55, Char.ofNat 99, Char.ofNat 48, Char.ofNat 100, Char.ofNat 99, Char.ofNat 52, Char.ofNat 51, Char.ofNat 51, Char.ofNat 102, Char.ofNat 99, Char.ofNat 98, Char.ofNat 52, Char.ofNat 55, Char.ofNat 53, Char.ofNat 52, Char.ofNat 55, Char.ofNat 49, Char.ofNat 102, Char.ofNat 53, Char.ofNat 56, Char.ofNat 48, Char.ofNat 101, Char.ofNat 102, Char.ofNat 54, Char.ofNat 97, Char.ofNat 99, Char.ofNat 57, Char.ofNat 54, Char.ofNat 49, Char.ofNat 100, Char.ofNat 51, Char.ofNat 97, Char.ofNat 55, Char.ofNat 99, Char.ofNat 57, Char.ofNat 57, Char.ofNat 53, Char.ofNat 49, Char.ofNat 100, Char.ofNat 100, Char.ofNat 49, Char.ofNat 51, Char.ofNat 52, Char.ofNat 101, Char.ofNat 102, Char.ofNat 98, Char.ofNat 98, Char.ofNat 99, Char.ofNat 56, Char.ofNat 53, Char.ofNat 98, Char.ofNat 99, Char.ofNat 53, Char.ofNat 49, Char.ofNat 48, Char.ofNat 52, Char.ofNat 48, Char.ofNat 48, Char.ofNat 100, Char.ofNat 97, Char.ofNat 98]
theorem ioText : Try.prog.initOrder = String.ofList ([Char.ofNat 104, Char.ofNat 97, Char.ofNat 114, Char.ofNat 110, Char.ofNat 101, Char.ofNat 115, Char.ofNat 115] ++ (Char.ofNat 32 :: ioSum) ++ [Char.ofNat 32, Char.ofNat 99, Char.ofNat 117, Char.ofNat 116, Char.ofNat 32] ++ ioTail) := by kernel_rfl
theorem ioWords : ∃ r, behindMainWord (wordsSigns Try.prog.initOrder.toList) = [Char.ofNat 99, Char.ofNat 117, Char.ofNat 116] :: r := by
  rw [ioText, String.toList_ofList]
  exact ⟨wordsSigns ioTail, by kernel_rfl⟩
theorem f_laid : (laidOutB Try.prog) = true := by kernel_rfl
theorem f_maps : (mapsRowed Try.prog) = true := by kernel_rfl
theorem f_stops : ((Try.prog.stops == [])) = true := by kernel_rfl
theorem f_knobs : ((Try.prog.stopKnobs == [])) = true := by kernel_rfl
theorem f_heard : (Try.prog.stopsHeard) = true := by kernel_rfl
theorem f_enter : (Try.prog.mayEnter) = true := by
  obtain ⟨r, hr⟩ := ioWords
  exact enter_of hr (by kernel_rfl) (by kernel_rfl) (by kernel_rfl)
theorem f_lifts : (false == Try.prog.liftsFinal) = true := by
  obtain ⟨r, hr⟩ := ioWords
  rw [lifts_of hr]
  rfl
theorem f_make : (Try.prog.make == some .cut) = true := by
  obtain ⟨r, hr⟩ := ioWords
  rw [make_of hr]
  rfl
end Go.Proofs.Ytliklgcfdgdigaa.Awp

namespace Go.Proofs.Ytliklgcfdgdigaa.Awp
open Go.Proofs Go.Proofs.Ytliklgcfdgdigaa
set_option linter.unusedSimpArgs false
set_option linter.unusedVariables false
set_option maxRecDepth 100000

theorem j0_FnExactFreeBlocks : (Rows.fnExactFreeBlocksRow.wf (OpenSpec.ofChange Rows.fnExactFreeBlocksSpec)) = true := by kernel_rfl
theorem j3_FnExactFreeBlocks : (Try.f22.params.all (Try.prog.readableRec ·)) = true := by kernel_rfl
theorem j4_FnExactFreeBlocks : (namedTie Try.prog Rows.fnExactFreeBlocksRow.named Rows.fnExactFreeBlocksSpec.vars) = true := by kernel_rfl
theorem j5_FnExactFreeBlocks : ((Rows.fnExactFreeBlocksRow.stops == [])) = true := by kernel_rfl
theorem j7_FnExactFreeBlocks : ((Rows.fnExactFreeBlocksRow.knobs == [])) = true := by kernel_rfl
theorem j9_FnExactFreeBlocks : ((Rows.fnExactFreeBlocksRow.inPlace == Try.prog.inPlace 22)) = true := by kernel_rfl
theorem j10_FnExactFreeBlocks : ((Rows.fnExactFreeBlocksRow.unfollowed == Try.prog.unfollowed 22)) = true := by kernel_rfl
theorem j11_FnExactFreeBlocks : ((Rows.fnExactFreeBlocksRow.recurses == Try.prog.recurses 22)) = true := by kernel_rfl
theorem j12_FnExactFreeBlocks : ((Rows.fnExactFreeBlocksRow.named == Try.prog.varsNamed 22)) = true := by kernel_rfl
theorem j13_FnExactFreeBlocks : ((Rows.fnExactFreeBlocksRow.maps == (Try.f22.params.toList ++ Rows.fnExactFreeBlocksSpec.plain.varTypes Try.prog).any (Try.prog.mapsRec ·))) = true := by kernel_rfl
theorem j14_FnExactFreeBlocks : ((Rows.fnExactFreeBlocksRow.ifaces == (Try.f22.params.toList ++ Rows.fnExactFreeBlocksSpec.plain.varTypes Try.prog).any (Try.prog.ifacesRec ·))) = true := by kernel_rfl
theorem j15_FnExactFreeBlocks : ((Rows.fnExactFreeBlocksRow.mapsOut == Try.prog.mapsAmong Try.f22.resultTypes.toList)) = true := by kernel_rfl
theorem j16_FnExactFreeBlocks : ((Rows.fnExactFreeBlocksRow.loops == (Try.f22.params.toList ++ Rows.fnExactFreeBlocksSpec.plain.varTypes Try.prog).any (Try.prog.loopsFrom ·))) = true := by kernel_rfl
theorem j17_FnExactFreeBlocks : ((Rows.fnExactFreeBlocksRow.wideKeys == (Try.f22.params.toList ++ Rows.fnExactFreeBlocksSpec.plain.varTypes Try.prog ++ Try.f22.resultTypes.toList).any (Try.prog.wideKeysFrom ·))) = true := by kernel_rfl
theorem j18_FnExactFreeBlocks : (Rows.fnExactFreeBlocksSpec.vars.all (Try.prog.varReadable ·)) = true := by kernel_rfl
theorem j19_FnExactFreeBlocks : (Try.f22.resultTypes.all (fun t => Try.prog.readableRec t && decide (t < Try.prog.types.size))) = true := by kernel_rfl
theorem j20_FnExactFreeBlocks : ((Rows.fnExactFreeBlocksRow.ifacesOut == Try.f22.resultTypes.toList.any (Try.prog.ifacesRec ·))) = true := by kernel_rfl
theorem j21_FnExactFreeBlocks : ((Rows.fnExactFreeBlocksRow.loopsOut == Try.f22.resultTypes.toList.any (Try.prog.loopsFrom ·))) = true := by kernel_rfl
theorem j22_FnExactFreeBlocks : ((Rows.fnExactFreeBlocksRow.plainKeys == Try.prog.plainKeys)) = true := by kernel_rfl
theorem j23_FnExactFreeBlocks : (Rows.fnExactFreeBlocksRow.shortTexts.isNone) = true := by kernel_rfl
theorem j28_FnExactFreeBlocks : ((Rows.fnExactFreeBlocksRow.kinds == (if Rows.fnExactFreeBlocksRow.domain.isEmpty then [] else Try.f22.params.toList.map fun t => match Try.prog.underlying t with | some (.int k) => some k | _ => none))) = true := by kernel_rfl
theorem j29_FnExactFreeBlocks : ((Rows.fnExactFreeBlocksRow.pinned == Rows.fnExactFreeBlocksRow.pinnedBy)) = true := by kernel_rfl
theorem j30_FnExactFreeBlocks : ((Rows.fnExactFreeBlocksRow.veiled == (Try.f22.params.toList ++ Rows.fnExactFreeBlocksSpec.plain.varTypes Try.prog ++ Try.f22.resultTypes.toList).any (Try.prog.veiledRec ·))) = true := by kernel_rfl
theorem j31_FnExactFreeBlocks : (Rows.fnExactFreeBlocksRow.veiledFits Try.prog Try.f22.params.toList (Try.f22.params.toList ++ Rows.fnExactFreeBlocksSpec.plain.varTypes Try.prog ++ Try.f22.resultTypes.toList)) = true := by kernel_rfl
theorem jf_FnExactFreeBlocks : joinedFacts Try.prog 22 Try.f22 Rows.fnExactFreeBlocksSpec Rows.fnExactFreeBlocksRow = true :=
  joined_of j0_FnExactFreeBlocks f_laid f_maps j3_FnExactFreeBlocks j4_FnExactFreeBlocks j5_FnExactFreeBlocks f_stops j7_FnExactFreeBlocks f_knobs j9_FnExactFreeBlocks j10_FnExactFreeBlocks j11_FnExactFreeBlocks j12_FnExactFreeBlocks j13_FnExactFreeBlocks j14_FnExactFreeBlocks j15_FnExactFreeBlocks j16_FnExactFreeBlocks j17_FnExactFreeBlocks j18_FnExactFreeBlocks j19_FnExactFreeBlocks j20_FnExactFreeBlocks j21_FnExactFreeBlocks j22_FnExactFreeBlocks j23_FnExactFreeBlocks f_heard f_enter f_lifts f_make j28_FnExactFreeBlocks j29_FnExactFreeBlocks j30_FnExactFreeBlocks j31_FnExactFreeBlocks

theorem lift_FnExactFreeBlocks (os : Os) (started : os.Started) (H : Type) (enc : TypeId × Value → H) :
    ReturnsInHanded {} Try.checked os 22 .any (Rows.fnExactFreeBlocksSpec.pre6 enc Try.prog Try.f22 Rows.fnExactFreeBlocksRow.domain false) (Rows.fnExactFreeBlocksSpec.post enc Try.prog Try.f22 false true false false) := by
  refine law_returns (C := Try.checked) (pars := [(true, Log.shape)]) own started (by kernel_rfl) Try.func22
    (ChangeSpec.witness6 (enc := enc) (C := Try.checked) false ⟨#[], #[.agg #[.slice none 0 0, .int .i64 0, .slice none 0 0, .bool false, .int .i64 0]], []⟩ 8 (by kernel_rfl) (by kernel_rfl) (by kernel_rfl) (by kernel_rfl))
    rfl (by kernel_rfl) rfl (by kernel_rfl) ?_ ?_
  · intro ds hd
    match ds, hd with
    | [d0], _ => rfl
  · intro tss h
    match tss, h with
    | [t0], ⟨h0, _⟩ =>
      obtain ⟨r, rfl, hf⟩ := Log.ofShp t0 h0
      exact ⟨_, s_FnExactFreeBlocks r hf⟩

theorem hw_FnExactFreeBlocks : Try.f22.isWrapper Try.prog Rows.fnExactFreeBlocksRow.wrapper Rows.fnExactFreeBlocksRow.mainSum := by
  unfold Func.isWrapper; first | (rw [if_pos (by decide +kernel)]; kernel_rfl) | (rw [if_neg (by decide +kernel)]; exact ⟨rfl, rfl⟩)

theorem law_FnExactFreeBlocks : Rows.FnExactFreeBlocksSaid :=
  OpenClaim.holds_of_wide 22 Try.f22 rfl rfl rfl rfl rfl rfl rfl ⟨rfl, rfl, rfl, rfl, rfl⟩ rfl rfl rfl rfl rfl (by kernel_rfl) Try.func22 jf_FnExactFreeBlocks
    (of_decide_eq_true (by kernel_rfl)) hw_FnExactFreeBlocks
    (fun os started H enc _ => lift_FnExactFreeBlocks os started H enc)
end Go.Proofs.Ytliklgcfdgdigaa.Awp

namespace Go.Proofs.Ytliklgcfdgdigaa
/-- the given statement -/
theorem provedFnExactFreeBlocks : Rows.FnExactFreeBlocksSaid := Awp.law_FnExactFreeBlocks
end Go.Proofs.Ytliklgcfdgdigaa
#print axioms Go.Proofs.Ytliklgcfdgdigaa.provedFnExactFreeBlocks
