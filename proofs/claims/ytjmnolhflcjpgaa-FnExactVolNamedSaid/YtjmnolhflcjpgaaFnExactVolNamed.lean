/- The law FnExactVolNamed (the program and the reference find a volume by its name at the same place) holds for every argument: the given statement FnExactVolNamedSaid is proved. Condition: none. -/
import Derived.Test.YtjmnolhflcjpgaaAwp4
import Derived.Test.YtjmnolhflcjpgaaRows
import Derived.Sort.Walk0
import Derived.OpenShut
import Derived.KernelRfl
namespace Go.Proofs.Ytjmnolhflcjpgaa.Awp
open I

def c_L_FnExactVolNamed : Cmd := Q (R [n 2 (box 2 (v 0)), n 4 (asg 4 k0)]) (Q (Q (R [n 9 (mov 9 (v 1)), n 10 (lens 10 (v 9)), n 11 (bin 11 .gtr (v 10) (k 1048576))]) (F (v 11) (Q (R [n 4 (asg 4 k1)]) .ret) .skip)) (Q (R [n 5 (asg 5 (k 1048576))]) (Q (R [n 12 (ld 12 (v 2) 2 true), n 13 (mov 13 (v 5)), n 14 (call (some 14) 13 [v 12, v 13]), n 5 (asg 5 (v 14))]) (Q (Q (R [n 15 (mov 15 (v 5)), n 16 (bin 16 .lss (v 15) (k 0))]) (F (v 16) (Q (R [n 4 (asg 4 k1)]) .ret) .skip)) (Q (R [n 17 (ld 17 (v 2) 2 true), n 18 (call (some 18) 15 [v 17]), n 19 (mov 19 (v 1)), n 20 (call (some 20) 17 [v 18, v 19]), n 6 (asg 6 (v 20))]) (Q (R [n 21 (ld 21 (v 2) 2 true), n 22 (call (some 22) 15 [v 21]), n 7 (alc 7 [.sl 6 [], .int .i64 0]), m (st (v 7) (v 22) 2)]) (Q (R [n 23 (ld 23 (v 7) 2 true), n 24 (mov 24 (v 1)), n 25 (call (some 25) 18 [v 23, v 24]), n 8 (asg 8 (v 25))]) (Q (Q (R [n 26 (mov 26 (v 8)), n 27 (mov 27 (v 6)), n 28 (bin 28 .neq (v 26) (v 27))]) (F (v 28) (Q (R [n 4 (asg 4 k0)]) .ret) .skip)) (Q (Q (D [0, 0, 2, 7, 15] [n 29 (ld 29 (v 7) 2 true), n 30 (ld 30 (v 2) 2 true), n 31 (call (some 31) 15 [v 30]), n 32 (call (some 32) 10 [v 29, v 31]), n 33 (un 33 .not (v 32))]) (F (v 33) (Q (R [n 4 (asg 4 k0)]) .ret) .skip)) (Q (R [n 4 (asg 4 k1)]) .ret))))))))))
def c_L_eqFs : Cmd := Q (R [n 2 (box 2 (v 0)), n 3 (box 3 (v 1)), n 4 (asg 4 k0)]) (Q (Q (R [n 5 (fld 5 (v 2) 0), n 6 (ld 6 (v 5) 1 false), n 7 (fld 7 (v 3) 0), n 8 (ld 8 (v 7) 1 false), n 9 (call (some 9) 23 [v 6, v 8]), n 10 (un 10 .not (v 9))]) (F (v 10) (Q (R [n 4 (asg 4 k0)]) .ret) .skip)) (Q (Q (R [n 11 (fld 11 (v 2) 1), n 12 (ld 12 (v 11) 1 false), n 13 (fld 13 (v 3) 1), n 14 (ld 14 (v 13) 1 false), n 15 (bin 15 .neq (v 12) (v 14))]) (F (v 15) (Q (R [n 4 (asg 4 k0)]) .ret) .skip)) (Q (R [n 4 (asg 4 k1)]) .ret)))
def c_L_szFs : Cmd := Q (R [n 2 (box 2 (v 0)), n 4 (asg 4 (k 0))]) (Q (R [n 5 (fld 5 (v 2) 0), n 6 (ld 6 (v 5) 1 false), n 7 (mov 7 (v 1)), n 8 (call (some 8) 26 [v 6, v 7]), n 1 (asg 1 (v 8))]) (Q (Q (R [n 9 (mov 9 (v 1)), n 10 (bin 10 .lss (v 9) (k 0))]) (F (v 10) (Q (R [n 4 (asg 4 (k (-1)))]) .ret) .skip)) (Q (R [n 11 (mov 11 (v 1)), n 4 (asg 4 (v 11))]) .ret)))
def c_L_toFs : Cmd := Q (R [n 1 (box 1 (v 0)), n 2 (alc 2 [.sl 6 [], .int .i64 0])]) (Q (R [n 3 (alc 3 [.sl 6 [], .int .i64 0])]) (Q (R [n 4 (fld 4 (v 1) 0), n 5 (ld 5 (v 4) 1 false), n 6 (call (some 6) 27 [v 5]), n 7 (fld 7 (v 3) 0), m (st (v 7) (v 6) 1)]) (Q (R [n 8 (fld 8 (v 1) 1), n 9 (ld 9 (v 8) 1 false), n 10 (fld 10 (v 3) 1), m (st (v 10) (v 9) 1)]) (Q (R [n 11 (ld 11 (v 3) 2 true), m (st (v 2) (v 11) 2)]) .ret))))
def c_S_VolNamed : Cmd := Q (R [n 2 (box 2 (v 0)), n 4 (asg 4 (k 0))]) (Q (Q (R [n 5 (asg 5 (k 0))]) (.blk 0 (.loop (Q (Q (R [n 6 (mov 6 (v 5)), n 7 (fld 7 (v 2) 0), n 8 (ld 8 (v 7) 1 false), n 9 (len 9 (v 8)), n 10 (bin 10 .lss (v 6) (v 9))]) (F (v 10) .skip (.exit 0))) (Q (.blk 1 (Q (R [n 13 (fld 13 (v 2) 0), n 14 (ld 14 (v 13) 1 false), n 15 (mov 15 (v 5)), n 16 (idx 16 (v 14) (v 15) 6), n 17 (fld 17 (v 16) 1), n 18 (ld 18 (v 17) 1 false), n 19 (mov 19 (v 1)), n 20 (bin 20 .eql (v 18) (v 19))]) (F (v 20) (Q (R [n 21 (mov 21 (v 5)), n 4 (asg 4 (v 21))]) .ret) .skip))) (R [n 11 (mov 11 (v 5)), n 12 (bin 12 .add (v 11) (k 1)), n 5 (asg 5 (v 12))])))))) (Q (R [n 4 (asg 4 (k (-1)))]) .ret))
def c_I_VolNamed : Cmd := Q (R [n 2 (box 2 (v 0)), n 3 (box 3 (v 1)), n 4 (asg 4 (k 0))]) (Q (R [n 5 (fld 5 (v 2) 0), n 6 (ld 6 (v 5) 1 false), n 7 (mkf 7 30 [v 3]), n 8 (call (some 8) 28 [v 6, v 7]), n 4 (asg 4 (v 8))]) .ret)
def c_L_eqVolS : Cmd := Q (R [n 4 (asg 4 k0)]) (Q (Q (R [n 6 (mov 6 (v 0)), n 7 (len 7 (v 6)), n 8 (mov 8 (v 1)), n 9 (len 9 (v 8)), n 10 (bin 10 .neq (v 7) (v 9))]) (F (v 10) (Q (R [n 4 (asg 4 k0)]) .ret) .skip)) (Q (Q (R [n 5 (asg 5 (k 0))]) (.blk 0 (.loop (Q (Q (R [n 11 (mov 11 (v 5)), n 12 (mov 12 (v 0)), n 13 (len 13 (v 12)), n 14 (bin 14 .lss (v 11) (v 13))]) (F (v 14) .skip (.exit 0))) (Q (.blk 1 (Q (D [0, 0, 3, 7, 0, 0, 48, 112, 255, 511] [n 17 (mov 17 (v 0)), n 18 (mov 18 (v 5)), n 19 (idx 19 (v 17) (v 18) 6), n 20 (ld 20 (v 19) 6 true), n 21 (mov 21 (v 1)), n 22 (mov 22 (v 5)), n 23 (idx 23 (v 21) (v 22) 6), n 24 (ld 24 (v 23) 6 true), n 25 (call (some 25) 44 [v 20, v 24]), n 26 (un 26 .not (v 25))]) (F (v 26) (Q (R [n 4 (asg 4 k0)]) .ret) .skip))) (R [n 15 (mov 15 (v 5)), n 16 (bin 16 .add (v 15) (k 1)), n 5 (asg 5 (v 16))])))))) (Q (R [n 4 (asg 4 k1)]) .ret)))
def c_L_szVolS : Cmd := Q (R [n 4 (asg 4 (k 0))]) (Q (R [n 6 (mov 6 (v 1)), n 7 (mov 7 (v 0)), n 8 (len 8 (v 7)), n 9 (bin 9 .sub (v 6) (v 8)), n 1 (asg 1 (v 9))]) (Q (Q (R [n 10 (mov 10 (v 1)), n 11 (bin 11 .lss (v 10) (k 0))]) (F (v 11) (Q (R [n 4 (asg 4 (k (-1)))]) .ret) .skip)) (Q (Q (R [n 5 (asg 5 (k 0))]) (.blk 0 (.loop (Q (Q (R [n 12 (mov 12 (v 5)), n 13 (mov 13 (v 0)), n 14 (len 14 (v 13)), n 15 (bin 15 .lss (v 12) (v 14))]) (F (v 15) .skip (.exit 0))) (Q (.blk 1 (Q (R [n 18 (mov 18 (v 0)), n 19 (mov 19 (v 5)), n 20 (idx 20 (v 18) (v 19) 6), n 21 (ld 21 (v 20) 6 true), n 22 (mov 22 (v 1)), n 23 (call (some 23) 48 [v 21, v 22]), n 1 (asg 1 (v 23))]) (Q (R [n 24 (mov 24 (v 1)), n 25 (bin 25 .lss (v 24) (k 0))]) (F (v 25) (Q (R [n 4 (asg 4 (k (-1)))]) .ret) .skip)))) (R [n 16 (mov 16 (v 5)), n 17 (bin 17 .add (v 16) (k 1)), n 5 (asg 5 (v 17))])))))) (Q (R [n 26 (mov 26 (v 1)), n 4 (asg 4 (v 26))]) .ret))))
def c_L_toVolS : Cmd := Q (R [n 2 (asg 2 (.c (.own 6 [])))]) (Q (R [n 5 (mov 5 (v 0)), n 6 (len 6 (v 5)), n 7 (mks 7 (v 6) (v 6) 6 72 [.int .i64 0, .str [], .bool false, .int .i64 0, .sl 6 [], .int .i64 0]), n 3 (asg 3 (v 7))]) (Q (Q (R [n 4 (asg 4 (k 0))]) (.blk 0 (.loop (Q (Q (R [n 8 (mov 8 (v 4)), n 9 (mov 9 (v 0)), n 10 (len 10 (v 9)), n 11 (bin 11 .lss (v 8) (v 10))]) (F (v 11) .skip (.exit 0))) (Q (.blk 1 (R [n 14 (mov 14 (v 3)), n 15 (mov 15 (v 4)), n 16 (mov 16 (v 0)), n 17 (mov 17 (v 4)), n 18 (idx 18 (v 16) (v 17) 6), n 19 (ld 19 (v 18) 6 true), n 20 (call (some 20) 49 [v 19]), n 21 (idx 21 (v 14) (v 15) 6), m (st (v 21) (v 20) 6)])) (R [n 12 (mov 12 (v 4)), n 13 (bin 13 .add (v 12) (k 1)), n 4 (asg 4 (v 13))])))))) (Q (R [n 22 (mov 22 (v 3)), n 2 (asg 2 (v 22))]) .ret)))
def c_X_IndexFunc_Vol : Cmd := Q (R [n 4 (asg 4 (k 0))]) (Q (Q (R [n 6 (mov 6 (v 0)), n 7 (len 7 (v 6)), n 8 (mov 8 (k 0))]) (.blk 0 (.loop (Q (R [n 9 (bin 9 .lss (v 8) (v 7))]) (Q (F (v 9) .skip (.exit 0)) (Q (.blk 1 (Q (R [n 10 (mov 10 (v 8)), n 5 (asg 5 (v 10))]) (Q (R [n 11 (mov 11 (v 1)), n 12 (mov 12 (v 0)), n 13 (mov 13 (v 5)), n 14 (idx 14 (v 12) (v 13) 6), n 15 (ld 15 (v 14) 6 true), n 16 (callv (some 16) (v 11) [v 15])]) (F (v 16) (Q (R [n 17 (mov 17 (v 5)), n 4 (asg 4 (v 17))]) .ret) .skip)))) (R [n 18 (bin 18 .add (v 8) (k 1)), n 8 (mov 8 (v 18))]))))))) (Q (R [n 4 (asg 4 (k (-1)))]) .ret))
def c_I_VolNamed_1 : Cmd := Q (R [n 2 (box 2 (v 0)), n 3 (asg 3 k0)]) (Q (R [n 4 (fld 4 (v 2) 1), n 5 (ld 5 (v 4) 1 false), n 6 (ld 6 (v 1) 1 false), n 7 (bin 7 .eql (v 5) (v 6)), n 3 (asg 3 (v 7))]) .ret)
def c_L_eqVol : Cmd := Q (R [n 2 (box 2 (v 0)), n 3 (box 3 (v 1)), n 4 (asg 4 k0)]) (Q (Q (R [n 5 (fld 5 (v 2) 0), n 6 (ld 6 (v 5) 1 false), n 7 (fld 7 (v 3) 0), n 8 (ld 8 (v 7) 1 false), n 9 (bin 9 .neq (v 6) (v 8))]) (F (v 9) (Q (R [n 4 (asg 4 k0)]) .ret) .skip)) (Q (Q (R [n 10 (fld 10 (v 2) 1), n 11 (ld 11 (v 10) 1 false), n 12 (fld 12 (v 3) 1), n 13 (ld 13 (v 12) 1 false), n 14 (bin 14 .neq (v 11) (v 13))]) (F (v 14) (Q (R [n 4 (asg 4 k0)]) .ret) .skip)) (Q (Q (R [n 15 (fld 15 (v 2) 2), n 16 (ld 16 (v 15) 1 false), n 17 (fld 17 (v 3) 2), n 18 (ld 18 (v 17) 1 false), n 19 (beq 19 true (v 16) (v 18))]) (F (v 19) (Q (R [n 4 (asg 4 k0)]) .ret) .skip)) (Q (Q (R [n 20 (fld 20 (v 2) 3), n 21 (ld 21 (v 20) 1 false), n 22 (fld 22 (v 3) 3), n 23 (ld 23 (v 22) 1 false), n 24 (bin 24 .neq (v 21) (v 23))]) (F (v 24) (Q (R [n 4 (asg 4 k0)]) .ret) .skip)) (Q (Q (R [n 25 (fld 25 (v 2) 4), n 26 (ld 26 (v 25) 2 true), n 27 (fld 27 (v 3) 4), n 28 (ld 28 (v 27) 2 true), n 29 (call (some 29) 61 [v 26, v 28]), n 30 (un 30 .not (v 29))]) (F (v 30) (Q (R [n 4 (asg 4 k0)]) .ret) .skip)) (Q (R [n 4 (asg 4 k1)]) .ret))))))
def c_L_szVol : Cmd := Q (R [n 2 (box 2 (v 0)), n 4 (asg 4 (k 0))]) (Q (R [n 5 (mov 5 (v 1)), n 6 (fld 6 (v 2) 1), n 7 (ld 7 (v 6) 1 false), n 8 (lens 8 (v 7)), n 9 (bin 9 .sub (v 5) (v 8)), n 1 (asg 1 (v 9))]) (Q (Q (R [n 10 (mov 10 (v 1)), n 11 (bin 11 .lss (v 10) (k 0))]) (F (v 11) (Q (R [n 4 (asg 4 (k (-1)))]) .ret) .skip)) (Q (R [n 12 (fld 12 (v 2) 4), n 13 (ld 13 (v 12) 2 true), n 14 (mov 14 (v 1)), n 15 (call (some 15) 68 [v 13, v 14]), n 1 (asg 1 (v 15))]) (Q (Q (R [n 16 (mov 16 (v 1)), n 17 (bin 17 .lss (v 16) (k 0))]) (F (v 17) (Q (R [n 4 (asg 4 (k (-1)))]) .ret) .skip)) (Q (R [n 18 (mov 18 (v 1)), n 4 (asg 4 (v 18))]) .ret)))))
def c_L_toVol : Cmd := Q (R [n 1 (box 1 (v 0)), n 2 (alc 2 [.int .i64 0, .str [], .bool false, .int .i64 0, .sl 6 [], .int .i64 0])]) (Q (R [n 3 (alc 3 [.int .i64 0, .str [], .bool false, .int .i64 0, .sl 6 [], .int .i64 0])]) (Q (R [n 4 (fld 4 (v 1) 0), n 5 (ld 5 (v 4) 1 false), n 6 (fld 6 (v 3) 0), m (st (v 6) (v 5) 1)]) (Q (R [n 7 (fld 7 (v 1) 1), n 8 (ld 8 (v 7) 1 false), n 9 (fld 9 (v 3) 1), m (st (v 9) (v 8) 1)]) (Q (R [n 10 (fld 10 (v 1) 2), n 11 (ld 11 (v 10) 1 false), n 12 (fld 12 (v 3) 2), m (st (v 12) (v 11) 1)]) (Q (R [n 13 (fld 13 (v 1) 3), n 14 (ld 14 (v 13) 1 false), n 15 (fld 15 (v 3) 3), m (st (v 15) (v 14) 1)]) (Q (R [n 16 (fld 16 (v 1) 4), n 17 (ld 17 (v 16) 2 true), n 18 (call (some 18) 69 [v 17]), n 19 (fld 19 (v 3) 4), m (st (v 19) (v 18) 2)]) (Q (R [n 20 (ld 20 (v 3) 6 true), m (st (v 2) (v 20) 6)]) .ret)))))))
def c_L_eqTab : Cmd := Q (R [n 2 (box 2 (v 0)), n 3 (box 3 (v 1)), n 4 (asg 4 k0)]) (Q (Q (R [n 5 (fld 5 (v 2) 0), n 6 (ld 6 (v 5) 1 false), n 7 (fld 7 (v 3) 0), n 8 (ld 8 (v 7) 1 false), n 9 (call (some 9) 82 [v 6, v 8]), n 10 (un 10 .not (v 9))]) (F (v 10) (Q (R [n 4 (asg 4 k0)]) .ret) .skip)) (Q (Q (R [n 11 (fld 11 (v 2) 1), n 12 (ld 12 (v 11) 1 false), n 13 (fld 13 (v 3) 1), n 14 (ld 14 (v 13) 1 false), n 15 (bin 15 .neq (v 12) (v 14))]) (F (v 15) (Q (R [n 4 (asg 4 k0)]) .ret) .skip)) (Q (R [n 4 (asg 4 k1)]) .ret)))
def c_L_szTab : Cmd := Q (R [n 2 (box 2 (v 0)), n 4 (asg 4 (k 0))]) (Q (R [n 5 (fld 5 (v 2) 0), n 6 (ld 6 (v 5) 1 false), n 7 (mov 7 (v 1)), n 8 (call (some 8) 83 [v 6, v 7]), n 1 (asg 1 (v 8))]) (Q (Q (R [n 9 (mov 9 (v 1)), n 10 (bin 10 .lss (v 9) (k 0))]) (F (v 10) (Q (R [n 4 (asg 4 (k (-1)))]) .ret) .skip)) (Q (R [n 11 (mov 11 (v 1)), n 4 (asg 4 (v 11))]) .ret)))
def c_L_toTab : Cmd := Q (R [n 1 (box 1 (v 0)), n 2 (alc 2 [.sl 6 [], .int .i64 0])]) (Q (R [n 3 (alc 3 [.sl 6 [], .int .i64 0])]) (Q (R [n 4 (fld 4 (v 1) 0), n 5 (ld 5 (v 4) 1 false), n 6 (call (some 6) 84 [v 5]), n 7 (fld 7 (v 3) 0), m (st (v 7) (v 6) 1)]) (Q (R [n 8 (fld 8 (v 1) 1), n 9 (ld 9 (v 8) 1 false), n 10 (fld 10 (v 3) 1), m (st (v 10) (v 9) 1)]) (Q (R [n 11 (ld 11 (v 3) 2 true), m (st (v 2) (v 11) 2)]) .ret))))
def c_L_eqInodeS : Cmd := Q (R [n 4 (asg 4 k0)]) (Q (Q (R [n 6 (mov 6 (v 0)), n 7 (len 7 (v 6)), n 8 (mov 8 (v 1)), n 9 (len 9 (v 8)), n 10 (bin 10 .neq (v 7) (v 9))]) (F (v 10) (Q (R [n 4 (asg 4 k0)]) .ret) .skip)) (Q (Q (R [n 5 (asg 5 (k 0))]) (.blk 0 (.loop (Q (Q (R [n 11 (mov 11 (v 5)), n 12 (mov 12 (v 0)), n 13 (len 13 (v 12)), n 14 (bin 14 .lss (v 11) (v 13))]) (F (v 14) .skip (.exit 0))) (Q (.blk 1 (Q (D [0, 0, 3, 7, 0, 0, 48, 112, 255, 511] [n 17 (mov 17 (v 0)), n 18 (mov 18 (v 5)), n 19 (idx 19 (v 17) (v 18) 6), n 20 (ld 20 (v 19) 6 true), n 21 (mov 21 (v 1)), n 22 (mov 22 (v 5)), n 23 (idx 23 (v 21) (v 22) 6), n 24 (ld 24 (v 23) 6 true), n 25 (call (some 25) 94 [v 20, v 24]), n 26 (un 26 .not (v 25))]) (F (v 26) (Q (R [n 4 (asg 4 k0)]) .ret) .skip))) (R [n 15 (mov 15 (v 5)), n 16 (bin 16 .add (v 15) (k 1)), n 5 (asg 5 (v 16))])))))) (Q (R [n 4 (asg 4 k1)]) .ret)))
def c_L_szInodeS : Cmd := Q (R [n 4 (asg 4 (k 0))]) (Q (R [n 6 (mov 6 (v 1)), n 7 (mov 7 (v 0)), n 8 (len 8 (v 7)), n 9 (bin 9 .sub (v 6) (v 8)), n 1 (asg 1 (v 9))]) (Q (Q (R [n 10 (mov 10 (v 1)), n 11 (bin 11 .lss (v 10) (k 0))]) (F (v 11) (Q (R [n 4 (asg 4 (k (-1)))]) .ret) .skip)) (Q (Q (R [n 5 (asg 5 (k 0))]) (.blk 0 (.loop (Q (Q (R [n 12 (mov 12 (v 5)), n 13 (mov 13 (v 0)), n 14 (len 14 (v 13)), n 15 (bin 15 .lss (v 12) (v 14))]) (F (v 15) .skip (.exit 0))) (Q (.blk 1 (Q (R [n 18 (mov 18 (v 0)), n 19 (mov 19 (v 5)), n 20 (idx 20 (v 18) (v 19) 6), n 21 (ld 21 (v 20) 6 true), n 22 (mov 22 (v 1)), n 23 (call (some 23) 95 [v 21, v 22]), n 1 (asg 1 (v 23))]) (Q (R [n 24 (mov 24 (v 1)), n 25 (bin 25 .lss (v 24) (k 0))]) (F (v 25) (Q (R [n 4 (asg 4 (k (-1)))]) .ret) .skip)))) (R [n 16 (mov 16 (v 5)), n 17 (bin 17 .add (v 16) (k 1)), n 5 (asg 5 (v 17))])))))) (Q (R [n 26 (mov 26 (v 1)), n 4 (asg 4 (v 26))]) .ret))))
def c_L_toInodeS : Cmd := Q (R [n 2 (asg 2 (.c (.own 6 [])))]) (Q (R [n 5 (mov 5 (v 0)), n 6 (len 6 (v 5)), n 7 (mks 7 (v 6) (v 6) 6 96 [.int .i64 0, .int .i64 0, .int .i64 0, .sl 1 [], .sl 2 [], .sl 2 []]), n 3 (asg 3 (v 7))]) (Q (Q (R [n 4 (asg 4 (k 0))]) (.blk 0 (.loop (Q (Q (R [n 8 (mov 8 (v 4)), n 9 (mov 9 (v 0)), n 10 (len 10 (v 9)), n 11 (bin 11 .lss (v 8) (v 10))]) (F (v 11) .skip (.exit 0))) (Q (.blk 1 (R [n 14 (mov 14 (v 3)), n 15 (mov 15 (v 4)), n 16 (mov 16 (v 0)), n 17 (mov 17 (v 4)), n 18 (idx 18 (v 16) (v 17) 6), n 19 (ld 19 (v 18) 6 true), n 20 (call (some 20) 96 [v 19]), n 21 (idx 21 (v 14) (v 15) 6), m (st (v 21) (v 20) 6)])) (R [n 12 (mov 12 (v 4)), n 13 (bin 13 .add (v 12) (k 1)), n 4 (asg 4 (v 13))])))))) (Q (R [n 22 (mov 22 (v 3)), n 2 (asg 2 (v 22))]) .ret)))
def c_L_eqInode : Cmd := Q (R [n 2 (box 2 (v 0)), n 3 (box 3 (v 1)), n 4 (asg 4 k0)]) (Q (Q (R [n 5 (fld 5 (v 2) 0), n 6 (ld 6 (v 5) 1 false), n 7 (fld 7 (v 3) 0), n 8 (ld 8 (v 7) 1 false), n 9 (bin 9 .neq (v 6) (v 8))]) (F (v 9) (Q (R [n 4 (asg 4 k0)]) .ret) .skip)) (Q (Q (R [n 10 (fld 10 (v 2) 1), n 11 (ld 11 (v 10) 1 false), n 12 (fld 12 (v 3) 1), n 13 (ld 13 (v 12) 1 false), n 14 (bin 14 .neq (v 11) (v 13))]) (F (v 14) (Q (R [n 4 (asg 4 k0)]) .ret) .skip)) (Q (Q (R [n 15 (fld 15 (v 2) 2), n 16 (ld 16 (v 15) 1 false), n 17 (fld 17 (v 3) 2), n 18 (ld 18 (v 17) 1 false), n 19 (bin 19 .neq (v 16) (v 18))]) (F (v 19) (Q (R [n 4 (asg 4 k0)]) .ret) .skip)) (Q (Q (R [n 20 (fld 20 (v 2) 3), n 21 (ld 21 (v 20) 1 false), n 22 (fld 22 (v 3) 3), n 23 (ld 23 (v 22) 1 false), n 24 (call (some 24) 113 [v 21, v 23]), n 25 (un 25 .not (v 24))]) (F (v 25) (Q (R [n 4 (asg 4 k0)]) .ret) .skip)) (Q (Q (R [n 26 (fld 26 (v 2) 4), n 27 (ld 27 (v 26) 1 false), n 28 (fld 28 (v 3) 4), n 29 (ld 29 (v 28) 1 false), n 30 (call (some 30) 114 [v 27, v 29]), n 31 (un 31 .not (v 30))]) (F (v 31) (Q (R [n 4 (asg 4 k0)]) .ret) .skip)) (Q (Q (R [n 32 (fld 32 (v 2) 5), n 33 (ld 33 (v 32) 1 false), n 34 (fld 34 (v 3) 5), n 35 (ld 35 (v 34) 1 false), n 36 (call (some 36) 115 [v 33, v 35]), n 37 (un 37 .not (v 36))]) (F (v 37) (Q (R [n 4 (asg 4 k0)]) .ret) .skip)) (Q (R [n 4 (asg 4 k1)]) .ret)))))))
def c_L_szInode : Cmd := Q (R [n 2 (box 2 (v 0)), n 4 (asg 4 (k 0))]) (Q (R [n 5 (fld 5 (v 2) 3), n 6 (ld 6 (v 5) 1 false), n 7 (mov 7 (v 1)), n 8 (call (some 8) 116 [v 6, v 7]), n 1 (asg 1 (v 8))]) (Q (Q (R [n 9 (mov 9 (v 1)), n 10 (bin 10 .lss (v 9) (k 0))]) (F (v 10) (Q (R [n 4 (asg 4 (k (-1)))]) .ret) .skip)) (Q (R [n 11 (fld 11 (v 2) 4), n 12 (ld 12 (v 11) 1 false), n 13 (mov 13 (v 1)), n 14 (call (some 14) 117 [v 12, v 13]), n 1 (asg 1 (v 14))]) (Q (Q (R [n 15 (mov 15 (v 1)), n 16 (bin 16 .lss (v 15) (k 0))]) (F (v 16) (Q (R [n 4 (asg 4 (k (-1)))]) .ret) .skip)) (Q (R [n 17 (fld 17 (v 2) 5), n 18 (ld 18 (v 17) 1 false), n 19 (mov 19 (v 1)), n 20 (call (some 20) 118 [v 18, v 19]), n 1 (asg 1 (v 20))]) (Q (Q (R [n 21 (mov 21 (v 1)), n 22 (bin 22 .lss (v 21) (k 0))]) (F (v 22) (Q (R [n 4 (asg 4 (k (-1)))]) .ret) .skip)) (Q (R [n 23 (mov 23 (v 1)), n 4 (asg 4 (v 23))]) .ret)))))))
def c_L_toInode : Cmd := Q (R [n 1 (box 1 (v 0)), n 2 (alc 2 [.int .i64 0, .int .i64 0, .int .i64 0, .sl 1 [], .sl 2 [], .sl 2 []])]) (Q (R [n 3 (alc 3 [.int .i64 0, .int .i64 0, .int .i64 0, .sl 1 [], .sl 2 [], .sl 2 []])]) (Q (R [n 4 (fld 4 (v 1) 0), n 5 (ld 5 (v 4) 1 false), n 6 (fld 6 (v 3) 0), m (st (v 6) (v 5) 1)]) (Q (R [n 7 (fld 7 (v 1) 1), n 8 (ld 8 (v 7) 1 false), n 9 (fld 9 (v 3) 1), m (st (v 9) (v 8) 1)]) (Q (R [n 10 (fld 10 (v 1) 2), n 11 (ld 11 (v 10) 1 false), n 12 (fld 12 (v 3) 2), m (st (v 12) (v 11) 1)]) (Q (R [n 13 (fld 13 (v 1) 3), n 14 (ld 14 (v 13) 1 false), n 15 (call (some 15) 119 [v 14]), n 16 (fld 16 (v 3) 3), m (st (v 16) (v 15) 1)]) (Q (R [n 17 (fld 17 (v 1) 4), n 18 (ld 18 (v 17) 1 false), n 19 (call (some 19) 120 [v 18]), n 20 (fld 20 (v 3) 4), m (st (v 20) (v 19) 1)]) (Q (R [n 21 (fld 21 (v 1) 5), n 22 (ld 22 (v 21) 1 false), n 23 (call (some 23) 121 [v 22]), n 24 (fld 24 (v 3) 5), m (st (v 24) (v 23) 1)]) (Q (R [n 25 (ld 25 (v 3) 6 true), m (st (v 2) (v 25) 6)]) .ret))))))))
def c_L_eqByteS : Cmd := Q (R [n 4 (asg 4 k0)]) (Q (Q (R [n 6 (mov 6 (v 0)), n 7 (len 7 (v 6)), n 8 (mov 8 (v 1)), n 9 (len 9 (v 8)), n 10 (bin 10 .neq (v 7) (v 9))]) (F (v 10) (Q (R [n 4 (asg 4 k0)]) .ret) .skip)) (Q (Q (R [n 5 (asg 5 (k 0))]) (.blk 0 (.loop (Q (Q (R [n 11 (mov 11 (v 5)), n 12 (mov 12 (v 0)), n 13 (len 13 (v 12)), n 14 (bin 14 .lss (v 11) (v 13))]) (F (v 14) .skip (.exit 0))) (Q (.blk 1 (Q (D [0, 0, 3, 7, 0, 0, 48, 112, 255] [n 17 (mov 17 (v 0)), n 18 (mov 18 (v 5)), n 19 (idx 19 (v 17) (v 18) 1), n 20 (ld 20 (v 19) 1 false), n 21 (mov 21 (v 1)), n 22 (mov 22 (v 5)), n 23 (idx 23 (v 21) (v 22) 1), n 24 (ld 24 (v 23) 1 false), n 25 (bin 25 .neq (v 20) (v 24))]) (F (v 25) (Q (R [n 4 (asg 4 k0)]) .ret) .skip))) (R [n 15 (mov 15 (v 5)), n 16 (bin 16 .add (v 15) (k 1)), n 5 (asg 5 (v 16))])))))) (Q (R [n 4 (asg 4 k1)]) .ret)))
def c_L_eqEntS : Cmd := Q (R [n 4 (asg 4 k0)]) (Q (Q (R [n 6 (mov 6 (v 0)), n 7 (len 7 (v 6)), n 8 (mov 8 (v 1)), n 9 (len 9 (v 8)), n 10 (bin 10 .neq (v 7) (v 9))]) (F (v 10) (Q (R [n 4 (asg 4 k0)]) .ret) .skip)) (Q (Q (R [n 5 (asg 5 (k 0))]) (.blk 0 (.loop (Q (Q (R [n 11 (mov 11 (v 5)), n 12 (mov 12 (v 0)), n 13 (len 13 (v 12)), n 14 (bin 14 .lss (v 11) (v 13))]) (F (v 14) .skip (.exit 0))) (Q (.blk 1 (Q (D [0, 0, 3, 7, 0, 0, 48, 112, 255, 511] [n 17 (mov 17 (v 0)), n 18 (mov 18 (v 5)), n 19 (idx 19 (v 17) (v 18) 2), n 20 (ld 20 (v 19) 2 true), n 21 (mov 21 (v 1)), n 22 (mov 22 (v 5)), n 23 (idx 23 (v 21) (v 22) 2), n 24 (ld 24 (v 23) 2 true), n 25 (call (some 25) 128 [v 20, v 24]), n 26 (un 26 .not (v 25))]) (F (v 26) (Q (R [n 4 (asg 4 k0)]) .ret) .skip))) (R [n 15 (mov 15 (v 5)), n 16 (bin 16 .add (v 15) (k 1)), n 5 (asg 5 (v 16))])))))) (Q (R [n 4 (asg 4 k1)]) .ret)))
def c_L_eqAttrS : Cmd := Q (R [n 4 (asg 4 k0)]) (Q (Q (R [n 6 (mov 6 (v 0)), n 7 (len 7 (v 6)), n 8 (mov 8 (v 1)), n 9 (len 9 (v 8)), n 10 (bin 10 .neq (v 7) (v 9))]) (F (v 10) (Q (R [n 4 (asg 4 k0)]) .ret) .skip)) (Q (Q (R [n 5 (asg 5 (k 0))]) (.blk 0 (.loop (Q (Q (R [n 11 (mov 11 (v 5)), n 12 (mov 12 (v 0)), n 13 (len 13 (v 12)), n 14 (bin 14 .lss (v 11) (v 13))]) (F (v 14) .skip (.exit 0))) (Q (.blk 1 (Q (D [0, 0, 3, 7, 0, 0, 48, 112, 255, 511] [n 17 (mov 17 (v 0)), n 18 (mov 18 (v 5)), n 19 (idx 19 (v 17) (v 18) 2), n 20 (ld 20 (v 19) 2 true), n 21 (mov 21 (v 1)), n 22 (mov 22 (v 5)), n 23 (idx 23 (v 21) (v 22) 2), n 24 (ld 24 (v 23) 2 true), n 25 (call (some 25) 129 [v 20, v 24]), n 26 (un 26 .not (v 25))]) (F (v 26) (Q (R [n 4 (asg 4 k0)]) .ret) .skip))) (R [n 15 (mov 15 (v 5)), n 16 (bin 16 .add (v 15) (k 1)), n 5 (asg 5 (v 16))])))))) (Q (R [n 4 (asg 4 k1)]) .ret)))
def c_L_szByteS : Cmd := Q (R [n 4 (asg 4 (k 0))]) (Q (R [n 5 (mov 5 (v 1)), n 6 (mov 6 (v 0)), n 7 (len 7 (v 6)), n 8 (bin 8 .sub (v 5) (v 7)), n 1 (asg 1 (v 8))]) (Q (Q (R [n 9 (mov 9 (v 1)), n 10 (bin 10 .lss (v 9) (k 0))]) (F (v 10) (Q (R [n 4 (asg 4 (k (-1)))]) .ret) .skip)) (Q (R [n 11 (mov 11 (v 1)), n 4 (asg 4 (v 11))]) .ret)))
def c_L_szEntS : Cmd := Q (R [n 4 (asg 4 (k 0))]) (Q (R [n 6 (mov 6 (v 1)), n 7 (mov 7 (v 0)), n 8 (len 8 (v 7)), n 9 (bin 9 .sub (v 6) (v 8)), n 1 (asg 1 (v 9))]) (Q (Q (R [n 10 (mov 10 (v 1)), n 11 (bin 11 .lss (v 10) (k 0))]) (F (v 11) (Q (R [n 4 (asg 4 (k (-1)))]) .ret) .skip)) (Q (Q (R [n 5 (asg 5 (k 0))]) (.blk 0 (.loop (Q (Q (R [n 12 (mov 12 (v 5)), n 13 (mov 13 (v 0)), n 14 (len 14 (v 13)), n 15 (bin 15 .lss (v 12) (v 14))]) (F (v 15) .skip (.exit 0))) (Q (.blk 1 (Q (R [n 18 (mov 18 (v 0)), n 19 (mov 19 (v 5)), n 20 (idx 20 (v 18) (v 19) 2), n 21 (ld 21 (v 20) 2 true), n 22 (mov 22 (v 1)), n 23 (call (some 23) 130 [v 21, v 22]), n 1 (asg 1 (v 23))]) (Q (R [n 24 (mov 24 (v 1)), n 25 (bin 25 .lss (v 24) (k 0))]) (F (v 25) (Q (R [n 4 (asg 4 (k (-1)))]) .ret) .skip)))) (R [n 16 (mov 16 (v 5)), n 17 (bin 17 .add (v 16) (k 1)), n 5 (asg 5 (v 17))])))))) (Q (R [n 26 (mov 26 (v 1)), n 4 (asg 4 (v 26))]) .ret))))
def c_L_szAttrS : Cmd := Q (R [n 4 (asg 4 (k 0))]) (Q (R [n 6 (mov 6 (v 1)), n 7 (mov 7 (v 0)), n 8 (len 8 (v 7)), n 9 (bin 9 .sub (v 6) (v 8)), n 1 (asg 1 (v 9))]) (Q (Q (R [n 10 (mov 10 (v 1)), n 11 (bin 11 .lss (v 10) (k 0))]) (F (v 11) (Q (R [n 4 (asg 4 (k (-1)))]) .ret) .skip)) (Q (Q (R [n 5 (asg 5 (k 0))]) (.blk 0 (.loop (Q (Q (R [n 12 (mov 12 (v 5)), n 13 (mov 13 (v 0)), n 14 (len 14 (v 13)), n 15 (bin 15 .lss (v 12) (v 14))]) (F (v 15) .skip (.exit 0))) (Q (.blk 1 (Q (R [n 18 (mov 18 (v 0)), n 19 (mov 19 (v 5)), n 20 (idx 20 (v 18) (v 19) 2), n 21 (ld 21 (v 20) 2 true), n 22 (mov 22 (v 1)), n 23 (call (some 23) 131 [v 21, v 22]), n 1 (asg 1 (v 23))]) (Q (R [n 24 (mov 24 (v 1)), n 25 (bin 25 .lss (v 24) (k 0))]) (F (v 25) (Q (R [n 4 (asg 4 (k (-1)))]) .ret) .skip)))) (R [n 16 (mov 16 (v 5)), n 17 (bin 17 .add (v 16) (k 1)), n 5 (asg 5 (v 17))])))))) (Q (R [n 26 (mov 26 (v 1)), n 4 (asg 4 (v 26))]) .ret))))
def c_L_toByteS : Cmd := Q (R [n 2 (asg 2 (.c (.own 1 [])))]) (Q (R [n 5 (mov 5 (v 0)), n 6 (len 6 (v 5)), n 7 (mks 7 (v 6) (v 6) 1 1 [.int .u8 0]), n 3 (asg 3 (v 7))]) (Q (Q (R [n 4 (asg 4 (k 0))]) (.blk 0 (.loop (Q (Q (R [n 8 (mov 8 (v 4)), n 9 (mov 9 (v 0)), n 10 (len 10 (v 9)), n 11 (bin 11 .lss (v 8) (v 10))]) (F (v 11) .skip (.exit 0))) (Q (.blk 1 (R [n 14 (mov 14 (v 3)), n 15 (mov 15 (v 4)), n 16 (mov 16 (v 0)), n 17 (mov 17 (v 4)), n 18 (idx 18 (v 16) (v 17) 1), n 19 (ld 19 (v 18) 1 false), n 20 (idx 20 (v 14) (v 15) 1), m (st (v 20) (v 19) 1)])) (R [n 12 (mov 12 (v 4)), n 13 (bin 13 .add (v 12) (k 1)), n 4 (asg 4 (v 13))])))))) (Q (R [n 21 (mov 21 (v 3)), n 2 (asg 2 (v 21))]) .ret)))
def c_L_toEntS : Cmd := Q (R [n 2 (asg 2 (.c (.own 2 [])))]) (Q (R [n 5 (mov 5 (v 0)), n 6 (len 6 (v 5)), n 7 (mks 7 (v 6) (v 6) 2 24 [.str [], .int .i64 0]), n 3 (asg 3 (v 7))]) (Q (Q (R [n 4 (asg 4 (k 0))]) (.blk 0 (.loop (Q (Q (R [n 8 (mov 8 (v 4)), n 9 (mov 9 (v 0)), n 10 (len 10 (v 9)), n 11 (bin 11 .lss (v 8) (v 10))]) (F (v 11) .skip (.exit 0))) (Q (.blk 1 (R [n 14 (mov 14 (v 3)), n 15 (mov 15 (v 4)), n 16 (mov 16 (v 0)), n 17 (mov 17 (v 4)), n 18 (idx 18 (v 16) (v 17) 2), n 19 (ld 19 (v 18) 2 true), n 20 (call (some 20) 132 [v 19]), n 21 (idx 21 (v 14) (v 15) 2), m (st (v 21) (v 20) 2)])) (R [n 12 (mov 12 (v 4)), n 13 (bin 13 .add (v 12) (k 1)), n 4 (asg 4 (v 13))])))))) (Q (R [n 22 (mov 22 (v 3)), n 2 (asg 2 (v 22))]) .ret)))
def c_L_toAttrS : Cmd := Q (R [n 2 (asg 2 (.c (.own 2 [])))]) (Q (R [n 5 (mov 5 (v 0)), n 6 (len 6 (v 5)), n 7 (mks 7 (v 6) (v 6) 2 32 [.str [], .str []]), n 3 (asg 3 (v 7))]) (Q (Q (R [n 4 (asg 4 (k 0))]) (.blk 0 (.loop (Q (Q (R [n 8 (mov 8 (v 4)), n 9 (mov 9 (v 0)), n 10 (len 10 (v 9)), n 11 (bin 11 .lss (v 8) (v 10))]) (F (v 11) .skip (.exit 0))) (Q (.blk 1 (R [n 14 (mov 14 (v 3)), n 15 (mov 15 (v 4)), n 16 (mov 16 (v 0)), n 17 (mov 17 (v 4)), n 18 (idx 18 (v 16) (v 17) 2), n 19 (ld 19 (v 18) 2 true), n 20 (call (some 20) 133 [v 19]), n 21 (idx 21 (v 14) (v 15) 2), m (st (v 21) (v 20) 2)])) (R [n 12 (mov 12 (v 4)), n 13 (bin 13 .add (v 12) (k 1)), n 4 (asg 4 (v 13))])))))) (Q (R [n 22 (mov 22 (v 3)), n 2 (asg 2 (v 22))]) .ret)))
def c_L_eqEnt : Cmd := Q (R [n 2 (box 2 (v 0)), n 3 (box 3 (v 1)), n 4 (asg 4 k0)]) (Q (Q (R [n 5 (fld 5 (v 2) 0), n 6 (ld 6 (v 5) 1 false), n 7 (fld 7 (v 3) 0), n 8 (ld 8 (v 7) 1 false), n 9 (bin 9 .neq (v 6) (v 8))]) (F (v 9) (Q (R [n 4 (asg 4 k0)]) .ret) .skip)) (Q (Q (R [n 10 (fld 10 (v 2) 1), n 11 (ld 11 (v 10) 1 false), n 12 (fld 12 (v 3) 1), n 13 (ld 13 (v 12) 1 false), n 14 (bin 14 .neq (v 11) (v 13))]) (F (v 14) (Q (R [n 4 (asg 4 k0)]) .ret) .skip)) (Q (R [n 4 (asg 4 k1)]) .ret)))
def c_L_eqAttr : Cmd := Q (R [n 2 (box 2 (v 0)), n 3 (box 3 (v 1)), n 4 (asg 4 k0)]) (Q (Q (R [n 5 (fld 5 (v 2) 0), n 6 (ld 6 (v 5) 1 false), n 7 (fld 7 (v 3) 0), n 8 (ld 8 (v 7) 1 false), n 9 (bin 9 .neq (v 6) (v 8))]) (F (v 9) (Q (R [n 4 (asg 4 k0)]) .ret) .skip)) (Q (Q (R [n 10 (fld 10 (v 2) 1), n 11 (ld 11 (v 10) 1 false), n 12 (fld 12 (v 3) 1), n 13 (ld 13 (v 12) 1 false), n 14 (bin 14 .neq (v 11) (v 13))]) (F (v 14) (Q (R [n 4 (asg 4 k0)]) .ret) .skip)) (Q (R [n 4 (asg 4 k1)]) .ret)))
def c_L_szEnt : Cmd := Q (R [n 2 (box 2 (v 0)), n 4 (asg 4 (k 0))]) (Q (R [n 5 (mov 5 (v 1)), n 6 (fld 6 (v 2) 0), n 7 (ld 7 (v 6) 1 false), n 8 (lens 8 (v 7)), n 9 (bin 9 .sub (v 5) (v 8)), n 1 (asg 1 (v 9))]) (Q (Q (R [n 10 (mov 10 (v 1)), n 11 (bin 11 .lss (v 10) (k 0))]) (F (v 11) (Q (R [n 4 (asg 4 (k (-1)))]) .ret) .skip)) (Q (R [n 12 (mov 12 (v 1)), n 4 (asg 4 (v 12))]) .ret)))
def c_L_szAttr : Cmd := Q (R [n 2 (box 2 (v 0)), n 4 (asg 4 (k 0))]) (Q (R [n 5 (mov 5 (v 1)), n 6 (fld 6 (v 2) 0), n 7 (ld 7 (v 6) 1 false), n 8 (lens 8 (v 7)), n 9 (bin 9 .sub (v 5) (v 8)), n 1 (asg 1 (v 9))]) (Q (Q (R [n 10 (mov 10 (v 1)), n 11 (bin 11 .lss (v 10) (k 0))]) (F (v 11) (Q (R [n 4 (asg 4 (k (-1)))]) .ret) .skip)) (Q (R [n 12 (mov 12 (v 1)), n 13 (fld 13 (v 2) 1), n 14 (ld 14 (v 13) 1 false), n 15 (lens 15 (v 14)), n 16 (bin 16 .sub (v 12) (v 15)), n 1 (asg 1 (v 16))]) (Q (Q (R [n 17 (mov 17 (v 1)), n 18 (bin 18 .lss (v 17) (k 0))]) (F (v 18) (Q (R [n 4 (asg 4 (k (-1)))]) .ret) .skip)) (Q (R [n 19 (mov 19 (v 1)), n 4 (asg 4 (v 19))]) .ret)))))
def c_L_toEnt : Cmd := Q (R [n 1 (box 1 (v 0)), n 2 (alc 2 [.str [], .int .i64 0])]) (Q (R [n 3 (alc 3 [.str [], .int .i64 0])]) (Q (R [n 4 (fld 4 (v 1) 0), n 5 (ld 5 (v 4) 1 false), n 6 (fld 6 (v 3) 0), m (st (v 6) (v 5) 1)]) (Q (R [n 7 (fld 7 (v 1) 1), n 8 (ld 8 (v 7) 1 false), n 9 (fld 9 (v 3) 1), m (st (v 9) (v 8) 1)]) (Q (R [n 10 (ld 10 (v 3) 2 true), m (st (v 2) (v 10) 2)]) .ret))))
def c_L_toAttr : Cmd := Q (R [n 1 (box 1 (v 0)), n 2 (alc 2 [.str [], .str []])]) (Q (R [n 3 (alc 3 [.str [], .str []])]) (Q (R [n 4 (fld 4 (v 1) 0), n 5 (ld 5 (v 4) 1 false), n 6 (fld 6 (v 3) 0), m (st (v 6) (v 5) 1)]) (Q (R [n 7 (fld 7 (v 1) 1), n 8 (ld 8 (v 7) 1 false), n 9 (fld 9 (v 3) 1), m (st (v 9) (v 8) 1)]) (Q (R [n 10 (ld 10 (v 3) 2 true), m (st (v 2) (v 10) 2)]) .ret))))
end Go.Proofs.Ytjmnolhflcjpgaa.Awp

namespace Go.Proofs.Ytjmnolhflcjpgaa.Awp
open Go.Proofs

theorem hmx : Try.prog.follows .mixedOrders = true := by kernel_rfl
theorem p_L_FnExactVolNamed : compile Try.prog 5 = some (34, [.t 4], c_L_FnExactVolNamed) := by kernel_rfl
theorem p_L_eqFs : compile Try.prog 10 = some (16, [.t 4], c_L_eqFs) := by kernel_rfl
theorem p_L_szFs : compile Try.prog 13 = some (12, [.t 4], c_L_szFs) := by kernel_rfl
theorem p_L_toFs : compile Try.prog 15 = some (12, [.c 2 2 true], c_L_toFs) := by kernel_rfl
theorem p_S_VolNamed : compile Try.prog 17 = some (22, [.t 4], c_S_VolNamed) := by kernel_rfl
theorem p_I_VolNamed : compile Try.prog 18 = some (9, [.t 4], c_I_VolNamed) := by kernel_rfl
theorem p_L_eqVolS : compile Try.prog 23 = some (27, [.t 4], c_L_eqVolS) := by kernel_rfl
theorem p_L_szVolS : compile Try.prog 26 = some (27, [.t 4], c_L_szVolS) := by kernel_rfl
theorem p_L_toVolS : compile Try.prog 27 = some (23, [.t 2], c_L_toVolS) := by kernel_rfl
theorem p_X_IndexFunc_Vol : compile Try.prog 28 = some (19, [.t 4], c_X_IndexFunc_Vol) := by kernel_rfl
theorem p_I_VolNamed_1 : compile Try.prog 30 = some (8, [.t 3], c_I_VolNamed_1) := by kernel_rfl
theorem p_L_eqVol : compile Try.prog 44 = some (31, [.t 4], c_L_eqVol) := by kernel_rfl
theorem p_L_szVol : compile Try.prog 48 = some (19, [.t 4], c_L_szVol) := by kernel_rfl
theorem p_L_toVol : compile Try.prog 49 = some (21, [.c 2 6 true], c_L_toVol) := by kernel_rfl
theorem p_L_eqTab : compile Try.prog 61 = some (16, [.t 4], c_L_eqTab) := by kernel_rfl
theorem p_L_szTab : compile Try.prog 68 = some (12, [.t 4], c_L_szTab) := by kernel_rfl
theorem p_L_toTab : compile Try.prog 69 = some (12, [.c 2 2 true], c_L_toTab) := by kernel_rfl
theorem p_L_eqInodeS : compile Try.prog 82 = some (27, [.t 4], c_L_eqInodeS) := by kernel_rfl
theorem p_L_szInodeS : compile Try.prog 83 = some (27, [.t 4], c_L_szInodeS) := by kernel_rfl
theorem p_L_toInodeS : compile Try.prog 84 = some (23, [.t 2], c_L_toInodeS) := by kernel_rfl
theorem p_L_eqInode : compile Try.prog 94 = some (38, [.t 4], c_L_eqInode) := by kernel_rfl
theorem p_L_szInode : compile Try.prog 95 = some (24, [.t 4], c_L_szInode) := by kernel_rfl
theorem p_L_toInode : compile Try.prog 96 = some (26, [.c 2 6 true], c_L_toInode) := by kernel_rfl
theorem p_L_eqByteS : compile Try.prog 113 = some (26, [.t 4], c_L_eqByteS) := by kernel_rfl
theorem p_L_eqEntS : compile Try.prog 114 = some (27, [.t 4], c_L_eqEntS) := by kernel_rfl
theorem p_L_eqAttrS : compile Try.prog 115 = some (27, [.t 4], c_L_eqAttrS) := by kernel_rfl
theorem p_L_szByteS : compile Try.prog 116 = some (12, [.t 4], c_L_szByteS) := by kernel_rfl
theorem p_L_szEntS : compile Try.prog 117 = some (27, [.t 4], c_L_szEntS) := by kernel_rfl
theorem p_L_szAttrS : compile Try.prog 118 = some (27, [.t 4], c_L_szAttrS) := by kernel_rfl
theorem p_L_toByteS : compile Try.prog 119 = some (22, [.t 2], c_L_toByteS) := by kernel_rfl
theorem p_L_toEntS : compile Try.prog 120 = some (23, [.t 2], c_L_toEntS) := by kernel_rfl
theorem p_L_toAttrS : compile Try.prog 121 = some (23, [.t 2], c_L_toAttrS) := by kernel_rfl
theorem p_L_eqEnt : compile Try.prog 128 = some (15, [.t 4], c_L_eqEnt) := by kernel_rfl
theorem p_L_eqAttr : compile Try.prog 129 = some (15, [.t 4], c_L_eqAttr) := by kernel_rfl
theorem p_L_szEnt : compile Try.prog 130 = some (13, [.t 4], c_L_szEnt) := by kernel_rfl
theorem p_L_szAttr : compile Try.prog 131 = some (20, [.t 4], c_L_szAttr) := by kernel_rfl
theorem p_L_toEnt : compile Try.prog 132 = some (11, [.c 2 2 true], c_L_toEnt) := by kernel_rfl
theorem p_L_toAttr : compile Try.prog 133 = some (11, [.c 2 2 true], c_L_toAttr) := by kernel_rfl
end Go.Proofs.Ytjmnolhflcjpgaa.Awp

namespace Go.Proofs.Ytjmnolhflcjpgaa.Awp
set_option linter.unusedVariables false

/-! ### what goes on behind a bind is left alone till its first part is known -/
@[congr] theorem bind_congr_l {α β : Type} {a b : Option α} {f : α → Option β} (h : a = b) : a.bind f = b.bind f := by rw [h]
@[congr] theorem map_congr_l {α β : Type} {a b : Option α} {f : α → β} (h : a = b) : a.map f = b.map f := by rw [h]

/-- are the places of an argument's parts empty? -/
def allU (E : Env) : List Plc → Bool
  | [] => true
  | (_, _, r, p) :: l => isU (aget (E.f r) p) && allU E l
theorem allU_eq (E : Env) : ∀ l : List Plc, allU E l = l.all (fun q => isU (aget (E.f q.2.2.1) q.2.2.2)) := by
  intro l
  induction l with
  | nil => rfl
  | cons q l ih => obtain ⟨k, j, r, p⟩ := q; simp [allU, ih]
theorem SBK2 : ∀ (E : Env) (q : Plc) (pls : List Plc) (outs : List AV), backA E none (q :: pls) outs = if allU E (q :: pls) = true then backP E outs (q :: pls) else none := by
  intro E q pls outs
  rw [allU_eq]; rfl
theorem SAU : (∀ E : Env, allU E [] = true) ∧ (∀ (E : Env) (k : Nat) (j : Option Nat) (r : Nat) (p : Path) (l : List Plc), allU E ((k, j, r, p) :: l) = (isU (aget (E.f r) p) && allU E l)) := ⟨fun _ => rfl, fun _ _ _ _ _ _ => rfl⟩
theorem SBK : ∀ (E : Env) (outs : List AV), backA E none [] outs = backP E outs [] := by
  intro E outs
  simp [backA]

/-! ### the program's values -/
abbrev Bytes := List UInt8
theorem sum_mem {α : Type} {f : α → Nat} {l : List α} {x : α} (h : x ∈ l) : f x ≤ (l.map f).sum := by
  induction l with
  | nil => simp at h
  | cons y l ih =>
    rcases List.mem_cons.1 h with rfl | h
    · simp
    · have := ih h; simp; omega
theorem getE {α : Type} {l : List α} {i : Nat} (h : (i : Int) < (l.length : Nat)) : l[i]? = some (l[i]'(by omega)) := by simp
theorem sum_get {α : Type} (f : α → Nat) {l : List α} {i : Nat} (h : i < l.length) : f l[i] ≤ (l.map f).sum := sum_mem (List.getElem_mem h)
theorem sum_take {α : Type} (f : α → Nat) (l : List α) (i : Nat) (h : i < l.length) : ((l.take (i + 1)).map f).sum = ((l.take i).map f).sum + f l[i] := by
  rw [List.take_succ_eq_append_getElem h, List.map_append, List.sum_append]
  simp only [List.map_cons, List.map_nil, List.sum_cons, List.sum_nil, Nat.add_zero]
theorem sum_take_le {α : Type} (f : α → Nat) (l : List α) (i : Nat) : ((l.take i).map f).sum ≤ (l.map f).sum := by
  conv => rhs; rw [← List.take_append_drop i l, List.map_append, List.sum_append]
  omega
theorem take_eq_succ {α : Type} {a b : List α} {i : Nat} (h : a.take i = b.take i) (h1 : i < a.length) (h2 : i < b.length) (e : a[i] = b[i]) : a.take (i + 1) = b.take (i + 1) := by
  rw [List.take_succ_eq_append_getElem h1, List.take_succ_eq_append_getElem h2, h, e]
theorem take_all {α : Type} {a b : List α} {i : Nat} (h : a.take i = b.take i) (h1 : a.length ≤ i) (h2 : b.length ≤ i) : a = b := by
  rwa [List.take_of_length_le h1, List.take_of_length_le h2] at h

/-! ### rows that are filled, or marked, one by one -/
def mixM {α β : Type} (f : α → Int → β) (g : α → β) (c : α → Nat) : List α → Int → Nat → List β
  | [], _, _ => []
  | x :: l, _, 0 => g x :: l.map g
  | x :: l, k, i + 1 => f x k :: mixM f g c l (k + c x) i
def markL {α β : Type} (f : α → Int → β) (c : α → Nat) : List α → Int → List β
  | [], _ => []
  | x :: l, k => f x k :: markL f c l (k + c x)
section
variable {α β γ : Type} (f : α → Int → β) (g : α → β) (c : α → Nat)
theorem mixM_0 (l : List α) (k : Int) : mixM f g c l k 0 = l.map g := by cases l <;> rfl
theorem mixM_len : ∀ (l : List α) (k : Int) (i : Nat), (mixM f g c l k i).length = l.length := by
  intro l
  induction l with
  | nil => intro k i; rfl
  | cons x l ih => intro k i; cases i <;> simp [mixM, ih]
theorem mixM_all : ∀ (l : List α) (k : Int) (i : Nat), l.length ≤ i → mixM f g c l k i = markL f c l k := by
  intro l
  induction l with
  | nil => intro k i h; rfl
  | cons x l ih =>
    intro k i h
    cases i with
    | zero => simp at h
    | succ i => simp only [mixM, markL]; rw [ih _ _ (by simpa using h)]
theorem mixM_get : ∀ (l : List α) (k : Int) (i : Nat), (mixM f g c l k i)[i]? = (l[i]?).map g := by
  intro l
  induction l with
  | nil => intro k i; simp [mixM]
  | cons x l ih => intro k i; cases i <;> simp [mixM, ih]
theorem mixM_set : ∀ (l : List α) (k : Int) (i : Nat) (hi : i < l.length) (h : β → β) (e : h (g l[i]) = f l[i] (k + ((l.take i).map c).sum)), (mixM f g c l k i).modify i h = mixM f g c l k (i + 1) := by
  intro l
  induction l with
  | nil => intro k i hi; simp at hi
  | cons x l ih =>
    intro k i hi h e
    cases i with
    | zero => simp only [mixM, List.modify_zero_cons]; simp at e; rw [e, mixM_0]
    | succ i =>
      simp only [mixM, List.modify_succ_cons]
      rw [ih _ i (by simpa using hi) h]
      simp only [List.getElem_cons_succ, List.take_succ_cons, List.map_cons, List.sum_cons] at e
      rw [e]; congr 1; omega
theorem markL_len : ∀ (l : List α) (k : Int), (markL f c l k).length = l.length := by
  intro l
  induction l with
  | nil => intro k; rfl
  | cons x l ih => intro k; simp [markL, ih]
theorem markL_get : ∀ (l : List α) (k : Int) (i : Nat), (markL f c l k)[i]? = (l[i]?).map fun x => f x (k + ((l.take i).map c).sum) := by
  intro l
  induction l with
  | nil => intro k i; simp [markL]
  | cons x l ih =>
    intro k i
    cases i with
    | zero => simp [markL]
    | succ i =>
      simp only [markL, List.getElem?_cons_succ, ih, List.take_succ_cons, List.map_cons, List.sum_cons]
      congr 1; funext y; congr 1; omega
theorem markL_map (r : β → γ) : ∀ (l : List α) (k : Int), (markL f c l k).map r = markL (fun x k => r (f x k)) c l k := by
  intro l
  induction l with
  | nil => intro k; rfl
  | cons x l ih => intro k; simp [markL, ih]
end
/-- rows that are filled one by one -/
def fillR {α : Type} (f : α → List TV) (z : List TV) (l : List α) (i : Nat) : List (List TV) := mixM (fun x _ => f x) (fun _ => z) (fun _ => 0) l 0 i
theorem fillR_0 {α : Type} (f : α → List TV) (z : List TV) (l : List α) : fillR f z l 0 = List.replicate l.length z := by
  rw [fillR, mixM_0, List.map_const']
theorem fillR_all {α : Type} (f : α → List TV) (z : List TV) (l : List α) (i : Nat) (h : l.length ≤ i) : fillR f z l i = l.map f := by
  rw [fillR, mixM_all _ _ _ _ _ _ h]
  generalize (0 : Int) = k
  induction l generalizing k i with
  | nil => rfl
  | cons x l ih => simp only [markL, List.map_cons]; rw [ih l.length (by omega)]
theorem fillR_len {α : Type} (f : α → List TV) (z : List TV) (l : List α) (i : Nat) : (fillR f z l i).length = l.length := mixM_len ..
theorem fillR_set {α : Type} (f : α → List TV) (z : List TV) (l : List α) (i : Nat) (h : i < l.length) (g : List TV → List TV) (hg : g z = f l[i]) : (fillR f z l i).modify i g = fillR f z l (i + 1) :=
  mixM_set _ _ _ _ _ _ h _ hg
/-- rows that are marked one by one -/
def mixR {α : Type} (r : α → List TV) (f : α → Int → α) (c : α → Nat) (l : List α) (k : Int) (i : Nat) : List (List TV) := mixM (fun x k => r (f x k)) r c l k i
section
variable {α : Type} (r : α → List TV) (f : α → Int → α) (c : α → Nat)
theorem mixR_0 (l : List α) (k : Int) : mixR r f c l k 0 = l.map r := mixM_0 ..
theorem mixR_len (l : List α) (k : Int) (i : Nat) : (mixR r f c l k i).length = l.length := mixM_len ..
theorem mixR_get (l : List α) (k : Int) (i : Nat) : (mixR r f c l k i)[i]? = (l[i]?).map r := mixM_get ..
theorem mixR_all (l : List α) (k : Int) (i : Nat) (h : l.length ≤ i) : mixR r f c l k i = (markL f c l k).map r := by rw [mixR, mixM_all _ _ _ _ _ _ h, markL_map]
theorem mixR_set (l : List α) (k : Int) (i : Nat) (hi : i < l.length) (h : List TV → List TV) (e : h (r l[i]) = r (f l[i] (k + ((l.take i).map c).sum))) : (mixR r f c l k i).modify i h = mixR r f c l k (i + 1) :=
  mixM_set _ _ _ _ _ _ hi _ e
end
def byteRow (x : UInt8) : List TV := [.int .u8 x.toNat]
def markBy (b : Bytes) (k : Int) : Bytes := markL (fun _ k => UInt8.ofInt k) (fun _ => 1) b k
theorem sum_one {α : Type} (l : List α) : (l.map fun _ => 1).sum = l.length := by induction l with | nil => rfl | cons x l ih => simp [ih]; omega
theorem markBy_len (b : Bytes) (k : Int) : (markBy b k).length = b.length := markL_len ..
theorem markBy_get (b : Bytes) (k : Int) (i : Nat) : (markBy b k)[i]? = (b[i]?).map fun _ => UInt8.ofInt (k + i) := by
  rw [markBy, markL_get]
  by_cases h : i < b.length
  · simp only [sum_one, List.length_take, Nat.min_eq_left (Nat.le_of_lt h)]
  · rw [List.getElem?_eq_none (by omega)]; rfl
theorem wrap_ofInt (k : Int) : IntKind.u8.wrap k = ((UInt8.ofInt k).toNat : Int) := by
  have e : IntKind.u8.wrap k = k % 256 := by
    have h1 : ((2 : Int) ^ IntKind.u8.bits) = 256 := by decide
    unfold IntKind.wrap
    simp only [h1]
    simp [IntKind.signed]
  rw [e]
  simp [UInt8.ofInt]
  omega
theorem bytesR_row (b : Bytes) : bytesR b = b.map byteRow := rfl
theorem markBy_row (b : Bytes) (k : Int) (i : Nat) (h : b.length ≤ i) : mixR byteRow (fun _ k => UInt8.ofInt k) (fun _ => 1) b k i = bytesR (markBy b k) := mixR_all _ _ _ _ _ _ h
theorem SF : (∀ (α : Type) (f : α → List TV) (z : List TV) (l : List α) (i : Nat), (fillR f z l i).length = l.length) ∧
    (∀ (α : Type) (r : α → List TV) (f : α → Int → α) (c : α → Nat) (l : List α) (k : Int) (i : Nat), (mixR r f c l k i).length = l.length) ∧
    (∀ (α : Type) (r : α → List TV) (f : α → Int → α) (c : α → Nat) (l : List α) (k : Int) (i : Nat), (mixR r f c l k i)[i]? = (l[i]?).map r) ∧
    (∀ (α β : Type) (f : α → Int → β) (c : α → Nat) (l : List α) (k : Int), (markL f c l k).length = l.length) ∧
    (∀ (α β : Type) (f : α → Int → β) (c : α → Nat) (l : List α) (k : Int) (i : Nat), (markL f c l k)[i]? = (l[i]?).map fun x => f x (k + ((l.take i).map c).sum)) ∧
    (∀ (b : Bytes) (k : Int), (markBy b k).length = b.length) ∧ (∀ (b : Bytes) (k : Int) (i : Nat), (markBy b k)[i]? = (b[i]?).map fun _ => UInt8.ofInt (k + i)) ∧
    (∀ (α : Type) (l : List α) (i : Nat) (f g : α → α), (l.modify i f).modify i g = l.modify i (fun x => g (f x))) ∧ (∀ (α : Type) (l : List α) (i : Nat) (f : α → α), (l.modify i f)[i]? = (l[i]?).map f) ∧
    (∀ (α : Type) (l : List α) (i : Nat) (f : α → α), (l.modify i f).length = l.length) :=
  ⟨fun _ => fillR_len, fun _ => mixR_len, fun _ => mixR_get, fun _ _ => markL_len, fun _ _ => markL_get, markBy_len, markBy_get,
    fun _ l i f g => List.modify_modify_eq f g i l, fun _ l i f => by simp, fun _ l i f => by simp⟩
theorem flatR_bytes (b : Bytes) : flatR (bytesR b) = true := by
  simp [flatR, bytesR]
  intros; rfl
theorem knownR_bytes (b : Bytes) : knownR (bytesR b) = true := by
  simp [knownR, bytesR]
  intros; rfl
theorem rowsBytes_R (b : Bytes) : rowsBytes (bytesR b) = some b := by
  induction b with
  | nil => rfl
  | cons x b ih =>
    simp only [bytesR, List.map_cons]
    simp only [bytesR] at ih
    have h1 : rowByte [.int .u8 x.toNat] = some x := by
      have := x.toNat_lt
      simp [rowByte]
      try omega
    simp [rowsBytes, ih, h1]
theorem SK : knownR [] = true ∧ (∀ (e : List TV) (l : List (List TV)), knownR (e :: l) = (e.all knownT && knownR l)) ∧ (∀ (t : TV) (e : List TV), (t :: e).all knownT = (knownT t && e.all knownT)) ∧ ([] : List TV).all knownT = true ∧
    (∀ b, knownT (.bool b) = true) ∧ (∀ k n, knownT (.int k n) = true) ∧ (∀ s, knownT (.str s) = true) ∧ (∀ s es, knownT (.sl s es) = true) ∧
    flatR [] = true ∧ (∀ (e : List TV) (l : List (List TV)), flatR (e :: l) = (e.all flatT && flatR l)) ∧ (∀ (t : TV) (e : List TV), (t :: e).all flatT = (flatT t && e.all flatT)) ∧ ([] : List TV).all flatT = true ∧
    (∀ b, flatT (.bool b) = true) ∧ (∀ k n, flatT (.int k n) = true) ∧ (∀ s, flatT (.str s) = true) ∧
    (∀ b : Bytes, flatR (bytesR b) = true) ∧ (∀ b : Bytes, knownR (bytesR b) = true) ∧ (∀ b : Bytes, rowsBytes (bytesR b) = some b) :=
  ⟨rfl, fun _ _ => rfl, fun _ _ => rfl, rfl, fun _ => rfl, fun _ _ => rfl, fun _ => rfl, fun _ _ => rfl, rfl, fun _ _ => rfl, fun _ _ => rfl, rfl, fun _ => rfl, fun _ _ => rfl, fun _ => rfl, flatR_bytes, knownR_bytes, rowsBytes_R⟩
theorem SB : min 1 IntKind.i64.bits = 1 ∧ min 7 IntKind.i64.bits = 7 ∧ min 8 IntKind.i64.bits = 8 ∧ min 14 IntKind.i64.bits = 14 ∧ min 16 IntKind.i64.bits = 16 ∧ min 24 IntKind.i64.bits = 24 ∧ min 33 IntKind.i64.bits = 33 ∧ min 47 IntKind.i64.bits = 47 ∧ min 1 IntKind.u32.bits = 1 ∧ min 8 IntKind.u32.bits = 8 ∧ min 16 IntKind.u32.bits = 16 ∧ min 24 IntKind.u32.bits = 24 := by decide
theorem bytesR_map (b : Bytes) : bytesR b = b.map fun x => [.int .u8 x.toNat] := rfl

theorem cnt_len {α : Type} (c : α → Nat) (h : ∀ x, 1 ≤ c x) (l : List α) : l.length ≤ (l.map c).sum := by
  induction l with
  | nil => simp
  | cons x l ih => have := h x; simp; omega
/-- what is left of a size -/
def szC (l : Int) (n : Nat) : Int := if l < n then -1 else l - n
theorem szC_lt {l : Int} {n : Nat} (h : l < n) : szC l n = -1 := if_pos h
theorem szC_ge {l : Int} {n : Nat} (h : ¬ l < n) : szC l n = l - n := if_neg h
/-- decimal digits -/
def digB (n : Nat) : Bytes := if h : n = 0 then [] else digB (n / 10) ++ [UInt8.ofNat (48 + n % 10)]
termination_by n
def markText (k : Int) : Bytes := if k ≤ 0 then [109, 48] else 109 :: digB k.toNat
def cntM {α : Type} (c : α → Nat) (l : List α) : Nat := (l.map c).sum
def szM {α : Type} (c : α → Nat) (l : List α) : Nat := l.length + (l.map c).sum

structure Ent where
  name : Bytes
  ino : Int
  deriving DecidableEq, Inhabited
def Ent.row (a : Ent) : List TV := [.str a.name, .int .i64 a.ino]
def Ent.x (a : Ent) : AV := .agg [.str a.name, .int .i64 a.ino]
def Ent.o (a : Ent) : AV := .agg [.str a.name, .int .i64 a.ino]
def Ent.sz (a : Ent) : Nat := a.name.length
def Ent.fine (a : Ent) : Prop := (a.name.length < 2 ^ 48)
def Ent.cnt (a : Ent) : Nat := 1 + 1
def Ent.cntT (a : Ent) : Nat := 0
def Ent.marked (a : Ent) (k : Int) : Ent := { name := markText (k), ino := k + 1 }
def Ent.markT (a : Ent) (k : Int) : Ent := { name := a.name, ino := a.ino }
def Ent.zero : List TV := [.str [], .int .i64 0]
theorem Ent.eq' {a b : Ent} (h0 : a.name = b.name) (h1 : a.ino = b.ino) : a = b := by cases a; cases b; simp_all
theorem Ent.cnt1 (a : Ent) : 1 ≤ a.cnt := by simp only [Ent.cnt]; omega

structure Attr where
  name : Bytes
  val : Bytes
  deriving DecidableEq, Inhabited
def Attr.row (a : Attr) : List TV := [.str a.name, .str a.val]
def Attr.x (a : Attr) : AV := .agg [.str a.name, .str a.val]
def Attr.o (a : Attr) : AV := .agg [.str a.name, .str a.val]
def Attr.sz (a : Attr) : Nat := a.name.length + a.val.length
def Attr.fine (a : Attr) : Prop := (a.name.length < 2 ^ 48) ∧ (a.val.length < 2 ^ 48)
def Attr.cnt (a : Attr) : Nat := 1 + 1
def Attr.cntT (a : Attr) : Nat := 0
def Attr.marked (a : Attr) (k : Int) : Attr := { name := markText (k), val := markText (k + 1) }
def Attr.markT (a : Attr) (k : Int) : Attr := { name := a.name, val := a.val }
def Attr.zero : List TV := [.str [], .str []]
theorem Attr.eq' {a b : Attr} (h0 : a.name = b.name) (h1 : a.val = b.val) : a = b := by cases a; cases b; simp_all
theorem Attr.cnt1 (a : Attr) : 1 ≤ a.cnt := by simp only [Attr.cnt]; omega

structure Inode where
  ino : Int
  kind : Int
  links : Int
  data : Bytes
  ents : List Ent
  attrs : List Attr
  deriving DecidableEq, Inhabited
def Inode.row (a : Inode) : List TV := [.int .i64 a.ino, .int .i64 a.kind, .int .i64 a.links, .sl 1 (bytesR a.data), .sl 2 (a.ents.map Ent.row), .sl 2 (a.attrs.map Attr.row)]
def Inode.x (a : Inode) : AV := .agg [.int .i64 a.ino, .int .i64 a.kind, .int .i64 a.links, .ext 1 (bytesR a.data), .ext 2 (a.ents.map Ent.row), .ext 2 (a.attrs.map Attr.row)]
def Inode.o (a : Inode) : AV := .agg [.int .i64 a.ino, .int .i64 a.kind, .int .i64 a.links, .own 1 (bytesR a.data), .own 2 (a.ents.map Ent.row), .own 2 (a.attrs.map Attr.row)]
def Inode.sz (a : Inode) : Nat := a.data.length + szM Ent.sz a.ents + szM Attr.sz a.attrs
def Inode.fine (a : Inode) : Prop := (a.data.length < 2 ^ 48) ∧ (a.ents.length < 2 ^ 48 ∧ ∀ x ∈ a.ents, x.fine) ∧ (a.attrs.length < 2 ^ 48 ∧ ∀ x ∈ a.attrs, x.fine)
def Inode.cnt (a : Inode) : Nat := 1 + 1 + 1 + a.data.length + cntM Ent.cnt a.ents + cntM Attr.cnt a.attrs
def Inode.cntT (a : Inode) : Nat := a.data.length + cntM Ent.cnt a.ents + cntM Attr.cnt a.attrs
def Inode.marked (a : Inode) (k : Int) : Inode := { ino := k, kind := k + 1, links := k + 1 + 1, data := markBy a.data (k + 1 + 1 + 1), ents := markL Ent.marked Ent.cnt a.ents (k + 1 + 1 + 1 + (a.data.length : Nat)), attrs := markL Attr.marked Attr.cnt a.attrs (k + 1 + 1 + 1 + (a.data.length : Nat) + (cntM Ent.cnt a.ents : Nat)) }
def Inode.markT (a : Inode) (k : Int) : Inode := { ino := a.ino, kind := a.kind, links := a.links, data := markBy a.data (k), ents := markL Ent.marked Ent.cnt a.ents (k + (a.data.length : Nat)), attrs := markL Attr.marked Attr.cnt a.attrs (k + (a.data.length : Nat) + (cntM Ent.cnt a.ents : Nat)) }
def Inode.zero : List TV := [.int .i64 0, .int .i64 0, .int .i64 0, .sl 1 [], .sl 2 [], .sl 2 []]
theorem Inode.eq' {a b : Inode} (h0 : a.ino = b.ino) (h1 : a.kind = b.kind) (h2 : a.links = b.links) (h3 : a.data = b.data) (h4 : a.ents = b.ents) (h5 : a.attrs = b.attrs) : a = b := by cases a; cases b; simp_all
theorem Inode.cnt1 (a : Inode) : 1 ≤ a.cnt := by simp only [Inode.cnt]; omega

structure Tab where
  inodes : List Inode
  next : Int
  deriving DecidableEq, Inhabited
def Tab.row (a : Tab) : List TV := [.sl 6 (a.inodes.map Inode.row), .int .i64 a.next]
def Tab.x (a : Tab) : AV := .agg [.ext 6 (a.inodes.map Inode.row), .int .i64 a.next]
def Tab.o (a : Tab) : AV := .agg [.own 6 (a.inodes.map Inode.row), .int .i64 a.next]
def Tab.sz (a : Tab) : Nat := szM Inode.sz a.inodes
def Tab.fine (a : Tab) : Prop := (a.inodes.length < 2 ^ 48 ∧ ∀ x ∈ a.inodes, x.fine)
def Tab.cnt (a : Tab) : Nat := cntM Inode.cnt a.inodes + 1
def Tab.cntT (a : Tab) : Nat := cntM Inode.cnt a.inodes
def Tab.marked (a : Tab) (k : Int) : Tab := { inodes := markL Inode.marked Inode.cnt a.inodes (k), next := k + (cntM Inode.cnt a.inodes : Nat) }
def Tab.markT (a : Tab) (k : Int) : Tab := { inodes := markL Inode.marked Inode.cnt a.inodes (k), next := a.next }
def Tab.zero : List TV := [.sl 6 [], .int .i64 0]
theorem Tab.eq' {a b : Tab} (h0 : a.inodes = b.inodes) (h1 : a.next = b.next) : a = b := by cases a; cases b; simp_all
theorem Tab.cnt1 (a : Tab) : 1 ≤ a.cnt := by simp only [Tab.cnt]; omega

structure Vol where
  id : Int
  name : Bytes
  ro : Bool
  limit : Int
  t : Tab
  deriving DecidableEq, Inhabited
def Vol.row (a : Vol) : List TV := [.int .i64 a.id, .str a.name, .bool a.ro, .int .i64 a.limit, .sl 6 (a.t.inodes.map Inode.row), .int .i64 a.t.next]
def Vol.x (a : Vol) : AV := .agg [.int .i64 a.id, .str a.name, .bool a.ro, .int .i64 a.limit, .ext 6 (a.t.inodes.map Inode.row), .int .i64 a.t.next]
def Vol.o (a : Vol) : AV := .agg [.int .i64 a.id, .str a.name, .bool a.ro, .int .i64 a.limit, .own 6 (a.t.inodes.map Inode.row), .int .i64 a.t.next]
def Vol.sz (a : Vol) : Nat := a.name.length + a.t.sz
def Vol.fine (a : Vol) : Prop := (a.name.length < 2 ^ 48) ∧ (a.t.fine)
def Vol.cnt (a : Vol) : Nat := 1 + 1 + 1 + 1 + cntM Inode.cnt a.t.inodes + 1
def Vol.cntT (a : Vol) : Nat := a.t.cntT
def Vol.marked (a : Vol) (k : Int) : Vol := { id := k, name := markText (k + 1), ro := decide ((k + 1 + 1).tmod 3 = 0), limit := k + 1 + 1 + 1, t := { inodes := markL Inode.marked Inode.cnt a.t.inodes (k + 1 + 1 + 1 + 1), next := k + 1 + 1 + 1 + 1 + (cntM Inode.cnt a.t.inodes : Nat) } }
def Vol.markT (a : Vol) (k : Int) : Vol := { id := a.id, name := a.name, ro := a.ro, limit := a.limit, t := a.t.markT (k) }
def Vol.zero : List TV := [.int .i64 0, .str [], .bool false, .int .i64 0, .sl 6 [], .int .i64 0]
theorem Vol.eq' {a b : Vol} (h0 : a.id = b.id) (h1 : a.name = b.name) (h2 : a.ro = b.ro) (h3 : a.limit = b.limit) (h4 : a.t = b.t) : a = b := by cases a; cases b; simp_all
theorem Vol.cnt1 (a : Vol) : 1 ≤ a.cnt := by simp only [Vol.cnt]; omega

structure Fs where
  vols : List Vol
  next : Int
  deriving DecidableEq, Inhabited
def Fs.row (a : Fs) : List TV := [.sl 6 (a.vols.map Vol.row), .int .i64 a.next]
def Fs.x (a : Fs) : AV := .agg [.ext 6 (a.vols.map Vol.row), .int .i64 a.next]
def Fs.o (a : Fs) : AV := .agg [.own 6 (a.vols.map Vol.row), .int .i64 a.next]
def Fs.sz (a : Fs) : Nat := szM Vol.sz a.vols
def Fs.fine (a : Fs) : Prop := (a.vols.length < 2 ^ 48 ∧ ∀ x ∈ a.vols, x.fine)
def Fs.cnt (a : Fs) : Nat := cntM Vol.cnt a.vols + 1
def Fs.cntT (a : Fs) : Nat := cntM Vol.cnt a.vols
def Fs.marked (a : Fs) (k : Int) : Fs := { vols := markL Vol.marked Vol.cnt a.vols (k), next := k + (cntM Vol.cnt a.vols : Nat) }
def Fs.markT (a : Fs) (k : Int) : Fs := { vols := markL Vol.marked Vol.cnt a.vols (k), next := a.next }
def Fs.zero : List TV := [.sl 6 [], .int .i64 0]
theorem Fs.eq' {a b : Fs} (h0 : a.vols = b.vols) (h1 : a.next = b.next) : a = b := by cases a; cases b; simp_all
theorem Fs.cnt1 (a : Fs) : 1 ≤ a.cnt := by simp only [Fs.cnt]; omega

structure Op where
  kind : Int
  vol : Int
  path : Bytes
  to' : Bytes
  off : Int
  data : Bytes
  deriving DecidableEq, Inhabited
def Op.row (a : Op) : List TV := [.int .i64 a.kind, .int .i64 a.vol, .str a.path, .str a.to', .int .i64 a.off, .sl 1 (bytesR a.data)]
def Op.x (a : Op) : AV := .agg [.int .i64 a.kind, .int .i64 a.vol, .str a.path, .str a.to', .int .i64 a.off, .ext 1 (bytesR a.data)]
def Op.o (a : Op) : AV := .agg [.int .i64 a.kind, .int .i64 a.vol, .str a.path, .str a.to', .int .i64 a.off, .own 1 (bytesR a.data)]
def Op.sz (a : Op) : Nat := a.path.length + a.to'.length + a.data.length
def Op.fine (a : Op) : Prop := (a.path.length < 2 ^ 48) ∧ (a.to'.length < 2 ^ 48) ∧ (a.data.length < 2 ^ 48)
def Op.cnt (a : Op) : Nat := 1 + 1 + 1 + 1 + 1 + a.data.length
def Op.cntT (a : Op) : Nat := a.data.length
def Op.marked (a : Op) (k : Int) : Op := { kind := k, vol := k + 1, path := markText (k + 1 + 1), to' := markText (k + 1 + 1 + 1), off := k + 1 + 1 + 1 + 1, data := markBy a.data (k + 1 + 1 + 1 + 1 + 1) }
def Op.markT (a : Op) (k : Int) : Op := { kind := a.kind, vol := a.vol, path := a.path, to' := a.to', off := a.off, data := markBy a.data (k) }
def Op.zero : List TV := [.int .i64 0, .int .i64 0, .str [], .str [], .int .i64 0, .sl 1 []]
theorem Op.eq' {a b : Op} (h0 : a.kind = b.kind) (h1 : a.vol = b.vol) (h2 : a.path = b.path) (h3 : a.to' = b.to') (h4 : a.off = b.off) (h5 : a.data = b.data) : a = b := by cases a; cases b; simp_all
theorem Op.cnt1 (a : Op) : 1 ≤ a.cnt := by simp only [Op.cnt]; omega

theorem ST :
    (∀ a : Ent, a.row = [.str a.name, .int .i64 a.ino]) ∧
    (∀ a : Ent, a.x = .agg [.str a.name, .int .i64 a.ino]) ∧
    (∀ a : Ent, a.o = .agg [.str a.name, .int .i64 a.ino]) ∧
    (∀ a : Attr, a.row = [.str a.name, .str a.val]) ∧
    (∀ a : Attr, a.x = .agg [.str a.name, .str a.val]) ∧
    (∀ a : Attr, a.o = .agg [.str a.name, .str a.val]) ∧
    (∀ a : Inode, a.row = [.int .i64 a.ino, .int .i64 a.kind, .int .i64 a.links, .sl 1 (bytesR a.data), .sl 2 (a.ents.map Ent.row), .sl 2 (a.attrs.map Attr.row)]) ∧
    (∀ a : Inode, a.x = .agg [.int .i64 a.ino, .int .i64 a.kind, .int .i64 a.links, .ext 1 (bytesR a.data), .ext 2 (a.ents.map Ent.row), .ext 2 (a.attrs.map Attr.row)]) ∧
    (∀ a : Inode, a.o = .agg [.int .i64 a.ino, .int .i64 a.kind, .int .i64 a.links, .own 1 (bytesR a.data), .own 2 (a.ents.map Ent.row), .own 2 (a.attrs.map Attr.row)]) ∧
    (∀ a : Tab, a.row = [.sl 6 (a.inodes.map Inode.row), .int .i64 a.next]) ∧
    (∀ a : Tab, a.x = .agg [.ext 6 (a.inodes.map Inode.row), .int .i64 a.next]) ∧
    (∀ a : Tab, a.o = .agg [.own 6 (a.inodes.map Inode.row), .int .i64 a.next]) ∧
    (∀ a : Vol, a.row = [.int .i64 a.id, .str a.name, .bool a.ro, .int .i64 a.limit, .sl 6 (a.t.inodes.map Inode.row), .int .i64 a.t.next]) ∧
    (∀ a : Vol, a.x = .agg [.int .i64 a.id, .str a.name, .bool a.ro, .int .i64 a.limit, .ext 6 (a.t.inodes.map Inode.row), .int .i64 a.t.next]) ∧
    (∀ a : Vol, a.o = .agg [.int .i64 a.id, .str a.name, .bool a.ro, .int .i64 a.limit, .own 6 (a.t.inodes.map Inode.row), .int .i64 a.t.next]) ∧
    (∀ a : Fs, a.row = [.sl 6 (a.vols.map Vol.row), .int .i64 a.next]) ∧
    (∀ a : Fs, a.x = .agg [.ext 6 (a.vols.map Vol.row), .int .i64 a.next]) ∧
    (∀ a : Fs, a.o = .agg [.own 6 (a.vols.map Vol.row), .int .i64 a.next]) ∧
    (∀ a : Op, a.row = [.int .i64 a.kind, .int .i64 a.vol, .str a.path, .str a.to', .int .i64 a.off, .sl 1 (bytesR a.data)]) ∧
    (∀ a : Op, a.x = .agg [.int .i64 a.kind, .int .i64 a.vol, .str a.path, .str a.to', .int .i64 a.off, .ext 1 (bytesR a.data)]) ∧
    (∀ a : Op, a.o = .agg [.int .i64 a.kind, .int .i64 a.vol, .str a.path, .str a.to', .int .i64 a.off, .own 1 (bytesR a.data)]) ∧
    (∀ (α β : Type) (f : α → β) (l : List α), (l.map f).length = l.length) ∧ (∀ (α β : Type) (f : α → β) (l : List α) (i : Nat), (l.map f)[i]? = (l[i]?).map f) := by
  refine ⟨?_, ?_, ?_, ?_, ?_, ?_, ?_, ?_, ?_, ?_, ?_, ?_, ?_, ?_, ?_, ?_, ?_, ?_, ?_, ?_, ?_, ?_, ?_⟩ <;> intros <;> first | rfl | simp

/-- what each run uses -/
theorem SX : type_of% (And.intro SAU <| And.intro SU <| And.intro SGs <| And.intro SD <| And.intro S1 <| And.intro S2 <| And.intro S3 <| And.intro SE <| And.intro SC <| And.intro SO <| And.intro ST <| And.intro SF <| And.intro SK <| And.intro @bytes_len <| And.intro @bytes_get <| And.intro @Bool.beq_eq_decide_eq.{0} <| And.intro @Int.natCast_zero <| And.intro @Int.add_zero <| And.intro @ge_iff_le.{0} <| And.intro @gt_iff_lt.{0} <| And.intro @Option.isNone_none.{0} <| And.intro @Option.isNone_some.{0} <| And.intro @List.nil_append.{0} <| And.intro @List.append_nil.{0} <| And.intro @Bool.and_true <| And.intro @Bool.and_self <| SB) := And.intro SAU <| And.intro SU <| And.intro SGs <| And.intro SD <| And.intro S1 <| And.intro S2 <| And.intro S3 <| And.intro SE <| And.intro SC <| And.intro SO <| And.intro ST <| And.intro SF <| And.intro SK <| And.intro @bytes_len <| And.intro @bytes_get <| And.intro @Bool.beq_eq_decide_eq.{0} <| And.intro @Int.natCast_zero <| And.intro @Int.add_zero <| And.intro @ge_iff_le.{0} <| And.intro @gt_iff_lt.{0} <| And.intro @Option.isNone_none.{0} <| And.intro @Option.isNone_some.{0} <| And.intro @List.nil_append.{0} <| And.intro @List.append_nil.{0} <| And.intro @Bool.and_true <| And.intro @Bool.and_self <| SB
end Go.Proofs.Ytjmnolhflcjpgaa.Awp

namespace Go.Proofs.Ytjmnolhflcjpgaa.Awp
end Go.Proofs.Ytjmnolhflcjpgaa.Awp



/-! numbers that are reached from 1: by rounds, and by a queue (plain Lean) -/
namespace Go.Proofs.Ytjmnolhflcjpgaa.Awp

section
variable (nb : Int → Option (List Int))

/-! ### by a queue -/
end
end Go.Proofs.Ytjmnolhflcjpgaa.Awp

/-! paths (plain Lean) -/
namespace Go.Proofs.Ytjmnolhflcjpgaa.Awp

end Go.Proofs.Ytjmnolhflcjpgaa.Awp

/-! tables as maps; walks (plain Lean) -/
namespace Go.Proofs.Ytjmnolhflcjpgaa.Awp

/-! ### walks over a map -/
end Go.Proofs.Ytjmnolhflcjpgaa.Awp

/-! trees: each directory has one path (plain Lean) -/
namespace Go.Proofs.Ytjmnolhflcjpgaa.Awp

variable {t : Tab}
end Go.Proofs.Ytjmnolhflcjpgaa.Awp

/-! walks where one entry turns (plain Lean) -/
namespace Go.Proofs.Ytjmnolhflcjpgaa.Awp

section
variable {s s' : Int → Bytes → Option Int}
end

/-! ### tables: put and taken away -/
end Go.Proofs.Ytjmnolhflcjpgaa.Awp

/-! entries in order (plain Lean) -/
namespace Go.Proofs.Ytjmnolhflcjpgaa.Awp

section
variable {α : Type} (key : α → Bytes)
variable {key}
end

end Go.Proofs.Ytjmnolhflcjpgaa.Awp

/-! what makes a tree; a file's path is unlinked (plain Lean) -/
namespace Go.Proofs.Ytjmnolhflcjpgaa.Awp

end Go.Proofs.Ytjmnolhflcjpgaa.Awp

/-! something new is made in a tree (plain Lean) -/
namespace Go.Proofs.Ytjmnolhflcjpgaa.Awp

end Go.Proofs.Ytjmnolhflcjpgaa.Awp

/-! one more path of a file (plain Lean) -/
namespace Go.Proofs.Ytjmnolhflcjpgaa.Awp

end Go.Proofs.Ytjmnolhflcjpgaa.Awp

/-! something is moved in a tree (plain Lean) -/
namespace Go.Proofs.Ytjmnolhflcjpgaa.Awp

end Go.Proofs.Ytjmnolhflcjpgaa.Awp

/-! what does not turn the tree's shape (plain Lean) -/
namespace Go.Proofs.Ytjmnolhflcjpgaa.Awp

end Go.Proofs.Ytjmnolhflcjpgaa.Awp

/-! the paths of a tree (plain Lean) -/
namespace Go.Proofs.Ytjmnolhflcjpgaa.Awp

end Go.Proofs.Ytjmnolhflcjpgaa.Awp

/-! lists of paths compared (plain Lean) -/
namespace Go.Proofs.Ytjmnolhflcjpgaa.Awp

end Go.Proofs.Ytjmnolhflcjpgaa.Awp

/-! what is right, reckoned part by part (plain Lean) -/
namespace Go.Proofs.Ytjmnolhflcjpgaa.Awp
open Go.Proofs
set_option linter.unusedSimpArgs false
set_option linter.unusedVariables false

section
variable {α : Type} (p : Nat → α → Bool) (lt : α → α → Bool)
variable {p lt}
end
/-! ### file systems -/
def volNamed (f : Fs) (n : Bytes) : Option Nat := f.vols.findIdx? fun v => decide (v.name = n)
def idxI (o : Option Nat) : Int := match o with
  | none => -1
  | some i => i
end Go.Proofs.Ytjmnolhflcjpgaa.Awp

namespace Go.Proofs.Ytjmnolhflcjpgaa.Awp
open Go.Proofs
set_option linter.unusedSimpArgs false
set_option linter.unusedVariables false
set_option maxRecDepth 100000
set_option maxHeartbeats 20000000

theorem s_eqByteS (a b : Bytes) (hl : a.length < 2 ^ 40) : Spec Try.prog 113 [.ext 1 (bytesR a), .ext 1 (bytesR b)] (.bool (decide (a = b))) [.undef, .undef] := by
  refine spec_C hmx p_L_eqByteS [] 51 [] ⟨Nat.le_of_ble_eq_true rfl, Nat.le_of_ble_eq_true rfl⟩ rfl rfl ?_
  intro w hP hmd hks hQ
  unfold c_L_eqByteS
  simp +decide (maxSteps := 20000000) (disch := omega) only [↓SBK, ↓SBK2, SX, Nat.reduceEqDiff, Nat.reduceAdd, Nat.reduceMul, Nat.reduceSub, ↓reduceIte, Int.reduceNeg, Int.reduceToNat, Int.reducePow, hmd, hks, hQ]
  (first | with_reducible refine if_d _ ?_ ?_ | refine if_i _ ?_ ?_) <;> intro h
  · simp +decide (maxSteps := 20000000) (disch := omega) only [↓SBK, ↓SBK2, SX, Nat.reduceEqDiff, Nat.reduceAdd, Nat.reduceMul, Nat.reduceSub, ↓reduceIte, Int.reduceNeg, Int.reduceToNat, Int.reducePow, hmd, hks, hQ]
    refine loop_i (fun i : Nat => [(5, .int .i64 i)]) (fun i => i ≤ a.length ∧ a.take i = b.take i) (fun i => a.length - i) (0) hP hmd hks (rfl) (by simp) ?_
    rintro i ⟨hi, hab⟩ w1 hP1 hmd1 hks1 hQ1
    simp +decide (maxSteps := 20000000) (disch := omega) only [↓SBK, ↓SBK2, SX, Nat.reduceEqDiff, Nat.reduceAdd, Nat.reduceMul, Nat.reduceSub, ↓reduceIte, Int.reduceNeg, Int.reduceToNat, Int.reducePow, hmd, hks, hQ, hmd1, hks1, hQ1]
    (first | with_reducible refine if_d _ ?_ ?_ | refine if_i _ ?_ ?_) <;> intro h1
    · simp +decide (maxSteps := 20000000) (disch := omega) only [↓SBK, ↓SBK2, SX, Nat.reduceEqDiff, Nat.reduceAdd, Nat.reduceMul, Nat.reduceSub, ↓reduceIte, Int.reduceNeg, Int.reduceToNat, Int.reducePow, hmd, hks, hQ, hmd1, hks1, hQ1, getE h1, getE (h ▸ h1)]
      (first | with_reducible refine if_d _ ?_ ?_ | refine if_i _ ?_ ?_) <;> intro h2
      · simp +decide (maxSteps := 20000000) (disch := omega) only [↓SBK, ↓SBK2, SX, Nat.reduceEqDiff, Nat.reduceAdd, Nat.reduceMul, Nat.reduceSub, ↓reduceIte, Int.reduceNeg, Int.reduceToNat, Int.reducePow, hmd, hks, hQ, hmd1, hks1, hQ1]
        exact ⟨i + 1, rfl, ⟨by omega, take_eq_succ hab _ _ (UInt8.toNat_inj.1 (by omega))⟩, by omega⟩
      · simp +decide (maxSteps := 20000000) (disch := omega) only [↓SBK, ↓SBK2, SX, Nat.reduceEqDiff, Nat.reduceAdd, Nat.reduceMul, Nat.reduceSub, ↓reduceIte, Int.reduceNeg, Int.reduceToNat, Int.reducePow, hmd, hks, hQ, hmd1, hks1, hQ1]
        rw [decide_eq_false]
        rintro rfl; exact h2 rfl
    · simp +decide (maxSteps := 20000000) (disch := omega) only [↓SBK, ↓SBK2, SX, Nat.reduceEqDiff, Nat.reduceAdd, Nat.reduceMul, Nat.reduceSub, ↓reduceIte, Int.reduceNeg, Int.reduceToNat, Int.reducePow, hmd, hks, hQ, hmd1, hks1, hQ1]
      rw [decide_eq_true (take_all hab (by omega) (by omega))]
  · simp +decide (maxSteps := 20000000) (disch := omega) only [↓SBK, ↓SBK2, SX, Nat.reduceEqDiff, Nat.reduceAdd, Nat.reduceMul, Nat.reduceSub, ↓reduceIte, Int.reduceNeg, Int.reduceToNat, Int.reducePow, hmd, hks, hQ, hQ]
    rw [decide_eq_false]
    rintro rfl; exact h rfl

theorem s_szByteS (a : Bytes) (left : Int) (hl : a.length < 2 ^ 48) (h0 : 0 ≤ left) (h1 : left < 2 ^ 40) :
    Spec Try.prog 116 [.ext 1 (bytesR a), .int .i64 left] (.int .i64 (szC left a.length)) [.undef, .undef] := by
  refine spec_C hmx p_L_szByteS [] 19 [] ⟨Nat.le_of_ble_eq_true rfl, Nat.le_of_ble_eq_true rfl⟩ rfl rfl ?_
  intro w hP hmd hks hQ
  unfold c_L_szByteS
  simp +decide (maxSteps := 20000000) (disch := omega) only [↓SBK, ↓SBK2, SX, Nat.reduceEqDiff, Nat.reduceAdd, Nat.reduceMul, Nat.reduceSub, ↓reduceIte, Int.reduceNeg, Int.reduceToNat, Int.reducePow, hmd, hks, hQ]
  (first | with_reducible refine if_d _ ?_ ?_ | refine if_i _ ?_ ?_) <;> intro h
  · simp +decide (maxSteps := 20000000) (disch := omega) only [↓SBK, ↓SBK2, SX, Nat.reduceEqDiff, Nat.reduceAdd, Nat.reduceMul, Nat.reduceSub, ↓reduceIte, Int.reduceNeg, Int.reduceToNat, Int.reducePow, hmd, hks, hQ]
    rw [szC_lt (by omega)]
  · simp +decide (maxSteps := 20000000) (disch := omega) only [↓SBK, ↓SBK2, SX, Nat.reduceEqDiff, Nat.reduceAdd, Nat.reduceMul, Nat.reduceSub, ↓reduceIte, Int.reduceNeg, Int.reduceToNat, Int.reducePow, hmd, hks, hQ]
    rw [szC_ge (by omega)]

theorem s_toByteS (a : Bytes) (hl : a.length < 2 ^ 40) : Spec Try.prog 119 [.ext 1 (bytesR a)] (.own 1 (bytesR a)) [.undef] := by
  refine spec_C hmx p_L_toByteS [] 29 [] ⟨Nat.le_of_ble_eq_true rfl, Nat.le_of_ble_eq_true rfl⟩ rfl rfl ?_
  intro w hP hmd hks hQ
  unfold c_L_toByteS
  simp +decide (maxSteps := 20000000) (disch := omega) only [↓SBK, ↓SBK2, SX, Nat.reduceEqDiff, Nat.reduceAdd, Nat.reduceMul, Nat.reduceSub, ↓reduceIte, Int.reduceNeg, Int.reduceToNat, Int.reducePow, hmd, hks, hQ]
  refine loop_i (fun i : Nat => [(3, .own 1 (fillR byteRow [.int .u8 0] a i)), (4, .int .i64 i)]) (fun i => i ≤ a.length) (fun i => a.length - i) (0) hP hmd hks (by simp +decide (maxSteps := 20000000) (disch := omega) only [↓SBK, ↓SBK2, SX, Nat.reduceEqDiff, Nat.reduceAdd, Nat.reduceMul, Nat.reduceSub, ↓reduceIte, Int.reduceNeg, Int.reduceToNat, Int.reducePow, hmd, hks, hQ, fillR_0]) (by omega) ?_
  rintro i hi w1 hP1 hmd1 hks1 hQ1
  simp +decide (maxSteps := 20000000) (disch := omega) only [↓SBK, ↓SBK2, SX, Nat.reduceEqDiff, Nat.reduceAdd, Nat.reduceMul, Nat.reduceSub, ↓reduceIte, Int.reduceNeg, Int.reduceToNat, Int.reducePow, hmd, hks, hQ, hmd1, hks1, hQ1]
  (first | with_reducible refine if_d _ ?_ ?_ | refine if_i _ ?_ ?_) <;> intro h1
  · simp +decide (maxSteps := 20000000) (disch := omega) only [↓SBK, ↓SBK2, SX, Nat.reduceEqDiff, Nat.reduceAdd, Nat.reduceMul, Nat.reduceSub, ↓reduceIte, Int.reduceNeg, Int.reduceToNat, Int.reducePow, hmd, hks, hQ, hmd1, hks1, hQ1, getE h1]
    rw [fillR_set _ _ _ _ (by omega) _ (by rfl)]
    exact ⟨i + 1, rfl, by omega, by omega⟩
  · simp +decide (maxSteps := 20000000) (disch := omega) only [↓SBK, ↓SBK2, SX, Nat.reduceEqDiff, Nat.reduceAdd, Nat.reduceMul, Nat.reduceSub, ↓reduceIte, Int.reduceNeg, Int.reduceToNat, Int.reducePow, hmd, hks, hQ, hmd1, hks1, hQ1, fillR_all, bytesR_row]

end Go.Proofs.Ytjmnolhflcjpgaa.Awp

namespace Go.Proofs.Ytjmnolhflcjpgaa.Awp
open Go.Proofs
set_option linter.unusedSimpArgs false
set_option linter.unusedVariables false
set_option maxRecDepth 100000
set_option maxHeartbeats 20000000

theorem s_eqEnt (a b : Ent) (hl : a.sz < 2 ^ 40) : Spec Try.prog 128 [a.x, b.x] (.bool (decide (a = b))) [.undef, .undef] := by
  simp only [Ent.sz] at hl
  refine spec_C hmx p_L_eqEnt [] 31 [] ⟨Nat.le_of_ble_eq_true rfl, Nat.le_of_ble_eq_true rfl⟩ rfl rfl ?_
  intro w hP hmd hks hQ
  unfold c_L_eqEnt
  simp +decide (maxSteps := 20000000) (disch := omega) only [↓SBK, ↓SBK2, SX, Nat.reduceEqDiff, Nat.reduceAdd, Nat.reduceMul, Nat.reduceSub, ↓reduceIte, Int.reduceNeg, Int.reduceToNat, Int.reducePow, hmd, hks, hQ]
  (first | with_reducible refine if_d _ ?_ ?_ | refine if_i _ ?_ ?_) <;> intro h0
  rotate_left
  · simp +decide (maxSteps := 20000000) (disch := omega) only [↓SBK, ↓SBK2, SX, Nat.reduceEqDiff, Nat.reduceAdd, Nat.reduceMul, Nat.reduceSub, ↓reduceIte, Int.reduceNeg, Int.reduceToNat, Int.reducePow, hmd, hks, hQ]
    rw [decide_eq_false (by rintro rfl; exact h0 rfl)]
  simp +decide (maxSteps := 20000000) (disch := omega) only [↓SBK, ↓SBK2, SX, Nat.reduceEqDiff, Nat.reduceAdd, Nat.reduceMul, Nat.reduceSub, ↓reduceIte, Int.reduceNeg, Int.reduceToNat, Int.reducePow, hmd, hks, hQ]
  (first | with_reducible refine if_d _ ?_ ?_ | refine if_i _ ?_ ?_) <;> intro h1
  rotate_left
  · simp +decide (maxSteps := 20000000) (disch := omega) only [↓SBK, ↓SBK2, SX, Nat.reduceEqDiff, Nat.reduceAdd, Nat.reduceMul, Nat.reduceSub, ↓reduceIte, Int.reduceNeg, Int.reduceToNat, Int.reducePow, hmd, hks, hQ]
    rw [decide_eq_false (by rintro rfl; exact h1 rfl)]
  simp +decide (maxSteps := 20000000) (disch := omega) only [↓SBK, ↓SBK2, SX, Nat.reduceEqDiff, Nat.reduceAdd, Nat.reduceMul, Nat.reduceSub, ↓reduceIte, Int.reduceNeg, Int.reduceToNat, Int.reducePow, hmd, hks, hQ]
  rw [decide_eq_true (Ent.eq' h0 h1)]

theorem s_eqEntS (a b : List Ent) (hl : szM Ent.sz a < 2 ^ 40) : Spec Try.prog 114 [.ext 2 (a.map Ent.row), .ext 2 (b.map Ent.row)] (.bool (decide (a = b))) [.undef, .undef] := by
  simp only [szM] at hl
  refine spec_C hmx p_L_eqEntS [] 51 [] ⟨Nat.le_of_ble_eq_true rfl, Nat.le_of_ble_eq_true rfl⟩ rfl rfl ?_
  intro w hP hmd hks hQ
  unfold c_L_eqEntS
  simp +decide (maxSteps := 20000000) (disch := omega) only [↓SBK, ↓SBK2, SX, Nat.reduceEqDiff, Nat.reduceAdd, Nat.reduceMul, Nat.reduceSub, ↓reduceIte, Int.reduceNeg, Int.reduceToNat, Int.reducePow, hmd, hks, hQ]
  (first | with_reducible refine if_d _ ?_ ?_ | refine if_i _ ?_ ?_) <;> intro h
  rotate_left
  · simp +decide (maxSteps := 20000000) (disch := omega) only [↓SBK, ↓SBK2, SX, Nat.reduceEqDiff, Nat.reduceAdd, Nat.reduceMul, Nat.reduceSub, ↓reduceIte, Int.reduceNeg, Int.reduceToNat, Int.reducePow, hmd, hks, hQ]
    rw [decide_eq_false (by rintro rfl; exact h rfl)]
  simp +decide (maxSteps := 20000000) (disch := omega) only [↓SBK, ↓SBK2, SX, Nat.reduceEqDiff, Nat.reduceAdd, Nat.reduceMul, Nat.reduceSub, ↓reduceIte, Int.reduceNeg, Int.reduceToNat, Int.reducePow, hmd, hks, hQ]
  refine loop_i (fun i : Nat => [(5, .int .i64 i)]) (fun i => i ≤ a.length ∧ a.take i = b.take i) (fun i => a.length - i) (0) hP hmd hks (rfl) (by simp) ?_
  rintro i ⟨hi, hab⟩ w1 hP1 hmd1 hks1 hQ1
  simp +decide (maxSteps := 20000000) (disch := omega) only [↓SBK, ↓SBK2, SX, Nat.reduceEqDiff, Nat.reduceAdd, Nat.reduceMul, Nat.reduceSub, ↓reduceIte, Int.reduceNeg, Int.reduceToNat, Int.reducePow, hmd, hks, hQ, hmd1, hks1, hQ1]
  (first | with_reducible refine if_d _ ?_ ?_ | refine if_i _ ?_ ?_) <;> intro h1
  · simp +decide (maxSteps := 20000000) (disch := omega) only [↓SBK, ↓SBK2, SX, Nat.reduceEqDiff, Nat.reduceAdd, Nat.reduceMul, Nat.reduceSub, ↓reduceIte, Int.reduceNeg, Int.reduceToNat, Int.reducePow, hmd, hks, hQ, hmd1, hks1, hQ1, getE h1, getE (h ▸ h1)]
    (first | refine call_i hP1 (s_eqEnt (a[i]'(by omega)) (b[i]'(by omega)) (Nat.lt_of_le_of_lt (sum_get Ent.sz _) (by omega))) (.inl ⟨rfl, fun _ hx => nomatch hx⟩) ?_ | refine callH_i hP1 (s_eqEnt (a[i]'(by omega)) (b[i]'(by omega)) (Nat.lt_of_le_of_lt (sum_get Ent.sz _) (by omega))) (.inl ⟨rfl, fun _ hx => nomatch hx⟩) ?_)
    simp +decide (maxSteps := 20000000) (disch := omega) only [↓SBK, ↓SBK2, SX, Nat.reduceEqDiff, Nat.reduceAdd, Nat.reduceMul, Nat.reduceSub, ↓reduceIte, Int.reduceNeg, Int.reduceToNat, Int.reducePow, hmd, hks, hQ, hmd1, hks1, hQ1]
    (first | with_reducible refine if_d _ ?_ ?_ | refine if_i _ ?_ ?_) <;> intro h2
    · simp +decide (maxSteps := 20000000) (disch := omega) only [↓SBK, ↓SBK2, SX, Nat.reduceEqDiff, Nat.reduceAdd, Nat.reduceMul, Nat.reduceSub, ↓reduceIte, Int.reduceNeg, Int.reduceToNat, Int.reducePow, hmd, hks, hQ, hmd1, hks1, hQ1]
      exact ⟨i + 1, rfl, ⟨by omega, take_eq_succ hab _ _ h2⟩, by omega⟩
    · simp +decide (maxSteps := 20000000) (disch := omega) only [↓SBK, ↓SBK2, SX, Nat.reduceEqDiff, Nat.reduceAdd, Nat.reduceMul, Nat.reduceSub, ↓reduceIte, Int.reduceNeg, Int.reduceToNat, Int.reducePow, hmd, hks, hQ, hmd1, hks1, hQ1]
      rw [decide_eq_false (by rintro rfl; exact h2 rfl)]
  · simp +decide (maxSteps := 20000000) (disch := omega) only [↓SBK, ↓SBK2, SX, Nat.reduceEqDiff, Nat.reduceAdd, Nat.reduceMul, Nat.reduceSub, ↓reduceIte, Int.reduceNeg, Int.reduceToNat, Int.reducePow, hmd, hks, hQ, hmd1, hks1, hQ1]
    rw [decide_eq_true (take_all hab (by omega) (by omega))]

theorem s_eqAttr (a b : Attr) (hl : a.sz < 2 ^ 40) : Spec Try.prog 129 [a.x, b.x] (.bool (decide (a = b))) [.undef, .undef] := by
  simp only [Attr.sz] at hl
  refine spec_C hmx p_L_eqAttr [] 31 [] ⟨Nat.le_of_ble_eq_true rfl, Nat.le_of_ble_eq_true rfl⟩ rfl rfl ?_
  intro w hP hmd hks hQ
  unfold c_L_eqAttr
  simp +decide (maxSteps := 20000000) (disch := omega) only [↓SBK, ↓SBK2, SX, Nat.reduceEqDiff, Nat.reduceAdd, Nat.reduceMul, Nat.reduceSub, ↓reduceIte, Int.reduceNeg, Int.reduceToNat, Int.reducePow, hmd, hks, hQ]
  (first | with_reducible refine if_d _ ?_ ?_ | refine if_i _ ?_ ?_) <;> intro h0
  rotate_left
  · simp +decide (maxSteps := 20000000) (disch := omega) only [↓SBK, ↓SBK2, SX, Nat.reduceEqDiff, Nat.reduceAdd, Nat.reduceMul, Nat.reduceSub, ↓reduceIte, Int.reduceNeg, Int.reduceToNat, Int.reducePow, hmd, hks, hQ]
    rw [decide_eq_false (by rintro rfl; exact h0 rfl)]
  simp +decide (maxSteps := 20000000) (disch := omega) only [↓SBK, ↓SBK2, SX, Nat.reduceEqDiff, Nat.reduceAdd, Nat.reduceMul, Nat.reduceSub, ↓reduceIte, Int.reduceNeg, Int.reduceToNat, Int.reducePow, hmd, hks, hQ]
  (first | with_reducible refine if_d _ ?_ ?_ | refine if_i _ ?_ ?_) <;> intro h1
  rotate_left
  · simp +decide (maxSteps := 20000000) (disch := omega) only [↓SBK, ↓SBK2, SX, Nat.reduceEqDiff, Nat.reduceAdd, Nat.reduceMul, Nat.reduceSub, ↓reduceIte, Int.reduceNeg, Int.reduceToNat, Int.reducePow, hmd, hks, hQ]
    rw [decide_eq_false (by rintro rfl; exact h1 rfl)]
  simp +decide (maxSteps := 20000000) (disch := omega) only [↓SBK, ↓SBK2, SX, Nat.reduceEqDiff, Nat.reduceAdd, Nat.reduceMul, Nat.reduceSub, ↓reduceIte, Int.reduceNeg, Int.reduceToNat, Int.reducePow, hmd, hks, hQ]
  rw [decide_eq_true (Attr.eq' h0 h1)]

theorem s_eqAttrS (a b : List Attr) (hl : szM Attr.sz a < 2 ^ 40) : Spec Try.prog 115 [.ext 2 (a.map Attr.row), .ext 2 (b.map Attr.row)] (.bool (decide (a = b))) [.undef, .undef] := by
  simp only [szM] at hl
  refine spec_C hmx p_L_eqAttrS [] 51 [] ⟨Nat.le_of_ble_eq_true rfl, Nat.le_of_ble_eq_true rfl⟩ rfl rfl ?_
  intro w hP hmd hks hQ
  unfold c_L_eqAttrS
  simp +decide (maxSteps := 20000000) (disch := omega) only [↓SBK, ↓SBK2, SX, Nat.reduceEqDiff, Nat.reduceAdd, Nat.reduceMul, Nat.reduceSub, ↓reduceIte, Int.reduceNeg, Int.reduceToNat, Int.reducePow, hmd, hks, hQ]
  (first | with_reducible refine if_d _ ?_ ?_ | refine if_i _ ?_ ?_) <;> intro h
  rotate_left
  · simp +decide (maxSteps := 20000000) (disch := omega) only [↓SBK, ↓SBK2, SX, Nat.reduceEqDiff, Nat.reduceAdd, Nat.reduceMul, Nat.reduceSub, ↓reduceIte, Int.reduceNeg, Int.reduceToNat, Int.reducePow, hmd, hks, hQ]
    rw [decide_eq_false (by rintro rfl; exact h rfl)]
  simp +decide (maxSteps := 20000000) (disch := omega) only [↓SBK, ↓SBK2, SX, Nat.reduceEqDiff, Nat.reduceAdd, Nat.reduceMul, Nat.reduceSub, ↓reduceIte, Int.reduceNeg, Int.reduceToNat, Int.reducePow, hmd, hks, hQ]
  refine loop_i (fun i : Nat => [(5, .int .i64 i)]) (fun i => i ≤ a.length ∧ a.take i = b.take i) (fun i => a.length - i) (0) hP hmd hks (rfl) (by simp) ?_
  rintro i ⟨hi, hab⟩ w1 hP1 hmd1 hks1 hQ1
  simp +decide (maxSteps := 20000000) (disch := omega) only [↓SBK, ↓SBK2, SX, Nat.reduceEqDiff, Nat.reduceAdd, Nat.reduceMul, Nat.reduceSub, ↓reduceIte, Int.reduceNeg, Int.reduceToNat, Int.reducePow, hmd, hks, hQ, hmd1, hks1, hQ1]
  (first | with_reducible refine if_d _ ?_ ?_ | refine if_i _ ?_ ?_) <;> intro h1
  · simp +decide (maxSteps := 20000000) (disch := omega) only [↓SBK, ↓SBK2, SX, Nat.reduceEqDiff, Nat.reduceAdd, Nat.reduceMul, Nat.reduceSub, ↓reduceIte, Int.reduceNeg, Int.reduceToNat, Int.reducePow, hmd, hks, hQ, hmd1, hks1, hQ1, getE h1, getE (h ▸ h1)]
    (first | refine call_i hP1 (s_eqAttr (a[i]'(by omega)) (b[i]'(by omega)) (Nat.lt_of_le_of_lt (sum_get Attr.sz _) (by omega))) (.inl ⟨rfl, fun _ hx => nomatch hx⟩) ?_ | refine callH_i hP1 (s_eqAttr (a[i]'(by omega)) (b[i]'(by omega)) (Nat.lt_of_le_of_lt (sum_get Attr.sz _) (by omega))) (.inl ⟨rfl, fun _ hx => nomatch hx⟩) ?_)
    simp +decide (maxSteps := 20000000) (disch := omega) only [↓SBK, ↓SBK2, SX, Nat.reduceEqDiff, Nat.reduceAdd, Nat.reduceMul, Nat.reduceSub, ↓reduceIte, Int.reduceNeg, Int.reduceToNat, Int.reducePow, hmd, hks, hQ, hmd1, hks1, hQ1]
    (first | with_reducible refine if_d _ ?_ ?_ | refine if_i _ ?_ ?_) <;> intro h2
    · simp +decide (maxSteps := 20000000) (disch := omega) only [↓SBK, ↓SBK2, SX, Nat.reduceEqDiff, Nat.reduceAdd, Nat.reduceMul, Nat.reduceSub, ↓reduceIte, Int.reduceNeg, Int.reduceToNat, Int.reducePow, hmd, hks, hQ, hmd1, hks1, hQ1]
      exact ⟨i + 1, rfl, ⟨by omega, take_eq_succ hab _ _ h2⟩, by omega⟩
    · simp +decide (maxSteps := 20000000) (disch := omega) only [↓SBK, ↓SBK2, SX, Nat.reduceEqDiff, Nat.reduceAdd, Nat.reduceMul, Nat.reduceSub, ↓reduceIte, Int.reduceNeg, Int.reduceToNat, Int.reducePow, hmd, hks, hQ, hmd1, hks1, hQ1]
      rw [decide_eq_false (by rintro rfl; exact h2 rfl)]
  · simp +decide (maxSteps := 20000000) (disch := omega) only [↓SBK, ↓SBK2, SX, Nat.reduceEqDiff, Nat.reduceAdd, Nat.reduceMul, Nat.reduceSub, ↓reduceIte, Int.reduceNeg, Int.reduceToNat, Int.reducePow, hmd, hks, hQ, hmd1, hks1, hQ1]
    rw [decide_eq_true (take_all hab (by omega) (by omega))]

theorem s_eqInode (a b : Inode) (hl : a.sz < 2 ^ 40) : Spec Try.prog 94 [a.x, b.x] (.bool (decide (a = b))) [.undef, .undef] := by
  simp only [Inode.sz] at hl
  refine spec_C hmx p_L_eqInode [] 31 [] ⟨Nat.le_of_ble_eq_true rfl, Nat.le_of_ble_eq_true rfl⟩ rfl rfl ?_
  intro w hP hmd hks hQ
  unfold c_L_eqInode
  simp +decide (maxSteps := 20000000) (disch := omega) only [↓SBK, ↓SBK2, SX, Nat.reduceEqDiff, Nat.reduceAdd, Nat.reduceMul, Nat.reduceSub, ↓reduceIte, Int.reduceNeg, Int.reduceToNat, Int.reducePow, hmd, hks, hQ]
  (first | with_reducible refine if_d _ ?_ ?_ | refine if_i _ ?_ ?_) <;> intro h0
  rotate_left
  · simp +decide (maxSteps := 20000000) (disch := omega) only [↓SBK, ↓SBK2, SX, Nat.reduceEqDiff, Nat.reduceAdd, Nat.reduceMul, Nat.reduceSub, ↓reduceIte, Int.reduceNeg, Int.reduceToNat, Int.reducePow, hmd, hks, hQ]
    rw [decide_eq_false (by rintro rfl; exact h0 rfl)]
  simp +decide (maxSteps := 20000000) (disch := omega) only [↓SBK, ↓SBK2, SX, Nat.reduceEqDiff, Nat.reduceAdd, Nat.reduceMul, Nat.reduceSub, ↓reduceIte, Int.reduceNeg, Int.reduceToNat, Int.reducePow, hmd, hks, hQ]
  (first | with_reducible refine if_d _ ?_ ?_ | refine if_i _ ?_ ?_) <;> intro h1
  rotate_left
  · simp +decide (maxSteps := 20000000) (disch := omega) only [↓SBK, ↓SBK2, SX, Nat.reduceEqDiff, Nat.reduceAdd, Nat.reduceMul, Nat.reduceSub, ↓reduceIte, Int.reduceNeg, Int.reduceToNat, Int.reducePow, hmd, hks, hQ]
    rw [decide_eq_false (by rintro rfl; exact h1 rfl)]
  simp +decide (maxSteps := 20000000) (disch := omega) only [↓SBK, ↓SBK2, SX, Nat.reduceEqDiff, Nat.reduceAdd, Nat.reduceMul, Nat.reduceSub, ↓reduceIte, Int.reduceNeg, Int.reduceToNat, Int.reducePow, hmd, hks, hQ]
  (first | with_reducible refine if_d _ ?_ ?_ | refine if_i _ ?_ ?_) <;> intro h2
  rotate_left
  · simp +decide (maxSteps := 20000000) (disch := omega) only [↓SBK, ↓SBK2, SX, Nat.reduceEqDiff, Nat.reduceAdd, Nat.reduceMul, Nat.reduceSub, ↓reduceIte, Int.reduceNeg, Int.reduceToNat, Int.reducePow, hmd, hks, hQ]
    rw [decide_eq_false (by rintro rfl; exact h2 rfl)]
  simp +decide (maxSteps := 20000000) (disch := omega) only [↓SBK, ↓SBK2, SX, Nat.reduceEqDiff, Nat.reduceAdd, Nat.reduceMul, Nat.reduceSub, ↓reduceIte, Int.reduceNeg, Int.reduceToNat, Int.reducePow, hmd, hks, hQ]
  (first | refine call_i hP (s_eqByteS a.data b.data (by omega)) (.inl ⟨rfl, fun _ hx => nomatch hx⟩) ?_ | refine callH_i hP (s_eqByteS a.data b.data (by omega)) (.inl ⟨rfl, fun _ hx => nomatch hx⟩) ?_)
  simp +decide (maxSteps := 20000000) (disch := omega) only [↓SBK, ↓SBK2, SX, Nat.reduceEqDiff, Nat.reduceAdd, Nat.reduceMul, Nat.reduceSub, ↓reduceIte, Int.reduceNeg, Int.reduceToNat, Int.reducePow, hmd, hks, hQ]
  (first | with_reducible refine if_d _ ?_ ?_ | refine if_i _ ?_ ?_) <;> intro h3
  rotate_left
  · simp +decide (maxSteps := 20000000) (disch := omega) only [↓SBK, ↓SBK2, SX, Nat.reduceEqDiff, Nat.reduceAdd, Nat.reduceMul, Nat.reduceSub, ↓reduceIte, Int.reduceNeg, Int.reduceToNat, Int.reducePow, hmd, hks, hQ]
    rw [decide_eq_false (by rintro rfl; exact h3 rfl)]
  simp +decide (maxSteps := 20000000) (disch := omega) only [↓SBK, ↓SBK2, SX, Nat.reduceEqDiff, Nat.reduceAdd, Nat.reduceMul, Nat.reduceSub, ↓reduceIte, Int.reduceNeg, Int.reduceToNat, Int.reducePow, hmd, hks, hQ]
  (first | refine call_i hP (s_eqEntS a.ents b.ents (by omega)) (.inl ⟨rfl, fun _ hx => nomatch hx⟩) ?_ | refine callH_i hP (s_eqEntS a.ents b.ents (by omega)) (.inl ⟨rfl, fun _ hx => nomatch hx⟩) ?_)
  simp +decide (maxSteps := 20000000) (disch := omega) only [↓SBK, ↓SBK2, SX, Nat.reduceEqDiff, Nat.reduceAdd, Nat.reduceMul, Nat.reduceSub, ↓reduceIte, Int.reduceNeg, Int.reduceToNat, Int.reducePow, hmd, hks, hQ]
  (first | with_reducible refine if_d _ ?_ ?_ | refine if_i _ ?_ ?_) <;> intro h4
  rotate_left
  · simp +decide (maxSteps := 20000000) (disch := omega) only [↓SBK, ↓SBK2, SX, Nat.reduceEqDiff, Nat.reduceAdd, Nat.reduceMul, Nat.reduceSub, ↓reduceIte, Int.reduceNeg, Int.reduceToNat, Int.reducePow, hmd, hks, hQ]
    rw [decide_eq_false (by rintro rfl; exact h4 rfl)]
  simp +decide (maxSteps := 20000000) (disch := omega) only [↓SBK, ↓SBK2, SX, Nat.reduceEqDiff, Nat.reduceAdd, Nat.reduceMul, Nat.reduceSub, ↓reduceIte, Int.reduceNeg, Int.reduceToNat, Int.reducePow, hmd, hks, hQ]
  (first | refine call_i hP (s_eqAttrS a.attrs b.attrs (by omega)) (.inl ⟨rfl, fun _ hx => nomatch hx⟩) ?_ | refine callH_i hP (s_eqAttrS a.attrs b.attrs (by omega)) (.inl ⟨rfl, fun _ hx => nomatch hx⟩) ?_)
  simp +decide (maxSteps := 20000000) (disch := omega) only [↓SBK, ↓SBK2, SX, Nat.reduceEqDiff, Nat.reduceAdd, Nat.reduceMul, Nat.reduceSub, ↓reduceIte, Int.reduceNeg, Int.reduceToNat, Int.reducePow, hmd, hks, hQ]
  (first | with_reducible refine if_d _ ?_ ?_ | refine if_i _ ?_ ?_) <;> intro h5
  rotate_left
  · simp +decide (maxSteps := 20000000) (disch := omega) only [↓SBK, ↓SBK2, SX, Nat.reduceEqDiff, Nat.reduceAdd, Nat.reduceMul, Nat.reduceSub, ↓reduceIte, Int.reduceNeg, Int.reduceToNat, Int.reducePow, hmd, hks, hQ]
    rw [decide_eq_false (by rintro rfl; exact h5 rfl)]
  simp +decide (maxSteps := 20000000) (disch := omega) only [↓SBK, ↓SBK2, SX, Nat.reduceEqDiff, Nat.reduceAdd, Nat.reduceMul, Nat.reduceSub, ↓reduceIte, Int.reduceNeg, Int.reduceToNat, Int.reducePow, hmd, hks, hQ]
  rw [decide_eq_true (Inode.eq' h0 h1 h2 h3 h4 h5)]

theorem s_eqInodeS (a b : List Inode) (hl : szM Inode.sz a < 2 ^ 40) : Spec Try.prog 82 [.ext 6 (a.map Inode.row), .ext 6 (b.map Inode.row)] (.bool (decide (a = b))) [.undef, .undef] := by
  simp only [szM] at hl
  refine spec_C hmx p_L_eqInodeS [] 51 [] ⟨Nat.le_of_ble_eq_true rfl, Nat.le_of_ble_eq_true rfl⟩ rfl rfl ?_
  intro w hP hmd hks hQ
  unfold c_L_eqInodeS
  simp +decide (maxSteps := 20000000) (disch := omega) only [↓SBK, ↓SBK2, SX, Nat.reduceEqDiff, Nat.reduceAdd, Nat.reduceMul, Nat.reduceSub, ↓reduceIte, Int.reduceNeg, Int.reduceToNat, Int.reducePow, hmd, hks, hQ]
  (first | with_reducible refine if_d _ ?_ ?_ | refine if_i _ ?_ ?_) <;> intro h
  rotate_left
  · simp +decide (maxSteps := 20000000) (disch := omega) only [↓SBK, ↓SBK2, SX, Nat.reduceEqDiff, Nat.reduceAdd, Nat.reduceMul, Nat.reduceSub, ↓reduceIte, Int.reduceNeg, Int.reduceToNat, Int.reducePow, hmd, hks, hQ]
    rw [decide_eq_false (by rintro rfl; exact h rfl)]
  simp +decide (maxSteps := 20000000) (disch := omega) only [↓SBK, ↓SBK2, SX, Nat.reduceEqDiff, Nat.reduceAdd, Nat.reduceMul, Nat.reduceSub, ↓reduceIte, Int.reduceNeg, Int.reduceToNat, Int.reducePow, hmd, hks, hQ]
  refine loop_i (fun i : Nat => [(5, .int .i64 i)]) (fun i => i ≤ a.length ∧ a.take i = b.take i) (fun i => a.length - i) (0) hP hmd hks (rfl) (by simp) ?_
  rintro i ⟨hi, hab⟩ w1 hP1 hmd1 hks1 hQ1
  simp +decide (maxSteps := 20000000) (disch := omega) only [↓SBK, ↓SBK2, SX, Nat.reduceEqDiff, Nat.reduceAdd, Nat.reduceMul, Nat.reduceSub, ↓reduceIte, Int.reduceNeg, Int.reduceToNat, Int.reducePow, hmd, hks, hQ, hmd1, hks1, hQ1]
  (first | with_reducible refine if_d _ ?_ ?_ | refine if_i _ ?_ ?_) <;> intro h1
  · simp +decide (maxSteps := 20000000) (disch := omega) only [↓SBK, ↓SBK2, SX, Nat.reduceEqDiff, Nat.reduceAdd, Nat.reduceMul, Nat.reduceSub, ↓reduceIte, Int.reduceNeg, Int.reduceToNat, Int.reducePow, hmd, hks, hQ, hmd1, hks1, hQ1, getE h1, getE (h ▸ h1)]
    (first | refine call_i hP1 (s_eqInode (a[i]'(by omega)) (b[i]'(by omega)) (Nat.lt_of_le_of_lt (sum_get Inode.sz _) (by omega))) (.inl ⟨rfl, fun _ hx => nomatch hx⟩) ?_ | refine callH_i hP1 (s_eqInode (a[i]'(by omega)) (b[i]'(by omega)) (Nat.lt_of_le_of_lt (sum_get Inode.sz _) (by omega))) (.inl ⟨rfl, fun _ hx => nomatch hx⟩) ?_)
    simp +decide (maxSteps := 20000000) (disch := omega) only [↓SBK, ↓SBK2, SX, Nat.reduceEqDiff, Nat.reduceAdd, Nat.reduceMul, Nat.reduceSub, ↓reduceIte, Int.reduceNeg, Int.reduceToNat, Int.reducePow, hmd, hks, hQ, hmd1, hks1, hQ1]
    (first | with_reducible refine if_d _ ?_ ?_ | refine if_i _ ?_ ?_) <;> intro h2
    · simp +decide (maxSteps := 20000000) (disch := omega) only [↓SBK, ↓SBK2, SX, Nat.reduceEqDiff, Nat.reduceAdd, Nat.reduceMul, Nat.reduceSub, ↓reduceIte, Int.reduceNeg, Int.reduceToNat, Int.reducePow, hmd, hks, hQ, hmd1, hks1, hQ1]
      exact ⟨i + 1, rfl, ⟨by omega, take_eq_succ hab _ _ h2⟩, by omega⟩
    · simp +decide (maxSteps := 20000000) (disch := omega) only [↓SBK, ↓SBK2, SX, Nat.reduceEqDiff, Nat.reduceAdd, Nat.reduceMul, Nat.reduceSub, ↓reduceIte, Int.reduceNeg, Int.reduceToNat, Int.reducePow, hmd, hks, hQ, hmd1, hks1, hQ1]
      rw [decide_eq_false (by rintro rfl; exact h2 rfl)]
  · simp +decide (maxSteps := 20000000) (disch := omega) only [↓SBK, ↓SBK2, SX, Nat.reduceEqDiff, Nat.reduceAdd, Nat.reduceMul, Nat.reduceSub, ↓reduceIte, Int.reduceNeg, Int.reduceToNat, Int.reducePow, hmd, hks, hQ, hmd1, hks1, hQ1]
    rw [decide_eq_true (take_all hab (by omega) (by omega))]

theorem s_eqTab (a b : Tab) (hl : a.sz < 2 ^ 40) : Spec Try.prog 61 [a.x, b.x] (.bool (decide (a = b))) [.undef, .undef] := by
  simp only [Tab.sz] at hl
  refine spec_C hmx p_L_eqTab [] 31 [] ⟨Nat.le_of_ble_eq_true rfl, Nat.le_of_ble_eq_true rfl⟩ rfl rfl ?_
  intro w hP hmd hks hQ
  unfold c_L_eqTab
  simp +decide (maxSteps := 20000000) (disch := omega) only [↓SBK, ↓SBK2, SX, Nat.reduceEqDiff, Nat.reduceAdd, Nat.reduceMul, Nat.reduceSub, ↓reduceIte, Int.reduceNeg, Int.reduceToNat, Int.reducePow, hmd, hks, hQ]
  (first | refine call_i hP (s_eqInodeS a.inodes b.inodes (by omega)) (.inl ⟨rfl, fun _ hx => nomatch hx⟩) ?_ | refine callH_i hP (s_eqInodeS a.inodes b.inodes (by omega)) (.inl ⟨rfl, fun _ hx => nomatch hx⟩) ?_)
  simp +decide (maxSteps := 20000000) (disch := omega) only [↓SBK, ↓SBK2, SX, Nat.reduceEqDiff, Nat.reduceAdd, Nat.reduceMul, Nat.reduceSub, ↓reduceIte, Int.reduceNeg, Int.reduceToNat, Int.reducePow, hmd, hks, hQ]
  (first | with_reducible refine if_d _ ?_ ?_ | refine if_i _ ?_ ?_) <;> intro h0
  rotate_left
  · simp +decide (maxSteps := 20000000) (disch := omega) only [↓SBK, ↓SBK2, SX, Nat.reduceEqDiff, Nat.reduceAdd, Nat.reduceMul, Nat.reduceSub, ↓reduceIte, Int.reduceNeg, Int.reduceToNat, Int.reducePow, hmd, hks, hQ]
    rw [decide_eq_false (by rintro rfl; exact h0 rfl)]
  simp +decide (maxSteps := 20000000) (disch := omega) only [↓SBK, ↓SBK2, SX, Nat.reduceEqDiff, Nat.reduceAdd, Nat.reduceMul, Nat.reduceSub, ↓reduceIte, Int.reduceNeg, Int.reduceToNat, Int.reducePow, hmd, hks, hQ]
  (first | with_reducible refine if_d _ ?_ ?_ | refine if_i _ ?_ ?_) <;> intro h1
  rotate_left
  · simp +decide (maxSteps := 20000000) (disch := omega) only [↓SBK, ↓SBK2, SX, Nat.reduceEqDiff, Nat.reduceAdd, Nat.reduceMul, Nat.reduceSub, ↓reduceIte, Int.reduceNeg, Int.reduceToNat, Int.reducePow, hmd, hks, hQ]
    rw [decide_eq_false (by rintro rfl; exact h1 rfl)]
  simp +decide (maxSteps := 20000000) (disch := omega) only [↓SBK, ↓SBK2, SX, Nat.reduceEqDiff, Nat.reduceAdd, Nat.reduceMul, Nat.reduceSub, ↓reduceIte, Int.reduceNeg, Int.reduceToNat, Int.reducePow, hmd, hks, hQ]
  rw [decide_eq_true (Tab.eq' h0 h1)]

theorem s_eqVol (a b : Vol) (hl : a.sz < 2 ^ 40) : Spec Try.prog 44 [a.x, b.x] (.bool (decide (a = b))) [.undef, .undef] := by
  simp only [Vol.sz] at hl
  refine spec_C hmx p_L_eqVol [] 31 [] ⟨Nat.le_of_ble_eq_true rfl, Nat.le_of_ble_eq_true rfl⟩ rfl rfl ?_
  intro w hP hmd hks hQ
  unfold c_L_eqVol
  simp +decide (maxSteps := 20000000) (disch := omega) only [↓SBK, ↓SBK2, SX, Nat.reduceEqDiff, Nat.reduceAdd, Nat.reduceMul, Nat.reduceSub, ↓reduceIte, Int.reduceNeg, Int.reduceToNat, Int.reducePow, hmd, hks, hQ]
  (first | with_reducible refine if_d _ ?_ ?_ | refine if_i _ ?_ ?_) <;> intro h0
  rotate_left
  · simp +decide (maxSteps := 20000000) (disch := omega) only [↓SBK, ↓SBK2, SX, Nat.reduceEqDiff, Nat.reduceAdd, Nat.reduceMul, Nat.reduceSub, ↓reduceIte, Int.reduceNeg, Int.reduceToNat, Int.reducePow, hmd, hks, hQ]
    rw [decide_eq_false (by rintro rfl; exact h0 rfl)]
  simp +decide (maxSteps := 20000000) (disch := omega) only [↓SBK, ↓SBK2, SX, Nat.reduceEqDiff, Nat.reduceAdd, Nat.reduceMul, Nat.reduceSub, ↓reduceIte, Int.reduceNeg, Int.reduceToNat, Int.reducePow, hmd, hks, hQ]
  (first | with_reducible refine if_d _ ?_ ?_ | refine if_i _ ?_ ?_) <;> intro h1
  rotate_left
  · simp +decide (maxSteps := 20000000) (disch := omega) only [↓SBK, ↓SBK2, SX, Nat.reduceEqDiff, Nat.reduceAdd, Nat.reduceMul, Nat.reduceSub, ↓reduceIte, Int.reduceNeg, Int.reduceToNat, Int.reducePow, hmd, hks, hQ]
    rw [decide_eq_false (by rintro rfl; exact h1 rfl)]
  simp +decide (maxSteps := 20000000) (disch := omega) only [↓SBK, ↓SBK2, SX, Nat.reduceEqDiff, Nat.reduceAdd, Nat.reduceMul, Nat.reduceSub, ↓reduceIte, Int.reduceNeg, Int.reduceToNat, Int.reducePow, hmd, hks, hQ]
  (first | with_reducible refine if_d _ ?_ ?_ | refine if_i _ ?_ ?_) <;> intro h2
  rotate_left
  · simp +decide (maxSteps := 20000000) (disch := omega) only [↓SBK, ↓SBK2, SX, Nat.reduceEqDiff, Nat.reduceAdd, Nat.reduceMul, Nat.reduceSub, ↓reduceIte, Int.reduceNeg, Int.reduceToNat, Int.reducePow, hmd, hks, hQ]
    rw [decide_eq_false (by rintro rfl; exact h2 rfl)]
  simp +decide (maxSteps := 20000000) (disch := omega) only [↓SBK, ↓SBK2, SX, Nat.reduceEqDiff, Nat.reduceAdd, Nat.reduceMul, Nat.reduceSub, ↓reduceIte, Int.reduceNeg, Int.reduceToNat, Int.reducePow, hmd, hks, hQ]
  (first | with_reducible refine if_d _ ?_ ?_ | refine if_i _ ?_ ?_) <;> intro h3
  rotate_left
  · simp +decide (maxSteps := 20000000) (disch := omega) only [↓SBK, ↓SBK2, SX, Nat.reduceEqDiff, Nat.reduceAdd, Nat.reduceMul, Nat.reduceSub, ↓reduceIte, Int.reduceNeg, Int.reduceToNat, Int.reducePow, hmd, hks, hQ]
    rw [decide_eq_false (by rintro rfl; exact h3 rfl)]
  simp +decide (maxSteps := 20000000) (disch := omega) only [↓SBK, ↓SBK2, SX, Nat.reduceEqDiff, Nat.reduceAdd, Nat.reduceMul, Nat.reduceSub, ↓reduceIte, Int.reduceNeg, Int.reduceToNat, Int.reducePow, hmd, hks, hQ]
  (first | refine call_i hP (s_eqTab a.t b.t (by omega)) (.inl ⟨rfl, fun _ hx => nomatch hx⟩) ?_ | refine callH_i hP (s_eqTab a.t b.t (by omega)) (.inl ⟨rfl, fun _ hx => nomatch hx⟩) ?_)
  simp +decide (maxSteps := 20000000) (disch := omega) only [↓SBK, ↓SBK2, SX, Nat.reduceEqDiff, Nat.reduceAdd, Nat.reduceMul, Nat.reduceSub, ↓reduceIte, Int.reduceNeg, Int.reduceToNat, Int.reducePow, hmd, hks, hQ]
  (first | with_reducible refine if_d _ ?_ ?_ | refine if_i _ ?_ ?_) <;> intro h4
  rotate_left
  · simp +decide (maxSteps := 20000000) (disch := omega) only [↓SBK, ↓SBK2, SX, Nat.reduceEqDiff, Nat.reduceAdd, Nat.reduceMul, Nat.reduceSub, ↓reduceIte, Int.reduceNeg, Int.reduceToNat, Int.reducePow, hmd, hks, hQ]
    rw [decide_eq_false (by rintro rfl; exact h4 rfl)]
  simp +decide (maxSteps := 20000000) (disch := omega) only [↓SBK, ↓SBK2, SX, Nat.reduceEqDiff, Nat.reduceAdd, Nat.reduceMul, Nat.reduceSub, ↓reduceIte, Int.reduceNeg, Int.reduceToNat, Int.reducePow, hmd, hks, hQ]
  rw [decide_eq_true (Vol.eq' h0 h1 h2 h3 h4)]

theorem s_eqVolS (a b : List Vol) (hl : szM Vol.sz a < 2 ^ 40) : Spec Try.prog 23 [.ext 6 (a.map Vol.row), .ext 6 (b.map Vol.row)] (.bool (decide (a = b))) [.undef, .undef] := by
  simp only [szM] at hl
  refine spec_C hmx p_L_eqVolS [] 51 [] ⟨Nat.le_of_ble_eq_true rfl, Nat.le_of_ble_eq_true rfl⟩ rfl rfl ?_
  intro w hP hmd hks hQ
  unfold c_L_eqVolS
  simp +decide (maxSteps := 20000000) (disch := omega) only [↓SBK, ↓SBK2, SX, Nat.reduceEqDiff, Nat.reduceAdd, Nat.reduceMul, Nat.reduceSub, ↓reduceIte, Int.reduceNeg, Int.reduceToNat, Int.reducePow, hmd, hks, hQ]
  (first | with_reducible refine if_d _ ?_ ?_ | refine if_i _ ?_ ?_) <;> intro h
  rotate_left
  · simp +decide (maxSteps := 20000000) (disch := omega) only [↓SBK, ↓SBK2, SX, Nat.reduceEqDiff, Nat.reduceAdd, Nat.reduceMul, Nat.reduceSub, ↓reduceIte, Int.reduceNeg, Int.reduceToNat, Int.reducePow, hmd, hks, hQ]
    rw [decide_eq_false (by rintro rfl; exact h rfl)]
  simp +decide (maxSteps := 20000000) (disch := omega) only [↓SBK, ↓SBK2, SX, Nat.reduceEqDiff, Nat.reduceAdd, Nat.reduceMul, Nat.reduceSub, ↓reduceIte, Int.reduceNeg, Int.reduceToNat, Int.reducePow, hmd, hks, hQ]
  refine loop_i (fun i : Nat => [(5, .int .i64 i)]) (fun i => i ≤ a.length ∧ a.take i = b.take i) (fun i => a.length - i) (0) hP hmd hks (rfl) (by simp) ?_
  rintro i ⟨hi, hab⟩ w1 hP1 hmd1 hks1 hQ1
  simp +decide (maxSteps := 20000000) (disch := omega) only [↓SBK, ↓SBK2, SX, Nat.reduceEqDiff, Nat.reduceAdd, Nat.reduceMul, Nat.reduceSub, ↓reduceIte, Int.reduceNeg, Int.reduceToNat, Int.reducePow, hmd, hks, hQ, hmd1, hks1, hQ1]
  (first | with_reducible refine if_d _ ?_ ?_ | refine if_i _ ?_ ?_) <;> intro h1
  · simp +decide (maxSteps := 20000000) (disch := omega) only [↓SBK, ↓SBK2, SX, Nat.reduceEqDiff, Nat.reduceAdd, Nat.reduceMul, Nat.reduceSub, ↓reduceIte, Int.reduceNeg, Int.reduceToNat, Int.reducePow, hmd, hks, hQ, hmd1, hks1, hQ1, getE h1, getE (h ▸ h1)]
    (first | refine call_i hP1 (s_eqVol (a[i]'(by omega)) (b[i]'(by omega)) (Nat.lt_of_le_of_lt (sum_get Vol.sz _) (by omega))) (.inl ⟨rfl, fun _ hx => nomatch hx⟩) ?_ | refine callH_i hP1 (s_eqVol (a[i]'(by omega)) (b[i]'(by omega)) (Nat.lt_of_le_of_lt (sum_get Vol.sz _) (by omega))) (.inl ⟨rfl, fun _ hx => nomatch hx⟩) ?_)
    simp +decide (maxSteps := 20000000) (disch := omega) only [↓SBK, ↓SBK2, SX, Nat.reduceEqDiff, Nat.reduceAdd, Nat.reduceMul, Nat.reduceSub, ↓reduceIte, Int.reduceNeg, Int.reduceToNat, Int.reducePow, hmd, hks, hQ, hmd1, hks1, hQ1]
    (first | with_reducible refine if_d _ ?_ ?_ | refine if_i _ ?_ ?_) <;> intro h2
    · simp +decide (maxSteps := 20000000) (disch := omega) only [↓SBK, ↓SBK2, SX, Nat.reduceEqDiff, Nat.reduceAdd, Nat.reduceMul, Nat.reduceSub, ↓reduceIte, Int.reduceNeg, Int.reduceToNat, Int.reducePow, hmd, hks, hQ, hmd1, hks1, hQ1]
      exact ⟨i + 1, rfl, ⟨by omega, take_eq_succ hab _ _ h2⟩, by omega⟩
    · simp +decide (maxSteps := 20000000) (disch := omega) only [↓SBK, ↓SBK2, SX, Nat.reduceEqDiff, Nat.reduceAdd, Nat.reduceMul, Nat.reduceSub, ↓reduceIte, Int.reduceNeg, Int.reduceToNat, Int.reducePow, hmd, hks, hQ, hmd1, hks1, hQ1]
      rw [decide_eq_false (by rintro rfl; exact h2 rfl)]
  · simp +decide (maxSteps := 20000000) (disch := omega) only [↓SBK, ↓SBK2, SX, Nat.reduceEqDiff, Nat.reduceAdd, Nat.reduceMul, Nat.reduceSub, ↓reduceIte, Int.reduceNeg, Int.reduceToNat, Int.reducePow, hmd, hks, hQ, hmd1, hks1, hQ1]
    rw [decide_eq_true (take_all hab (by omega) (by omega))]

theorem s_eqFs (a b : Fs) (hl : a.sz < 2 ^ 40) : Spec Try.prog 10 [a.x, b.x] (.bool (decide (a = b))) [.undef, .undef] := by
  simp only [Fs.sz] at hl
  refine spec_C hmx p_L_eqFs [] 31 [] ⟨Nat.le_of_ble_eq_true rfl, Nat.le_of_ble_eq_true rfl⟩ rfl rfl ?_
  intro w hP hmd hks hQ
  unfold c_L_eqFs
  simp +decide (maxSteps := 20000000) (disch := omega) only [↓SBK, ↓SBK2, SX, Nat.reduceEqDiff, Nat.reduceAdd, Nat.reduceMul, Nat.reduceSub, ↓reduceIte, Int.reduceNeg, Int.reduceToNat, Int.reducePow, hmd, hks, hQ]
  (first | refine call_i hP (s_eqVolS a.vols b.vols (by omega)) (.inl ⟨rfl, fun _ hx => nomatch hx⟩) ?_ | refine callH_i hP (s_eqVolS a.vols b.vols (by omega)) (.inl ⟨rfl, fun _ hx => nomatch hx⟩) ?_)
  simp +decide (maxSteps := 20000000) (disch := omega) only [↓SBK, ↓SBK2, SX, Nat.reduceEqDiff, Nat.reduceAdd, Nat.reduceMul, Nat.reduceSub, ↓reduceIte, Int.reduceNeg, Int.reduceToNat, Int.reducePow, hmd, hks, hQ]
  (first | with_reducible refine if_d _ ?_ ?_ | refine if_i _ ?_ ?_) <;> intro h0
  rotate_left
  · simp +decide (maxSteps := 20000000) (disch := omega) only [↓SBK, ↓SBK2, SX, Nat.reduceEqDiff, Nat.reduceAdd, Nat.reduceMul, Nat.reduceSub, ↓reduceIte, Int.reduceNeg, Int.reduceToNat, Int.reducePow, hmd, hks, hQ]
    rw [decide_eq_false (by rintro rfl; exact h0 rfl)]
  simp +decide (maxSteps := 20000000) (disch := omega) only [↓SBK, ↓SBK2, SX, Nat.reduceEqDiff, Nat.reduceAdd, Nat.reduceMul, Nat.reduceSub, ↓reduceIte, Int.reduceNeg, Int.reduceToNat, Int.reducePow, hmd, hks, hQ]
  (first | with_reducible refine if_d _ ?_ ?_ | refine if_i _ ?_ ?_) <;> intro h1
  rotate_left
  · simp +decide (maxSteps := 20000000) (disch := omega) only [↓SBK, ↓SBK2, SX, Nat.reduceEqDiff, Nat.reduceAdd, Nat.reduceMul, Nat.reduceSub, ↓reduceIte, Int.reduceNeg, Int.reduceToNat, Int.reducePow, hmd, hks, hQ]
    rw [decide_eq_false (by rintro rfl; exact h1 rfl)]
  simp +decide (maxSteps := 20000000) (disch := omega) only [↓SBK, ↓SBK2, SX, Nat.reduceEqDiff, Nat.reduceAdd, Nat.reduceMul, Nat.reduceSub, ↓reduceIte, Int.reduceNeg, Int.reduceToNat, Int.reducePow, hmd, hks, hQ]
  rw [decide_eq_true (Fs.eq' h0 h1)]
end Go.Proofs.Ytjmnolhflcjpgaa.Awp

namespace Go.Proofs.Ytjmnolhflcjpgaa.Awp
open Go.Proofs
set_option linter.unusedSimpArgs false
set_option linter.unusedVariables false
set_option maxRecDepth 100000
set_option maxHeartbeats 20000000

theorem s_toEnt (a : Ent) (hl : a.sz < 2 ^ 40) : Spec Try.prog 132 [a.x] a.o [.undef] := by
  simp only [Ent.sz] at hl
  refine spec_C hmx p_L_toEnt [] 15 [] ⟨Nat.le_of_ble_eq_true rfl, Nat.le_of_ble_eq_true rfl⟩ rfl rfl ?_
  intro w hP hmd hks hQ
  unfold c_L_toEnt
  simp +decide (maxSteps := 20000000) (disch := omega) only [↓SBK, ↓SBK2, SX, Nat.reduceEqDiff, Nat.reduceAdd, Nat.reduceMul, Nat.reduceSub, ↓reduceIte, Int.reduceNeg, Int.reduceToNat, Int.reducePow, hmd, hks, hQ]

theorem s_toEntS (a : List Ent) (hl : szM Ent.sz a < 2 ^ 40) : Spec Try.prog 120 [.ext 2 (a.map Ent.row)] (.own 2 (a.map Ent.row)) [.undef] := by
  simp only [szM] at hl
  refine spec_C hmx p_L_toEntS [] 29 [] ⟨Nat.le_of_ble_eq_true rfl, Nat.le_of_ble_eq_true rfl⟩ rfl rfl ?_
  intro w hP hmd hks hQ
  unfold c_L_toEntS
  simp +decide (maxSteps := 20000000) (disch := omega) only [↓SBK, ↓SBK2, SX, Nat.reduceEqDiff, Nat.reduceAdd, Nat.reduceMul, Nat.reduceSub, ↓reduceIte, Int.reduceNeg, Int.reduceToNat, Int.reducePow, hmd, hks, hQ]
  refine loop_i (fun i : Nat => [(3, .own 2 (fillR Ent.row Ent.zero a i)), (4, .int .i64 i)]) (fun i => i ≤ a.length) (fun i => a.length - i) (0) hP hmd hks (by simp +decide (maxSteps := 20000000) (disch := omega) only [↓SBK, ↓SBK2, SX, Nat.reduceEqDiff, Nat.reduceAdd, Nat.reduceMul, Nat.reduceSub, ↓reduceIte, Int.reduceNeg, Int.reduceToNat, Int.reducePow, hmd, hks, hQ, fillR_0]; rfl) (by omega) ?_
  rintro i hi w1 hP1 hmd1 hks1 hQ1
  simp +decide (maxSteps := 20000000) (disch := omega) only [↓SBK, ↓SBK2, SX, Nat.reduceEqDiff, Nat.reduceAdd, Nat.reduceMul, Nat.reduceSub, ↓reduceIte, Int.reduceNeg, Int.reduceToNat, Int.reducePow, hmd, hks, hQ, hmd1, hks1, hQ1]
  (first | with_reducible refine if_d _ ?_ ?_ | refine if_i _ ?_ ?_) <;> intro h1
  · simp +decide (maxSteps := 20000000) (disch := omega) only [↓SBK, ↓SBK2, SX, Nat.reduceEqDiff, Nat.reduceAdd, Nat.reduceMul, Nat.reduceSub, ↓reduceIte, Int.reduceNeg, Int.reduceToNat, Int.reducePow, hmd, hks, hQ, hmd1, hks1, hQ1, getE h1]
    (first | refine call_i hP1 (s_toEnt (a[i]'(by omega)) (Nat.lt_of_le_of_lt (sum_get Ent.sz _) (by omega))) (.inl ⟨rfl, fun _ hx => nomatch hx⟩) ?_ | refine callH_i hP1 (s_toEnt (a[i]'(by omega)) (Nat.lt_of_le_of_lt (sum_get Ent.sz _) (by omega))) (.inl ⟨rfl, fun _ hx => nomatch hx⟩) ?_)
    simp +decide (maxSteps := 20000000) (disch := omega) only [↓SBK, ↓SBK2, SX, Nat.reduceEqDiff, Nat.reduceAdd, Nat.reduceMul, Nat.reduceSub, ↓reduceIte, Int.reduceNeg, Int.reduceToNat, Int.reducePow, hmd, hks, hQ, hmd1, hks1, hQ1]
    rw [fillR_set _ _ _ _ (by omega) _ (by rfl)]
    exact ⟨i + 1, rfl, by omega, by omega⟩
  · simp +decide (maxSteps := 20000000) (disch := omega) only [↓SBK, ↓SBK2, SX, Nat.reduceEqDiff, Nat.reduceAdd, Nat.reduceMul, Nat.reduceSub, ↓reduceIte, Int.reduceNeg, Int.reduceToNat, Int.reducePow, hmd, hks, hQ, hmd1, hks1, hQ1, fillR_all]

theorem s_toAttr (a : Attr) (hl : a.sz < 2 ^ 40) : Spec Try.prog 133 [a.x] a.o [.undef] := by
  simp only [Attr.sz] at hl
  refine spec_C hmx p_L_toAttr [] 15 [] ⟨Nat.le_of_ble_eq_true rfl, Nat.le_of_ble_eq_true rfl⟩ rfl rfl ?_
  intro w hP hmd hks hQ
  unfold c_L_toAttr
  simp +decide (maxSteps := 20000000) (disch := omega) only [↓SBK, ↓SBK2, SX, Nat.reduceEqDiff, Nat.reduceAdd, Nat.reduceMul, Nat.reduceSub, ↓reduceIte, Int.reduceNeg, Int.reduceToNat, Int.reducePow, hmd, hks, hQ]

theorem s_toAttrS (a : List Attr) (hl : szM Attr.sz a < 2 ^ 40) : Spec Try.prog 121 [.ext 2 (a.map Attr.row)] (.own 2 (a.map Attr.row)) [.undef] := by
  simp only [szM] at hl
  refine spec_C hmx p_L_toAttrS [] 29 [] ⟨Nat.le_of_ble_eq_true rfl, Nat.le_of_ble_eq_true rfl⟩ rfl rfl ?_
  intro w hP hmd hks hQ
  unfold c_L_toAttrS
  simp +decide (maxSteps := 20000000) (disch := omega) only [↓SBK, ↓SBK2, SX, Nat.reduceEqDiff, Nat.reduceAdd, Nat.reduceMul, Nat.reduceSub, ↓reduceIte, Int.reduceNeg, Int.reduceToNat, Int.reducePow, hmd, hks, hQ]
  refine loop_i (fun i : Nat => [(3, .own 2 (fillR Attr.row Attr.zero a i)), (4, .int .i64 i)]) (fun i => i ≤ a.length) (fun i => a.length - i) (0) hP hmd hks (by simp +decide (maxSteps := 20000000) (disch := omega) only [↓SBK, ↓SBK2, SX, Nat.reduceEqDiff, Nat.reduceAdd, Nat.reduceMul, Nat.reduceSub, ↓reduceIte, Int.reduceNeg, Int.reduceToNat, Int.reducePow, hmd, hks, hQ, fillR_0]; rfl) (by omega) ?_
  rintro i hi w1 hP1 hmd1 hks1 hQ1
  simp +decide (maxSteps := 20000000) (disch := omega) only [↓SBK, ↓SBK2, SX, Nat.reduceEqDiff, Nat.reduceAdd, Nat.reduceMul, Nat.reduceSub, ↓reduceIte, Int.reduceNeg, Int.reduceToNat, Int.reducePow, hmd, hks, hQ, hmd1, hks1, hQ1]
  (first | with_reducible refine if_d _ ?_ ?_ | refine if_i _ ?_ ?_) <;> intro h1
  · simp +decide (maxSteps := 20000000) (disch := omega) only [↓SBK, ↓SBK2, SX, Nat.reduceEqDiff, Nat.reduceAdd, Nat.reduceMul, Nat.reduceSub, ↓reduceIte, Int.reduceNeg, Int.reduceToNat, Int.reducePow, hmd, hks, hQ, hmd1, hks1, hQ1, getE h1]
    (first | refine call_i hP1 (s_toAttr (a[i]'(by omega)) (Nat.lt_of_le_of_lt (sum_get Attr.sz _) (by omega))) (.inl ⟨rfl, fun _ hx => nomatch hx⟩) ?_ | refine callH_i hP1 (s_toAttr (a[i]'(by omega)) (Nat.lt_of_le_of_lt (sum_get Attr.sz _) (by omega))) (.inl ⟨rfl, fun _ hx => nomatch hx⟩) ?_)
    simp +decide (maxSteps := 20000000) (disch := omega) only [↓SBK, ↓SBK2, SX, Nat.reduceEqDiff, Nat.reduceAdd, Nat.reduceMul, Nat.reduceSub, ↓reduceIte, Int.reduceNeg, Int.reduceToNat, Int.reducePow, hmd, hks, hQ, hmd1, hks1, hQ1]
    rw [fillR_set _ _ _ _ (by omega) _ (by rfl)]
    exact ⟨i + 1, rfl, by omega, by omega⟩
  · simp +decide (maxSteps := 20000000) (disch := omega) only [↓SBK, ↓SBK2, SX, Nat.reduceEqDiff, Nat.reduceAdd, Nat.reduceMul, Nat.reduceSub, ↓reduceIte, Int.reduceNeg, Int.reduceToNat, Int.reducePow, hmd, hks, hQ, hmd1, hks1, hQ1, fillR_all]

theorem s_toInode (a : Inode) (hl : a.sz < 2 ^ 40) : Spec Try.prog 96 [a.x] a.o [.undef] := by
  simp only [Inode.sz] at hl
  refine spec_C hmx p_L_toInode [] 15 [] ⟨Nat.le_of_ble_eq_true rfl, Nat.le_of_ble_eq_true rfl⟩ rfl rfl ?_
  intro w hP hmd hks hQ
  unfold c_L_toInode
  simp +decide (maxSteps := 20000000) (disch := omega) only [↓SBK, ↓SBK2, SX, Nat.reduceEqDiff, Nat.reduceAdd, Nat.reduceMul, Nat.reduceSub, ↓reduceIte, Int.reduceNeg, Int.reduceToNat, Int.reducePow, hmd, hks, hQ]
  (first | refine call_i hP (s_toByteS a.data (by omega)) (.inl ⟨rfl, fun _ hx => nomatch hx⟩) ?_ | refine callH_i hP (s_toByteS a.data (by omega)) (.inl ⟨rfl, fun _ hx => nomatch hx⟩) ?_)
  simp +decide (maxSteps := 20000000) (disch := omega) only [↓SBK, ↓SBK2, SX, Nat.reduceEqDiff, Nat.reduceAdd, Nat.reduceMul, Nat.reduceSub, ↓reduceIte, Int.reduceNeg, Int.reduceToNat, Int.reducePow, hmd, hks, hQ]
  (first | refine call_i hP (s_toEntS a.ents (by omega)) (.inl ⟨rfl, fun _ hx => nomatch hx⟩) ?_ | refine callH_i hP (s_toEntS a.ents (by omega)) (.inl ⟨rfl, fun _ hx => nomatch hx⟩) ?_)
  simp +decide (maxSteps := 20000000) (disch := omega) only [↓SBK, ↓SBK2, SX, Nat.reduceEqDiff, Nat.reduceAdd, Nat.reduceMul, Nat.reduceSub, ↓reduceIte, Int.reduceNeg, Int.reduceToNat, Int.reducePow, hmd, hks, hQ]
  (first | refine call_i hP (s_toAttrS a.attrs (by omega)) (.inl ⟨rfl, fun _ hx => nomatch hx⟩) ?_ | refine callH_i hP (s_toAttrS a.attrs (by omega)) (.inl ⟨rfl, fun _ hx => nomatch hx⟩) ?_)
  simp +decide (maxSteps := 20000000) (disch := omega) only [↓SBK, ↓SBK2, SX, Nat.reduceEqDiff, Nat.reduceAdd, Nat.reduceMul, Nat.reduceSub, ↓reduceIte, Int.reduceNeg, Int.reduceToNat, Int.reducePow, hmd, hks, hQ]

theorem s_toInodeS (a : List Inode) (hl : szM Inode.sz a < 2 ^ 40) : Spec Try.prog 84 [.ext 6 (a.map Inode.row)] (.own 6 (a.map Inode.row)) [.undef] := by
  simp only [szM] at hl
  refine spec_C hmx p_L_toInodeS [] 29 [] ⟨Nat.le_of_ble_eq_true rfl, Nat.le_of_ble_eq_true rfl⟩ rfl rfl ?_
  intro w hP hmd hks hQ
  unfold c_L_toInodeS
  simp +decide (maxSteps := 20000000) (disch := omega) only [↓SBK, ↓SBK2, SX, Nat.reduceEqDiff, Nat.reduceAdd, Nat.reduceMul, Nat.reduceSub, ↓reduceIte, Int.reduceNeg, Int.reduceToNat, Int.reducePow, hmd, hks, hQ]
  refine loop_i (fun i : Nat => [(3, .own 6 (fillR Inode.row Inode.zero a i)), (4, .int .i64 i)]) (fun i => i ≤ a.length) (fun i => a.length - i) (0) hP hmd hks (by simp +decide (maxSteps := 20000000) (disch := omega) only [↓SBK, ↓SBK2, SX, Nat.reduceEqDiff, Nat.reduceAdd, Nat.reduceMul, Nat.reduceSub, ↓reduceIte, Int.reduceNeg, Int.reduceToNat, Int.reducePow, hmd, hks, hQ, fillR_0]; rfl) (by omega) ?_
  rintro i hi w1 hP1 hmd1 hks1 hQ1
  simp +decide (maxSteps := 20000000) (disch := omega) only [↓SBK, ↓SBK2, SX, Nat.reduceEqDiff, Nat.reduceAdd, Nat.reduceMul, Nat.reduceSub, ↓reduceIte, Int.reduceNeg, Int.reduceToNat, Int.reducePow, hmd, hks, hQ, hmd1, hks1, hQ1]
  (first | with_reducible refine if_d _ ?_ ?_ | refine if_i _ ?_ ?_) <;> intro h1
  · simp +decide (maxSteps := 20000000) (disch := omega) only [↓SBK, ↓SBK2, SX, Nat.reduceEqDiff, Nat.reduceAdd, Nat.reduceMul, Nat.reduceSub, ↓reduceIte, Int.reduceNeg, Int.reduceToNat, Int.reducePow, hmd, hks, hQ, hmd1, hks1, hQ1, getE h1]
    (first | refine call_i hP1 (s_toInode (a[i]'(by omega)) (Nat.lt_of_le_of_lt (sum_get Inode.sz _) (by omega))) (.inl ⟨rfl, fun _ hx => nomatch hx⟩) ?_ | refine callH_i hP1 (s_toInode (a[i]'(by omega)) (Nat.lt_of_le_of_lt (sum_get Inode.sz _) (by omega))) (.inl ⟨rfl, fun _ hx => nomatch hx⟩) ?_)
    simp +decide (maxSteps := 20000000) (disch := omega) only [↓SBK, ↓SBK2, SX, Nat.reduceEqDiff, Nat.reduceAdd, Nat.reduceMul, Nat.reduceSub, ↓reduceIte, Int.reduceNeg, Int.reduceToNat, Int.reducePow, hmd, hks, hQ, hmd1, hks1, hQ1]
    rw [fillR_set _ _ _ _ (by omega) _ (by rfl)]
    exact ⟨i + 1, rfl, by omega, by omega⟩
  · simp +decide (maxSteps := 20000000) (disch := omega) only [↓SBK, ↓SBK2, SX, Nat.reduceEqDiff, Nat.reduceAdd, Nat.reduceMul, Nat.reduceSub, ↓reduceIte, Int.reduceNeg, Int.reduceToNat, Int.reducePow, hmd, hks, hQ, hmd1, hks1, hQ1, fillR_all]

theorem s_toTab (a : Tab) (hl : a.sz < 2 ^ 40) : Spec Try.prog 69 [a.x] a.o [.undef] := by
  simp only [Tab.sz] at hl
  refine spec_C hmx p_L_toTab [] 15 [] ⟨Nat.le_of_ble_eq_true rfl, Nat.le_of_ble_eq_true rfl⟩ rfl rfl ?_
  intro w hP hmd hks hQ
  unfold c_L_toTab
  simp +decide (maxSteps := 20000000) (disch := omega) only [↓SBK, ↓SBK2, SX, Nat.reduceEqDiff, Nat.reduceAdd, Nat.reduceMul, Nat.reduceSub, ↓reduceIte, Int.reduceNeg, Int.reduceToNat, Int.reducePow, hmd, hks, hQ]
  (first | refine call_i hP (s_toInodeS a.inodes (by omega)) (.inl ⟨rfl, fun _ hx => nomatch hx⟩) ?_ | refine callH_i hP (s_toInodeS a.inodes (by omega)) (.inl ⟨rfl, fun _ hx => nomatch hx⟩) ?_)
  simp +decide (maxSteps := 20000000) (disch := omega) only [↓SBK, ↓SBK2, SX, Nat.reduceEqDiff, Nat.reduceAdd, Nat.reduceMul, Nat.reduceSub, ↓reduceIte, Int.reduceNeg, Int.reduceToNat, Int.reducePow, hmd, hks, hQ]

theorem s_toVol (a : Vol) (hl : a.sz < 2 ^ 40) : Spec Try.prog 49 [a.x] a.o [.undef] := by
  simp only [Vol.sz] at hl
  refine spec_C hmx p_L_toVol [] 15 [] ⟨Nat.le_of_ble_eq_true rfl, Nat.le_of_ble_eq_true rfl⟩ rfl rfl ?_
  intro w hP hmd hks hQ
  unfold c_L_toVol
  simp +decide (maxSteps := 20000000) (disch := omega) only [↓SBK, ↓SBK2, SX, Nat.reduceEqDiff, Nat.reduceAdd, Nat.reduceMul, Nat.reduceSub, ↓reduceIte, Int.reduceNeg, Int.reduceToNat, Int.reducePow, hmd, hks, hQ]
  (first | refine call_i hP (s_toTab a.t (by omega)) (.inl ⟨rfl, fun _ hx => nomatch hx⟩) ?_ | refine callH_i hP (s_toTab a.t (by omega)) (.inl ⟨rfl, fun _ hx => nomatch hx⟩) ?_)
  simp +decide (maxSteps := 20000000) (disch := omega) only [↓SBK, ↓SBK2, SX, Nat.reduceEqDiff, Nat.reduceAdd, Nat.reduceMul, Nat.reduceSub, ↓reduceIte, Int.reduceNeg, Int.reduceToNat, Int.reducePow, hmd, hks, hQ]

theorem s_toVolS (a : List Vol) (hl : szM Vol.sz a < 2 ^ 40) : Spec Try.prog 27 [.ext 6 (a.map Vol.row)] (.own 6 (a.map Vol.row)) [.undef] := by
  simp only [szM] at hl
  refine spec_C hmx p_L_toVolS [] 29 [] ⟨Nat.le_of_ble_eq_true rfl, Nat.le_of_ble_eq_true rfl⟩ rfl rfl ?_
  intro w hP hmd hks hQ
  unfold c_L_toVolS
  simp +decide (maxSteps := 20000000) (disch := omega) only [↓SBK, ↓SBK2, SX, Nat.reduceEqDiff, Nat.reduceAdd, Nat.reduceMul, Nat.reduceSub, ↓reduceIte, Int.reduceNeg, Int.reduceToNat, Int.reducePow, hmd, hks, hQ]
  refine loop_i (fun i : Nat => [(3, .own 6 (fillR Vol.row Vol.zero a i)), (4, .int .i64 i)]) (fun i => i ≤ a.length) (fun i => a.length - i) (0) hP hmd hks (by simp +decide (maxSteps := 20000000) (disch := omega) only [↓SBK, ↓SBK2, SX, Nat.reduceEqDiff, Nat.reduceAdd, Nat.reduceMul, Nat.reduceSub, ↓reduceIte, Int.reduceNeg, Int.reduceToNat, Int.reducePow, hmd, hks, hQ, fillR_0]; rfl) (by omega) ?_
  rintro i hi w1 hP1 hmd1 hks1 hQ1
  simp +decide (maxSteps := 20000000) (disch := omega) only [↓SBK, ↓SBK2, SX, Nat.reduceEqDiff, Nat.reduceAdd, Nat.reduceMul, Nat.reduceSub, ↓reduceIte, Int.reduceNeg, Int.reduceToNat, Int.reducePow, hmd, hks, hQ, hmd1, hks1, hQ1]
  (first | with_reducible refine if_d _ ?_ ?_ | refine if_i _ ?_ ?_) <;> intro h1
  · simp +decide (maxSteps := 20000000) (disch := omega) only [↓SBK, ↓SBK2, SX, Nat.reduceEqDiff, Nat.reduceAdd, Nat.reduceMul, Nat.reduceSub, ↓reduceIte, Int.reduceNeg, Int.reduceToNat, Int.reducePow, hmd, hks, hQ, hmd1, hks1, hQ1, getE h1]
    (first | refine call_i hP1 (s_toVol (a[i]'(by omega)) (Nat.lt_of_le_of_lt (sum_get Vol.sz _) (by omega))) (.inl ⟨rfl, fun _ hx => nomatch hx⟩) ?_ | refine callH_i hP1 (s_toVol (a[i]'(by omega)) (Nat.lt_of_le_of_lt (sum_get Vol.sz _) (by omega))) (.inl ⟨rfl, fun _ hx => nomatch hx⟩) ?_)
    simp +decide (maxSteps := 20000000) (disch := omega) only [↓SBK, ↓SBK2, SX, Nat.reduceEqDiff, Nat.reduceAdd, Nat.reduceMul, Nat.reduceSub, ↓reduceIte, Int.reduceNeg, Int.reduceToNat, Int.reducePow, hmd, hks, hQ, hmd1, hks1, hQ1]
    rw [fillR_set _ _ _ _ (by omega) _ (by rfl)]
    exact ⟨i + 1, rfl, by omega, by omega⟩
  · simp +decide (maxSteps := 20000000) (disch := omega) only [↓SBK, ↓SBK2, SX, Nat.reduceEqDiff, Nat.reduceAdd, Nat.reduceMul, Nat.reduceSub, ↓reduceIte, Int.reduceNeg, Int.reduceToNat, Int.reducePow, hmd, hks, hQ, hmd1, hks1, hQ1, fillR_all]

theorem s_toFs (a : Fs) (hl : a.sz < 2 ^ 40) : Spec Try.prog 15 [a.x] a.o [.undef] := by
  simp only [Fs.sz] at hl
  refine spec_C hmx p_L_toFs [] 15 [] ⟨Nat.le_of_ble_eq_true rfl, Nat.le_of_ble_eq_true rfl⟩ rfl rfl ?_
  intro w hP hmd hks hQ
  unfold c_L_toFs
  simp +decide (maxSteps := 20000000) (disch := omega) only [↓SBK, ↓SBK2, SX, Nat.reduceEqDiff, Nat.reduceAdd, Nat.reduceMul, Nat.reduceSub, ↓reduceIte, Int.reduceNeg, Int.reduceToNat, Int.reducePow, hmd, hks, hQ]
  (first | refine call_i hP (s_toVolS a.vols (by omega)) (.inl ⟨rfl, fun _ hx => nomatch hx⟩) ?_ | refine callH_i hP (s_toVolS a.vols (by omega)) (.inl ⟨rfl, fun _ hx => nomatch hx⟩) ?_)
  simp +decide (maxSteps := 20000000) (disch := omega) only [↓SBK, ↓SBK2, SX, Nat.reduceEqDiff, Nat.reduceAdd, Nat.reduceMul, Nat.reduceSub, ↓reduceIte, Int.reduceNeg, Int.reduceToNat, Int.reducePow, hmd, hks, hQ]
end Go.Proofs.Ytjmnolhflcjpgaa.Awp

namespace Go.Proofs.Ytjmnolhflcjpgaa.Awp
open Go.Proofs
set_option linter.unusedSimpArgs false
set_option linter.unusedVariables false
set_option maxRecDepth 100000
set_option maxHeartbeats 20000000

theorem s_szEnt (a : Ent) (left : Int) (hf : a.fine) (h0 : 0 ≤ left) (hl : left < 2 ^ 40) :
    Spec Try.prog 130 [a.x, .int .i64 left] (.int .i64 (szC left a.sz)) [.undef, .undef] := by
  have hsz : a.sz = a.name.length := rfl
  simp only [Ent.fine] at hf
  have hf0 := hf
  refine spec_C hmx p_L_szEnt [] 23 [] ⟨Nat.le_of_ble_eq_true rfl, Nat.le_of_ble_eq_true rfl⟩ rfl rfl ?_
  intro w hP hmd hks hQ
  unfold c_L_szEnt
  simp +decide (maxSteps := 20000000) (disch := omega) only [↓SBK, ↓SBK2, SX, Nat.reduceEqDiff, Nat.reduceAdd, Nat.reduceMul, Nat.reduceSub, ↓reduceIte, Int.reduceNeg, Int.reduceToNat, Int.reducePow, hmd, hks, hQ]
  (first | with_reducible refine if_d _ ?_ ?_ | refine if_i _ ?_ ?_) <;> intro g0
  · simp +decide (maxSteps := 20000000) (disch := omega) only [↓SBK, ↓SBK2, SX, Nat.reduceEqDiff, Nat.reduceAdd, Nat.reduceMul, Nat.reduceSub, ↓reduceIte, Int.reduceNeg, Int.reduceToNat, Int.reducePow, hmd, hks, hQ]
    rw [szC_lt (by omega)]
  simp +decide (maxSteps := 20000000) (disch := omega) only [↓SBK, ↓SBK2, SX, Nat.reduceEqDiff, Nat.reduceAdd, Nat.reduceMul, Nat.reduceSub, ↓reduceIte, Int.reduceNeg, Int.reduceToNat, Int.reducePow, hmd, hks, hQ]
  rw [szC_ge (by omega)]
  simp only [hsz, Int.natCast_add, Int.sub_sub, Int.add_assoc]

theorem s_szEntS (a : List Ent) (left : Int) (hf : a.length < 2 ^ 48) (hf' : ∀ x ∈ a, x.fine) (h0 : 0 ≤ left) (hl : left < 2 ^ 40) :
    Spec Try.prog 117 [.ext 2 (a.map Ent.row), .int .i64 left] (.int .i64 (szC left (szM Ent.sz a))) [.undef, .undef] := by
  have hsz : szM Ent.sz a = a.length + (a.map Ent.sz).sum := rfl
  refine spec_C hmx p_L_szEntS [] 51 [] ⟨Nat.le_of_ble_eq_true rfl, Nat.le_of_ble_eq_true rfl⟩ rfl rfl ?_
  intro w hP hmd hks hQ
  unfold c_L_szEntS
  simp +decide (maxSteps := 20000000) (disch := omega) only [↓SBK, ↓SBK2, SX, Nat.reduceEqDiff, Nat.reduceAdd, Nat.reduceMul, Nat.reduceSub, ↓reduceIte, Int.reduceNeg, Int.reduceToNat, Int.reducePow, hmd, hks, hQ]
  (first | with_reducible refine if_d _ ?_ ?_ | refine if_i _ ?_ ?_) <;> intro h
  · simp +decide (maxSteps := 20000000) (disch := omega) only [↓SBK, ↓SBK2, SX, Nat.reduceEqDiff, Nat.reduceAdd, Nat.reduceMul, Nat.reduceSub, ↓reduceIte, Int.reduceNeg, Int.reduceToNat, Int.reducePow, hmd, hks, hQ]
    rw [szC_lt (by omega)]
  simp +decide (maxSteps := 20000000) (disch := omega) only [↓SBK, ↓SBK2, SX, Nat.reduceEqDiff, Nat.reduceAdd, Nat.reduceMul, Nat.reduceSub, ↓reduceIte, Int.reduceNeg, Int.reduceToNat, Int.reducePow, hmd, hks, hQ]
  refine loop_i (fun s : Nat × Int => [(1, .int .i64 s.2), (5, .int .i64 s.1)]) (fun s => s.1 ≤ a.length ∧ 0 ≤ s.2 ∧ s.2 = left - a.length - ((a.take s.1).map Ent.sz).sum) (fun s => a.length - s.1) ((0, left - a.length)) hP hmd hks (rfl) (by simp; omega) ?_
  rintro ⟨i, c⟩ ⟨hi, h0', hc⟩ w1 hP1 hmd1 hks1 hQ1
  simp +decide (maxSteps := 20000000) (disch := omega) only [↓SBK, ↓SBK2, SX, Nat.reduceEqDiff, Nat.reduceAdd, Nat.reduceMul, Nat.reduceSub, ↓reduceIte, Int.reduceNeg, Int.reduceToNat, Int.reducePow, hmd, hks, hQ, hmd1, hks1, hQ1]
  simp only at hi h0' hc
  (first | with_reducible refine if_d _ ?_ ?_ | refine if_i _ ?_ ?_) <;> intro h1
  · have hs := sum_take Ent.sz a i (by omega)
    have hs' := sum_take_le Ent.sz a (i + 1)
    simp +decide (maxSteps := 20000000) (disch := omega) only [↓SBK, ↓SBK2, SX, Nat.reduceEqDiff, Nat.reduceAdd, Nat.reduceMul, Nat.reduceSub, ↓reduceIte, Int.reduceNeg, Int.reduceToNat, Int.reducePow, hmd, hks, hQ, hmd1, hks1, hQ1, getE h1]
    by_cases g : c < ((a[i].sz : Nat) : Int)
    · (first | refine call_i hP1 (s_szEnt a[i] c (hf' _ (List.getElem_mem _)) (by omega) (by omega)) (.inl ⟨rfl, fun _ hx => nomatch hx⟩) ?_ | refine callH_i hP1 (s_szEnt a[i] c (hf' _ (List.getElem_mem _)) (by omega) (by omega)) (.inl ⟨rfl, fun _ hx => nomatch hx⟩) ?_)
      simp +decide (maxSteps := 20000000) (disch := omega) only [↓SBK, ↓SBK2, SX, Nat.reduceEqDiff, Nat.reduceAdd, Nat.reduceMul, Nat.reduceSub, ↓reduceIte, Int.reduceNeg, Int.reduceToNat, Int.reducePow, hmd, hks, hQ, hmd1, hks1, hQ1, szC_lt g]
      rw [szC_lt (by omega)]
    · (first | refine call_i hP1 (s_szEnt a[i] c (hf' _ (List.getElem_mem _)) (by omega) (by omega)) (.inl ⟨rfl, fun _ hx => nomatch hx⟩) ?_ | refine callH_i hP1 (s_szEnt a[i] c (hf' _ (List.getElem_mem _)) (by omega) (by omega)) (.inl ⟨rfl, fun _ hx => nomatch hx⟩) ?_)
      simp +decide (maxSteps := 20000000) (disch := omega) only [↓SBK, ↓SBK2, SX, Nat.reduceEqDiff, Nat.reduceAdd, Nat.reduceMul, Nat.reduceSub, ↓reduceIte, Int.reduceNeg, Int.reduceToNat, Int.reducePow, hmd, hks, hQ, hmd1, hks1, hQ1, szC_ge g]
      (first | with_reducible refine if_d _ ?_ ?_ | refine if_i _ ?_ ?_) <;> intro k
      · exfalso; omega
      simp +decide (maxSteps := 20000000) (disch := omega) only [↓SBK, ↓SBK2, SX, Nat.reduceEqDiff, Nat.reduceAdd, Nat.reduceMul, Nat.reduceSub, ↓reduceIte, Int.reduceNeg, Int.reduceToNat, Int.reducePow, hmd, hks, hQ, hmd1, hks1, hQ1]
      exact ⟨(i + 1, c - a[i].sz), rfl, ⟨by simp only; omega, by simp only; omega, by simp only; omega⟩, by simp only; omega⟩
  · obtain rfl : i = a.length := by omega
    rw [List.take_length] at hc
    simp +decide (maxSteps := 20000000) (disch := omega) only [↓SBK, ↓SBK2, SX, Nat.reduceEqDiff, Nat.reduceAdd, Nat.reduceMul, Nat.reduceSub, ↓reduceIte, Int.reduceNeg, Int.reduceToNat, Int.reducePow, hmd, hks, hQ, hmd1, hks1, hQ1]
    rw [szC_ge (by omega)]
    simp only [hsz, hc, Int.natCast_add, Int.sub_sub, Int.add_assoc]

theorem s_szAttr (a : Attr) (left : Int) (hf : a.fine) (h0 : 0 ≤ left) (hl : left < 2 ^ 40) :
    Spec Try.prog 131 [a.x, .int .i64 left] (.int .i64 (szC left a.sz)) [.undef, .undef] := by
  have hsz : a.sz = a.name.length + a.val.length := rfl
  simp only [Attr.fine] at hf
  obtain ⟨hf0, hf1⟩ := hf
  refine spec_C hmx p_L_szAttr [] 23 [] ⟨Nat.le_of_ble_eq_true rfl, Nat.le_of_ble_eq_true rfl⟩ rfl rfl ?_
  intro w hP hmd hks hQ
  unfold c_L_szAttr
  simp +decide (maxSteps := 20000000) (disch := omega) only [↓SBK, ↓SBK2, SX, Nat.reduceEqDiff, Nat.reduceAdd, Nat.reduceMul, Nat.reduceSub, ↓reduceIte, Int.reduceNeg, Int.reduceToNat, Int.reducePow, hmd, hks, hQ]
  (first | with_reducible refine if_d _ ?_ ?_ | refine if_i _ ?_ ?_) <;> intro g0
  · simp +decide (maxSteps := 20000000) (disch := omega) only [↓SBK, ↓SBK2, SX, Nat.reduceEqDiff, Nat.reduceAdd, Nat.reduceMul, Nat.reduceSub, ↓reduceIte, Int.reduceNeg, Int.reduceToNat, Int.reducePow, hmd, hks, hQ]
    rw [szC_lt (by omega)]
  simp +decide (maxSteps := 20000000) (disch := omega) only [↓SBK, ↓SBK2, SX, Nat.reduceEqDiff, Nat.reduceAdd, Nat.reduceMul, Nat.reduceSub, ↓reduceIte, Int.reduceNeg, Int.reduceToNat, Int.reducePow, hmd, hks, hQ]
  (first | with_reducible refine if_d _ ?_ ?_ | refine if_i _ ?_ ?_) <;> intro g1
  · simp +decide (maxSteps := 20000000) (disch := omega) only [↓SBK, ↓SBK2, SX, Nat.reduceEqDiff, Nat.reduceAdd, Nat.reduceMul, Nat.reduceSub, ↓reduceIte, Int.reduceNeg, Int.reduceToNat, Int.reducePow, hmd, hks, hQ]
    rw [szC_lt (by omega)]
  simp +decide (maxSteps := 20000000) (disch := omega) only [↓SBK, ↓SBK2, SX, Nat.reduceEqDiff, Nat.reduceAdd, Nat.reduceMul, Nat.reduceSub, ↓reduceIte, Int.reduceNeg, Int.reduceToNat, Int.reducePow, hmd, hks, hQ]
  rw [szC_ge (by omega)]
  simp only [hsz, Int.natCast_add, Int.sub_sub, Int.add_assoc]

theorem s_szAttrS (a : List Attr) (left : Int) (hf : a.length < 2 ^ 48) (hf' : ∀ x ∈ a, x.fine) (h0 : 0 ≤ left) (hl : left < 2 ^ 40) :
    Spec Try.prog 118 [.ext 2 (a.map Attr.row), .int .i64 left] (.int .i64 (szC left (szM Attr.sz a))) [.undef, .undef] := by
  have hsz : szM Attr.sz a = a.length + (a.map Attr.sz).sum := rfl
  refine spec_C hmx p_L_szAttrS [] 51 [] ⟨Nat.le_of_ble_eq_true rfl, Nat.le_of_ble_eq_true rfl⟩ rfl rfl ?_
  intro w hP hmd hks hQ
  unfold c_L_szAttrS
  simp +decide (maxSteps := 20000000) (disch := omega) only [↓SBK, ↓SBK2, SX, Nat.reduceEqDiff, Nat.reduceAdd, Nat.reduceMul, Nat.reduceSub, ↓reduceIte, Int.reduceNeg, Int.reduceToNat, Int.reducePow, hmd, hks, hQ]
  (first | with_reducible refine if_d _ ?_ ?_ | refine if_i _ ?_ ?_) <;> intro h
  · simp +decide (maxSteps := 20000000) (disch := omega) only [↓SBK, ↓SBK2, SX, Nat.reduceEqDiff, Nat.reduceAdd, Nat.reduceMul, Nat.reduceSub, ↓reduceIte, Int.reduceNeg, Int.reduceToNat, Int.reducePow, hmd, hks, hQ]
    rw [szC_lt (by omega)]
  simp +decide (maxSteps := 20000000) (disch := omega) only [↓SBK, ↓SBK2, SX, Nat.reduceEqDiff, Nat.reduceAdd, Nat.reduceMul, Nat.reduceSub, ↓reduceIte, Int.reduceNeg, Int.reduceToNat, Int.reducePow, hmd, hks, hQ]
  refine loop_i (fun s : Nat × Int => [(1, .int .i64 s.2), (5, .int .i64 s.1)]) (fun s => s.1 ≤ a.length ∧ 0 ≤ s.2 ∧ s.2 = left - a.length - ((a.take s.1).map Attr.sz).sum) (fun s => a.length - s.1) ((0, left - a.length)) hP hmd hks (rfl) (by simp; omega) ?_
  rintro ⟨i, c⟩ ⟨hi, h0', hc⟩ w1 hP1 hmd1 hks1 hQ1
  simp +decide (maxSteps := 20000000) (disch := omega) only [↓SBK, ↓SBK2, SX, Nat.reduceEqDiff, Nat.reduceAdd, Nat.reduceMul, Nat.reduceSub, ↓reduceIte, Int.reduceNeg, Int.reduceToNat, Int.reducePow, hmd, hks, hQ, hmd1, hks1, hQ1]
  simp only at hi h0' hc
  (first | with_reducible refine if_d _ ?_ ?_ | refine if_i _ ?_ ?_) <;> intro h1
  · have hs := sum_take Attr.sz a i (by omega)
    have hs' := sum_take_le Attr.sz a (i + 1)
    simp +decide (maxSteps := 20000000) (disch := omega) only [↓SBK, ↓SBK2, SX, Nat.reduceEqDiff, Nat.reduceAdd, Nat.reduceMul, Nat.reduceSub, ↓reduceIte, Int.reduceNeg, Int.reduceToNat, Int.reducePow, hmd, hks, hQ, hmd1, hks1, hQ1, getE h1]
    by_cases g : c < ((a[i].sz : Nat) : Int)
    · (first | refine call_i hP1 (s_szAttr a[i] c (hf' _ (List.getElem_mem _)) (by omega) (by omega)) (.inl ⟨rfl, fun _ hx => nomatch hx⟩) ?_ | refine callH_i hP1 (s_szAttr a[i] c (hf' _ (List.getElem_mem _)) (by omega) (by omega)) (.inl ⟨rfl, fun _ hx => nomatch hx⟩) ?_)
      simp +decide (maxSteps := 20000000) (disch := omega) only [↓SBK, ↓SBK2, SX, Nat.reduceEqDiff, Nat.reduceAdd, Nat.reduceMul, Nat.reduceSub, ↓reduceIte, Int.reduceNeg, Int.reduceToNat, Int.reducePow, hmd, hks, hQ, hmd1, hks1, hQ1, szC_lt g]
      rw [szC_lt (by omega)]
    · (first | refine call_i hP1 (s_szAttr a[i] c (hf' _ (List.getElem_mem _)) (by omega) (by omega)) (.inl ⟨rfl, fun _ hx => nomatch hx⟩) ?_ | refine callH_i hP1 (s_szAttr a[i] c (hf' _ (List.getElem_mem _)) (by omega) (by omega)) (.inl ⟨rfl, fun _ hx => nomatch hx⟩) ?_)
      simp +decide (maxSteps := 20000000) (disch := omega) only [↓SBK, ↓SBK2, SX, Nat.reduceEqDiff, Nat.reduceAdd, Nat.reduceMul, Nat.reduceSub, ↓reduceIte, Int.reduceNeg, Int.reduceToNat, Int.reducePow, hmd, hks, hQ, hmd1, hks1, hQ1, szC_ge g]
      (first | with_reducible refine if_d _ ?_ ?_ | refine if_i _ ?_ ?_) <;> intro k
      · exfalso; omega
      simp +decide (maxSteps := 20000000) (disch := omega) only [↓SBK, ↓SBK2, SX, Nat.reduceEqDiff, Nat.reduceAdd, Nat.reduceMul, Nat.reduceSub, ↓reduceIte, Int.reduceNeg, Int.reduceToNat, Int.reducePow, hmd, hks, hQ, hmd1, hks1, hQ1]
      exact ⟨(i + 1, c - a[i].sz), rfl, ⟨by simp only; omega, by simp only; omega, by simp only; omega⟩, by simp only; omega⟩
  · obtain rfl : i = a.length := by omega
    rw [List.take_length] at hc
    simp +decide (maxSteps := 20000000) (disch := omega) only [↓SBK, ↓SBK2, SX, Nat.reduceEqDiff, Nat.reduceAdd, Nat.reduceMul, Nat.reduceSub, ↓reduceIte, Int.reduceNeg, Int.reduceToNat, Int.reducePow, hmd, hks, hQ, hmd1, hks1, hQ1]
    rw [szC_ge (by omega)]
    simp only [hsz, hc, Int.natCast_add, Int.sub_sub, Int.add_assoc]

theorem s_szInode (a : Inode) (left : Int) (hf : a.fine) (h0 : 0 ≤ left) (hl : left < 2 ^ 40) :
    Spec Try.prog 95 [a.x, .int .i64 left] (.int .i64 (szC left a.sz)) [.undef, .undef] := by
  have hsz : a.sz = a.data.length + szM Ent.sz a.ents + szM Attr.sz a.attrs := rfl
  simp only [Inode.fine] at hf
  obtain ⟨hf0, hf1, hf2⟩ := hf
  refine spec_C hmx p_L_szInode [] 23 [] ⟨Nat.le_of_ble_eq_true rfl, Nat.le_of_ble_eq_true rfl⟩ rfl rfl ?_
  intro w hP hmd hks hQ
  unfold c_L_szInode
  simp +decide (maxSteps := 20000000) (disch := omega) only [↓SBK, ↓SBK2, SX, Nat.reduceEqDiff, Nat.reduceAdd, Nat.reduceMul, Nat.reduceSub, ↓reduceIte, Int.reduceNeg, Int.reduceToNat, Int.reducePow, hmd, hks, hQ]
  by_cases g0 : left < ((a.data.length : Nat) : Int)
  · (first | refine call_i hP (s_szByteS a.data (left) hf0 (by omega) (by omega)) (.inl ⟨rfl, fun _ hx => nomatch hx⟩) ?_ | refine callH_i hP (s_szByteS a.data (left) hf0 (by omega) (by omega)) (.inl ⟨rfl, fun _ hx => nomatch hx⟩) ?_)
    simp +decide (maxSteps := 20000000) (disch := omega) only [↓SBK, ↓SBK2, SX, Nat.reduceEqDiff, Nat.reduceAdd, Nat.reduceMul, Nat.reduceSub, ↓reduceIte, Int.reduceNeg, Int.reduceToNat, Int.reducePow, hmd, hks, hQ, szC_lt g0]
    rw [szC_lt (by omega)]
  (first | refine call_i hP (s_szByteS a.data (left) hf0 (by omega) (by omega)) (.inl ⟨rfl, fun _ hx => nomatch hx⟩) ?_ | refine callH_i hP (s_szByteS a.data (left) hf0 (by omega) (by omega)) (.inl ⟨rfl, fun _ hx => nomatch hx⟩) ?_)
  simp +decide (maxSteps := 20000000) (disch := omega) only [↓SBK, ↓SBK2, SX, Nat.reduceEqDiff, Nat.reduceAdd, Nat.reduceMul, Nat.reduceSub, ↓reduceIte, Int.reduceNeg, Int.reduceToNat, Int.reducePow, hmd, hks, hQ, szC_ge g0]
  (first | with_reducible refine if_d _ ?_ ?_ | refine if_i _ ?_ ?_) <;> intro k0
  · exfalso; omega
  simp +decide (maxSteps := 20000000) (disch := omega) only [↓SBK, ↓SBK2, SX, Nat.reduceEqDiff, Nat.reduceAdd, Nat.reduceMul, Nat.reduceSub, ↓reduceIte, Int.reduceNeg, Int.reduceToNat, Int.reducePow, hmd, hks, hQ]
  by_cases g1 : left - ((a.data.length : Nat) : Int) < ((szM Ent.sz a.ents : Nat) : Int)
  · (first | refine call_i hP (s_szEntS a.ents (left - ((a.data.length : Nat) : Int)) hf1.1 hf1.2 (by omega) (by omega)) (.inl ⟨rfl, fun _ hx => nomatch hx⟩) ?_ | refine callH_i hP (s_szEntS a.ents (left - ((a.data.length : Nat) : Int)) hf1.1 hf1.2 (by omega) (by omega)) (.inl ⟨rfl, fun _ hx => nomatch hx⟩) ?_)
    simp +decide (maxSteps := 20000000) (disch := omega) only [↓SBK, ↓SBK2, SX, Nat.reduceEqDiff, Nat.reduceAdd, Nat.reduceMul, Nat.reduceSub, ↓reduceIte, Int.reduceNeg, Int.reduceToNat, Int.reducePow, hmd, hks, hQ, szC_lt g1]
    rw [szC_lt (by omega)]
  (first | refine call_i hP (s_szEntS a.ents (left - ((a.data.length : Nat) : Int)) hf1.1 hf1.2 (by omega) (by omega)) (.inl ⟨rfl, fun _ hx => nomatch hx⟩) ?_ | refine callH_i hP (s_szEntS a.ents (left - ((a.data.length : Nat) : Int)) hf1.1 hf1.2 (by omega) (by omega)) (.inl ⟨rfl, fun _ hx => nomatch hx⟩) ?_)
  simp +decide (maxSteps := 20000000) (disch := omega) only [↓SBK, ↓SBK2, SX, Nat.reduceEqDiff, Nat.reduceAdd, Nat.reduceMul, Nat.reduceSub, ↓reduceIte, Int.reduceNeg, Int.reduceToNat, Int.reducePow, hmd, hks, hQ, szC_ge g1]
  (first | with_reducible refine if_d _ ?_ ?_ | refine if_i _ ?_ ?_) <;> intro k1
  · exfalso; omega
  simp +decide (maxSteps := 20000000) (disch := omega) only [↓SBK, ↓SBK2, SX, Nat.reduceEqDiff, Nat.reduceAdd, Nat.reduceMul, Nat.reduceSub, ↓reduceIte, Int.reduceNeg, Int.reduceToNat, Int.reducePow, hmd, hks, hQ]
  by_cases g2 : left - ((a.data.length : Nat) : Int) - ((szM Ent.sz a.ents : Nat) : Int) < ((szM Attr.sz a.attrs : Nat) : Int)
  · (first | refine call_i hP (s_szAttrS a.attrs (left - ((a.data.length : Nat) : Int) - ((szM Ent.sz a.ents : Nat) : Int)) hf2.1 hf2.2 (by omega) (by omega)) (.inl ⟨rfl, fun _ hx => nomatch hx⟩) ?_ | refine callH_i hP (s_szAttrS a.attrs (left - ((a.data.length : Nat) : Int) - ((szM Ent.sz a.ents : Nat) : Int)) hf2.1 hf2.2 (by omega) (by omega)) (.inl ⟨rfl, fun _ hx => nomatch hx⟩) ?_)
    simp +decide (maxSteps := 20000000) (disch := omega) only [↓SBK, ↓SBK2, SX, Nat.reduceEqDiff, Nat.reduceAdd, Nat.reduceMul, Nat.reduceSub, ↓reduceIte, Int.reduceNeg, Int.reduceToNat, Int.reducePow, hmd, hks, hQ, szC_lt g2]
    rw [szC_lt (by omega)]
  (first | refine call_i hP (s_szAttrS a.attrs (left - ((a.data.length : Nat) : Int) - ((szM Ent.sz a.ents : Nat) : Int)) hf2.1 hf2.2 (by omega) (by omega)) (.inl ⟨rfl, fun _ hx => nomatch hx⟩) ?_ | refine callH_i hP (s_szAttrS a.attrs (left - ((a.data.length : Nat) : Int) - ((szM Ent.sz a.ents : Nat) : Int)) hf2.1 hf2.2 (by omega) (by omega)) (.inl ⟨rfl, fun _ hx => nomatch hx⟩) ?_)
  simp +decide (maxSteps := 20000000) (disch := omega) only [↓SBK, ↓SBK2, SX, Nat.reduceEqDiff, Nat.reduceAdd, Nat.reduceMul, Nat.reduceSub, ↓reduceIte, Int.reduceNeg, Int.reduceToNat, Int.reducePow, hmd, hks, hQ, szC_ge g2]
  (first | with_reducible refine if_d _ ?_ ?_ | refine if_i _ ?_ ?_) <;> intro k2
  · exfalso; omega
  simp +decide (maxSteps := 20000000) (disch := omega) only [↓SBK, ↓SBK2, SX, Nat.reduceEqDiff, Nat.reduceAdd, Nat.reduceMul, Nat.reduceSub, ↓reduceIte, Int.reduceNeg, Int.reduceToNat, Int.reducePow, hmd, hks, hQ]
  rw [szC_ge (by omega)]
  simp only [hsz, Int.natCast_add, Int.sub_sub, Int.add_assoc]

theorem s_szInodeS (a : List Inode) (left : Int) (hf : a.length < 2 ^ 48) (hf' : ∀ x ∈ a, x.fine) (h0 : 0 ≤ left) (hl : left < 2 ^ 40) :
    Spec Try.prog 83 [.ext 6 (a.map Inode.row), .int .i64 left] (.int .i64 (szC left (szM Inode.sz a))) [.undef, .undef] := by
  have hsz : szM Inode.sz a = a.length + (a.map Inode.sz).sum := rfl
  refine spec_C hmx p_L_szInodeS [] 51 [] ⟨Nat.le_of_ble_eq_true rfl, Nat.le_of_ble_eq_true rfl⟩ rfl rfl ?_
  intro w hP hmd hks hQ
  unfold c_L_szInodeS
  simp +decide (maxSteps := 20000000) (disch := omega) only [↓SBK, ↓SBK2, SX, Nat.reduceEqDiff, Nat.reduceAdd, Nat.reduceMul, Nat.reduceSub, ↓reduceIte, Int.reduceNeg, Int.reduceToNat, Int.reducePow, hmd, hks, hQ]
  (first | with_reducible refine if_d _ ?_ ?_ | refine if_i _ ?_ ?_) <;> intro h
  · simp +decide (maxSteps := 20000000) (disch := omega) only [↓SBK, ↓SBK2, SX, Nat.reduceEqDiff, Nat.reduceAdd, Nat.reduceMul, Nat.reduceSub, ↓reduceIte, Int.reduceNeg, Int.reduceToNat, Int.reducePow, hmd, hks, hQ]
    rw [szC_lt (by omega)]
  simp +decide (maxSteps := 20000000) (disch := omega) only [↓SBK, ↓SBK2, SX, Nat.reduceEqDiff, Nat.reduceAdd, Nat.reduceMul, Nat.reduceSub, ↓reduceIte, Int.reduceNeg, Int.reduceToNat, Int.reducePow, hmd, hks, hQ]
  refine loop_i (fun s : Nat × Int => [(1, .int .i64 s.2), (5, .int .i64 s.1)]) (fun s => s.1 ≤ a.length ∧ 0 ≤ s.2 ∧ s.2 = left - a.length - ((a.take s.1).map Inode.sz).sum) (fun s => a.length - s.1) ((0, left - a.length)) hP hmd hks (rfl) (by simp; omega) ?_
  rintro ⟨i, c⟩ ⟨hi, h0', hc⟩ w1 hP1 hmd1 hks1 hQ1
  simp +decide (maxSteps := 20000000) (disch := omega) only [↓SBK, ↓SBK2, SX, Nat.reduceEqDiff, Nat.reduceAdd, Nat.reduceMul, Nat.reduceSub, ↓reduceIte, Int.reduceNeg, Int.reduceToNat, Int.reducePow, hmd, hks, hQ, hmd1, hks1, hQ1]
  simp only at hi h0' hc
  (first | with_reducible refine if_d _ ?_ ?_ | refine if_i _ ?_ ?_) <;> intro h1
  · have hs := sum_take Inode.sz a i (by omega)
    have hs' := sum_take_le Inode.sz a (i + 1)
    simp +decide (maxSteps := 20000000) (disch := omega) only [↓SBK, ↓SBK2, SX, Nat.reduceEqDiff, Nat.reduceAdd, Nat.reduceMul, Nat.reduceSub, ↓reduceIte, Int.reduceNeg, Int.reduceToNat, Int.reducePow, hmd, hks, hQ, hmd1, hks1, hQ1, getE h1]
    by_cases g : c < ((a[i].sz : Nat) : Int)
    · (first | refine call_i hP1 (s_szInode a[i] c (hf' _ (List.getElem_mem _)) (by omega) (by omega)) (.inl ⟨rfl, fun _ hx => nomatch hx⟩) ?_ | refine callH_i hP1 (s_szInode a[i] c (hf' _ (List.getElem_mem _)) (by omega) (by omega)) (.inl ⟨rfl, fun _ hx => nomatch hx⟩) ?_)
      simp +decide (maxSteps := 20000000) (disch := omega) only [↓SBK, ↓SBK2, SX, Nat.reduceEqDiff, Nat.reduceAdd, Nat.reduceMul, Nat.reduceSub, ↓reduceIte, Int.reduceNeg, Int.reduceToNat, Int.reducePow, hmd, hks, hQ, hmd1, hks1, hQ1, szC_lt g]
      rw [szC_lt (by omega)]
    · (first | refine call_i hP1 (s_szInode a[i] c (hf' _ (List.getElem_mem _)) (by omega) (by omega)) (.inl ⟨rfl, fun _ hx => nomatch hx⟩) ?_ | refine callH_i hP1 (s_szInode a[i] c (hf' _ (List.getElem_mem _)) (by omega) (by omega)) (.inl ⟨rfl, fun _ hx => nomatch hx⟩) ?_)
      simp +decide (maxSteps := 20000000) (disch := omega) only [↓SBK, ↓SBK2, SX, Nat.reduceEqDiff, Nat.reduceAdd, Nat.reduceMul, Nat.reduceSub, ↓reduceIte, Int.reduceNeg, Int.reduceToNat, Int.reducePow, hmd, hks, hQ, hmd1, hks1, hQ1, szC_ge g]
      (first | with_reducible refine if_d _ ?_ ?_ | refine if_i _ ?_ ?_) <;> intro k
      · exfalso; omega
      simp +decide (maxSteps := 20000000) (disch := omega) only [↓SBK, ↓SBK2, SX, Nat.reduceEqDiff, Nat.reduceAdd, Nat.reduceMul, Nat.reduceSub, ↓reduceIte, Int.reduceNeg, Int.reduceToNat, Int.reducePow, hmd, hks, hQ, hmd1, hks1, hQ1]
      exact ⟨(i + 1, c - a[i].sz), rfl, ⟨by simp only; omega, by simp only; omega, by simp only; omega⟩, by simp only; omega⟩
  · obtain rfl : i = a.length := by omega
    rw [List.take_length] at hc
    simp +decide (maxSteps := 20000000) (disch := omega) only [↓SBK, ↓SBK2, SX, Nat.reduceEqDiff, Nat.reduceAdd, Nat.reduceMul, Nat.reduceSub, ↓reduceIte, Int.reduceNeg, Int.reduceToNat, Int.reducePow, hmd, hks, hQ, hmd1, hks1, hQ1]
    rw [szC_ge (by omega)]
    simp only [hsz, hc, Int.natCast_add, Int.sub_sub, Int.add_assoc]

theorem s_szTab (a : Tab) (left : Int) (hf : a.fine) (h0 : 0 ≤ left) (hl : left < 2 ^ 40) :
    Spec Try.prog 68 [a.x, .int .i64 left] (.int .i64 (szC left a.sz)) [.undef, .undef] := by
  have hsz : a.sz = szM Inode.sz a.inodes := rfl
  simp only [Tab.fine] at hf
  have hf0 := hf
  refine spec_C hmx p_L_szTab [] 23 [] ⟨Nat.le_of_ble_eq_true rfl, Nat.le_of_ble_eq_true rfl⟩ rfl rfl ?_
  intro w hP hmd hks hQ
  unfold c_L_szTab
  simp +decide (maxSteps := 20000000) (disch := omega) only [↓SBK, ↓SBK2, SX, Nat.reduceEqDiff, Nat.reduceAdd, Nat.reduceMul, Nat.reduceSub, ↓reduceIte, Int.reduceNeg, Int.reduceToNat, Int.reducePow, hmd, hks, hQ]
  by_cases g0 : left < ((szM Inode.sz a.inodes : Nat) : Int)
  · (first | refine call_i hP (s_szInodeS a.inodes (left) hf0.1 hf0.2 (by omega) (by omega)) (.inl ⟨rfl, fun _ hx => nomatch hx⟩) ?_ | refine callH_i hP (s_szInodeS a.inodes (left) hf0.1 hf0.2 (by omega) (by omega)) (.inl ⟨rfl, fun _ hx => nomatch hx⟩) ?_)
    simp +decide (maxSteps := 20000000) (disch := omega) only [↓SBK, ↓SBK2, SX, Nat.reduceEqDiff, Nat.reduceAdd, Nat.reduceMul, Nat.reduceSub, ↓reduceIte, Int.reduceNeg, Int.reduceToNat, Int.reducePow, hmd, hks, hQ, szC_lt g0]
    rw [szC_lt (by omega)]
  (first | refine call_i hP (s_szInodeS a.inodes (left) hf0.1 hf0.2 (by omega) (by omega)) (.inl ⟨rfl, fun _ hx => nomatch hx⟩) ?_ | refine callH_i hP (s_szInodeS a.inodes (left) hf0.1 hf0.2 (by omega) (by omega)) (.inl ⟨rfl, fun _ hx => nomatch hx⟩) ?_)
  simp +decide (maxSteps := 20000000) (disch := omega) only [↓SBK, ↓SBK2, SX, Nat.reduceEqDiff, Nat.reduceAdd, Nat.reduceMul, Nat.reduceSub, ↓reduceIte, Int.reduceNeg, Int.reduceToNat, Int.reducePow, hmd, hks, hQ, szC_ge g0]
  (first | with_reducible refine if_d _ ?_ ?_ | refine if_i _ ?_ ?_) <;> intro k0
  · exfalso; omega
  simp +decide (maxSteps := 20000000) (disch := omega) only [↓SBK, ↓SBK2, SX, Nat.reduceEqDiff, Nat.reduceAdd, Nat.reduceMul, Nat.reduceSub, ↓reduceIte, Int.reduceNeg, Int.reduceToNat, Int.reducePow, hmd, hks, hQ]
  rw [szC_ge (by omega)]
  simp only [hsz, Int.natCast_add, Int.sub_sub, Int.add_assoc]

theorem s_szVol (a : Vol) (left : Int) (hf : a.fine) (h0 : 0 ≤ left) (hl : left < 2 ^ 40) :
    Spec Try.prog 48 [a.x, .int .i64 left] (.int .i64 (szC left a.sz)) [.undef, .undef] := by
  have hsz : a.sz = a.name.length + a.t.sz := rfl
  simp only [Vol.fine] at hf
  obtain ⟨hf0, hf1⟩ := hf
  refine spec_C hmx p_L_szVol [] 23 [] ⟨Nat.le_of_ble_eq_true rfl, Nat.le_of_ble_eq_true rfl⟩ rfl rfl ?_
  intro w hP hmd hks hQ
  unfold c_L_szVol
  simp +decide (maxSteps := 20000000) (disch := omega) only [↓SBK, ↓SBK2, SX, Nat.reduceEqDiff, Nat.reduceAdd, Nat.reduceMul, Nat.reduceSub, ↓reduceIte, Int.reduceNeg, Int.reduceToNat, Int.reducePow, hmd, hks, hQ]
  (first | with_reducible refine if_d _ ?_ ?_ | refine if_i _ ?_ ?_) <;> intro g0
  · simp +decide (maxSteps := 20000000) (disch := omega) only [↓SBK, ↓SBK2, SX, Nat.reduceEqDiff, Nat.reduceAdd, Nat.reduceMul, Nat.reduceSub, ↓reduceIte, Int.reduceNeg, Int.reduceToNat, Int.reducePow, hmd, hks, hQ]
    rw [szC_lt (by omega)]
  simp +decide (maxSteps := 20000000) (disch := omega) only [↓SBK, ↓SBK2, SX, Nat.reduceEqDiff, Nat.reduceAdd, Nat.reduceMul, Nat.reduceSub, ↓reduceIte, Int.reduceNeg, Int.reduceToNat, Int.reducePow, hmd, hks, hQ]
  by_cases g1 : left - ((a.name.length : Nat) : Int) < ((a.t.sz : Nat) : Int)
  · (first | refine call_i hP (s_szTab a.t (left - ((a.name.length : Nat) : Int)) hf1 (by omega) (by omega)) (.inl ⟨rfl, fun _ hx => nomatch hx⟩) ?_ | refine callH_i hP (s_szTab a.t (left - ((a.name.length : Nat) : Int)) hf1 (by omega) (by omega)) (.inl ⟨rfl, fun _ hx => nomatch hx⟩) ?_)
    simp +decide (maxSteps := 20000000) (disch := omega) only [↓SBK, ↓SBK2, SX, Nat.reduceEqDiff, Nat.reduceAdd, Nat.reduceMul, Nat.reduceSub, ↓reduceIte, Int.reduceNeg, Int.reduceToNat, Int.reducePow, hmd, hks, hQ, szC_lt g1]
    rw [szC_lt (by omega)]
  (first | refine call_i hP (s_szTab a.t (left - ((a.name.length : Nat) : Int)) hf1 (by omega) (by omega)) (.inl ⟨rfl, fun _ hx => nomatch hx⟩) ?_ | refine callH_i hP (s_szTab a.t (left - ((a.name.length : Nat) : Int)) hf1 (by omega) (by omega)) (.inl ⟨rfl, fun _ hx => nomatch hx⟩) ?_)
  simp +decide (maxSteps := 20000000) (disch := omega) only [↓SBK, ↓SBK2, SX, Nat.reduceEqDiff, Nat.reduceAdd, Nat.reduceMul, Nat.reduceSub, ↓reduceIte, Int.reduceNeg, Int.reduceToNat, Int.reducePow, hmd, hks, hQ, szC_ge g1]
  (first | with_reducible refine if_d _ ?_ ?_ | refine if_i _ ?_ ?_) <;> intro k1
  · exfalso; omega
  simp +decide (maxSteps := 20000000) (disch := omega) only [↓SBK, ↓SBK2, SX, Nat.reduceEqDiff, Nat.reduceAdd, Nat.reduceMul, Nat.reduceSub, ↓reduceIte, Int.reduceNeg, Int.reduceToNat, Int.reducePow, hmd, hks, hQ]
  rw [szC_ge (by omega)]
  simp only [hsz, Int.natCast_add, Int.sub_sub, Int.add_assoc]

theorem s_szVolS (a : List Vol) (left : Int) (hf : a.length < 2 ^ 48) (hf' : ∀ x ∈ a, x.fine) (h0 : 0 ≤ left) (hl : left < 2 ^ 40) :
    Spec Try.prog 26 [.ext 6 (a.map Vol.row), .int .i64 left] (.int .i64 (szC left (szM Vol.sz a))) [.undef, .undef] := by
  have hsz : szM Vol.sz a = a.length + (a.map Vol.sz).sum := rfl
  refine spec_C hmx p_L_szVolS [] 51 [] ⟨Nat.le_of_ble_eq_true rfl, Nat.le_of_ble_eq_true rfl⟩ rfl rfl ?_
  intro w hP hmd hks hQ
  unfold c_L_szVolS
  simp +decide (maxSteps := 20000000) (disch := omega) only [↓SBK, ↓SBK2, SX, Nat.reduceEqDiff, Nat.reduceAdd, Nat.reduceMul, Nat.reduceSub, ↓reduceIte, Int.reduceNeg, Int.reduceToNat, Int.reducePow, hmd, hks, hQ]
  (first | with_reducible refine if_d _ ?_ ?_ | refine if_i _ ?_ ?_) <;> intro h
  · simp +decide (maxSteps := 20000000) (disch := omega) only [↓SBK, ↓SBK2, SX, Nat.reduceEqDiff, Nat.reduceAdd, Nat.reduceMul, Nat.reduceSub, ↓reduceIte, Int.reduceNeg, Int.reduceToNat, Int.reducePow, hmd, hks, hQ]
    rw [szC_lt (by omega)]
  simp +decide (maxSteps := 20000000) (disch := omega) only [↓SBK, ↓SBK2, SX, Nat.reduceEqDiff, Nat.reduceAdd, Nat.reduceMul, Nat.reduceSub, ↓reduceIte, Int.reduceNeg, Int.reduceToNat, Int.reducePow, hmd, hks, hQ]
  refine loop_i (fun s : Nat × Int => [(1, .int .i64 s.2), (5, .int .i64 s.1)]) (fun s => s.1 ≤ a.length ∧ 0 ≤ s.2 ∧ s.2 = left - a.length - ((a.take s.1).map Vol.sz).sum) (fun s => a.length - s.1) ((0, left - a.length)) hP hmd hks (rfl) (by simp; omega) ?_
  rintro ⟨i, c⟩ ⟨hi, h0', hc⟩ w1 hP1 hmd1 hks1 hQ1
  simp +decide (maxSteps := 20000000) (disch := omega) only [↓SBK, ↓SBK2, SX, Nat.reduceEqDiff, Nat.reduceAdd, Nat.reduceMul, Nat.reduceSub, ↓reduceIte, Int.reduceNeg, Int.reduceToNat, Int.reducePow, hmd, hks, hQ, hmd1, hks1, hQ1]
  simp only at hi h0' hc
  (first | with_reducible refine if_d _ ?_ ?_ | refine if_i _ ?_ ?_) <;> intro h1
  · have hs := sum_take Vol.sz a i (by omega)
    have hs' := sum_take_le Vol.sz a (i + 1)
    simp +decide (maxSteps := 20000000) (disch := omega) only [↓SBK, ↓SBK2, SX, Nat.reduceEqDiff, Nat.reduceAdd, Nat.reduceMul, Nat.reduceSub, ↓reduceIte, Int.reduceNeg, Int.reduceToNat, Int.reducePow, hmd, hks, hQ, hmd1, hks1, hQ1, getE h1]
    by_cases g : c < ((a[i].sz : Nat) : Int)
    · (first | refine call_i hP1 (s_szVol a[i] c (hf' _ (List.getElem_mem _)) (by omega) (by omega)) (.inl ⟨rfl, fun _ hx => nomatch hx⟩) ?_ | refine callH_i hP1 (s_szVol a[i] c (hf' _ (List.getElem_mem _)) (by omega) (by omega)) (.inl ⟨rfl, fun _ hx => nomatch hx⟩) ?_)
      simp +decide (maxSteps := 20000000) (disch := omega) only [↓SBK, ↓SBK2, SX, Nat.reduceEqDiff, Nat.reduceAdd, Nat.reduceMul, Nat.reduceSub, ↓reduceIte, Int.reduceNeg, Int.reduceToNat, Int.reducePow, hmd, hks, hQ, hmd1, hks1, hQ1, szC_lt g]
      rw [szC_lt (by omega)]
    · (first | refine call_i hP1 (s_szVol a[i] c (hf' _ (List.getElem_mem _)) (by omega) (by omega)) (.inl ⟨rfl, fun _ hx => nomatch hx⟩) ?_ | refine callH_i hP1 (s_szVol a[i] c (hf' _ (List.getElem_mem _)) (by omega) (by omega)) (.inl ⟨rfl, fun _ hx => nomatch hx⟩) ?_)
      simp +decide (maxSteps := 20000000) (disch := omega) only [↓SBK, ↓SBK2, SX, Nat.reduceEqDiff, Nat.reduceAdd, Nat.reduceMul, Nat.reduceSub, ↓reduceIte, Int.reduceNeg, Int.reduceToNat, Int.reducePow, hmd, hks, hQ, hmd1, hks1, hQ1, szC_ge g]
      (first | with_reducible refine if_d _ ?_ ?_ | refine if_i _ ?_ ?_) <;> intro k
      · exfalso; omega
      simp +decide (maxSteps := 20000000) (disch := omega) only [↓SBK, ↓SBK2, SX, Nat.reduceEqDiff, Nat.reduceAdd, Nat.reduceMul, Nat.reduceSub, ↓reduceIte, Int.reduceNeg, Int.reduceToNat, Int.reducePow, hmd, hks, hQ, hmd1, hks1, hQ1]
      exact ⟨(i + 1, c - a[i].sz), rfl, ⟨by simp only; omega, by simp only; omega, by simp only; omega⟩, by simp only; omega⟩
  · obtain rfl : i = a.length := by omega
    rw [List.take_length] at hc
    simp +decide (maxSteps := 20000000) (disch := omega) only [↓SBK, ↓SBK2, SX, Nat.reduceEqDiff, Nat.reduceAdd, Nat.reduceMul, Nat.reduceSub, ↓reduceIte, Int.reduceNeg, Int.reduceToNat, Int.reducePow, hmd, hks, hQ, hmd1, hks1, hQ1]
    rw [szC_ge (by omega)]
    simp only [hsz, hc, Int.natCast_add, Int.sub_sub, Int.add_assoc]

theorem s_szFs (a : Fs) (left : Int) (hf : a.fine) (h0 : 0 ≤ left) (hl : left < 2 ^ 40) :
    Spec Try.prog 13 [a.x, .int .i64 left] (.int .i64 (szC left a.sz)) [.undef, .undef] := by
  have hsz : a.sz = szM Vol.sz a.vols := rfl
  simp only [Fs.fine] at hf
  have hf0 := hf
  refine spec_C hmx p_L_szFs [] 23 [] ⟨Nat.le_of_ble_eq_true rfl, Nat.le_of_ble_eq_true rfl⟩ rfl rfl ?_
  intro w hP hmd hks hQ
  unfold c_L_szFs
  simp +decide (maxSteps := 20000000) (disch := omega) only [↓SBK, ↓SBK2, SX, Nat.reduceEqDiff, Nat.reduceAdd, Nat.reduceMul, Nat.reduceSub, ↓reduceIte, Int.reduceNeg, Int.reduceToNat, Int.reducePow, hmd, hks, hQ]
  by_cases g0 : left < ((szM Vol.sz a.vols : Nat) : Int)
  · (first | refine call_i hP (s_szVolS a.vols (left) hf0.1 hf0.2 (by omega) (by omega)) (.inl ⟨rfl, fun _ hx => nomatch hx⟩) ?_ | refine callH_i hP (s_szVolS a.vols (left) hf0.1 hf0.2 (by omega) (by omega)) (.inl ⟨rfl, fun _ hx => nomatch hx⟩) ?_)
    simp +decide (maxSteps := 20000000) (disch := omega) only [↓SBK, ↓SBK2, SX, Nat.reduceEqDiff, Nat.reduceAdd, Nat.reduceMul, Nat.reduceSub, ↓reduceIte, Int.reduceNeg, Int.reduceToNat, Int.reducePow, hmd, hks, hQ, szC_lt g0]
    rw [szC_lt (by omega)]
  (first | refine call_i hP (s_szVolS a.vols (left) hf0.1 hf0.2 (by omega) (by omega)) (.inl ⟨rfl, fun _ hx => nomatch hx⟩) ?_ | refine callH_i hP (s_szVolS a.vols (left) hf0.1 hf0.2 (by omega) (by omega)) (.inl ⟨rfl, fun _ hx => nomatch hx⟩) ?_)
  simp +decide (maxSteps := 20000000) (disch := omega) only [↓SBK, ↓SBK2, SX, Nat.reduceEqDiff, Nat.reduceAdd, Nat.reduceMul, Nat.reduceSub, ↓reduceIte, Int.reduceNeg, Int.reduceToNat, Int.reducePow, hmd, hks, hQ, szC_ge g0]
  (first | with_reducible refine if_d _ ?_ ?_ | refine if_i _ ?_ ?_) <;> intro k0
  · exfalso; omega
  simp +decide (maxSteps := 20000000) (disch := omega) only [↓SBK, ↓SBK2, SX, Nat.reduceEqDiff, Nat.reduceAdd, Nat.reduceMul, Nat.reduceSub, ↓reduceIte, Int.reduceNeg, Int.reduceToNat, Int.reducePow, hmd, hks, hQ]
  rw [szC_ge (by omega)]
  simp only [hsz, Int.natCast_add, Int.sub_sub, Int.add_assoc]
end Go.Proofs.Ytjmnolhflcjpgaa.Awp

namespace Go.Proofs.Ytjmnolhflcjpgaa.Awp
open Go.Proofs
set_option linter.unusedSimpArgs false
set_option linter.unusedVariables false
set_option maxRecDepth 100000
set_option maxHeartbeats 20000000

end Go.Proofs.Ytjmnolhflcjpgaa.Awp

namespace Go.Proofs.Ytjmnolhflcjpgaa.Awp
open Go.Proofs
set_option linter.unusedSimpArgs false
set_option linter.unusedVariables false
set_option maxRecDepth 100000
set_option maxHeartbeats 20000000

end Go.Proofs.Ytjmnolhflcjpgaa.Awp

namespace Go.Proofs.Ytjmnolhflcjpgaa.Awp
open Go.Proofs
set_option linter.unusedSimpArgs false
set_option linter.unusedVariables false
set_option maxRecDepth 100000
set_option maxHeartbeats 20000000

end Go.Proofs.Ytjmnolhflcjpgaa.Awp

namespace Go.Proofs.Ytjmnolhflcjpgaa.Awp
open Go.Proofs
set_option linter.unusedSimpArgs false
set_option linter.unusedVariables false
set_option maxRecDepth 100000
set_option maxHeartbeats 20000000

/-! ### the place of the first -/
theorem idx_step {α : Type} {l : List α} {p : α → Bool} {i : Nat} (hk : ∀ k, k < i → (h : k < l.length) → p l[k] = false) (h : i < l.length) (hi : p l[i] = true) : l.findIdx? p = some i := by
  rw [List.findIdx?_eq_some_iff_getElem]
  exact ⟨h, hi, fun j hj => by simp [hk j hj (by omega)]⟩
theorem idx_none {α : Type} {l : List α} {p : α → Bool} (hk : ∀ k, (h : k < l.length) → p l[k] = false) : l.findIdx? p = none := by
  rw [List.findIdx?_eq_none_iff]
  intro x hx
  obtain ⟨k, h, rfl⟩ := List.getElem_of_mem hx
  exact hk k h
theorem no_step {α : Type} {l : List α} {p : α → Bool} {i : Nat} (hk : ∀ k, k < i → (h : k < l.length) → p l[k] = false) (h : i < l.length) (hi : p l[i] = false) : ∀ k, k < i + 1 → (h : k < l.length) → p l[k] = false := by
  intro k hlt hl
  by_cases e : k = i
  · subst e; exact hi
  · exact hk k (by omega) hl
theorem sS_VolNamed (f : Fs) (n : Bytes) (hl : f.vols.length < 2 ^ 48) : Spec Try.prog 17 [f.x, .str n] (.int .i64 (idxI (volNamed f n))) [.undef, .undef] := by
  refine spec_C hmx p_S_VolNamed [] 55 [] ⟨Nat.le_of_ble_eq_true rfl, Nat.le_of_ble_eq_true rfl⟩ rfl rfl ?_
  intro w hP hmd hks hQ
  unfold c_S_VolNamed
  simp +decide (maxSteps := 20000000) (disch := omega) only [↓SBK, ↓SBK2, SX, Nat.reduceEqDiff, Nat.reduceAdd, Nat.reduceMul, Nat.reduceSub, ↓reduceIte, Int.reduceNeg, Int.reduceToNat, Int.reducePow, hmd, hks, hQ]
  refine LH_D [4] ?_
  simp +decide (maxSteps := 20000000) (disch := omega) only [↓SBK, ↓SBK2, SX, Nat.reduceEqDiff, Nat.reduceAdd, Nat.reduceMul, Nat.reduceSub, ↓reduceIte, Int.reduceNeg, Int.reduceToNat, Int.reducePow, hmd, hks, hQ]
  refine loop_d [4] (fun i : Nat => [(5, .int .i64 i)]) (fun i => i ≤ f.vols.length ∧ ∀ k, k < i → (h : k < f.vols.length) → decide (f.vols[k].name = n) = false) (fun i => f.vols.length - i) (0) hP hmd hks (rfl) (by simp) ?_
  rintro i ⟨hi, hk⟩ w1 hP1 hmd1 hks1 hQ1
  simp +decide (maxSteps := 20000000) (disch := omega) only [↓SBK, ↓SBK2, SX, Nat.reduceEqDiff, Nat.reduceAdd, Nat.reduceMul, Nat.reduceSub, ↓reduceIte, Int.reduceNeg, Int.reduceToNat, Int.reducePow, hmd, hks, hQ, hmd1, hks1, hQ1]
  (first | with_reducible refine if_d _ ?_ ?_ | refine if_i _ ?_ ?_) <;> intro h1
  · simp +decide (maxSteps := 20000000) (disch := omega) only [↓SBK, ↓SBK2, SX, Nat.reduceEqDiff, Nat.reduceAdd, Nat.reduceMul, Nat.reduceSub, ↓reduceIte, Int.reduceNeg, Int.reduceToNat, Int.reducePow, hmd, hks, hQ, hmd1, hks1, hQ1, getE h1]
    (first | with_reducible refine if_d _ ?_ ?_ | refine if_i _ ?_ ?_) <;> intro h2
    · simp +decide (maxSteps := 20000000) (disch := omega) only [↓SBK, ↓SBK2, SX, Nat.reduceEqDiff, Nat.reduceAdd, Nat.reduceMul, Nat.reduceSub, ↓reduceIte, Int.reduceNeg, Int.reduceToNat, Int.reducePow, hmd, hks, hQ, hmd1, hks1, hQ1]
      rw [volNamed, idx_step (p := fun v : Vol => decide (v.name = n)) hk (by omega) (decide_eq_true h2)]; rfl
    · simp +decide (maxSteps := 20000000) (disch := omega) only [↓SBK, ↓SBK2, SX, Nat.reduceEqDiff, Nat.reduceAdd, Nat.reduceMul, Nat.reduceSub, ↓reduceIte, Int.reduceNeg, Int.reduceToNat, Int.reducePow, hmd, hks, hQ, hmd1, hks1, hQ1]
      exact ⟨i + 1, rfl, ⟨by omega, no_step (p := fun v : Vol => decide (v.name = n)) hk (by omega) (decide_eq_false h2)⟩, by omega⟩
  · obtain rfl : i = f.vols.length := by omega
    simp +decide (maxSteps := 20000000) (disch := omega) only [↓SBK, ↓SBK2, SX, Nat.reduceEqDiff, Nat.reduceAdd, Nat.reduceMul, Nat.reduceSub, ↓reduceIte, Int.reduceNeg, Int.reduceToNat, Int.reducePow, hmd, hks, hQ, hmd1, hks1, hQ1]
    rw [volNamed, idx_none (p := fun v : Vol => decide (v.name = n)) fun k h => hk k h h]; rfl
theorem s_IndexFunc_Vol {g : Nat} {cs : List TV} {p : Vol → Bool} (hc : ∀ v : Vol, Spec Try.prog g [v.x, .xbox cs] (.bool (p v)) [.undef, .undef]) (l : List Vol) (hl : l.length < 2 ^ 48) :
    Spec Try.prog 28 [.ext 6 (l.map Vol.row), .fn g [.xbox cs]] (.int .i64 (idxI (l.findIdx? p))) [.undef, .undef] := by
  refine spec_C hmx p_X_IndexFunc_Vol [] 435 [] ⟨Nat.le_of_ble_eq_true rfl, Nat.le_of_ble_eq_true rfl⟩ rfl rfl ?_
  intro w hP hmd hks hQ
  unfold c_X_IndexFunc_Vol
  simp +decide (maxSteps := 20000000) (disch := omega) only [↓SBK, ↓SBK2, SX, Nat.reduceEqDiff, Nat.reduceAdd, Nat.reduceMul, Nat.reduceSub, ↓reduceIte, Int.reduceNeg, Int.reduceToNat, Int.reducePow, hmd, hks, hQ]
  refine LH_D [4, 5] ?_
  simp +decide (maxSteps := 20000000) (disch := omega) only [↓SBK, ↓SBK2, SX, Nat.reduceEqDiff, Nat.reduceAdd, Nat.reduceMul, Nat.reduceSub, ↓reduceIte, Int.reduceNeg, Int.reduceToNat, Int.reducePow, hmd, hks, hQ]
  refine loop_d [4, 5] (fun i : Nat => [(8, .int .i64 i)]) (fun i => i ≤ l.length ∧ ∀ k, k < i → (h : k < l.length) → p l[k] = false) (fun i => l.length - i) (0) hP hmd hks (rfl) (by simp) ?_
  rintro i ⟨hi, hk⟩ w1 hP1 hmd1 hks1 hQ1
  simp +decide (maxSteps := 20000000) (disch := omega) only [↓SBK, ↓SBK2, SX, Nat.reduceEqDiff, Nat.reduceAdd, Nat.reduceMul, Nat.reduceSub, ↓reduceIte, Int.reduceNeg, Int.reduceToNat, Int.reducePow, hmd, hks, hQ, hmd1, hks1, hQ1]
  (first | with_reducible refine if_d _ ?_ ?_ | refine if_i _ ?_ ?_) <;> intro h1
  · simp +decide (maxSteps := 20000000) (disch := omega) only [↓SBK, ↓SBK2, SX, Nat.reduceEqDiff, Nat.reduceAdd, Nat.reduceMul, Nat.reduceSub, ↓reduceIte, Int.reduceNeg, Int.reduceToNat, Int.reducePow, hmd, hks, hQ, hmd1, hks1, hQ1, getE h1]
    cases h2 : p (l[i]'(by omega)) with
    | true =>
      (first | refine call_i hP1 (hc (l[i]'(by omega))) (.inl ⟨rfl, fun _ hx => nomatch hx⟩) ?_ | refine callH_i hP1 (hc (l[i]'(by omega))) (.inl ⟨rfl, fun _ hx => nomatch hx⟩) ?_)
      simp +decide (maxSteps := 20000000) (disch := omega) only [↓SBK, ↓SBK2, SX, Nat.reduceEqDiff, Nat.reduceAdd, Nat.reduceMul, Nat.reduceSub, ↓reduceIte, Int.reduceNeg, Int.reduceToNat, Int.reducePow, hmd, hks, hQ, hmd1, hks1, hQ1, h2]
      rw [idx_step hk (by omega) h2]; rfl
    | false =>
      (first | refine call_i hP1 (hc (l[i]'(by omega))) (.inl ⟨rfl, fun _ hx => nomatch hx⟩) ?_ | refine callH_i hP1 (hc (l[i]'(by omega))) (.inl ⟨rfl, fun _ hx => nomatch hx⟩) ?_)
      simp +decide (maxSteps := 20000000) (disch := omega) only [↓SBK, ↓SBK2, SX, Nat.reduceEqDiff, Nat.reduceAdd, Nat.reduceMul, Nat.reduceSub, ↓reduceIte, Int.reduceNeg, Int.reduceToNat, Int.reducePow, hmd, hks, hQ, hmd1, hks1, hQ1, h2]
      exact ⟨i + 1, rfl, ⟨by omega, no_step hk (by omega) h2⟩, by omega⟩
  · obtain rfl : i = l.length := by omega
    simp +decide (maxSteps := 20000000) (disch := omega) only [↓SBK, ↓SBK2, SX, Nat.reduceEqDiff, Nat.reduceAdd, Nat.reduceMul, Nat.reduceSub, ↓reduceIte, Int.reduceNeg, Int.reduceToNat, Int.reducePow, hmd, hks, hQ, hmd1, hks1, hQ1]
    rw [idx_none fun k h => hk k h h]; rfl
theorem sI_VolNamed_1 (v : Vol) (n : Bytes) : Spec Try.prog 30 [v.x, .xbox [.str n]] (.bool (decide (v.name = n))) [.undef, .undef] := by
  refine spec_C hmx p_I_VolNamed_1 [] 15 [] ⟨Nat.le_of_ble_eq_true rfl, Nat.le_of_ble_eq_true rfl⟩ rfl rfl ?_
  intro w hP hmd hks hQ
  unfold c_I_VolNamed_1
  simp +decide (maxSteps := 20000000) (disch := omega) only [↓SBK, ↓SBK2, SX, Nat.reduceEqDiff, Nat.reduceAdd, Nat.reduceMul, Nat.reduceSub, ↓reduceIte, Int.reduceNeg, Int.reduceToNat, Int.reducePow, hmd, hks, hQ]
theorem sI_VolNamed (f : Fs) (n : Bytes) (hl : f.vols.length < 2 ^ 48) : Spec Try.prog 18 [f.x, .str n] (.int .i64 (idxI (volNamed f n))) [.undef, .undef] := by
  refine spec_C hmx p_I_VolNamed [] 31 [] ⟨Nat.le_of_ble_eq_true rfl, Nat.le_of_ble_eq_true rfl⟩ rfl rfl ?_
  intro w hP hmd hks hQ
  unfold c_I_VolNamed
  simp +decide (maxSteps := 20000000) (disch := omega) only [↓SBK, ↓SBK2, SX, Nat.reduceEqDiff, Nat.reduceAdd, Nat.reduceMul, Nat.reduceSub, ↓reduceIte, Int.reduceNeg, Int.reduceToNat, Int.reducePow, hmd, hks, hQ]
  (first | refine call_i hP (s_IndexFunc_Vol (fun v => sI_VolNamed_1 v n) f.vols hl) (.inl ⟨rfl, fun _ hx => nomatch hx⟩) ?_ | refine callH_i hP (s_IndexFunc_Vol (fun v => sI_VolNamed_1 v n) f.vols hl) (.inl ⟨rfl, fun _ hx => nomatch hx⟩) ?_)
  simp +decide (maxSteps := 20000000) (disch := omega) only [↓SBK, ↓SBK2, SX, Nat.reduceEqDiff, Nat.reduceAdd, Nat.reduceMul, Nat.reduceSub, ↓reduceIte, Int.reduceNeg, Int.reduceToNat, Int.reducePow, hmd, hks, hQ]
  rfl
end Go.Proofs.Ytjmnolhflcjpgaa.Awp

namespace Go.Proofs.Ytjmnolhflcjpgaa.Awp
open Go.Proofs
set_option linter.unusedSimpArgs false
set_option linter.unusedVariables false
set_option maxRecDepth 100000
set_option maxHeartbeats 20000000

theorem eqFs_self (d : Fs) (h : d.sz < 2 ^ 40) : Spec Try.prog 10 [d.x, d.x] (.bool true) [.undef, .undef] := by
  have he := s_eqFs d d h
  rwa [decide_eq_true rfl] at he
theorem fs_fl {f : Fs} (hf : f.fine) : f.vols.length < 2 ^ 48 := hf.1
theorem s_FnExactVolNamed (r : Fs) (n : Bytes) (hf : r.fine) (hn : n.length < 2 ^ 48) : Spec Try.prog 5 [r.x, .str n] (.bool true) [.undef, .undef] := by
  by_cases hl : (1048576 : Int) < (n.length : Nat)
  · refine spec_C hmx p_L_FnExactVolNamed [] 503 [] ⟨Nat.le_of_ble_eq_true rfl, Nat.le_of_ble_eq_true rfl⟩ rfl rfl ?_
    intro w hP hmd hks hQ
    unfold c_L_FnExactVolNamed
    simp +decide (maxSteps := 20000000) (disch := omega) only [↓SBK, ↓SBK2, SX, Nat.reduceEqDiff, Nat.reduceAdd, Nat.reduceMul, Nat.reduceSub, ↓reduceIte, Int.reduceNeg, Int.reduceToNat, Int.reducePow, hmd, hks, hQ]
    (first | with_reducible refine if_d _ ?_ ?_ | refine if_i _ ?_ ?_) <;> intro h
    · simp +decide (maxSteps := 20000000) (disch := omega) only [↓SBK, ↓SBK2, SX, Nat.reduceEqDiff, Nat.reduceAdd, Nat.reduceMul, Nat.reduceSub, ↓reduceIte, Int.reduceNeg, Int.reduceToNat, Int.reducePow, hmd, hks, hQ]
    · exfalso; omega
  by_cases hz : (1048576 : Int) < (r.sz : Nat)
  · refine spec_C hmx p_L_FnExactVolNamed [] 503 [] ⟨Nat.le_of_ble_eq_true rfl, Nat.le_of_ble_eq_true rfl⟩ rfl rfl ?_
    intro w hP hmd hks hQ
    unfold c_L_FnExactVolNamed
    simp +decide (maxSteps := 20000000) (disch := omega) only [↓SBK, ↓SBK2, SX, Nat.reduceEqDiff, Nat.reduceAdd, Nat.reduceMul, Nat.reduceSub, ↓reduceIte, Int.reduceNeg, Int.reduceToNat, Int.reducePow, hmd, hks, hQ]
    (first | with_reducible refine if_d _ ?_ ?_ | refine if_i _ ?_ ?_) <;> intro h0
    · exfalso; omega
    simp +decide (maxSteps := 20000000) (disch := omega) only [↓SBK, ↓SBK2, SX, Nat.reduceEqDiff, Nat.reduceAdd, Nat.reduceMul, Nat.reduceSub, ↓reduceIte, Int.reduceNeg, Int.reduceToNat, Int.reducePow, hmd, hks, hQ]
    (first | refine call_i hP (s_szFs r 1048576 hf (by omega) (by omega)) (.inl ⟨rfl, fun _ hx => nomatch hx⟩) ?_ | refine callH_i hP (s_szFs r 1048576 hf (by omega) (by omega)) (.inl ⟨rfl, fun _ hx => nomatch hx⟩) ?_)
    simp +decide (maxSteps := 20000000) (disch := omega) only [↓SBK, ↓SBK2, SX, Nat.reduceEqDiff, Nat.reduceAdd, Nat.reduceMul, Nat.reduceSub, ↓reduceIte, Int.reduceNeg, Int.reduceToNat, Int.reducePow, hmd, hks, hQ, szC_lt hz]
  · have hs : r.sz < 2 ^ 40 := by omega
    refine spec_C hmx p_L_FnExactVolNamed [] 503 [] ⟨Nat.le_of_ble_eq_true rfl, Nat.le_of_ble_eq_true rfl⟩ rfl rfl ?_
    intro w hP hmd hks hQ
    unfold c_L_FnExactVolNamed
    simp +decide (maxSteps := 20000000) (disch := omega) only [↓SBK, ↓SBK2, SX, Nat.reduceEqDiff, Nat.reduceAdd, Nat.reduceMul, Nat.reduceSub, ↓reduceIte, Int.reduceNeg, Int.reduceToNat, Int.reducePow, hmd, hks, hQ]
    (first | with_reducible refine if_d _ ?_ ?_ | refine if_i _ ?_ ?_) <;> intro h0
    · exfalso; omega
    simp +decide (maxSteps := 20000000) (disch := omega) only [↓SBK, ↓SBK2, SX, Nat.reduceEqDiff, Nat.reduceAdd, Nat.reduceMul, Nat.reduceSub, ↓reduceIte, Int.reduceNeg, Int.reduceToNat, Int.reducePow, hmd, hks, hQ]
    (first | refine call_i hP (s_szFs r 1048576 hf (by omega) (by omega)) (.inl ⟨rfl, fun _ hx => nomatch hx⟩) ?_ | refine callH_i hP (s_szFs r 1048576 hf (by omega) (by omega)) (.inl ⟨rfl, fun _ hx => nomatch hx⟩) ?_)
    simp +decide (maxSteps := 20000000) (disch := omega) only [↓SBK, ↓SBK2, SX, Nat.reduceEqDiff, Nat.reduceAdd, Nat.reduceMul, Nat.reduceSub, ↓reduceIte, Int.reduceNeg, Int.reduceToNat, Int.reducePow, hmd, hks, hQ, szC_ge hz]
    (first | with_reducible refine if_d _ ?_ ?_ | refine if_i _ ?_ ?_) <;> intro h
    · exfalso; omega
    simp +decide (maxSteps := 20000000) (disch := omega) only [↓SBK, ↓SBK2, SX, Nat.reduceEqDiff, Nat.reduceAdd, Nat.reduceMul, Nat.reduceSub, ↓reduceIte, Int.reduceNeg, Int.reduceToNat, Int.reducePow, hmd, hks, hQ]
    (first | refine call_i hP (s_toFs r hs) (.inl ⟨rfl, fun _ hx => nomatch hx⟩) ?_ | refine callH_i hP (s_toFs r hs) (.inl ⟨rfl, fun _ hx => nomatch hx⟩) ?_)
    simp +decide (maxSteps := 20000000) (disch := omega) only [↓SBK, ↓SBK2, SX, Nat.reduceEqDiff, Nat.reduceAdd, Nat.reduceMul, Nat.reduceSub, ↓reduceIte, Int.reduceNeg, Int.reduceToNat, Int.reducePow, hmd, hks, hQ]
    (first | refine call_i hP (sS_VolNamed r n (fs_fl hf)) (.inl ⟨rfl, fun _ hx => nomatch hx⟩) ?_ | refine callH_i hP (sS_VolNamed r n (fs_fl hf)) (.inl ⟨rfl, fun _ hx => nomatch hx⟩) ?_)
    simp +decide (maxSteps := 20000000) (disch := omega) only [↓SBK, ↓SBK2, SX, Nat.reduceEqDiff, Nat.reduceAdd, Nat.reduceMul, Nat.reduceSub, ↓reduceIte, Int.reduceNeg, Int.reduceToNat, Int.reducePow, hmd, hks, hQ]
    (first | refine call_i hP (s_toFs r hs) (.inl ⟨rfl, fun _ hx => nomatch hx⟩) ?_ | refine callH_i hP (s_toFs r hs) (.inl ⟨rfl, fun _ hx => nomatch hx⟩) ?_)
    simp +decide (maxSteps := 20000000) (disch := omega) only [↓SBK, ↓SBK2, SX, Nat.reduceEqDiff, Nat.reduceAdd, Nat.reduceMul, Nat.reduceSub, ↓reduceIte, Int.reduceNeg, Int.reduceToNat, Int.reducePow, hmd, hks, hQ]
    (first | refine call_i hP (sI_VolNamed r n (fs_fl hf)) (.inl ⟨rfl, fun _ hx => nomatch hx⟩) ?_ | refine callH_i hP (sI_VolNamed r n (fs_fl hf)) (.inl ⟨rfl, fun _ hx => nomatch hx⟩) ?_)
    simp +decide (maxSteps := 20000000) (disch := omega) only [↓SBK, ↓SBK2, SX, Nat.reduceEqDiff, Nat.reduceAdd, Nat.reduceMul, Nat.reduceSub, ↓reduceIte, Int.reduceNeg, Int.reduceToNat, Int.reducePow, hmd, hks, hQ]
    (first | refine call_i hP (s_toFs r hs) (.inl ⟨rfl, fun _ hx => nomatch hx⟩) ?_ | refine callH_i hP (s_toFs r hs) (.inl ⟨rfl, fun _ hx => nomatch hx⟩) ?_)
    simp +decide (maxSteps := 20000000) (disch := omega) only [↓SBK, ↓SBK2, SX, Nat.reduceEqDiff, Nat.reduceAdd, Nat.reduceMul, Nat.reduceSub, ↓reduceIte, Int.reduceNeg, Int.reduceToNat, Int.reducePow, hmd, hks, hQ]
    (first | refine call_i hP (eqFs_self r hs) (.inl ⟨rfl, fun _ hx => nomatch hx⟩) ?_ | refine callH_i hP (eqFs_self r hs) (.inl ⟨rfl, fun _ hx => nomatch hx⟩) ?_)
    simp +decide (maxSteps := 20000000) (disch := omega) only [↓SBK, ↓SBK2, SX, Nat.reduceEqDiff, Nat.reduceAdd, Nat.reduceMul, Nat.reduceSub, ↓reduceIte, Int.reduceNeg, Int.reduceToNat, Int.reducePow, hmd, hks, hQ]
end Go.Proofs.Ytjmnolhflcjpgaa.Awp

namespace Go.Proofs.Ytjmnolhflcjpgaa.Awp
open Go.Proofs
set_option linter.unusedSimpArgs false
set_option linter.unusedVariables false

/-! ### what is read of an argument is a value of its type -/
theorem Shp.nil_inv {ts : List TV} (h : Shp [] ts) : ts = [] := by cases h; rfl
theorem Shp.bool_inv {ys : List Ty} {ts : List TV} (h : Shp (.bool :: ys) ts) : ∃ b us, ts = .bool b :: us ∧ Shp ys us := by cases h with | bool b _ us h => exact ⟨b, us, rfl, h⟩
theorem Shp.int_inv {k : IntKind} {ys : List Ty} {ts : List TV} (h : Shp (.int k :: ys) ts) : ∃ n us, ts = .int k n :: us ∧ Shp ys us := by cases h with | int _ n _ us _ h => exact ⟨n, us, rfl, h⟩
theorem Shp.str_inv {ys : List Ty} {ts : List TV} (h : Shp (.str :: ys) ts) : ∃ s us, ts = .str s :: us ∧ s.length ≤ 2 ^ 47 ∧ Shp ys us := by cases h with | str s _ us hs h => exact ⟨s, us, rfl, hs, h⟩
theorem Shp.sl_inv {s : Nat} {e ys : List Ty} {ts : List TV} (h : Shp (.sl s e :: ys) ts) : ∃ es us, ts = .sl s es :: us ∧ es.length ≤ 2 ^ 47 ∧ (∀ r ∈ es, Shp e r) ∧ Shp ys us := by
  cases h with | sl _ _ es _ us hl he h => exact ⟨es, us, rfl, hl, he, h⟩
theorem rows_ofShp {α : Type} {sh : List Ty} {row : α → List TV} {good : α → Prop} (H : ∀ ts, Shp sh ts → ∃ x, ts = row x ∧ good x) : ∀ {es : List (List TV)}, (∀ r ∈ es, Shp sh r) → ∃ l : List α, es = l.map row ∧ ∀ x ∈ l, good x := by
  intro es
  induction es with
  | nil => intro _; exact ⟨[], rfl, by simp⟩
  | cons r es ih =>
    intro h
    obtain ⟨x, rfl, hx⟩ := H r (h r (by simp))
    obtain ⟨l, rfl, hl⟩ := ih fun r hr => h r (by simp [hr])
    exact ⟨x :: l, rfl, fun y hy => by rcases List.mem_cons.1 hy with rfl | hy; exact hx; exact hl y hy⟩
theorem byte_ofShp (ts : List TV) (h : Shp [.int .u8] ts) : ∃ x : UInt8, ts = byteRow x ∧ True := by
  cases h with
  | int _ n _ us hn h =>
    cases h
    obtain ⟨h1, h2⟩ := bounds_u8 hn
    refine ⟨UInt8.ofNat n.toNat, ?_, trivial⟩
    have : (UInt8.ofNat n.toNat).toNat = n.toNat := by simp; omega
    simp only [byteRow, this]
    congr 2
    omega
theorem bytes_ofShp {es : List (List TV)} (h : ∀ r ∈ es, Shp [.int .u8] r) : ∃ b : Bytes, es = bytesR b := by
  obtain ⟨l, rfl, _⟩ := rows_ofShp byte_ofShp h
  exact ⟨l, rfl⟩
theorem len_ofs {s : Bytes} (h : s.length ≤ 2 ^ 47) : s.length < 2 ^ 48 := Nat.lt_of_le_of_lt h (by decide)
theorem len_ofb {b : Bytes} (h : (bytesR b).length ≤ 2 ^ 47) : b.length < 2 ^ 48 := Nat.lt_of_le_of_lt (by simpa [bytesR] using h) (by decide)
theorem len_ofl {α β : Type} {f : α → β} {l : List α} (h : (l.map f).length ≤ 2 ^ 47) : l.length < 2 ^ 48 := Nat.lt_of_le_of_lt (by simpa using h) (by decide)

def Ent.shape : List Ty := [.str, .int .i64]
theorem Ent.ofShp (ts : List TV) (h : Shp Ent.shape ts) : ∃ x : Ent, ts = x.row ∧ x.fine := by
  obtain ⟨v_name, u0, rfl, lv_name, h1⟩ := Shp.str_inv h
  obtain ⟨v_ino, u1, rfl, h2⟩ := Shp.int_inv h1
  obtain rfl := Shp.nil_inv h2
  exact ⟨{ name := v_name, ino := v_ino }, rfl, len_ofs lv_name⟩
def Attr.shape : List Ty := [.str, .str]
theorem Attr.ofShp (ts : List TV) (h : Shp Attr.shape ts) : ∃ x : Attr, ts = x.row ∧ x.fine := by
  obtain ⟨v_name, u0, rfl, lv_name, h1⟩ := Shp.str_inv h
  obtain ⟨v_val, u1, rfl, lv_val, h2⟩ := Shp.str_inv h1
  obtain rfl := Shp.nil_inv h2
  exact ⟨{ name := v_name, val := v_val }, rfl, ⟨len_ofs lv_name, len_ofs lv_val⟩⟩
def Inode.shape : List Ty := [.int .i64, .int .i64, .int .i64, .sl 1 [.int .u8], .sl 2 Ent.shape, .sl 2 Attr.shape]
theorem Inode.ofShp (ts : List TV) (h : Shp Inode.shape ts) : ∃ x : Inode, ts = x.row ∧ x.fine := by
  obtain ⟨v_ino, u0, rfl, h1⟩ := Shp.int_inv h
  obtain ⟨v_kind, u1, rfl, h2⟩ := Shp.int_inv h1
  obtain ⟨v_links, u2, rfl, h3⟩ := Shp.int_inv h2
  obtain ⟨r3, u3, rfl, lv_data, e3, h4⟩ := Shp.sl_inv h3
  obtain ⟨v_data, rfl⟩ := bytes_ofShp e3
  obtain ⟨r4, u4, rfl, lv_ents, e4, h5⟩ := Shp.sl_inv h4
  obtain ⟨v_ents, rfl, gv_ents⟩ := rows_ofShp Ent.ofShp e4
  obtain ⟨r5, u5, rfl, lv_attrs, e5, h6⟩ := Shp.sl_inv h5
  obtain ⟨v_attrs, rfl, gv_attrs⟩ := rows_ofShp Attr.ofShp e5
  obtain rfl := Shp.nil_inv h6
  exact ⟨{ ino := v_ino, kind := v_kind, links := v_links, data := v_data, ents := v_ents, attrs := v_attrs }, rfl, ⟨len_ofb lv_data, ⟨len_ofl lv_ents, gv_ents⟩, ⟨len_ofl lv_attrs, gv_attrs⟩⟩⟩
def Tab.shape : List Ty := [.sl 6 Inode.shape, .int .i64]
theorem Tab.ofShp (ts : List TV) (h : Shp Tab.shape ts) : ∃ x : Tab, ts = x.row ∧ x.fine := by
  obtain ⟨r0, u0, rfl, lv_inodes, e0, h1⟩ := Shp.sl_inv h
  obtain ⟨v_inodes, rfl, gv_inodes⟩ := rows_ofShp Inode.ofShp e0
  obtain ⟨v_next, u1, rfl, h2⟩ := Shp.int_inv h1
  obtain rfl := Shp.nil_inv h2
  exact ⟨{ inodes := v_inodes, next := v_next }, rfl, ⟨len_ofl lv_inodes, gv_inodes⟩⟩
def Vol.shape : List Ty := [.int .i64, .str, .bool, .int .i64, .sl 6 Inode.shape, .int .i64]
theorem Vol.ofShp (ts : List TV) (h : Shp Vol.shape ts) : ∃ x : Vol, ts = x.row ∧ x.fine := by
  obtain ⟨v_id, u0, rfl, h1⟩ := Shp.int_inv h
  obtain ⟨v_name, u1, rfl, lv_name, h2⟩ := Shp.str_inv h1
  obtain ⟨v_ro, u2, rfl, h3⟩ := Shp.bool_inv h2
  obtain ⟨v_limit, u3, rfl, h4⟩ := Shp.int_inv h3
  obtain ⟨r4, u4, rfl, lv_t_inodes, e4, h5⟩ := Shp.sl_inv h4
  obtain ⟨v_t_inodes, rfl, gv_t_inodes⟩ := rows_ofShp Inode.ofShp e4
  obtain ⟨v_t_next, u5, rfl, h6⟩ := Shp.int_inv h5
  obtain rfl := Shp.nil_inv h6
  exact ⟨{ id := v_id, name := v_name, ro := v_ro, limit := v_limit, t := { inodes := v_t_inodes, next := v_t_next } }, rfl, ⟨len_ofs lv_name, ⟨len_ofl lv_t_inodes, gv_t_inodes⟩⟩⟩
def Fs.shape : List Ty := [.sl 6 Vol.shape, .int .i64]
theorem Fs.ofShp (ts : List TV) (h : Shp Fs.shape ts) : ∃ x : Fs, ts = x.row ∧ x.fine := by
  obtain ⟨r0, u0, rfl, lv_vols, e0, h1⟩ := Shp.sl_inv h
  obtain ⟨v_vols, rfl, gv_vols⟩ := rows_ofShp Vol.ofShp e0
  obtain ⟨v_next, u1, rfl, h2⟩ := Shp.int_inv h1
  obtain rfl := Shp.nil_inv h2
  exact ⟨{ vols := v_vols, next := v_next }, rfl, ⟨len_ofl lv_vols, gv_vols⟩⟩
def Op.shape : List Ty := [.int .i64, .int .i64, .str, .str, .int .i64, .sl 1 [.int .u8]]
theorem Op.ofShp (ts : List TV) (h : Shp Op.shape ts) : ∃ x : Op, ts = x.row ∧ x.fine := by
  obtain ⟨v_kind, u0, rfl, h1⟩ := Shp.int_inv h
  obtain ⟨v_vol, u1, rfl, h2⟩ := Shp.int_inv h1
  obtain ⟨v_path, u2, rfl, lv_path, h3⟩ := Shp.str_inv h2
  obtain ⟨v_to', u3, rfl, lv_to', h4⟩ := Shp.str_inv h3
  obtain ⟨v_off, u4, rfl, h5⟩ := Shp.int_inv h4
  obtain ⟨r5, u5, rfl, lv_data, e5, h6⟩ := Shp.sl_inv h5
  obtain ⟨v_data, rfl⟩ := bytes_ofShp e5
  obtain rfl := Shp.nil_inv h6
  exact ⟨{ kind := v_kind, vol := v_vol, path := v_path, to' := v_to', off := v_off, data := v_data }, rfl, ⟨len_ofs lv_path, len_ofs lv_to', len_ofb lv_data⟩⟩
end Go.Proofs.Ytjmnolhflcjpgaa.Awp

namespace Go.Proofs.Ytjmnolhflcjpgaa.Awp
open Go.Proofs Go.Proofs.Ytjmnolhflcjpgaa
set_option linter.unusedSimpArgs false
set_option linter.unusedVariables false
set_option maxRecDepth 100000

theorem own : ownKnob Try.prog.godebug = none := by kernel_rfl
/-- how the text of the program's start goes on -/
def ioTail : List Char := [Char.ofNat 97, Char.ofNat 116, Char.ofNat 32, Char.ofNat 108, Char.ofNat 111, Char.ofNat 111, Char.ofNat 112, Char.ofNat 46, Char.ofNat 101, Char.ofNat 120, Char.ofNat 97, Char.ofNat 109, Char.ofNat 112, Char.ofNat 108, Char.ofNat 101, Char.ofNat 47, Char.ofNat 103, Char.ofNat 48, Char.ofNat 48, Char.ofNat 50, Char.ofNat 56, Char.ofNat 53, Char.ofNat 47, Char.ofNat 108, Char.ofNat 97, Char.ofNat 119, Char.ofNat 115, Char.ofNat 46, Char.ofNat 70, Char.ofNat 110, Char.ofNat 69, Char.ofNat 120, Char.ofNat 97, Char.ofNat 99, Char.ofNat 116, Char.ofNat 70, Char.ofNat 115, Char.ofNat 78, Char.ofNat 101, Char.ofNat 119, Char.ofNat 32, Char.ofNat 108, Char.ofNat 111, Char.ofNat 111, Char.ofNat 112, Char.ofNat 46, Char.ofNat 101, Char.ofNat 120, Char.ofNat 97, Char.ofNat 109, Char.ofNat 112, Char.ofNat 108, Char.ofNat 101, Char.ofNat 47, Char.ofNat 103, Char.ofNat 48, Char.ofNat 48, Char.ofNat 50, Char.ofNat 56, Char.ofNat 53] ++ [Char.ofNat 47, Char.ofNat 108, Char.ofNat 97, Char.ofNat 119, Char.ofNat 115, Char.ofNat 46, Char.ofNat 70, Char.ofNat 110, Char.ofNat 69, Char.ofNat 120, Char.ofNat 97, Char.ofNat 99, Char.ofNat 116, Char.ofNat 86, Char.ofNat 111, Char.ofNat 108, Char.ofNat 65, Char.ofNat 116, Char.ofNat 32, Char.ofNat 108, Char.ofNat 111, Char.ofNat 111, Char.ofNat 112, Char.ofNat 46, Char.ofNat 101, Char.ofNat 120, Char.ofNat 97, Char.ofNat 109, Char.ofNat 112, Char.ofNat 108, Char.ofNat 101, Char.ofNat 47, Char.ofNat 103, Char.ofNat 48, Char.ofNat 48, Char.ofNat 50, Char.ofNat 56, Char.ofNat 53, Char.ofNat 47, Char.ofNat 108, Char.ofNat 97, Char.ofNat 119, Char.ofNat 115, Char.ofNat 46, Char.ofNat 70, Char.ofNat 110, Char.ofNat 69, Char.ofNat 120, Char.ofNat 97, Char.ofNat 99, Char.ofNat 116, Char.ofNat 86, Char.ofNat 111, Char.ofNat 108, Char.ofNat 78, Char.ofNat 97, Char.ofNat 109, Char.ofNat 101, Char.ofNat 100, Char.ofNat 32] ++ [Char.ofNat 108, Char.ofNat 111, Char.ofNat 111, Char.ofNat 112, Char.ofNat 46, Char.ofNat 101, Char.ofNat 120, Char.ofNat 97, Char.ofNat 109, Char.ofNat 112, Char.ofNat 108, Char.ofNat 101, Char.ofNat 47, Char.ofNat 103, Char.ofNat 48, Char.ofNat 48, Char.ofNat 50, Char.ofNat 56, Char.ofNat 53, Char.ofNat 47, Char.ofNat 108, Char.ofNat 97, Char.ofNat 119, Char.ofNat 115, Char.ofNat 46, Char.ofNat 70, Char.ofNat 110, Char.ofNat 69, Char.ofNat 120, Char.ofNat 97, Char.ofNat 99, Char.ofNat 116, Char.ofNat 83, Char.ofNat 97, Char.ofNat 109, Char.ofNat 101, Char.ofNat 70, Char.ofNat 115, Char.ofNat 32, Char.ofNat 108, Char.ofNat 111, Char.ofNat 111, Char.ofNat 112, Char.ofNat 46, Char.ofNat 101, Char.ofNat 120, Char.ofNat 97, Char.ofNat 109, Char.ofNat 112, Char.ofNat 108, Char.ofNat 101, Char.ofNat 47, Char.ofNat 103, Char.ofNat 48, Char.ofNat 48, Char.ofNat 50, Char.ofNat 56, Char.ofNat 53, Char.ofNat 47, Char.ofNat 108] ++ [Char.ofNat 97, Char.ofNat 119, Char.ofNat 115, Char.ofNat 46, Char.ofNat 70, Char.ofNat 110, Char.ofNat 69, Char.ofNat 120, Char.ofNat 97, Char.ofNat 99, Char.ofNat 116, Char.ofNat 70, Char.ofNat 115, Char.ofNat 79, Char.ofNat 107]
def ioSum : List Char := [Char.ofNat 99, Char.ofNat 56, Char.ofNat 48, Char.ofNat 49, Char.ofNat 48, Char.ofNat 51, Char.ofNat 53, Char.ofNat 102, Char.ofNat 56, Char.ofNat 100, Char.ofNat 49, Char.ofNat 50, Char.ofNat 102, Char.ofNat 50, Char.ofNat 55, Char.ofNat 98, Char.ofNat 101, Char.ofNat 55, Char.ofNat 98, Char.ofNat 48, Char.ofNat 102, Char.ofNat 102, Char.ofNat 51, Char.ofNat 100, Char.ofNat 98, Char.ofNat 49, Char.ofNat 49, Char.ofNat 52, Char.ofNat 97, Char.ofNat 100, Char.ofNat 101, Char.ofNat 51, Char.ofNat 52, Char.ofNat 57, Char.ofNat 51, Char.ofNat 102, Char.ofNat 55, Char.ofNat 98, Char.ofNat 52, Char.ofNat 100, Char.ofNat 99, Char.ofNat 54, Char.ofNat 52, Char.ofNat 57, Char.ofNat 48, Char.ofNat 54, Char.ofNat 51, Char.ofNat 57, Char.ofNat 101, Char.ofNat 57, Char.ofNat 102, Char.ofNat 98, Char.ofNat 102, Char.ofNat 54, Char.ofNat 98, Char.ofNat 54, Char.ofNat 102, Char.ofNat 99, Char.ofNat 97, Char.ofNat 51, Char.ofNat 51, Char.ofNat 48, Char.ofNat 99, Char.ofNat 51]
theorem ioText : Try.prog.initOrder = String.ofList ([Char.ofNat 104, Char.ofNat 97, Char.ofNat 114, Char.ofNat 110, Char.ofNat 101, Char.ofNat 115, Char.ofNat 115] ++ (Char.ofNat 32 :: ioSum) ++ [Char.ofNat 32, Char.ofNat 99, Char.ofNat 117, Char.ofNat 116, Char.ofNat 32] ++ ioTail) := by kernel_rfl
theorem ioWords : ∃ r, behindMainWord (wordsSigns Try.prog.initOrder.toList) = [Char.ofNat 99, Char.ofNat 117, Char.ofNat 116] :: r := by
  rw [ioText, String.toList_ofList]
  exact ⟨wordsSigns ioTail, by kernel_rfl⟩
theorem f_laid : (laidOutB Try.prog) = true := by kernel_rfl
theorem f_maps : (mapsRowed Try.prog) = true := by kernel_rfl
theorem f_stops : ((Try.prog.stops == [])) = true := by kernel_rfl
theorem f_knobs : ((Try.prog.stopKnobs == [])) = true := by kernel_rfl
theorem f_heard : (Try.prog.stopsHeard) = true := by kernel_rfl
theorem f_enter : (Try.prog.mayEnter) = true := by
  obtain ⟨r, hr⟩ := ioWords
  exact enter_of hr (by kernel_rfl) (by kernel_rfl) (by kernel_rfl)
theorem f_lifts : (false == Try.prog.liftsFinal) = true := by
  obtain ⟨r, hr⟩ := ioWords
  rw [lifts_of hr]
  rfl
theorem f_make : (Try.prog.make == some .cut) = true := by
  obtain ⟨r, hr⟩ := ioWords
  rw [make_of hr]
  rfl
end Go.Proofs.Ytjmnolhflcjpgaa.Awp

namespace Go.Proofs.Ytjmnolhflcjpgaa.Awp
open Go.Proofs Go.Proofs.Ytjmnolhflcjpgaa
set_option linter.unusedSimpArgs false
set_option linter.unusedVariables false
set_option maxRecDepth 100000

theorem j0_FnExactVolNamed : (Rows.fnExactVolNamedRow.wf (OpenSpec.ofChange Rows.fnExactVolNamedSpec)) = true := by kernel_rfl
theorem j3_FnExactVolNamed : (Try.f5.params.all (Try.prog.readableRec ·)) = true := by kernel_rfl
theorem j4_FnExactVolNamed : (namedTie Try.prog Rows.fnExactVolNamedRow.named Rows.fnExactVolNamedSpec.vars) = true := by kernel_rfl
theorem j5_FnExactVolNamed : ((Rows.fnExactVolNamedRow.stops == [])) = true := by kernel_rfl
theorem j7_FnExactVolNamed : ((Rows.fnExactVolNamedRow.knobs == [])) = true := by kernel_rfl
theorem j9_FnExactVolNamed : ((Rows.fnExactVolNamedRow.inPlace == Try.prog.inPlace 5)) = true := by kernel_rfl
theorem j10_FnExactVolNamed : ((Rows.fnExactVolNamedRow.unfollowed == Try.prog.unfollowed 5)) = true := by kernel_rfl
theorem j11_FnExactVolNamed : ((Rows.fnExactVolNamedRow.recurses == Try.prog.recurses 5)) = true := by kernel_rfl
theorem j12_FnExactVolNamed : ((Rows.fnExactVolNamedRow.named == Try.prog.varsNamed 5)) = true := by kernel_rfl
theorem j13_FnExactVolNamed : ((Rows.fnExactVolNamedRow.maps == (Try.f5.params.toList ++ Rows.fnExactVolNamedSpec.plain.varTypes Try.prog).any (Try.prog.mapsRec ·))) = true := by kernel_rfl
theorem j14_FnExactVolNamed : ((Rows.fnExactVolNamedRow.ifaces == (Try.f5.params.toList ++ Rows.fnExactVolNamedSpec.plain.varTypes Try.prog).any (Try.prog.ifacesRec ·))) = true := by kernel_rfl
theorem j15_FnExactVolNamed : ((Rows.fnExactVolNamedRow.mapsOut == Try.prog.mapsAmong Try.f5.resultTypes.toList)) = true := by kernel_rfl
theorem j16_FnExactVolNamed : ((Rows.fnExactVolNamedRow.loops == (Try.f5.params.toList ++ Rows.fnExactVolNamedSpec.plain.varTypes Try.prog).any (Try.prog.loopsFrom ·))) = true := by kernel_rfl
theorem j17_FnExactVolNamed : ((Rows.fnExactVolNamedRow.wideKeys == (Try.f5.params.toList ++ Rows.fnExactVolNamedSpec.plain.varTypes Try.prog ++ Try.f5.resultTypes.toList).any (Try.prog.wideKeysFrom ·))) = true := by kernel_rfl
theorem j18_FnExactVolNamed : (Rows.fnExactVolNamedSpec.vars.all (Try.prog.varReadable ·)) = true := by kernel_rfl
theorem j19_FnExactVolNamed : (Try.f5.resultTypes.all (fun t => Try.prog.readableRec t && decide (t < Try.prog.types.size))) = true := by kernel_rfl
theorem j20_FnExactVolNamed : ((Rows.fnExactVolNamedRow.ifacesOut == Try.f5.resultTypes.toList.any (Try.prog.ifacesRec ·))) = true := by kernel_rfl
theorem j21_FnExactVolNamed : ((Rows.fnExactVolNamedRow.loopsOut == Try.f5.resultTypes.toList.any (Try.prog.loopsFrom ·))) = true := by kernel_rfl
theorem j22_FnExactVolNamed : ((Rows.fnExactVolNamedRow.plainKeys == Try.prog.plainKeys)) = true := by kernel_rfl
theorem j23_FnExactVolNamed : (Rows.fnExactVolNamedRow.shortTexts.isNone) = true := by kernel_rfl
theorem j28_FnExactVolNamed : ((Rows.fnExactVolNamedRow.kinds == (if Rows.fnExactVolNamedRow.domain.isEmpty then [] else Try.f5.params.toList.map fun t => match Try.prog.underlying t with | some (.int k) => some k | _ => none))) = true := by kernel_rfl
theorem j29_FnExactVolNamed : ((Rows.fnExactVolNamedRow.pinned == Rows.fnExactVolNamedRow.pinnedBy)) = true := by kernel_rfl
theorem j30_FnExactVolNamed : ((Rows.fnExactVolNamedRow.veiled == (Try.f5.params.toList ++ Rows.fnExactVolNamedSpec.plain.varTypes Try.prog ++ Try.f5.resultTypes.toList).any (Try.prog.veiledRec ·))) = true := by kernel_rfl
theorem j31_FnExactVolNamed : (Rows.fnExactVolNamedRow.veiledFits Try.prog Try.f5.params.toList (Try.f5.params.toList ++ Rows.fnExactVolNamedSpec.plain.varTypes Try.prog ++ Try.f5.resultTypes.toList)) = true := by kernel_rfl
theorem jf_FnExactVolNamed : joinedFacts Try.prog 5 Try.f5 Rows.fnExactVolNamedSpec Rows.fnExactVolNamedRow = true :=
  joined_of j0_FnExactVolNamed f_laid f_maps j3_FnExactVolNamed j4_FnExactVolNamed j5_FnExactVolNamed f_stops j7_FnExactVolNamed f_knobs j9_FnExactVolNamed j10_FnExactVolNamed j11_FnExactVolNamed j12_FnExactVolNamed j13_FnExactVolNamed j14_FnExactVolNamed j15_FnExactVolNamed j16_FnExactVolNamed j17_FnExactVolNamed j18_FnExactVolNamed j19_FnExactVolNamed j20_FnExactVolNamed j21_FnExactVolNamed j22_FnExactVolNamed j23_FnExactVolNamed f_heard f_enter f_lifts f_make j28_FnExactVolNamed j29_FnExactVolNamed j30_FnExactVolNamed j31_FnExactVolNamed

theorem lift_FnExactVolNamed (os : Os) (started : os.Started) (H : Type) (enc : TypeId × Value → H) :
    ReturnsInHanded {} Try.checked os 5 .any (Rows.fnExactVolNamedSpec.pre6 enc Try.prog Try.f5 Rows.fnExactVolNamedRow.domain false) (Rows.fnExactVolNamedSpec.post enc Try.prog Try.f5 false true false false) := by
  refine law_returns (C := Try.checked) (pars := [(true, Fs.shape), (false, [.str])]) own started (by kernel_rfl) Try.func5
    (ChangeSpec.witness6 (enc := enc) (C := Try.checked) false ⟨#[], #[.agg #[.slice none 0 0, .int .i64 0], .string ⟨#[]⟩], []⟩ 8 (by kernel_rfl) (by kernel_rfl) (by kernel_rfl) (by kernel_rfl))
    rfl (by kernel_rfl) rfl (by kernel_rfl) ?_ ?_
  · intro ds hd
    match ds, hd with
    | [d0, d1], _ => rfl
  · intro tss h
    match tss, h with
    | [t0, t1], ⟨h0, h1, _⟩ =>
      obtain ⟨x0, rfl, hf0⟩ := Fs.ofShp t0 h0
      obtain ⟨x1, u1, rfl, l1, e1⟩ := Shp.str_inv h1
      obtain rfl := Shp.nil_inv e1
      exact ⟨_, s_FnExactVolNamed x0 x1 hf0 (len_ofs l1)⟩

theorem hw_FnExactVolNamed : Try.f5.isWrapper Try.prog Rows.fnExactVolNamedRow.wrapper Rows.fnExactVolNamedRow.mainSum := by
  unfold Func.isWrapper; first | (rw [if_pos (by decide +kernel)]; kernel_rfl) | (rw [if_neg (by decide +kernel)]; exact ⟨rfl, rfl⟩)

theorem law_FnExactVolNamed : Rows.FnExactVolNamedSaid :=
  OpenClaim.holds_of_wide 5 Try.f5 rfl rfl rfl rfl rfl rfl rfl ⟨rfl, rfl, rfl, rfl, rfl⟩ rfl rfl rfl rfl rfl (by kernel_rfl) Try.func5 jf_FnExactVolNamed
    (of_decide_eq_true (by kernel_rfl)) hw_FnExactVolNamed
    (fun os started H enc _ => lift_FnExactVolNamed os started H enc)
end Go.Proofs.Ytjmnolhflcjpgaa.Awp

namespace Go.Proofs.Ytjmnolhflcjpgaa
/-- the given statement -/
theorem provedFnExactVolNamed : Rows.FnExactVolNamedSaid := Awp.law_FnExactVolNamed
end Go.Proofs.Ytjmnolhflcjpgaa
#print axioms Go.Proofs.Ytjmnolhflcjpgaa.provedFnExactVolNamed
