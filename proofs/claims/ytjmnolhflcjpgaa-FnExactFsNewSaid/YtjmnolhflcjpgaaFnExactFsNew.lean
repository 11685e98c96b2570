/- The law FnExactFsNew (the program and the reference make the same new file system) holds for every argument: the given statement FnExactFsNewSaid is proved. Condition: none. -/
import Derived.Test.YtjmnolhflcjpgaaAwp4
import Derived.Test.YtjmnolhflcjpgaaRows
import Derived.Sort.Walk0
import Derived.OpenShut
import Derived.KernelRfl
namespace Go.Proofs.Ytjmnolhflcjpgaa.Awp
open I

def c_L_FnExactFsNew : Cmd := Q (R [n 0 (asg 0 k0)]) (Q (R [n 6 (call (some 6) 8 []), n 1 (alc 1 [.sl 6 [], .int .i64 0]), m (st (v 1) (v 6) 2)]) (Q (R [n 7 (call (some 7) 9 []), n 2 (alc 2 [.sl 6 [], .int .i64 0]), m (st (v 2) (v 7) 2)]) (Q (Q (R [n 8 (ld 8 (v 2) 2 true), n 9 (ld 9 (v 1) 2 true), n 10 (call (some 10) 10 [v 8, v 9]), n 11 (un 11 .not (v 10))]) (F (v 11) (Q (R [n 0 (asg 0 k0)]) .ret) .skip)) (Q (R [n 3 (asg 3 (k 1))]) (Q (R [n 12 (ld 12 (v 2) 2 true), n 13 (mov 13 (v 3)), n 14 (call (some 14) 11 [v 12, v 13]), n 3 (asg 3 (v 14))]) (Q (R [n 4 (asg 4 (k 1))]) (Q (R [n 15 (ld 15 (v 2) 2 true), n 16 (mov 16 (v 4)), n 17 (call (some 17) 12 [v 15, v 16]), n 4 (asg 4 (v 17))]) (Q (Q (R [n 18 (mov 18 (v 4)), n 19 (bin 19 .lss (v 18) (k 0))]) (F (v 19) (Q (R [n 0 (asg 0 k0)]) .ret) .skip)) (Q (Q (R [n 20 (mov 20 (v 4)), n 21 (mov 21 (v 3)), n 22 (bin 22 .neq (v 20) (v 21))]) (F (v 22) (Q (R [n 0 (asg 0 k0)]) .ret) .skip)) (Q (R [n 23 (call (some 23) 9 []), n 5 (alc 5 [.sl 6 [], .int .i64 0]), m (st (v 5) (v 23) 2)]) (Q (Q (R [n 24 (ld 24 (v 5) 2 true), n 25 (ld 25 (v 1) 2 true), n 26 (call (some 26) 10 [v 24, v 25]), n 27 (un 27 .not (v 26))]) (F (v 27) (Q (R [n 0 (asg 0 k0)]) .ret) .skip)) (Q (R [n 4 (asg 4 (k 1))]) (Q (R [n 28 (ld 28 (v 2) 2 true), n 29 (mov 29 (v 4)), n 30 (call (some 30) 12 [v 28, v 29]), n 4 (asg 4 (v 30))]) (Q (Q (R [n 31 (mov 31 (v 4)), n 32 (bin 32 .lss (v 31) (k 0))]) (F (v 32) (Q (R [n 0 (asg 0 k0)]) .ret) .skip)) (Q (Q (R [n 33 (mov 33 (v 4)), n 34 (mov 34 (v 3)), n 35 (bin 35 .neq (v 33) (v 34))]) (F (v 35) (Q (R [n 0 (asg 0 k0)]) .ret) .skip)) (Q (R [n 0 (asg 0 k1)]) .ret))))))))))))))))
def c_S_FsNew : Cmd := Q (R [n 0 (alc 0 [.sl 6 [], .int .i64 0])]) (Q (R [n 1 (bld 1 [.sl 6 [], .int .i64 0] [(1, 1, k 1)]), m (st (v 0) (v 1) 2)]) .ret)
def c_I_FsNew : Cmd := Q (R [n 0 (alc 0 [.sl 6 [], .int .i64 0])]) (Q (R [n 1 (bld 1 [.sl 6 [], .int .i64 0] [(1, 1, k 1)]), m (st (v 0) (v 1) 2)]) .ret)
def c_L_eqFs : Cmd := Q (R [n 2 (box 2 (v 0)), n 3 (box 3 (v 1)), n 4 (asg 4 k0)]) (Q (Q (R [n 5 (fld 5 (v 2) 0), n 6 (ld 6 (v 5) 1 false), n 7 (fld 7 (v 3) 0), n 8 (ld 8 (v 7) 1 false), n 9 (call (some 9) 23 [v 6, v 8]), n 10 (un 10 .not (v 9))]) (F (v 10) (Q (R [n 4 (asg 4 k0)]) .ret) .skip)) (Q (Q (R [n 11 (fld 11 (v 2) 1), n 12 (ld 12 (v 11) 1 false), n 13 (fld 13 (v 3) 1), n 14 (ld 14 (v 13) 1 false), n 15 (bin 15 .neq (v 12) (v 14))]) (F (v 15) (Q (R [n 4 (asg 4 k0)]) .ret) .skip)) (Q (R [n 4 (asg 4 k1)]) .ret)))
def c_L_markFs : Cmd := Q (R [n 2 (box 2 (v 0)), n 4 (asg 4 (k 0))]) (Q (R [n 5 (fld 5 (v 2) 0), n 6 (ld 6 (v 5) 1 false), n 7 (mov 7 (v 1)), n 8 (call (some 8) 24 [v 6, v 7]), n 1 (asg 1 (v 8))]) (Q (R [n 9 (mov 9 (v 1)), n 4 (asg 4 (v 9))]) .ret))
def c_L_heldFs : Cmd := Q (R [n 2 (box 2 (v 0)), n 4 (asg 4 (k 0))]) (Q (R [n 5 (fld 5 (v 2) 0), n 6 (ld 6 (v 5) 1 false), n 7 (mov 7 (v 1)), n 8 (call (some 8) 25 [v 6, v 7]), n 1 (asg 1 (v 8))]) (Q (Q (R [n 9 (mov 9 (v 1)), n 10 (bin 10 .lss (v 9) (k 0))]) (F (v 10) (Q (R [n 4 (asg 4 (k (-1)))]) .ret) .skip)) (Q (R [n 11 (mov 11 (v 1)), n 4 (asg 4 (v 11))]) .ret)))
def c_L_eqVolS : Cmd := Q (R [n 4 (asg 4 k0)]) (Q (Q (R [n 6 (mov 6 (v 0)), n 7 (len 7 (v 6)), n 8 (mov 8 (v 1)), n 9 (len 9 (v 8)), n 10 (bin 10 .neq (v 7) (v 9))]) (F (v 10) (Q (R [n 4 (asg 4 k0)]) .ret) .skip)) (Q (Q (R [n 5 (asg 5 (k 0))]) (.blk 0 (.loop (Q (Q (R [n 11 (mov 11 (v 5)), n 12 (mov 12 (v 0)), n 13 (len 13 (v 12)), n 14 (bin 14 .lss (v 11) (v 13))]) (F (v 14) .skip (.exit 0))) (Q (.blk 1 (Q (D [0, 0, 3, 7, 0, 0, 48, 112, 255, 511] [n 17 (mov 17 (v 0)), n 18 (mov 18 (v 5)), n 19 (idx 19 (v 17) (v 18) 6), n 20 (ld 20 (v 19) 6 true), n 21 (mov 21 (v 1)), n 22 (mov 22 (v 5)), n 23 (idx 23 (v 21) (v 22) 6), n 24 (ld 24 (v 23) 6 true), n 25 (call (some 25) 44 [v 20, v 24]), n 26 (un 26 .not (v 25))]) (F (v 26) (Q (R [n 4 (asg 4 k0)]) .ret) .skip))) (R [n 15 (mov 15 (v 5)), n 16 (bin 16 .add (v 15) (k 1)), n 5 (asg 5 (v 16))])))))) (Q (R [n 4 (asg 4 k1)]) .ret)))
def c_L_markVolS : Cmd := Q (R [n 4 (asg 4 (k 0))]) (Q (Q (R [n 5 (asg 5 (k 0))]) (.blk 0 (.loop (Q (Q (R [n 6 (mov 6 (v 5)), n 7 (mov 7 (v 0)), n 8 (len 8 (v 7)), n 9 (bin 9 .lss (v 6) (v 8))]) (F (v 9) .skip (.exit 0))) (Q (.blk 1 (Q (R [n 12 (mov 12 (v 0)), n 13 (mov 13 (v 5)), n 14 (mov 14 (v 1)), n 15 (idx 15 (v 12) (v 13) 6), n 16 (fld 16 (v 15) 0), m (st (v 16) (v 14) 1)]) (Q (R [n 17 (mov 17 (v 1)), n 18 (bin 18 .add (v 17) (k 1)), n 1 (asg 1 (v 18))]) (Q (R [n 19 (mov 19 (v 0)), n 20 (mov 20 (v 5)), n 21 (mov 21 (v 1)), n 22 (call (some 22) 45 [v 21]), n 23 (idx 23 (v 19) (v 20) 6), n 24 (fld 24 (v 23) 1), m (st (v 24) (v 22) 1)]) (Q (R [n 25 (mov 25 (v 1)), n 26 (bin 26 .add (v 25) (k 1)), n 1 (asg 1 (v 26))]) (Q (R [n 27 (mov 27 (v 0)), n 28 (mov 28 (v 5)), n 29 (mov 29 (v 1)), n 30 (bin 30 .rem (v 29) (k 3)), n 31 (bin 31 .eql (v 30) (k 0)), n 32 (idx 32 (v 27) (v 28) 6), n 33 (fld 33 (v 32) 2), m (st (v 33) (v 31) 1)]) (Q (R [n 34 (mov 34 (v 1)), n 35 (bin 35 .add (v 34) (k 1)), n 1 (asg 1 (v 35))]) (Q (R [n 36 (mov 36 (v 0)), n 37 (mov 37 (v 5)), n 38 (mov 38 (v 1)), n 39 (idx 39 (v 36) (v 37) 6), n 40 (fld 40 (v 39) 3), m (st (v 40) (v 38) 1)]) (Q (R [n 41 (mov 41 (v 1)), n 42 (bin 42 .add (v 41) (k 1)), n 1 (asg 1 (v 42))]) (Q (R [n 43 (mov 43 (v 0)), n 44 (mov 44 (v 5)), n 45 (idx 45 (v 43) (v 44) 6), n 46 (fld 46 (v 45) 4), n 47 (fld 47 (v 46) 0), n 48 (ld 48 (v 47) 1 false), n 49 (mov 49 (v 1)), n 50 (call (some 50) 46 [v 48, v 49]), n 1 (asg 1 (v 50))]) (Q (R [n 51 (mov 51 (v 0)), n 52 (mov 52 (v 5)), n 53 (mov 53 (v 1)), n 54 (idx 54 (v 51) (v 52) 6), n 55 (fld 55 (v 54) 4), n 56 (fld 56 (v 55) 1), m (st (v 56) (v 53) 1)]) (R [n 57 (mov 57 (v 1)), n 58 (bin 58 .add (v 57) (k 1)), n 1 (asg 1 (v 58))])))))))))))) (R [n 10 (mov 10 (v 5)), n 11 (bin 11 .add (v 10) (k 1)), n 5 (asg 5 (v 11))])))))) (Q (R [n 59 (mov 59 (v 1)), n 4 (asg 4 (v 59))]) .ret))
def c_L_heldVolS : Cmd := Q (R [n 4 (asg 4 (k 0))]) (Q (Q (R [n 5 (asg 5 (k 0))]) (.blk 0 (.loop (Q (Q (R [n 6 (mov 6 (v 5)), n 7 (mov 7 (v 0)), n 8 (len 8 (v 7)), n 9 (bin 9 .lss (v 6) (v 8))]) (F (v 9) .skip (.exit 0))) (Q (.blk 1 (Q (Q (R [n 12 (mov 12 (v 0)), n 13 (mov 13 (v 5)), n 14 (idx 14 (v 12) (v 13) 6), n 15 (fld 15 (v 14) 0), n 16 (ld 16 (v 15) 1 false), n 17 (mov 17 (v 1)), n 18 (bin 18 .neq (v 16) (v 17))]) (F (v 18) (Q (R [n 4 (asg 4 (k (-1)))]) .ret) .skip)) (Q (R [n 19 (mov 19 (v 1)), n 20 (bin 20 .add (v 19) (k 1)), n 1 (asg 1 (v 20))]) (Q (Q (D [0, 0, 3, 7, 15, 0, 32, 127] [n 21 (mov 21 (v 0)), n 22 (mov 22 (v 5)), n 23 (idx 23 (v 21) (v 22) 6), n 24 (fld 24 (v 23) 1), n 25 (ld 25 (v 24) 1 false), n 26 (mov 26 (v 1)), n 27 (call (some 27) 45 [v 26]), n 28 (bin 28 .neq (v 25) (v 27))]) (F (v 28) (Q (R [n 4 (asg 4 (k (-1)))]) .ret) .skip)) (Q (R [n 29 (mov 29 (v 1)), n 30 (bin 30 .add (v 29) (k 1)), n 1 (asg 1 (v 30))]) (Q (Q (R [n 31 (mov 31 (v 0)), n 32 (mov 32 (v 5)), n 33 (idx 33 (v 31) (v 32) 6), n 34 (fld 34 (v 33) 2), n 35 (ld 35 (v 34) 1 false), n 36 (mov 36 (v 1)), n 37 (bin 37 .rem (v 36) (k 3)), n 38 (bin 38 .eql (v 37) (k 0)), n 39 (beq 39 true (v 35) (v 38))]) (F (v 39) (Q (R [n 4 (asg 4 (k (-1)))]) .ret) .skip)) (Q (R [n 40 (mov 40 (v 1)), n 41 (bin 41 .add (v 40) (k 1)), n 1 (asg 1 (v 41))]) (Q (Q (R [n 42 (mov 42 (v 0)), n 43 (mov 43 (v 5)), n 44 (idx 44 (v 42) (v 43) 6), n 45 (fld 45 (v 44) 3), n 46 (ld 46 (v 45) 1 false), n 47 (mov 47 (v 1)), n 48 (bin 48 .neq (v 46) (v 47))]) (F (v 48) (Q (R [n 4 (asg 4 (k (-1)))]) .ret) .skip)) (Q (R [n 49 (mov 49 (v 1)), n 50 (bin 50 .add (v 49) (k 1)), n 1 (asg 1 (v 50))]) (Q (R [n 51 (mov 51 (v 0)), n 52 (mov 52 (v 5)), n 53 (idx 53 (v 51) (v 52) 6), n 54 (fld 54 (v 53) 4), n 55 (fld 55 (v 54) 0), n 56 (ld 56 (v 55) 1 false), n 57 (mov 57 (v 1)), n 58 (call (some 58) 47 [v 56, v 57]), n 1 (asg 1 (v 58))]) (Q (Q (R [n 59 (mov 59 (v 1)), n 60 (bin 60 .lss (v 59) (k 0))]) (F (v 60) (Q (R [n 4 (asg 4 (k (-1)))]) .ret) .skip)) (Q (Q (R [n 61 (mov 61 (v 0)), n 62 (mov 62 (v 5)), n 63 (idx 63 (v 61) (v 62) 6), n 64 (fld 64 (v 63) 4), n 65 (fld 65 (v 64) 1), n 66 (ld 66 (v 65) 1 false), n 67 (mov 67 (v 1)), n 68 (bin 68 .neq (v 66) (v 67))]) (F (v 68) (Q (R [n 4 (asg 4 (k (-1)))]) .ret) .skip)) (R [n 69 (mov 69 (v 1)), n 70 (bin 70 .add (v 69) (k 1)), n 1 (asg 1 (v 70))]))))))))))))) (R [n 10 (mov 10 (v 5)), n 11 (bin 11 .add (v 10) (k 1)), n 5 (asg 5 (v 11))])))))) (Q (R [n 71 (mov 71 (v 1)), n 4 (asg 4 (v 71))]) .ret))
def c_L_eqVol : Cmd := Q (R [n 2 (box 2 (v 0)), n 3 (box 3 (v 1)), n 4 (asg 4 k0)]) (Q (Q (R [n 5 (fld 5 (v 2) 0), n 6 (ld 6 (v 5) 1 false), n 7 (fld 7 (v 3) 0), n 8 (ld 8 (v 7) 1 false), n 9 (bin 9 .neq (v 6) (v 8))]) (F (v 9) (Q (R [n 4 (asg 4 k0)]) .ret) .skip)) (Q (Q (R [n 10 (fld 10 (v 2) 1), n 11 (ld 11 (v 10) 1 false), n 12 (fld 12 (v 3) 1), n 13 (ld 13 (v 12) 1 false), n 14 (bin 14 .neq (v 11) (v 13))]) (F (v 14) (Q (R [n 4 (asg 4 k0)]) .ret) .skip)) (Q (Q (R [n 15 (fld 15 (v 2) 2), n 16 (ld 16 (v 15) 1 false), n 17 (fld 17 (v 3) 2), n 18 (ld 18 (v 17) 1 false), n 19 (beq 19 true (v 16) (v 18))]) (F (v 19) (Q (R [n 4 (asg 4 k0)]) .ret) .skip)) (Q (Q (R [n 20 (fld 20 (v 2) 3), n 21 (ld 21 (v 20) 1 false), n 22 (fld 22 (v 3) 3), n 23 (ld 23 (v 22) 1 false), n 24 (bin 24 .neq (v 21) (v 23))]) (F (v 24) (Q (R [n 4 (asg 4 k0)]) .ret) .skip)) (Q (Q (R [n 25 (fld 25 (v 2) 4), n 26 (ld 26 (v 25) 2 true), n 27 (fld 27 (v 3) 4), n 28 (ld 28 (v 27) 2 true), n 29 (call (some 29) 61 [v 26, v 28]), n 30 (un 30 .not (v 29))]) (F (v 30) (Q (R [n 4 (asg 4 k0)]) .ret) .skip)) (Q (R [n 4 (asg 4 k1)]) .ret))))))
def c_L_markText : Cmd := Q (R [n 2 (asg 2 (.c (.str [])))]) (Q (Q (R [n 4 (mov 4 (v 0)), n 5 (bin 5 .leq (v 4) (k 0))]) (F (v 5) (Q (R [n 2 (asg 2 (.c (.str [109, 48])))]) .ret) .skip)) (Q (R [n 3 (asg 3 (.c (.str [])))]) (Q (.blk 0 (.loop (Q (Q (R [n 6 (mov 6 (v 0)), n 7 (bin 7 .gtr (v 6) (k 0))]) (F (v 7) .skip (.exit 0))) (.blk 1 (Q (R [n 8 (mov 8 (v 0)), n 9 (bin 9 .rem (v 8) (k 10)), n 10 (bin 10 .add (k 48) (v 9)), n 11 (conv 11 .u8 (v 10)), n 12 (bsl 12 1 [v 11]), n 13 (b2s 13 (v 12)), n 14 (mov 14 (v 3)), n 15 (bin 15 .add (v 13) (v 14)), n 3 (asg 3 (v 15))]) (R [n 16 (mov 16 (v 0)), n 17 (bin 17 .quo (v 16) (k 10)), n 0 (asg 0 (v 17))])))))) (Q (R [n 18 (mov 18 (v 3)), n 19 (bin 19 .add (.c (.str [109])) (v 18)), n 2 (asg 2 (v 19))]) .ret))))
def c_L_markInodeS : Cmd := Q (R [n 4 (asg 4 (k 0))]) (Q (Q (R [n 5 (asg 5 (k 0))]) (.blk 0 (.loop (Q (Q (R [n 6 (mov 6 (v 5)), n 7 (mov 7 (v 0)), n 8 (len 8 (v 7)), n 9 (bin 9 .lss (v 6) (v 8))]) (F (v 9) .skip (.exit 0))) (Q (.blk 1 (Q (R [n 12 (mov 12 (v 0)), n 13 (mov 13 (v 5)), n 14 (mov 14 (v 1)), n 15 (idx 15 (v 12) (v 13) 6), n 16 (fld 16 (v 15) 0), m (st (v 16) (v 14) 1)]) (Q (R [n 17 (mov 17 (v 1)), n 18 (bin 18 .add (v 17) (k 1)), n 1 (asg 1 (v 18))]) (Q (R [n 19 (mov 19 (v 0)), n 20 (mov 20 (v 5)), n 21 (mov 21 (v 1)), n 22 (idx 22 (v 19) (v 20) 6), n 23 (fld 23 (v 22) 1), m (st (v 23) (v 21) 1)]) (Q (R [n 24 (mov 24 (v 1)), n 25 (bin 25 .add (v 24) (k 1)), n 1 (asg 1 (v 25))]) (Q (R [n 26 (mov 26 (v 0)), n 27 (mov 27 (v 5)), n 28 (mov 28 (v 1)), n 29 (idx 29 (v 26) (v 27) 6), n 30 (fld 30 (v 29) 2), m (st (v 30) (v 28) 1)]) (Q (R [n 31 (mov 31 (v 1)), n 32 (bin 32 .add (v 31) (k 1)), n 1 (asg 1 (v 32))]) (Q (R [n 33 (mov 33 (v 0)), n 34 (mov 34 (v 5)), n 35 (idx 35 (v 33) (v 34) 6), n 36 (fld 36 (v 35) 3), n 37 (ld 37 (v 36) 1 false), n 38 (mov 38 (v 1)), n 39 (call (some 39) 62 [v 37, v 38]), n 1 (asg 1 (v 39))]) (Q (R [n 40 (mov 40 (v 0)), n 41 (mov 41 (v 5)), n 42 (idx 42 (v 40) (v 41) 6), n 43 (fld 43 (v 42) 4), n 44 (ld 44 (v 43) 1 false), n 45 (mov 45 (v 1)), n 46 (call (some 46) 63 [v 44, v 45]), n 1 (asg 1 (v 46))]) (R [n 47 (mov 47 (v 0)), n 48 (mov 48 (v 5)), n 49 (idx 49 (v 47) (v 48) 6), n 50 (fld 50 (v 49) 5), n 51 (ld 51 (v 50) 1 false), n 52 (mov 52 (v 1)), n 53 (call (some 53) 64 [v 51, v 52]), n 1 (asg 1 (v 53))])))))))))) (R [n 10 (mov 10 (v 5)), n 11 (bin 11 .add (v 10) (k 1)), n 5 (asg 5 (v 11))])))))) (Q (R [n 54 (mov 54 (v 1)), n 4 (asg 4 (v 54))]) .ret))
def c_L_heldInodeS : Cmd := Q (R [n 4 (asg 4 (k 0))]) (Q (Q (R [n 5 (asg 5 (k 0))]) (.blk 0 (.loop (Q (Q (R [n 6 (mov 6 (v 5)), n 7 (mov 7 (v 0)), n 8 (len 8 (v 7)), n 9 (bin 9 .lss (v 6) (v 8))]) (F (v 9) .skip (.exit 0))) (Q (.blk 1 (Q (Q (R [n 12 (mov 12 (v 0)), n 13 (mov 13 (v 5)), n 14 (idx 14 (v 12) (v 13) 6), n 15 (fld 15 (v 14) 0), n 16 (ld 16 (v 15) 1 false), n 17 (mov 17 (v 1)), n 18 (bin 18 .neq (v 16) (v 17))]) (F (v 18) (Q (R [n 4 (asg 4 (k (-1)))]) .ret) .skip)) (Q (R [n 19 (mov 19 (v 1)), n 20 (bin 20 .add (v 19) (k 1)), n 1 (asg 1 (v 20))]) (Q (Q (R [n 21 (mov 21 (v 0)), n 22 (mov 22 (v 5)), n 23 (idx 23 (v 21) (v 22) 6), n 24 (fld 24 (v 23) 1), n 25 (ld 25 (v 24) 1 false), n 26 (mov 26 (v 1)), n 27 (bin 27 .neq (v 25) (v 26))]) (F (v 27) (Q (R [n 4 (asg 4 (k (-1)))]) .ret) .skip)) (Q (R [n 28 (mov 28 (v 1)), n 29 (bin 29 .add (v 28) (k 1)), n 1 (asg 1 (v 29))]) (Q (Q (R [n 30 (mov 30 (v 0)), n 31 (mov 31 (v 5)), n 32 (idx 32 (v 30) (v 31) 6), n 33 (fld 33 (v 32) 2), n 34 (ld 34 (v 33) 1 false), n 35 (mov 35 (v 1)), n 36 (bin 36 .neq (v 34) (v 35))]) (F (v 36) (Q (R [n 4 (asg 4 (k (-1)))]) .ret) .skip)) (Q (R [n 37 (mov 37 (v 1)), n 38 (bin 38 .add (v 37) (k 1)), n 1 (asg 1 (v 38))]) (Q (R [n 39 (mov 39 (v 0)), n 40 (mov 40 (v 5)), n 41 (idx 41 (v 39) (v 40) 6), n 42 (fld 42 (v 41) 3), n 43 (ld 43 (v 42) 1 false), n 44 (mov 44 (v 1)), n 45 (call (some 45) 65 [v 43, v 44]), n 1 (asg 1 (v 45))]) (Q (Q (R [n 46 (mov 46 (v 1)), n 47 (bin 47 .lss (v 46) (k 0))]) (F (v 47) (Q (R [n 4 (asg 4 (k (-1)))]) .ret) .skip)) (Q (R [n 48 (mov 48 (v 0)), n 49 (mov 49 (v 5)), n 50 (idx 50 (v 48) (v 49) 6), n 51 (fld 51 (v 50) 4), n 52 (ld 52 (v 51) 1 false), n 53 (mov 53 (v 1)), n 54 (call (some 54) 66 [v 52, v 53]), n 1 (asg 1 (v 54))]) (Q (Q (R [n 55 (mov 55 (v 1)), n 56 (bin 56 .lss (v 55) (k 0))]) (F (v 56) (Q (R [n 4 (asg 4 (k (-1)))]) .ret) .skip)) (Q (R [n 57 (mov 57 (v 0)), n 58 (mov 58 (v 5)), n 59 (idx 59 (v 57) (v 58) 6), n 60 (fld 60 (v 59) 5), n 61 (ld 61 (v 60) 1 false), n 62 (mov 62 (v 1)), n 63 (call (some 63) 67 [v 61, v 62]), n 1 (asg 1 (v 63))]) (Q (R [n 64 (mov 64 (v 1)), n 65 (bin 65 .lss (v 64) (k 0))]) (F (v 65) (Q (R [n 4 (asg 4 (k (-1)))]) .ret) .skip)))))))))))))) (R [n 10 (mov 10 (v 5)), n 11 (bin 11 .add (v 10) (k 1)), n 5 (asg 5 (v 11))])))))) (Q (R [n 66 (mov 66 (v 1)), n 4 (asg 4 (v 66))]) .ret))
def c_L_eqTab : Cmd := Q (R [n 2 (box 2 (v 0)), n 3 (box 3 (v 1)), n 4 (asg 4 k0)]) (Q (Q (R [n 5 (fld 5 (v 2) 0), n 6 (ld 6 (v 5) 1 false), n 7 (fld 7 (v 3) 0), n 8 (ld 8 (v 7) 1 false), n 9 (call (some 9) 82 [v 6, v 8]), n 10 (un 10 .not (v 9))]) (F (v 10) (Q (R [n 4 (asg 4 k0)]) .ret) .skip)) (Q (Q (R [n 11 (fld 11 (v 2) 1), n 12 (ld 12 (v 11) 1 false), n 13 (fld 13 (v 3) 1), n 14 (ld 14 (v 13) 1 false), n 15 (bin 15 .neq (v 12) (v 14))]) (F (v 15) (Q (R [n 4 (asg 4 k0)]) .ret) .skip)) (Q (R [n 4 (asg 4 k1)]) .ret)))
def c_L_markByteS : Cmd := Q (R [n 4 (asg 4 (k 0))]) (Q (Q (R [n 5 (asg 5 (k 0))]) (.blk 0 (.loop (Q (Q (R [n 6 (mov 6 (v 5)), n 7 (mov 7 (v 0)), n 8 (len 8 (v 7)), n 9 (bin 9 .lss (v 6) (v 8))]) (F (v 9) .skip (.exit 0))) (Q (.blk 1 (Q (R [n 12 (mov 12 (v 0)), n 13 (mov 13 (v 5)), n 14 (mov 14 (v 1)), n 15 (conv 15 .u8 (v 14)), n 16 (idx 16 (v 12) (v 13) 1), m (st (v 16) (v 15) 1)]) (R [n 17 (mov 17 (v 1)), n 18 (bin 18 .add (v 17) (k 1)), n 1 (asg 1 (v 18))]))) (R [n 10 (mov 10 (v 5)), n 11 (bin 11 .add (v 10) (k 1)), n 5 (asg 5 (v 11))])))))) (Q (R [n 19 (mov 19 (v 1)), n 4 (asg 4 (v 19))]) .ret))
def c_L_markEntS : Cmd := Q (R [n 4 (asg 4 (k 0))]) (Q (Q (R [n 5 (asg 5 (k 0))]) (.blk 0 (.loop (Q (Q (R [n 6 (mov 6 (v 5)), n 7 (mov 7 (v 0)), n 8 (len 8 (v 7)), n 9 (bin 9 .lss (v 6) (v 8))]) (F (v 9) .skip (.exit 0))) (Q (.blk 1 (Q (R [n 12 (mov 12 (v 0)), n 13 (mov 13 (v 5)), n 14 (mov 14 (v 1)), n 15 (call (some 15) 45 [v 14]), n 16 (idx 16 (v 12) (v 13) 2), n 17 (fld 17 (v 16) 0), m (st (v 17) (v 15) 1)]) (Q (R [n 18 (mov 18 (v 1)), n 19 (bin 19 .add (v 18) (k 1)), n 1 (asg 1 (v 19))]) (Q (R [n 20 (mov 20 (v 0)), n 21 (mov 21 (v 5)), n 22 (mov 22 (v 1)), n 23 (idx 23 (v 20) (v 21) 2), n 24 (fld 24 (v 23) 1), m (st (v 24) (v 22) 1)]) (R [n 25 (mov 25 (v 1)), n 26 (bin 26 .add (v 25) (k 1)), n 1 (asg 1 (v 26))]))))) (R [n 10 (mov 10 (v 5)), n 11 (bin 11 .add (v 10) (k 1)), n 5 (asg 5 (v 11))])))))) (Q (R [n 27 (mov 27 (v 1)), n 4 (asg 4 (v 27))]) .ret))
def c_L_markAttrS : Cmd := Q (R [n 4 (asg 4 (k 0))]) (Q (Q (R [n 5 (asg 5 (k 0))]) (.blk 0 (.loop (Q (Q (R [n 6 (mov 6 (v 5)), n 7 (mov 7 (v 0)), n 8 (len 8 (v 7)), n 9 (bin 9 .lss (v 6) (v 8))]) (F (v 9) .skip (.exit 0))) (Q (.blk 1 (Q (R [n 12 (mov 12 (v 0)), n 13 (mov 13 (v 5)), n 14 (mov 14 (v 1)), n 15 (call (some 15) 45 [v 14]), n 16 (idx 16 (v 12) (v 13) 2), n 17 (fld 17 (v 16) 0), m (st (v 17) (v 15) 1)]) (Q (R [n 18 (mov 18 (v 1)), n 19 (bin 19 .add (v 18) (k 1)), n 1 (asg 1 (v 19))]) (Q (R [n 20 (mov 20 (v 0)), n 21 (mov 21 (v 5)), n 22 (mov 22 (v 1)), n 23 (call (some 23) 45 [v 22]), n 24 (idx 24 (v 20) (v 21) 2), n 25 (fld 25 (v 24) 1), m (st (v 25) (v 23) 1)]) (R [n 26 (mov 26 (v 1)), n 27 (bin 27 .add (v 26) (k 1)), n 1 (asg 1 (v 27))]))))) (R [n 10 (mov 10 (v 5)), n 11 (bin 11 .add (v 10) (k 1)), n 5 (asg 5 (v 11))])))))) (Q (R [n 28 (mov 28 (v 1)), n 4 (asg 4 (v 28))]) .ret))
def c_L_heldByteS : Cmd := Q (R [n 4 (asg 4 (k 0))]) (Q (Q (R [n 5 (asg 5 (k 0))]) (.blk 0 (.loop (Q (Q (R [n 6 (mov 6 (v 5)), n 7 (mov 7 (v 0)), n 8 (len 8 (v 7)), n 9 (bin 9 .lss (v 6) (v 8))]) (F (v 9) .skip (.exit 0))) (Q (.blk 1 (Q (Q (R [n 12 (mov 12 (v 0)), n 13 (mov 13 (v 5)), n 14 (idx 14 (v 12) (v 13) 1), n 15 (ld 15 (v 14) 1 false), n 16 (mov 16 (v 1)), n 17 (conv 17 .u8 (v 16)), n 18 (bin 18 .neq (v 15) (v 17))]) (F (v 18) (Q (R [n 4 (asg 4 (k (-1)))]) .ret) .skip)) (R [n 19 (mov 19 (v 1)), n 20 (bin 20 .add (v 19) (k 1)), n 1 (asg 1 (v 20))]))) (R [n 10 (mov 10 (v 5)), n 11 (bin 11 .add (v 10) (k 1)), n 5 (asg 5 (v 11))])))))) (Q (R [n 21 (mov 21 (v 1)), n 4 (asg 4 (v 21))]) .ret))
def c_L_heldEntS : Cmd := Q (R [n 4 (asg 4 (k 0))]) (Q (Q (R [n 5 (asg 5 (k 0))]) (.blk 0 (.loop (Q (Q (R [n 6 (mov 6 (v 5)), n 7 (mov 7 (v 0)), n 8 (len 8 (v 7)), n 9 (bin 9 .lss (v 6) (v 8))]) (F (v 9) .skip (.exit 0))) (Q (.blk 1 (Q (Q (D [0, 0, 3, 7, 15, 0, 32, 127] [n 12 (mov 12 (v 0)), n 13 (mov 13 (v 5)), n 14 (idx 14 (v 12) (v 13) 2), n 15 (fld 15 (v 14) 0), n 16 (ld 16 (v 15) 1 false), n 17 (mov 17 (v 1)), n 18 (call (some 18) 45 [v 17]), n 19 (bin 19 .neq (v 16) (v 18))]) (F (v 19) (Q (R [n 4 (asg 4 (k (-1)))]) .ret) .skip)) (Q (R [n 20 (mov 20 (v 1)), n 21 (bin 21 .add (v 20) (k 1)), n 1 (asg 1 (v 21))]) (Q (Q (R [n 22 (mov 22 (v 0)), n 23 (mov 23 (v 5)), n 24 (idx 24 (v 22) (v 23) 2), n 25 (fld 25 (v 24) 1), n 26 (ld 26 (v 25) 1 false), n 27 (mov 27 (v 1)), n 28 (bin 28 .neq (v 26) (v 27))]) (F (v 28) (Q (R [n 4 (asg 4 (k (-1)))]) .ret) .skip)) (R [n 29 (mov 29 (v 1)), n 30 (bin 30 .add (v 29) (k 1)), n 1 (asg 1 (v 30))]))))) (R [n 10 (mov 10 (v 5)), n 11 (bin 11 .add (v 10) (k 1)), n 5 (asg 5 (v 11))])))))) (Q (R [n 31 (mov 31 (v 1)), n 4 (asg 4 (v 31))]) .ret))
def c_L_heldAttrS : Cmd := Q (R [n 4 (asg 4 (k 0))]) (Q (Q (R [n 5 (asg 5 (k 0))]) (.blk 0 (.loop (Q (Q (R [n 6 (mov 6 (v 5)), n 7 (mov 7 (v 0)), n 8 (len 8 (v 7)), n 9 (bin 9 .lss (v 6) (v 8))]) (F (v 9) .skip (.exit 0))) (Q (.blk 1 (Q (Q (D [0, 0, 3, 7, 15, 0, 32, 127] [n 12 (mov 12 (v 0)), n 13 (mov 13 (v 5)), n 14 (idx 14 (v 12) (v 13) 2), n 15 (fld 15 (v 14) 0), n 16 (ld 16 (v 15) 1 false), n 17 (mov 17 (v 1)), n 18 (call (some 18) 45 [v 17]), n 19 (bin 19 .neq (v 16) (v 18))]) (F (v 19) (Q (R [n 4 (asg 4 (k (-1)))]) .ret) .skip)) (Q (R [n 20 (mov 20 (v 1)), n 21 (bin 21 .add (v 20) (k 1)), n 1 (asg 1 (v 21))]) (Q (Q (D [0, 0, 3, 7, 15, 0, 32, 127] [n 22 (mov 22 (v 0)), n 23 (mov 23 (v 5)), n 24 (idx 24 (v 22) (v 23) 2), n 25 (fld 25 (v 24) 1), n 26 (ld 26 (v 25) 1 false), n 27 (mov 27 (v 1)), n 28 (call (some 28) 45 [v 27]), n 29 (bin 29 .neq (v 26) (v 28))]) (F (v 29) (Q (R [n 4 (asg 4 (k (-1)))]) .ret) .skip)) (R [n 30 (mov 30 (v 1)), n 31 (bin 31 .add (v 30) (k 1)), n 1 (asg 1 (v 31))]))))) (R [n 10 (mov 10 (v 5)), n 11 (bin 11 .add (v 10) (k 1)), n 5 (asg 5 (v 11))])))))) (Q (R [n 32 (mov 32 (v 1)), n 4 (asg 4 (v 32))]) .ret))
def c_L_eqInodeS : Cmd := Q (R [n 4 (asg 4 k0)]) (Q (Q (R [n 6 (mov 6 (v 0)), n 7 (len 7 (v 6)), n 8 (mov 8 (v 1)), n 9 (len 9 (v 8)), n 10 (bin 10 .neq (v 7) (v 9))]) (F (v 10) (Q (R [n 4 (asg 4 k0)]) .ret) .skip)) (Q (Q (R [n 5 (asg 5 (k 0))]) (.blk 0 (.loop (Q (Q (R [n 11 (mov 11 (v 5)), n 12 (mov 12 (v 0)), n 13 (len 13 (v 12)), n 14 (bin 14 .lss (v 11) (v 13))]) (F (v 14) .skip (.exit 0))) (Q (.blk 1 (Q (D [0, 0, 3, 7, 0, 0, 48, 112, 255, 511] [n 17 (mov 17 (v 0)), n 18 (mov 18 (v 5)), n 19 (idx 19 (v 17) (v 18) 6), n 20 (ld 20 (v 19) 6 true), n 21 (mov 21 (v 1)), n 22 (mov 22 (v 5)), n 23 (idx 23 (v 21) (v 22) 6), n 24 (ld 24 (v 23) 6 true), n 25 (call (some 25) 94 [v 20, v 24]), n 26 (un 26 .not (v 25))]) (F (v 26) (Q (R [n 4 (asg 4 k0)]) .ret) .skip))) (R [n 15 (mov 15 (v 5)), n 16 (bin 16 .add (v 15) (k 1)), n 5 (asg 5 (v 16))])))))) (Q (R [n 4 (asg 4 k1)]) .ret)))
def c_L_eqInode : Cmd := Q (R [n 2 (box 2 (v 0)), n 3 (box 3 (v 1)), n 4 (asg 4 k0)]) (Q (Q (R [n 5 (fld 5 (v 2) 0), n 6 (ld 6 (v 5) 1 false), n 7 (fld 7 (v 3) 0), n 8 (ld 8 (v 7) 1 false), n 9 (bin 9 .neq (v 6) (v 8))]) (F (v 9) (Q (R [n 4 (asg 4 k0)]) .ret) .skip)) (Q (Q (R [n 10 (fld 10 (v 2) 1), n 11 (ld 11 (v 10) 1 false), n 12 (fld 12 (v 3) 1), n 13 (ld 13 (v 12) 1 false), n 14 (bin 14 .neq (v 11) (v 13))]) (F (v 14) (Q (R [n 4 (asg 4 k0)]) .ret) .skip)) (Q (Q (R [n 15 (fld 15 (v 2) 2), n 16 (ld 16 (v 15) 1 false), n 17 (fld 17 (v 3) 2), n 18 (ld 18 (v 17) 1 false), n 19 (bin 19 .neq (v 16) (v 18))]) (F (v 19) (Q (R [n 4 (asg 4 k0)]) .ret) .skip)) (Q (Q (R [n 20 (fld 20 (v 2) 3), n 21 (ld 21 (v 20) 1 false), n 22 (fld 22 (v 3) 3), n 23 (ld 23 (v 22) 1 false), n 24 (call (some 24) 113 [v 21, v 23]), n 25 (un 25 .not (v 24))]) (F (v 25) (Q (R [n 4 (asg 4 k0)]) .ret) .skip)) (Q (Q (R [n 26 (fld 26 (v 2) 4), n 27 (ld 27 (v 26) 1 false), n 28 (fld 28 (v 3) 4), n 29 (ld 29 (v 28) 1 false), n 30 (call (some 30) 114 [v 27, v 29]), n 31 (un 31 .not (v 30))]) (F (v 31) (Q (R [n 4 (asg 4 k0)]) .ret) .skip)) (Q (Q (R [n 32 (fld 32 (v 2) 5), n 33 (ld 33 (v 32) 1 false), n 34 (fld 34 (v 3) 5), n 35 (ld 35 (v 34) 1 false), n 36 (call (some 36) 115 [v 33, v 35]), n 37 (un 37 .not (v 36))]) (F (v 37) (Q (R [n 4 (asg 4 k0)]) .ret) .skip)) (Q (R [n 4 (asg 4 k1)]) .ret)))))))
def c_L_eqByteS : Cmd := Q (R [n 4 (asg 4 k0)]) (Q (Q (R [n 6 (mov 6 (v 0)), n 7 (len 7 (v 6)), n 8 (mov 8 (v 1)), n 9 (len 9 (v 8)), n 10 (bin 10 .neq (v 7) (v 9))]) (F (v 10) (Q (R [n 4 (asg 4 k0)]) .ret) .skip)) (Q (Q (R [n 5 (asg 5 (k 0))]) (.blk 0 (.loop (Q (Q (R [n 11 (mov 11 (v 5)), n 12 (mov 12 (v 0)), n 13 (len 13 (v 12)), n 14 (bin 14 .lss (v 11) (v 13))]) (F (v 14) .skip (.exit 0))) (Q (.blk 1 (Q (D [0, 0, 3, 7, 0, 0, 48, 112, 255] [n 17 (mov 17 (v 0)), n 18 (mov 18 (v 5)), n 19 (idx 19 (v 17) (v 18) 1), n 20 (ld 20 (v 19) 1 false), n 21 (mov 21 (v 1)), n 22 (mov 22 (v 5)), n 23 (idx 23 (v 21) (v 22) 1), n 24 (ld 24 (v 23) 1 false), n 25 (bin 25 .neq (v 20) (v 24))]) (F (v 25) (Q (R [n 4 (asg 4 k0)]) .ret) .skip))) (R [n 15 (mov 15 (v 5)), n 16 (bin 16 .add (v 15) (k 1)), n 5 (asg 5 (v 16))])))))) (Q (R [n 4 (asg 4 k1)]) .ret)))
def c_L_eqEntS : Cmd := Q (R [n 4 (asg 4 k0)]) (Q (Q (R [n 6 (mov 6 (v 0)), n 7 (len 7 (v 6)), n 8 (mov 8 (v 1)), n 9 (len 9 (v 8)), n 10 (bin 10 .neq (v 7) (v 9))]) (F (v 10) (Q (R [n 4 (asg 4 k0)]) .ret) .skip)) (Q (Q (R [n 5 (asg 5 (k 0))]) (.blk 0 (.loop (Q (Q (R [n 11 (mov 11 (v 5)), n 12 (mov 12 (v 0)), n 13 (len 13 (v 12)), n 14 (bin 14 .lss (v 11) (v 13))]) (F (v 14) .skip (.exit 0))) (Q (.blk 1 (Q (D [0, 0, 3, 7, 0, 0, 48, 112, 255, 511] [n 17 (mov 17 (v 0)), n 18 (mov 18 (v 5)), n 19 (idx 19 (v 17) (v 18) 2), n 20 (ld 20 (v 19) 2 true), n 21 (mov 21 (v 1)), n 22 (mov 22 (v 5)), n 23 (idx 23 (v 21) (v 22) 2), n 24 (ld 24 (v 23) 2 true), n 25 (call (some 25) 128 [v 20, v 24]), n 26 (un 26 .not (v 25))]) (F (v 26) (Q (R [n 4 (asg 4 k0)]) .ret) .skip))) (R [n 15 (mov 15 (v 5)), n 16 (bin 16 .add (v 15) (k 1)), n 5 (asg 5 (v 16))])))))) (Q (R [n 4 (asg 4 k1)]) .ret)))
def c_L_eqAttrS : Cmd := Q (R [n 4 (asg 4 k0)]) (Q (Q (R [n 6 (mov 6 (v 0)), n 7 (len 7 (v 6)), n 8 (mov 8 (v 1)), n 9 (len 9 (v 8)), n 10 (bin 10 .neq (v 7) (v 9))]) (F (v 10) (Q (R [n 4 (asg 4 k0)]) .ret) .skip)) (Q (Q (R [n 5 (asg 5 (k 0))]) (.blk 0 (.loop (Q (Q (R [n 11 (mov 11 (v 5)), n 12 (mov 12 (v 0)), n 13 (len 13 (v 12)), n 14 (bin 14 .lss (v 11) (v 13))]) (F (v 14) .skip (.exit 0))) (Q (.blk 1 (Q (D [0, 0, 3, 7, 0, 0, 48, 112, 255, 511] [n 17 (mov 17 (v 0)), n 18 (mov 18 (v 5)), n 19 (idx 19 (v 17) (v 18) 2), n 20 (ld 20 (v 19) 2 true), n 21 (mov 21 (v 1)), n 22 (mov 22 (v 5)), n 23 (idx 23 (v 21) (v 22) 2), n 24 (ld 24 (v 23) 2 true), n 25 (call (some 25) 129 [v 20, v 24]), n 26 (un 26 .not (v 25))]) (F (v 26) (Q (R [n 4 (asg 4 k0)]) .ret) .skip))) (R [n 15 (mov 15 (v 5)), n 16 (bin 16 .add (v 15) (k 1)), n 5 (asg 5 (v 16))])))))) (Q (R [n 4 (asg 4 k1)]) .ret)))
def c_L_eqEnt : Cmd := Q (R [n 2 (box 2 (v 0)), n 3 (box 3 (v 1)), n 4 (asg 4 k0)]) (Q (Q (R [n 5 (fld 5 (v 2) 0), n 6 (ld 6 (v 5) 1 false), n 7 (fld 7 (v 3) 0), n 8 (ld 8 (v 7) 1 false), n 9 (bin 9 .neq (v 6) (v 8))]) (F (v 9) (Q (R [n 4 (asg 4 k0)]) .ret) .skip)) (Q (Q (R [n 10 (fld 10 (v 2) 1), n 11 (ld 11 (v 10) 1 false), n 12 (fld 12 (v 3) 1), n 13 (ld 13 (v 12) 1 false), n 14 (bin 14 .neq (v 11) (v 13))]) (F (v 14) (Q (R [n 4 (asg 4 k0)]) .ret) .skip)) (Q (R [n 4 (asg 4 k1)]) .ret)))
def c_L_eqAttr : Cmd := Q (R [n 2 (box 2 (v 0)), n 3 (box 3 (v 1)), n 4 (asg 4 k0)]) (Q (Q (R [n 5 (fld 5 (v 2) 0), n 6 (ld 6 (v 5) 1 false), n 7 (fld 7 (v 3) 0), n 8 (ld 8 (v 7) 1 false), n 9 (bin 9 .neq (v 6) (v 8))]) (F (v 9) (Q (R [n 4 (asg 4 k0)]) .ret) .skip)) (Q (Q (R [n 10 (fld 10 (v 2) 1), n 11 (ld 11 (v 10) 1 false), n 12 (fld 12 (v 3) 1), n 13 (ld 13 (v 12) 1 false), n 14 (bin 14 .neq (v 11) (v 13))]) (F (v 14) (Q (R [n 4 (asg 4 k0)]) .ret) .skip)) (Q (R [n 4 (asg 4 k1)]) .ret)))
end Go.Proofs.Ytjmnolhflcjpgaa.Awp

namespace Go.Proofs.Ytjmnolhflcjpgaa.Awp
open Go.Proofs

theorem hmx : Try.prog.follows .mixedOrders = true := by kernel_rfl
theorem p_L_FnExactFsNew : compile Try.prog 3 = some (36, [.t 0], c_L_FnExactFsNew) := by kernel_rfl
theorem p_S_FsNew : compile Try.prog 8 = some (2, [.c 0 2 true], c_S_FsNew) := by kernel_rfl
theorem p_I_FsNew : compile Try.prog 9 = some (2, [.c 0 2 true], c_I_FsNew) := by kernel_rfl
theorem p_L_eqFs : compile Try.prog 10 = some (16, [.t 4], c_L_eqFs) := by kernel_rfl
theorem p_L_markFs : compile Try.prog 11 = some (10, [.t 4], c_L_markFs) := by kernel_rfl
theorem p_L_heldFs : compile Try.prog 12 = some (12, [.t 4], c_L_heldFs) := by kernel_rfl
theorem p_L_eqVolS : compile Try.prog 23 = some (27, [.t 4], c_L_eqVolS) := by kernel_rfl
theorem p_L_markVolS : compile Try.prog 24 = some (60, [.t 4], c_L_markVolS) := by kernel_rfl
theorem p_L_heldVolS : compile Try.prog 25 = some (72, [.t 4], c_L_heldVolS) := by kernel_rfl
theorem p_L_eqVol : compile Try.prog 44 = some (31, [.t 4], c_L_eqVol) := by kernel_rfl
theorem p_L_markText : compile Try.prog 45 = some (20, [.t 2], c_L_markText) := by kernel_rfl
theorem p_L_markInodeS : compile Try.prog 46 = some (55, [.t 4], c_L_markInodeS) := by kernel_rfl
theorem p_L_heldInodeS : compile Try.prog 47 = some (67, [.t 4], c_L_heldInodeS) := by kernel_rfl
theorem p_L_eqTab : compile Try.prog 61 = some (16, [.t 4], c_L_eqTab) := by kernel_rfl
theorem p_L_markByteS : compile Try.prog 62 = some (20, [.t 4], c_L_markByteS) := by kernel_rfl
theorem p_L_markEntS : compile Try.prog 63 = some (28, [.t 4], c_L_markEntS) := by kernel_rfl
theorem p_L_markAttrS : compile Try.prog 64 = some (29, [.t 4], c_L_markAttrS) := by kernel_rfl
theorem p_L_heldByteS : compile Try.prog 65 = some (22, [.t 4], c_L_heldByteS) := by kernel_rfl
theorem p_L_heldEntS : compile Try.prog 66 = some (32, [.t 4], c_L_heldEntS) := by kernel_rfl
theorem p_L_heldAttrS : compile Try.prog 67 = some (33, [.t 4], c_L_heldAttrS) := by kernel_rfl
theorem p_L_eqInodeS : compile Try.prog 82 = some (27, [.t 4], c_L_eqInodeS) := by kernel_rfl
theorem p_L_eqInode : compile Try.prog 94 = some (38, [.t 4], c_L_eqInode) := by kernel_rfl
theorem p_L_eqByteS : compile Try.prog 113 = some (26, [.t 4], c_L_eqByteS) := by kernel_rfl
theorem p_L_eqEntS : compile Try.prog 114 = some (27, [.t 4], c_L_eqEntS) := by kernel_rfl
theorem p_L_eqAttrS : compile Try.prog 115 = some (27, [.t 4], c_L_eqAttrS) := by kernel_rfl
theorem p_L_eqEnt : compile Try.prog 128 = some (15, [.t 4], c_L_eqEnt) := by kernel_rfl
theorem p_L_eqAttr : compile Try.prog 129 = some (15, [.t 4], c_L_eqAttr) := by kernel_rfl
end Go.Proofs.Ytjmnolhflcjpgaa.Awp

namespace Go.Proofs.Ytjmnolhflcjpgaa.Awp
set_option linter.unusedVariables false

/-! ### what goes on behind a bind is left alone till its first part is known -/
@[congr] theorem bind_congr_l {α β : Type} {a b : Option α} {f : α → Option β} (h : a = b) : a.bind f = b.bind f := by rw [h]
@[congr] theorem map_congr_l {α β : Type} {a b : Option α} {f : α → β} (h : a = b) : a.map f = b.map f := by rw [h]

/-- are the places of an argument's parts empty? -/
def allU (E : Env) : List Plc → Bool
  | [] => true
  | (_, _, r, p) :: l => isU (aget (E.f r) p) && allU E l
theorem allU_eq (E : Env) : ∀ l : List Plc, allU E l = l.all (fun q => isU (aget (E.f q.2.2.1) q.2.2.2)) := by
  intro l
  induction l with
  | nil => rfl
  | cons q l ih => obtain ⟨k, j, r, p⟩ := q; simp [allU, ih]
theorem SBK2 : ∀ (E : Env) (q : Plc) (pls : List Plc) (outs : List AV), backA E none (q :: pls) outs = if allU E (q :: pls) = true then backP E outs (q :: pls) else none := by
  intro E q pls outs
  rw [allU_eq]; rfl
theorem SAU : (∀ E : Env, allU E [] = true) ∧ (∀ (E : Env) (k : Nat) (j : Option Nat) (r : Nat) (p : Path) (l : List Plc), allU E ((k, j, r, p) :: l) = (isU (aget (E.f r) p) && allU E l)) := ⟨fun _ => rfl, fun _ _ _ _ _ _ => rfl⟩
theorem SBK : ∀ (E : Env) (outs : List AV), backA E none [] outs = backP E outs [] := by
  intro E outs
  simp [backA]

/-! ### the program's values -/
abbrev Bytes := List UInt8
theorem sum_mem {α : Type} {f : α → Nat} {l : List α} {x : α} (h : x ∈ l) : f x ≤ (l.map f).sum := by
  induction l with
  | nil => simp at h
  | cons y l ih =>
    rcases List.mem_cons.1 h with rfl | h
    · simp
    · have := ih h; simp; omega
theorem getE {α : Type} {l : List α} {i : Nat} (h : (i : Int) < (l.length : Nat)) : l[i]? = some (l[i]'(by omega)) := by simp
theorem sum_get {α : Type} (f : α → Nat) {l : List α} {i : Nat} (h : i < l.length) : f l[i] ≤ (l.map f).sum := sum_mem (List.getElem_mem h)
theorem sum_take {α : Type} (f : α → Nat) (l : List α) (i : Nat) (h : i < l.length) : ((l.take (i + 1)).map f).sum = ((l.take i).map f).sum + f l[i] := by
  rw [List.take_succ_eq_append_getElem h, List.map_append, List.sum_append]
  simp only [List.map_cons, List.map_nil, List.sum_cons, List.sum_nil, Nat.add_zero]
theorem sum_take_le {α : Type} (f : α → Nat) (l : List α) (i : Nat) : ((l.take i).map f).sum ≤ (l.map f).sum := by
  conv => rhs; rw [← List.take_append_drop i l, List.map_append, List.sum_append]
  omega
theorem take_eq_succ {α : Type} {a b : List α} {i : Nat} (h : a.take i = b.take i) (h1 : i < a.length) (h2 : i < b.length) (e : a[i] = b[i]) : a.take (i + 1) = b.take (i + 1) := by
  rw [List.take_succ_eq_append_getElem h1, List.take_succ_eq_append_getElem h2, h, e]
theorem take_all {α : Type} {a b : List α} {i : Nat} (h : a.take i = b.take i) (h1 : a.length ≤ i) (h2 : b.length ≤ i) : a = b := by
  rwa [List.take_of_length_le h1, List.take_of_length_le h2] at h

/-! ### rows that are filled, or marked, one by one -/
def mixM {α β : Type} (f : α → Int → β) (g : α → β) (c : α → Nat) : List α → Int → Nat → List β
  | [], _, _ => []
  | x :: l, _, 0 => g x :: l.map g
  | x :: l, k, i + 1 => f x k :: mixM f g c l (k + c x) i
def markL {α β : Type} (f : α → Int → β) (c : α → Nat) : List α → Int → List β
  | [], _ => []
  | x :: l, k => f x k :: markL f c l (k + c x)
section
variable {α β γ : Type} (f : α → Int → β) (g : α → β) (c : α → Nat)
theorem mixM_0 (l : List α) (k : Int) : mixM f g c l k 0 = l.map g := by cases l <;> rfl
theorem mixM_len : ∀ (l : List α) (k : Int) (i : Nat), (mixM f g c l k i).length = l.length := by
  intro l
  induction l with
  | nil => intro k i; rfl
  | cons x l ih => intro k i; cases i <;> simp [mixM, ih]
theorem mixM_all : ∀ (l : List α) (k : Int) (i : Nat), l.length ≤ i → mixM f g c l k i = markL f c l k := by
  intro l
  induction l with
  | nil => intro k i h; rfl
  | cons x l ih =>
    intro k i h
    cases i with
    | zero => simp at h
    | succ i => simp only [mixM, markL]; rw [ih _ _ (by simpa using h)]
theorem mixM_get : ∀ (l : List α) (k : Int) (i : Nat), (mixM f g c l k i)[i]? = (l[i]?).map g := by
  intro l
  induction l with
  | nil => intro k i; simp [mixM]
  | cons x l ih => intro k i; cases i <;> simp [mixM, ih]
theorem mixM_set : ∀ (l : List α) (k : Int) (i : Nat) (hi : i < l.length) (h : β → β) (e : h (g l[i]) = f l[i] (k + ((l.take i).map c).sum)), (mixM f g c l k i).modify i h = mixM f g c l k (i + 1) := by
  intro l
  induction l with
  | nil => intro k i hi; simp at hi
  | cons x l ih =>
    intro k i hi h e
    cases i with
    | zero => simp only [mixM, List.modify_zero_cons]; simp at e; rw [e, mixM_0]
    | succ i =>
      simp only [mixM, List.modify_succ_cons]
      rw [ih _ i (by simpa using hi) h]
      simp only [List.getElem_cons_succ, List.take_succ_cons, List.map_cons, List.sum_cons] at e
      rw [e]; congr 1; omega
theorem markL_len : ∀ (l : List α) (k : Int), (markL f c l k).length = l.length := by
  intro l
  induction l with
  | nil => intro k; rfl
  | cons x l ih => intro k; simp [markL, ih]
theorem markL_get : ∀ (l : List α) (k : Int) (i : Nat), (markL f c l k)[i]? = (l[i]?).map fun x => f x (k + ((l.take i).map c).sum) := by
  intro l
  induction l with
  | nil => intro k i; simp [markL]
  | cons x l ih =>
    intro k i
    cases i with
    | zero => simp [markL]
    | succ i =>
      simp only [markL, List.getElem?_cons_succ, ih, List.take_succ_cons, List.map_cons, List.sum_cons]
      congr 1; funext y; congr 1; omega
theorem markL_map (r : β → γ) : ∀ (l : List α) (k : Int), (markL f c l k).map r = markL (fun x k => r (f x k)) c l k := by
  intro l
  induction l with
  | nil => intro k; rfl
  | cons x l ih => intro k; simp [markL, ih]
end
/-- rows that are filled one by one -/
def fillR {α : Type} (f : α → List TV) (z : List TV) (l : List α) (i : Nat) : List (List TV) := mixM (fun x _ => f x) (fun _ => z) (fun _ => 0) l 0 i
theorem fillR_0 {α : Type} (f : α → List TV) (z : List TV) (l : List α) : fillR f z l 0 = List.replicate l.length z := by
  rw [fillR, mixM_0, List.map_const']
theorem fillR_all {α : Type} (f : α → List TV) (z : List TV) (l : List α) (i : Nat) (h : l.length ≤ i) : fillR f z l i = l.map f := by
  rw [fillR, mixM_all _ _ _ _ _ _ h]
  generalize (0 : Int) = k
  induction l generalizing k i with
  | nil => rfl
  | cons x l ih => simp only [markL, List.map_cons]; rw [ih l.length (by omega)]
theorem fillR_len {α : Type} (f : α → List TV) (z : List TV) (l : List α) (i : Nat) : (fillR f z l i).length = l.length := mixM_len ..
theorem fillR_set {α : Type} (f : α → List TV) (z : List TV) (l : List α) (i : Nat) (h : i < l.length) (g : List TV → List TV) (hg : g z = f l[i]) : (fillR f z l i).modify i g = fillR f z l (i + 1) :=
  mixM_set _ _ _ _ _ _ h _ hg
/-- rows that are marked one by one -/
def mixR {α : Type} (r : α → List TV) (f : α → Int → α) (c : α → Nat) (l : List α) (k : Int) (i : Nat) : List (List TV) := mixM (fun x k => r (f x k)) r c l k i
section
variable {α : Type} (r : α → List TV) (f : α → Int → α) (c : α → Nat)
theorem mixR_0 (l : List α) (k : Int) : mixR r f c l k 0 = l.map r := mixM_0 ..
theorem mixR_len (l : List α) (k : Int) (i : Nat) : (mixR r f c l k i).length = l.length := mixM_len ..
theorem mixR_get (l : List α) (k : Int) (i : Nat) : (mixR r f c l k i)[i]? = (l[i]?).map r := mixM_get ..
theorem mixR_all (l : List α) (k : Int) (i : Nat) (h : l.length ≤ i) : mixR r f c l k i = (markL f c l k).map r := by rw [mixR, mixM_all _ _ _ _ _ _ h, markL_map]
theorem mixR_set (l : List α) (k : Int) (i : Nat) (hi : i < l.length) (h : List TV → List TV) (e : h (r l[i]) = r (f l[i] (k + ((l.take i).map c).sum))) : (mixR r f c l k i).modify i h = mixR r f c l k (i + 1) :=
  mixM_set _ _ _ _ _ _ hi _ e
end
def byteRow (x : UInt8) : List TV := [.int .u8 x.toNat]
def markBy (b : Bytes) (k : Int) : Bytes := markL (fun _ k => UInt8.ofInt k) (fun _ => 1) b k
theorem sum_one {α : Type} (l : List α) : (l.map fun _ => 1).sum = l.length := by induction l with | nil => rfl | cons x l ih => simp [ih]; omega
theorem markBy_len (b : Bytes) (k : Int) : (markBy b k).length = b.length := markL_len ..
theorem markBy_get (b : Bytes) (k : Int) (i : Nat) : (markBy b k)[i]? = (b[i]?).map fun _ => UInt8.ofInt (k + i) := by
  rw [markBy, markL_get]
  by_cases h : i < b.length
  · simp only [sum_one, List.length_take, Nat.min_eq_left (Nat.le_of_lt h)]
  · rw [List.getElem?_eq_none (by omega)]; rfl
theorem wrap_ofInt (k : Int) : IntKind.u8.wrap k = ((UInt8.ofInt k).toNat : Int) := by
  have e : IntKind.u8.wrap k = k % 256 := by
    have h1 : ((2 : Int) ^ IntKind.u8.bits) = 256 := by decide
    unfold IntKind.wrap
    simp only [h1]
    simp [IntKind.signed]
  rw [e]
  simp [UInt8.ofInt]
  omega
theorem bytesR_row (b : Bytes) : bytesR b = b.map byteRow := rfl
theorem markBy_row (b : Bytes) (k : Int) (i : Nat) (h : b.length ≤ i) : mixR byteRow (fun _ k => UInt8.ofInt k) (fun _ => 1) b k i = bytesR (markBy b k) := mixR_all _ _ _ _ _ _ h
theorem SF : (∀ (α : Type) (f : α → List TV) (z : List TV) (l : List α) (i : Nat), (fillR f z l i).length = l.length) ∧
    (∀ (α : Type) (r : α → List TV) (f : α → Int → α) (c : α → Nat) (l : List α) (k : Int) (i : Nat), (mixR r f c l k i).length = l.length) ∧
    (∀ (α : Type) (r : α → List TV) (f : α → Int → α) (c : α → Nat) (l : List α) (k : Int) (i : Nat), (mixR r f c l k i)[i]? = (l[i]?).map r) ∧
    (∀ (α β : Type) (f : α → Int → β) (c : α → Nat) (l : List α) (k : Int), (markL f c l k).length = l.length) ∧
    (∀ (α β : Type) (f : α → Int → β) (c : α → Nat) (l : List α) (k : Int) (i : Nat), (markL f c l k)[i]? = (l[i]?).map fun x => f x (k + ((l.take i).map c).sum)) ∧
    (∀ (b : Bytes) (k : Int), (markBy b k).length = b.length) ∧ (∀ (b : Bytes) (k : Int) (i : Nat), (markBy b k)[i]? = (b[i]?).map fun _ => UInt8.ofInt (k + i)) ∧
    (∀ (α : Type) (l : List α) (i : Nat) (f g : α → α), (l.modify i f).modify i g = l.modify i (fun x => g (f x))) ∧ (∀ (α : Type) (l : List α) (i : Nat) (f : α → α), (l.modify i f)[i]? = (l[i]?).map f) ∧
    (∀ (α : Type) (l : List α) (i : Nat) (f : α → α), (l.modify i f).length = l.length) :=
  ⟨fun _ => fillR_len, fun _ => mixR_len, fun _ => mixR_get, fun _ _ => markL_len, fun _ _ => markL_get, markBy_len, markBy_get,
    fun _ l i f g => List.modify_modify_eq f g i l, fun _ l i f => by simp, fun _ l i f => by simp⟩
theorem flatR_bytes (b : Bytes) : flatR (bytesR b) = true := by
  simp [flatR, bytesR]
  intros; rfl
theorem knownR_bytes (b : Bytes) : knownR (bytesR b) = true := by
  simp [knownR, bytesR]
  intros; rfl
theorem rowsBytes_R (b : Bytes) : rowsBytes (bytesR b) = some b := by
  induction b with
  | nil => rfl
  | cons x b ih =>
    simp only [bytesR, List.map_cons]
    simp only [bytesR] at ih
    have h1 : rowByte [.int .u8 x.toNat] = some x := by
      have := x.toNat_lt
      simp [rowByte]
      try omega
    simp [rowsBytes, ih, h1]
theorem SK : knownR [] = true ∧ (∀ (e : List TV) (l : List (List TV)), knownR (e :: l) = (e.all knownT && knownR l)) ∧ (∀ (t : TV) (e : List TV), (t :: e).all knownT = (knownT t && e.all knownT)) ∧ ([] : List TV).all knownT = true ∧
    (∀ b, knownT (.bool b) = true) ∧ (∀ k n, knownT (.int k n) = true) ∧ (∀ s, knownT (.str s) = true) ∧ (∀ s es, knownT (.sl s es) = true) ∧
    flatR [] = true ∧ (∀ (e : List TV) (l : List (List TV)), flatR (e :: l) = (e.all flatT && flatR l)) ∧ (∀ (t : TV) (e : List TV), (t :: e).all flatT = (flatT t && e.all flatT)) ∧ ([] : List TV).all flatT = true ∧
    (∀ b, flatT (.bool b) = true) ∧ (∀ k n, flatT (.int k n) = true) ∧ (∀ s, flatT (.str s) = true) ∧
    (∀ b : Bytes, flatR (bytesR b) = true) ∧ (∀ b : Bytes, knownR (bytesR b) = true) ∧ (∀ b : Bytes, rowsBytes (bytesR b) = some b) :=
  ⟨rfl, fun _ _ => rfl, fun _ _ => rfl, rfl, fun _ => rfl, fun _ _ => rfl, fun _ => rfl, fun _ _ => rfl, rfl, fun _ _ => rfl, fun _ _ => rfl, rfl, fun _ => rfl, fun _ _ => rfl, fun _ => rfl, flatR_bytes, knownR_bytes, rowsBytes_R⟩
theorem SB : min 1 IntKind.i64.bits = 1 ∧ min 7 IntKind.i64.bits = 7 ∧ min 8 IntKind.i64.bits = 8 ∧ min 14 IntKind.i64.bits = 14 ∧ min 16 IntKind.i64.bits = 16 ∧ min 24 IntKind.i64.bits = 24 ∧ min 33 IntKind.i64.bits = 33 ∧ min 47 IntKind.i64.bits = 47 ∧ min 1 IntKind.u32.bits = 1 ∧ min 8 IntKind.u32.bits = 8 ∧ min 16 IntKind.u32.bits = 16 ∧ min 24 IntKind.u32.bits = 24 := by decide
theorem bytesR_map (b : Bytes) : bytesR b = b.map fun x => [.int .u8 x.toNat] := rfl

theorem cnt_len {α : Type} (c : α → Nat) (h : ∀ x, 1 ≤ c x) (l : List α) : l.length ≤ (l.map c).sum := by
  induction l with
  | nil => simp
  | cons x l ih => have := h x; simp; omega
/-- what is left of a size -/
def szC (l : Int) (n : Nat) : Int := if l < n then -1 else l - n
theorem szC_lt {l : Int} {n : Nat} (h : l < n) : szC l n = -1 := if_pos h
theorem szC_ge {l : Int} {n : Nat} (h : ¬ l < n) : szC l n = l - n := if_neg h
/-- decimal digits -/
def digB (n : Nat) : Bytes := if h : n = 0 then [] else digB (n / 10) ++ [UInt8.ofNat (48 + n % 10)]
termination_by n
def markText (k : Int) : Bytes := if k ≤ 0 then [109, 48] else 109 :: digB k.toNat
def cntM {α : Type} (c : α → Nat) (l : List α) : Nat := (l.map c).sum
def szM {α : Type} (c : α → Nat) (l : List α) : Nat := l.length + (l.map c).sum

structure Ent where
  name : Bytes
  ino : Int
  deriving DecidableEq, Inhabited
def Ent.row (a : Ent) : List TV := [.str a.name, .int .i64 a.ino]
def Ent.x (a : Ent) : AV := .agg [.str a.name, .int .i64 a.ino]
def Ent.o (a : Ent) : AV := .agg [.str a.name, .int .i64 a.ino]
def Ent.sz (a : Ent) : Nat := a.name.length
def Ent.fine (a : Ent) : Prop := (a.name.length < 2 ^ 48)
def Ent.cnt (a : Ent) : Nat := 1 + 1
def Ent.cntT (a : Ent) : Nat := 0
def Ent.marked (a : Ent) (k : Int) : Ent := { name := markText (k), ino := k + 1 }
def Ent.markT (a : Ent) (k : Int) : Ent := { name := a.name, ino := a.ino }
def Ent.zero : List TV := [.str [], .int .i64 0]
theorem Ent.eq' {a b : Ent} (h0 : a.name = b.name) (h1 : a.ino = b.ino) : a = b := by cases a; cases b; simp_all
theorem Ent.cnt1 (a : Ent) : 1 ≤ a.cnt := by simp only [Ent.cnt]; omega

structure Attr where
  name : Bytes
  val : Bytes
  deriving DecidableEq, Inhabited
def Attr.row (a : Attr) : List TV := [.str a.name, .str a.val]
def Attr.x (a : Attr) : AV := .agg [.str a.name, .str a.val]
def Attr.o (a : Attr) : AV := .agg [.str a.name, .str a.val]
def Attr.sz (a : Attr) : Nat := a.name.length + a.val.length
def Attr.fine (a : Attr) : Prop := (a.name.length < 2 ^ 48) ∧ (a.val.length < 2 ^ 48)
def Attr.cnt (a : Attr) : Nat := 1 + 1
def Attr.cntT (a : Attr) : Nat := 0
def Attr.marked (a : Attr) (k : Int) : Attr := { name := markText (k), val := markText (k + 1) }
def Attr.markT (a : Attr) (k : Int) : Attr := { name := a.name, val := a.val }
def Attr.zero : List TV := [.str [], .str []]
theorem Attr.eq' {a b : Attr} (h0 : a.name = b.name) (h1 : a.val = b.val) : a = b := by cases a; cases b; simp_all
theorem Attr.cnt1 (a : Attr) : 1 ≤ a.cnt := by simp only [Attr.cnt]; omega

structure Inode where
  ino : Int
  kind : Int
  links : Int
  data : Bytes
  ents : List Ent
  attrs : List Attr
  deriving DecidableEq, Inhabited
def Inode.row (a : Inode) : List TV := [.int .i64 a.ino, .int .i64 a.kind, .int .i64 a.links, .sl 1 (bytesR a.data), .sl 2 (a.ents.map Ent.row), .sl 2 (a.attrs.map Attr.row)]
def Inode.x (a : Inode) : AV := .agg [.int .i64 a.ino, .int .i64 a.kind, .int .i64 a.links, .ext 1 (bytesR a.data), .ext 2 (a.ents.map Ent.row), .ext 2 (a.attrs.map Attr.row)]
def Inode.o (a : Inode) : AV := .agg [.int .i64 a.ino, .int .i64 a.kind, .int .i64 a.links, .own 1 (bytesR a.data), .own 2 (a.ents.map Ent.row), .own 2 (a.attrs.map Attr.row)]
def Inode.sz (a : Inode) : Nat := a.data.length + szM Ent.sz a.ents + szM Attr.sz a.attrs
def Inode.fine (a : Inode) : Prop := (a.data.length < 2 ^ 48) ∧ (a.ents.length < 2 ^ 48 ∧ ∀ x ∈ a.ents, x.fine) ∧ (a.attrs.length < 2 ^ 48 ∧ ∀ x ∈ a.attrs, x.fine)
def Inode.cnt (a : Inode) : Nat := 1 + 1 + 1 + a.data.length + cntM Ent.cnt a.ents + cntM Attr.cnt a.attrs
def Inode.cntT (a : Inode) : Nat := a.data.length + cntM Ent.cnt a.ents + cntM Attr.cnt a.attrs
def Inode.marked (a : Inode) (k : Int) : Inode := { ino := k, kind := k + 1, links := k + 1 + 1, data := markBy a.data (k + 1 + 1 + 1), ents := markL Ent.marked Ent.cnt a.ents (k + 1 + 1 + 1 + (a.data.length : Nat)), attrs := markL Attr.marked Attr.cnt a.attrs (k + 1 + 1 + 1 + (a.data.length : Nat) + (cntM Ent.cnt a.ents : Nat)) }
def Inode.markT (a : Inode) (k : Int) : Inode := { ino := a.ino, kind := a.kind, links := a.links, data := markBy a.data (k), ents := markL Ent.marked Ent.cnt a.ents (k + (a.data.length : Nat)), attrs := markL Attr.marked Attr.cnt a.attrs (k + (a.data.length : Nat) + (cntM Ent.cnt a.ents : Nat)) }
def Inode.zero : List TV := [.int .i64 0, .int .i64 0, .int .i64 0, .sl 1 [], .sl 2 [], .sl 2 []]
theorem Inode.eq' {a b : Inode} (h0 : a.ino = b.ino) (h1 : a.kind = b.kind) (h2 : a.links = b.links) (h3 : a.data = b.data) (h4 : a.ents = b.ents) (h5 : a.attrs = b.attrs) : a = b := by cases a; cases b; simp_all
theorem Inode.cnt1 (a : Inode) : 1 ≤ a.cnt := by simp only [Inode.cnt]; omega

structure Tab where
  inodes : List Inode
  next : Int
  deriving DecidableEq, Inhabited
def Tab.row (a : Tab) : List TV := [.sl 6 (a.inodes.map Inode.row), .int .i64 a.next]
def Tab.x (a : Tab) : AV := .agg [.ext 6 (a.inodes.map Inode.row), .int .i64 a.next]
def Tab.o (a : Tab) : AV := .agg [.own 6 (a.inodes.map Inode.row), .int .i64 a.next]
def Tab.sz (a : Tab) : Nat := szM Inode.sz a.inodes
def Tab.fine (a : Tab) : Prop := (a.inodes.length < 2 ^ 48 ∧ ∀ x ∈ a.inodes, x.fine)
def Tab.cnt (a : Tab) : Nat := cntM Inode.cnt a.inodes + 1
def Tab.cntT (a : Tab) : Nat := cntM Inode.cnt a.inodes
def Tab.marked (a : Tab) (k : Int) : Tab := { inodes := markL Inode.marked Inode.cnt a.inodes (k), next := k + (cntM Inode.cnt a.inodes : Nat) }
def Tab.markT (a : Tab) (k : Int) : Tab := { inodes := markL Inode.marked Inode.cnt a.inodes (k), next := a.next }
def Tab.zero : List TV := [.sl 6 [], .int .i64 0]
theorem Tab.eq' {a b : Tab} (h0 : a.inodes = b.inodes) (h1 : a.next = b.next) : a = b := by cases a; cases b; simp_all
theorem Tab.cnt1 (a : Tab) : 1 ≤ a.cnt := by simp only [Tab.cnt]; omega

structure Vol where
  id : Int
  name : Bytes
  ro : Bool
  limit : Int
  t : Tab
  deriving DecidableEq, Inhabited
def Vol.row (a : Vol) : List TV := [.int .i64 a.id, .str a.name, .bool a.ro, .int .i64 a.limit, .sl 6 (a.t.inodes.map Inode.row), .int .i64 a.t.next]
def Vol.x (a : Vol) : AV := .agg [.int .i64 a.id, .str a.name, .bool a.ro, .int .i64 a.limit, .ext 6 (a.t.inodes.map Inode.row), .int .i64 a.t.next]
def Vol.o (a : Vol) : AV := .agg [.int .i64 a.id, .str a.name, .bool a.ro, .int .i64 a.limit, .own 6 (a.t.inodes.map Inode.row), .int .i64 a.t.next]
def Vol.sz (a : Vol) : Nat := a.name.length + a.t.sz
def Vol.fine (a : Vol) : Prop := (a.name.length < 2 ^ 48) ∧ (a.t.fine)
def Vol.cnt (a : Vol) : Nat := 1 + 1 + 1 + 1 + cntM Inode.cnt a.t.inodes + 1
def Vol.cntT (a : Vol) : Nat := a.t.cntT
def Vol.marked (a : Vol) (k : Int) : Vol := { id := k, name := markText (k + 1), ro := decide ((k + 1 + 1).tmod 3 = 0), limit := k + 1 + 1 + 1, t := { inodes := markL Inode.marked Inode.cnt a.t.inodes (k + 1 + 1 + 1 + 1), next := k + 1 + 1 + 1 + 1 + (cntM Inode.cnt a.t.inodes : Nat) } }
def Vol.markT (a : Vol) (k : Int) : Vol := { id := a.id, name := a.name, ro := a.ro, limit := a.limit, t := a.t.markT (k) }
def Vol.zero : List TV := [.int .i64 0, .str [], .bool false, .int .i64 0, .sl 6 [], .int .i64 0]
theorem Vol.eq' {a b : Vol} (h0 : a.id = b.id) (h1 : a.name = b.name) (h2 : a.ro = b.ro) (h3 : a.limit = b.limit) (h4 : a.t = b.t) : a = b := by cases a; cases b; simp_all
theorem Vol.cnt1 (a : Vol) : 1 ≤ a.cnt := by simp only [Vol.cnt]; omega

structure Fs where
  vols : List Vol
  next : Int
  deriving DecidableEq, Inhabited
def Fs.row (a : Fs) : List TV := [.sl 6 (a.vols.map Vol.row), .int .i64 a.next]
def Fs.x (a : Fs) : AV := .agg [.ext 6 (a.vols.map Vol.row), .int .i64 a.next]
def Fs.o (a : Fs) : AV := .agg [.own 6 (a.vols.map Vol.row), .int .i64 a.next]
def Fs.sz (a : Fs) : Nat := szM Vol.sz a.vols
def Fs.fine (a : Fs) : Prop := (a.vols.length < 2 ^ 48 ∧ ∀ x ∈ a.vols, x.fine)
def Fs.cnt (a : Fs) : Nat := cntM Vol.cnt a.vols + 1
def Fs.cntT (a : Fs) : Nat := cntM Vol.cnt a.vols
def Fs.marked (a : Fs) (k : Int) : Fs := { vols := markL Vol.marked Vol.cnt a.vols (k), next := k + (cntM Vol.cnt a.vols : Nat) }
def Fs.markT (a : Fs) (k : Int) : Fs := { vols := markL Vol.marked Vol.cnt a.vols (k), next := a.next }
def Fs.zero : List TV := [.sl 6 [], .int .i64 0]
theorem Fs.eq' {a b : Fs} (h0 : a.vols = b.vols) (h1 : a.next = b.next) : a = b := by cases a; cases b; simp_all
theorem Fs.cnt1 (a : Fs) : 1 ≤ a.cnt := by simp only [Fs.cnt]; omega

structure Op where
  kind : Int
  vol : Int
  path : Bytes
  to' : Bytes
  off : Int
  data : Bytes
  deriving DecidableEq, Inhabited
def Op.row (a : Op) : List TV := [.int .i64 a.kind, .int .i64 a.vol, .str a.path, .str a.to', .int .i64 a.off, .sl 1 (bytesR a.data)]
def Op.x (a : Op) : AV := .agg [.int .i64 a.kind, .int .i64 a.vol, .str a.path, .str a.to', .int .i64 a.off, .ext 1 (bytesR a.data)]
def Op.o (a : Op) : AV := .agg [.int .i64 a.kind, .int .i64 a.vol, .str a.path, .str a.to', .int .i64 a.off, .own 1 (bytesR a.data)]
def Op.sz (a : Op) : Nat := a.path.length + a.to'.length + a.data.length
def Op.fine (a : Op) : Prop := (a.path.length < 2 ^ 48) ∧ (a.to'.length < 2 ^ 48) ∧ (a.data.length < 2 ^ 48)
def Op.cnt (a : Op) : Nat := 1 + 1 + 1 + 1 + 1 + a.data.length
def Op.cntT (a : Op) : Nat := a.data.length
def Op.marked (a : Op) (k : Int) : Op := { kind := k, vol := k + 1, path := markText (k + 1 + 1), to' := markText (k + 1 + 1 + 1), off := k + 1 + 1 + 1 + 1, data := markBy a.data (k + 1 + 1 + 1 + 1 + 1) }
def Op.markT (a : Op) (k : Int) : Op := { kind := a.kind, vol := a.vol, path := a.path, to' := a.to', off := a.off, data := markBy a.data (k) }
def Op.zero : List TV := [.int .i64 0, .int .i64 0, .str [], .str [], .int .i64 0, .sl 1 []]
theorem Op.eq' {a b : Op} (h0 : a.kind = b.kind) (h1 : a.vol = b.vol) (h2 : a.path = b.path) (h3 : a.to' = b.to') (h4 : a.off = b.off) (h5 : a.data = b.data) : a = b := by cases a; cases b; simp_all
theorem Op.cnt1 (a : Op) : 1 ≤ a.cnt := by simp only [Op.cnt]; omega

theorem ST :
    (∀ a : Ent, a.row = [.str a.name, .int .i64 a.ino]) ∧
    (∀ a : Ent, a.x = .agg [.str a.name, .int .i64 a.ino]) ∧
    (∀ a : Ent, a.o = .agg [.str a.name, .int .i64 a.ino]) ∧
    (∀ a : Attr, a.row = [.str a.name, .str a.val]) ∧
    (∀ a : Attr, a.x = .agg [.str a.name, .str a.val]) ∧
    (∀ a : Attr, a.o = .agg [.str a.name, .str a.val]) ∧
    (∀ a : Inode, a.row = [.int .i64 a.ino, .int .i64 a.kind, .int .i64 a.links, .sl 1 (bytesR a.data), .sl 2 (a.ents.map Ent.row), .sl 2 (a.attrs.map Attr.row)]) ∧
    (∀ a : Inode, a.x = .agg [.int .i64 a.ino, .int .i64 a.kind, .int .i64 a.links, .ext 1 (bytesR a.data), .ext 2 (a.ents.map Ent.row), .ext 2 (a.attrs.map Attr.row)]) ∧
    (∀ a : Inode, a.o = .agg [.int .i64 a.ino, .int .i64 a.kind, .int .i64 a.links, .own 1 (bytesR a.data), .own 2 (a.ents.map Ent.row), .own 2 (a.attrs.map Attr.row)]) ∧
    (∀ a : Tab, a.row = [.sl 6 (a.inodes.map Inode.row), .int .i64 a.next]) ∧
    (∀ a : Tab, a.x = .agg [.ext 6 (a.inodes.map Inode.row), .int .i64 a.next]) ∧
    (∀ a : Tab, a.o = .agg [.own 6 (a.inodes.map Inode.row), .int .i64 a.next]) ∧
    (∀ a : Vol, a.row = [.int .i64 a.id, .str a.name, .bool a.ro, .int .i64 a.limit, .sl 6 (a.t.inodes.map Inode.row), .int .i64 a.t.next]) ∧
    (∀ a : Vol, a.x = .agg [.int .i64 a.id, .str a.name, .bool a.ro, .int .i64 a.limit, .ext 6 (a.t.inodes.map Inode.row), .int .i64 a.t.next]) ∧
    (∀ a : Vol, a.o = .agg [.int .i64 a.id, .str a.name, .bool a.ro, .int .i64 a.limit, .own 6 (a.t.inodes.map Inode.row), .int .i64 a.t.next]) ∧
    (∀ a : Fs, a.row = [.sl 6 (a.vols.map Vol.row), .int .i64 a.next]) ∧
    (∀ a : Fs, a.x = .agg [.ext 6 (a.vols.map Vol.row), .int .i64 a.next]) ∧
    (∀ a : Fs, a.o = .agg [.own 6 (a.vols.map Vol.row), .int .i64 a.next]) ∧
    (∀ a : Op, a.row = [.int .i64 a.kind, .int .i64 a.vol, .str a.path, .str a.to', .int .i64 a.off, .sl 1 (bytesR a.data)]) ∧
    (∀ a : Op, a.x = .agg [.int .i64 a.kind, .int .i64 a.vol, .str a.path, .str a.to', .int .i64 a.off, .ext 1 (bytesR a.data)]) ∧
    (∀ a : Op, a.o = .agg [.int .i64 a.kind, .int .i64 a.vol, .str a.path, .str a.to', .int .i64 a.off, .own 1 (bytesR a.data)]) ∧
    (∀ (α β : Type) (f : α → β) (l : List α), (l.map f).length = l.length) ∧ (∀ (α β : Type) (f : α → β) (l : List α) (i : Nat), (l.map f)[i]? = (l[i]?).map f) := by
  refine ⟨?_, ?_, ?_, ?_, ?_, ?_, ?_, ?_, ?_, ?_, ?_, ?_, ?_, ?_, ?_, ?_, ?_, ?_, ?_, ?_, ?_, ?_, ?_⟩ <;> intros <;> first | rfl | simp

/-- what each run uses -/
theorem SX : type_of% (And.intro SAU <| And.intro SU <| And.intro SGs <| And.intro SD <| And.intro S1 <| And.intro S2 <| And.intro S3 <| And.intro SE <| And.intro SC <| And.intro SO <| And.intro ST <| And.intro SF <| And.intro SK <| And.intro @bytes_len <| And.intro @bytes_get <| And.intro @Bool.beq_eq_decide_eq.{0} <| And.intro @Int.natCast_zero <| And.intro @Int.add_zero <| And.intro @ge_iff_le.{0} <| And.intro @gt_iff_lt.{0} <| And.intro @Option.isNone_none.{0} <| And.intro @Option.isNone_some.{0} <| And.intro @List.nil_append.{0} <| And.intro @List.append_nil.{0} <| And.intro @Bool.and_true <| And.intro @Bool.and_self <| SB) := And.intro SAU <| And.intro SU <| And.intro SGs <| And.intro SD <| And.intro S1 <| And.intro S2 <| And.intro S3 <| And.intro SE <| And.intro SC <| And.intro SO <| And.intro ST <| And.intro SF <| And.intro SK <| And.intro @bytes_len <| And.intro @bytes_get <| And.intro @Bool.beq_eq_decide_eq.{0} <| And.intro @Int.natCast_zero <| And.intro @Int.add_zero <| And.intro @ge_iff_le.{0} <| And.intro @gt_iff_lt.{0} <| And.intro @Option.isNone_none.{0} <| And.intro @Option.isNone_some.{0} <| And.intro @List.nil_append.{0} <| And.intro @List.append_nil.{0} <| And.intro @Bool.and_true <| And.intro @Bool.and_self <| SB
end Go.Proofs.Ytjmnolhflcjpgaa.Awp

namespace Go.Proofs.Ytjmnolhflcjpgaa.Awp
end Go.Proofs.Ytjmnolhflcjpgaa.Awp



/-! numbers that are reached from 1: by rounds, and by a queue (plain Lean) -/
namespace Go.Proofs.Ytjmnolhflcjpgaa.Awp

section
variable (nb : Int → Option (List Int))

/-! ### by a queue -/
end
end Go.Proofs.Ytjmnolhflcjpgaa.Awp

/-! paths (plain Lean) -/
namespace Go.Proofs.Ytjmnolhflcjpgaa.Awp

end Go.Proofs.Ytjmnolhflcjpgaa.Awp

/-! tables as maps; walks (plain Lean) -/
namespace Go.Proofs.Ytjmnolhflcjpgaa.Awp

/-! ### walks over a map -/
end Go.Proofs.Ytjmnolhflcjpgaa.Awp

/-! trees: each directory has one path (plain Lean) -/
namespace Go.Proofs.Ytjmnolhflcjpgaa.Awp

variable {t : Tab}
end Go.Proofs.Ytjmnolhflcjpgaa.Awp

/-! walks where one entry turns (plain Lean) -/
namespace Go.Proofs.Ytjmnolhflcjpgaa.Awp

section
variable {s s' : Int → Bytes → Option Int}
end

/-! ### tables: put and taken away -/
end Go.Proofs.Ytjmnolhflcjpgaa.Awp

/-! entries in order (plain Lean) -/
namespace Go.Proofs.Ytjmnolhflcjpgaa.Awp

section
variable {α : Type} (key : α → Bytes)
variable {key}
end

end Go.Proofs.Ytjmnolhflcjpgaa.Awp

/-! what makes a tree; a file's path is unlinked (plain Lean) -/
namespace Go.Proofs.Ytjmnolhflcjpgaa.Awp

end Go.Proofs.Ytjmnolhflcjpgaa.Awp

/-! something new is made in a tree (plain Lean) -/
namespace Go.Proofs.Ytjmnolhflcjpgaa.Awp

end Go.Proofs.Ytjmnolhflcjpgaa.Awp

/-! one more path of a file (plain Lean) -/
namespace Go.Proofs.Ytjmnolhflcjpgaa.Awp

end Go.Proofs.Ytjmnolhflcjpgaa.Awp

/-! something is moved in a tree (plain Lean) -/
namespace Go.Proofs.Ytjmnolhflcjpgaa.Awp

end Go.Proofs.Ytjmnolhflcjpgaa.Awp

/-! what does not turn the tree's shape (plain Lean) -/
namespace Go.Proofs.Ytjmnolhflcjpgaa.Awp

end Go.Proofs.Ytjmnolhflcjpgaa.Awp

/-! the paths of a tree (plain Lean) -/
namespace Go.Proofs.Ytjmnolhflcjpgaa.Awp

end Go.Proofs.Ytjmnolhflcjpgaa.Awp

/-! lists of paths compared (plain Lean) -/
namespace Go.Proofs.Ytjmnolhflcjpgaa.Awp

end Go.Proofs.Ytjmnolhflcjpgaa.Awp

/-! what is right, reckoned part by part (plain Lean) -/
namespace Go.Proofs.Ytjmnolhflcjpgaa.Awp
open Go.Proofs
set_option linter.unusedSimpArgs false
set_option linter.unusedVariables false

section
variable {α : Type} (p : Nat → α → Bool) (lt : α → α → Bool)
variable {p lt}
end
/-! ### file systems -/
end Go.Proofs.Ytjmnolhflcjpgaa.Awp

namespace Go.Proofs.Ytjmnolhflcjpgaa.Awp
open Go.Proofs
set_option linter.unusedSimpArgs false
set_option linter.unusedVariables false
set_option maxRecDepth 100000
set_option maxHeartbeats 20000000

theorem s_eqByteS (a b : Bytes) (hl : a.length < 2 ^ 40) : Spec Try.prog 113 [.ext 1 (bytesR a), .ext 1 (bytesR b)] (.bool (decide (a = b))) [.undef, .undef] := by
  refine spec_C hmx p_L_eqByteS [] 51 [] ⟨Nat.le_of_ble_eq_true rfl, Nat.le_of_ble_eq_true rfl⟩ rfl rfl ?_
  intro w hP hmd hks hQ
  unfold c_L_eqByteS
  simp +decide (maxSteps := 20000000) (disch := omega) only [↓SBK, ↓SBK2, SX, Nat.reduceEqDiff, Nat.reduceAdd, Nat.reduceMul, Nat.reduceSub, ↓reduceIte, Int.reduceNeg, Int.reduceToNat, Int.reducePow, hmd, hks, hQ]
  (first | with_reducible refine if_d _ ?_ ?_ | refine if_i _ ?_ ?_) <;> intro h
  · simp +decide (maxSteps := 20000000) (disch := omega) only [↓SBK, ↓SBK2, SX, Nat.reduceEqDiff, Nat.reduceAdd, Nat.reduceMul, Nat.reduceSub, ↓reduceIte, Int.reduceNeg, Int.reduceToNat, Int.reducePow, hmd, hks, hQ]
    refine loop_i (fun i : Nat => [(5, .int .i64 i)]) (fun i => i ≤ a.length ∧ a.take i = b.take i) (fun i => a.length - i) (0) hP hmd hks (rfl) (by simp) ?_
    rintro i ⟨hi, hab⟩ w1 hP1 hmd1 hks1 hQ1
    simp +decide (maxSteps := 20000000) (disch := omega) only [↓SBK, ↓SBK2, SX, Nat.reduceEqDiff, Nat.reduceAdd, Nat.reduceMul, Nat.reduceSub, ↓reduceIte, Int.reduceNeg, Int.reduceToNat, Int.reducePow, hmd, hks, hQ, hmd1, hks1, hQ1]
    (first | with_reducible refine if_d _ ?_ ?_ | refine if_i _ ?_ ?_) <;> intro h1
    · simp +decide (maxSteps := 20000000) (disch := omega) only [↓SBK, ↓SBK2, SX, Nat.reduceEqDiff, Nat.reduceAdd, Nat.reduceMul, Nat.reduceSub, ↓reduceIte, Int.reduceNeg, Int.reduceToNat, Int.reducePow, hmd, hks, hQ, hmd1, hks1, hQ1, getE h1, getE (h ▸ h1)]
      (first | with_reducible refine if_d _ ?_ ?_ | refine if_i _ ?_ ?_) <;> intro h2
      · simp +decide (maxSteps := 20000000) (disch := omega) only [↓SBK, ↓SBK2, SX, Nat.reduceEqDiff, Nat.reduceAdd, Nat.reduceMul, Nat.reduceSub, ↓reduceIte, Int.reduceNeg, Int.reduceToNat, Int.reducePow, hmd, hks, hQ, hmd1, hks1, hQ1]
        exact ⟨i + 1, rfl, ⟨by omega, take_eq_succ hab _ _ (UInt8.toNat_inj.1 (by omega))⟩, by omega⟩
      · simp +decide (maxSteps := 20000000) (disch := omega) only [↓SBK, ↓SBK2, SX, Nat.reduceEqDiff, Nat.reduceAdd, Nat.reduceMul, Nat.reduceSub, ↓reduceIte, Int.reduceNeg, Int.reduceToNat, Int.reducePow, hmd, hks, hQ, hmd1, hks1, hQ1]
        rw [decide_eq_false]
        rintro rfl; exact h2 rfl
    · simp +decide (maxSteps := 20000000) (disch := omega) only [↓SBK, ↓SBK2, SX, Nat.reduceEqDiff, Nat.reduceAdd, Nat.reduceMul, Nat.reduceSub, ↓reduceIte, Int.reduceNeg, Int.reduceToNat, Int.reducePow, hmd, hks, hQ, hmd1, hks1, hQ1]
      rw [decide_eq_true (take_all hab (by omega) (by omega))]
  · simp +decide (maxSteps := 20000000) (disch := omega) only [↓SBK, ↓SBK2, SX, Nat.reduceEqDiff, Nat.reduceAdd, Nat.reduceMul, Nat.reduceSub, ↓reduceIte, Int.reduceNeg, Int.reduceToNat, Int.reducePow, hmd, hks, hQ, hQ]
    rw [decide_eq_false]
    rintro rfl; exact h rfl

theorem s_markByteS (a : Bytes) (k : Int) (h0 : 0 ≤ k) (hl : k + a.length < 2 ^ 40) : Spec Try.prog 62 [.own 1 (bytesR a), .int .i64 k] (.int .i64 (k + a.length)) [.own 1 (bytesR (markBy a k)), .undef] := by
  refine spec_C hmx p_L_markByteS [] 51 [true, false] ⟨Nat.le_of_ble_eq_true rfl, Nat.le_of_ble_eq_true rfl⟩ rfl rfl ?_
  intro w hP hmd hks hQ
  unfold c_L_markByteS
  simp +decide (maxSteps := 20000000) (disch := omega) only [↓SBK, ↓SBK2, SX, Nat.reduceEqDiff, Nat.reduceAdd, Nat.reduceMul, Nat.reduceSub, ↓reduceIte, Int.reduceNeg, Int.reduceToNat, Int.reducePow, hmd, hks, hQ]
  refine loop_i (fun i : Nat => [(1000, .own 1 (mixR byteRow (fun _ k => UInt8.ofInt k) (fun _ => 1) a k i)), (1, .int .i64 (k + i)), (5, .int .i64 i)]) (fun i => i ≤ a.length) (fun i => a.length - i) (0) hP hmd hks (by simp +decide (maxSteps := 20000000) (disch := omega) only [↓SBK, ↓SBK2, SX, Nat.reduceEqDiff, Nat.reduceAdd, Nat.reduceMul, Nat.reduceSub, ↓reduceIte, Int.reduceNeg, Int.reduceToNat, Int.reducePow, hmd, hks, hQ, mixR_0, ← bytesR_row]) (by omega) ?_
  rintro i hi w1 hP1 hmd1 hks1 hQ1
  simp +decide (maxSteps := 20000000) (disch := omega) only [↓SBK, ↓SBK2, SX, Nat.reduceEqDiff, Nat.reduceAdd, Nat.reduceMul, Nat.reduceSub, ↓reduceIte, Int.reduceNeg, Int.reduceToNat, Int.reducePow, hmd, hks, hQ, hmd1, hks1, hQ1]
  (first | with_reducible refine if_d _ ?_ ?_ | refine if_i _ ?_ ?_) <;> intro h1
  · simp +decide (maxSteps := 20000000) (disch := omega) only [↓SBK, ↓SBK2, SX, Nat.reduceEqDiff, Nat.reduceAdd, Nat.reduceMul, Nat.reduceSub, ↓reduceIte, Int.reduceNeg, Int.reduceToNat, Int.reducePow, hmd, hks, hQ, hmd1, hks1, hQ1]
    rw [mixR_set _ _ _ _ _ _ (by omega) _ (by simp only [sum_one, List.length_take, Nat.min_eq_left hi, wrap_ofInt]; rfl)]
    exact ⟨i + 1, by simp [Int.add_assoc], by omega, by omega⟩
  · obtain rfl : i = a.length := by omega
    simp +decide (maxSteps := 20000000) (disch := omega) only [↓SBK, ↓SBK2, SX, Nat.reduceEqDiff, Nat.reduceAdd, Nat.reduceMul, Nat.reduceSub, ↓reduceIte, Int.reduceNeg, Int.reduceToNat, Int.reducePow, hmd, hks, hQ, hmd1, hks1, hQ1, markBy_row]

theorem s_heldByteS (a : Bytes) (k : Int) (h0 : 0 ≤ k) (hl : k + a.length < 2 ^ 40) : Spec Try.prog 65 [.ext 1 (bytesR (markBy a k)), .int .i64 k] (.int .i64 (k + a.length)) [.undef, .undef] := by
  refine spec_C hmx p_L_heldByteS [] 51 [] ⟨Nat.le_of_ble_eq_true rfl, Nat.le_of_ble_eq_true rfl⟩ rfl rfl ?_
  intro w hP hmd hks hQ
  unfold c_L_heldByteS
  simp +decide (maxSteps := 20000000) (disch := omega) only [↓SBK, ↓SBK2, SX, Nat.reduceEqDiff, Nat.reduceAdd, Nat.reduceMul, Nat.reduceSub, ↓reduceIte, Int.reduceNeg, Int.reduceToNat, Int.reducePow, hmd, hks, hQ]
  refine loop_i (fun i : Nat => [(1, .int .i64 (k + i)), (5, .int .i64 i)]) (fun i => i ≤ a.length) (fun i => a.length - i) (0) hP hmd hks (by simp +decide (maxSteps := 20000000) (disch := omega) only [↓SBK, ↓SBK2, SX, Nat.reduceEqDiff, Nat.reduceAdd, Nat.reduceMul, Nat.reduceSub, ↓reduceIte, Int.reduceNeg, Int.reduceToNat, Int.reducePow, hmd, hks, hQ]) (by omega) ?_
  rintro i hi w1 hP1 hmd1 hks1 hQ1
  simp +decide (maxSteps := 20000000) (disch := omega) only [↓SBK, ↓SBK2, SX, Nat.reduceEqDiff, Nat.reduceAdd, Nat.reduceMul, Nat.reduceSub, ↓reduceIte, Int.reduceNeg, Int.reduceToNat, Int.reducePow, hmd, hks, hQ, hmd1, hks1, hQ1]
  (first | with_reducible refine if_d _ ?_ ?_ | refine if_i _ ?_ ?_) <;> intro h1
  · simp +decide (maxSteps := 20000000) (disch := omega) only [↓SBK, ↓SBK2, SX, Nat.reduceEqDiff, Nat.reduceAdd, Nat.reduceMul, Nat.reduceSub, ↓reduceIte, Int.reduceNeg, Int.reduceToNat, Int.reducePow, hmd, hks, hQ, hmd1, hks1, hQ1, getE h1, wrap_ofInt]
    exact ⟨i + 1, by simp [Int.add_assoc], by omega, by omega⟩
  · obtain rfl : i = a.length := by omega
    simp +decide (maxSteps := 20000000) (disch := omega) only [↓SBK, ↓SBK2, SX, Nat.reduceEqDiff, Nat.reduceAdd, Nat.reduceMul, Nat.reduceSub, ↓reduceIte, Int.reduceNeg, Int.reduceToNat, Int.reducePow, hmd, hks, hQ, hmd1, hks1, hQ1]
end Go.Proofs.Ytjmnolhflcjpgaa.Awp

namespace Go.Proofs.Ytjmnolhflcjpgaa.Awp
open Go.Proofs
set_option linter.unusedSimpArgs false
set_option linter.unusedVariables false
set_option maxRecDepth 100000
set_option maxHeartbeats 20000000

theorem s_eqEnt (a b : Ent) (hl : a.sz < 2 ^ 40) : Spec Try.prog 128 [a.x, b.x] (.bool (decide (a = b))) [.undef, .undef] := by
  simp only [Ent.sz] at hl
  refine spec_C hmx p_L_eqEnt [] 31 [] ⟨Nat.le_of_ble_eq_true rfl, Nat.le_of_ble_eq_true rfl⟩ rfl rfl ?_
  intro w hP hmd hks hQ
  unfold c_L_eqEnt
  simp +decide (maxSteps := 20000000) (disch := omega) only [↓SBK, ↓SBK2, SX, Nat.reduceEqDiff, Nat.reduceAdd, Nat.reduceMul, Nat.reduceSub, ↓reduceIte, Int.reduceNeg, Int.reduceToNat, Int.reducePow, hmd, hks, hQ]
  (first | with_reducible refine if_d _ ?_ ?_ | refine if_i _ ?_ ?_) <;> intro h0
  rotate_left
  · simp +decide (maxSteps := 20000000) (disch := omega) only [↓SBK, ↓SBK2, SX, Nat.reduceEqDiff, Nat.reduceAdd, Nat.reduceMul, Nat.reduceSub, ↓reduceIte, Int.reduceNeg, Int.reduceToNat, Int.reducePow, hmd, hks, hQ]
    rw [decide_eq_false (by rintro rfl; exact h0 rfl)]
  simp +decide (maxSteps := 20000000) (disch := omega) only [↓SBK, ↓SBK2, SX, Nat.reduceEqDiff, Nat.reduceAdd, Nat.reduceMul, Nat.reduceSub, ↓reduceIte, Int.reduceNeg, Int.reduceToNat, Int.reducePow, hmd, hks, hQ]
  (first | with_reducible refine if_d _ ?_ ?_ | refine if_i _ ?_ ?_) <;> intro h1
  rotate_left
  · simp +decide (maxSteps := 20000000) (disch := omega) only [↓SBK, ↓SBK2, SX, Nat.reduceEqDiff, Nat.reduceAdd, Nat.reduceMul, Nat.reduceSub, ↓reduceIte, Int.reduceNeg, Int.reduceToNat, Int.reducePow, hmd, hks, hQ]
    rw [decide_eq_false (by rintro rfl; exact h1 rfl)]
  simp +decide (maxSteps := 20000000) (disch := omega) only [↓SBK, ↓SBK2, SX, Nat.reduceEqDiff, Nat.reduceAdd, Nat.reduceMul, Nat.reduceSub, ↓reduceIte, Int.reduceNeg, Int.reduceToNat, Int.reducePow, hmd, hks, hQ]
  rw [decide_eq_true (Ent.eq' h0 h1)]

theorem s_eqEntS (a b : List Ent) (hl : szM Ent.sz a < 2 ^ 40) : Spec Try.prog 114 [.ext 2 (a.map Ent.row), .ext 2 (b.map Ent.row)] (.bool (decide (a = b))) [.undef, .undef] := by
  simp only [szM] at hl
  refine spec_C hmx p_L_eqEntS [] 51 [] ⟨Nat.le_of_ble_eq_true rfl, Nat.le_of_ble_eq_true rfl⟩ rfl rfl ?_
  intro w hP hmd hks hQ
  unfold c_L_eqEntS
  simp +decide (maxSteps := 20000000) (disch := omega) only [↓SBK, ↓SBK2, SX, Nat.reduceEqDiff, Nat.reduceAdd, Nat.reduceMul, Nat.reduceSub, ↓reduceIte, Int.reduceNeg, Int.reduceToNat, Int.reducePow, hmd, hks, hQ]
  (first | with_reducible refine if_d _ ?_ ?_ | refine if_i _ ?_ ?_) <;> intro h
  rotate_left
  · simp +decide (maxSteps := 20000000) (disch := omega) only [↓SBK, ↓SBK2, SX, Nat.reduceEqDiff, Nat.reduceAdd, Nat.reduceMul, Nat.reduceSub, ↓reduceIte, Int.reduceNeg, Int.reduceToNat, Int.reducePow, hmd, hks, hQ]
    rw [decide_eq_false (by rintro rfl; exact h rfl)]
  simp +decide (maxSteps := 20000000) (disch := omega) only [↓SBK, ↓SBK2, SX, Nat.reduceEqDiff, Nat.reduceAdd, Nat.reduceMul, Nat.reduceSub, ↓reduceIte, Int.reduceNeg, Int.reduceToNat, Int.reducePow, hmd, hks, hQ]
  refine loop_i (fun i : Nat => [(5, .int .i64 i)]) (fun i => i ≤ a.length ∧ a.take i = b.take i) (fun i => a.length - i) (0) hP hmd hks (rfl) (by simp) ?_
  rintro i ⟨hi, hab⟩ w1 hP1 hmd1 hks1 hQ1
  simp +decide (maxSteps := 20000000) (disch := omega) only [↓SBK, ↓SBK2, SX, Nat.reduceEqDiff, Nat.reduceAdd, Nat.reduceMul, Nat.reduceSub, ↓reduceIte, Int.reduceNeg, Int.reduceToNat, Int.reducePow, hmd, hks, hQ, hmd1, hks1, hQ1]
  (first | with_reducible refine if_d _ ?_ ?_ | refine if_i _ ?_ ?_) <;> intro h1
  · simp +decide (maxSteps := 20000000) (disch := omega) only [↓SBK, ↓SBK2, SX, Nat.reduceEqDiff, Nat.reduceAdd, Nat.reduceMul, Nat.reduceSub, ↓reduceIte, Int.reduceNeg, Int.reduceToNat, Int.reducePow, hmd, hks, hQ, hmd1, hks1, hQ1, getE h1, getE (h ▸ h1)]
    (first | refine call_i hP1 (s_eqEnt (a[i]'(by omega)) (b[i]'(by omega)) (Nat.lt_of_le_of_lt (sum_get Ent.sz _) (by omega))) (.inl ⟨rfl, fun _ hx => nomatch hx⟩) ?_ | refine callH_i hP1 (s_eqEnt (a[i]'(by omega)) (b[i]'(by omega)) (Nat.lt_of_le_of_lt (sum_get Ent.sz _) (by omega))) (.inl ⟨rfl, fun _ hx => nomatch hx⟩) ?_)
    simp +decide (maxSteps := 20000000) (disch := omega) only [↓SBK, ↓SBK2, SX, Nat.reduceEqDiff, Nat.reduceAdd, Nat.reduceMul, Nat.reduceSub, ↓reduceIte, Int.reduceNeg, Int.reduceToNat, Int.reducePow, hmd, hks, hQ, hmd1, hks1, hQ1]
    (first | with_reducible refine if_d _ ?_ ?_ | refine if_i _ ?_ ?_) <;> intro h2
    · simp +decide (maxSteps := 20000000) (disch := omega) only [↓SBK, ↓SBK2, SX, Nat.reduceEqDiff, Nat.reduceAdd, Nat.reduceMul, Nat.reduceSub, ↓reduceIte, Int.reduceNeg, Int.reduceToNat, Int.reducePow, hmd, hks, hQ, hmd1, hks1, hQ1]
      exact ⟨i + 1, rfl, ⟨by omega, take_eq_succ hab _ _ h2⟩, by omega⟩
    · simp +decide (maxSteps := 20000000) (disch := omega) only [↓SBK, ↓SBK2, SX, Nat.reduceEqDiff, Nat.reduceAdd, Nat.reduceMul, Nat.reduceSub, ↓reduceIte, Int.reduceNeg, Int.reduceToNat, Int.reducePow, hmd, hks, hQ, hmd1, hks1, hQ1]
      rw [decide_eq_false (by rintro rfl; exact h2 rfl)]
  · simp +decide (maxSteps := 20000000) (disch := omega) only [↓SBK, ↓SBK2, SX, Nat.reduceEqDiff, Nat.reduceAdd, Nat.reduceMul, Nat.reduceSub, ↓reduceIte, Int.reduceNeg, Int.reduceToNat, Int.reducePow, hmd, hks, hQ, hmd1, hks1, hQ1]
    rw [decide_eq_true (take_all hab (by omega) (by omega))]

theorem s_eqAttr (a b : Attr) (hl : a.sz < 2 ^ 40) : Spec Try.prog 129 [a.x, b.x] (.bool (decide (a = b))) [.undef, .undef] := by
  simp only [Attr.sz] at hl
  refine spec_C hmx p_L_eqAttr [] 31 [] ⟨Nat.le_of_ble_eq_true rfl, Nat.le_of_ble_eq_true rfl⟩ rfl rfl ?_
  intro w hP hmd hks hQ
  unfold c_L_eqAttr
  simp +decide (maxSteps := 20000000) (disch := omega) only [↓SBK, ↓SBK2, SX, Nat.reduceEqDiff, Nat.reduceAdd, Nat.reduceMul, Nat.reduceSub, ↓reduceIte, Int.reduceNeg, Int.reduceToNat, Int.reducePow, hmd, hks, hQ]
  (first | with_reducible refine if_d _ ?_ ?_ | refine if_i _ ?_ ?_) <;> intro h0
  rotate_left
  · simp +decide (maxSteps := 20000000) (disch := omega) only [↓SBK, ↓SBK2, SX, Nat.reduceEqDiff, Nat.reduceAdd, Nat.reduceMul, Nat.reduceSub, ↓reduceIte, Int.reduceNeg, Int.reduceToNat, Int.reducePow, hmd, hks, hQ]
    rw [decide_eq_false (by rintro rfl; exact h0 rfl)]
  simp +decide (maxSteps := 20000000) (disch := omega) only [↓SBK, ↓SBK2, SX, Nat.reduceEqDiff, Nat.reduceAdd, Nat.reduceMul, Nat.reduceSub, ↓reduceIte, Int.reduceNeg, Int.reduceToNat, Int.reducePow, hmd, hks, hQ]
  (first | with_reducible refine if_d _ ?_ ?_ | refine if_i _ ?_ ?_) <;> intro h1
  rotate_left
  · simp +decide (maxSteps := 20000000) (disch := omega) only [↓SBK, ↓SBK2, SX, Nat.reduceEqDiff, Nat.reduceAdd, Nat.reduceMul, Nat.reduceSub, ↓reduceIte, Int.reduceNeg, Int.reduceToNat, Int.reducePow, hmd, hks, hQ]
    rw [decide_eq_false (by rintro rfl; exact h1 rfl)]
  simp +decide (maxSteps := 20000000) (disch := omega) only [↓SBK, ↓SBK2, SX, Nat.reduceEqDiff, Nat.reduceAdd, Nat.reduceMul, Nat.reduceSub, ↓reduceIte, Int.reduceNeg, Int.reduceToNat, Int.reducePow, hmd, hks, hQ]
  rw [decide_eq_true (Attr.eq' h0 h1)]

theorem s_eqAttrS (a b : List Attr) (hl : szM Attr.sz a < 2 ^ 40) : Spec Try.prog 115 [.ext 2 (a.map Attr.row), .ext 2 (b.map Attr.row)] (.bool (decide (a = b))) [.undef, .undef] := by
  simp only [szM] at hl
  refine spec_C hmx p_L_eqAttrS [] 51 [] ⟨Nat.le_of_ble_eq_true rfl, Nat.le_of_ble_eq_true rfl⟩ rfl rfl ?_
  intro w hP hmd hks hQ
  unfold c_L_eqAttrS
  simp +decide (maxSteps := 20000000) (disch := omega) only [↓SBK, ↓SBK2, SX, Nat.reduceEqDiff, Nat.reduceAdd, Nat.reduceMul, Nat.reduceSub, ↓reduceIte, Int.reduceNeg, Int.reduceToNat, Int.reducePow, hmd, hks, hQ]
  (first | with_reducible refine if_d _ ?_ ?_ | refine if_i _ ?_ ?_) <;> intro h
  rotate_left
  · simp +decide (maxSteps := 20000000) (disch := omega) only [↓SBK, ↓SBK2, SX, Nat.reduceEqDiff, Nat.reduceAdd, Nat.reduceMul, Nat.reduceSub, ↓reduceIte, Int.reduceNeg, Int.reduceToNat, Int.reducePow, hmd, hks, hQ]
    rw [decide_eq_false (by rintro rfl; exact h rfl)]
  simp +decide (maxSteps := 20000000) (disch := omega) only [↓SBK, ↓SBK2, SX, Nat.reduceEqDiff, Nat.reduceAdd, Nat.reduceMul, Nat.reduceSub, ↓reduceIte, Int.reduceNeg, Int.reduceToNat, Int.reducePow, hmd, hks, hQ]
  refine loop_i (fun i : Nat => [(5, .int .i64 i)]) (fun i => i ≤ a.length ∧ a.take i = b.take i) (fun i => a.length - i) (0) hP hmd hks (rfl) (by simp) ?_
  rintro i ⟨hi, hab⟩ w1 hP1 hmd1 hks1 hQ1
  simp +decide (maxSteps := 20000000) (disch := omega) only [↓SBK, ↓SBK2, SX, Nat.reduceEqDiff, Nat.reduceAdd, Nat.reduceMul, Nat.reduceSub, ↓reduceIte, Int.reduceNeg, Int.reduceToNat, Int.reducePow, hmd, hks, hQ, hmd1, hks1, hQ1]
  (first | with_reducible refine if_d _ ?_ ?_ | refine if_i _ ?_ ?_) <;> intro h1
  · simp +decide (maxSteps := 20000000) (disch := omega) only [↓SBK, ↓SBK2, SX, Nat.reduceEqDiff, Nat.reduceAdd, Nat.reduceMul, Nat.reduceSub, ↓reduceIte, Int.reduceNeg, Int.reduceToNat, Int.reducePow, hmd, hks, hQ, hmd1, hks1, hQ1, getE h1, getE (h ▸ h1)]
    (first | refine call_i hP1 (s_eqAttr (a[i]'(by omega)) (b[i]'(by omega)) (Nat.lt_of_le_of_lt (sum_get Attr.sz _) (by omega))) (.inl ⟨rfl, fun _ hx => nomatch hx⟩) ?_ | refine callH_i hP1 (s_eqAttr (a[i]'(by omega)) (b[i]'(by omega)) (Nat.lt_of_le_of_lt (sum_get Attr.sz _) (by omega))) (.inl ⟨rfl, fun _ hx => nomatch hx⟩) ?_)
    simp +decide (maxSteps := 20000000) (disch := omega) only [↓SBK, ↓SBK2, SX, Nat.reduceEqDiff, Nat.reduceAdd, Nat.reduceMul, Nat.reduceSub, ↓reduceIte, Int.reduceNeg, Int.reduceToNat, Int.reducePow, hmd, hks, hQ, hmd1, hks1, hQ1]
    (first | with_reducible refine if_d _ ?_ ?_ | refine if_i _ ?_ ?_) <;> intro h2
    · simp +decide (maxSteps := 20000000) (disch := omega) only [↓SBK, ↓SBK2, SX, Nat.reduceEqDiff, Nat.reduceAdd, Nat.reduceMul, Nat.reduceSub, ↓reduceIte, Int.reduceNeg, Int.reduceToNat, Int.reducePow, hmd, hks, hQ, hmd1, hks1, hQ1]
      exact ⟨i + 1, rfl, ⟨by omega, take_eq_succ hab _ _ h2⟩, by omega⟩
    · simp +decide (maxSteps := 20000000) (disch := omega) only [↓SBK, ↓SBK2, SX, Nat.reduceEqDiff, Nat.reduceAdd, Nat.reduceMul, Nat.reduceSub, ↓reduceIte, Int.reduceNeg, Int.reduceToNat, Int.reducePow, hmd, hks, hQ, hmd1, hks1, hQ1]
      rw [decide_eq_false (by rintro rfl; exact h2 rfl)]
  · simp +decide (maxSteps := 20000000) (disch := omega) only [↓SBK, ↓SBK2, SX, Nat.reduceEqDiff, Nat.reduceAdd, Nat.reduceMul, Nat.reduceSub, ↓reduceIte, Int.reduceNeg, Int.reduceToNat, Int.reducePow, hmd, hks, hQ, hmd1, hks1, hQ1]
    rw [decide_eq_true (take_all hab (by omega) (by omega))]

theorem s_eqInode (a b : Inode) (hl : a.sz < 2 ^ 40) : Spec Try.prog 94 [a.x, b.x] (.bool (decide (a = b))) [.undef, .undef] := by
  simp only [Inode.sz] at hl
  refine spec_C hmx p_L_eqInode [] 31 [] ⟨Nat.le_of_ble_eq_true rfl, Nat.le_of_ble_eq_true rfl⟩ rfl rfl ?_
  intro w hP hmd hks hQ
  unfold c_L_eqInode
  simp +decide (maxSteps := 20000000) (disch := omega) only [↓SBK, ↓SBK2, SX, Nat.reduceEqDiff, Nat.reduceAdd, Nat.reduceMul, Nat.reduceSub, ↓reduceIte, Int.reduceNeg, Int.reduceToNat, Int.reducePow, hmd, hks, hQ]
  (first | with_reducible refine if_d _ ?_ ?_ | refine if_i _ ?_ ?_) <;> intro h0
  rotate_left
  · simp +decide (maxSteps := 20000000) (disch := omega) only [↓SBK, ↓SBK2, SX, Nat.reduceEqDiff, Nat.reduceAdd, Nat.reduceMul, Nat.reduceSub, ↓reduceIte, Int.reduceNeg, Int.reduceToNat, Int.reducePow, hmd, hks, hQ]
    rw [decide_eq_false (by rintro rfl; exact h0 rfl)]
  simp +decide (maxSteps := 20000000) (disch := omega) only [↓SBK, ↓SBK2, SX, Nat.reduceEqDiff, Nat.reduceAdd, Nat.reduceMul, Nat.reduceSub, ↓reduceIte, Int.reduceNeg, Int.reduceToNat, Int.reducePow, hmd, hks, hQ]
  (first | with_reducible refine if_d _ ?_ ?_ | refine if_i _ ?_ ?_) <;> intro h1
  rotate_left
  · simp +decide (maxSteps := 20000000) (disch := omega) only [↓SBK, ↓SBK2, SX, Nat.reduceEqDiff, Nat.reduceAdd, Nat.reduceMul, Nat.reduceSub, ↓reduceIte, Int.reduceNeg, Int.reduceToNat, Int.reducePow, hmd, hks, hQ]
    rw [decide_eq_false (by rintro rfl; exact h1 rfl)]
  simp +decide (maxSteps := 20000000) (disch := omega) only [↓SBK, ↓SBK2, SX, Nat.reduceEqDiff, Nat.reduceAdd, Nat.reduceMul, Nat.reduceSub, ↓reduceIte, Int.reduceNeg, Int.reduceToNat, Int.reducePow, hmd, hks, hQ]
  (first | with_reducible refine if_d _ ?_ ?_ | refine if_i _ ?_ ?_) <;> intro h2
  rotate_left
  · simp +decide (maxSteps := 20000000) (disch := omega) only [↓SBK, ↓SBK2, SX, Nat.reduceEqDiff, Nat.reduceAdd, Nat.reduceMul, Nat.reduceSub, ↓reduceIte, Int.reduceNeg, Int.reduceToNat, Int.reducePow, hmd, hks, hQ]
    rw [decide_eq_false (by rintro rfl; exact h2 rfl)]
  simp +decide (maxSteps := 20000000) (disch := omega) only [↓SBK, ↓SBK2, SX, Nat.reduceEqDiff, Nat.reduceAdd, Nat.reduceMul, Nat.reduceSub, ↓reduceIte, Int.reduceNeg, Int.reduceToNat, Int.reducePow, hmd, hks, hQ]
  (first | refine call_i hP (s_eqByteS a.data b.data (by omega)) (.inl ⟨rfl, fun _ hx => nomatch hx⟩) ?_ | refine callH_i hP (s_eqByteS a.data b.data (by omega)) (.inl ⟨rfl, fun _ hx => nomatch hx⟩) ?_)
  simp +decide (maxSteps := 20000000) (disch := omega) only [↓SBK, ↓SBK2, SX, Nat.reduceEqDiff, Nat.reduceAdd, Nat.reduceMul, Nat.reduceSub, ↓reduceIte, Int.reduceNeg, Int.reduceToNat, Int.reducePow, hmd, hks, hQ]
  (first | with_reducible refine if_d _ ?_ ?_ | refine if_i _ ?_ ?_) <;> intro h3
  rotate_left
  · simp +decide (maxSteps := 20000000) (disch := omega) only [↓SBK, ↓SBK2, SX, Nat.reduceEqDiff, Nat.reduceAdd, Nat.reduceMul, Nat.reduceSub, ↓reduceIte, Int.reduceNeg, Int.reduceToNat, Int.reducePow, hmd, hks, hQ]
    rw [decide_eq_false (by rintro rfl; exact h3 rfl)]
  simp +decide (maxSteps := 20000000) (disch := omega) only [↓SBK, ↓SBK2, SX, Nat.reduceEqDiff, Nat.reduceAdd, Nat.reduceMul, Nat.reduceSub, ↓reduceIte, Int.reduceNeg, Int.reduceToNat, Int.reducePow, hmd, hks, hQ]
  (first | refine call_i hP (s_eqEntS a.ents b.ents (by omega)) (.inl ⟨rfl, fun _ hx => nomatch hx⟩) ?_ | refine callH_i hP (s_eqEntS a.ents b.ents (by omega)) (.inl ⟨rfl, fun _ hx => nomatch hx⟩) ?_)
  simp +decide (maxSteps := 20000000) (disch := omega) only [↓SBK, ↓SBK2, SX, Nat.reduceEqDiff, Nat.reduceAdd, Nat.reduceMul, Nat.reduceSub, ↓reduceIte, Int.reduceNeg, Int.reduceToNat, Int.reducePow, hmd, hks, hQ]
  (first | with_reducible refine if_d _ ?_ ?_ | refine if_i _ ?_ ?_) <;> intro h4
  rotate_left
  · simp +decide (maxSteps := 20000000) (disch := omega) only [↓SBK, ↓SBK2, SX, Nat.reduceEqDiff, Nat.reduceAdd, Nat.reduceMul, Nat.reduceSub, ↓reduceIte, Int.reduceNeg, Int.reduceToNat, Int.reducePow, hmd, hks, hQ]
    rw [decide_eq_false (by rintro rfl; exact h4 rfl)]
  simp +decide (maxSteps := 20000000) (disch := omega) only [↓SBK, ↓SBK2, SX, Nat.reduceEqDiff, Nat.reduceAdd, Nat.reduceMul, Nat.reduceSub, ↓reduceIte, Int.reduceNeg, Int.reduceToNat, Int.reducePow, hmd, hks, hQ]
  (first | refine call_i hP (s_eqAttrS a.attrs b.attrs (by omega)) (.inl ⟨rfl, fun _ hx => nomatch hx⟩) ?_ | refine callH_i hP (s_eqAttrS a.attrs b.attrs (by omega)) (.inl ⟨rfl, fun _ hx => nomatch hx⟩) ?_)
  simp +decide (maxSteps := 20000000) (disch := omega) only [↓SBK, ↓SBK2, SX, Nat.reduceEqDiff, Nat.reduceAdd, Nat.reduceMul, Nat.reduceSub, ↓reduceIte, Int.reduceNeg, Int.reduceToNat, Int.reducePow, hmd, hks, hQ]
  (first | with_reducible refine if_d _ ?_ ?_ | refine if_i _ ?_ ?_) <;> intro h5
  rotate_left
  · simp +decide (maxSteps := 20000000) (disch := omega) only [↓SBK, ↓SBK2, SX, Nat.reduceEqDiff, Nat.reduceAdd, Nat.reduceMul, Nat.reduceSub, ↓reduceIte, Int.reduceNeg, Int.reduceToNat, Int.reducePow, hmd, hks, hQ]
    rw [decide_eq_false (by rintro rfl; exact h5 rfl)]
  simp +decide (maxSteps := 20000000) (disch := omega) only [↓SBK, ↓SBK2, SX, Nat.reduceEqDiff, Nat.reduceAdd, Nat.reduceMul, Nat.reduceSub, ↓reduceIte, Int.reduceNeg, Int.reduceToNat, Int.reducePow, hmd, hks, hQ]
  rw [decide_eq_true (Inode.eq' h0 h1 h2 h3 h4 h5)]

theorem s_eqInodeS (a b : List Inode) (hl : szM Inode.sz a < 2 ^ 40) : Spec Try.prog 82 [.ext 6 (a.map Inode.row), .ext 6 (b.map Inode.row)] (.bool (decide (a = b))) [.undef, .undef] := by
  simp only [szM] at hl
  refine spec_C hmx p_L_eqInodeS [] 51 [] ⟨Nat.le_of_ble_eq_true rfl, Nat.le_of_ble_eq_true rfl⟩ rfl rfl ?_
  intro w hP hmd hks hQ
  unfold c_L_eqInodeS
  simp +decide (maxSteps := 20000000) (disch := omega) only [↓SBK, ↓SBK2, SX, Nat.reduceEqDiff, Nat.reduceAdd, Nat.reduceMul, Nat.reduceSub, ↓reduceIte, Int.reduceNeg, Int.reduceToNat, Int.reducePow, hmd, hks, hQ]
  (first | with_reducible refine if_d _ ?_ ?_ | refine if_i _ ?_ ?_) <;> intro h
  rotate_left
  · simp +decide (maxSteps := 20000000) (disch := omega) only [↓SBK, ↓SBK2, SX, Nat.reduceEqDiff, Nat.reduceAdd, Nat.reduceMul, Nat.reduceSub, ↓reduceIte, Int.reduceNeg, Int.reduceToNat, Int.reducePow, hmd, hks, hQ]
    rw [decide_eq_false (by rintro rfl; exact h rfl)]
  simp +decide (maxSteps := 20000000) (disch := omega) only [↓SBK, ↓SBK2, SX, Nat.reduceEqDiff, Nat.reduceAdd, Nat.reduceMul, Nat.reduceSub, ↓reduceIte, Int.reduceNeg, Int.reduceToNat, Int.reducePow, hmd, hks, hQ]
  refine loop_i (fun i : Nat => [(5, .int .i64 i)]) (fun i => i ≤ a.length ∧ a.take i = b.take i) (fun i => a.length - i) (0) hP hmd hks (rfl) (by simp) ?_
  rintro i ⟨hi, hab⟩ w1 hP1 hmd1 hks1 hQ1
  simp +decide (maxSteps := 20000000) (disch := omega) only [↓SBK, ↓SBK2, SX, Nat.reduceEqDiff, Nat.reduceAdd, Nat.reduceMul, Nat.reduceSub, ↓reduceIte, Int.reduceNeg, Int.reduceToNat, Int.reducePow, hmd, hks, hQ, hmd1, hks1, hQ1]
  (first | with_reducible refine if_d _ ?_ ?_ | refine if_i _ ?_ ?_) <;> intro h1
  · simp +decide (maxSteps := 20000000) (disch := omega) only [↓SBK, ↓SBK2, SX, Nat.reduceEqDiff, Nat.reduceAdd, Nat.reduceMul, Nat.reduceSub, ↓reduceIte, Int.reduceNeg, Int.reduceToNat, Int.reducePow, hmd, hks, hQ, hmd1, hks1, hQ1, getE h1, getE (h ▸ h1)]
    (first | refine call_i hP1 (s_eqInode (a[i]'(by omega)) (b[i]'(by omega)) (Nat.lt_of_le_of_lt (sum_get Inode.sz _) (by omega))) (.inl ⟨rfl, fun _ hx => nomatch hx⟩) ?_ | refine callH_i hP1 (s_eqInode (a[i]'(by omega)) (b[i]'(by omega)) (Nat.lt_of_le_of_lt (sum_get Inode.sz _) (by omega))) (.inl ⟨rfl, fun _ hx => nomatch hx⟩) ?_)
    simp +decide (maxSteps := 20000000) (disch := omega) only [↓SBK, ↓SBK2, SX, Nat.reduceEqDiff, Nat.reduceAdd, Nat.reduceMul, Nat.reduceSub, ↓reduceIte, Int.reduceNeg, Int.reduceToNat, Int.reducePow, hmd, hks, hQ, hmd1, hks1, hQ1]
    (first | with_reducible refine if_d _ ?_ ?_ | refine if_i _ ?_ ?_) <;> intro h2
    · simp +decide (maxSteps := 20000000) (disch := omega) only [↓SBK, ↓SBK2, SX, Nat.reduceEqDiff, Nat.reduceAdd, Nat.reduceMul, Nat.reduceSub, ↓reduceIte, Int.reduceNeg, Int.reduceToNat, Int.reducePow, hmd, hks, hQ, hmd1, hks1, hQ1]
      exact ⟨i + 1, rfl, ⟨by omega, take_eq_succ hab _ _ h2⟩, by omega⟩
    · simp +decide (maxSteps := 20000000) (disch := omega) only [↓SBK, ↓SBK2, SX, Nat.reduceEqDiff, Nat.reduceAdd, Nat.reduceMul, Nat.reduceSub, ↓reduceIte, Int.reduceNeg, Int.reduceToNat, Int.reducePow, hmd, hks, hQ, hmd1, hks1, hQ1]
      rw [decide_eq_false (by rintro rfl; exact h2 rfl)]
  · simp +decide (maxSteps := 20000000) (disch := omega) only [↓SBK, ↓SBK2, SX, Nat.reduceEqDiff, Nat.reduceAdd, Nat.reduceMul, Nat.reduceSub, ↓reduceIte, Int.reduceNeg, Int.reduceToNat, Int.reducePow, hmd, hks, hQ, hmd1, hks1, hQ1]
    rw [decide_eq_true (take_all hab (by omega) (by omega))]

theorem s_eqTab (a b : Tab) (hl : a.sz < 2 ^ 40) : Spec Try.prog 61 [a.x, b.x] (.bool (decide (a = b))) [.undef, .undef] := by
  simp only [Tab.sz] at hl
  refine spec_C hmx p_L_eqTab [] 31 [] ⟨Nat.le_of_ble_eq_true rfl, Nat.le_of_ble_eq_true rfl⟩ rfl rfl ?_
  intro w hP hmd hks hQ
  unfold c_L_eqTab
  simp +decide (maxSteps := 20000000) (disch := omega) only [↓SBK, ↓SBK2, SX, Nat.reduceEqDiff, Nat.reduceAdd, Nat.reduceMul, Nat.reduceSub, ↓reduceIte, Int.reduceNeg, Int.reduceToNat, Int.reducePow, hmd, hks, hQ]
  (first | refine call_i hP (s_eqInodeS a.inodes b.inodes (by omega)) (.inl ⟨rfl, fun _ hx => nomatch hx⟩) ?_ | refine callH_i hP (s_eqInodeS a.inodes b.inodes (by omega)) (.inl ⟨rfl, fun _ hx => nomatch hx⟩) ?_)
  simp +decide (maxSteps := 20000000) (disch := omega) only [↓SBK, ↓SBK2, SX, Nat.reduceEqDiff, Nat.reduceAdd, Nat.reduceMul, Nat.reduceSub, ↓reduceIte, Int.reduceNeg, Int.reduceToNat, Int.reducePow, hmd, hks, hQ]
  (first | with_reducible refine if_d _ ?_ ?_ | refine if_i _ ?_ ?_) <;> intro h0
  rotate_left
  · simp +decide (maxSteps := 20000000) (disch := omega) only [↓SBK, ↓SBK2, SX, Nat.reduceEqDiff, Nat.reduceAdd, Nat.reduceMul, Nat.reduceSub, ↓reduceIte, Int.reduceNeg, Int.reduceToNat, Int.reducePow, hmd, hks, hQ]
    rw [decide_eq_false (by rintro rfl; exact h0 rfl)]
  simp +decide (maxSteps := 20000000) (disch := omega) only [↓SBK, ↓SBK2, SX, Nat.reduceEqDiff, Nat.reduceAdd, Nat.reduceMul, Nat.reduceSub, ↓reduceIte, Int.reduceNeg, Int.reduceToNat, Int.reducePow, hmd, hks, hQ]
  (first | with_reducible refine if_d _ ?_ ?_ | refine if_i _ ?_ ?_) <;> intro h1
  rotate_left
  · simp +decide (maxSteps := 20000000) (disch := omega) only [↓SBK, ↓SBK2, SX, Nat.reduceEqDiff, Nat.reduceAdd, Nat.reduceMul, Nat.reduceSub, ↓reduceIte, Int.reduceNeg, Int.reduceToNat, Int.reducePow, hmd, hks, hQ]
    rw [decide_eq_false (by rintro rfl; exact h1 rfl)]
  simp +decide (maxSteps := 20000000) (disch := omega) only [↓SBK, ↓SBK2, SX, Nat.reduceEqDiff, Nat.reduceAdd, Nat.reduceMul, Nat.reduceSub, ↓reduceIte, Int.reduceNeg, Int.reduceToNat, Int.reducePow, hmd, hks, hQ]
  rw [decide_eq_true (Tab.eq' h0 h1)]

theorem s_eqVol (a b : Vol) (hl : a.sz < 2 ^ 40) : Spec Try.prog 44 [a.x, b.x] (.bool (decide (a = b))) [.undef, .undef] := by
  simp only [Vol.sz] at hl
  refine spec_C hmx p_L_eqVol [] 31 [] ⟨Nat.le_of_ble_eq_true rfl, Nat.le_of_ble_eq_true rfl⟩ rfl rfl ?_
  intro w hP hmd hks hQ
  unfold c_L_eqVol
  simp +decide (maxSteps := 20000000) (disch := omega) only [↓SBK, ↓SBK2, SX, Nat.reduceEqDiff, Nat.reduceAdd, Nat.reduceMul, Nat.reduceSub, ↓reduceIte, Int.reduceNeg, Int.reduceToNat, Int.reducePow, hmd, hks, hQ]
  (first | with_reducible refine if_d _ ?_ ?_ | refine if_i _ ?_ ?_) <;> intro h0
  rotate_left
  · simp +decide (maxSteps := 20000000) (disch := omega) only [↓SBK, ↓SBK2, SX, Nat.reduceEqDiff, Nat.reduceAdd, Nat.reduceMul, Nat.reduceSub, ↓reduceIte, Int.reduceNeg, Int.reduceToNat, Int.reducePow, hmd, hks, hQ]
    rw [decide_eq_false (by rintro rfl; exact h0 rfl)]
  simp +decide (maxSteps := 20000000) (disch := omega) only [↓SBK, ↓SBK2, SX, Nat.reduceEqDiff, Nat.reduceAdd, Nat.reduceMul, Nat.reduceSub, ↓reduceIte, Int.reduceNeg, Int.reduceToNat, Int.reducePow, hmd, hks, hQ]
  (first | with_reducible refine if_d _ ?_ ?_ | refine if_i _ ?_ ?_) <;> intro h1
  rotate_left
  · simp +decide (maxSteps := 20000000) (disch := omega) only [↓SBK, ↓SBK2, SX, Nat.reduceEqDiff, Nat.reduceAdd, Nat.reduceMul, Nat.reduceSub, ↓reduceIte, Int.reduceNeg, Int.reduceToNat, Int.reducePow, hmd, hks, hQ]
    rw [decide_eq_false (by rintro rfl; exact h1 rfl)]
  simp +decide (maxSteps := 20000000) (disch := omega) only [↓SBK, ↓SBK2, SX, Nat.reduceEqDiff, Nat.reduceAdd, Nat.reduceMul, Nat.reduceSub, ↓reduceIte, Int.reduceNeg, Int.reduceToNat, Int.reducePow, hmd, hks, hQ]
  (first | with_reducible refine if_d _ ?_ ?_ | refine if_i _ ?_ ?_) <;> intro h2
  rotate_left
  · simp +decide (maxSteps := 20000000) (disch := omega) only [↓SBK, ↓SBK2, SX, Nat.reduceEqDiff, Nat.reduceAdd, Nat.reduceMul, Nat.reduceSub, ↓reduceIte, Int.reduceNeg, Int.reduceToNat, Int.reducePow, hmd, hks, hQ]
    rw [decide_eq_false (by rintro rfl; exact h2 rfl)]
  simp +decide (maxSteps := 20000000) (disch := omega) only [↓SBK, ↓SBK2, SX, Nat.reduceEqDiff, Nat.reduceAdd, Nat.reduceMul, Nat.reduceSub, ↓reduceIte, Int.reduceNeg, Int.reduceToNat, Int.reducePow, hmd, hks, hQ]
  (first | with_reducible refine if_d _ ?_ ?_ | refine if_i _ ?_ ?_) <;> intro h3
  rotate_left
  · simp +decide (maxSteps := 20000000) (disch := omega) only [↓SBK, ↓SBK2, SX, Nat.reduceEqDiff, Nat.reduceAdd, Nat.reduceMul, Nat.reduceSub, ↓reduceIte, Int.reduceNeg, Int.reduceToNat, Int.reducePow, hmd, hks, hQ]
    rw [decide_eq_false (by rintro rfl; exact h3 rfl)]
  simp +decide (maxSteps := 20000000) (disch := omega) only [↓SBK, ↓SBK2, SX, Nat.reduceEqDiff, Nat.reduceAdd, Nat.reduceMul, Nat.reduceSub, ↓reduceIte, Int.reduceNeg, Int.reduceToNat, Int.reducePow, hmd, hks, hQ]
  (first | refine call_i hP (s_eqTab a.t b.t (by omega)) (.inl ⟨rfl, fun _ hx => nomatch hx⟩) ?_ | refine callH_i hP (s_eqTab a.t b.t (by omega)) (.inl ⟨rfl, fun _ hx => nomatch hx⟩) ?_)
  simp +decide (maxSteps := 20000000) (disch := omega) only [↓SBK, ↓SBK2, SX, Nat.reduceEqDiff, Nat.reduceAdd, Nat.reduceMul, Nat.reduceSub, ↓reduceIte, Int.reduceNeg, Int.reduceToNat, Int.reducePow, hmd, hks, hQ]
  (first | with_reducible refine if_d _ ?_ ?_ | refine if_i _ ?_ ?_) <;> intro h4
  rotate_left
  · simp +decide (maxSteps := 20000000) (disch := omega) only [↓SBK, ↓SBK2, SX, Nat.reduceEqDiff, Nat.reduceAdd, Nat.reduceMul, Nat.reduceSub, ↓reduceIte, Int.reduceNeg, Int.reduceToNat, Int.reducePow, hmd, hks, hQ]
    rw [decide_eq_false (by rintro rfl; exact h4 rfl)]
  simp +decide (maxSteps := 20000000) (disch := omega) only [↓SBK, ↓SBK2, SX, Nat.reduceEqDiff, Nat.reduceAdd, Nat.reduceMul, Nat.reduceSub, ↓reduceIte, Int.reduceNeg, Int.reduceToNat, Int.reducePow, hmd, hks, hQ]
  rw [decide_eq_true (Vol.eq' h0 h1 h2 h3 h4)]

theorem s_eqVolS (a b : List Vol) (hl : szM Vol.sz a < 2 ^ 40) : Spec Try.prog 23 [.ext 6 (a.map Vol.row), .ext 6 (b.map Vol.row)] (.bool (decide (a = b))) [.undef, .undef] := by
  simp only [szM] at hl
  refine spec_C hmx p_L_eqVolS [] 51 [] ⟨Nat.le_of_ble_eq_true rfl, Nat.le_of_ble_eq_true rfl⟩ rfl rfl ?_
  intro w hP hmd hks hQ
  unfold c_L_eqVolS
  simp +decide (maxSteps := 20000000) (disch := omega) only [↓SBK, ↓SBK2, SX, Nat.reduceEqDiff, Nat.reduceAdd, Nat.reduceMul, Nat.reduceSub, ↓reduceIte, Int.reduceNeg, Int.reduceToNat, Int.reducePow, hmd, hks, hQ]
  (first | with_reducible refine if_d _ ?_ ?_ | refine if_i _ ?_ ?_) <;> intro h
  rotate_left
  · simp +decide (maxSteps := 20000000) (disch := omega) only [↓SBK, ↓SBK2, SX, Nat.reduceEqDiff, Nat.reduceAdd, Nat.reduceMul, Nat.reduceSub, ↓reduceIte, Int.reduceNeg, Int.reduceToNat, Int.reducePow, hmd, hks, hQ]
    rw [decide_eq_false (by rintro rfl; exact h rfl)]
  simp +decide (maxSteps := 20000000) (disch := omega) only [↓SBK, ↓SBK2, SX, Nat.reduceEqDiff, Nat.reduceAdd, Nat.reduceMul, Nat.reduceSub, ↓reduceIte, Int.reduceNeg, Int.reduceToNat, Int.reducePow, hmd, hks, hQ]
  refine loop_i (fun i : Nat => [(5, .int .i64 i)]) (fun i => i ≤ a.length ∧ a.take i = b.take i) (fun i => a.length - i) (0) hP hmd hks (rfl) (by simp) ?_
  rintro i ⟨hi, hab⟩ w1 hP1 hmd1 hks1 hQ1
  simp +decide (maxSteps := 20000000) (disch := omega) only [↓SBK, ↓SBK2, SX, Nat.reduceEqDiff, Nat.reduceAdd, Nat.reduceMul, Nat.reduceSub, ↓reduceIte, Int.reduceNeg, Int.reduceToNat, Int.reducePow, hmd, hks, hQ, hmd1, hks1, hQ1]
  (first | with_reducible refine if_d _ ?_ ?_ | refine if_i _ ?_ ?_) <;> intro h1
  · simp +decide (maxSteps := 20000000) (disch := omega) only [↓SBK, ↓SBK2, SX, Nat.reduceEqDiff, Nat.reduceAdd, Nat.reduceMul, Nat.reduceSub, ↓reduceIte, Int.reduceNeg, Int.reduceToNat, Int.reducePow, hmd, hks, hQ, hmd1, hks1, hQ1, getE h1, getE (h ▸ h1)]
    (first | refine call_i hP1 (s_eqVol (a[i]'(by omega)) (b[i]'(by omega)) (Nat.lt_of_le_of_lt (sum_get Vol.sz _) (by omega))) (.inl ⟨rfl, fun _ hx => nomatch hx⟩) ?_ | refine callH_i hP1 (s_eqVol (a[i]'(by omega)) (b[i]'(by omega)) (Nat.lt_of_le_of_lt (sum_get Vol.sz _) (by omega))) (.inl ⟨rfl, fun _ hx => nomatch hx⟩) ?_)
    simp +decide (maxSteps := 20000000) (disch := omega) only [↓SBK, ↓SBK2, SX, Nat.reduceEqDiff, Nat.reduceAdd, Nat.reduceMul, Nat.reduceSub, ↓reduceIte, Int.reduceNeg, Int.reduceToNat, Int.reducePow, hmd, hks, hQ, hmd1, hks1, hQ1]
    (first | with_reducible refine if_d _ ?_ ?_ | refine if_i _ ?_ ?_) <;> intro h2
    · simp +decide (maxSteps := 20000000) (disch := omega) only [↓SBK, ↓SBK2, SX, Nat.reduceEqDiff, Nat.reduceAdd, Nat.reduceMul, Nat.reduceSub, ↓reduceIte, Int.reduceNeg, Int.reduceToNat, Int.reducePow, hmd, hks, hQ, hmd1, hks1, hQ1]
      exact ⟨i + 1, rfl, ⟨by omega, take_eq_succ hab _ _ h2⟩, by omega⟩
    · simp +decide (maxSteps := 20000000) (disch := omega) only [↓SBK, ↓SBK2, SX, Nat.reduceEqDiff, Nat.reduceAdd, Nat.reduceMul, Nat.reduceSub, ↓reduceIte, Int.reduceNeg, Int.reduceToNat, Int.reducePow, hmd, hks, hQ, hmd1, hks1, hQ1]
      rw [decide_eq_false (by rintro rfl; exact h2 rfl)]
  · simp +decide (maxSteps := 20000000) (disch := omega) only [↓SBK, ↓SBK2, SX, Nat.reduceEqDiff, Nat.reduceAdd, Nat.reduceMul, Nat.reduceSub, ↓reduceIte, Int.reduceNeg, Int.reduceToNat, Int.reducePow, hmd, hks, hQ, hmd1, hks1, hQ1]
    rw [decide_eq_true (take_all hab (by omega) (by omega))]

theorem s_eqFs (a b : Fs) (hl : a.sz < 2 ^ 40) : Spec Try.prog 10 [a.x, b.x] (.bool (decide (a = b))) [.undef, .undef] := by
  simp only [Fs.sz] at hl
  refine spec_C hmx p_L_eqFs [] 31 [] ⟨Nat.le_of_ble_eq_true rfl, Nat.le_of_ble_eq_true rfl⟩ rfl rfl ?_
  intro w hP hmd hks hQ
  unfold c_L_eqFs
  simp +decide (maxSteps := 20000000) (disch := omega) only [↓SBK, ↓SBK2, SX, Nat.reduceEqDiff, Nat.reduceAdd, Nat.reduceMul, Nat.reduceSub, ↓reduceIte, Int.reduceNeg, Int.reduceToNat, Int.reducePow, hmd, hks, hQ]
  (first | refine call_i hP (s_eqVolS a.vols b.vols (by omega)) (.inl ⟨rfl, fun _ hx => nomatch hx⟩) ?_ | refine callH_i hP (s_eqVolS a.vols b.vols (by omega)) (.inl ⟨rfl, fun _ hx => nomatch hx⟩) ?_)
  simp +decide (maxSteps := 20000000) (disch := omega) only [↓SBK, ↓SBK2, SX, Nat.reduceEqDiff, Nat.reduceAdd, Nat.reduceMul, Nat.reduceSub, ↓reduceIte, Int.reduceNeg, Int.reduceToNat, Int.reducePow, hmd, hks, hQ]
  (first | with_reducible refine if_d _ ?_ ?_ | refine if_i _ ?_ ?_) <;> intro h0
  rotate_left
  · simp +decide (maxSteps := 20000000) (disch := omega) only [↓SBK, ↓SBK2, SX, Nat.reduceEqDiff, Nat.reduceAdd, Nat.reduceMul, Nat.reduceSub, ↓reduceIte, Int.reduceNeg, Int.reduceToNat, Int.reducePow, hmd, hks, hQ]
    rw [decide_eq_false (by rintro rfl; exact h0 rfl)]
  simp +decide (maxSteps := 20000000) (disch := omega) only [↓SBK, ↓SBK2, SX, Nat.reduceEqDiff, Nat.reduceAdd, Nat.reduceMul, Nat.reduceSub, ↓reduceIte, Int.reduceNeg, Int.reduceToNat, Int.reducePow, hmd, hks, hQ]
  (first | with_reducible refine if_d _ ?_ ?_ | refine if_i _ ?_ ?_) <;> intro h1
  rotate_left
  · simp +decide (maxSteps := 20000000) (disch := omega) only [↓SBK, ↓SBK2, SX, Nat.reduceEqDiff, Nat.reduceAdd, Nat.reduceMul, Nat.reduceSub, ↓reduceIte, Int.reduceNeg, Int.reduceToNat, Int.reducePow, hmd, hks, hQ]
    rw [decide_eq_false (by rintro rfl; exact h1 rfl)]
  simp +decide (maxSteps := 20000000) (disch := omega) only [↓SBK, ↓SBK2, SX, Nat.reduceEqDiff, Nat.reduceAdd, Nat.reduceMul, Nat.reduceSub, ↓reduceIte, Int.reduceNeg, Int.reduceToNat, Int.reducePow, hmd, hks, hQ]
  rw [decide_eq_true (Fs.eq' h0 h1)]
end Go.Proofs.Ytjmnolhflcjpgaa.Awp

namespace Go.Proofs.Ytjmnolhflcjpgaa.Awp
open Go.Proofs
set_option linter.unusedSimpArgs false
set_option linter.unusedVariables false
set_option maxRecDepth 100000
set_option maxHeartbeats 20000000

end Go.Proofs.Ytjmnolhflcjpgaa.Awp

namespace Go.Proofs.Ytjmnolhflcjpgaa.Awp
open Go.Proofs
set_option linter.unusedSimpArgs false
set_option linter.unusedVariables false
set_option maxRecDepth 100000
set_option maxHeartbeats 20000000

end Go.Proofs.Ytjmnolhflcjpgaa.Awp

namespace Go.Proofs.Ytjmnolhflcjpgaa.Awp
open Go.Proofs
set_option linter.unusedSimpArgs false
set_option linter.unusedVariables false
set_option maxRecDepth 100000
set_option maxHeartbeats 20000000

theorem digB_0 : digB 0 = [] := by rw [digB]; simp
theorem digB_pos {n : Nat} (h : 0 < n) : digB n = digB (n / 10) ++ [UInt8.ofNat (48 + n % 10)] := by rw [digB, dif_neg (by omega)]
theorem digB_len (n : Nat) : (digB n).length ≤ n := by
  induction n using Nat.strongRecOn with
  | _ n ih =>
    by_cases h : n = 0
    · subst h; rw [digB_0]; simp
    · rw [digB_pos (by omega), List.length_append]
      have := ih (n / 10) (by omega)
      simp only [List.length_cons, List.length_nil]; omega
theorem rb2 (m : Nat) : rowsBytes [[.int .u8 (48 + ((m % 10 : Nat) : Int))]] = some [UInt8.ofNat (48 + m % 10)] := by
  have : (48 + ((m % 10 : Nat) : Int)).toNat = 48 + m % 10 := by omega
  simp only [rowsBytes, rowByte, this, Option.bind_some, Option.map_some]
theorem s_markText (k : Int) (h0 : 0 ≤ k) (hl : k < 2 ^ 40) : Spec Try.prog 45 [.int .i64 k] (.str (markText k)) [.undef] := by
  obtain ⟨n, rfl⟩ : ∃ n : Nat, k = n := ⟨k.toNat, by omega⟩
  have hn : n < 2 ^ 40 := by omega
  refine spec_C hmx p_L_markText [] 13 [] ⟨Nat.le_of_ble_eq_true rfl, Nat.le_of_ble_eq_true rfl⟩ rfl rfl ?_
  intro w hP hmd hks hQ
  unfold c_L_markText
  simp +decide (maxSteps := 20000000) (disch := omega) only [↓SBK, ↓SBK2, SX, Nat.reduceEqDiff, Nat.reduceAdd, Nat.reduceMul, Nat.reduceSub, ↓reduceIte, Int.reduceNeg, Int.reduceToNat, Int.reducePow, hmd, hks, hQ]
  (first | with_reducible refine if_d _ ?_ ?_ | refine if_i _ ?_ ?_) <;> intro h
  · have : n = 0 := by omega
    subst this
    simp +decide (maxSteps := 20000000) (disch := omega) only [↓SBK, ↓SBK2, SX, Nat.reduceEqDiff, Nat.reduceAdd, Nat.reduceMul, Nat.reduceSub, ↓reduceIte, Int.reduceNeg, Int.reduceToNat, Int.reducePow, hmd, hks, hQ]
    rfl
  · simp +decide (maxSteps := 20000000) (disch := omega) only [↓SBK, ↓SBK2, SX, Nat.reduceEqDiff, Nat.reduceAdd, Nat.reduceMul, Nat.reduceSub, ↓reduceIte, Int.reduceNeg, Int.reduceToNat, Int.reducePow, hmd, hks, hQ]
    refine LH_D [] ?_
    simp +decide (maxSteps := 20000000) (disch := omega) only [↓SBK, ↓SBK2, SX, Nat.reduceEqDiff, Nat.reduceAdd, Nat.reduceMul, Nat.reduceSub, ↓reduceIte, Int.reduceNeg, Int.reduceToNat, Int.reducePow, hmd, hks, hQ]
    refine loop_d [] (fun s : Nat × Bytes => [(0, .int .i64 s.1), (3, .str s.2)]) (fun s => digB n = digB s.1 ++ s.2 ∧ s.1 < 2 ^ 40) (fun s => s.1) ((n, [])) hP hmd hks (rfl) (by simp; exact hn) ?_
    rintro ⟨m, s⟩ ⟨hd, hm⟩ w1 hP1 hmd1 hks1 hQ1
    simp +decide (maxSteps := 20000000) (disch := omega) only [↓SBK, ↓SBK2, SX, Nat.reduceEqDiff, Nat.reduceAdd, Nat.reduceMul, Nat.reduceSub, ↓reduceIte, Int.reduceNeg, Int.reduceToNat, Int.reducePow, hmd, hks, hQ, hmd1, hks1, hQ1]
    simp only at hd hm
    have hlen : s.length ≤ n := by
      have := digB_len n
      rw [hd, List.length_append] at this
      omega
    (first | with_reducible refine if_d _ ?_ ?_ | refine if_i _ ?_ ?_) <;> intro h1
    · have e1 : ((m : Int).tmod 10) = ((m % 10 : Nat) : Int) := rfl
      have e2 : ((m : Int).tdiv 10) = ((m / 10 : Nat) : Int) := rfl
      simp +decide (maxSteps := 20000000) (disch := omega) only [↓SBK, ↓SBK2, SX, Nat.reduceEqDiff, Nat.reduceAdd, Nat.reduceMul, Nat.reduceSub, ↓reduceIte, Int.reduceNeg, Int.reduceToNat, Int.reducePow, hmd, hks, hQ, hmd1, hks1, hQ1, e1, e2, rb2]
      exact ⟨(m / 10, UInt8.ofNat (48 + m % 10) :: s), rfl, ⟨by rw [hd, digB_pos (by omega)]; simp, by simp only; omega⟩, by simp only; omega⟩
    · obtain rfl : m = 0 := by omega
      rw [digB_0, List.nil_append] at hd
      simp +decide (maxSteps := 20000000) (disch := omega) only [↓SBK, ↓SBK2, SX, Nat.reduceEqDiff, Nat.reduceAdd, Nat.reduceMul, Nat.reduceSub, ↓reduceIte, Int.reduceNeg, Int.reduceToNat, Int.reducePow, hmd, hks, hQ, hmd1, hks1, hQ1]
      rw [markText, if_neg (by omega), Int.toNat_natCast, hd]
end Go.Proofs.Ytjmnolhflcjpgaa.Awp

namespace Go.Proofs.Ytjmnolhflcjpgaa.Awp
open Go.Proofs
set_option linter.unusedSimpArgs false
set_option linter.unusedVariables false
set_option maxRecDepth 100000
set_option maxHeartbeats 20000000

theorem s_markEntS (a : List Ent) (k : Int) (h0 : 0 ≤ k) (hl : k + (cntM Ent.cnt a : Nat) < 2 ^ 40) : Spec Try.prog 63 [.own 2 (a.map Ent.row), .int .i64 k] (.int .i64 (k + (cntM Ent.cnt a : Nat))) [.own 2 ((markL Ent.marked Ent.cnt a k).map Ent.row), .undef] := by
  simp only [cntM] at hl
  have hlen := cnt_len Ent.cnt Ent.cnt1 a
  refine spec_C hmx p_L_markEntS [] 51 [true, false] ⟨Nat.le_of_ble_eq_true rfl, Nat.le_of_ble_eq_true rfl⟩ rfl rfl ?_
  intro w hP hmd hks hQ
  unfold c_L_markEntS
  simp +decide (maxSteps := 20000000) (disch := omega) only [↓SBK, ↓SBK2, SX, Nat.reduceEqDiff, Nat.reduceAdd, Nat.reduceMul, Nat.reduceSub, ↓reduceIte, Int.reduceNeg, Int.reduceToNat, Int.reducePow, hmd, hks, hQ]
  refine loop_i (fun s : Nat × Int => [(1000, .own 2 (mixR Ent.row Ent.marked Ent.cnt a k s.1)), (1, .int .i64 s.2), (5, .int .i64 s.1)]) (fun s => s.1 ≤ a.length ∧ s.2 = k + ((a.take s.1).map Ent.cnt).sum) (fun s => a.length - s.1) ((0, k)) hP hmd hks (by simp +decide (maxSteps := 20000000) (disch := omega) only [↓SBK, ↓SBK2, SX, Nat.reduceEqDiff, Nat.reduceAdd, Nat.reduceMul, Nat.reduceSub, ↓reduceIte, Int.reduceNeg, Int.reduceToNat, Int.reducePow, hmd, hks, hQ, mixR_0]) (by simp) ?_
  rintro ⟨i, c⟩ ⟨hi, hc⟩ w1 hP1 hmd1 hks1 hQ1
  simp +decide (maxSteps := 20000000) (disch := omega) only [↓SBK, ↓SBK2, SX, Nat.reduceEqDiff, Nat.reduceAdd, Nat.reduceMul, Nat.reduceSub, ↓reduceIte, Int.reduceNeg, Int.reduceToNat, Int.reducePow, hmd, hks, hQ, hmd1, hks1, hQ1]
  simp only at hi hc
  (first | with_reducible refine if_d _ ?_ ?_ | refine if_i _ ?_ ?_) <;> intro h1
  · have hs := sum_take Ent.cnt a i (by omega)
    have hs' := sum_take_le Ent.cnt a (i + 1)
    have hn : a[i].cnt = 1 + 1 := rfl
    simp +decide (maxSteps := 20000000) (disch := omega) only [↓SBK, ↓SBK2, SX, Nat.reduceEqDiff, Nat.reduceAdd, Nat.reduceMul, Nat.reduceSub, ↓reduceIte, Int.reduceNeg, Int.reduceToNat, Int.reducePow, hmd, hks, hQ, hmd1, hks1, hQ1, getE h1]
    (first | refine call_i hP1 (s_markText (c) (by omega) (by omega)) (.inl ⟨rfl, fun _ hx => nomatch hx⟩) ?_ | refine callH_i hP1 (s_markText (c) (by omega) (by omega)) (.inl ⟨rfl, fun _ hx => nomatch hx⟩) ?_)
    simp +decide (maxSteps := 20000000) (disch := omega) only [↓SBK, ↓SBK2, SX, Nat.reduceEqDiff, Nat.reduceAdd, Nat.reduceMul, Nat.reduceSub, ↓reduceIte, Int.reduceNeg, Int.reduceToNat, Int.reducePow, hmd, hks, hQ, hmd1, hks1, hQ1, getE h1]
    rw [mixR_set _ _ _ _ _ _ (by omega) _ (by subst hc; rfl)]
    exact ⟨(i + 1, c + 1 + 1), rfl, ⟨by simp only; omega, by simp only; omega⟩, by simp only; omega⟩
  · obtain rfl : i = a.length := by omega
    rw [List.take_length] at hc
    simp +decide (maxSteps := 20000000) (disch := omega) only [↓SBK, ↓SBK2, SX, Nat.reduceEqDiff, Nat.reduceAdd, Nat.reduceMul, Nat.reduceSub, ↓reduceIte, Int.reduceNeg, Int.reduceToNat, Int.reducePow, hmd, hks, hQ, hmd1, hks1, hQ1, mixR_all, hc, cntM]

theorem s_markAttrS (a : List Attr) (k : Int) (h0 : 0 ≤ k) (hl : k + (cntM Attr.cnt a : Nat) < 2 ^ 40) : Spec Try.prog 64 [.own 2 (a.map Attr.row), .int .i64 k] (.int .i64 (k + (cntM Attr.cnt a : Nat))) [.own 2 ((markL Attr.marked Attr.cnt a k).map Attr.row), .undef] := by
  simp only [cntM] at hl
  have hlen := cnt_len Attr.cnt Attr.cnt1 a
  refine spec_C hmx p_L_markAttrS [] 51 [true, false] ⟨Nat.le_of_ble_eq_true rfl, Nat.le_of_ble_eq_true rfl⟩ rfl rfl ?_
  intro w hP hmd hks hQ
  unfold c_L_markAttrS
  simp +decide (maxSteps := 20000000) (disch := omega) only [↓SBK, ↓SBK2, SX, Nat.reduceEqDiff, Nat.reduceAdd, Nat.reduceMul, Nat.reduceSub, ↓reduceIte, Int.reduceNeg, Int.reduceToNat, Int.reducePow, hmd, hks, hQ]
  refine loop_i (fun s : Nat × Int => [(1000, .own 2 (mixR Attr.row Attr.marked Attr.cnt a k s.1)), (1, .int .i64 s.2), (5, .int .i64 s.1)]) (fun s => s.1 ≤ a.length ∧ s.2 = k + ((a.take s.1).map Attr.cnt).sum) (fun s => a.length - s.1) ((0, k)) hP hmd hks (by simp +decide (maxSteps := 20000000) (disch := omega) only [↓SBK, ↓SBK2, SX, Nat.reduceEqDiff, Nat.reduceAdd, Nat.reduceMul, Nat.reduceSub, ↓reduceIte, Int.reduceNeg, Int.reduceToNat, Int.reducePow, hmd, hks, hQ, mixR_0]) (by simp) ?_
  rintro ⟨i, c⟩ ⟨hi, hc⟩ w1 hP1 hmd1 hks1 hQ1
  simp +decide (maxSteps := 20000000) (disch := omega) only [↓SBK, ↓SBK2, SX, Nat.reduceEqDiff, Nat.reduceAdd, Nat.reduceMul, Nat.reduceSub, ↓reduceIte, Int.reduceNeg, Int.reduceToNat, Int.reducePow, hmd, hks, hQ, hmd1, hks1, hQ1]
  simp only at hi hc
  (first | with_reducible refine if_d _ ?_ ?_ | refine if_i _ ?_ ?_) <;> intro h1
  · have hs := sum_take Attr.cnt a i (by omega)
    have hs' := sum_take_le Attr.cnt a (i + 1)
    have hn : a[i].cnt = 1 + 1 := rfl
    simp +decide (maxSteps := 20000000) (disch := omega) only [↓SBK, ↓SBK2, SX, Nat.reduceEqDiff, Nat.reduceAdd, Nat.reduceMul, Nat.reduceSub, ↓reduceIte, Int.reduceNeg, Int.reduceToNat, Int.reducePow, hmd, hks, hQ, hmd1, hks1, hQ1, getE h1]
    (first | refine call_i hP1 (s_markText (c) (by omega) (by omega)) (.inl ⟨rfl, fun _ hx => nomatch hx⟩) ?_ | refine callH_i hP1 (s_markText (c) (by omega) (by omega)) (.inl ⟨rfl, fun _ hx => nomatch hx⟩) ?_)
    simp +decide (maxSteps := 20000000) (disch := omega) only [↓SBK, ↓SBK2, SX, Nat.reduceEqDiff, Nat.reduceAdd, Nat.reduceMul, Nat.reduceSub, ↓reduceIte, Int.reduceNeg, Int.reduceToNat, Int.reducePow, hmd, hks, hQ, hmd1, hks1, hQ1, getE h1]
    (first | refine call_i hP1 (s_markText (c + 1) (by omega) (by omega)) (.inl ⟨rfl, fun _ hx => nomatch hx⟩) ?_ | refine callH_i hP1 (s_markText (c + 1) (by omega) (by omega)) (.inl ⟨rfl, fun _ hx => nomatch hx⟩) ?_)
    simp +decide (maxSteps := 20000000) (disch := omega) only [↓SBK, ↓SBK2, SX, Nat.reduceEqDiff, Nat.reduceAdd, Nat.reduceMul, Nat.reduceSub, ↓reduceIte, Int.reduceNeg, Int.reduceToNat, Int.reducePow, hmd, hks, hQ, hmd1, hks1, hQ1, getE h1]
    rw [mixR_set _ _ _ _ _ _ (by omega) _ (by subst hc; rfl)]
    exact ⟨(i + 1, c + 1 + 1), rfl, ⟨by simp only; omega, by simp only; omega⟩, by simp only; omega⟩
  · obtain rfl : i = a.length := by omega
    rw [List.take_length] at hc
    simp +decide (maxSteps := 20000000) (disch := omega) only [↓SBK, ↓SBK2, SX, Nat.reduceEqDiff, Nat.reduceAdd, Nat.reduceMul, Nat.reduceSub, ↓reduceIte, Int.reduceNeg, Int.reduceToNat, Int.reducePow, hmd, hks, hQ, hmd1, hks1, hQ1, mixR_all, hc, cntM]

theorem s_markInodeS (a : List Inode) (k : Int) (h0 : 0 ≤ k) (hl : k + (cntM Inode.cnt a : Nat) < 2 ^ 40) : Spec Try.prog 46 [.own 6 (a.map Inode.row), .int .i64 k] (.int .i64 (k + (cntM Inode.cnt a : Nat))) [.own 6 ((markL Inode.marked Inode.cnt a k).map Inode.row), .undef] := by
  simp only [cntM] at hl
  have hlen := cnt_len Inode.cnt Inode.cnt1 a
  refine spec_C hmx p_L_markInodeS [(62, [.l, .b], []), (63, [.l, .b], []), (64, [.l, .b], [])] 51 [true, false] ⟨Nat.le_of_ble_eq_true rfl, Nat.le_of_ble_eq_true rfl⟩ rfl rfl ?_
  intro w hP hmd hks hQ
  unfold c_L_markInodeS
  simp +decide (maxSteps := 20000000) (disch := omega) only [↓SBK, ↓SBK2, SX, Nat.reduceEqDiff, Nat.reduceAdd, Nat.reduceMul, Nat.reduceSub, ↓reduceIte, Int.reduceNeg, Int.reduceToNat, Int.reducePow, hmd, hks, hQ]
  refine loop_i (fun s : Nat × Int => [(1000, .own 6 (mixR Inode.row Inode.marked Inode.cnt a k s.1)), (1, .int .i64 s.2), (5, .int .i64 s.1)]) (fun s => s.1 ≤ a.length ∧ s.2 = k + ((a.take s.1).map Inode.cnt).sum) (fun s => a.length - s.1) ((0, k)) hP hmd hks (by simp +decide (maxSteps := 20000000) (disch := omega) only [↓SBK, ↓SBK2, SX, Nat.reduceEqDiff, Nat.reduceAdd, Nat.reduceMul, Nat.reduceSub, ↓reduceIte, Int.reduceNeg, Int.reduceToNat, Int.reducePow, hmd, hks, hQ, mixR_0]) (by simp) ?_
  rintro ⟨i, c⟩ ⟨hi, hc⟩ w1 hP1 hmd1 hks1 hQ1
  simp +decide (maxSteps := 20000000) (disch := omega) only [↓SBK, ↓SBK2, SX, Nat.reduceEqDiff, Nat.reduceAdd, Nat.reduceMul, Nat.reduceSub, ↓reduceIte, Int.reduceNeg, Int.reduceToNat, Int.reducePow, hmd, hks, hQ, hmd1, hks1, hQ1]
  simp only at hi hc
  (first | with_reducible refine if_d _ ?_ ?_ | refine if_i _ ?_ ?_) <;> intro h1
  · have hs := sum_take Inode.cnt a i (by omega)
    have hs' := sum_take_le Inode.cnt a (i + 1)
    have hn : a[i].cnt = 1 + 1 + 1 + a[i].data.length + cntM Ent.cnt a[i].ents + cntM Attr.cnt a[i].attrs := rfl
    simp +decide (maxSteps := 20000000) (disch := omega) only [↓SBK, ↓SBK2, SX, Nat.reduceEqDiff, Nat.reduceAdd, Nat.reduceMul, Nat.reduceSub, ↓reduceIte, Int.reduceNeg, Int.reduceToNat, Int.reducePow, hmd, hks, hQ, hmd1, hks1, hQ1, getE h1]
    (first | refine call_i hP1 (s_markByteS a[i].data (c + 1 + 1 + 1) (by omega) (by omega)) (.inl ⟨rfl, fun _ hx => nomatch hx⟩) ?_ | refine callH_i hP1 (s_markByteS a[i].data (c + 1 + 1 + 1) (by omega) (by omega)) (.inl ⟨rfl, fun _ hx => nomatch hx⟩) ?_)
    simp +decide (maxSteps := 20000000) (disch := omega) only [↓SBK, ↓SBK2, SX, Nat.reduceEqDiff, Nat.reduceAdd, Nat.reduceMul, Nat.reduceSub, ↓reduceIte, Int.reduceNeg, Int.reduceToNat, Int.reducePow, hmd, hks, hQ, hmd1, hks1, hQ1, getE h1]
    (first | refine call_i hP1 (s_markEntS a[i].ents (c + 1 + 1 + 1 + (a[i].data.length : Nat)) (by omega) (by omega)) (.inl ⟨rfl, fun _ hx => nomatch hx⟩) ?_ | refine callH_i hP1 (s_markEntS a[i].ents (c + 1 + 1 + 1 + (a[i].data.length : Nat)) (by omega) (by omega)) (.inl ⟨rfl, fun _ hx => nomatch hx⟩) ?_)
    simp +decide (maxSteps := 20000000) (disch := omega) only [↓SBK, ↓SBK2, SX, Nat.reduceEqDiff, Nat.reduceAdd, Nat.reduceMul, Nat.reduceSub, ↓reduceIte, Int.reduceNeg, Int.reduceToNat, Int.reducePow, hmd, hks, hQ, hmd1, hks1, hQ1, getE h1]
    (first | refine call_i hP1 (s_markAttrS a[i].attrs (c + 1 + 1 + 1 + (a[i].data.length : Nat) + (cntM Ent.cnt a[i].ents : Nat)) (by omega) (by omega)) (.inl ⟨rfl, fun _ hx => nomatch hx⟩) ?_ | refine callH_i hP1 (s_markAttrS a[i].attrs (c + 1 + 1 + 1 + (a[i].data.length : Nat) + (cntM Ent.cnt a[i].ents : Nat)) (by omega) (by omega)) (.inl ⟨rfl, fun _ hx => nomatch hx⟩) ?_)
    simp +decide (maxSteps := 20000000) (disch := omega) only [↓SBK, ↓SBK2, SX, Nat.reduceEqDiff, Nat.reduceAdd, Nat.reduceMul, Nat.reduceSub, ↓reduceIte, Int.reduceNeg, Int.reduceToNat, Int.reducePow, hmd, hks, hQ, hmd1, hks1, hQ1, getE h1]
    rw [mixR_set _ _ _ _ _ _ (by omega) _ (by subst hc; rfl)]
    exact ⟨(i + 1, c + 1 + 1 + 1 + (a[i].data.length : Nat) + (cntM Ent.cnt a[i].ents : Nat) + (cntM Attr.cnt a[i].attrs : Nat)), rfl, ⟨by simp only; omega, by simp only; omega⟩, by simp only; omega⟩
  · obtain rfl : i = a.length := by omega
    rw [List.take_length] at hc
    simp +decide (maxSteps := 20000000) (disch := omega) only [↓SBK, ↓SBK2, SX, Nat.reduceEqDiff, Nat.reduceAdd, Nat.reduceMul, Nat.reduceSub, ↓reduceIte, Int.reduceNeg, Int.reduceToNat, Int.reducePow, hmd, hks, hQ, hmd1, hks1, hQ1, mixR_all, hc, cntM]

theorem s_markVolS (a : List Vol) (k : Int) (h0 : 0 ≤ k) (hl : k + (cntM Vol.cnt a : Nat) < 2 ^ 40) : Spec Try.prog 24 [.own 6 (a.map Vol.row), .int .i64 k] (.int .i64 (k + (cntM Vol.cnt a : Nat))) [.own 6 ((markL Vol.marked Vol.cnt a k).map Vol.row), .undef] := by
  simp only [cntM] at hl
  have hlen := cnt_len Vol.cnt Vol.cnt1 a
  refine spec_C hmx p_L_markVolS [(46, [.l, .b], [])] 51 [true, false] ⟨Nat.le_of_ble_eq_true rfl, Nat.le_of_ble_eq_true rfl⟩ rfl rfl ?_
  intro w hP hmd hks hQ
  unfold c_L_markVolS
  simp +decide (maxSteps := 20000000) (disch := omega) only [↓SBK, ↓SBK2, SX, Nat.reduceEqDiff, Nat.reduceAdd, Nat.reduceMul, Nat.reduceSub, ↓reduceIte, Int.reduceNeg, Int.reduceToNat, Int.reducePow, hmd, hks, hQ]
  refine loop_i (fun s : Nat × Int => [(1000, .own 6 (mixR Vol.row Vol.marked Vol.cnt a k s.1)), (1, .int .i64 s.2), (5, .int .i64 s.1)]) (fun s => s.1 ≤ a.length ∧ s.2 = k + ((a.take s.1).map Vol.cnt).sum) (fun s => a.length - s.1) ((0, k)) hP hmd hks (by simp +decide (maxSteps := 20000000) (disch := omega) only [↓SBK, ↓SBK2, SX, Nat.reduceEqDiff, Nat.reduceAdd, Nat.reduceMul, Nat.reduceSub, ↓reduceIte, Int.reduceNeg, Int.reduceToNat, Int.reducePow, hmd, hks, hQ, mixR_0]) (by simp) ?_
  rintro ⟨i, c⟩ ⟨hi, hc⟩ w1 hP1 hmd1 hks1 hQ1
  simp +decide (maxSteps := 20000000) (disch := omega) only [↓SBK, ↓SBK2, SX, Nat.reduceEqDiff, Nat.reduceAdd, Nat.reduceMul, Nat.reduceSub, ↓reduceIte, Int.reduceNeg, Int.reduceToNat, Int.reducePow, hmd, hks, hQ, hmd1, hks1, hQ1]
  simp only at hi hc
  (first | with_reducible refine if_d _ ?_ ?_ | refine if_i _ ?_ ?_) <;> intro h1
  · have hs := sum_take Vol.cnt a i (by omega)
    have hs' := sum_take_le Vol.cnt a (i + 1)
    have hn : a[i].cnt = 1 + 1 + 1 + 1 + cntM Inode.cnt a[i].t.inodes + 1 := rfl
    simp +decide (maxSteps := 20000000) (disch := omega) only [↓SBK, ↓SBK2, SX, Nat.reduceEqDiff, Nat.reduceAdd, Nat.reduceMul, Nat.reduceSub, ↓reduceIte, Int.reduceNeg, Int.reduceToNat, Int.reducePow, hmd, hks, hQ, hmd1, hks1, hQ1, getE h1]
    (first | refine call_i hP1 (s_markText (c + 1) (by omega) (by omega)) (.inl ⟨rfl, fun _ hx => nomatch hx⟩) ?_ | refine callH_i hP1 (s_markText (c + 1) (by omega) (by omega)) (.inl ⟨rfl, fun _ hx => nomatch hx⟩) ?_)
    simp +decide (maxSteps := 20000000) (disch := omega) only [↓SBK, ↓SBK2, SX, Nat.reduceEqDiff, Nat.reduceAdd, Nat.reduceMul, Nat.reduceSub, ↓reduceIte, Int.reduceNeg, Int.reduceToNat, Int.reducePow, hmd, hks, hQ, hmd1, hks1, hQ1, getE h1]
    (first | refine call_i hP1 (s_markInodeS a[i].t.inodes (c + 1 + 1 + 1 + 1) (by omega) (by omega)) (.inl ⟨rfl, fun _ hx => nomatch hx⟩) ?_ | refine callH_i hP1 (s_markInodeS a[i].t.inodes (c + 1 + 1 + 1 + 1) (by omega) (by omega)) (.inl ⟨rfl, fun _ hx => nomatch hx⟩) ?_)
    simp +decide (maxSteps := 20000000) (disch := omega) only [↓SBK, ↓SBK2, SX, Nat.reduceEqDiff, Nat.reduceAdd, Nat.reduceMul, Nat.reduceSub, ↓reduceIte, Int.reduceNeg, Int.reduceToNat, Int.reducePow, hmd, hks, hQ, hmd1, hks1, hQ1, getE h1]
    rw [mixR_set _ _ _ _ _ _ (by omega) _ (by subst hc; rfl)]
    exact ⟨(i + 1, c + 1 + 1 + 1 + 1 + (cntM Inode.cnt a[i].t.inodes : Nat) + 1), rfl, ⟨by simp only; omega, by simp only; omega⟩, by simp only; omega⟩
  · obtain rfl : i = a.length := by omega
    rw [List.take_length] at hc
    simp +decide (maxSteps := 20000000) (disch := omega) only [↓SBK, ↓SBK2, SX, Nat.reduceEqDiff, Nat.reduceAdd, Nat.reduceMul, Nat.reduceSub, ↓reduceIte, Int.reduceNeg, Int.reduceToNat, Int.reducePow, hmd, hks, hQ, hmd1, hks1, hQ1, mixR_all, hc, cntM]

theorem s_markFs (a : Fs) (k : Int) (h0 : 0 ≤ k) (hl : k + (a.cntT : Nat) < 2 ^ 40) : Spec Try.prog 11 [a.o, .int .i64 k] (.int .i64 (k + (a.cntT : Nat))) [(a.markT k).o, .undef] := by
  simp only [Fs.cntT] at hl
  refine spec_C hmx p_L_markFs [(24, [.l, .b], [])] 23 [true, false] ⟨Nat.le_of_ble_eq_true rfl, Nat.le_of_ble_eq_true rfl⟩ rfl rfl ?_
  intro w hP hmd hks hQ
  unfold c_L_markFs
  simp +decide (maxSteps := 20000000) (disch := omega) only [↓SBK, ↓SBK2, SX, Nat.reduceEqDiff, Nat.reduceAdd, Nat.reduceMul, Nat.reduceSub, ↓reduceIte, Int.reduceNeg, Int.reduceToNat, Int.reducePow, hmd, hks, hQ]
  (first | refine call_i hP (s_markVolS a.vols (k) (by omega) (by omega)) (.inl ⟨rfl, fun _ hx => nomatch hx⟩) ?_ | refine callH_i hP (s_markVolS a.vols (k) (by omega) (by omega)) (.inl ⟨rfl, fun _ hx => nomatch hx⟩) ?_)
  simp +decide (maxSteps := 20000000) (disch := omega) only [↓SBK, ↓SBK2, SX, Nat.reduceEqDiff, Nat.reduceAdd, Nat.reduceMul, Nat.reduceSub, ↓reduceIte, Int.reduceNeg, Int.reduceToNat, Int.reducePow, hmd, hks, hQ]
  exact ⟨by simp only [Fs.cntT, Int.natCast_add, Int.add_assoc], rfl⟩
end Go.Proofs.Ytjmnolhflcjpgaa.Awp

namespace Go.Proofs.Ytjmnolhflcjpgaa.Awp
open Go.Proofs
set_option linter.unusedSimpArgs false
set_option linter.unusedVariables false
set_option maxRecDepth 100000
set_option maxHeartbeats 20000000

theorem s_heldEntS (a : List Ent) (k : Int) (h0 : 0 ≤ k) (hl : k + (cntM Ent.cnt a : Nat) < 2 ^ 40) : Spec Try.prog 66 [.ext 2 ((markL Ent.marked Ent.cnt a k).map Ent.row), .int .i64 k] (.int .i64 (k + (cntM Ent.cnt a : Nat))) [.undef, .undef] := by
  simp only [cntM] at hl
  have hlen := cnt_len Ent.cnt Ent.cnt1 a
  refine spec_C hmx p_L_heldEntS [] 51 [] ⟨Nat.le_of_ble_eq_true rfl, Nat.le_of_ble_eq_true rfl⟩ rfl rfl ?_
  intro w hP hmd hks hQ
  unfold c_L_heldEntS
  simp +decide (maxSteps := 20000000) (disch := omega) only [↓SBK, ↓SBK2, SX, Nat.reduceEqDiff, Nat.reduceAdd, Nat.reduceMul, Nat.reduceSub, ↓reduceIte, Int.reduceNeg, Int.reduceToNat, Int.reducePow, hmd, hks, hQ]
  refine loop_i (fun s : Nat × Int => [(1, .int .i64 s.2), (5, .int .i64 s.1)]) (fun s => s.1 ≤ a.length ∧ s.2 = k + ((a.take s.1).map Ent.cnt).sum) (fun s => a.length - s.1) ((0, k)) hP hmd hks (by simp +decide (maxSteps := 20000000) (disch := omega) only [↓SBK, ↓SBK2, SX, Nat.reduceEqDiff, Nat.reduceAdd, Nat.reduceMul, Nat.reduceSub, ↓reduceIte, Int.reduceNeg, Int.reduceToNat, Int.reducePow, hmd, hks, hQ]) (by simp) ?_
  rintro ⟨i, c⟩ ⟨hi, hc⟩ w1 hP1 hmd1 hks1 hQ1
  simp +decide (maxSteps := 20000000) (disch := omega) only [↓SBK, ↓SBK2, SX, Nat.reduceEqDiff, Nat.reduceAdd, Nat.reduceMul, Nat.reduceSub, ↓reduceIte, Int.reduceNeg, Int.reduceToNat, Int.reducePow, hmd, hks, hQ, hmd1, hks1, hQ1]
  simp only at hi hc
  (first | with_reducible refine if_d _ ?_ ?_ | refine if_i _ ?_ ?_) <;> intro h1
  · have hs := sum_take Ent.cnt a i (by omega)
    have hs' := sum_take_le Ent.cnt a (i + 1)
    have hn : a[i].cnt = 1 + 1 := rfl
    simp +decide (maxSteps := 20000000) (disch := omega) only [↓SBK, ↓SBK2, SX, Nat.reduceEqDiff, Nat.reduceAdd, Nat.reduceMul, Nat.reduceSub, ↓reduceIte, Int.reduceNeg, Int.reduceToNat, Int.reducePow, hmd, hks, hQ, hmd1, hks1, hQ1, getE h1, ← hc, Ent.marked]
    (first | refine call_i hP1 (s_markText (c) (by omega) (by omega)) (.inl ⟨rfl, fun _ hx => nomatch hx⟩) ?_ | refine callH_i hP1 (s_markText (c) (by omega) (by omega)) (.inl ⟨rfl, fun _ hx => nomatch hx⟩) ?_)
    simp +decide (maxSteps := 20000000) (disch := omega) only [↓SBK, ↓SBK2, SX, Nat.reduceEqDiff, Nat.reduceAdd, Nat.reduceMul, Nat.reduceSub, ↓reduceIte, Int.reduceNeg, Int.reduceToNat, Int.reducePow, hmd, hks, hQ, hmd1, hks1, hQ1, getE h1, ← hc, Ent.marked]
    exact ⟨(i + 1, c + 1 + 1), rfl, ⟨by simp only; omega, by simp only; omega⟩, by simp only; omega⟩
  · obtain rfl : i = a.length := by omega
    rw [List.take_length] at hc
    simp +decide (maxSteps := 20000000) (disch := omega) only [↓SBK, ↓SBK2, SX, Nat.reduceEqDiff, Nat.reduceAdd, Nat.reduceMul, Nat.reduceSub, ↓reduceIte, Int.reduceNeg, Int.reduceToNat, Int.reducePow, hmd, hks, hQ, hmd1, hks1, hQ1, hc, cntM]

theorem s_heldAttrS (a : List Attr) (k : Int) (h0 : 0 ≤ k) (hl : k + (cntM Attr.cnt a : Nat) < 2 ^ 40) : Spec Try.prog 67 [.ext 2 ((markL Attr.marked Attr.cnt a k).map Attr.row), .int .i64 k] (.int .i64 (k + (cntM Attr.cnt a : Nat))) [.undef, .undef] := by
  simp only [cntM] at hl
  have hlen := cnt_len Attr.cnt Attr.cnt1 a
  refine spec_C hmx p_L_heldAttrS [] 51 [] ⟨Nat.le_of_ble_eq_true rfl, Nat.le_of_ble_eq_true rfl⟩ rfl rfl ?_
  intro w hP hmd hks hQ
  unfold c_L_heldAttrS
  simp +decide (maxSteps := 20000000) (disch := omega) only [↓SBK, ↓SBK2, SX, Nat.reduceEqDiff, Nat.reduceAdd, Nat.reduceMul, Nat.reduceSub, ↓reduceIte, Int.reduceNeg, Int.reduceToNat, Int.reducePow, hmd, hks, hQ]
  refine loop_i (fun s : Nat × Int => [(1, .int .i64 s.2), (5, .int .i64 s.1)]) (fun s => s.1 ≤ a.length ∧ s.2 = k + ((a.take s.1).map Attr.cnt).sum) (fun s => a.length - s.1) ((0, k)) hP hmd hks (by simp +decide (maxSteps := 20000000) (disch := omega) only [↓SBK, ↓SBK2, SX, Nat.reduceEqDiff, Nat.reduceAdd, Nat.reduceMul, Nat.reduceSub, ↓reduceIte, Int.reduceNeg, Int.reduceToNat, Int.reducePow, hmd, hks, hQ]) (by simp) ?_
  rintro ⟨i, c⟩ ⟨hi, hc⟩ w1 hP1 hmd1 hks1 hQ1
  simp +decide (maxSteps := 20000000) (disch := omega) only [↓SBK, ↓SBK2, SX, Nat.reduceEqDiff, Nat.reduceAdd, Nat.reduceMul, Nat.reduceSub, ↓reduceIte, Int.reduceNeg, Int.reduceToNat, Int.reducePow, hmd, hks, hQ, hmd1, hks1, hQ1]
  simp only at hi hc
  (first | with_reducible refine if_d _ ?_ ?_ | refine if_i _ ?_ ?_) <;> intro h1
  · have hs := sum_take Attr.cnt a i (by omega)
    have hs' := sum_take_le Attr.cnt a (i + 1)
    have hn : a[i].cnt = 1 + 1 := rfl
    simp +decide (maxSteps := 20000000) (disch := omega) only [↓SBK, ↓SBK2, SX, Nat.reduceEqDiff, Nat.reduceAdd, Nat.reduceMul, Nat.reduceSub, ↓reduceIte, Int.reduceNeg, Int.reduceToNat, Int.reducePow, hmd, hks, hQ, hmd1, hks1, hQ1, getE h1, ← hc, Attr.marked]
    (first | refine call_i hP1 (s_markText (c) (by omega) (by omega)) (.inl ⟨rfl, fun _ hx => nomatch hx⟩) ?_ | refine callH_i hP1 (s_markText (c) (by omega) (by omega)) (.inl ⟨rfl, fun _ hx => nomatch hx⟩) ?_)
    simp +decide (maxSteps := 20000000) (disch := omega) only [↓SBK, ↓SBK2, SX, Nat.reduceEqDiff, Nat.reduceAdd, Nat.reduceMul, Nat.reduceSub, ↓reduceIte, Int.reduceNeg, Int.reduceToNat, Int.reducePow, hmd, hks, hQ, hmd1, hks1, hQ1, getE h1, ← hc, Attr.marked]
    (first | refine call_i hP1 (s_markText (c + 1) (by omega) (by omega)) (.inl ⟨rfl, fun _ hx => nomatch hx⟩) ?_ | refine callH_i hP1 (s_markText (c + 1) (by omega) (by omega)) (.inl ⟨rfl, fun _ hx => nomatch hx⟩) ?_)
    simp +decide (maxSteps := 20000000) (disch := omega) only [↓SBK, ↓SBK2, SX, Nat.reduceEqDiff, Nat.reduceAdd, Nat.reduceMul, Nat.reduceSub, ↓reduceIte, Int.reduceNeg, Int.reduceToNat, Int.reducePow, hmd, hks, hQ, hmd1, hks1, hQ1, getE h1, ← hc, Attr.marked]
    exact ⟨(i + 1, c + 1 + 1), rfl, ⟨by simp only; omega, by simp only; omega⟩, by simp only; omega⟩
  · obtain rfl : i = a.length := by omega
    rw [List.take_length] at hc
    simp +decide (maxSteps := 20000000) (disch := omega) only [↓SBK, ↓SBK2, SX, Nat.reduceEqDiff, Nat.reduceAdd, Nat.reduceMul, Nat.reduceSub, ↓reduceIte, Int.reduceNeg, Int.reduceToNat, Int.reducePow, hmd, hks, hQ, hmd1, hks1, hQ1, hc, cntM]

theorem s_heldInodeS (a : List Inode) (k : Int) (h0 : 0 ≤ k) (hl : k + (cntM Inode.cnt a : Nat) < 2 ^ 40) : Spec Try.prog 47 [.ext 6 ((markL Inode.marked Inode.cnt a k).map Inode.row), .int .i64 k] (.int .i64 (k + (cntM Inode.cnt a : Nat))) [.undef, .undef] := by
  simp only [cntM] at hl
  have hlen := cnt_len Inode.cnt Inode.cnt1 a
  refine spec_C hmx p_L_heldInodeS [] 51 [] ⟨Nat.le_of_ble_eq_true rfl, Nat.le_of_ble_eq_true rfl⟩ rfl rfl ?_
  intro w hP hmd hks hQ
  unfold c_L_heldInodeS
  simp +decide (maxSteps := 20000000) (disch := omega) only [↓SBK, ↓SBK2, SX, Nat.reduceEqDiff, Nat.reduceAdd, Nat.reduceMul, Nat.reduceSub, ↓reduceIte, Int.reduceNeg, Int.reduceToNat, Int.reducePow, hmd, hks, hQ]
  refine loop_i (fun s : Nat × Int => [(1, .int .i64 s.2), (5, .int .i64 s.1)]) (fun s => s.1 ≤ a.length ∧ s.2 = k + ((a.take s.1).map Inode.cnt).sum) (fun s => a.length - s.1) ((0, k)) hP hmd hks (by simp +decide (maxSteps := 20000000) (disch := omega) only [↓SBK, ↓SBK2, SX, Nat.reduceEqDiff, Nat.reduceAdd, Nat.reduceMul, Nat.reduceSub, ↓reduceIte, Int.reduceNeg, Int.reduceToNat, Int.reducePow, hmd, hks, hQ]) (by simp) ?_
  rintro ⟨i, c⟩ ⟨hi, hc⟩ w1 hP1 hmd1 hks1 hQ1
  simp +decide (maxSteps := 20000000) (disch := omega) only [↓SBK, ↓SBK2, SX, Nat.reduceEqDiff, Nat.reduceAdd, Nat.reduceMul, Nat.reduceSub, ↓reduceIte, Int.reduceNeg, Int.reduceToNat, Int.reducePow, hmd, hks, hQ, hmd1, hks1, hQ1]
  simp only at hi hc
  (first | with_reducible refine if_d _ ?_ ?_ | refine if_i _ ?_ ?_) <;> intro h1
  · have hs := sum_take Inode.cnt a i (by omega)
    have hs' := sum_take_le Inode.cnt a (i + 1)
    have hn : a[i].cnt = 1 + 1 + 1 + a[i].data.length + cntM Ent.cnt a[i].ents + cntM Attr.cnt a[i].attrs := rfl
    simp +decide (maxSteps := 20000000) (disch := omega) only [↓SBK, ↓SBK2, SX, Nat.reduceEqDiff, Nat.reduceAdd, Nat.reduceMul, Nat.reduceSub, ↓reduceIte, Int.reduceNeg, Int.reduceToNat, Int.reducePow, hmd, hks, hQ, hmd1, hks1, hQ1, getE h1, ← hc, Inode.marked]
    (first | refine call_i hP1 (s_heldByteS a[i].data (c + 1 + 1 + 1) (by omega) (by omega)) (.inl ⟨rfl, fun _ hx => nomatch hx⟩) ?_ | refine callH_i hP1 (s_heldByteS a[i].data (c + 1 + 1 + 1) (by omega) (by omega)) (.inl ⟨rfl, fun _ hx => nomatch hx⟩) ?_)
    simp +decide (maxSteps := 20000000) (disch := omega) only [↓SBK, ↓SBK2, SX, Nat.reduceEqDiff, Nat.reduceAdd, Nat.reduceMul, Nat.reduceSub, ↓reduceIte, Int.reduceNeg, Int.reduceToNat, Int.reducePow, hmd, hks, hQ, hmd1, hks1, hQ1, getE h1, ← hc, Inode.marked]
    (first | with_reducible refine if_d _ ?_ ?_ | refine if_i _ ?_ ?_) <;> intro g
    · exfalso; omega
    simp +decide (maxSteps := 20000000) (disch := omega) only [↓SBK, ↓SBK2, SX, Nat.reduceEqDiff, Nat.reduceAdd, Nat.reduceMul, Nat.reduceSub, ↓reduceIte, Int.reduceNeg, Int.reduceToNat, Int.reducePow, hmd, hks, hQ, hmd1, hks1, hQ1, getE h1, ← hc, Inode.marked]
    (first | refine call_i hP1 (s_heldEntS a[i].ents (c + 1 + 1 + 1 + (a[i].data.length : Nat)) (by omega) (by omega)) (.inl ⟨rfl, fun _ hx => nomatch hx⟩) ?_ | refine callH_i hP1 (s_heldEntS a[i].ents (c + 1 + 1 + 1 + (a[i].data.length : Nat)) (by omega) (by omega)) (.inl ⟨rfl, fun _ hx => nomatch hx⟩) ?_)
    simp +decide (maxSteps := 20000000) (disch := omega) only [↓SBK, ↓SBK2, SX, Nat.reduceEqDiff, Nat.reduceAdd, Nat.reduceMul, Nat.reduceSub, ↓reduceIte, Int.reduceNeg, Int.reduceToNat, Int.reducePow, hmd, hks, hQ, hmd1, hks1, hQ1, getE h1, ← hc, Inode.marked]
    (first | with_reducible refine if_d _ ?_ ?_ | refine if_i _ ?_ ?_) <;> intro g
    · exfalso; omega
    simp +decide (maxSteps := 20000000) (disch := omega) only [↓SBK, ↓SBK2, SX, Nat.reduceEqDiff, Nat.reduceAdd, Nat.reduceMul, Nat.reduceSub, ↓reduceIte, Int.reduceNeg, Int.reduceToNat, Int.reducePow, hmd, hks, hQ, hmd1, hks1, hQ1, getE h1, ← hc, Inode.marked]
    (first | refine call_i hP1 (s_heldAttrS a[i].attrs (c + 1 + 1 + 1 + (a[i].data.length : Nat) + (cntM Ent.cnt a[i].ents : Nat)) (by omega) (by omega)) (.inl ⟨rfl, fun _ hx => nomatch hx⟩) ?_ | refine callH_i hP1 (s_heldAttrS a[i].attrs (c + 1 + 1 + 1 + (a[i].data.length : Nat) + (cntM Ent.cnt a[i].ents : Nat)) (by omega) (by omega)) (.inl ⟨rfl, fun _ hx => nomatch hx⟩) ?_)
    simp +decide (maxSteps := 20000000) (disch := omega) only [↓SBK, ↓SBK2, SX, Nat.reduceEqDiff, Nat.reduceAdd, Nat.reduceMul, Nat.reduceSub, ↓reduceIte, Int.reduceNeg, Int.reduceToNat, Int.reducePow, hmd, hks, hQ, hmd1, hks1, hQ1, getE h1, ← hc, Inode.marked]
    (first | with_reducible refine if_d _ ?_ ?_ | refine if_i _ ?_ ?_) <;> intro g
    · exfalso; omega
    simp +decide (maxSteps := 20000000) (disch := omega) only [↓SBK, ↓SBK2, SX, Nat.reduceEqDiff, Nat.reduceAdd, Nat.reduceMul, Nat.reduceSub, ↓reduceIte, Int.reduceNeg, Int.reduceToNat, Int.reducePow, hmd, hks, hQ, hmd1, hks1, hQ1, getE h1, ← hc, Inode.marked]
    exact ⟨(i + 1, c + 1 + 1 + 1 + (a[i].data.length : Nat) + (cntM Ent.cnt a[i].ents : Nat) + (cntM Attr.cnt a[i].attrs : Nat)), rfl, ⟨by simp only; omega, by simp only; omega⟩, by simp only; omega⟩
  · obtain rfl : i = a.length := by omega
    rw [List.take_length] at hc
    simp +decide (maxSteps := 20000000) (disch := omega) only [↓SBK, ↓SBK2, SX, Nat.reduceEqDiff, Nat.reduceAdd, Nat.reduceMul, Nat.reduceSub, ↓reduceIte, Int.reduceNeg, Int.reduceToNat, Int.reducePow, hmd, hks, hQ, hmd1, hks1, hQ1, hc, cntM]

theorem s_heldVolS (a : List Vol) (k : Int) (h0 : 0 ≤ k) (hl : k + (cntM Vol.cnt a : Nat) < 2 ^ 40) : Spec Try.prog 25 [.ext 6 ((markL Vol.marked Vol.cnt a k).map Vol.row), .int .i64 k] (.int .i64 (k + (cntM Vol.cnt a : Nat))) [.undef, .undef] := by
  simp only [cntM] at hl
  have hlen := cnt_len Vol.cnt Vol.cnt1 a
  refine spec_C hmx p_L_heldVolS [] 51 [] ⟨Nat.le_of_ble_eq_true rfl, Nat.le_of_ble_eq_true rfl⟩ rfl rfl ?_
  intro w hP hmd hks hQ
  unfold c_L_heldVolS
  simp +decide (maxSteps := 20000000) (disch := omega) only [↓SBK, ↓SBK2, SX, Nat.reduceEqDiff, Nat.reduceAdd, Nat.reduceMul, Nat.reduceSub, ↓reduceIte, Int.reduceNeg, Int.reduceToNat, Int.reducePow, hmd, hks, hQ]
  refine loop_i (fun s : Nat × Int => [(1, .int .i64 s.2), (5, .int .i64 s.1)]) (fun s => s.1 ≤ a.length ∧ s.2 = k + ((a.take s.1).map Vol.cnt).sum) (fun s => a.length - s.1) ((0, k)) hP hmd hks (by simp +decide (maxSteps := 20000000) (disch := omega) only [↓SBK, ↓SBK2, SX, Nat.reduceEqDiff, Nat.reduceAdd, Nat.reduceMul, Nat.reduceSub, ↓reduceIte, Int.reduceNeg, Int.reduceToNat, Int.reducePow, hmd, hks, hQ]) (by simp) ?_
  rintro ⟨i, c⟩ ⟨hi, hc⟩ w1 hP1 hmd1 hks1 hQ1
  simp +decide (maxSteps := 20000000) (disch := omega) only [↓SBK, ↓SBK2, SX, Nat.reduceEqDiff, Nat.reduceAdd, Nat.reduceMul, Nat.reduceSub, ↓reduceIte, Int.reduceNeg, Int.reduceToNat, Int.reducePow, hmd, hks, hQ, hmd1, hks1, hQ1]
  simp only at hi hc
  (first | with_reducible refine if_d _ ?_ ?_ | refine if_i _ ?_ ?_) <;> intro h1
  · have hs := sum_take Vol.cnt a i (by omega)
    have hs' := sum_take_le Vol.cnt a (i + 1)
    have hn : a[i].cnt = 1 + 1 + 1 + 1 + cntM Inode.cnt a[i].t.inodes + 1 := rfl
    simp +decide (maxSteps := 20000000) (disch := omega) only [↓SBK, ↓SBK2, SX, Nat.reduceEqDiff, Nat.reduceAdd, Nat.reduceMul, Nat.reduceSub, ↓reduceIte, Int.reduceNeg, Int.reduceToNat, Int.reducePow, hmd, hks, hQ, hmd1, hks1, hQ1, getE h1, ← hc, Vol.marked]
    (first | refine call_i hP1 (s_markText (c + 1) (by omega) (by omega)) (.inl ⟨rfl, fun _ hx => nomatch hx⟩) ?_ | refine callH_i hP1 (s_markText (c + 1) (by omega) (by omega)) (.inl ⟨rfl, fun _ hx => nomatch hx⟩) ?_)
    simp +decide (maxSteps := 20000000) (disch := omega) only [↓SBK, ↓SBK2, SX, Nat.reduceEqDiff, Nat.reduceAdd, Nat.reduceMul, Nat.reduceSub, ↓reduceIte, Int.reduceNeg, Int.reduceToNat, Int.reducePow, hmd, hks, hQ, hmd1, hks1, hQ1, getE h1, ← hc, Vol.marked]
    (first | refine call_i hP1 (s_heldInodeS a[i].t.inodes (c + 1 + 1 + 1 + 1) (by omega) (by omega)) (.inl ⟨rfl, fun _ hx => nomatch hx⟩) ?_ | refine callH_i hP1 (s_heldInodeS a[i].t.inodes (c + 1 + 1 + 1 + 1) (by omega) (by omega)) (.inl ⟨rfl, fun _ hx => nomatch hx⟩) ?_)
    simp +decide (maxSteps := 20000000) (disch := omega) only [↓SBK, ↓SBK2, SX, Nat.reduceEqDiff, Nat.reduceAdd, Nat.reduceMul, Nat.reduceSub, ↓reduceIte, Int.reduceNeg, Int.reduceToNat, Int.reducePow, hmd, hks, hQ, hmd1, hks1, hQ1, getE h1, ← hc, Vol.marked]
    (first | with_reducible refine if_d _ ?_ ?_ | refine if_i _ ?_ ?_) <;> intro g
    · exfalso; omega
    simp +decide (maxSteps := 20000000) (disch := omega) only [↓SBK, ↓SBK2, SX, Nat.reduceEqDiff, Nat.reduceAdd, Nat.reduceMul, Nat.reduceSub, ↓reduceIte, Int.reduceNeg, Int.reduceToNat, Int.reducePow, hmd, hks, hQ, hmd1, hks1, hQ1, getE h1, ← hc, Vol.marked]
    exact ⟨(i + 1, c + 1 + 1 + 1 + 1 + (cntM Inode.cnt a[i].t.inodes : Nat) + 1), rfl, ⟨by simp only; omega, by simp only; omega⟩, by simp only; omega⟩
  · obtain rfl : i = a.length := by omega
    rw [List.take_length] at hc
    simp +decide (maxSteps := 20000000) (disch := omega) only [↓SBK, ↓SBK2, SX, Nat.reduceEqDiff, Nat.reduceAdd, Nat.reduceMul, Nat.reduceSub, ↓reduceIte, Int.reduceNeg, Int.reduceToNat, Int.reducePow, hmd, hks, hQ, hmd1, hks1, hQ1, hc, cntM]

theorem s_heldFs (a : Fs) (k : Int) (h0 : 0 ≤ k) (hl : k + (a.cntT : Nat) < 2 ^ 40) : Spec Try.prog 12 [(a.markT k).x, .int .i64 k] (.int .i64 (k + (a.cntT : Nat))) [.undef, .undef] := by
  simp only [Fs.cntT] at hl
  refine spec_C hmx p_L_heldFs [] 23 [] ⟨Nat.le_of_ble_eq_true rfl, Nat.le_of_ble_eq_true rfl⟩ rfl rfl ?_
  intro w hP hmd hks hQ
  unfold c_L_heldFs
  simp +decide (maxSteps := 20000000) (disch := omega) only [↓SBK, ↓SBK2, SX, Nat.reduceEqDiff, Nat.reduceAdd, Nat.reduceMul, Nat.reduceSub, ↓reduceIte, Int.reduceNeg, Int.reduceToNat, Int.reducePow, hmd, hks, hQ]
  (first | refine call_i hP (s_heldVolS a.vols (k) (by omega) (by omega)) (.inl ⟨rfl, fun _ hx => nomatch hx⟩) ?_ | refine callH_i hP (s_heldVolS a.vols (k) (by omega) (by omega)) (.inl ⟨rfl, fun _ hx => nomatch hx⟩) ?_)
  simp +decide (maxSteps := 20000000) (disch := omega) only [↓SBK, ↓SBK2, SX, Nat.reduceEqDiff, Nat.reduceAdd, Nat.reduceMul, Nat.reduceSub, ↓reduceIte, Int.reduceNeg, Int.reduceToNat, Int.reducePow, hmd, hks, hQ]
  (first | with_reducible refine if_d _ ?_ ?_ | refine if_i _ ?_ ?_) <;> intro g
  · exfalso; omega
  simp +decide (maxSteps := 20000000) (disch := omega) only [↓SBK, ↓SBK2, SX, Nat.reduceEqDiff, Nat.reduceAdd, Nat.reduceMul, Nat.reduceSub, ↓reduceIte, Int.reduceNeg, Int.reduceToNat, Int.reducePow, hmd, hks, hQ]
  simp only [Fs.cntT, Int.natCast_add, Int.add_assoc]
end Go.Proofs.Ytjmnolhflcjpgaa.Awp

namespace Go.Proofs.Ytjmnolhflcjpgaa.Awp
open Go.Proofs
set_option linter.unusedSimpArgs false
set_option linter.unusedVariables false
set_option maxRecDepth 100000
set_option maxHeartbeats 20000000

def zFs : Fs := { vols := [], next := 1 }
theorem sS_FsNew : Spec Try.prog 8 [] zFs.o [] := by
  refine spec_C hmx p_S_FsNew [] 1 [] ⟨Nat.le_of_ble_eq_true rfl, Nat.le_of_ble_eq_true rfl⟩ rfl rfl ?_
  intro w hP hmd hks hQ
  unfold c_S_FsNew
  simp +decide (maxSteps := 20000000) (disch := omega) only [↓SBK, ↓SBK2, SX, Nat.reduceEqDiff, Nat.reduceAdd, Nat.reduceMul, Nat.reduceSub, ↓reduceIte, Int.reduceNeg, Int.reduceToNat, Int.reducePow, hmd, hks, hQ]
  rfl
theorem sI_FsNew : Spec Try.prog 9 [] zFs.o [] := by
  refine spec_C hmx p_I_FsNew [] 1 [] ⟨Nat.le_of_ble_eq_true rfl, Nat.le_of_ble_eq_true rfl⟩ rfl rfl ?_
  intro w hP hmd hks hQ
  unfold c_I_FsNew
  simp +decide (maxSteps := 20000000) (disch := omega) only [↓SBK, ↓SBK2, SX, Nat.reduceEqDiff, Nat.reduceAdd, Nat.reduceMul, Nat.reduceSub, ↓reduceIte, Int.reduceNeg, Int.reduceToNat, Int.reducePow, hmd, hks, hQ]
  rfl
/-! ### the place of the first -/
end Go.Proofs.Ytjmnolhflcjpgaa.Awp

namespace Go.Proofs.Ytjmnolhflcjpgaa.Awp
open Go.Proofs
set_option linter.unusedSimpArgs false
set_option linter.unusedVariables false
set_option maxRecDepth 100000
set_option maxHeartbeats 20000000

theorem eqFs_self (d : Fs) (h : d.sz < 2 ^ 40) : Spec Try.prog 10 [d.x, d.x] (.bool true) [.undef, .undef] := by
  have he := s_eqFs d d h
  rwa [decide_eq_true rfl] at he
theorem s_FnExactFsNew : Spec Try.prog 3 [] (.bool true) [] := by
  have g1 : decide (1 + ((zFs.cntT : Nat) : Int) < 0) = false := decide_eq_false (by omega)
  have hs2 : zFs.sz < 2 ^ 40 := by decide
  have hc : zFs.cntT < 2 ^ 30 := by decide
  have hS := sS_FsNew
  have hI := sI_FsNew
  generalize zFs = D at *
  refine spec_C hmx p_L_FnExactFsNew [(11, [.p, .b], [])] 63 [] ⟨Nat.le_of_ble_eq_true rfl, Nat.le_of_ble_eq_true rfl⟩ rfl rfl ?_
  intro w hP hmd hks hQ
  unfold c_L_FnExactFsNew
  simp +decide (maxSteps := 20000000) (disch := omega) only [↓SBK, ↓SBK2, SX, Nat.reduceEqDiff, Nat.reduceAdd, Nat.reduceMul, Nat.reduceSub, ↓reduceIte, Int.reduceNeg, Int.reduceToNat, Int.reducePow, hmd, hks, hQ]
  (first | refine call_i hP (hS) (.inl ⟨rfl, fun _ hx => nomatch hx⟩) ?_ | refine callH_i hP (hS) (.inl ⟨rfl, fun _ hx => nomatch hx⟩) ?_)
  simp +decide (maxSteps := 20000000) (disch := omega) only [↓SBK, ↓SBK2, SX, Nat.reduceEqDiff, Nat.reduceAdd, Nat.reduceMul, Nat.reduceSub, ↓reduceIte, Int.reduceNeg, Int.reduceToNat, Int.reducePow, hmd, hks, hQ]
  (first | refine call_i hP (hI) (.inl ⟨rfl, fun _ hx => nomatch hx⟩) ?_ | refine callH_i hP (hI) (.inl ⟨rfl, fun _ hx => nomatch hx⟩) ?_)
  simp +decide (maxSteps := 20000000) (disch := omega) only [↓SBK, ↓SBK2, SX, Nat.reduceEqDiff, Nat.reduceAdd, Nat.reduceMul, Nat.reduceSub, ↓reduceIte, Int.reduceNeg, Int.reduceToNat, Int.reducePow, hmd, hks, hQ]
  (first | refine call_i hP (eqFs_self D hs2) (.inl ⟨rfl, fun _ hx => nomatch hx⟩) ?_ | refine callH_i hP (eqFs_self D hs2) (.inl ⟨rfl, fun _ hx => nomatch hx⟩) ?_)
  simp +decide (maxSteps := 20000000) (disch := omega) only [↓SBK, ↓SBK2, SX, Nat.reduceEqDiff, Nat.reduceAdd, Nat.reduceMul, Nat.reduceSub, ↓reduceIte, Int.reduceNeg, Int.reduceToNat, Int.reducePow, hmd, hks, hQ]
  (first | refine call_i hP (s_markFs D 1 (by omega) (by omega)) (.inl ⟨rfl, fun _ hx => nomatch hx⟩) ?_ | refine callH_i hP (s_markFs D 1 (by omega) (by omega)) (.inl ⟨rfl, fun _ hx => nomatch hx⟩) ?_)
  simp +decide (maxSteps := 20000000) (disch := omega) only [↓SBK, ↓SBK2, SX, Nat.reduceEqDiff, Nat.reduceAdd, Nat.reduceMul, Nat.reduceSub, ↓reduceIte, Int.reduceNeg, Int.reduceToNat, Int.reducePow, hmd, hks, hQ]
  (first | refine call_i hP (s_heldFs D 1 (by omega) (by omega)) (.inl ⟨rfl, fun _ hx => nomatch hx⟩) ?_ | refine callH_i hP (s_heldFs D 1 (by omega) (by omega)) (.inl ⟨rfl, fun _ hx => nomatch hx⟩) ?_)
  simp +decide (maxSteps := 20000000) (disch := omega) only [↓SBK, ↓SBK2, SX, Nat.reduceEqDiff, Nat.reduceAdd, Nat.reduceMul, Nat.reduceSub, ↓reduceIte, Int.reduceNeg, Int.reduceToNat, Int.reducePow, hmd, hks, hQ, g1]
  (first | refine call_i hP (hI) (.inl ⟨rfl, fun _ hx => nomatch hx⟩) ?_ | refine callH_i hP (hI) (.inl ⟨rfl, fun _ hx => nomatch hx⟩) ?_)
  simp +decide (maxSteps := 20000000) (disch := omega) only [↓SBK, ↓SBK2, SX, Nat.reduceEqDiff, Nat.reduceAdd, Nat.reduceMul, Nat.reduceSub, ↓reduceIte, Int.reduceNeg, Int.reduceToNat, Int.reducePow, hmd, hks, hQ]
  (first | refine call_i hP (eqFs_self D hs2) (.inl ⟨rfl, fun _ hx => nomatch hx⟩) ?_ | refine callH_i hP (eqFs_self D hs2) (.inl ⟨rfl, fun _ hx => nomatch hx⟩) ?_)
  simp +decide (maxSteps := 20000000) (disch := omega) only [↓SBK, ↓SBK2, SX, Nat.reduceEqDiff, Nat.reduceAdd, Nat.reduceMul, Nat.reduceSub, ↓reduceIte, Int.reduceNeg, Int.reduceToNat, Int.reducePow, hmd, hks, hQ]
  (first | refine call_i hP (s_heldFs D 1 (by omega) (by omega)) (.inl ⟨rfl, fun _ hx => nomatch hx⟩) ?_ | refine callH_i hP (s_heldFs D 1 (by omega) (by omega)) (.inl ⟨rfl, fun _ hx => nomatch hx⟩) ?_)
  simp +decide (maxSteps := 20000000) (disch := omega) only [↓SBK, ↓SBK2, SX, Nat.reduceEqDiff, Nat.reduceAdd, Nat.reduceMul, Nat.reduceSub, ↓reduceIte, Int.reduceNeg, Int.reduceToNat, Int.reducePow, hmd, hks, hQ, g1]
end Go.Proofs.Ytjmnolhflcjpgaa.Awp

namespace Go.Proofs.Ytjmnolhflcjpgaa.Awp
open Go.Proofs
set_option linter.unusedSimpArgs false
set_option linter.unusedVariables false

/-! ### what is read of an argument is a value of its type -/
end Go.Proofs.Ytjmnolhflcjpgaa.Awp

namespace Go.Proofs.Ytjmnolhflcjpgaa.Awp
open Go.Proofs Go.Proofs.Ytjmnolhflcjpgaa
set_option linter.unusedSimpArgs false
set_option linter.unusedVariables false
set_option maxRecDepth 100000

theorem own : ownKnob Try.prog.godebug = none := by kernel_rfl
/-- how the text of the program's start goes on -/
def ioTail : List Char := [Char.ofNat 97, Char.ofNat 116, Char.ofNat 32, Char.ofNat 108, Char.ofNat 111, Char.ofNat 111, Char.ofNat 112, Char.ofNat 46, Char.ofNat 101, Char.ofNat 120, Char.ofNat 97, Char.ofNat 109, Char.ofNat 112, Char.ofNat 108, Char.ofNat 101, Char.ofNat 47, Char.ofNat 103, Char.ofNat 48, Char.ofNat 48, Char.ofNat 50, Char.ofNat 56, Char.ofNat 53, Char.ofNat 47, Char.ofNat 108, Char.ofNat 97, Char.ofNat 119, Char.ofNat 115, Char.ofNat 46, Char.ofNat 70, Char.ofNat 110, Char.ofNat 69, Char.ofNat 120, Char.ofNat 97, Char.ofNat 99, Char.ofNat 116, Char.ofNat 70, Char.ofNat 115, Char.ofNat 78, Char.ofNat 101, Char.ofNat 119, Char.ofNat 32, Char.ofNat 108, Char.ofNat 111, Char.ofNat 111, Char.ofNat 112, Char.ofNat 46, Char.ofNat 101, Char.ofNat 120, Char.ofNat 97, Char.ofNat 109, Char.ofNat 112, Char.ofNat 108, Char.ofNat 101, Char.ofNat 47, Char.ofNat 103, Char.ofNat 48, Char.ofNat 48, Char.ofNat 50, Char.ofNat 56, Char.ofNat 53] ++ [Char.ofNat 47, Char.ofNat 108, Char.ofNat 97, Char.ofNat 119, Char.ofNat 115, Char.ofNat 46, Char.ofNat 70, Char.ofNat 110, Char.ofNat 69, Char.ofNat 120, Char.ofNat 97, Char.ofNat 99, Char.ofNat 116, Char.ofNat 86, Char.ofNat 111, Char.ofNat 108, Char.ofNat 65, Char.ofNat 116, Char.ofNat 32, Char.ofNat 108, Char.ofNat 111, Char.ofNat 111, Char.ofNat 112, Char.ofNat 46, Char.ofNat 101, Char.ofNat 120, Char.ofNat 97, Char.ofNat 109, Char.ofNat 112, Char.ofNat 108, Char.ofNat 101, Char.ofNat 47, Char.ofNat 103, Char.ofNat 48, Char.ofNat 48, Char.ofNat 50, Char.ofNat 56, Char.ofNat 53, Char.ofNat 47, Char.ofNat 108, Char.ofNat 97, Char.ofNat 119, Char.ofNat 115, Char.ofNat 46, Char.ofNat 70, Char.ofNat 110, Char.ofNat 69, Char.ofNat 120, Char.ofNat 97, Char.ofNat 99, Char.ofNat 116, Char.ofNat 86, Char.ofNat 111, Char.ofNat 108, Char.ofNat 78, Char.ofNat 97, Char.ofNat 109, Char.ofNat 101, Char.ofNat 100, Char.ofNat 32] ++ [Char.ofNat 108, Char.ofNat 111, Char.ofNat 111, Char.ofNat 112, Char.ofNat 46, Char.ofNat 101, Char.ofNat 120, Char.ofNat 97, Char.ofNat 109, Char.ofNat 112, Char.ofNat 108, Char.ofNat 101, Char.ofNat 47, Char.ofNat 103, Char.ofNat 48, Char.ofNat 48, Char.ofNat 50, Char.ofNat 56, Char.ofNat 53, Char.ofNat 47, Char.ofNat 108, Char.ofNat 97, Char.ofNat 119, Char.ofNat 115, Char.ofNat 46, Char.ofNat 70, Char.ofNat 110, Char.ofNat 69, Char.ofNat 120, Char.ofNat 97, Char.ofNat 99, Char.ofNat 116, Char.ofNat 83, Char.ofNat 97, Char.ofNat 109, Char.ofNat 101, Char.ofNat 70, Char.ofNat 115, Char.ofNat 32, Char.ofNat 108, Char.ofNat 111, Char.ofNat 111, Char.ofNat 112, Char.ofNat 46, Char.ofNat 101, Char.ofNat 120, Char.ofNat 97, Char.ofNat 109, Char.ofNat 112, Char.ofNat 108, Char.ofNat 101, Char.ofNat 47, Char.ofNat 103, Char.ofNat 48, Char.ofNat 48, Char.ofNat 50, Char.ofNat 56, Char.ofNat 53, Char.ofNat 47, Char.ofNat 108] ++ [Char.ofNat 97, Char.ofNat 119, Char.ofNat 115, Char.ofNat 46, Char.ofNat 70, Char.ofNat 110, Char.ofNat 69, Char.ofNat 120, Char.ofNat 97, Char.ofNat 99, Char.ofNat 116, Char.ofNat 70, Char.ofNat 115, Char.ofNat 79, Char.ofNat 107]
def ioSum : List Char := [Char.ofNat 99, Char.ofNat 56, Char.ofNat 48, Char.ofNat 49, Char.ofNat 48, Char.ofNat 51, Char.ofNat 53, Char.ofNat 102, Char.ofNat 56, Char.ofNat 100, Char.ofNat 49, Char.ofNat 50, Char.ofNat 102, Char.ofNat 50, Char.ofNat 55, Char.ofNat 98, Char.ofNat 101, Char.ofNat 55, Char.ofNat 98, Char.ofNat 48, Char.ofNat 102, Char.ofNat 102, Char.ofNat 51, Char.ofNat 100, Char.ofNat 98, Char.ofNat 49, Char.ofNat 49, Char.ofNat 52, Char.ofNat 97, Char.ofNat 100, Char.ofNat 101, Char.ofNat 51, Char.ofNat 52, Char.ofNat 57, Char.ofNat 51, Char.ofNat 102, Char.ofNat 55, Char.ofNat 98, Char.ofNat 52, Char.ofNat 100, Char.ofNat 99, Char.ofNat 54, Char.ofNat 52, Char.ofNat 57, Char.ofNat 48, Char.ofNat 54, Char.ofNat 51, Char.ofNat 57, Char.ofNat 101, Char.ofNat 57, Char.ofNat 102, Char.ofNat 98, Char.ofNat 102, Char.ofNat 54, Char.ofNat 98, Char.ofNat 54, Char.ofNat 102, Char.ofNat 99, Char.ofNat 97, Char.ofNat 51, Char.ofNat 51, Char.ofNat 48, Char.ofNat 99, Char.ofNat 51]
theorem ioText : Try.prog.initOrder = String.ofList ([Char.ofNat 104, Char.ofNat 97, Char.ofNat 114, Char.ofNat 110, Char.ofNat 101, Char.ofNat 115, Char.ofNat 115] ++ (Char.ofNat 32 :: ioSum) ++ [Char.ofNat 32, Char.ofNat 99, Char.ofNat 117, Char.ofNat 116, Char.ofNat 32] ++ ioTail) := by kernel_rfl
theorem ioWords : ∃ r, behindMainWord (wordsSigns Try.prog.initOrder.toList) = [Char.ofNat 99, Char.ofNat 117, Char.ofNat 116] :: r := by
  rw [ioText, String.toList_ofList]
  exact ⟨wordsSigns ioTail, by kernel_rfl⟩
theorem f_laid : (laidOutB Try.prog) = true := by kernel_rfl
theorem f_maps : (mapsRowed Try.prog) = true := by kernel_rfl
theorem f_stops : ((Try.prog.stops == [])) = true := by kernel_rfl
theorem f_knobs : ((Try.prog.stopKnobs == [])) = true := by kernel_rfl
theorem f_heard : (Try.prog.stopsHeard) = true := by kernel_rfl
theorem f_enter : (Try.prog.mayEnter) = true := by
  obtain ⟨r, hr⟩ := ioWords
  exact enter_of hr (by kernel_rfl) (by kernel_rfl) (by kernel_rfl)
theorem f_lifts : (false == Try.prog.liftsFinal) = true := by
  obtain ⟨r, hr⟩ := ioWords
  rw [lifts_of hr]
  rfl
theorem f_make : (Try.prog.make == some .cut) = true := by
  obtain ⟨r, hr⟩ := ioWords
  rw [make_of hr]
  rfl
end Go.Proofs.Ytjmnolhflcjpgaa.Awp

namespace Go.Proofs.Ytjmnolhflcjpgaa.Awp
open Go.Proofs Go.Proofs.Ytjmnolhflcjpgaa
set_option linter.unusedSimpArgs false
set_option linter.unusedVariables false
set_option maxRecDepth 100000

theorem j0_FnExactFsNew : (Rows.fnExactFsNewRow.wf (OpenSpec.ofChange Rows.fnExactFsNewSpec)) = true := by kernel_rfl
theorem j3_FnExactFsNew : (Try.f3.params.all (Try.prog.readableRec ·)) = true := by kernel_rfl
theorem j4_FnExactFsNew : (namedTie Try.prog Rows.fnExactFsNewRow.named Rows.fnExactFsNewSpec.vars) = true := by kernel_rfl
theorem j5_FnExactFsNew : ((Rows.fnExactFsNewRow.stops == [])) = true := by kernel_rfl
theorem j7_FnExactFsNew : ((Rows.fnExactFsNewRow.knobs == [])) = true := by kernel_rfl
theorem j9_FnExactFsNew : ((Rows.fnExactFsNewRow.inPlace == Try.prog.inPlace 3)) = true := by kernel_rfl
theorem j10_FnExactFsNew : ((Rows.fnExactFsNewRow.unfollowed == Try.prog.unfollowed 3)) = true := by kernel_rfl
theorem j11_FnExactFsNew : ((Rows.fnExactFsNewRow.recurses == Try.prog.recurses 3)) = true := by kernel_rfl
theorem j12_FnExactFsNew : ((Rows.fnExactFsNewRow.named == Try.prog.varsNamed 3)) = true := by kernel_rfl
theorem j13_FnExactFsNew : ((Rows.fnExactFsNewRow.maps == (Try.f3.params.toList ++ Rows.fnExactFsNewSpec.plain.varTypes Try.prog).any (Try.prog.mapsRec ·))) = true := by kernel_rfl
theorem j14_FnExactFsNew : ((Rows.fnExactFsNewRow.ifaces == (Try.f3.params.toList ++ Rows.fnExactFsNewSpec.plain.varTypes Try.prog).any (Try.prog.ifacesRec ·))) = true := by kernel_rfl
theorem j15_FnExactFsNew : ((Rows.fnExactFsNewRow.mapsOut == Try.prog.mapsAmong Try.f3.resultTypes.toList)) = true := by kernel_rfl
theorem j16_FnExactFsNew : ((Rows.fnExactFsNewRow.loops == (Try.f3.params.toList ++ Rows.fnExactFsNewSpec.plain.varTypes Try.prog).any (Try.prog.loopsFrom ·))) = true := by kernel_rfl
theorem j17_FnExactFsNew : ((Rows.fnExactFsNewRow.wideKeys == (Try.f3.params.toList ++ Rows.fnExactFsNewSpec.plain.varTypes Try.prog ++ Try.f3.resultTypes.toList).any (Try.prog.wideKeysFrom ·))) = true := by kernel_rfl
theorem j18_FnExactFsNew : (Rows.fnExactFsNewSpec.vars.all (Try.prog.varReadable ·)) = true := by kernel_rfl
theorem j19_FnExactFsNew : (Try.f3.resultTypes.all (fun t => Try.prog.readableRec t && decide (t < Try.prog.types.size))) = true := by kernel_rfl
theorem j20_FnExactFsNew : ((Rows.fnExactFsNewRow.ifacesOut == Try.f3.resultTypes.toList.any (Try.prog.ifacesRec ·))) = true := by kernel_rfl
theorem j21_FnExactFsNew : ((Rows.fnExactFsNewRow.loopsOut == Try.f3.resultTypes.toList.any (Try.prog.loopsFrom ·))) = true := by kernel_rfl
theorem j22_FnExactFsNew : ((Rows.fnExactFsNewRow.plainKeys == Try.prog.plainKeys)) = true := by kernel_rfl
theorem j23_FnExactFsNew : (Rows.fnExactFsNewRow.shortTexts.isNone) = true := by kernel_rfl
theorem j28_FnExactFsNew : ((Rows.fnExactFsNewRow.kinds == (if Rows.fnExactFsNewRow.domain.isEmpty then [] else Try.f3.params.toList.map fun t => match Try.prog.underlying t with | some (.int k) => some k | _ => none))) = true := by kernel_rfl
theorem j29_FnExactFsNew : ((Rows.fnExactFsNewRow.pinned == Rows.fnExactFsNewRow.pinnedBy)) = true := by kernel_rfl
theorem j30_FnExactFsNew : ((Rows.fnExactFsNewRow.veiled == (Try.f3.params.toList ++ Rows.fnExactFsNewSpec.plain.varTypes Try.prog ++ Try.f3.resultTypes.toList).any (Try.prog.veiledRec ·))) = true := by kernel_rfl
theorem j31_FnExactFsNew : (Rows.fnExactFsNewRow.veiledFits Try.prog Try.f3.params.toList (Try.f3.params.toList ++ Rows.fnExactFsNewSpec.plain.varTypes Try.prog ++ Try.f3.resultTypes.toList)) = true := by kernel_rfl
theorem jf_FnExactFsNew : joinedFacts Try.prog 3 Try.f3 Rows.fnExactFsNewSpec Rows.fnExactFsNewRow = true :=
  joined_of j0_FnExactFsNew f_laid f_maps j3_FnExactFsNew j4_FnExactFsNew j5_FnExactFsNew f_stops j7_FnExactFsNew f_knobs j9_FnExactFsNew j10_FnExactFsNew j11_FnExactFsNew j12_FnExactFsNew j13_FnExactFsNew j14_FnExactFsNew j15_FnExactFsNew j16_FnExactFsNew j17_FnExactFsNew j18_FnExactFsNew j19_FnExactFsNew j20_FnExactFsNew j21_FnExactFsNew j22_FnExactFsNew j23_FnExactFsNew f_heard f_enter f_lifts f_make j28_FnExactFsNew j29_FnExactFsNew j30_FnExactFsNew j31_FnExactFsNew

theorem lift_FnExactFsNew (os : Os) (started : os.Started) (H : Type) (enc : TypeId × Value → H) :
    ReturnsInHanded {} Try.checked os 3 .any (Rows.fnExactFsNewSpec.pre6 enc Try.prog Try.f3 Rows.fnExactFsNewRow.domain false) (Rows.fnExactFsNewSpec.post enc Try.prog Try.f3 false true false false) := by
  refine law_returns (C := Try.checked) (pars := []) own started (by kernel_rfl) Try.func3
    (ChangeSpec.witness6 (enc := enc) (C := Try.checked) false ⟨#[], #[], []⟩ 8 (by kernel_rfl) (by kernel_rfl) (by kernel_rfl) (by kernel_rfl))
    rfl (by kernel_rfl) rfl (by kernel_rfl) ?_ ?_
  · intro ds hd
    match ds, hd with
    | [], _ => rfl
  · intro tss h
    match tss, h with
    | [], _ =>

      exact ⟨_, s_FnExactFsNew⟩

theorem hw_FnExactFsNew : Try.f3.isWrapper Try.prog Rows.fnExactFsNewRow.wrapper Rows.fnExactFsNewRow.mainSum := by
  unfold Func.isWrapper; first | (rw [if_pos (by decide +kernel)]; kernel_rfl) | (rw [if_neg (by decide +kernel)]; exact ⟨rfl, rfl⟩)

theorem law_FnExactFsNew : Rows.FnExactFsNewSaid :=
  OpenClaim.holds_of_wide 3 Try.f3 rfl rfl rfl rfl rfl rfl rfl ⟨rfl, rfl, rfl, rfl, rfl⟩ rfl rfl rfl rfl rfl (by kernel_rfl) Try.func3 jf_FnExactFsNew
    (of_decide_eq_true (by kernel_rfl)) hw_FnExactFsNew
    (fun os started H enc _ => lift_FnExactFsNew os started H enc)
end Go.Proofs.Ytjmnolhflcjpgaa.Awp

namespace Go.Proofs.Ytjmnolhflcjpgaa
/-- the given statement -/
theorem provedFnExactFsNew : Rows.FnExactFsNewSaid := Awp.law_FnExactFsNew
end Go.Proofs.Ytjmnolhflcjpgaa
#print axioms Go.Proofs.Ytjmnolhflcjpgaa.provedFnExactFsNew
