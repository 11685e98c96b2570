/- The law FnExactReadPage (the program's ReadPage returns what the reference's returns) holds for every argument: the given statement FnExactReadPageSaid is proved. Condition: none. -/
import Derived.Test.YtliklgcfdgdigaaAwp4
import Derived.Test.YtliklgcfdgdigaaRows
import Derived.OpenShut
import Derived.KernelRfl
namespace Go.Proofs.Ytliklgcfdgdigaa.Awp
open I

def c_L_FnExactReadPage : Cmd := Q (R [n 3 (box 3 (v 0)), n 6 (asg 6 k0)]) (Q (R [n 7 (asg 7 (k 1048576))]) (Q (R [n 18 (ld 18 (v 3) 1 true), n 19 (mov 19 (v 7)), n 20 (call (some 20) 56 [v 18, v 19]), n 7 (asg 7 (v 20))]) (Q (Q (R [n 21 (mov 21 (v 7)), n 22 (bin 22 .lss (v 21) (k 0))]) (F (v 22) (Q (R [n 6 (asg 6 k1)]) .ret) .skip)) (Q (R [n 24 (ld 24 (v 3) 1 true), n 25 (call (some 25) 58 [v 24]), n 26 (mov 26 (v 1)), n 27 (mov 27 (v 2)), n 28 (call (some 28) 73 [v 25, v 26, v 27]), n 23 (mov 23 (v 28)), n 29 (xtr 29 (v 23) 0), n 30 (xtr 30 (v 23) 1), n 8 (asg 8 (v 29)), n 9 (asg 9 (v 30))]) (Q (R [n 31 (ld 31 (v 3) 1 true), n 32 (call (some 32) 58 [v 31]), n 10 (alc 10 [.sl 3 []]), m (st (v 10) (v 32) 1)]) (Q (R [n 34 (ld 34 (v 10) 1 true), n 35 (mov 35 (v 1)), n 36 (mov 36 (v 2)), n 37 (call (some 37) 74 [v 34, v 35, v 36]), n 33 (mov 33 (v 37)), n 38 (xtr 38 (v 33) 0), n 39 (xtr 39 (v 33) 1), n 11 (asg 11 (v 38)), n 12 (asg 12 (v 39))]) (Q (Q (R [n 40 (mov 40 (v 11)), n 41 (mov 41 (v 8)), n 42 (call (some 42) 44 [v 40, v 41]), n 43 (un 43 .not (v 42)), n 44 (mov 44 (v 43)), h 44 false 45 (mov 45 (v 12)), h 44 false 46 (mov 46 (v 9)), h 44 false 47 (beq 47 true (v 45) (v 46)), n 48 (pck 48 (v 44) k1 (v 47))]) (F (v 48) (Q (R [n 6 (asg 6 k0)]) .ret) .skip)) (Q (Q (D [0, 0, 2, 7, 15] [n 49 (ld 49 (v 10) 1 true), n 50 (ld 50 (v 3) 1 true), n 51 (call (some 51) 58 [v 50]), n 52 (call (some 52) 50 [v 49, v 51]), n 53 (un 53 .not (v 52))]) (F (v 53) (Q (R [n 6 (asg 6 k0)]) .ret) .skip)) (Q (R [n 13 (asg 13 (k 1))]) (Q (R [n 54 (ld 54 (v 10) 1 true), n 55 (mov 55 (v 13)), n 56 (call (some 56) 51 [v 54, v 55]), n 13 (asg 13 (v 56))]) (Q (Q (R [n 57 (mov 57 (v 13)), n 58 (bin 58 .lss (v 57) (k 0)), n 59 (mov 59 (v 58)), h 59 false 60 (mov 60 (v 11)), h 59 false 61 (mov 61 (v 8)), h 59 false 62 (call (some 62) 44 [v 60, v 61]), h 59 false 63 (un 63 .not (v 62)), n 64 (pck 64 (v 59) k1 (v 63)), n 65 (mov 65 (v 64)), h 65 false 66 (mov 66 (v 12)), h 65 false 67 (mov 67 (v 9)), h 65 false 68 (beq 68 true (v 66) (v 67)), n 69 (pck 69 (v 65) k1 (v 68))]) (F (v 69) (Q (R [n 6 (asg 6 k0)]) .ret) .skip)) (Q (R [n 14 (asg 14 (k 1))]) (Q (R [n 70 (mov 70 (v 11)), n 71 (mov 71 (v 14)), n 72 (call (some 72) 46 [v 70, v 71]), n 14 (asg 14 (v 72))]) (Q (R [n 15 (asg 15 (k 1))]) (Q (R [n 73 (mov 73 (v 11)), n 74 (mov 74 (v 15)), n 75 (call (some 75) 47 [v 73, v 74]), n 15 (asg 15 (v 75))]) (Q (Q (R [n 76 (mov 76 (v 15)), n 77 (bin 77 .lss (v 76) (k 0))]) (F (v 77) (Q (R [n 6 (asg 6 k0)]) .ret) .skip)) (Q (Q (R [n 78 (mov 78 (v 15)), n 79 (mov 79 (v 14)), n 80 (bin 80 .neq (v 78) (v 79))]) (F (v 80) (Q (R [n 6 (asg 6 k0)]) .ret) .skip)) (Q (R [n 82 (ld 82 (v 3) 1 true), n 83 (call (some 83) 58 [v 82]), n 84 (mov 84 (v 1)), n 85 (mov 85 (v 2)), n 86 (call (some 86) 74 [v 83, v 84, v 85]), n 81 (mov 81 (v 86)), n 87 (xtr 87 (v 81) 0), n 88 (xtr 88 (v 81) 1), n 16 (asg 16 (v 87)), n 17 (asg 17 (v 88))]) (Q (Q (R [n 89 (mov 89 (v 16)), n 90 (mov 90 (v 8)), n 91 (call (some 91) 44 [v 89, v 90]), n 92 (un 92 .not (v 91)), n 93 (mov 93 (v 92)), h 93 false 94 (mov 94 (v 17)), h 93 false 95 (mov 95 (v 9)), h 93 false 96 (beq 96 true (v 94) (v 95)), n 97 (pck 97 (v 93) k1 (v 96))]) (F (v 97) (Q (R [n 6 (asg 6 k0)]) .ret) .skip)) (Q (R [n 15 (asg 15 (k 1))]) (Q (R [n 98 (mov 98 (v 11)), n 99 (mov 99 (v 15)), n 100 (call (some 100) 47 [v 98, v 99]), n 15 (asg 15 (v 100))]) (Q (Q (R [n 101 (mov 101 (v 15)), n 102 (bin 102 .lss (v 101) (k 0))]) (F (v 102) (Q (R [n 6 (asg 6 k0)]) .ret) .skip)) (Q (Q (R [n 103 (mov 103 (v 15)), n 104 (mov 104 (v 14)), n 105 (bin 105 .neq (v 103) (v 104))]) (F (v 105) (Q (R [n 6 (asg 6 k0)]) .ret) .skip)) (Q (R [n 6 (asg 6 k1)]) .ret))))))))))))))))))))))))
def c_L_eqByteS : Cmd := Q (R [n 4 (asg 4 k0)]) (Q (Q (R [n 6 (mov 6 (v 0)), n 7 (len 7 (v 6)), n 8 (mov 8 (v 1)), n 9 (len 9 (v 8)), n 10 (bin 10 .neq (v 7) (v 9))]) (F (v 10) (Q (R [n 4 (asg 4 k0)]) .ret) .skip)) (Q (Q (R [n 5 (asg 5 (k 0))]) (.blk 0 (.loop (Q (Q (R [n 11 (mov 11 (v 5)), n 12 (mov 12 (v 0)), n 13 (len 13 (v 12)), n 14 (bin 14 .lss (v 11) (v 13))]) (F (v 14) .skip (.exit 0))) (Q (.blk 1 (Q (D [0, 0, 3, 7, 0, 0, 48, 112, 255] [n 17 (mov 17 (v 0)), n 18 (mov 18 (v 5)), n 19 (idx 19 (v 17) (v 18) 1), n 20 (ld 20 (v 19) 1 false), n 21 (mov 21 (v 1)), n 22 (mov 22 (v 5)), n 23 (idx 23 (v 21) (v 22) 1), n 24 (ld 24 (v 23) 1 false), n 25 (bin 25 .neq (v 20) (v 24))]) (F (v 25) (Q (R [n 4 (asg 4 k0)]) .ret) .skip))) (R [n 15 (mov 15 (v 5)), n 16 (bin 16 .add (v 15) (k 1)), n 5 (asg 5 (v 16))])))))) (Q (R [n 4 (asg 4 k1)]) .ret)))
def c_L_markByteS : Cmd := Q (R [n 4 (asg 4 (k 0))]) (Q (Q (R [n 5 (asg 5 (k 0))]) (.blk 0 (.loop (Q (Q (R [n 6 (mov 6 (v 5)), n 7 (mov 7 (v 0)), n 8 (len 8 (v 7)), n 9 (bin 9 .lss (v 6) (v 8))]) (F (v 9) .skip (.exit 0))) (Q (.blk 1 (Q (R [n 12 (mov 12 (v 0)), n 13 (mov 13 (v 5)), n 14 (mov 14 (v 1)), n 15 (conv 15 .u8 (v 14)), n 16 (idx 16 (v 12) (v 13) 1), m (st (v 16) (v 15) 1)]) (R [n 17 (mov 17 (v 1)), n 18 (bin 18 .add (v 17) (k 1)), n 1 (asg 1 (v 18))]))) (R [n 10 (mov 10 (v 5)), n 11 (bin 11 .add (v 10) (k 1)), n 5 (asg 5 (v 11))])))))) (Q (R [n 19 (mov 19 (v 1)), n 4 (asg 4 (v 19))]) .ret))
def c_L_heldByteS : Cmd := Q (R [n 4 (asg 4 (k 0))]) (Q (Q (R [n 5 (asg 5 (k 0))]) (.blk 0 (.loop (Q (Q (R [n 6 (mov 6 (v 5)), n 7 (mov 7 (v 0)), n 8 (len 8 (v 7)), n 9 (bin 9 .lss (v 6) (v 8))]) (F (v 9) .skip (.exit 0))) (Q (.blk 1 (Q (Q (R [n 12 (mov 12 (v 0)), n 13 (mov 13 (v 5)), n 14 (idx 14 (v 12) (v 13) 1), n 15 (ld 15 (v 14) 1 false), n 16 (mov 16 (v 1)), n 17 (conv 17 .u8 (v 16)), n 18 (bin 18 .neq (v 15) (v 17))]) (F (v 18) (Q (R [n 4 (asg 4 (k (-1)))]) .ret) .skip)) (R [n 19 (mov 19 (v 1)), n 20 (bin 20 .add (v 19) (k 1)), n 1 (asg 1 (v 20))]))) (R [n 10 (mov 10 (v 5)), n 11 (bin 11 .add (v 10) (k 1)), n 5 (asg 5 (v 11))])))))) (Q (R [n 21 (mov 21 (v 1)), n 4 (asg 4 (v 21))]) .ret))
def c_L_eqChip : Cmd := Q (R [n 2 (box 2 (v 0)), n 3 (box 3 (v 1)), n 4 (asg 4 k0)]) (Q (Q (R [n 5 (fld 5 (v 2) 0), n 6 (ld 6 (v 5) 1 false), n 7 (fld 7 (v 3) 0), n 8 (ld 8 (v 7) 1 false), n 9 (call (some 9) 126 [v 6, v 8]), n 10 (un 10 .not (v 9))]) (F (v 10) (Q (R [n 4 (asg 4 k0)]) .ret) .skip)) (Q (R [n 4 (asg 4 k1)]) .ret))
def c_L_markChip : Cmd := Q (R [n 2 (box 2 (v 0)), n 4 (asg 4 (k 0))]) (Q (R [n 5 (fld 5 (v 2) 0), n 6 (ld 6 (v 5) 1 false), n 7 (mov 7 (v 1)), n 8 (call (some 8) 127 [v 6, v 7]), n 1 (asg 1 (v 8))]) (Q (R [n 9 (mov 9 (v 1)), n 4 (asg 4 (v 9))]) .ret))
def c_L_szChip : Cmd := Q (R [n 2 (box 2 (v 0)), n 4 (asg 4 (k 0))]) (Q (R [n 5 (fld 5 (v 2) 0), n 6 (ld 6 (v 5) 1 false), n 7 (mov 7 (v 1)), n 8 (call (some 8) 131 [v 6, v 7]), n 1 (asg 1 (v 8))]) (Q (Q (R [n 9 (mov 9 (v 1)), n 10 (bin 10 .lss (v 9) (k 0))]) (F (v 10) (Q (R [n 4 (asg 4 (k (-1)))]) .ret) .skip)) (Q (R [n 11 (mov 11 (v 1)), n 4 (asg 4 (v 11))]) .ret)))
def c_L_toChip : Cmd := Q (R [n 1 (box 1 (v 0)), n 2 (alc 2 [.sl 3 []])]) (Q (R [n 3 (alc 3 [.sl 3 []])]) (Q (R [n 4 (fld 4 (v 1) 0), n 5 (ld 5 (v 4) 1 false), n 6 (call (some 6) 132 [v 5]), n 7 (fld 7 (v 3) 0), m (st (v 7) (v 6) 1)]) (Q (R [n 8 (ld 8 (v 3) 1 true), m (st (v 2) (v 8) 1)]) .ret)))
def c_L_toByteS : Cmd := Q (R [n 2 (asg 2 (.c (.own 1 [])))]) (Q (R [n 5 (mov 5 (v 0)), n 6 (len 6 (v 5)), n 7 (mks 7 (v 6) (v 6) 1 1 [.int .u8 0]), n 3 (asg 3 (v 7))]) (Q (Q (R [n 4 (asg 4 (k 0))]) (.blk 0 (.loop (Q (Q (R [n 8 (mov 8 (v 4)), n 9 (mov 9 (v 0)), n 10 (len 10 (v 9)), n 11 (bin 11 .lss (v 8) (v 10))]) (F (v 11) .skip (.exit 0))) (Q (.blk 1 (R [n 14 (mov 14 (v 3)), n 15 (mov 15 (v 4)), n 16 (mov 16 (v 0)), n 17 (mov 17 (v 4)), n 18 (idx 18 (v 16) (v 17) 1), n 19 (ld 19 (v 18) 1 false), n 20 (idx 20 (v 14) (v 15) 1), m (st (v 20) (v 19) 1)])) (R [n 12 (mov 12 (v 4)), n 13 (bin 13 .add (v 12) (k 1)), n 4 (asg 4 (v 13))])))))) (Q (R [n 21 (mov 21 (v 3)), n 2 (asg 2 (v 21))]) .ret)))
def c_S_ReadPage : Cmd := Q (R [n 3 (box 3 (v 0)), n 6 (asg 6 (.c (.own 1 []))), n 7 (asg 7 k0)]) (Q (Q (R [n 8 (mov 8 (v 1)), n 9 (bin 9 .lss (v 8) (k 0)), n 10 (mov 10 (v 9)), h 10 false 11 (mov 11 (v 1)), h 10 false 12 (fld 12 (v 3) 0), h 10 false 13 (ld 13 (v 12) 1 false), h 10 false 14 (len 14 (v 13)), h 10 false 15 (bin 15 .geq (v 11) (v 14)), n 16 (pck 16 (v 10) k1 (v 15)), n 17 (mov 17 (v 16)), h 17 false 18 (mov 18 (v 2)), h 17 false 19 (bin 19 .lss (v 18) (k 0)), n 20 (pck 20 (v 17) k1 (v 19)), n 21 (mov 21 (v 20)), h 21 false 22 (mov 22 (v 2)), h 21 false 23 (fld 23 (v 3) 0), h 21 false 24 (ld 24 (v 23) 1 false), h 21 false 25 (mov 25 (v 1)), h 21 false 26 (idx 26 (v 24) (v 25) 3), h 21 false 27 (fld 27 (v 26) 0), h 21 false 28 (ld 28 (v 27) 1 false), h 21 false 29 (len 29 (v 28)), h 21 false 30 (bin 30 .geq (v 22) (v 29)), n 31 (pck 31 (v 21) k1 (v 30)), n 32 (mov 32 (v 31)), h 32 false 33 (fld 33 (v 3) 0), h 32 false 34 (ld 34 (v 33) 1 false), h 32 false 35 (mov 35 (v 1)), h 32 false 36 (idx 36 (v 34) (v 35) 3), h 32 false 37 (fld 37 (v 36) 0), h 32 false 38 (ld 38 (v 37) 1 false), h 32 false 39 (mov 39 (v 2)), h 32 false 40 (idx 40 (v 38) (v 39) 2), h 32 false 41 (fld 41 (v 40) 0), h 32 false 42 (ld 42 (v 41) 1 false), h 32 false 43 (un 43 .not (v 42)), n 44 (pck 44 (v 32) k1 (v 43))]) (F (v 44) (Q (R [n 45 (bsl 45 1 []), n 6 (asg 6 (v 45)), n 7 (asg 7 k0)]) .ret) .skip)) (Q (R [n 46 (bsl 46 1 []), n 47 (fld 47 (v 3) 0), n 48 (ld 48 (v 47) 1 false), n 49 (mov 49 (v 1)), n 50 (idx 50 (v 48) (v 49) 3), n 51 (fld 51 (v 50) 0), n 52 (ld 52 (v 51) 1 false), n 53 (mov 53 (v 2)), n 54 (idx 54 (v 52) (v 53) 2), n 55 (fld 55 (v 54) 1), n 56 (ld 56 (v 55) 1 false), n 57 (app 57 (v 46) (v 56) 1 1), n 6 (asg 6 (v 57)), n 7 (asg 7 k1)]) .ret))
def c_I_ReadPage : Cmd := Q (R [n 3 (box 3 (v 0)), n 6 (asg 6 (.c (.own 1 []))), n 7 (asg 7 k0)]) (Q (Q (R [n 8 (ld 8 (v 3) 1 true), n 9 (mov 9 (v 1)), n 10 (call (some 10) 139 [v 8, v 9]), n 11 (un 11 .not (v 10)), n 12 (mov 12 (v 11)), h 12 false 13 (mov 13 (v 2)), h 12 false 14 (fld 14 (v 3) 0), h 12 false 15 (ld 15 (v 14) 1 false), h 12 false 16 (mov 16 (v 1)), h 12 false 17 (idx 17 (v 15) (v 16) 3), h 12 false 18 (fld 18 (v 17) 0), h 12 false 19 (ld 19 (v 18) 1 false), h 12 false 20 (len 20 (v 19)), h 12 false 21 (bin 21 .sub (v 20) (k 1)), h 12 false 22 (call (some 22) 121 [v 13, k 0, v 21]), h 12 false 23 (un 23 .not (v 22)), n 24 (pck 24 (v 12) k1 (v 23)), n 25 (mov 25 (v 24)), h 25 false 26 (fld 26 (v 3) 0), h 25 false 27 (ld 27 (v 26) 1 false), h 25 false 28 (mov 28 (v 1)), h 25 false 29 (idx 29 (v 27) (v 28) 3), h 25 false 30 (fld 30 (v 29) 0), h 25 false 31 (ld 31 (v 30) 1 false), h 25 false 32 (mov 32 (v 2)), h 25 false 33 (idx 33 (v 31) (v 32) 2), h 25 false 34 (fld 34 (v 33) 0), h 25 false 35 (ld 35 (v 34) 1 false), h 25 false 36 (un 36 .not (v 35)), n 37 (pck 37 (v 25) k1 (v 36))]) (F (v 37) (Q (R [n 6 (asg 6 (.c (.own 1 []))), n 7 (asg 7 k0)]) .ret) .skip)) (Q (R [n 38 (fld 38 (v 3) 0), n 39 (ld 39 (v 38) 1 false), n 40 (mov 40 (v 1)), n 41 (idx 41 (v 39) (v 40) 3), n 42 (fld 42 (v 41) 0), n 43 (ld 43 (v 42) 1 false), n 44 (mov 44 (v 2)), n 45 (idx 45 (v 43) (v 44) 2), n 46 (fld 46 (v 45) 1), n 47 (ld 47 (v 46) 1 false), n 48 (call (some 48) 144 [v 47]), n 6 (asg 6 (v 48)), n 7 (asg 7 k1)]) .ret))
def c_L_szByteS : Cmd := Q (R [n 4 (asg 4 (k 0))]) (Q (R [n 5 (mov 5 (v 1)), n 6 (mov 6 (v 0)), n 7 (len 7 (v 6)), n 8 (bin 8 .sub (v 5) (v 7)), n 1 (asg 1 (v 8))]) (Q (Q (R [n 9 (mov 9 (v 1)), n 10 (bin 10 .lss (v 9) (k 0))]) (F (v 10) (Q (R [n 4 (asg 4 (k (-1)))]) .ret) .skip)) (Q (R [n 11 (mov 11 (v 1)), n 4 (asg 4 (v 11))]) .ret)))
def c_I_from : Cmd := Q (R [n 6 (asg 6 k0)]) (Q (R [n 7 (mov 7 (v 0)), n 8 (mov 8 (v 1)), n 9 (bin 9 .geq (v 7) (v 8)), n 10 (mov 10 (v 9)), h 10 true 11 (mov 11 (v 0)), h 10 true 12 (mov 12 (v 2)), h 10 true 13 (bin 13 .leq (v 11) (v 12)), n 14 (pck 14 (v 10) (v 13) k0), n 6 (asg 6 (v 14))]) .ret)
def c_L_eqBlockS : Cmd := Q (R [n 4 (asg 4 k0)]) (Q (Q (R [n 6 (mov 6 (v 0)), n 7 (len 7 (v 6)), n 8 (mov 8 (v 1)), n 9 (len 9 (v 8)), n 10 (bin 10 .neq (v 7) (v 9))]) (F (v 10) (Q (R [n 4 (asg 4 k0)]) .ret) .skip)) (Q (Q (R [n 5 (asg 5 (k 0))]) (.blk 0 (.loop (Q (Q (R [n 11 (mov 11 (v 5)), n 12 (mov 12 (v 0)), n 13 (len 13 (v 12)), n 14 (bin 14 .lss (v 11) (v 13))]) (F (v 14) .skip (.exit 0))) (Q (.blk 1 (Q (D [0, 0, 3, 7, 0, 0, 48, 112, 255, 511] [n 17 (mov 17 (v 0)), n 18 (mov 18 (v 5)), n 19 (idx 19 (v 17) (v 18) 3), n 20 (ld 20 (v 19) 3 true), n 21 (mov 21 (v 1)), n 22 (mov 22 (v 5)), n 23 (idx 23 (v 21) (v 22) 3), n 24 (ld 24 (v 23) 3 true), n 25 (call (some 25) 169 [v 20, v 24]), n 26 (un 26 .not (v 25))]) (F (v 26) (Q (R [n 4 (asg 4 k0)]) .ret) .skip))) (R [n 15 (mov 15 (v 5)), n 16 (bin 16 .add (v 15) (k 1)), n 5 (asg 5 (v 16))])))))) (Q (R [n 4 (asg 4 k1)]) .ret)))
def c_L_markBlockS : Cmd := Q (R [n 4 (asg 4 (k 0))]) (Q (Q (R [n 5 (asg 5 (k 0))]) (.blk 0 (.loop (Q (Q (R [n 6 (mov 6 (v 5)), n 7 (mov 7 (v 0)), n 8 (len 8 (v 7)), n 9 (bin 9 .lss (v 6) (v 8))]) (F (v 9) .skip (.exit 0))) (Q (.blk 1 (Q (R [n 12 (mov 12 (v 0)), n 13 (mov 13 (v 5)), n 14 (idx 14 (v 12) (v 13) 3), n 15 (fld 15 (v 14) 0), n 16 (ld 16 (v 15) 1 false), n 17 (mov 17 (v 1)), n 18 (call (some 18) 170 [v 16, v 17]), n 1 (asg 1 (v 18))]) (Q (R [n 19 (mov 19 (v 0)), n 20 (mov 20 (v 5)), n 21 (mov 21 (v 1)), n 22 (idx 22 (v 19) (v 20) 3), n 23 (fld 23 (v 22) 1), m (st (v 23) (v 21) 1)]) (Q (R [n 24 (mov 24 (v 1)), n 25 (bin 25 .add (v 24) (k 1)), n 1 (asg 1 (v 25))]) (Q (R [n 26 (mov 26 (v 0)), n 27 (mov 27 (v 5)), n 28 (mov 28 (v 1)), n 29 (bin 29 .rem (v 28) (k 3)), n 30 (bin 30 .eql (v 29) (k 0)), n 31 (idx 31 (v 26) (v 27) 3), n 32 (fld 32 (v 31) 2), m (st (v 32) (v 30) 1)]) (R [n 33 (mov 33 (v 1)), n 34 (bin 34 .add (v 33) (k 1)), n 1 (asg 1 (v 34))])))))) (R [n 10 (mov 10 (v 5)), n 11 (bin 11 .add (v 10) (k 1)), n 5 (asg 5 (v 11))])))))) (Q (R [n 35 (mov 35 (v 1)), n 4 (asg 4 (v 35))]) .ret))
def c_L_szBlockS : Cmd := Q (R [n 4 (asg 4 (k 0))]) (Q (R [n 6 (mov 6 (v 1)), n 7 (mov 7 (v 0)), n 8 (len 8 (v 7)), n 9 (bin 9 .sub (v 6) (v 8)), n 1 (asg 1 (v 9))]) (Q (Q (R [n 10 (mov 10 (v 1)), n 11 (bin 11 .lss (v 10) (k 0))]) (F (v 11) (Q (R [n 4 (asg 4 (k (-1)))]) .ret) .skip)) (Q (Q (R [n 5 (asg 5 (k 0))]) (.blk 0 (.loop (Q (Q (R [n 12 (mov 12 (v 5)), n 13 (mov 13 (v 0)), n 14 (len 14 (v 13)), n 15 (bin 15 .lss (v 12) (v 14))]) (F (v 15) .skip (.exit 0))) (Q (.blk 1 (Q (R [n 18 (mov 18 (v 0)), n 19 (mov 19 (v 5)), n 20 (idx 20 (v 18) (v 19) 3), n 21 (ld 21 (v 20) 3 true), n 22 (mov 22 (v 1)), n 23 (call (some 23) 173 [v 21, v 22]), n 1 (asg 1 (v 23))]) (Q (R [n 24 (mov 24 (v 1)), n 25 (bin 25 .lss (v 24) (k 0))]) (F (v 25) (Q (R [n 4 (asg 4 (k (-1)))]) .ret) .skip)))) (R [n 16 (mov 16 (v 5)), n 17 (bin 17 .add (v 16) (k 1)), n 5 (asg 5 (v 17))])))))) (Q (R [n 26 (mov 26 (v 1)), n 4 (asg 4 (v 26))]) .ret))))
def c_L_toBlockS : Cmd := Q (R [n 2 (asg 2 (.c (.own 3 [])))]) (Q (R [n 5 (mov 5 (v 0)), n 6 (len 6 (v 5)), n 7 (mks 7 (v 6) (v 6) 3 40 [.sl 2 [], .int .i64 0, .bool false]), n 3 (asg 3 (v 7))]) (Q (Q (R [n 4 (asg 4 (k 0))]) (.blk 0 (.loop (Q (Q (R [n 8 (mov 8 (v 4)), n 9 (mov 9 (v 0)), n 10 (len 10 (v 9)), n 11 (bin 11 .lss (v 8) (v 10))]) (F (v 11) .skip (.exit 0))) (Q (.blk 1 (R [n 14 (mov 14 (v 3)), n 15 (mov 15 (v 4)), n 16 (mov 16 (v 0)), n 17 (mov 17 (v 4)), n 18 (idx 18 (v 16) (v 17) 3), n 19 (ld 19 (v 18) 3 true), n 20 (call (some 20) 174 [v 19]), n 21 (idx 21 (v 14) (v 15) 3), m (st (v 21) (v 20) 3)])) (R [n 12 (mov 12 (v 4)), n 13 (bin 13 .add (v 12) (k 1)), n 4 (asg 4 (v 13))])))))) (Q (R [n 22 (mov 22 (v 3)), n 2 (asg 2 (v 22))]) .ret)))
def c_I_isBlock : Cmd := Q (R [n 2 (box 2 (v 0)), n 4 (asg 4 k0)]) (Q (R [n 5 (mov 5 (v 1)), n 6 (fld 6 (v 2) 0), n 7 (ld 7 (v 6) 1 false), n 8 (len 8 (v 7)), n 9 (bin 9 .sub (v 8) (k 1)), n 10 (call (some 10) 121 [v 5, k 0, v 9]), n 4 (asg 4 (v 10))]) .ret)
def c_X_Clone_byte : Cmd := Q (R [n 2 (asg 2 (.c (.own 1 [])))]) (Q (Q (R [n 3 (mov 3 (v 0)), n 4 (isn 4 false (v 3) (.c (.own 1 [])))]) (F (v 4) (Q (R [n 2 (asg 2 (.c (.own 1 [])))]) .ret) .skip)) (Q (R [n 5 (bsl 5 1 []), n 6 (mov 6 (v 0)), n 7 (app 7 (v 5) (v 6) 1 1), n 2 (asg 2 (v 7))]) .ret))
def c_L_eqBlock : Cmd := Q (R [n 2 (box 2 (v 0)), n 3 (box 3 (v 1)), n 4 (asg 4 k0)]) (Q (Q (R [n 5 (fld 5 (v 2) 0), n 6 (ld 6 (v 5) 1 false), n 7 (fld 7 (v 3) 0), n 8 (ld 8 (v 7) 1 false), n 9 (call (some 9) 184 [v 6, v 8]), n 10 (un 10 .not (v 9))]) (F (v 10) (Q (R [n 4 (asg 4 k0)]) .ret) .skip)) (Q (Q (R [n 11 (fld 11 (v 2) 1), n 12 (ld 12 (v 11) 1 false), n 13 (fld 13 (v 3) 1), n 14 (ld 14 (v 13) 1 false), n 15 (bin 15 .neq (v 12) (v 14))]) (F (v 15) (Q (R [n 4 (asg 4 k0)]) .ret) .skip)) (Q (Q (R [n 16 (fld 16 (v 2) 2), n 17 (ld 17 (v 16) 1 false), n 18 (fld 18 (v 3) 2), n 19 (ld 19 (v 18) 1 false), n 20 (beq 20 true (v 17) (v 19))]) (F (v 20) (Q (R [n 4 (asg 4 k0)]) .ret) .skip)) (Q (R [n 4 (asg 4 k1)]) .ret))))
def c_L_markPageS : Cmd := Q (R [n 4 (asg 4 (k 0))]) (Q (Q (R [n 5 (asg 5 (k 0))]) (.blk 0 (.loop (Q (Q (R [n 6 (mov 6 (v 5)), n 7 (mov 7 (v 0)), n 8 (len 8 (v 7)), n 9 (bin 9 .lss (v 6) (v 8))]) (F (v 9) .skip (.exit 0))) (Q (.blk 1 (Q (R [n 12 (mov 12 (v 0)), n 13 (mov 13 (v 5)), n 14 (mov 14 (v 1)), n 15 (bin 15 .rem (v 14) (k 3)), n 16 (bin 16 .eql (v 15) (k 0)), n 17 (idx 17 (v 12) (v 13) 2), n 18 (fld 18 (v 17) 0), m (st (v 18) (v 16) 1)]) (Q (R [n 19 (mov 19 (v 1)), n 20 (bin 20 .add (v 19) (k 1)), n 1 (asg 1 (v 20))]) (R [n 21 (mov 21 (v 0)), n 22 (mov 22 (v 5)), n 23 (idx 23 (v 21) (v 22) 2), n 24 (fld 24 (v 23) 1), n 25 (ld 25 (v 24) 1 false), n 26 (mov 26 (v 1)), n 27 (call (some 27) 46 [v 25, v 26]), n 1 (asg 1 (v 27))])))) (R [n 10 (mov 10 (v 5)), n 11 (bin 11 .add (v 10) (k 1)), n 5 (asg 5 (v 11))])))))) (Q (R [n 28 (mov 28 (v 1)), n 4 (asg 4 (v 28))]) .ret))
def c_L_szBlock : Cmd := Q (R [n 2 (box 2 (v 0)), n 4 (asg 4 (k 0))]) (Q (R [n 5 (fld 5 (v 2) 0), n 6 (ld 6 (v 5) 1 false), n 7 (mov 7 (v 1)), n 8 (call (some 8) 185 [v 6, v 7]), n 1 (asg 1 (v 8))]) (Q (Q (R [n 9 (mov 9 (v 1)), n 10 (bin 10 .lss (v 9) (k 0))]) (F (v 10) (Q (R [n 4 (asg 4 (k (-1)))]) .ret) .skip)) (Q (R [n 11 (mov 11 (v 1)), n 4 (asg 4 (v 11))]) .ret)))
def c_L_toBlock : Cmd := Q (R [n 1 (box 1 (v 0)), n 2 (alc 2 [.sl 2 [], .int .i64 0, .bool false])]) (Q (R [n 3 (alc 3 [.sl 2 [], .int .i64 0, .bool false])]) (Q (R [n 4 (fld 4 (v 1) 0), n 5 (ld 5 (v 4) 1 false), n 6 (call (some 6) 186 [v 5]), n 7 (fld 7 (v 3) 0), m (st (v 7) (v 6) 1)]) (Q (R [n 8 (fld 8 (v 1) 1), n 9 (ld 9 (v 8) 1 false), n 10 (fld 10 (v 3) 1), m (st (v 10) (v 9) 1)]) (Q (R [n 11 (fld 11 (v 1) 2), n 12 (ld 12 (v 11) 1 false), n 13 (fld 13 (v 3) 2), m (st (v 13) (v 12) 1)]) (Q (R [n 14 (ld 14 (v 3) 3 true), m (st (v 2) (v 14) 3)]) .ret)))))
def c_L_eqPageS : Cmd := Q (R [n 4 (asg 4 k0)]) (Q (Q (R [n 6 (mov 6 (v 0)), n 7 (len 7 (v 6)), n 8 (mov 8 (v 1)), n 9 (len 9 (v 8)), n 10 (bin 10 .neq (v 7) (v 9))]) (F (v 10) (Q (R [n 4 (asg 4 k0)]) .ret) .skip)) (Q (Q (R [n 5 (asg 5 (k 0))]) (.blk 0 (.loop (Q (Q (R [n 11 (mov 11 (v 5)), n 12 (mov 12 (v 0)), n 13 (len 13 (v 12)), n 14 (bin 14 .lss (v 11) (v 13))]) (F (v 14) .skip (.exit 0))) (Q (.blk 1 (Q (D [0, 0, 3, 7, 0, 0, 48, 112, 255, 511] [n 17 (mov 17 (v 0)), n 18 (mov 18 (v 5)), n 19 (idx 19 (v 17) (v 18) 2), n 20 (ld 20 (v 19) 2 true), n 21 (mov 21 (v 1)), n 22 (mov 22 (v 5)), n 23 (idx 23 (v 21) (v 22) 2), n 24 (ld 24 (v 23) 2 true), n 25 (call (some 25) 187 [v 20, v 24]), n 26 (un 26 .not (v 25))]) (F (v 26) (Q (R [n 4 (asg 4 k0)]) .ret) .skip))) (R [n 15 (mov 15 (v 5)), n 16 (bin 16 .add (v 15) (k 1)), n 5 (asg 5 (v 16))])))))) (Q (R [n 4 (asg 4 k1)]) .ret)))
def c_L_szPageS : Cmd := Q (R [n 4 (asg 4 (k 0))]) (Q (R [n 6 (mov 6 (v 1)), n 7 (mov 7 (v 0)), n 8 (len 8 (v 7)), n 9 (bin 9 .sub (v 6) (v 8)), n 1 (asg 1 (v 9))]) (Q (Q (R [n 10 (mov 10 (v 1)), n 11 (bin 11 .lss (v 10) (k 0))]) (F (v 11) (Q (R [n 4 (asg 4 (k (-1)))]) .ret) .skip)) (Q (Q (R [n 5 (asg 5 (k 0))]) (.blk 0 (.loop (Q (Q (R [n 12 (mov 12 (v 5)), n 13 (mov 13 (v 0)), n 14 (len 14 (v 13)), n 15 (bin 15 .lss (v 12) (v 14))]) (F (v 15) .skip (.exit 0))) (Q (.blk 1 (Q (R [n 18 (mov 18 (v 0)), n 19 (mov 19 (v 5)), n 20 (idx 20 (v 18) (v 19) 2), n 21 (ld 21 (v 20) 2 true), n 22 (mov 22 (v 1)), n 23 (call (some 23) 188 [v 21, v 22]), n 1 (asg 1 (v 23))]) (Q (R [n 24 (mov 24 (v 1)), n 25 (bin 25 .lss (v 24) (k 0))]) (F (v 25) (Q (R [n 4 (asg 4 (k (-1)))]) .ret) .skip)))) (R [n 16 (mov 16 (v 5)), n 17 (bin 17 .add (v 16) (k 1)), n 5 (asg 5 (v 17))])))))) (Q (R [n 26 (mov 26 (v 1)), n 4 (asg 4 (v 26))]) .ret))))
def c_L_toPageS : Cmd := Q (R [n 2 (asg 2 (.c (.own 2 [])))]) (Q (R [n 5 (mov 5 (v 0)), n 6 (len 6 (v 5)), n 7 (mks 7 (v 6) (v 6) 2 32 [.bool false, .sl 1 []]), n 3 (asg 3 (v 7))]) (Q (Q (R [n 4 (asg 4 (k 0))]) (.blk 0 (.loop (Q (Q (R [n 8 (mov 8 (v 4)), n 9 (mov 9 (v 0)), n 10 (len 10 (v 9)), n 11 (bin 11 .lss (v 8) (v 10))]) (F (v 11) .skip (.exit 0))) (Q (.blk 1 (R [n 14 (mov 14 (v 3)), n 15 (mov 15 (v 4)), n 16 (mov 16 (v 0)), n 17 (mov 17 (v 4)), n 18 (idx 18 (v 16) (v 17) 2), n 19 (ld 19 (v 18) 2 true), n 20 (call (some 20) 189 [v 19]), n 21 (idx 21 (v 14) (v 15) 2), m (st (v 21) (v 20) 2)])) (R [n 12 (mov 12 (v 4)), n 13 (bin 13 .add (v 12) (k 1)), n 4 (asg 4 (v 13))])))))) (Q (R [n 22 (mov 22 (v 3)), n 2 (asg 2 (v 22))]) .ret)))
def c_L_eqPage : Cmd := Q (R [n 2 (box 2 (v 0)), n 3 (box 3 (v 1)), n 4 (asg 4 k0)]) (Q (Q (R [n 5 (fld 5 (v 2) 0), n 6 (ld 6 (v 5) 1 false), n 7 (fld 7 (v 3) 0), n 8 (ld 8 (v 7) 1 false), n 9 (beq 9 true (v 6) (v 8))]) (F (v 9) (Q (R [n 4 (asg 4 k0)]) .ret) .skip)) (Q (Q (R [n 10 (fld 10 (v 2) 1), n 11 (ld 11 (v 10) 1 false), n 12 (fld 12 (v 3) 1), n 13 (ld 13 (v 12) 1 false), n 14 (call (some 14) 44 [v 11, v 13]), n 15 (un 15 .not (v 14))]) (F (v 15) (Q (R [n 4 (asg 4 k0)]) .ret) .skip)) (Q (R [n 4 (asg 4 k1)]) .ret)))
def c_L_szPage : Cmd := Q (R [n 2 (box 2 (v 0)), n 4 (asg 4 (k 0))]) (Q (R [n 5 (fld 5 (v 2) 1), n 6 (ld 6 (v 5) 1 false), n 7 (mov 7 (v 1)), n 8 (call (some 8) 119 [v 6, v 7]), n 1 (asg 1 (v 8))]) (Q (Q (R [n 9 (mov 9 (v 1)), n 10 (bin 10 .lss (v 9) (k 0))]) (F (v 10) (Q (R [n 4 (asg 4 (k (-1)))]) .ret) .skip)) (Q (R [n 11 (mov 11 (v 1)), n 4 (asg 4 (v 11))]) .ret)))
def c_L_toPage : Cmd := Q (R [n 1 (box 1 (v 0)), n 2 (alc 2 [.bool false, .sl 1 []])]) (Q (R [n 3 (alc 3 [.bool false, .sl 1 []])]) (Q (R [n 4 (fld 4 (v 1) 0), n 5 (ld 5 (v 4) 1 false), n 6 (fld 6 (v 3) 0), m (st (v 6) (v 5) 1)]) (Q (R [n 7 (fld 7 (v 1) 1), n 8 (ld 8 (v 7) 1 false), n 9 (call (some 9) 61 [v 8]), n 10 (fld 10 (v 3) 1), m (st (v 10) (v 9) 1)]) (Q (R [n 11 (ld 11 (v 3) 2 true), m (st (v 2) (v 11) 2)]) .ret))))

end Go.Proofs.Ytliklgcfdgdigaa.Awp

namespace Go.Proofs.Ytliklgcfdgdigaa.Awp
open Go.Proofs

theorem hmx : Try.prog.follows .mixedOrders = true := by kernel_rfl
theorem p_L_FnExactReadPage : compile Try.prog 13 = some (106, [.t 6], c_L_FnExactReadPage) := by kernel_rfl
theorem p_L_eqByteS : compile Try.prog 44 = some (26, [.t 4], c_L_eqByteS) := by kernel_rfl
theorem p_L_markByteS : compile Try.prog 46 = some (20, [.t 4], c_L_markByteS) := by kernel_rfl
theorem p_L_heldByteS : compile Try.prog 47 = some (22, [.t 4], c_L_heldByteS) := by kernel_rfl
theorem p_L_eqChip : compile Try.prog 50 = some (11, [.t 4], c_L_eqChip) := by kernel_rfl
theorem p_L_markChip : compile Try.prog 51 = some (10, [.t 4], c_L_markChip) := by kernel_rfl
theorem p_L_szChip : compile Try.prog 56 = some (12, [.t 4], c_L_szChip) := by kernel_rfl
theorem p_L_toChip : compile Try.prog 58 = some (9, [.c 2 1 true], c_L_toChip) := by kernel_rfl
theorem p_L_toByteS : compile Try.prog 61 = some (22, [.t 2], c_L_toByteS) := by kernel_rfl
theorem p_S_ReadPage : compile Try.prog 73 = some (58, [.t 6, .t 7], c_S_ReadPage) := by kernel_rfl
theorem p_I_ReadPage : compile Try.prog 74 = some (49, [.t 6, .t 7], c_I_ReadPage) := by kernel_rfl
theorem p_L_szByteS : compile Try.prog 119 = some (12, [.t 4], c_L_szByteS) := by kernel_rfl
theorem p_I_from : compile Try.prog 121 = some (15, [.t 6], c_I_from) := by kernel_rfl
theorem p_L_eqBlockS : compile Try.prog 126 = some (27, [.t 4], c_L_eqBlockS) := by kernel_rfl
theorem p_L_markBlockS : compile Try.prog 127 = some (36, [.t 4], c_L_markBlockS) := by kernel_rfl
theorem p_L_szBlockS : compile Try.prog 131 = some (27, [.t 4], c_L_szBlockS) := by kernel_rfl
theorem p_L_toBlockS : compile Try.prog 132 = some (23, [.t 2], c_L_toBlockS) := by kernel_rfl
theorem p_I_isBlock : compile Try.prog 139 = some (11, [.t 4], c_I_isBlock) := by kernel_rfl
theorem p_X_Clone_byte : compile Try.prog 144 = some (8, [.t 2], c_X_Clone_byte) := by kernel_rfl
theorem p_L_eqBlock : compile Try.prog 169 = some (21, [.t 4], c_L_eqBlock) := by kernel_rfl
theorem p_L_markPageS : compile Try.prog 170 = some (29, [.t 4], c_L_markPageS) := by kernel_rfl
theorem p_L_szBlock : compile Try.prog 173 = some (12, [.t 4], c_L_szBlock) := by kernel_rfl
theorem p_L_toBlock : compile Try.prog 174 = some (15, [.c 2 3 true], c_L_toBlock) := by kernel_rfl
theorem p_L_eqPageS : compile Try.prog 184 = some (27, [.t 4], c_L_eqPageS) := by kernel_rfl
theorem p_L_szPageS : compile Try.prog 185 = some (27, [.t 4], c_L_szPageS) := by kernel_rfl
theorem p_L_toPageS : compile Try.prog 186 = some (23, [.t 2], c_L_toPageS) := by kernel_rfl
theorem p_L_eqPage : compile Try.prog 187 = some (16, [.t 4], c_L_eqPage) := by kernel_rfl
theorem p_L_szPage : compile Try.prog 188 = some (12, [.t 4], c_L_szPage) := by kernel_rfl
theorem p_L_toPage : compile Try.prog 189 = some (12, [.c 2 2 true], c_L_toPage) := by kernel_rfl

end Go.Proofs.Ytliklgcfdgdigaa.Awp

namespace Go.Proofs.Ytliklgcfdgdigaa.Awp
set_option linter.unusedVariables false

/-! ### what goes on behind a bind is left alone till its first part is known -/
@[congr] theorem bind_congr_l {α β : Type} {a b : Option α} {f : α → Option β} (h : a = b) : a.bind f = b.bind f := by rw [h]
@[congr] theorem map_congr_l {α β : Type} {a b : Option α} {f : α → β} (h : a = b) : a.map f = b.map f := by rw [h]

theorem SBK : ∀ (E : Env) (outs : List AV), backA E none [] outs = backP E outs [] := by
  intro E outs
  simp [backA]

/-! ### the program's values -/
abbrev Bytes := List UInt8
theorem sum_mem {α : Type} {f : α → Nat} {l : List α} {x : α} (h : x ∈ l) : f x ≤ (l.map f).sum := by
  induction l with
  | nil => simp at h
  | cons y l ih =>
    rcases List.mem_cons.1 h with rfl | h
    · simp
    · have := ih h; simp; omega
theorem getE {α : Type} {l : List α} {i : Nat} (h : (i : Int) < (l.length : Nat)) : l[i]? = some (l[i]'(by omega)) := by simp
theorem sum_get {α : Type} (f : α → Nat) {l : List α} {i : Nat} (h : i < l.length) : f l[i] ≤ (l.map f).sum := sum_mem (List.getElem_mem h)
theorem sum_take {α : Type} (f : α → Nat) (l : List α) (i : Nat) (h : i < l.length) : ((l.take (i + 1)).map f).sum = ((l.take i).map f).sum + f l[i] := by
  rw [List.take_succ_eq_append_getElem h, List.map_append, List.sum_append]
  simp only [List.map_cons, List.map_nil, List.sum_cons, List.sum_nil, Nat.add_zero]
theorem sum_take_le {α : Type} (f : α → Nat) (l : List α) (i : Nat) : ((l.take i).map f).sum ≤ (l.map f).sum := by
  conv => rhs; rw [← List.take_append_drop i l, List.map_append, List.sum_append]
  omega
theorem take_eq_succ {α : Type} {a b : List α} {i : Nat} (h : a.take i = b.take i) (h1 : i < a.length) (h2 : i < b.length) (e : a[i] = b[i]) : a.take (i + 1) = b.take (i + 1) := by
  rw [List.take_succ_eq_append_getElem h1, List.take_succ_eq_append_getElem h2, h, e]
theorem take_all {α : Type} {a b : List α} {i : Nat} (h : a.take i = b.take i) (h1 : a.length ≤ i) (h2 : b.length ≤ i) : a = b := by
  rwa [List.take_of_length_le h1, List.take_of_length_le h2] at h

/-! ### rows that are filled, or marked, one by one -/
def mixM {α β : Type} (f : α → Int → β) (g : α → β) (c : α → Nat) : List α → Int → Nat → List β
  | [], _, _ => []
  | x :: l, _, 0 => g x :: l.map g
  | x :: l, k, i + 1 => f x k :: mixM f g c l (k + c x) i
def markL {α β : Type} (f : α → Int → β) (c : α → Nat) : List α → Int → List β
  | [], _ => []
  | x :: l, k => f x k :: markL f c l (k + c x)
section
variable {α β γ : Type} (f : α → Int → β) (g : α → β) (c : α → Nat)
theorem mixM_0 (l : List α) (k : Int) : mixM f g c l k 0 = l.map g := by cases l <;> rfl
theorem mixM_len : ∀ (l : List α) (k : Int) (i : Nat), (mixM f g c l k i).length = l.length := by
  intro l
  induction l with
  | nil => intro k i; rfl
  | cons x l ih => intro k i; cases i <;> simp [mixM, ih]
theorem mixM_all : ∀ (l : List α) (k : Int) (i : Nat), l.length ≤ i → mixM f g c l k i = markL f c l k := by
  intro l
  induction l with
  | nil => intro k i h; rfl
  | cons x l ih =>
    intro k i h
    cases i with
    | zero => simp at h
    | succ i => simp only [mixM, markL]; rw [ih _ _ (by simpa using h)]
theorem mixM_get : ∀ (l : List α) (k : Int) (i : Nat), (mixM f g c l k i)[i]? = (l[i]?).map g := by
  intro l
  induction l with
  | nil => intro k i; simp [mixM]
  | cons x l ih => intro k i; cases i <;> simp [mixM, ih]
theorem mixM_set : ∀ (l : List α) (k : Int) (i : Nat) (hi : i < l.length) (h : β → β) (e : h (g l[i]) = f l[i] (k + ((l.take i).map c).sum)), (mixM f g c l k i).modify i h = mixM f g c l k (i + 1) := by
  intro l
  induction l with
  | nil => intro k i hi; simp at hi
  | cons x l ih =>
    intro k i hi h e
    cases i with
    | zero => simp only [mixM, List.modify_zero_cons]; simp at e; rw [e, mixM_0]
    | succ i =>
      simp only [mixM, List.modify_succ_cons]
      rw [ih _ i (by simpa using hi) h]
      simp only [List.getElem_cons_succ, List.take_succ_cons, List.map_cons, List.sum_cons] at e
      rw [e]; congr 1; omega
theorem markL_len : ∀ (l : List α) (k : Int), (markL f c l k).length = l.length := by
  intro l
  induction l with
  | nil => intro k; rfl
  | cons x l ih => intro k; simp [markL, ih]
theorem markL_get : ∀ (l : List α) (k : Int) (i : Nat), (markL f c l k)[i]? = (l[i]?).map fun x => f x (k + ((l.take i).map c).sum) := by
  intro l
  induction l with
  | nil => intro k i; simp [markL]
  | cons x l ih =>
    intro k i
    cases i with
    | zero => simp [markL]
    | succ i =>
      simp only [markL, List.getElem?_cons_succ, ih, List.take_succ_cons, List.map_cons, List.sum_cons]
      congr 1; funext y; congr 1; omega
theorem markL_map (r : β → γ) : ∀ (l : List α) (k : Int), (markL f c l k).map r = markL (fun x k => r (f x k)) c l k := by
  intro l
  induction l with
  | nil => intro k; rfl
  | cons x l ih => intro k; simp [markL, ih]
end
/-- rows that are filled one by one -/
def fillR {α : Type} (f : α → List TV) (z : List TV) (l : List α) (i : Nat) : List (List TV) := mixM (fun x _ => f x) (fun _ => z) (fun _ => 0) l 0 i
theorem fillR_0 {α : Type} (f : α → List TV) (z : List TV) (l : List α) : fillR f z l 0 = List.replicate l.length z := by
  rw [fillR, mixM_0, List.map_const']
theorem fillR_all {α : Type} (f : α → List TV) (z : List TV) (l : List α) (i : Nat) (h : l.length ≤ i) : fillR f z l i = l.map f := by
  rw [fillR, mixM_all _ _ _ _ _ _ h]
  generalize (0 : Int) = k
  induction l generalizing k i with
  | nil => rfl
  | cons x l ih => simp only [markL, List.map_cons]; rw [ih l.length (by omega)]
theorem fillR_len {α : Type} (f : α → List TV) (z : List TV) (l : List α) (i : Nat) : (fillR f z l i).length = l.length := mixM_len ..
theorem fillR_set {α : Type} (f : α → List TV) (z : List TV) (l : List α) (i : Nat) (h : i < l.length) (g : List TV → List TV) (hg : g z = f l[i]) : (fillR f z l i).modify i g = fillR f z l (i + 1) :=
  mixM_set _ _ _ _ _ _ h _ hg
/-- rows that are marked one by one -/
def mixR {α : Type} (r : α → List TV) (f : α → Int → α) (c : α → Nat) (l : List α) (k : Int) (i : Nat) : List (List TV) := mixM (fun x k => r (f x k)) r c l k i
section
variable {α : Type} (r : α → List TV) (f : α → Int → α) (c : α → Nat)
theorem mixR_0 (l : List α) (k : Int) : mixR r f c l k 0 = l.map r := mixM_0 ..
theorem mixR_len (l : List α) (k : Int) (i : Nat) : (mixR r f c l k i).length = l.length := mixM_len ..
theorem mixR_get (l : List α) (k : Int) (i : Nat) : (mixR r f c l k i)[i]? = (l[i]?).map r := mixM_get ..
theorem mixR_all (l : List α) (k : Int) (i : Nat) (h : l.length ≤ i) : mixR r f c l k i = (markL f c l k).map r := by rw [mixR, mixM_all _ _ _ _ _ _ h, markL_map]
theorem mixR_set (l : List α) (k : Int) (i : Nat) (hi : i < l.length) (h : List TV → List TV) (e : h (r l[i]) = r (f l[i] (k + ((l.take i).map c).sum))) : (mixR r f c l k i).modify i h = mixR r f c l k (i + 1) :=
  mixM_set _ _ _ _ _ _ hi _ e
end
def byteRow (x : UInt8) : List TV := [.int .u8 x.toNat]
def markBy (b : Bytes) (k : Int) : Bytes := markL (fun _ k => UInt8.ofInt k) (fun _ => 1) b k
theorem sum_one {α : Type} (l : List α) : (l.map fun _ => 1).sum = l.length := by induction l with | nil => rfl | cons x l ih => simp [ih]; omega
theorem markBy_len (b : Bytes) (k : Int) : (markBy b k).length = b.length := markL_len ..
theorem markBy_get (b : Bytes) (k : Int) (i : Nat) : (markBy b k)[i]? = (b[i]?).map fun _ => UInt8.ofInt (k + i) := by
  rw [markBy, markL_get]
  by_cases h : i < b.length
  · simp only [sum_one, List.length_take, Nat.min_eq_left (Nat.le_of_lt h)]
  · rw [List.getElem?_eq_none (by omega)]; rfl
theorem wrap_ofInt (k : Int) : IntKind.u8.wrap k = ((UInt8.ofInt k).toNat : Int) := by
  have e : IntKind.u8.wrap k = k % 256 := by
    have h1 : ((2 : Int) ^ IntKind.u8.bits) = 256 := by decide
    unfold IntKind.wrap
    simp only [h1]
    simp [IntKind.signed]
  rw [e]
  simp [UInt8.ofInt]
  omega
theorem bytesR_row (b : Bytes) : bytesR b = b.map byteRow := rfl
theorem markBy_row (b : Bytes) (k : Int) (i : Nat) (h : b.length ≤ i) : mixR byteRow (fun _ k => UInt8.ofInt k) (fun _ => 1) b k i = bytesR (markBy b k) := mixR_all _ _ _ _ _ _ h
theorem SF : (∀ (α : Type) (f : α → List TV) (z : List TV) (l : List α) (i : Nat), (fillR f z l i).length = l.length) ∧
    (∀ (α : Type) (r : α → List TV) (f : α → Int → α) (c : α → Nat) (l : List α) (k : Int) (i : Nat), (mixR r f c l k i).length = l.length) ∧
    (∀ (α : Type) (r : α → List TV) (f : α → Int → α) (c : α → Nat) (l : List α) (k : Int) (i : Nat), (mixR r f c l k i)[i]? = (l[i]?).map r) ∧
    (∀ (α β : Type) (f : α → Int → β) (c : α → Nat) (l : List α) (k : Int), (markL f c l k).length = l.length) ∧
    (∀ (α β : Type) (f : α → Int → β) (c : α → Nat) (l : List α) (k : Int) (i : Nat), (markL f c l k)[i]? = (l[i]?).map fun x => f x (k + ((l.take i).map c).sum)) ∧
    (∀ (b : Bytes) (k : Int), (markBy b k).length = b.length) ∧ (∀ (b : Bytes) (k : Int) (i : Nat), (markBy b k)[i]? = (b[i]?).map fun _ => UInt8.ofInt (k + i)) ∧
    (∀ (α : Type) (l : List α) (i : Nat) (f g : α → α), (l.modify i f).modify i g = l.modify i (fun x => g (f x))) ∧ (∀ (α : Type) (l : List α) (i : Nat) (f : α → α), (l.modify i f)[i]? = (l[i]?).map f) ∧
    (∀ (α : Type) (l : List α) (i : Nat) (f : α → α), (l.modify i f).length = l.length) :=
  ⟨fun _ => fillR_len, fun _ => mixR_len, fun _ => mixR_get, fun _ _ => markL_len, fun _ _ => markL_get, markBy_len, markBy_get,
    fun _ l i f g => List.modify_modify_eq f g i l, fun _ l i f => by simp, fun _ l i f => by simp⟩
theorem flatR_bytes (b : Bytes) : flatR (bytesR b) = true := by
  simp [flatR, bytesR]
  intros; rfl
theorem knownR_bytes (b : Bytes) : knownR (bytesR b) = true := by
  simp [knownR, bytesR]
  intros; rfl
theorem rowsBytes_R (b : Bytes) : rowsBytes (bytesR b) = some b := by
  induction b with
  | nil => rfl
  | cons x b ih =>
    simp only [bytesR, List.map_cons]
    simp only [bytesR] at ih
    have h1 : rowByte [.int .u8 x.toNat] = some x := by
      have := x.toNat_lt
      simp [rowByte]
      try omega
    simp [rowsBytes, ih, h1]
theorem SK : knownR [] = true ∧ (∀ (e : List TV) (l : List (List TV)), knownR (e :: l) = (e.all knownT && knownR l)) ∧ (∀ (t : TV) (e : List TV), (t :: e).all knownT = (knownT t && e.all knownT)) ∧ ([] : List TV).all knownT = true ∧
    (∀ b, knownT (.bool b) = true) ∧ (∀ k n, knownT (.int k n) = true) ∧ (∀ s, knownT (.str s) = true) ∧ (∀ s es, knownT (.sl s es) = true) ∧
    flatR [] = true ∧ (∀ (e : List TV) (l : List (List TV)), flatR (e :: l) = (e.all flatT && flatR l)) ∧ (∀ (t : TV) (e : List TV), (t :: e).all flatT = (flatT t && e.all flatT)) ∧ ([] : List TV).all flatT = true ∧
    (∀ b, flatT (.bool b) = true) ∧ (∀ k n, flatT (.int k n) = true) ∧ (∀ s, flatT (.str s) = true) ∧
    (∀ b : Bytes, flatR (bytesR b) = true) ∧ (∀ b : Bytes, knownR (bytesR b) = true) ∧ (∀ b : Bytes, rowsBytes (bytesR b) = some b) :=
  ⟨rfl, fun _ _ => rfl, fun _ _ => rfl, rfl, fun _ => rfl, fun _ _ => rfl, fun _ => rfl, fun _ _ => rfl, rfl, fun _ _ => rfl, fun _ _ => rfl, rfl, fun _ => rfl, fun _ _ => rfl, fun _ => rfl, flatR_bytes, knownR_bytes, rowsBytes_R⟩
theorem SB : min 1 IntKind.i64.bits = 1 ∧ min 7 IntKind.i64.bits = 7 ∧ min 8 IntKind.i64.bits = 8 ∧ min 14 IntKind.i64.bits = 14 ∧ min 16 IntKind.i64.bits = 16 ∧ min 24 IntKind.i64.bits = 24 ∧ min 33 IntKind.i64.bits = 33 ∧ min 47 IntKind.i64.bits = 47 ∧ min 1 IntKind.u32.bits = 1 ∧ min 8 IntKind.u32.bits = 8 ∧ min 16 IntKind.u32.bits = 16 ∧ min 24 IntKind.u32.bits = 24 := by decide
theorem bytesR_map (b : Bytes) : bytesR b = b.map fun x => [.int .u8 x.toNat] := rfl

theorem cnt_len {α : Type} (c : α → Nat) (h : ∀ x, 1 ≤ c x) (l : List α) : l.length ≤ (l.map c).sum := by
  induction l with
  | nil => simp
  | cons x l ih => have := h x; simp; omega
/-- what is left of a size -/
def szC (l : Int) (n : Nat) : Int := if l < n then -1 else l - n
theorem szC_lt {l : Int} {n : Nat} (h : l < n) : szC l n = -1 := if_pos h
theorem szC_ge {l : Int} {n : Nat} (h : ¬ l < n) : szC l n = l - n := if_neg h
/-- decimal digits -/
def digB (n : Nat) : Bytes := if h : n = 0 then [] else digB (n / 10) ++ [UInt8.ofNat (48 + n % 10)]
termination_by n
def markText (k : Int) : Bytes := if k ≤ 0 then [109, 48] else 109 :: digB k.toNat
def cntM {α : Type} (c : α → Nat) (l : List α) : Nat := (l.map c).sum
def szM {α : Type} (c : α → Nat) (l : List α) : Nat := l.length + (l.map c).sum

structure Page where
  used : Bool
  b : Bytes
  deriving DecidableEq, Inhabited
def Page.row (a : Page) : List TV := [.bool a.used, .sl 1 (bytesR a.b)]
def Page.x (a : Page) : AV := .agg [.bool a.used, .ext 1 (bytesR a.b)]
def Page.o (a : Page) : AV := .agg [.bool a.used, .own 1 (bytesR a.b)]
def Page.sz (a : Page) : Nat := a.b.length
def Page.fine (a : Page) : Prop := (a.b.length < 2 ^ 48)
def Page.cnt (a : Page) : Nat := 1 + a.b.length
def Page.cntT (a : Page) : Nat := a.b.length
def Page.marked (a : Page) (k : Int) : Page := { used := decide ((k).tmod 3 = 0), b := markBy a.b (k + 1) }
def Page.markT (a : Page) (k : Int) : Page := { used := a.used, b := markBy a.b (k) }
def Page.zero : List TV := [.bool false, .sl 1 []]
theorem Page.eq' {a b : Page} (h0 : a.used = b.used) (h1 : a.b = b.b) : a = b := by cases a; cases b; simp_all
theorem Page.cnt1 (a : Page) : 1 ≤ a.cnt := by simp only [Page.cnt]; omega

structure Block where
  pages : List Page
  wear : Int
  bad : Bool
  deriving DecidableEq, Inhabited
def Block.row (a : Block) : List TV := [.sl 2 (a.pages.map Page.row), .int .i64 a.wear, .bool a.bad]
def Block.x (a : Block) : AV := .agg [.ext 2 (a.pages.map Page.row), .int .i64 a.wear, .bool a.bad]
def Block.o (a : Block) : AV := .agg [.own 2 (a.pages.map Page.row), .int .i64 a.wear, .bool a.bad]
def Block.sz (a : Block) : Nat := szM Page.sz a.pages
def Block.fine (a : Block) : Prop := (a.pages.length < 2 ^ 48 ∧ ∀ x ∈ a.pages, x.fine)
def Block.cnt (a : Block) : Nat := cntM Page.cnt a.pages + 1 + 1
def Block.cntT (a : Block) : Nat := cntM Page.cnt a.pages
def Block.marked (a : Block) (k : Int) : Block := { pages := markL Page.marked Page.cnt a.pages (k), wear := k + (cntM Page.cnt a.pages : Nat), bad := decide ((k + (cntM Page.cnt a.pages : Nat) + 1).tmod 3 = 0) }
def Block.markT (a : Block) (k : Int) : Block := { pages := markL Page.marked Page.cnt a.pages (k), wear := a.wear, bad := a.bad }
def Block.zero : List TV := [.sl 2 [], .int .i64 0, .bool false]
theorem Block.eq' {a b : Block} (h0 : a.pages = b.pages) (h1 : a.wear = b.wear) (h2 : a.bad = b.bad) : a = b := by cases a; cases b; simp_all
theorem Block.cnt1 (a : Block) : 1 ≤ a.cnt := by simp only [Block.cnt]; omega

structure Chip where
  blocks : List Block
  deriving DecidableEq, Inhabited
def Chip.row (a : Chip) : List TV := [.sl 3 (a.blocks.map Block.row)]
def Chip.x (a : Chip) : AV := .agg [.ext 3 (a.blocks.map Block.row)]
def Chip.o (a : Chip) : AV := .agg [.own 3 (a.blocks.map Block.row)]
def Chip.sz (a : Chip) : Nat := szM Block.sz a.blocks
def Chip.fine (a : Chip) : Prop := (a.blocks.length < 2 ^ 48 ∧ ∀ x ∈ a.blocks, x.fine)
def Chip.cnt (a : Chip) : Nat := cntM Block.cnt a.blocks
def Chip.cntT (a : Chip) : Nat := cntM Block.cnt a.blocks
def Chip.marked (a : Chip) (k : Int) : Chip := { blocks := markL Block.marked Block.cnt a.blocks (k) }
def Chip.markT (a : Chip) (k : Int) : Chip := { blocks := markL Block.marked Block.cnt a.blocks (k) }
def Chip.zero : List TV := [.sl 3 []]
theorem Chip.eq' {a b : Chip} (h0 : a.blocks = b.blocks) : a = b := by cases a; cases b; simp_all


structure Fault where
  at' : Int
  kind : Int
  keep : Int
  deriving DecidableEq, Inhabited
def Fault.row (a : Fault) : List TV := [.int .i64 a.at', .int .i64 a.kind, .int .i64 a.keep]
def Fault.x (a : Fault) : AV := .agg [.int .i64 a.at', .int .i64 a.kind, .int .i64 a.keep]
def Fault.o (a : Fault) : AV := .agg [.int .i64 a.at', .int .i64 a.kind, .int .i64 a.keep]
def Fault.sz (a : Fault) : Nat := 0
def Fault.fine (a : Fault) : Prop := True
def Fault.cnt (a : Fault) : Nat := 1 + 1 + 1
def Fault.cntT (a : Fault) : Nat := 0
def Fault.marked (a : Fault) (k : Int) : Fault := { at' := k, kind := k + 1, keep := k + 1 + 1 }
def Fault.markT (a : Fault) (k : Int) : Fault := { at' := a.at', kind := a.kind, keep := a.keep }
def Fault.zero : List TV := [.int .i64 0, .int .i64 0, .int .i64 0]
theorem Fault.eq' {a b : Fault} (h0 : a.at' = b.at') (h1 : a.kind = b.kind) (h2 : a.keep = b.keep) : a = b := by cases a; cases b; simp_all
theorem Fault.cnt1 (a : Fault) : 1 ≤ a.cnt := by simp only [Fault.cnt]; omega

structure Dev where
  c : Chip
  ops : Int
  faults : List Fault
  down : Bool
  deriving DecidableEq, Inhabited
def Dev.row (a : Dev) : List TV := [.sl 3 (a.c.blocks.map Block.row), .int .i64 a.ops, .sl 3 (a.faults.map Fault.row), .bool a.down]
def Dev.x (a : Dev) : AV := .agg [.ext 3 (a.c.blocks.map Block.row), .int .i64 a.ops, .ext 3 (a.faults.map Fault.row), .bool a.down]
def Dev.o (a : Dev) : AV := .agg [.own 3 (a.c.blocks.map Block.row), .int .i64 a.ops, .own 3 (a.faults.map Fault.row), .bool a.down]
def Dev.sz (a : Dev) : Nat := a.c.sz + a.faults.length
def Dev.fine (a : Dev) : Prop := (a.c.fine) ∧ (a.faults.length < 2 ^ 48)
def Dev.cnt (a : Dev) : Nat := cntM Block.cnt a.c.blocks + 1 + cntM Fault.cnt a.faults + 1
def Dev.cntT (a : Dev) : Nat := a.c.cntT + cntM Fault.cnt a.faults
def Dev.marked (a : Dev) (k : Int) : Dev := { c := { blocks := markL Block.marked Block.cnt a.c.blocks (k) }, ops := k + (cntM Block.cnt a.c.blocks : Nat), faults := markL Fault.marked Fault.cnt a.faults (k + (cntM Block.cnt a.c.blocks : Nat) + 1), down := decide ((k + (cntM Block.cnt a.c.blocks : Nat) + 1 + (cntM Fault.cnt a.faults : Nat)).tmod 3 = 0) }
def Dev.markT (a : Dev) (k : Int) : Dev := { c := a.c.markT (k), ops := a.ops, faults := markL Fault.marked Fault.cnt a.faults (k + (a.c.cntT : Nat)), down := a.down }
def Dev.zero : List TV := [.sl 3 [], .int .i64 0, .sl 3 [], .bool false]
theorem Dev.eq' {a b : Dev} (h0 : a.c = b.c) (h1 : a.ops = b.ops) (h2 : a.faults = b.faults) (h3 : a.down = b.down) : a = b := by cases a; cases b; simp_all
theorem Dev.cnt1 (a : Dev) : 1 ≤ a.cnt := by simp only [Dev.cnt]; omega

structure Rec where
  kind : Int
  seq : Int
  body : Bytes
  deriving DecidableEq, Inhabited
def Rec.row (a : Rec) : List TV := [.int .i64 a.kind, .int .i64 a.seq, .sl 1 (bytesR a.body)]
def Rec.x (a : Rec) : AV := .agg [.int .i64 a.kind, .int .i64 a.seq, .ext 1 (bytesR a.body)]
def Rec.o (a : Rec) : AV := .agg [.int .i64 a.kind, .int .i64 a.seq, .own 1 (bytesR a.body)]
def Rec.sz (a : Rec) : Nat := a.body.length
def Rec.fine (a : Rec) : Prop := (a.body.length < 2 ^ 48)
def Rec.cnt (a : Rec) : Nat := 1 + 1 + a.body.length
def Rec.cntT (a : Rec) : Nat := a.body.length
def Rec.marked (a : Rec) (k : Int) : Rec := { kind := k, seq := k + 1, body := markBy a.body (k + 1 + 1) }
def Rec.markT (a : Rec) (k : Int) : Rec := { kind := a.kind, seq := a.seq, body := markBy a.body (k) }
def Rec.zero : List TV := [.int .i64 0, .int .i64 0, .sl 1 []]
theorem Rec.eq' {a b : Rec} (h0 : a.kind = b.kind) (h1 : a.seq = b.seq) (h2 : a.body = b.body) : a = b := by cases a; cases b; simp_all
theorem Rec.cnt1 (a : Rec) : 1 ≤ a.cnt := by simp only [Rec.cnt]; omega

structure Op where
  kind : Int
  vol : Int
  path : Bytes
  to' : Bytes
  off : Int
  data : Bytes
  deriving DecidableEq, Inhabited
def Op.row (a : Op) : List TV := [.int .i64 a.kind, .int .i64 a.vol, .str a.path, .str a.to', .int .i64 a.off, .sl 1 (bytesR a.data)]
def Op.x (a : Op) : AV := .agg [.int .i64 a.kind, .int .i64 a.vol, .str a.path, .str a.to', .int .i64 a.off, .ext 1 (bytesR a.data)]
def Op.o (a : Op) : AV := .agg [.int .i64 a.kind, .int .i64 a.vol, .str a.path, .str a.to', .int .i64 a.off, .own 1 (bytesR a.data)]
def Op.sz (a : Op) : Nat := a.path.length + a.to'.length + a.data.length
def Op.fine (a : Op) : Prop := (a.path.length < 2 ^ 48) ∧ (a.to'.length < 2 ^ 48) ∧ (a.data.length < 2 ^ 48)
def Op.cnt (a : Op) : Nat := 1 + 1 + 1 + 1 + 1 + a.data.length
def Op.cntT (a : Op) : Nat := a.data.length
def Op.marked (a : Op) (k : Int) : Op := { kind := k, vol := k + 1, path := markText (k + 1 + 1), to' := markText (k + 1 + 1 + 1), off := k + 1 + 1 + 1 + 1, data := markBy a.data (k + 1 + 1 + 1 + 1 + 1) }
def Op.markT (a : Op) (k : Int) : Op := { kind := a.kind, vol := a.vol, path := a.path, to' := a.to', off := a.off, data := markBy a.data (k) }
def Op.zero : List TV := [.int .i64 0, .int .i64 0, .str [], .str [], .int .i64 0, .sl 1 []]
theorem Op.eq' {a b : Op} (h0 : a.kind = b.kind) (h1 : a.vol = b.vol) (h2 : a.path = b.path) (h3 : a.to' = b.to') (h4 : a.off = b.off) (h5 : a.data = b.data) : a = b := by cases a; cases b; simp_all
theorem Op.cnt1 (a : Op) : 1 ≤ a.cnt := by simp only [Op.cnt]; omega

structure Log where
  d : Dev
  seq : Int
  deriving DecidableEq, Inhabited
def Log.row (a : Log) : List TV := [.sl 3 (a.d.c.blocks.map Block.row), .int .i64 a.d.ops, .sl 3 (a.d.faults.map Fault.row), .bool a.d.down, .int .i64 a.seq]
def Log.x (a : Log) : AV := .agg [.ext 3 (a.d.c.blocks.map Block.row), .int .i64 a.d.ops, .ext 3 (a.d.faults.map Fault.row), .bool a.d.down, .int .i64 a.seq]
def Log.o (a : Log) : AV := .agg [.own 3 (a.d.c.blocks.map Block.row), .int .i64 a.d.ops, .own 3 (a.d.faults.map Fault.row), .bool a.d.down, .int .i64 a.seq]
def Log.sz (a : Log) : Nat := a.d.sz
def Log.fine (a : Log) : Prop := (a.d.fine)
def Log.cnt (a : Log) : Nat := cntM Block.cnt a.d.c.blocks + 1 + cntM Fault.cnt a.d.faults + 1 + 1
def Log.cntT (a : Log) : Nat := a.d.cntT
def Log.marked (a : Log) (k : Int) : Log := { d := { c := { blocks := markL Block.marked Block.cnt a.d.c.blocks (k) }, ops := k + (cntM Block.cnt a.d.c.blocks : Nat), faults := markL Fault.marked Fault.cnt a.d.faults (k + (cntM Block.cnt a.d.c.blocks : Nat) + 1), down := decide ((k + (cntM Block.cnt a.d.c.blocks : Nat) + 1 + (cntM Fault.cnt a.d.faults : Nat)).tmod 3 = 0) }, seq := k + (cntM Block.cnt a.d.c.blocks : Nat) + 1 + (cntM Fault.cnt a.d.faults : Nat) + 1 }
def Log.markT (a : Log) (k : Int) : Log := { d := a.d.markT (k), seq := a.seq }
def Log.zero : List TV := [.sl 3 [], .int .i64 0, .sl 3 [], .bool false, .int .i64 0]
theorem Log.eq' {a b : Log} (h0 : a.d = b.d) (h1 : a.seq = b.seq) : a = b := by cases a; cases b; simp_all
theorem Log.cnt1 (a : Log) : 1 ≤ a.cnt := by simp only [Log.cnt]; omega

theorem ST :
    (∀ a : Page, a.row = [.bool a.used, .sl 1 (bytesR a.b)]) ∧
    (∀ a : Page, a.x = .agg [.bool a.used, .ext 1 (bytesR a.b)]) ∧
    (∀ a : Page, a.o = .agg [.bool a.used, .own 1 (bytesR a.b)]) ∧
    (∀ a : Block, a.row = [.sl 2 (a.pages.map Page.row), .int .i64 a.wear, .bool a.bad]) ∧
    (∀ a : Block, a.x = .agg [.ext 2 (a.pages.map Page.row), .int .i64 a.wear, .bool a.bad]) ∧
    (∀ a : Block, a.o = .agg [.own 2 (a.pages.map Page.row), .int .i64 a.wear, .bool a.bad]) ∧
    (∀ a : Chip, a.row = [.sl 3 (a.blocks.map Block.row)]) ∧
    (∀ a : Chip, a.x = .agg [.ext 3 (a.blocks.map Block.row)]) ∧
    (∀ a : Chip, a.o = .agg [.own 3 (a.blocks.map Block.row)]) ∧
    (∀ a : Fault, a.row = [.int .i64 a.at', .int .i64 a.kind, .int .i64 a.keep]) ∧
    (∀ a : Fault, a.x = .agg [.int .i64 a.at', .int .i64 a.kind, .int .i64 a.keep]) ∧
    (∀ a : Fault, a.o = .agg [.int .i64 a.at', .int .i64 a.kind, .int .i64 a.keep]) ∧
    (∀ a : Dev, a.row = [.sl 3 (a.c.blocks.map Block.row), .int .i64 a.ops, .sl 3 (a.faults.map Fault.row), .bool a.down]) ∧
    (∀ a : Dev, a.x = .agg [.ext 3 (a.c.blocks.map Block.row), .int .i64 a.ops, .ext 3 (a.faults.map Fault.row), .bool a.down]) ∧
    (∀ a : Dev, a.o = .agg [.own 3 (a.c.blocks.map Block.row), .int .i64 a.ops, .own 3 (a.faults.map Fault.row), .bool a.down]) ∧
    (∀ a : Rec, a.row = [.int .i64 a.kind, .int .i64 a.seq, .sl 1 (bytesR a.body)]) ∧
    (∀ a : Rec, a.x = .agg [.int .i64 a.kind, .int .i64 a.seq, .ext 1 (bytesR a.body)]) ∧
    (∀ a : Rec, a.o = .agg [.int .i64 a.kind, .int .i64 a.seq, .own 1 (bytesR a.body)]) ∧
    (∀ a : Op, a.row = [.int .i64 a.kind, .int .i64 a.vol, .str a.path, .str a.to', .int .i64 a.off, .sl 1 (bytesR a.data)]) ∧
    (∀ a : Op, a.x = .agg [.int .i64 a.kind, .int .i64 a.vol, .str a.path, .str a.to', .int .i64 a.off, .ext 1 (bytesR a.data)]) ∧
    (∀ a : Op, a.o = .agg [.int .i64 a.kind, .int .i64 a.vol, .str a.path, .str a.to', .int .i64 a.off, .own 1 (bytesR a.data)]) ∧
    (∀ a : Log, a.row = [.sl 3 (a.d.c.blocks.map Block.row), .int .i64 a.d.ops, .sl 3 (a.d.faults.map Fault.row), .bool a.d.down, .int .i64 a.seq]) ∧
    (∀ a : Log, a.x = .agg [.ext 3 (a.d.c.blocks.map Block.row), .int .i64 a.d.ops, .ext 3 (a.d.faults.map Fault.row), .bool a.d.down, .int .i64 a.seq]) ∧
    (∀ a : Log, a.o = .agg [.own 3 (a.d.c.blocks.map Block.row), .int .i64 a.d.ops, .own 3 (a.d.faults.map Fault.row), .bool a.d.down, .int .i64 a.seq]) ∧
    (∀ (α β : Type) (f : α → β) (l : List α), (l.map f).length = l.length) ∧ (∀ (α β : Type) (f : α → β) (l : List α) (i : Nat), (l.map f)[i]? = (l[i]?).map f) := by
  refine ⟨?_, ?_, ?_, ?_, ?_, ?_, ?_, ?_, ?_, ?_, ?_, ?_, ?_, ?_, ?_, ?_, ?_, ?_, ?_, ?_, ?_, ?_, ?_, ?_, ?_, ?_⟩ <;> intros <;> first | rfl | simp

end Go.Proofs.Ytliklgcfdgdigaa.Awp

namespace Go.Proofs.Ytliklgcfdgdigaa.Awp
open Go.Proofs
set_option linter.unusedSimpArgs false
set_option linter.unusedVariables false

/-! ### whole numbers, as bytes -/
def inR (x a b : Int) : Bool := decide (a ≤ x ∧ x ≤ b)
/-! ### the sum of bytes -/
end Go.Proofs.Ytliklgcfdgdigaa.Awp

namespace Go.Proofs.Ytliklgcfdgdigaa.Awp
open Go.Proofs
set_option linter.unusedSimpArgs false
set_option linter.unusedVariables false
set_option maxRecDepth 100000
set_option maxHeartbeats 20000000

theorem s_eqByteS (a b : Bytes) (hl : a.length < 2 ^ 40) : Spec Try.prog 44 [.ext 1 (bytesR a), .ext 1 (bytesR b)] (.bool (decide (a = b))) [.undef, .undef] := by
  refine spec_C hmx p_L_eqByteS [] 51 [] ⟨Nat.le_of_ble_eq_true rfl, Nat.le_of_ble_eq_true rfl⟩ rfl rfl ?_
  intro w hP hmd hks hQ
  unfold c_L_eqByteS
  simp +decide (maxSteps := 20000000) (disch := omega) only [↓SBK, SGs, S1, S2, S3, SE, SC, SO, ST, SF, SK, bytes_len, bytes_get, Nat.reduceEqDiff, Nat.reduceAdd, Nat.reduceMul, Nat.reduceSub, ↓reduceIte, Int.reduceNeg, Int.reduceToNat, hmd, hks, Bool.beq_eq_decide_eq, Int.natCast_zero, Int.add_zero, ge_iff_le, gt_iff_lt, Option.isNone_none, Option.isNone_some, List.nil_append, List.append_nil, Bool.and_true, Bool.and_self, SB, Int.reducePow, hQ]
  (first | with_reducible refine if_d _ ?_ ?_ | refine if_i _ ?_ ?_) <;> intro h
  · simp +decide (maxSteps := 20000000) (disch := omega) only [↓SBK, SGs, S1, S2, S3, SE, SC, SO, ST, SF, SK, bytes_len, bytes_get, Nat.reduceEqDiff, Nat.reduceAdd, Nat.reduceMul, Nat.reduceSub, ↓reduceIte, Int.reduceNeg, Int.reduceToNat, hmd, hks, Bool.beq_eq_decide_eq, Int.natCast_zero, Int.add_zero, ge_iff_le, gt_iff_lt, Option.isNone_none, Option.isNone_some, List.nil_append, List.append_nil, Bool.and_true, Bool.and_self, SB, Int.reducePow, hQ]
    refine loop_i (fun i : Nat => [(5, .int .i64 i)]) (fun i => i ≤ a.length ∧ a.take i = b.take i) (fun i => a.length - i) (0) hP hmd hks (rfl) (by simp) ?_
    rintro i ⟨hi, hab⟩ w1 hP1 hmd1 hks1 hQ1
    simp +decide (maxSteps := 20000000) (disch := omega) only [↓SBK, SGs, S1, S2, S3, SE, SC, SO, ST, SF, SK, bytes_len, bytes_get, Nat.reduceEqDiff, Nat.reduceAdd, Nat.reduceMul, Nat.reduceSub, ↓reduceIte, Int.reduceNeg, Int.reduceToNat, hmd, hks, Bool.beq_eq_decide_eq, Int.natCast_zero, Int.add_zero, ge_iff_le, gt_iff_lt, Option.isNone_none, Option.isNone_some, List.nil_append, List.append_nil, Bool.and_true, Bool.and_self, SB, Int.reducePow, hQ, hmd1, hks1, hQ1]
    (first | with_reducible refine if_d _ ?_ ?_ | refine if_i _ ?_ ?_) <;> intro h1
    · simp +decide (maxSteps := 20000000) (disch := omega) only [↓SBK, SGs, S1, S2, S3, SE, SC, SO, ST, SF, SK, bytes_len, bytes_get, Nat.reduceEqDiff, Nat.reduceAdd, Nat.reduceMul, Nat.reduceSub, ↓reduceIte, Int.reduceNeg, Int.reduceToNat, hmd, hks, Bool.beq_eq_decide_eq, Int.natCast_zero, Int.add_zero, ge_iff_le, gt_iff_lt, Option.isNone_none, Option.isNone_some, List.nil_append, List.append_nil, Bool.and_true, Bool.and_self, SB, Int.reducePow, hQ, hmd1, hks1, hQ1, getE h1, getE (h ▸ h1)]
      (first | with_reducible refine if_d _ ?_ ?_ | refine if_i _ ?_ ?_) <;> intro h2
      · simp +decide (maxSteps := 20000000) (disch := omega) only [↓SBK, SGs, S1, S2, S3, SE, SC, SO, ST, SF, SK, bytes_len, bytes_get, Nat.reduceEqDiff, Nat.reduceAdd, Nat.reduceMul, Nat.reduceSub, ↓reduceIte, Int.reduceNeg, Int.reduceToNat, hmd, hks, Bool.beq_eq_decide_eq, Int.natCast_zero, Int.add_zero, ge_iff_le, gt_iff_lt, Option.isNone_none, Option.isNone_some, List.nil_append, List.append_nil, Bool.and_true, Bool.and_self, SB, Int.reducePow, hQ, hmd1, hks1, hQ1]
        exact ⟨i + 1, rfl, ⟨by omega, take_eq_succ hab _ _ (UInt8.toNat_inj.1 (by omega))⟩, by omega⟩
      · simp +decide (maxSteps := 20000000) (disch := omega) only [↓SBK, SGs, S1, S2, S3, SE, SC, SO, ST, SF, SK, bytes_len, bytes_get, Nat.reduceEqDiff, Nat.reduceAdd, Nat.reduceMul, Nat.reduceSub, ↓reduceIte, Int.reduceNeg, Int.reduceToNat, hmd, hks, Bool.beq_eq_decide_eq, Int.natCast_zero, Int.add_zero, ge_iff_le, gt_iff_lt, Option.isNone_none, Option.isNone_some, List.nil_append, List.append_nil, Bool.and_true, Bool.and_self, SB, Int.reducePow, hQ, hmd1, hks1, hQ1]
        rw [decide_eq_false]
        rintro rfl; exact h2 rfl
    · simp +decide (maxSteps := 20000000) (disch := omega) only [↓SBK, SGs, S1, S2, S3, SE, SC, SO, ST, SF, SK, bytes_len, bytes_get, Nat.reduceEqDiff, Nat.reduceAdd, Nat.reduceMul, Nat.reduceSub, ↓reduceIte, Int.reduceNeg, Int.reduceToNat, hmd, hks, Bool.beq_eq_decide_eq, Int.natCast_zero, Int.add_zero, ge_iff_le, gt_iff_lt, Option.isNone_none, Option.isNone_some, List.nil_append, List.append_nil, Bool.and_true, Bool.and_self, SB, Int.reducePow, hQ, hmd1, hks1, hQ1]
      rw [decide_eq_true (take_all hab (by omega) (by omega))]
  · simp +decide (maxSteps := 20000000) (disch := omega) only [↓SBK, SGs, S1, S2, S3, SE, SC, SO, ST, SF, SK, bytes_len, bytes_get, Nat.reduceEqDiff, Nat.reduceAdd, Nat.reduceMul, Nat.reduceSub, ↓reduceIte, Int.reduceNeg, Int.reduceToNat, hmd, hks, Bool.beq_eq_decide_eq, Int.natCast_zero, Int.add_zero, ge_iff_le, gt_iff_lt, Option.isNone_none, Option.isNone_some, List.nil_append, List.append_nil, Bool.and_true, Bool.and_self, SB, Int.reducePow, hQ, hQ]
    rw [decide_eq_false]
    rintro rfl; exact h rfl

theorem s_szByteS (a : Bytes) (left : Int) (hl : a.length < 2 ^ 48) (h0 : 0 ≤ left) (h1 : left < 2 ^ 40) :
    Spec Try.prog 119 [.ext 1 (bytesR a), .int .i64 left] (.int .i64 (szC left a.length)) [.undef, .undef] := by
  refine spec_C hmx p_L_szByteS [] 19 [] ⟨Nat.le_of_ble_eq_true rfl, Nat.le_of_ble_eq_true rfl⟩ rfl rfl ?_
  intro w hP hmd hks hQ
  unfold c_L_szByteS
  simp +decide (maxSteps := 20000000) (disch := omega) only [↓SBK, SGs, S1, S2, S3, SE, SC, SO, ST, SF, SK, bytes_len, bytes_get, Nat.reduceEqDiff, Nat.reduceAdd, Nat.reduceMul, Nat.reduceSub, ↓reduceIte, Int.reduceNeg, Int.reduceToNat, hmd, hks, Bool.beq_eq_decide_eq, Int.natCast_zero, Int.add_zero, ge_iff_le, gt_iff_lt, Option.isNone_none, Option.isNone_some, List.nil_append, List.append_nil, Bool.and_true, Bool.and_self, SB, Int.reducePow, hQ]
  (first | with_reducible refine if_d _ ?_ ?_ | refine if_i _ ?_ ?_) <;> intro h
  · simp +decide (maxSteps := 20000000) (disch := omega) only [↓SBK, SGs, S1, S2, S3, SE, SC, SO, ST, SF, SK, bytes_len, bytes_get, Nat.reduceEqDiff, Nat.reduceAdd, Nat.reduceMul, Nat.reduceSub, ↓reduceIte, Int.reduceNeg, Int.reduceToNat, hmd, hks, Bool.beq_eq_decide_eq, Int.natCast_zero, Int.add_zero, ge_iff_le, gt_iff_lt, Option.isNone_none, Option.isNone_some, List.nil_append, List.append_nil, Bool.and_true, Bool.and_self, SB, Int.reducePow, hQ]
    rw [szC_lt (by omega)]
  · simp +decide (maxSteps := 20000000) (disch := omega) only [↓SBK, SGs, S1, S2, S3, SE, SC, SO, ST, SF, SK, bytes_len, bytes_get, Nat.reduceEqDiff, Nat.reduceAdd, Nat.reduceMul, Nat.reduceSub, ↓reduceIte, Int.reduceNeg, Int.reduceToNat, hmd, hks, Bool.beq_eq_decide_eq, Int.natCast_zero, Int.add_zero, ge_iff_le, gt_iff_lt, Option.isNone_none, Option.isNone_some, List.nil_append, List.append_nil, Bool.and_true, Bool.and_self, SB, Int.reducePow, hQ]
    rw [szC_ge (by omega)]

theorem s_toByteS (a : Bytes) (hl : a.length < 2 ^ 40) : Spec Try.prog 61 [.ext 1 (bytesR a)] (.own 1 (bytesR a)) [.undef] := by
  refine spec_C hmx p_L_toByteS [] 29 [] ⟨Nat.le_of_ble_eq_true rfl, Nat.le_of_ble_eq_true rfl⟩ rfl rfl ?_
  intro w hP hmd hks hQ
  unfold c_L_toByteS
  simp +decide (maxSteps := 20000000) (disch := omega) only [↓SBK, SGs, S1, S2, S3, SE, SC, SO, ST, SF, SK, bytes_len, bytes_get, Nat.reduceEqDiff, Nat.reduceAdd, Nat.reduceMul, Nat.reduceSub, ↓reduceIte, Int.reduceNeg, Int.reduceToNat, hmd, hks, Bool.beq_eq_decide_eq, Int.natCast_zero, Int.add_zero, ge_iff_le, gt_iff_lt, Option.isNone_none, Option.isNone_some, List.nil_append, List.append_nil, Bool.and_true, Bool.and_self, SB, Int.reducePow, hQ]
  refine loop_i (fun i : Nat => [(3, .own 1 (fillR byteRow [.int .u8 0] a i)), (4, .int .i64 i)]) (fun i => i ≤ a.length) (fun i => a.length - i) (0) hP hmd hks (by simp +decide (maxSteps := 20000000) (disch := omega) only [↓SBK, SGs, S1, S2, S3, SE, SC, SO, ST, SF, SK, bytes_len, bytes_get, Nat.reduceEqDiff, Nat.reduceAdd, Nat.reduceMul, Nat.reduceSub, ↓reduceIte, Int.reduceNeg, Int.reduceToNat, hmd, hks, Bool.beq_eq_decide_eq, Int.natCast_zero, Int.add_zero, ge_iff_le, gt_iff_lt, Option.isNone_none, Option.isNone_some, List.nil_append, List.append_nil, Bool.and_true, Bool.and_self, SB, Int.reducePow, hQ, fillR_0]) (by omega) ?_
  rintro i hi w1 hP1 hmd1 hks1 hQ1
  simp +decide (maxSteps := 20000000) (disch := omega) only [↓SBK, SGs, S1, S2, S3, SE, SC, SO, ST, SF, SK, bytes_len, bytes_get, Nat.reduceEqDiff, Nat.reduceAdd, Nat.reduceMul, Nat.reduceSub, ↓reduceIte, Int.reduceNeg, Int.reduceToNat, hmd, hks, Bool.beq_eq_decide_eq, Int.natCast_zero, Int.add_zero, ge_iff_le, gt_iff_lt, Option.isNone_none, Option.isNone_some, List.nil_append, List.append_nil, Bool.and_true, Bool.and_self, SB, Int.reducePow, hQ, hmd1, hks1, hQ1]
  (first | with_reducible refine if_d _ ?_ ?_ | refine if_i _ ?_ ?_) <;> intro h1
  · simp +decide (maxSteps := 20000000) (disch := omega) only [↓SBK, SGs, S1, S2, S3, SE, SC, SO, ST, SF, SK, bytes_len, bytes_get, Nat.reduceEqDiff, Nat.reduceAdd, Nat.reduceMul, Nat.reduceSub, ↓reduceIte, Int.reduceNeg, Int.reduceToNat, hmd, hks, Bool.beq_eq_decide_eq, Int.natCast_zero, Int.add_zero, ge_iff_le, gt_iff_lt, Option.isNone_none, Option.isNone_some, List.nil_append, List.append_nil, Bool.and_true, Bool.and_self, SB, Int.reducePow, hQ, hmd1, hks1, hQ1, getE h1]
    rw [fillR_set _ _ _ _ (by omega) _ (by rfl)]
    exact ⟨i + 1, rfl, by omega, by omega⟩
  · simp +decide (maxSteps := 20000000) (disch := omega) only [↓SBK, SGs, S1, S2, S3, SE, SC, SO, ST, SF, SK, bytes_len, bytes_get, Nat.reduceEqDiff, Nat.reduceAdd, Nat.reduceMul, Nat.reduceSub, ↓reduceIte, Int.reduceNeg, Int.reduceToNat, hmd, hks, Bool.beq_eq_decide_eq, Int.natCast_zero, Int.add_zero, ge_iff_le, gt_iff_lt, Option.isNone_none, Option.isNone_some, List.nil_append, List.append_nil, Bool.and_true, Bool.and_self, SB, Int.reducePow, hQ, hmd1, hks1, hQ1, fillR_all, bytesR_row]

theorem s_markByteS (a : Bytes) (k : Int) (h0 : 0 ≤ k) (hl : k + a.length < 2 ^ 40) : Spec Try.prog 46 [.own 1 (bytesR a), .int .i64 k] (.int .i64 (k + a.length)) [.own 1 (bytesR (markBy a k)), .undef] := by
  refine spec_C hmx p_L_markByteS [] 51 [true, false] ⟨Nat.le_of_ble_eq_true rfl, Nat.le_of_ble_eq_true rfl⟩ rfl rfl ?_
  intro w hP hmd hks hQ
  unfold c_L_markByteS
  simp +decide (maxSteps := 20000000) (disch := omega) only [↓SBK, SGs, S1, S2, S3, SE, SC, SO, ST, SF, SK, bytes_len, bytes_get, Nat.reduceEqDiff, Nat.reduceAdd, Nat.reduceMul, Nat.reduceSub, ↓reduceIte, Int.reduceNeg, Int.reduceToNat, hmd, hks, Bool.beq_eq_decide_eq, Int.natCast_zero, Int.add_zero, ge_iff_le, gt_iff_lt, Option.isNone_none, Option.isNone_some, List.nil_append, List.append_nil, Bool.and_true, Bool.and_self, SB, Int.reducePow, hQ]
  refine loop_i (fun i : Nat => [(1000, .own 1 (mixR byteRow (fun _ k => UInt8.ofInt k) (fun _ => 1) a k i)), (1, .int .i64 (k + i)), (5, .int .i64 i)]) (fun i => i ≤ a.length) (fun i => a.length - i) (0) hP hmd hks (by simp +decide (maxSteps := 20000000) (disch := omega) only [↓SBK, SGs, S1, S2, S3, SE, SC, SO, ST, SF, SK, bytes_len, bytes_get, Nat.reduceEqDiff, Nat.reduceAdd, Nat.reduceMul, Nat.reduceSub, ↓reduceIte, Int.reduceNeg, Int.reduceToNat, hmd, hks, Bool.beq_eq_decide_eq, Int.natCast_zero, Int.add_zero, ge_iff_le, gt_iff_lt, Option.isNone_none, Option.isNone_some, List.nil_append, List.append_nil, Bool.and_true, Bool.and_self, SB, Int.reducePow, hQ, mixR_0, ← bytesR_row]) (by omega) ?_
  rintro i hi w1 hP1 hmd1 hks1 hQ1
  simp +decide (maxSteps := 20000000) (disch := omega) only [↓SBK, SGs, S1, S2, S3, SE, SC, SO, ST, SF, SK, bytes_len, bytes_get, Nat.reduceEqDiff, Nat.reduceAdd, Nat.reduceMul, Nat.reduceSub, ↓reduceIte, Int.reduceNeg, Int.reduceToNat, hmd, hks, Bool.beq_eq_decide_eq, Int.natCast_zero, Int.add_zero, ge_iff_le, gt_iff_lt, Option.isNone_none, Option.isNone_some, List.nil_append, List.append_nil, Bool.and_true, Bool.and_self, SB, Int.reducePow, hQ, hmd1, hks1, hQ1]
  (first | with_reducible refine if_d _ ?_ ?_ | refine if_i _ ?_ ?_) <;> intro h1
  · simp +decide (maxSteps := 20000000) (disch := omega) only [↓SBK, SGs, S1, S2, S3, SE, SC, SO, ST, SF, SK, bytes_len, bytes_get, Nat.reduceEqDiff, Nat.reduceAdd, Nat.reduceMul, Nat.reduceSub, ↓reduceIte, Int.reduceNeg, Int.reduceToNat, hmd, hks, Bool.beq_eq_decide_eq, Int.natCast_zero, Int.add_zero, ge_iff_le, gt_iff_lt, Option.isNone_none, Option.isNone_some, List.nil_append, List.append_nil, Bool.and_true, Bool.and_self, SB, Int.reducePow, hQ, hmd1, hks1, hQ1]
    rw [mixR_set _ _ _ _ _ _ (by omega) _ (by simp only [sum_one, List.length_take, Nat.min_eq_left hi, wrap_ofInt]; rfl)]
    exact ⟨i + 1, by simp [Int.add_assoc], by omega, by omega⟩
  · obtain rfl : i = a.length := by omega
    simp +decide (maxSteps := 20000000) (disch := omega) only [↓SBK, SGs, S1, S2, S3, SE, SC, SO, ST, SF, SK, bytes_len, bytes_get, Nat.reduceEqDiff, Nat.reduceAdd, Nat.reduceMul, Nat.reduceSub, ↓reduceIte, Int.reduceNeg, Int.reduceToNat, hmd, hks, Bool.beq_eq_decide_eq, Int.natCast_zero, Int.add_zero, ge_iff_le, gt_iff_lt, Option.isNone_none, Option.isNone_some, List.nil_append, List.append_nil, Bool.and_true, Bool.and_self, SB, Int.reducePow, hQ, hmd1, hks1, hQ1, markBy_row]

theorem s_heldByteS (a : Bytes) (k : Int) (h0 : 0 ≤ k) (hl : k + a.length < 2 ^ 40) : Spec Try.prog 47 [.ext 1 (bytesR (markBy a k)), .int .i64 k] (.int .i64 (k + a.length)) [.undef, .undef] := by
  refine spec_C hmx p_L_heldByteS [] 51 [] ⟨Nat.le_of_ble_eq_true rfl, Nat.le_of_ble_eq_true rfl⟩ rfl rfl ?_
  intro w hP hmd hks hQ
  unfold c_L_heldByteS
  simp +decide (maxSteps := 20000000) (disch := omega) only [↓SBK, SGs, S1, S2, S3, SE, SC, SO, ST, SF, SK, bytes_len, bytes_get, Nat.reduceEqDiff, Nat.reduceAdd, Nat.reduceMul, Nat.reduceSub, ↓reduceIte, Int.reduceNeg, Int.reduceToNat, hmd, hks, Bool.beq_eq_decide_eq, Int.natCast_zero, Int.add_zero, ge_iff_le, gt_iff_lt, Option.isNone_none, Option.isNone_some, List.nil_append, List.append_nil, Bool.and_true, Bool.and_self, SB, Int.reducePow, hQ]
  refine loop_i (fun i : Nat => [(1, .int .i64 (k + i)), (5, .int .i64 i)]) (fun i => i ≤ a.length) (fun i => a.length - i) (0) hP hmd hks (by simp +decide (maxSteps := 20000000) (disch := omega) only [↓SBK, SGs, S1, S2, S3, SE, SC, SO, ST, SF, SK, bytes_len, bytes_get, Nat.reduceEqDiff, Nat.reduceAdd, Nat.reduceMul, Nat.reduceSub, ↓reduceIte, Int.reduceNeg, Int.reduceToNat, hmd, hks, Bool.beq_eq_decide_eq, Int.natCast_zero, Int.add_zero, ge_iff_le, gt_iff_lt, Option.isNone_none, Option.isNone_some, List.nil_append, List.append_nil, Bool.and_true, Bool.and_self, SB, Int.reducePow, hQ]) (by omega) ?_
  rintro i hi w1 hP1 hmd1 hks1 hQ1
  simp +decide (maxSteps := 20000000) (disch := omega) only [↓SBK, SGs, S1, S2, S3, SE, SC, SO, ST, SF, SK, bytes_len, bytes_get, Nat.reduceEqDiff, Nat.reduceAdd, Nat.reduceMul, Nat.reduceSub, ↓reduceIte, Int.reduceNeg, Int.reduceToNat, hmd, hks, Bool.beq_eq_decide_eq, Int.natCast_zero, Int.add_zero, ge_iff_le, gt_iff_lt, Option.isNone_none, Option.isNone_some, List.nil_append, List.append_nil, Bool.and_true, Bool.and_self, SB, Int.reducePow, hQ, hmd1, hks1, hQ1]
  (first | with_reducible refine if_d _ ?_ ?_ | refine if_i _ ?_ ?_) <;> intro h1
  · simp +decide (maxSteps := 20000000) (disch := omega) only [↓SBK, SGs, S1, S2, S3, SE, SC, SO, ST, SF, SK, bytes_len, bytes_get, Nat.reduceEqDiff, Nat.reduceAdd, Nat.reduceMul, Nat.reduceSub, ↓reduceIte, Int.reduceNeg, Int.reduceToNat, hmd, hks, Bool.beq_eq_decide_eq, Int.natCast_zero, Int.add_zero, ge_iff_le, gt_iff_lt, Option.isNone_none, Option.isNone_some, List.nil_append, List.append_nil, Bool.and_true, Bool.and_self, SB, Int.reducePow, hQ, hmd1, hks1, hQ1, getE h1, wrap_ofInt]
    exact ⟨i + 1, by simp [Int.add_assoc], by omega, by omega⟩
  · obtain rfl : i = a.length := by omega
    simp +decide (maxSteps := 20000000) (disch := omega) only [↓SBK, SGs, S1, S2, S3, SE, SC, SO, ST, SF, SK, bytes_len, bytes_get, Nat.reduceEqDiff, Nat.reduceAdd, Nat.reduceMul, Nat.reduceSub, ↓reduceIte, Int.reduceNeg, Int.reduceToNat, hmd, hks, Bool.beq_eq_decide_eq, Int.natCast_zero, Int.add_zero, ge_iff_le, gt_iff_lt, Option.isNone_none, Option.isNone_some, List.nil_append, List.append_nil, Bool.and_true, Bool.and_self, SB, Int.reducePow, hQ, hmd1, hks1, hQ1]
end Go.Proofs.Ytliklgcfdgdigaa.Awp

namespace Go.Proofs.Ytliklgcfdgdigaa.Awp
open Go.Proofs
set_option linter.unusedSimpArgs false
set_option linter.unusedVariables false
set_option maxRecDepth 100000
set_option maxHeartbeats 20000000

theorem s_eqPage (a b : Page) (hl : a.sz < 2 ^ 40) : Spec Try.prog 187 [a.x, b.x] (.bool (decide (a = b))) [.undef, .undef] := by
  simp only [Page.sz] at hl
  refine spec_C hmx p_L_eqPage [] 31 [] ⟨Nat.le_of_ble_eq_true rfl, Nat.le_of_ble_eq_true rfl⟩ rfl rfl ?_
  intro w hP hmd hks hQ
  unfold c_L_eqPage
  simp +decide (maxSteps := 20000000) (disch := omega) only [↓SBK, SGs, S1, S2, S3, SE, SC, SO, ST, SF, SK, bytes_len, bytes_get, Nat.reduceEqDiff, Nat.reduceAdd, Nat.reduceMul, Nat.reduceSub, ↓reduceIte, Int.reduceNeg, Int.reduceToNat, hmd, hks, Bool.beq_eq_decide_eq, Int.natCast_zero, Int.add_zero, ge_iff_le, gt_iff_lt, Option.isNone_none, Option.isNone_some, List.nil_append, List.append_nil, Bool.and_true, Bool.and_self, SB, Int.reducePow, hQ]
  (first | with_reducible refine if_d _ ?_ ?_ | refine if_i _ ?_ ?_) <;> intro h0
  rotate_left
  · simp +decide (maxSteps := 20000000) (disch := omega) only [↓SBK, SGs, S1, S2, S3, SE, SC, SO, ST, SF, SK, bytes_len, bytes_get, Nat.reduceEqDiff, Nat.reduceAdd, Nat.reduceMul, Nat.reduceSub, ↓reduceIte, Int.reduceNeg, Int.reduceToNat, hmd, hks, Bool.beq_eq_decide_eq, Int.natCast_zero, Int.add_zero, ge_iff_le, gt_iff_lt, Option.isNone_none, Option.isNone_some, List.nil_append, List.append_nil, Bool.and_true, Bool.and_self, SB, Int.reducePow, hQ]
    rw [decide_eq_false (by rintro rfl; exact h0 rfl)]
  simp +decide (maxSteps := 20000000) (disch := omega) only [↓SBK, SGs, S1, S2, S3, SE, SC, SO, ST, SF, SK, bytes_len, bytes_get, Nat.reduceEqDiff, Nat.reduceAdd, Nat.reduceMul, Nat.reduceSub, ↓reduceIte, Int.reduceNeg, Int.reduceToNat, hmd, hks, Bool.beq_eq_decide_eq, Int.natCast_zero, Int.add_zero, ge_iff_le, gt_iff_lt, Option.isNone_none, Option.isNone_some, List.nil_append, List.append_nil, Bool.and_true, Bool.and_self, SB, Int.reducePow, hQ]
  (first | refine call_i hP (s_eqByteS a.b b.b (by omega)) (.inl ⟨rfl, fun _ hx => nomatch hx⟩) ?_ | refine callH_i hP (s_eqByteS a.b b.b (by omega)) (.inl ⟨rfl, fun _ hx => nomatch hx⟩) ?_)
  simp +decide (maxSteps := 20000000) (disch := omega) only [↓SBK, SGs, S1, S2, S3, SE, SC, SO, ST, SF, SK, bytes_len, bytes_get, Nat.reduceEqDiff, Nat.reduceAdd, Nat.reduceMul, Nat.reduceSub, ↓reduceIte, Int.reduceNeg, Int.reduceToNat, hmd, hks, Bool.beq_eq_decide_eq, Int.natCast_zero, Int.add_zero, ge_iff_le, gt_iff_lt, Option.isNone_none, Option.isNone_some, List.nil_append, List.append_nil, Bool.and_true, Bool.and_self, SB, Int.reducePow, hQ]
  (first | with_reducible refine if_d _ ?_ ?_ | refine if_i _ ?_ ?_) <;> intro h1
  rotate_left
  · simp +decide (maxSteps := 20000000) (disch := omega) only [↓SBK, SGs, S1, S2, S3, SE, SC, SO, ST, SF, SK, bytes_len, bytes_get, Nat.reduceEqDiff, Nat.reduceAdd, Nat.reduceMul, Nat.reduceSub, ↓reduceIte, Int.reduceNeg, Int.reduceToNat, hmd, hks, Bool.beq_eq_decide_eq, Int.natCast_zero, Int.add_zero, ge_iff_le, gt_iff_lt, Option.isNone_none, Option.isNone_some, List.nil_append, List.append_nil, Bool.and_true, Bool.and_self, SB, Int.reducePow, hQ]
    rw [decide_eq_false (by rintro rfl; exact h1 rfl)]
  simp +decide (maxSteps := 20000000) (disch := omega) only [↓SBK, SGs, S1, S2, S3, SE, SC, SO, ST, SF, SK, bytes_len, bytes_get, Nat.reduceEqDiff, Nat.reduceAdd, Nat.reduceMul, Nat.reduceSub, ↓reduceIte, Int.reduceNeg, Int.reduceToNat, hmd, hks, Bool.beq_eq_decide_eq, Int.natCast_zero, Int.add_zero, ge_iff_le, gt_iff_lt, Option.isNone_none, Option.isNone_some, List.nil_append, List.append_nil, Bool.and_true, Bool.and_self, SB, Int.reducePow, hQ]
  rw [decide_eq_true (Page.eq' h0 h1)]

theorem s_eqPageS (a b : List Page) (hl : szM Page.sz a < 2 ^ 40) : Spec Try.prog 184 [.ext 2 (a.map Page.row), .ext 2 (b.map Page.row)] (.bool (decide (a = b))) [.undef, .undef] := by
  simp only [szM] at hl
  refine spec_C hmx p_L_eqPageS [] 51 [] ⟨Nat.le_of_ble_eq_true rfl, Nat.le_of_ble_eq_true rfl⟩ rfl rfl ?_
  intro w hP hmd hks hQ
  unfold c_L_eqPageS
  simp +decide (maxSteps := 20000000) (disch := omega) only [↓SBK, SGs, S1, S2, S3, SE, SC, SO, ST, SF, SK, bytes_len, bytes_get, Nat.reduceEqDiff, Nat.reduceAdd, Nat.reduceMul, Nat.reduceSub, ↓reduceIte, Int.reduceNeg, Int.reduceToNat, hmd, hks, Bool.beq_eq_decide_eq, Int.natCast_zero, Int.add_zero, ge_iff_le, gt_iff_lt, Option.isNone_none, Option.isNone_some, List.nil_append, List.append_nil, Bool.and_true, Bool.and_self, SB, Int.reducePow, hQ]
  (first | with_reducible refine if_d _ ?_ ?_ | refine if_i _ ?_ ?_) <;> intro h
  rotate_left
  · simp +decide (maxSteps := 20000000) (disch := omega) only [↓SBK, SGs, S1, S2, S3, SE, SC, SO, ST, SF, SK, bytes_len, bytes_get, Nat.reduceEqDiff, Nat.reduceAdd, Nat.reduceMul, Nat.reduceSub, ↓reduceIte, Int.reduceNeg, Int.reduceToNat, hmd, hks, Bool.beq_eq_decide_eq, Int.natCast_zero, Int.add_zero, ge_iff_le, gt_iff_lt, Option.isNone_none, Option.isNone_some, List.nil_append, List.append_nil, Bool.and_true, Bool.and_self, SB, Int.reducePow, hQ]
    rw [decide_eq_false (by rintro rfl; exact h rfl)]
  simp +decide (maxSteps := 20000000) (disch := omega) only [↓SBK, SGs, S1, S2, S3, SE, SC, SO, ST, SF, SK, bytes_len, bytes_get, Nat.reduceEqDiff, Nat.reduceAdd, Nat.reduceMul, Nat.reduceSub, ↓reduceIte, Int.reduceNeg, Int.reduceToNat, hmd, hks, Bool.beq_eq_decide_eq, Int.natCast_zero, Int.add_zero, ge_iff_le, gt_iff_lt, Option.isNone_none, Option.isNone_some, List.nil_append, List.append_nil, Bool.and_true, Bool.and_self, SB, Int.reducePow, hQ]
  refine loop_i (fun i : Nat => [(5, .int .i64 i)]) (fun i => i ≤ a.length ∧ a.take i = b.take i) (fun i => a.length - i) (0) hP hmd hks (rfl) (by simp) ?_
  rintro i ⟨hi, hab⟩ w1 hP1 hmd1 hks1 hQ1
  simp +decide (maxSteps := 20000000) (disch := omega) only [↓SBK, SGs, S1, S2, S3, SE, SC, SO, ST, SF, SK, bytes_len, bytes_get, Nat.reduceEqDiff, Nat.reduceAdd, Nat.reduceMul, Nat.reduceSub, ↓reduceIte, Int.reduceNeg, Int.reduceToNat, hmd, hks, Bool.beq_eq_decide_eq, Int.natCast_zero, Int.add_zero, ge_iff_le, gt_iff_lt, Option.isNone_none, Option.isNone_some, List.nil_append, List.append_nil, Bool.and_true, Bool.and_self, SB, Int.reducePow, hQ, hmd1, hks1, hQ1]
  (first | with_reducible refine if_d _ ?_ ?_ | refine if_i _ ?_ ?_) <;> intro h1
  · simp +decide (maxSteps := 20000000) (disch := omega) only [↓SBK, SGs, S1, S2, S3, SE, SC, SO, ST, SF, SK, bytes_len, bytes_get, Nat.reduceEqDiff, Nat.reduceAdd, Nat.reduceMul, Nat.reduceSub, ↓reduceIte, Int.reduceNeg, Int.reduceToNat, hmd, hks, Bool.beq_eq_decide_eq, Int.natCast_zero, Int.add_zero, ge_iff_le, gt_iff_lt, Option.isNone_none, Option.isNone_some, List.nil_append, List.append_nil, Bool.and_true, Bool.and_self, SB, Int.reducePow, hQ, hmd1, hks1, hQ1, getE h1, getE (h ▸ h1)]
    (first | refine call_i hP1 (s_eqPage (a[i]'(by omega)) (b[i]'(by omega)) (Nat.lt_of_le_of_lt (sum_get Page.sz _) (by omega))) (.inl ⟨rfl, fun _ hx => nomatch hx⟩) ?_ | refine callH_i hP1 (s_eqPage (a[i]'(by omega)) (b[i]'(by omega)) (Nat.lt_of_le_of_lt (sum_get Page.sz _) (by omega))) (.inl ⟨rfl, fun _ hx => nomatch hx⟩) ?_)
    simp +decide (maxSteps := 20000000) (disch := omega) only [↓SBK, SGs, S1, S2, S3, SE, SC, SO, ST, SF, SK, bytes_len, bytes_get, Nat.reduceEqDiff, Nat.reduceAdd, Nat.reduceMul, Nat.reduceSub, ↓reduceIte, Int.reduceNeg, Int.reduceToNat, hmd, hks, Bool.beq_eq_decide_eq, Int.natCast_zero, Int.add_zero, ge_iff_le, gt_iff_lt, Option.isNone_none, Option.isNone_some, List.nil_append, List.append_nil, Bool.and_true, Bool.and_self, SB, Int.reducePow, hQ, hmd1, hks1, hQ1]
    (first | with_reducible refine if_d _ ?_ ?_ | refine if_i _ ?_ ?_) <;> intro h2
    · simp +decide (maxSteps := 20000000) (disch := omega) only [↓SBK, SGs, S1, S2, S3, SE, SC, SO, ST, SF, SK, bytes_len, bytes_get, Nat.reduceEqDiff, Nat.reduceAdd, Nat.reduceMul, Nat.reduceSub, ↓reduceIte, Int.reduceNeg, Int.reduceToNat, hmd, hks, Bool.beq_eq_decide_eq, Int.natCast_zero, Int.add_zero, ge_iff_le, gt_iff_lt, Option.isNone_none, Option.isNone_some, List.nil_append, List.append_nil, Bool.and_true, Bool.and_self, SB, Int.reducePow, hQ, hmd1, hks1, hQ1]
      exact ⟨i + 1, rfl, ⟨by omega, take_eq_succ hab _ _ h2⟩, by omega⟩
    · simp +decide (maxSteps := 20000000) (disch := omega) only [↓SBK, SGs, S1, S2, S3, SE, SC, SO, ST, SF, SK, bytes_len, bytes_get, Nat.reduceEqDiff, Nat.reduceAdd, Nat.reduceMul, Nat.reduceSub, ↓reduceIte, Int.reduceNeg, Int.reduceToNat, hmd, hks, Bool.beq_eq_decide_eq, Int.natCast_zero, Int.add_zero, ge_iff_le, gt_iff_lt, Option.isNone_none, Option.isNone_some, List.nil_append, List.append_nil, Bool.and_true, Bool.and_self, SB, Int.reducePow, hQ, hmd1, hks1, hQ1]
      rw [decide_eq_false (by rintro rfl; exact h2 rfl)]
  · simp +decide (maxSteps := 20000000) (disch := omega) only [↓SBK, SGs, S1, S2, S3, SE, SC, SO, ST, SF, SK, bytes_len, bytes_get, Nat.reduceEqDiff, Nat.reduceAdd, Nat.reduceMul, Nat.reduceSub, ↓reduceIte, Int.reduceNeg, Int.reduceToNat, hmd, hks, Bool.beq_eq_decide_eq, Int.natCast_zero, Int.add_zero, ge_iff_le, gt_iff_lt, Option.isNone_none, Option.isNone_some, List.nil_append, List.append_nil, Bool.and_true, Bool.and_self, SB, Int.reducePow, hQ, hmd1, hks1, hQ1]
    rw [decide_eq_true (take_all hab (by omega) (by omega))]

theorem s_eqBlock (a b : Block) (hl : a.sz < 2 ^ 40) : Spec Try.prog 169 [a.x, b.x] (.bool (decide (a = b))) [.undef, .undef] := by
  simp only [Block.sz] at hl
  refine spec_C hmx p_L_eqBlock [] 31 [] ⟨Nat.le_of_ble_eq_true rfl, Nat.le_of_ble_eq_true rfl⟩ rfl rfl ?_
  intro w hP hmd hks hQ
  unfold c_L_eqBlock
  simp +decide (maxSteps := 20000000) (disch := omega) only [↓SBK, SGs, S1, S2, S3, SE, SC, SO, ST, SF, SK, bytes_len, bytes_get, Nat.reduceEqDiff, Nat.reduceAdd, Nat.reduceMul, Nat.reduceSub, ↓reduceIte, Int.reduceNeg, Int.reduceToNat, hmd, hks, Bool.beq_eq_decide_eq, Int.natCast_zero, Int.add_zero, ge_iff_le, gt_iff_lt, Option.isNone_none, Option.isNone_some, List.nil_append, List.append_nil, Bool.and_true, Bool.and_self, SB, Int.reducePow, hQ]
  (first | refine call_i hP (s_eqPageS a.pages b.pages (by omega)) (.inl ⟨rfl, fun _ hx => nomatch hx⟩) ?_ | refine callH_i hP (s_eqPageS a.pages b.pages (by omega)) (.inl ⟨rfl, fun _ hx => nomatch hx⟩) ?_)
  simp +decide (maxSteps := 20000000) (disch := omega) only [↓SBK, SGs, S1, S2, S3, SE, SC, SO, ST, SF, SK, bytes_len, bytes_get, Nat.reduceEqDiff, Nat.reduceAdd, Nat.reduceMul, Nat.reduceSub, ↓reduceIte, Int.reduceNeg, Int.reduceToNat, hmd, hks, Bool.beq_eq_decide_eq, Int.natCast_zero, Int.add_zero, ge_iff_le, gt_iff_lt, Option.isNone_none, Option.isNone_some, List.nil_append, List.append_nil, Bool.and_true, Bool.and_self, SB, Int.reducePow, hQ]
  (first | with_reducible refine if_d _ ?_ ?_ | refine if_i _ ?_ ?_) <;> intro h0
  rotate_left
  · simp +decide (maxSteps := 20000000) (disch := omega) only [↓SBK, SGs, S1, S2, S3, SE, SC, SO, ST, SF, SK, bytes_len, bytes_get, Nat.reduceEqDiff, Nat.reduceAdd, Nat.reduceMul, Nat.reduceSub, ↓reduceIte, Int.reduceNeg, Int.reduceToNat, hmd, hks, Bool.beq_eq_decide_eq, Int.natCast_zero, Int.add_zero, ge_iff_le, gt_iff_lt, Option.isNone_none, Option.isNone_some, List.nil_append, List.append_nil, Bool.and_true, Bool.and_self, SB, Int.reducePow, hQ]
    rw [decide_eq_false (by rintro rfl; exact h0 rfl)]
  simp +decide (maxSteps := 20000000) (disch := omega) only [↓SBK, SGs, S1, S2, S3, SE, SC, SO, ST, SF, SK, bytes_len, bytes_get, Nat.reduceEqDiff, Nat.reduceAdd, Nat.reduceMul, Nat.reduceSub, ↓reduceIte, Int.reduceNeg, Int.reduceToNat, hmd, hks, Bool.beq_eq_decide_eq, Int.natCast_zero, Int.add_zero, ge_iff_le, gt_iff_lt, Option.isNone_none, Option.isNone_some, List.nil_append, List.append_nil, Bool.and_true, Bool.and_self, SB, Int.reducePow, hQ]
  (first | with_reducible refine if_d _ ?_ ?_ | refine if_i _ ?_ ?_) <;> intro h1
  rotate_left
  · simp +decide (maxSteps := 20000000) (disch := omega) only [↓SBK, SGs, S1, S2, S3, SE, SC, SO, ST, SF, SK, bytes_len, bytes_get, Nat.reduceEqDiff, Nat.reduceAdd, Nat.reduceMul, Nat.reduceSub, ↓reduceIte, Int.reduceNeg, Int.reduceToNat, hmd, hks, Bool.beq_eq_decide_eq, Int.natCast_zero, Int.add_zero, ge_iff_le, gt_iff_lt, Option.isNone_none, Option.isNone_some, List.nil_append, List.append_nil, Bool.and_true, Bool.and_self, SB, Int.reducePow, hQ]
    rw [decide_eq_false (by rintro rfl; exact h1 rfl)]
  simp +decide (maxSteps := 20000000) (disch := omega) only [↓SBK, SGs, S1, S2, S3, SE, SC, SO, ST, SF, SK, bytes_len, bytes_get, Nat.reduceEqDiff, Nat.reduceAdd, Nat.reduceMul, Nat.reduceSub, ↓reduceIte, Int.reduceNeg, Int.reduceToNat, hmd, hks, Bool.beq_eq_decide_eq, Int.natCast_zero, Int.add_zero, ge_iff_le, gt_iff_lt, Option.isNone_none, Option.isNone_some, List.nil_append, List.append_nil, Bool.and_true, Bool.and_self, SB, Int.reducePow, hQ]
  (first | with_reducible refine if_d _ ?_ ?_ | refine if_i _ ?_ ?_) <;> intro h2
  rotate_left
  · simp +decide (maxSteps := 20000000) (disch := omega) only [↓SBK, SGs, S1, S2, S3, SE, SC, SO, ST, SF, SK, bytes_len, bytes_get, Nat.reduceEqDiff, Nat.reduceAdd, Nat.reduceMul, Nat.reduceSub, ↓reduceIte, Int.reduceNeg, Int.reduceToNat, hmd, hks, Bool.beq_eq_decide_eq, Int.natCast_zero, Int.add_zero, ge_iff_le, gt_iff_lt, Option.isNone_none, Option.isNone_some, List.nil_append, List.append_nil, Bool.and_true, Bool.and_self, SB, Int.reducePow, hQ]
    rw [decide_eq_false (by rintro rfl; exact h2 rfl)]
  simp +decide (maxSteps := 20000000) (disch := omega) only [↓SBK, SGs, S1, S2, S3, SE, SC, SO, ST, SF, SK, bytes_len, bytes_get, Nat.reduceEqDiff, Nat.reduceAdd, Nat.reduceMul, Nat.reduceSub, ↓reduceIte, Int.reduceNeg, Int.reduceToNat, hmd, hks, Bool.beq_eq_decide_eq, Int.natCast_zero, Int.add_zero, ge_iff_le, gt_iff_lt, Option.isNone_none, Option.isNone_some, List.nil_append, List.append_nil, Bool.and_true, Bool.and_self, SB, Int.reducePow, hQ]
  rw [decide_eq_true (Block.eq' h0 h1 h2)]

theorem s_eqBlockS (a b : List Block) (hl : szM Block.sz a < 2 ^ 40) : Spec Try.prog 126 [.ext 3 (a.map Block.row), .ext 3 (b.map Block.row)] (.bool (decide (a = b))) [.undef, .undef] := by
  simp only [szM] at hl
  refine spec_C hmx p_L_eqBlockS [] 51 [] ⟨Nat.le_of_ble_eq_true rfl, Nat.le_of_ble_eq_true rfl⟩ rfl rfl ?_
  intro w hP hmd hks hQ
  unfold c_L_eqBlockS
  simp +decide (maxSteps := 20000000) (disch := omega) only [↓SBK, SGs, S1, S2, S3, SE, SC, SO, ST, SF, SK, bytes_len, bytes_get, Nat.reduceEqDiff, Nat.reduceAdd, Nat.reduceMul, Nat.reduceSub, ↓reduceIte, Int.reduceNeg, Int.reduceToNat, hmd, hks, Bool.beq_eq_decide_eq, Int.natCast_zero, Int.add_zero, ge_iff_le, gt_iff_lt, Option.isNone_none, Option.isNone_some, List.nil_append, List.append_nil, Bool.and_true, Bool.and_self, SB, Int.reducePow, hQ]
  (first | with_reducible refine if_d _ ?_ ?_ | refine if_i _ ?_ ?_) <;> intro h
  rotate_left
  · simp +decide (maxSteps := 20000000) (disch := omega) only [↓SBK, SGs, S1, S2, S3, SE, SC, SO, ST, SF, SK, bytes_len, bytes_get, Nat.reduceEqDiff, Nat.reduceAdd, Nat.reduceMul, Nat.reduceSub, ↓reduceIte, Int.reduceNeg, Int.reduceToNat, hmd, hks, Bool.beq_eq_decide_eq, Int.natCast_zero, Int.add_zero, ge_iff_le, gt_iff_lt, Option.isNone_none, Option.isNone_some, List.nil_append, List.append_nil, Bool.and_true, Bool.and_self, SB, Int.reducePow, hQ]
    rw [decide_eq_false (by rintro rfl; exact h rfl)]
  simp +decide (maxSteps := 20000000) (disch := omega) only [↓SBK, SGs, S1, S2, S3, SE, SC, SO, ST, SF, SK, bytes_len, bytes_get, Nat.reduceEqDiff, Nat.reduceAdd, Nat.reduceMul, Nat.reduceSub, ↓reduceIte, Int.reduceNeg, Int.reduceToNat, hmd, hks, Bool.beq_eq_decide_eq, Int.natCast_zero, Int.add_zero, ge_iff_le, gt_iff_lt, Option.isNone_none, Option.isNone_some, List.nil_append, List.append_nil, Bool.and_true, Bool.and_self, SB, Int.reducePow, hQ]
  refine loop_i (fun i : Nat => [(5, .int .i64 i)]) (fun i => i ≤ a.length ∧ a.take i = b.take i) (fun i => a.length - i) (0) hP hmd hks (rfl) (by simp) ?_
  rintro i ⟨hi, hab⟩ w1 hP1 hmd1 hks1 hQ1
  simp +decide (maxSteps := 20000000) (disch := omega) only [↓SBK, SGs, S1, S2, S3, SE, SC, SO, ST, SF, SK, bytes_len, bytes_get, Nat.reduceEqDiff, Nat.reduceAdd, Nat.reduceMul, Nat.reduceSub, ↓reduceIte, Int.reduceNeg, Int.reduceToNat, hmd, hks, Bool.beq_eq_decide_eq, Int.natCast_zero, Int.add_zero, ge_iff_le, gt_iff_lt, Option.isNone_none, Option.isNone_some, List.nil_append, List.append_nil, Bool.and_true, Bool.and_self, SB, Int.reducePow, hQ, hmd1, hks1, hQ1]
  (first | with_reducible refine if_d _ ?_ ?_ | refine if_i _ ?_ ?_) <;> intro h1
  · simp +decide (maxSteps := 20000000) (disch := omega) only [↓SBK, SGs, S1, S2, S3, SE, SC, SO, ST, SF, SK, bytes_len, bytes_get, Nat.reduceEqDiff, Nat.reduceAdd, Nat.reduceMul, Nat.reduceSub, ↓reduceIte, Int.reduceNeg, Int.reduceToNat, hmd, hks, Bool.beq_eq_decide_eq, Int.natCast_zero, Int.add_zero, ge_iff_le, gt_iff_lt, Option.isNone_none, Option.isNone_some, List.nil_append, List.append_nil, Bool.and_true, Bool.and_self, SB, Int.reducePow, hQ, hmd1, hks1, hQ1, getE h1, getE (h ▸ h1)]
    (first | refine call_i hP1 (s_eqBlock (a[i]'(by omega)) (b[i]'(by omega)) (Nat.lt_of_le_of_lt (sum_get Block.sz _) (by omega))) (.inl ⟨rfl, fun _ hx => nomatch hx⟩) ?_ | refine callH_i hP1 (s_eqBlock (a[i]'(by omega)) (b[i]'(by omega)) (Nat.lt_of_le_of_lt (sum_get Block.sz _) (by omega))) (.inl ⟨rfl, fun _ hx => nomatch hx⟩) ?_)
    simp +decide (maxSteps := 20000000) (disch := omega) only [↓SBK, SGs, S1, S2, S3, SE, SC, SO, ST, SF, SK, bytes_len, bytes_get, Nat.reduceEqDiff, Nat.reduceAdd, Nat.reduceMul, Nat.reduceSub, ↓reduceIte, Int.reduceNeg, Int.reduceToNat, hmd, hks, Bool.beq_eq_decide_eq, Int.natCast_zero, Int.add_zero, ge_iff_le, gt_iff_lt, Option.isNone_none, Option.isNone_some, List.nil_append, List.append_nil, Bool.and_true, Bool.and_self, SB, Int.reducePow, hQ, hmd1, hks1, hQ1]
    (first | with_reducible refine if_d _ ?_ ?_ | refine if_i _ ?_ ?_) <;> intro h2
    · simp +decide (maxSteps := 20000000) (disch := omega) only [↓SBK, SGs, S1, S2, S3, SE, SC, SO, ST, SF, SK, bytes_len, bytes_get, Nat.reduceEqDiff, Nat.reduceAdd, Nat.reduceMul, Nat.reduceSub, ↓reduceIte, Int.reduceNeg, Int.reduceToNat, hmd, hks, Bool.beq_eq_decide_eq, Int.natCast_zero, Int.add_zero, ge_iff_le, gt_iff_lt, Option.isNone_none, Option.isNone_some, List.nil_append, List.append_nil, Bool.and_true, Bool.and_self, SB, Int.reducePow, hQ, hmd1, hks1, hQ1]
      exact ⟨i + 1, rfl, ⟨by omega, take_eq_succ hab _ _ h2⟩, by omega⟩
    · simp +decide (maxSteps := 20000000) (disch := omega) only [↓SBK, SGs, S1, S2, S3, SE, SC, SO, ST, SF, SK, bytes_len, bytes_get, Nat.reduceEqDiff, Nat.reduceAdd, Nat.reduceMul, Nat.reduceSub, ↓reduceIte, Int.reduceNeg, Int.reduceToNat, hmd, hks, Bool.beq_eq_decide_eq, Int.natCast_zero, Int.add_zero, ge_iff_le, gt_iff_lt, Option.isNone_none, Option.isNone_some, List.nil_append, List.append_nil, Bool.and_true, Bool.and_self, SB, Int.reducePow, hQ, hmd1, hks1, hQ1]
      rw [decide_eq_false (by rintro rfl; exact h2 rfl)]
  · simp +decide (maxSteps := 20000000) (disch := omega) only [↓SBK, SGs, S1, S2, S3, SE, SC, SO, ST, SF, SK, bytes_len, bytes_get, Nat.reduceEqDiff, Nat.reduceAdd, Nat.reduceMul, Nat.reduceSub, ↓reduceIte, Int.reduceNeg, Int.reduceToNat, hmd, hks, Bool.beq_eq_decide_eq, Int.natCast_zero, Int.add_zero, ge_iff_le, gt_iff_lt, Option.isNone_none, Option.isNone_some, List.nil_append, List.append_nil, Bool.and_true, Bool.and_self, SB, Int.reducePow, hQ, hmd1, hks1, hQ1]
    rw [decide_eq_true (take_all hab (by omega) (by omega))]

theorem s_eqChip (a b : Chip) (hl : a.sz < 2 ^ 40) : Spec Try.prog 50 [a.x, b.x] (.bool (decide (a = b))) [.undef, .undef] := by
  simp only [Chip.sz] at hl
  refine spec_C hmx p_L_eqChip [] 31 [] ⟨Nat.le_of_ble_eq_true rfl, Nat.le_of_ble_eq_true rfl⟩ rfl rfl ?_
  intro w hP hmd hks hQ
  unfold c_L_eqChip
  simp +decide (maxSteps := 20000000) (disch := omega) only [↓SBK, SGs, S1, S2, S3, SE, SC, SO, ST, SF, SK, bytes_len, bytes_get, Nat.reduceEqDiff, Nat.reduceAdd, Nat.reduceMul, Nat.reduceSub, ↓reduceIte, Int.reduceNeg, Int.reduceToNat, hmd, hks, Bool.beq_eq_decide_eq, Int.natCast_zero, Int.add_zero, ge_iff_le, gt_iff_lt, Option.isNone_none, Option.isNone_some, List.nil_append, List.append_nil, Bool.and_true, Bool.and_self, SB, Int.reducePow, hQ]
  (first | refine call_i hP (s_eqBlockS a.blocks b.blocks (by omega)) (.inl ⟨rfl, fun _ hx => nomatch hx⟩) ?_ | refine callH_i hP (s_eqBlockS a.blocks b.blocks (by omega)) (.inl ⟨rfl, fun _ hx => nomatch hx⟩) ?_)
  simp +decide (maxSteps := 20000000) (disch := omega) only [↓SBK, SGs, S1, S2, S3, SE, SC, SO, ST, SF, SK, bytes_len, bytes_get, Nat.reduceEqDiff, Nat.reduceAdd, Nat.reduceMul, Nat.reduceSub, ↓reduceIte, Int.reduceNeg, Int.reduceToNat, hmd, hks, Bool.beq_eq_decide_eq, Int.natCast_zero, Int.add_zero, ge_iff_le, gt_iff_lt, Option.isNone_none, Option.isNone_some, List.nil_append, List.append_nil, Bool.and_true, Bool.and_self, SB, Int.reducePow, hQ]
  (first | with_reducible refine if_d _ ?_ ?_ | refine if_i _ ?_ ?_) <;> intro h0
  rotate_left
  · simp +decide (maxSteps := 20000000) (disch := omega) only [↓SBK, SGs, S1, S2, S3, SE, SC, SO, ST, SF, SK, bytes_len, bytes_get, Nat.reduceEqDiff, Nat.reduceAdd, Nat.reduceMul, Nat.reduceSub, ↓reduceIte, Int.reduceNeg, Int.reduceToNat, hmd, hks, Bool.beq_eq_decide_eq, Int.natCast_zero, Int.add_zero, ge_iff_le, gt_iff_lt, Option.isNone_none, Option.isNone_some, List.nil_append, List.append_nil, Bool.and_true, Bool.and_self, SB, Int.reducePow, hQ]
    rw [decide_eq_false (by rintro rfl; exact h0 rfl)]
  simp +decide (maxSteps := 20000000) (disch := omega) only [↓SBK, SGs, S1, S2, S3, SE, SC, SO, ST, SF, SK, bytes_len, bytes_get, Nat.reduceEqDiff, Nat.reduceAdd, Nat.reduceMul, Nat.reduceSub, ↓reduceIte, Int.reduceNeg, Int.reduceToNat, hmd, hks, Bool.beq_eq_decide_eq, Int.natCast_zero, Int.add_zero, ge_iff_le, gt_iff_lt, Option.isNone_none, Option.isNone_some, List.nil_append, List.append_nil, Bool.and_true, Bool.and_self, SB, Int.reducePow, hQ]
  rw [decide_eq_true (Chip.eq' h0)]

end Go.Proofs.Ytliklgcfdgdigaa.Awp

namespace Go.Proofs.Ytliklgcfdgdigaa.Awp
open Go.Proofs
set_option linter.unusedSimpArgs false
set_option linter.unusedVariables false
set_option maxRecDepth 100000
set_option maxHeartbeats 20000000

theorem s_toPage (a : Page) (hl : a.sz < 2 ^ 40) : Spec Try.prog 189 [a.x] a.o [.undef] := by
  simp only [Page.sz] at hl
  refine spec_C hmx p_L_toPage [] 15 [] ⟨Nat.le_of_ble_eq_true rfl, Nat.le_of_ble_eq_true rfl⟩ rfl rfl ?_
  intro w hP hmd hks hQ
  unfold c_L_toPage
  simp +decide (maxSteps := 20000000) (disch := omega) only [↓SBK, SGs, S1, S2, S3, SE, SC, SO, ST, SF, SK, bytes_len, bytes_get, Nat.reduceEqDiff, Nat.reduceAdd, Nat.reduceMul, Nat.reduceSub, ↓reduceIte, Int.reduceNeg, Int.reduceToNat, hmd, hks, Bool.beq_eq_decide_eq, Int.natCast_zero, Int.add_zero, ge_iff_le, gt_iff_lt, Option.isNone_none, Option.isNone_some, List.nil_append, List.append_nil, Bool.and_true, Bool.and_self, SB, Int.reducePow, hQ]
  (first | refine call_i hP (s_toByteS a.b (by omega)) (.inl ⟨rfl, fun _ hx => nomatch hx⟩) ?_ | refine callH_i hP (s_toByteS a.b (by omega)) (.inl ⟨rfl, fun _ hx => nomatch hx⟩) ?_)
  simp +decide (maxSteps := 20000000) (disch := omega) only [↓SBK, SGs, S1, S2, S3, SE, SC, SO, ST, SF, SK, bytes_len, bytes_get, Nat.reduceEqDiff, Nat.reduceAdd, Nat.reduceMul, Nat.reduceSub, ↓reduceIte, Int.reduceNeg, Int.reduceToNat, hmd, hks, Bool.beq_eq_decide_eq, Int.natCast_zero, Int.add_zero, ge_iff_le, gt_iff_lt, Option.isNone_none, Option.isNone_some, List.nil_append, List.append_nil, Bool.and_true, Bool.and_self, SB, Int.reducePow, hQ]

theorem s_toPageS (a : List Page) (hl : szM Page.sz a < 2 ^ 40) : Spec Try.prog 186 [.ext 2 (a.map Page.row)] (.own 2 (a.map Page.row)) [.undef] := by
  simp only [szM] at hl
  refine spec_C hmx p_L_toPageS [] 29 [] ⟨Nat.le_of_ble_eq_true rfl, Nat.le_of_ble_eq_true rfl⟩ rfl rfl ?_
  intro w hP hmd hks hQ
  unfold c_L_toPageS
  simp +decide (maxSteps := 20000000) (disch := omega) only [↓SBK, SGs, S1, S2, S3, SE, SC, SO, ST, SF, SK, bytes_len, bytes_get, Nat.reduceEqDiff, Nat.reduceAdd, Nat.reduceMul, Nat.reduceSub, ↓reduceIte, Int.reduceNeg, Int.reduceToNat, hmd, hks, Bool.beq_eq_decide_eq, Int.natCast_zero, Int.add_zero, ge_iff_le, gt_iff_lt, Option.isNone_none, Option.isNone_some, List.nil_append, List.append_nil, Bool.and_true, Bool.and_self, SB, Int.reducePow, hQ]
  refine loop_i (fun i : Nat => [(3, .own 2 (fillR Page.row Page.zero a i)), (4, .int .i64 i)]) (fun i => i ≤ a.length) (fun i => a.length - i) (0) hP hmd hks (by simp +decide (maxSteps := 20000000) (disch := omega) only [↓SBK, SGs, S1, S2, S3, SE, SC, SO, ST, SF, SK, bytes_len, bytes_get, Nat.reduceEqDiff, Nat.reduceAdd, Nat.reduceMul, Nat.reduceSub, ↓reduceIte, Int.reduceNeg, Int.reduceToNat, hmd, hks, Bool.beq_eq_decide_eq, Int.natCast_zero, Int.add_zero, ge_iff_le, gt_iff_lt, Option.isNone_none, Option.isNone_some, List.nil_append, List.append_nil, Bool.and_true, Bool.and_self, SB, Int.reducePow, hQ, fillR_0]; rfl) (by omega) ?_
  rintro i hi w1 hP1 hmd1 hks1 hQ1
  simp +decide (maxSteps := 20000000) (disch := omega) only [↓SBK, SGs, S1, S2, S3, SE, SC, SO, ST, SF, SK, bytes_len, bytes_get, Nat.reduceEqDiff, Nat.reduceAdd, Nat.reduceMul, Nat.reduceSub, ↓reduceIte, Int.reduceNeg, Int.reduceToNat, hmd, hks, Bool.beq_eq_decide_eq, Int.natCast_zero, Int.add_zero, ge_iff_le, gt_iff_lt, Option.isNone_none, Option.isNone_some, List.nil_append, List.append_nil, Bool.and_true, Bool.and_self, SB, Int.reducePow, hQ, hmd1, hks1, hQ1]
  (first | with_reducible refine if_d _ ?_ ?_ | refine if_i _ ?_ ?_) <;> intro h1
  · simp +decide (maxSteps := 20000000) (disch := omega) only [↓SBK, SGs, S1, S2, S3, SE, SC, SO, ST, SF, SK, bytes_len, bytes_get, Nat.reduceEqDiff, Nat.reduceAdd, Nat.reduceMul, Nat.reduceSub, ↓reduceIte, Int.reduceNeg, Int.reduceToNat, hmd, hks, Bool.beq_eq_decide_eq, Int.natCast_zero, Int.add_zero, ge_iff_le, gt_iff_lt, Option.isNone_none, Option.isNone_some, List.nil_append, List.append_nil, Bool.and_true, Bool.and_self, SB, Int.reducePow, hQ, hmd1, hks1, hQ1, getE h1]
    (first | refine call_i hP1 (s_toPage (a[i]'(by omega)) (Nat.lt_of_le_of_lt (sum_get Page.sz _) (by omega))) (.inl ⟨rfl, fun _ hx => nomatch hx⟩) ?_ | refine callH_i hP1 (s_toPage (a[i]'(by omega)) (Nat.lt_of_le_of_lt (sum_get Page.sz _) (by omega))) (.inl ⟨rfl, fun _ hx => nomatch hx⟩) ?_)
    simp +decide (maxSteps := 20000000) (disch := omega) only [↓SBK, SGs, S1, S2, S3, SE, SC, SO, ST, SF, SK, bytes_len, bytes_get, Nat.reduceEqDiff, Nat.reduceAdd, Nat.reduceMul, Nat.reduceSub, ↓reduceIte, Int.reduceNeg, Int.reduceToNat, hmd, hks, Bool.beq_eq_decide_eq, Int.natCast_zero, Int.add_zero, ge_iff_le, gt_iff_lt, Option.isNone_none, Option.isNone_some, List.nil_append, List.append_nil, Bool.and_true, Bool.and_self, SB, Int.reducePow, hQ, hmd1, hks1, hQ1]
    rw [fillR_set _ _ _ _ (by omega) _ (by rfl)]
    exact ⟨i + 1, rfl, by omega, by omega⟩
  · simp +decide (maxSteps := 20000000) (disch := omega) only [↓SBK, SGs, S1, S2, S3, SE, SC, SO, ST, SF, SK, bytes_len, bytes_get, Nat.reduceEqDiff, Nat.reduceAdd, Nat.reduceMul, Nat.reduceSub, ↓reduceIte, Int.reduceNeg, Int.reduceToNat, hmd, hks, Bool.beq_eq_decide_eq, Int.natCast_zero, Int.add_zero, ge_iff_le, gt_iff_lt, Option.isNone_none, Option.isNone_some, List.nil_append, List.append_nil, Bool.and_true, Bool.and_self, SB, Int.reducePow, hQ, hmd1, hks1, hQ1, fillR_all]

theorem s_toBlock (a : Block) (hl : a.sz < 2 ^ 40) : Spec Try.prog 174 [a.x] a.o [.undef] := by
  simp only [Block.sz] at hl
  refine spec_C hmx p_L_toBlock [] 15 [] ⟨Nat.le_of_ble_eq_true rfl, Nat.le_of_ble_eq_true rfl⟩ rfl rfl ?_
  intro w hP hmd hks hQ
  unfold c_L_toBlock
  simp +decide (maxSteps := 20000000) (disch := omega) only [↓SBK, SGs, S1, S2, S3, SE, SC, SO, ST, SF, SK, bytes_len, bytes_get, Nat.reduceEqDiff, Nat.reduceAdd, Nat.reduceMul, Nat.reduceSub, ↓reduceIte, Int.reduceNeg, Int.reduceToNat, hmd, hks, Bool.beq_eq_decide_eq, Int.natCast_zero, Int.add_zero, ge_iff_le, gt_iff_lt, Option.isNone_none, Option.isNone_some, List.nil_append, List.append_nil, Bool.and_true, Bool.and_self, SB, Int.reducePow, hQ]
  (first | refine call_i hP (s_toPageS a.pages (by omega)) (.inl ⟨rfl, fun _ hx => nomatch hx⟩) ?_ | refine callH_i hP (s_toPageS a.pages (by omega)) (.inl ⟨rfl, fun _ hx => nomatch hx⟩) ?_)
  simp +decide (maxSteps := 20000000) (disch := omega) only [↓SBK, SGs, S1, S2, S3, SE, SC, SO, ST, SF, SK, bytes_len, bytes_get, Nat.reduceEqDiff, Nat.reduceAdd, Nat.reduceMul, Nat.reduceSub, ↓reduceIte, Int.reduceNeg, Int.reduceToNat, hmd, hks, Bool.beq_eq_decide_eq, Int.natCast_zero, Int.add_zero, ge_iff_le, gt_iff_lt, Option.isNone_none, Option.isNone_some, List.nil_append, List.append_nil, Bool.and_true, Bool.and_self, SB, Int.reducePow, hQ]

theorem s_toBlockS (a : List Block) (hl : szM Block.sz a < 2 ^ 40) : Spec Try.prog 132 [.ext 3 (a.map Block.row)] (.own 3 (a.map Block.row)) [.undef] := by
  simp only [szM] at hl
  refine spec_C hmx p_L_toBlockS [] 29 [] ⟨Nat.le_of_ble_eq_true rfl, Nat.le_of_ble_eq_true rfl⟩ rfl rfl ?_
  intro w hP hmd hks hQ
  unfold c_L_toBlockS
  simp +decide (maxSteps := 20000000) (disch := omega) only [↓SBK, SGs, S1, S2, S3, SE, SC, SO, ST, SF, SK, bytes_len, bytes_get, Nat.reduceEqDiff, Nat.reduceAdd, Nat.reduceMul, Nat.reduceSub, ↓reduceIte, Int.reduceNeg, Int.reduceToNat, hmd, hks, Bool.beq_eq_decide_eq, Int.natCast_zero, Int.add_zero, ge_iff_le, gt_iff_lt, Option.isNone_none, Option.isNone_some, List.nil_append, List.append_nil, Bool.and_true, Bool.and_self, SB, Int.reducePow, hQ]
  refine loop_i (fun i : Nat => [(3, .own 3 (fillR Block.row Block.zero a i)), (4, .int .i64 i)]) (fun i => i ≤ a.length) (fun i => a.length - i) (0) hP hmd hks (by simp +decide (maxSteps := 20000000) (disch := omega) only [↓SBK, SGs, S1, S2, S3, SE, SC, SO, ST, SF, SK, bytes_len, bytes_get, Nat.reduceEqDiff, Nat.reduceAdd, Nat.reduceMul, Nat.reduceSub, ↓reduceIte, Int.reduceNeg, Int.reduceToNat, hmd, hks, Bool.beq_eq_decide_eq, Int.natCast_zero, Int.add_zero, ge_iff_le, gt_iff_lt, Option.isNone_none, Option.isNone_some, List.nil_append, List.append_nil, Bool.and_true, Bool.and_self, SB, Int.reducePow, hQ, fillR_0]; rfl) (by omega) ?_
  rintro i hi w1 hP1 hmd1 hks1 hQ1
  simp +decide (maxSteps := 20000000) (disch := omega) only [↓SBK, SGs, S1, S2, S3, SE, SC, SO, ST, SF, SK, bytes_len, bytes_get, Nat.reduceEqDiff, Nat.reduceAdd, Nat.reduceMul, Nat.reduceSub, ↓reduceIte, Int.reduceNeg, Int.reduceToNat, hmd, hks, Bool.beq_eq_decide_eq, Int.natCast_zero, Int.add_zero, ge_iff_le, gt_iff_lt, Option.isNone_none, Option.isNone_some, List.nil_append, List.append_nil, Bool.and_true, Bool.and_self, SB, Int.reducePow, hQ, hmd1, hks1, hQ1]
  (first | with_reducible refine if_d _ ?_ ?_ | refine if_i _ ?_ ?_) <;> intro h1
  · simp +decide (maxSteps := 20000000) (disch := omega) only [↓SBK, SGs, S1, S2, S3, SE, SC, SO, ST, SF, SK, bytes_len, bytes_get, Nat.reduceEqDiff, Nat.reduceAdd, Nat.reduceMul, Nat.reduceSub, ↓reduceIte, Int.reduceNeg, Int.reduceToNat, hmd, hks, Bool.beq_eq_decide_eq, Int.natCast_zero, Int.add_zero, ge_iff_le, gt_iff_lt, Option.isNone_none, Option.isNone_some, List.nil_append, List.append_nil, Bool.and_true, Bool.and_self, SB, Int.reducePow, hQ, hmd1, hks1, hQ1, getE h1]
    (first | refine call_i hP1 (s_toBlock (a[i]'(by omega)) (Nat.lt_of_le_of_lt (sum_get Block.sz _) (by omega))) (.inl ⟨rfl, fun _ hx => nomatch hx⟩) ?_ | refine callH_i hP1 (s_toBlock (a[i]'(by omega)) (Nat.lt_of_le_of_lt (sum_get Block.sz _) (by omega))) (.inl ⟨rfl, fun _ hx => nomatch hx⟩) ?_)
    simp +decide (maxSteps := 20000000) (disch := omega) only [↓SBK, SGs, S1, S2, S3, SE, SC, SO, ST, SF, SK, bytes_len, bytes_get, Nat.reduceEqDiff, Nat.reduceAdd, Nat.reduceMul, Nat.reduceSub, ↓reduceIte, Int.reduceNeg, Int.reduceToNat, hmd, hks, Bool.beq_eq_decide_eq, Int.natCast_zero, Int.add_zero, ge_iff_le, gt_iff_lt, Option.isNone_none, Option.isNone_some, List.nil_append, List.append_nil, Bool.and_true, Bool.and_self, SB, Int.reducePow, hQ, hmd1, hks1, hQ1]
    rw [fillR_set _ _ _ _ (by omega) _ (by rfl)]
    exact ⟨i + 1, rfl, by omega, by omega⟩
  · simp +decide (maxSteps := 20000000) (disch := omega) only [↓SBK, SGs, S1, S2, S3, SE, SC, SO, ST, SF, SK, bytes_len, bytes_get, Nat.reduceEqDiff, Nat.reduceAdd, Nat.reduceMul, Nat.reduceSub, ↓reduceIte, Int.reduceNeg, Int.reduceToNat, hmd, hks, Bool.beq_eq_decide_eq, Int.natCast_zero, Int.add_zero, ge_iff_le, gt_iff_lt, Option.isNone_none, Option.isNone_some, List.nil_append, List.append_nil, Bool.and_true, Bool.and_self, SB, Int.reducePow, hQ, hmd1, hks1, hQ1, fillR_all]

theorem s_toChip (a : Chip) (hl : a.sz < 2 ^ 40) : Spec Try.prog 58 [a.x] a.o [.undef] := by
  simp only [Chip.sz] at hl
  refine spec_C hmx p_L_toChip [] 15 [] ⟨Nat.le_of_ble_eq_true rfl, Nat.le_of_ble_eq_true rfl⟩ rfl rfl ?_
  intro w hP hmd hks hQ
  unfold c_L_toChip
  simp +decide (maxSteps := 20000000) (disch := omega) only [↓SBK, SGs, S1, S2, S3, SE, SC, SO, ST, SF, SK, bytes_len, bytes_get, Nat.reduceEqDiff, Nat.reduceAdd, Nat.reduceMul, Nat.reduceSub, ↓reduceIte, Int.reduceNeg, Int.reduceToNat, hmd, hks, Bool.beq_eq_decide_eq, Int.natCast_zero, Int.add_zero, ge_iff_le, gt_iff_lt, Option.isNone_none, Option.isNone_some, List.nil_append, List.append_nil, Bool.and_true, Bool.and_self, SB, Int.reducePow, hQ]
  (first | refine call_i hP (s_toBlockS a.blocks (by omega)) (.inl ⟨rfl, fun _ hx => nomatch hx⟩) ?_ | refine callH_i hP (s_toBlockS a.blocks (by omega)) (.inl ⟨rfl, fun _ hx => nomatch hx⟩) ?_)
  simp +decide (maxSteps := 20000000) (disch := omega) only [↓SBK, SGs, S1, S2, S3, SE, SC, SO, ST, SF, SK, bytes_len, bytes_get, Nat.reduceEqDiff, Nat.reduceAdd, Nat.reduceMul, Nat.reduceSub, ↓reduceIte, Int.reduceNeg, Int.reduceToNat, hmd, hks, Bool.beq_eq_decide_eq, Int.natCast_zero, Int.add_zero, ge_iff_le, gt_iff_lt, Option.isNone_none, Option.isNone_some, List.nil_append, List.append_nil, Bool.and_true, Bool.and_self, SB, Int.reducePow, hQ]

end Go.Proofs.Ytliklgcfdgdigaa.Awp

namespace Go.Proofs.Ytliklgcfdgdigaa.Awp
open Go.Proofs
set_option linter.unusedSimpArgs false
set_option linter.unusedVariables false
set_option maxRecDepth 100000
set_option maxHeartbeats 20000000

theorem s_szPage (a : Page) (left : Int) (hf : a.fine) (h0 : 0 ≤ left) (hl : left < 2 ^ 40) :
    Spec Try.prog 188 [a.x, .int .i64 left] (.int .i64 (szC left a.sz)) [.undef, .undef] := by
  have hsz : a.sz = a.b.length := rfl
  simp only [Page.fine] at hf
  have hf0 := hf
  refine spec_C hmx p_L_szPage [] 23 [] ⟨Nat.le_of_ble_eq_true rfl, Nat.le_of_ble_eq_true rfl⟩ rfl rfl ?_
  intro w hP hmd hks hQ
  unfold c_L_szPage
  simp +decide (maxSteps := 20000000) (disch := omega) only [↓SBK, SGs, S1, S2, S3, SE, SC, SO, ST, SF, SK, bytes_len, bytes_get, Nat.reduceEqDiff, Nat.reduceAdd, Nat.reduceMul, Nat.reduceSub, ↓reduceIte, Int.reduceNeg, Int.reduceToNat, hmd, hks, Bool.beq_eq_decide_eq, Int.natCast_zero, Int.add_zero, ge_iff_le, gt_iff_lt, Option.isNone_none, Option.isNone_some, List.nil_append, List.append_nil, Bool.and_true, Bool.and_self, SB, Int.reducePow, hQ]
  by_cases g0 : left < ((a.b.length : Nat) : Int)
  · (first | refine call_i hP (s_szByteS a.b (left) hf0 (by omega) (by omega)) (.inl ⟨rfl, fun _ hx => nomatch hx⟩) ?_ | refine callH_i hP (s_szByteS a.b (left) hf0 (by omega) (by omega)) (.inl ⟨rfl, fun _ hx => nomatch hx⟩) ?_)
    simp +decide (maxSteps := 20000000) (disch := omega) only [↓SBK, SGs, S1, S2, S3, SE, SC, SO, ST, SF, SK, bytes_len, bytes_get, Nat.reduceEqDiff, Nat.reduceAdd, Nat.reduceMul, Nat.reduceSub, ↓reduceIte, Int.reduceNeg, Int.reduceToNat, hmd, hks, Bool.beq_eq_decide_eq, Int.natCast_zero, Int.add_zero, ge_iff_le, gt_iff_lt, Option.isNone_none, Option.isNone_some, List.nil_append, List.append_nil, Bool.and_true, Bool.and_self, SB, Int.reducePow, hQ, szC_lt g0]
    rw [szC_lt (by omega)]
  (first | refine call_i hP (s_szByteS a.b (left) hf0 (by omega) (by omega)) (.inl ⟨rfl, fun _ hx => nomatch hx⟩) ?_ | refine callH_i hP (s_szByteS a.b (left) hf0 (by omega) (by omega)) (.inl ⟨rfl, fun _ hx => nomatch hx⟩) ?_)
  simp +decide (maxSteps := 20000000) (disch := omega) only [↓SBK, SGs, S1, S2, S3, SE, SC, SO, ST, SF, SK, bytes_len, bytes_get, Nat.reduceEqDiff, Nat.reduceAdd, Nat.reduceMul, Nat.reduceSub, ↓reduceIte, Int.reduceNeg, Int.reduceToNat, hmd, hks, Bool.beq_eq_decide_eq, Int.natCast_zero, Int.add_zero, ge_iff_le, gt_iff_lt, Option.isNone_none, Option.isNone_some, List.nil_append, List.append_nil, Bool.and_true, Bool.and_self, SB, Int.reducePow, hQ, szC_ge g0]
  (first | with_reducible refine if_d _ ?_ ?_ | refine if_i _ ?_ ?_) <;> intro k0
  · exfalso; omega
  simp +decide (maxSteps := 20000000) (disch := omega) only [↓SBK, SGs, S1, S2, S3, SE, SC, SO, ST, SF, SK, bytes_len, bytes_get, Nat.reduceEqDiff, Nat.reduceAdd, Nat.reduceMul, Nat.reduceSub, ↓reduceIte, Int.reduceNeg, Int.reduceToNat, hmd, hks, Bool.beq_eq_decide_eq, Int.natCast_zero, Int.add_zero, ge_iff_le, gt_iff_lt, Option.isNone_none, Option.isNone_some, List.nil_append, List.append_nil, Bool.and_true, Bool.and_self, SB, Int.reducePow, hQ]
  rw [szC_ge (by omega)]
  simp only [hsz, Int.natCast_add, Int.sub_sub, Int.add_assoc]

theorem s_szPageS (a : List Page) (left : Int) (hf : a.length < 2 ^ 48) (hf' : ∀ x ∈ a, x.fine) (h0 : 0 ≤ left) (hl : left < 2 ^ 40) :
    Spec Try.prog 185 [.ext 2 (a.map Page.row), .int .i64 left] (.int .i64 (szC left (szM Page.sz a))) [.undef, .undef] := by
  have hsz : szM Page.sz a = a.length + (a.map Page.sz).sum := rfl
  refine spec_C hmx p_L_szPageS [] 51 [] ⟨Nat.le_of_ble_eq_true rfl, Nat.le_of_ble_eq_true rfl⟩ rfl rfl ?_
  intro w hP hmd hks hQ
  unfold c_L_szPageS
  simp +decide (maxSteps := 20000000) (disch := omega) only [↓SBK, SGs, S1, S2, S3, SE, SC, SO, ST, SF, SK, bytes_len, bytes_get, Nat.reduceEqDiff, Nat.reduceAdd, Nat.reduceMul, Nat.reduceSub, ↓reduceIte, Int.reduceNeg, Int.reduceToNat, hmd, hks, Bool.beq_eq_decide_eq, Int.natCast_zero, Int.add_zero, ge_iff_le, gt_iff_lt, Option.isNone_none, Option.isNone_some, List.nil_append, List.append_nil, Bool.and_true, Bool.and_self, SB, Int.reducePow, hQ]
  (first | with_reducible refine if_d _ ?_ ?_ | refine if_i _ ?_ ?_) <;> intro h
  · simp +decide (maxSteps := 20000000) (disch := omega) only [↓SBK, SGs, S1, S2, S3, SE, SC, SO, ST, SF, SK, bytes_len, bytes_get, Nat.reduceEqDiff, Nat.reduceAdd, Nat.reduceMul, Nat.reduceSub, ↓reduceIte, Int.reduceNeg, Int.reduceToNat, hmd, hks, Bool.beq_eq_decide_eq, Int.natCast_zero, Int.add_zero, ge_iff_le, gt_iff_lt, Option.isNone_none, Option.isNone_some, List.nil_append, List.append_nil, Bool.and_true, Bool.and_self, SB, Int.reducePow, hQ]
    rw [szC_lt (by omega)]
  simp +decide (maxSteps := 20000000) (disch := omega) only [↓SBK, SGs, S1, S2, S3, SE, SC, SO, ST, SF, SK, bytes_len, bytes_get, Nat.reduceEqDiff, Nat.reduceAdd, Nat.reduceMul, Nat.reduceSub, ↓reduceIte, Int.reduceNeg, Int.reduceToNat, hmd, hks, Bool.beq_eq_decide_eq, Int.natCast_zero, Int.add_zero, ge_iff_le, gt_iff_lt, Option.isNone_none, Option.isNone_some, List.nil_append, List.append_nil, Bool.and_true, Bool.and_self, SB, Int.reducePow, hQ]
  refine loop_i (fun s : Nat × Int => [(1, .int .i64 s.2), (5, .int .i64 s.1)]) (fun s => s.1 ≤ a.length ∧ 0 ≤ s.2 ∧ s.2 = left - a.length - ((a.take s.1).map Page.sz).sum) (fun s => a.length - s.1) ((0, left - a.length)) hP hmd hks (rfl) (by simp; omega) ?_
  rintro ⟨i, c⟩ ⟨hi, h0', hc⟩ w1 hP1 hmd1 hks1 hQ1
  simp +decide (maxSteps := 20000000) (disch := omega) only [↓SBK, SGs, S1, S2, S3, SE, SC, SO, ST, SF, SK, bytes_len, bytes_get, Nat.reduceEqDiff, Nat.reduceAdd, Nat.reduceMul, Nat.reduceSub, ↓reduceIte, Int.reduceNeg, Int.reduceToNat, hmd, hks, Bool.beq_eq_decide_eq, Int.natCast_zero, Int.add_zero, ge_iff_le, gt_iff_lt, Option.isNone_none, Option.isNone_some, List.nil_append, List.append_nil, Bool.and_true, Bool.and_self, SB, Int.reducePow, hQ, hmd1, hks1, hQ1]
  simp only at hi h0' hc
  (first | with_reducible refine if_d _ ?_ ?_ | refine if_i _ ?_ ?_) <;> intro h1
  · have hs := sum_take Page.sz a i (by omega)
    have hs' := sum_take_le Page.sz a (i + 1)
    simp +decide (maxSteps := 20000000) (disch := omega) only [↓SBK, SGs, S1, S2, S3, SE, SC, SO, ST, SF, SK, bytes_len, bytes_get, Nat.reduceEqDiff, Nat.reduceAdd, Nat.reduceMul, Nat.reduceSub, ↓reduceIte, Int.reduceNeg, Int.reduceToNat, hmd, hks, Bool.beq_eq_decide_eq, Int.natCast_zero, Int.add_zero, ge_iff_le, gt_iff_lt, Option.isNone_none, Option.isNone_some, List.nil_append, List.append_nil, Bool.and_true, Bool.and_self, SB, Int.reducePow, hQ, hmd1, hks1, hQ1, getE h1]
    by_cases g : c < ((a[i].sz : Nat) : Int)
    · (first | refine call_i hP1 (s_szPage a[i] c (hf' _ (List.getElem_mem _)) (by omega) (by omega)) (.inl ⟨rfl, fun _ hx => nomatch hx⟩) ?_ | refine callH_i hP1 (s_szPage a[i] c (hf' _ (List.getElem_mem _)) (by omega) (by omega)) (.inl ⟨rfl, fun _ hx => nomatch hx⟩) ?_)
      simp +decide (maxSteps := 20000000) (disch := omega) only [↓SBK, SGs, S1, S2, S3, SE, SC, SO, ST, SF, SK, bytes_len, bytes_get, Nat.reduceEqDiff, Nat.reduceAdd, Nat.reduceMul, Nat.reduceSub, ↓reduceIte, Int.reduceNeg, Int.reduceToNat, hmd, hks, Bool.beq_eq_decide_eq, Int.natCast_zero, Int.add_zero, ge_iff_le, gt_iff_lt, Option.isNone_none, Option.isNone_some, List.nil_append, List.append_nil, Bool.and_true, Bool.and_self, SB, Int.reducePow, hQ, hmd1, hks1, hQ1, szC_lt g]
      rw [szC_lt (by omega)]
    · (first | refine call_i hP1 (s_szPage a[i] c (hf' _ (List.getElem_mem _)) (by omega) (by omega)) (.inl ⟨rfl, fun _ hx => nomatch hx⟩) ?_ | refine callH_i hP1 (s_szPage a[i] c (hf' _ (List.getElem_mem _)) (by omega) (by omega)) (.inl ⟨rfl, fun _ hx => nomatch hx⟩) ?_)
      simp +decide (maxSteps := 20000000) (disch := omega) only [↓SBK, SGs, S1, S2, S3, SE, SC, SO, ST, SF, SK, bytes_len, bytes_get, Nat.reduceEqDiff, Nat.reduceAdd, Nat.reduceMul, Nat.reduceSub, ↓reduceIte, Int.reduceNeg, Int.reduceToNat, hmd, hks, Bool.beq_eq_decide_eq, Int.natCast_zero, Int.add_zero, ge_iff_le, gt_iff_lt, Option.isNone_none, Option.isNone_some, List.nil_append, List.append_nil, Bool.and_true, Bool.and_self, SB, Int.reducePow, hQ, hmd1, hks1, hQ1, szC_ge g]
      (first | with_reducible refine if_d _ ?_ ?_ | refine if_i _ ?_ ?_) <;> intro k
      · exfalso; omega
      simp +decide (maxSteps := 20000000) (disch := omega) only [↓SBK, SGs, S1, S2, S3, SE, SC, SO, ST, SF, SK, bytes_len, bytes_get, Nat.reduceEqDiff, Nat.reduceAdd, Nat.reduceMul, Nat.reduceSub, ↓reduceIte, Int.reduceNeg, Int.reduceToNat, hmd, hks, Bool.beq_eq_decide_eq, Int.natCast_zero, Int.add_zero, ge_iff_le, gt_iff_lt, Option.isNone_none, Option.isNone_some, List.nil_append, List.append_nil, Bool.and_true, Bool.and_self, SB, Int.reducePow, hQ, hmd1, hks1, hQ1]
      exact ⟨(i + 1, c - a[i].sz), rfl, ⟨by simp only; omega, by simp only; omega, by simp only; omega⟩, by simp only; omega⟩
  · obtain rfl : i = a.length := by omega
    rw [List.take_length] at hc
    simp +decide (maxSteps := 20000000) (disch := omega) only [↓SBK, SGs, S1, S2, S3, SE, SC, SO, ST, SF, SK, bytes_len, bytes_get, Nat.reduceEqDiff, Nat.reduceAdd, Nat.reduceMul, Nat.reduceSub, ↓reduceIte, Int.reduceNeg, Int.reduceToNat, hmd, hks, Bool.beq_eq_decide_eq, Int.natCast_zero, Int.add_zero, ge_iff_le, gt_iff_lt, Option.isNone_none, Option.isNone_some, List.nil_append, List.append_nil, Bool.and_true, Bool.and_self, SB, Int.reducePow, hQ, hmd1, hks1, hQ1]
    rw [szC_ge (by omega)]
    simp only [hsz, hc, Int.natCast_add, Int.sub_sub, Int.add_assoc]

theorem s_szBlock (a : Block) (left : Int) (hf : a.fine) (h0 : 0 ≤ left) (hl : left < 2 ^ 40) :
    Spec Try.prog 173 [a.x, .int .i64 left] (.int .i64 (szC left a.sz)) [.undef, .undef] := by
  have hsz : a.sz = szM Page.sz a.pages := rfl
  simp only [Block.fine] at hf
  have hf0 := hf
  refine spec_C hmx p_L_szBlock [] 23 [] ⟨Nat.le_of_ble_eq_true rfl, Nat.le_of_ble_eq_true rfl⟩ rfl rfl ?_
  intro w hP hmd hks hQ
  unfold c_L_szBlock
  simp +decide (maxSteps := 20000000) (disch := omega) only [↓SBK, SGs, S1, S2, S3, SE, SC, SO, ST, SF, SK, bytes_len, bytes_get, Nat.reduceEqDiff, Nat.reduceAdd, Nat.reduceMul, Nat.reduceSub, ↓reduceIte, Int.reduceNeg, Int.reduceToNat, hmd, hks, Bool.beq_eq_decide_eq, Int.natCast_zero, Int.add_zero, ge_iff_le, gt_iff_lt, Option.isNone_none, Option.isNone_some, List.nil_append, List.append_nil, Bool.and_true, Bool.and_self, SB, Int.reducePow, hQ]
  by_cases g0 : left < ((szM Page.sz a.pages : Nat) : Int)
  · (first | refine call_i hP (s_szPageS a.pages (left) hf0.1 hf0.2 (by omega) (by omega)) (.inl ⟨rfl, fun _ hx => nomatch hx⟩) ?_ | refine callH_i hP (s_szPageS a.pages (left) hf0.1 hf0.2 (by omega) (by omega)) (.inl ⟨rfl, fun _ hx => nomatch hx⟩) ?_)
    simp +decide (maxSteps := 20000000) (disch := omega) only [↓SBK, SGs, S1, S2, S3, SE, SC, SO, ST, SF, SK, bytes_len, bytes_get, Nat.reduceEqDiff, Nat.reduceAdd, Nat.reduceMul, Nat.reduceSub, ↓reduceIte, Int.reduceNeg, Int.reduceToNat, hmd, hks, Bool.beq_eq_decide_eq, Int.natCast_zero, Int.add_zero, ge_iff_le, gt_iff_lt, Option.isNone_none, Option.isNone_some, List.nil_append, List.append_nil, Bool.and_true, Bool.and_self, SB, Int.reducePow, hQ, szC_lt g0]
    rw [szC_lt (by omega)]
  (first | refine call_i hP (s_szPageS a.pages (left) hf0.1 hf0.2 (by omega) (by omega)) (.inl ⟨rfl, fun _ hx => nomatch hx⟩) ?_ | refine callH_i hP (s_szPageS a.pages (left) hf0.1 hf0.2 (by omega) (by omega)) (.inl ⟨rfl, fun _ hx => nomatch hx⟩) ?_)
  simp +decide (maxSteps := 20000000) (disch := omega) only [↓SBK, SGs, S1, S2, S3, SE, SC, SO, ST, SF, SK, bytes_len, bytes_get, Nat.reduceEqDiff, Nat.reduceAdd, Nat.reduceMul, Nat.reduceSub, ↓reduceIte, Int.reduceNeg, Int.reduceToNat, hmd, hks, Bool.beq_eq_decide_eq, Int.natCast_zero, Int.add_zero, ge_iff_le, gt_iff_lt, Option.isNone_none, Option.isNone_some, List.nil_append, List.append_nil, Bool.and_true, Bool.and_self, SB, Int.reducePow, hQ, szC_ge g0]
  (first | with_reducible refine if_d _ ?_ ?_ | refine if_i _ ?_ ?_) <;> intro k0
  · exfalso; omega
  simp +decide (maxSteps := 20000000) (disch := omega) only [↓SBK, SGs, S1, S2, S3, SE, SC, SO, ST, SF, SK, bytes_len, bytes_get, Nat.reduceEqDiff, Nat.reduceAdd, Nat.reduceMul, Nat.reduceSub, ↓reduceIte, Int.reduceNeg, Int.reduceToNat, hmd, hks, Bool.beq_eq_decide_eq, Int.natCast_zero, Int.add_zero, ge_iff_le, gt_iff_lt, Option.isNone_none, Option.isNone_some, List.nil_append, List.append_nil, Bool.and_true, Bool.and_self, SB, Int.reducePow, hQ]
  rw [szC_ge (by omega)]
  simp only [hsz, Int.natCast_add, Int.sub_sub, Int.add_assoc]

theorem s_szBlockS (a : List Block) (left : Int) (hf : a.length < 2 ^ 48) (hf' : ∀ x ∈ a, x.fine) (h0 : 0 ≤ left) (hl : left < 2 ^ 40) :
    Spec Try.prog 131 [.ext 3 (a.map Block.row), .int .i64 left] (.int .i64 (szC left (szM Block.sz a))) [.undef, .undef] := by
  have hsz : szM Block.sz a = a.length + (a.map Block.sz).sum := rfl
  refine spec_C hmx p_L_szBlockS [] 51 [] ⟨Nat.le_of_ble_eq_true rfl, Nat.le_of_ble_eq_true rfl⟩ rfl rfl ?_
  intro w hP hmd hks hQ
  unfold c_L_szBlockS
  simp +decide (maxSteps := 20000000) (disch := omega) only [↓SBK, SGs, S1, S2, S3, SE, SC, SO, ST, SF, SK, bytes_len, bytes_get, Nat.reduceEqDiff, Nat.reduceAdd, Nat.reduceMul, Nat.reduceSub, ↓reduceIte, Int.reduceNeg, Int.reduceToNat, hmd, hks, Bool.beq_eq_decide_eq, Int.natCast_zero, Int.add_zero, ge_iff_le, gt_iff_lt, Option.isNone_none, Option.isNone_some, List.nil_append, List.append_nil, Bool.and_true, Bool.and_self, SB, Int.reducePow, hQ]
  (first | with_reducible refine if_d _ ?_ ?_ | refine if_i _ ?_ ?_) <;> intro h
  · simp +decide (maxSteps := 20000000) (disch := omega) only [↓SBK, SGs, S1, S2, S3, SE, SC, SO, ST, SF, SK, bytes_len, bytes_get, Nat.reduceEqDiff, Nat.reduceAdd, Nat.reduceMul, Nat.reduceSub, ↓reduceIte, Int.reduceNeg, Int.reduceToNat, hmd, hks, Bool.beq_eq_decide_eq, Int.natCast_zero, Int.add_zero, ge_iff_le, gt_iff_lt, Option.isNone_none, Option.isNone_some, List.nil_append, List.append_nil, Bool.and_true, Bool.and_self, SB, Int.reducePow, hQ]
    rw [szC_lt (by omega)]
  simp +decide (maxSteps := 20000000) (disch := omega) only [↓SBK, SGs, S1, S2, S3, SE, SC, SO, ST, SF, SK, bytes_len, bytes_get, Nat.reduceEqDiff, Nat.reduceAdd, Nat.reduceMul, Nat.reduceSub, ↓reduceIte, Int.reduceNeg, Int.reduceToNat, hmd, hks, Bool.beq_eq_decide_eq, Int.natCast_zero, Int.add_zero, ge_iff_le, gt_iff_lt, Option.isNone_none, Option.isNone_some, List.nil_append, List.append_nil, Bool.and_true, Bool.and_self, SB, Int.reducePow, hQ]
  refine loop_i (fun s : Nat × Int => [(1, .int .i64 s.2), (5, .int .i64 s.1)]) (fun s => s.1 ≤ a.length ∧ 0 ≤ s.2 ∧ s.2 = left - a.length - ((a.take s.1).map Block.sz).sum) (fun s => a.length - s.1) ((0, left - a.length)) hP hmd hks (rfl) (by simp; omega) ?_
  rintro ⟨i, c⟩ ⟨hi, h0', hc⟩ w1 hP1 hmd1 hks1 hQ1
  simp +decide (maxSteps := 20000000) (disch := omega) only [↓SBK, SGs, S1, S2, S3, SE, SC, SO, ST, SF, SK, bytes_len, bytes_get, Nat.reduceEqDiff, Nat.reduceAdd, Nat.reduceMul, Nat.reduceSub, ↓reduceIte, Int.reduceNeg, Int.reduceToNat, hmd, hks, Bool.beq_eq_decide_eq, Int.natCast_zero, Int.add_zero, ge_iff_le, gt_iff_lt, Option.isNone_none, Option.isNone_some, List.nil_append, List.append_nil, Bool.and_true, Bool.and_self, SB, Int.reducePow, hQ, hmd1, hks1, hQ1]
  simp only at hi h0' hc
  (first | with_reducible refine if_d _ ?_ ?_ | refine if_i _ ?_ ?_) <;> intro h1
  · have hs := sum_take Block.sz a i (by omega)
    have hs' := sum_take_le Block.sz a (i + 1)
    simp +decide (maxSteps := 20000000) (disch := omega) only [↓SBK, SGs, S1, S2, S3, SE, SC, SO, ST, SF, SK, bytes_len, bytes_get, Nat.reduceEqDiff, Nat.reduceAdd, Nat.reduceMul, Nat.reduceSub, ↓reduceIte, Int.reduceNeg, Int.reduceToNat, hmd, hks, Bool.beq_eq_decide_eq, Int.natCast_zero, Int.add_zero, ge_iff_le, gt_iff_lt, Option.isNone_none, Option.isNone_some, List.nil_append, List.append_nil, Bool.and_true, Bool.and_self, SB, Int.reducePow, hQ, hmd1, hks1, hQ1, getE h1]
    by_cases g : c < ((a[i].sz : Nat) : Int)
    · (first | refine call_i hP1 (s_szBlock a[i] c (hf' _ (List.getElem_mem _)) (by omega) (by omega)) (.inl ⟨rfl, fun _ hx => nomatch hx⟩) ?_ | refine callH_i hP1 (s_szBlock a[i] c (hf' _ (List.getElem_mem _)) (by omega) (by omega)) (.inl ⟨rfl, fun _ hx => nomatch hx⟩) ?_)
      simp +decide (maxSteps := 20000000) (disch := omega) only [↓SBK, SGs, S1, S2, S3, SE, SC, SO, ST, SF, SK, bytes_len, bytes_get, Nat.reduceEqDiff, Nat.reduceAdd, Nat.reduceMul, Nat.reduceSub, ↓reduceIte, Int.reduceNeg, Int.reduceToNat, hmd, hks, Bool.beq_eq_decide_eq, Int.natCast_zero, Int.add_zero, ge_iff_le, gt_iff_lt, Option.isNone_none, Option.isNone_some, List.nil_append, List.append_nil, Bool.and_true, Bool.and_self, SB, Int.reducePow, hQ, hmd1, hks1, hQ1, szC_lt g]
      rw [szC_lt (by omega)]
    · (first | refine call_i hP1 (s_szBlock a[i] c (hf' _ (List.getElem_mem _)) (by omega) (by omega)) (.inl ⟨rfl, fun _ hx => nomatch hx⟩) ?_ | refine callH_i hP1 (s_szBlock a[i] c (hf' _ (List.getElem_mem _)) (by omega) (by omega)) (.inl ⟨rfl, fun _ hx => nomatch hx⟩) ?_)
      simp +decide (maxSteps := 20000000) (disch := omega) only [↓SBK, SGs, S1, S2, S3, SE, SC, SO, ST, SF, SK, bytes_len, bytes_get, Nat.reduceEqDiff, Nat.reduceAdd, Nat.reduceMul, Nat.reduceSub, ↓reduceIte, Int.reduceNeg, Int.reduceToNat, hmd, hks, Bool.beq_eq_decide_eq, Int.natCast_zero, Int.add_zero, ge_iff_le, gt_iff_lt, Option.isNone_none, Option.isNone_some, List.nil_append, List.append_nil, Bool.and_true, Bool.and_self, SB, Int.reducePow, hQ, hmd1, hks1, hQ1, szC_ge g]
      (first | with_reducible refine if_d _ ?_ ?_ | refine if_i _ ?_ ?_) <;> intro k
      · exfalso; omega
      simp +decide (maxSteps := 20000000) (disch := omega) only [↓SBK, SGs, S1, S2, S3, SE, SC, SO, ST, SF, SK, bytes_len, bytes_get, Nat.reduceEqDiff, Nat.reduceAdd, Nat.reduceMul, Nat.reduceSub, ↓reduceIte, Int.reduceNeg, Int.reduceToNat, hmd, hks, Bool.beq_eq_decide_eq, Int.natCast_zero, Int.add_zero, ge_iff_le, gt_iff_lt, Option.isNone_none, Option.isNone_some, List.nil_append, List.append_nil, Bool.and_true, Bool.and_self, SB, Int.reducePow, hQ, hmd1, hks1, hQ1]
      exact ⟨(i + 1, c - a[i].sz), rfl, ⟨by simp only; omega, by simp only; omega, by simp only; omega⟩, by simp only; omega⟩
  · obtain rfl : i = a.length := by omega
    rw [List.take_length] at hc
    simp +decide (maxSteps := 20000000) (disch := omega) only [↓SBK, SGs, S1, S2, S3, SE, SC, SO, ST, SF, SK, bytes_len, bytes_get, Nat.reduceEqDiff, Nat.reduceAdd, Nat.reduceMul, Nat.reduceSub, ↓reduceIte, Int.reduceNeg, Int.reduceToNat, hmd, hks, Bool.beq_eq_decide_eq, Int.natCast_zero, Int.add_zero, ge_iff_le, gt_iff_lt, Option.isNone_none, Option.isNone_some, List.nil_append, List.append_nil, Bool.and_true, Bool.and_self, SB, Int.reducePow, hQ, hmd1, hks1, hQ1]
    rw [szC_ge (by omega)]
    simp only [hsz, hc, Int.natCast_add, Int.sub_sub, Int.add_assoc]

theorem s_szChip (a : Chip) (left : Int) (hf : a.fine) (h0 : 0 ≤ left) (hl : left < 2 ^ 40) :
    Spec Try.prog 56 [a.x, .int .i64 left] (.int .i64 (szC left a.sz)) [.undef, .undef] := by
  have hsz : a.sz = szM Block.sz a.blocks := rfl
  simp only [Chip.fine] at hf
  have hf0 := hf
  refine spec_C hmx p_L_szChip [] 23 [] ⟨Nat.le_of_ble_eq_true rfl, Nat.le_of_ble_eq_true rfl⟩ rfl rfl ?_
  intro w hP hmd hks hQ
  unfold c_L_szChip
  simp +decide (maxSteps := 20000000) (disch := omega) only [↓SBK, SGs, S1, S2, S3, SE, SC, SO, ST, SF, SK, bytes_len, bytes_get, Nat.reduceEqDiff, Nat.reduceAdd, Nat.reduceMul, Nat.reduceSub, ↓reduceIte, Int.reduceNeg, Int.reduceToNat, hmd, hks, Bool.beq_eq_decide_eq, Int.natCast_zero, Int.add_zero, ge_iff_le, gt_iff_lt, Option.isNone_none, Option.isNone_some, List.nil_append, List.append_nil, Bool.and_true, Bool.and_self, SB, Int.reducePow, hQ]
  by_cases g0 : left < ((szM Block.sz a.blocks : Nat) : Int)
  · (first | refine call_i hP (s_szBlockS a.blocks (left) hf0.1 hf0.2 (by omega) (by omega)) (.inl ⟨rfl, fun _ hx => nomatch hx⟩) ?_ | refine callH_i hP (s_szBlockS a.blocks (left) hf0.1 hf0.2 (by omega) (by omega)) (.inl ⟨rfl, fun _ hx => nomatch hx⟩) ?_)
    simp +decide (maxSteps := 20000000) (disch := omega) only [↓SBK, SGs, S1, S2, S3, SE, SC, SO, ST, SF, SK, bytes_len, bytes_get, Nat.reduceEqDiff, Nat.reduceAdd, Nat.reduceMul, Nat.reduceSub, ↓reduceIte, Int.reduceNeg, Int.reduceToNat, hmd, hks, Bool.beq_eq_decide_eq, Int.natCast_zero, Int.add_zero, ge_iff_le, gt_iff_lt, Option.isNone_none, Option.isNone_some, List.nil_append, List.append_nil, Bool.and_true, Bool.and_self, SB, Int.reducePow, hQ, szC_lt g0]
    rw [szC_lt (by omega)]
  (first | refine call_i hP (s_szBlockS a.blocks (left) hf0.1 hf0.2 (by omega) (by omega)) (.inl ⟨rfl, fun _ hx => nomatch hx⟩) ?_ | refine callH_i hP (s_szBlockS a.blocks (left) hf0.1 hf0.2 (by omega) (by omega)) (.inl ⟨rfl, fun _ hx => nomatch hx⟩) ?_)
  simp +decide (maxSteps := 20000000) (disch := omega) only [↓SBK, SGs, S1, S2, S3, SE, SC, SO, ST, SF, SK, bytes_len, bytes_get, Nat.reduceEqDiff, Nat.reduceAdd, Nat.reduceMul, Nat.reduceSub, ↓reduceIte, Int.reduceNeg, Int.reduceToNat, hmd, hks, Bool.beq_eq_decide_eq, Int.natCast_zero, Int.add_zero, ge_iff_le, gt_iff_lt, Option.isNone_none, Option.isNone_some, List.nil_append, List.append_nil, Bool.and_true, Bool.and_self, SB, Int.reducePow, hQ, szC_ge g0]
  (first | with_reducible refine if_d _ ?_ ?_ | refine if_i _ ?_ ?_) <;> intro k0
  · exfalso; omega
  simp +decide (maxSteps := 20000000) (disch := omega) only [↓SBK, SGs, S1, S2, S3, SE, SC, SO, ST, SF, SK, bytes_len, bytes_get, Nat.reduceEqDiff, Nat.reduceAdd, Nat.reduceMul, Nat.reduceSub, ↓reduceIte, Int.reduceNeg, Int.reduceToNat, hmd, hks, Bool.beq_eq_decide_eq, Int.natCast_zero, Int.add_zero, ge_iff_le, gt_iff_lt, Option.isNone_none, Option.isNone_some, List.nil_append, List.append_nil, Bool.and_true, Bool.and_self, SB, Int.reducePow, hQ]
  rw [szC_ge (by omega)]
  simp only [hsz, Int.natCast_add, Int.sub_sub, Int.add_assoc]

end Go.Proofs.Ytliklgcfdgdigaa.Awp

namespace Go.Proofs.Ytliklgcfdgdigaa.Awp
open Go.Proofs
set_option linter.unusedSimpArgs false
set_option linter.unusedVariables false
set_option maxRecDepth 100000
set_option maxHeartbeats 20000000

theorem s_markPageS (a : List Page) (k : Int) (h0 : 0 ≤ k) (hl : k + (cntM Page.cnt a : Nat) < 2 ^ 40) : Spec Try.prog 170 [.own 2 (a.map Page.row), .int .i64 k] (.int .i64 (k + (cntM Page.cnt a : Nat))) [.own 2 ((markL Page.marked Page.cnt a k).map Page.row), .undef] := by
  simp only [cntM] at hl
  have hlen := cnt_len Page.cnt Page.cnt1 a
  refine spec_C hmx p_L_markPageS [(46, [.l, .b])] 51 [true, false] ⟨Nat.le_of_ble_eq_true rfl, Nat.le_of_ble_eq_true rfl⟩ rfl rfl ?_
  intro w hP hmd hks hQ
  unfold c_L_markPageS
  simp +decide (maxSteps := 20000000) (disch := omega) only [↓SBK, SGs, S1, S2, S3, SE, SC, SO, ST, SF, SK, bytes_len, bytes_get, Nat.reduceEqDiff, Nat.reduceAdd, Nat.reduceMul, Nat.reduceSub, ↓reduceIte, Int.reduceNeg, Int.reduceToNat, hmd, hks, Bool.beq_eq_decide_eq, Int.natCast_zero, Int.add_zero, ge_iff_le, gt_iff_lt, Option.isNone_none, Option.isNone_some, List.nil_append, List.append_nil, Bool.and_true, Bool.and_self, SB, Int.reducePow, hQ]
  refine loop_i (fun s : Nat × Int => [(1000, .own 2 (mixR Page.row Page.marked Page.cnt a k s.1)), (1, .int .i64 s.2), (5, .int .i64 s.1)]) (fun s => s.1 ≤ a.length ∧ s.2 = k + ((a.take s.1).map Page.cnt).sum) (fun s => a.length - s.1) ((0, k)) hP hmd hks (by simp +decide (maxSteps := 20000000) (disch := omega) only [↓SBK, SGs, S1, S2, S3, SE, SC, SO, ST, SF, SK, bytes_len, bytes_get, Nat.reduceEqDiff, Nat.reduceAdd, Nat.reduceMul, Nat.reduceSub, ↓reduceIte, Int.reduceNeg, Int.reduceToNat, hmd, hks, Bool.beq_eq_decide_eq, Int.natCast_zero, Int.add_zero, ge_iff_le, gt_iff_lt, Option.isNone_none, Option.isNone_some, List.nil_append, List.append_nil, Bool.and_true, Bool.and_self, SB, Int.reducePow, hQ, mixR_0]) (by simp) ?_
  rintro ⟨i, c⟩ ⟨hi, hc⟩ w1 hP1 hmd1 hks1 hQ1
  simp +decide (maxSteps := 20000000) (disch := omega) only [↓SBK, SGs, S1, S2, S3, SE, SC, SO, ST, SF, SK, bytes_len, bytes_get, Nat.reduceEqDiff, Nat.reduceAdd, Nat.reduceMul, Nat.reduceSub, ↓reduceIte, Int.reduceNeg, Int.reduceToNat, hmd, hks, Bool.beq_eq_decide_eq, Int.natCast_zero, Int.add_zero, ge_iff_le, gt_iff_lt, Option.isNone_none, Option.isNone_some, List.nil_append, List.append_nil, Bool.and_true, Bool.and_self, SB, Int.reducePow, hQ, hmd1, hks1, hQ1]
  simp only at hi hc
  (first | with_reducible refine if_d _ ?_ ?_ | refine if_i _ ?_ ?_) <;> intro h1
  · have hs := sum_take Page.cnt a i (by omega)
    have hs' := sum_take_le Page.cnt a (i + 1)
    have hn : a[i].cnt = 1 + a[i].b.length := rfl
    simp +decide (maxSteps := 20000000) (disch := omega) only [↓SBK, SGs, S1, S2, S3, SE, SC, SO, ST, SF, SK, bytes_len, bytes_get, Nat.reduceEqDiff, Nat.reduceAdd, Nat.reduceMul, Nat.reduceSub, ↓reduceIte, Int.reduceNeg, Int.reduceToNat, hmd, hks, Bool.beq_eq_decide_eq, Int.natCast_zero, Int.add_zero, ge_iff_le, gt_iff_lt, Option.isNone_none, Option.isNone_some, List.nil_append, List.append_nil, Bool.and_true, Bool.and_self, SB, Int.reducePow, hQ, hmd1, hks1, hQ1, getE h1]
    (first | refine call_i hP1 (s_markByteS a[i].b (c + 1) (by omega) (by omega)) (.inl ⟨rfl, fun _ hx => nomatch hx⟩) ?_ | refine callH_i hP1 (s_markByteS a[i].b (c + 1) (by omega) (by omega)) (.inl ⟨rfl, fun _ hx => nomatch hx⟩) ?_)
    simp +decide (maxSteps := 20000000) (disch := omega) only [↓SBK, SGs, S1, S2, S3, SE, SC, SO, ST, SF, SK, bytes_len, bytes_get, Nat.reduceEqDiff, Nat.reduceAdd, Nat.reduceMul, Nat.reduceSub, ↓reduceIte, Int.reduceNeg, Int.reduceToNat, hmd, hks, Bool.beq_eq_decide_eq, Int.natCast_zero, Int.add_zero, ge_iff_le, gt_iff_lt, Option.isNone_none, Option.isNone_some, List.nil_append, List.append_nil, Bool.and_true, Bool.and_self, SB, Int.reducePow, hQ, hmd1, hks1, hQ1]
    rw [mixR_set _ _ _ _ _ _ (by omega) _ (by subst hc; rfl)]
    exact ⟨(i + 1, c + 1 + (a[i].b.length : Nat)), rfl, ⟨by simp only; omega, by simp only; omega⟩, by simp only; omega⟩
  · obtain rfl : i = a.length := by omega
    rw [List.take_length] at hc
    simp +decide (maxSteps := 20000000) (disch := omega) only [↓SBK, SGs, S1, S2, S3, SE, SC, SO, ST, SF, SK, bytes_len, bytes_get, Nat.reduceEqDiff, Nat.reduceAdd, Nat.reduceMul, Nat.reduceSub, ↓reduceIte, Int.reduceNeg, Int.reduceToNat, hmd, hks, Bool.beq_eq_decide_eq, Int.natCast_zero, Int.add_zero, ge_iff_le, gt_iff_lt, Option.isNone_none, Option.isNone_some, List.nil_append, List.append_nil, Bool.and_true, Bool.and_self, SB, Int.reducePow, hQ, hmd1, hks1, hQ1, mixR_all, hc, cntM]

theorem s_markBlockS (a : List Block) (k : Int) (h0 : 0 ≤ k) (hl : k + (cntM Block.cnt a : Nat) < 2 ^ 40) : Spec Try.prog 127 [.own 3 (a.map Block.row), .int .i64 k] (.int .i64 (k + (cntM Block.cnt a : Nat))) [.own 3 ((markL Block.marked Block.cnt a k).map Block.row), .undef] := by
  simp only [cntM] at hl
  have hlen := cnt_len Block.cnt Block.cnt1 a
  refine spec_C hmx p_L_markBlockS [(170, [.l, .b])] 51 [true, false] ⟨Nat.le_of_ble_eq_true rfl, Nat.le_of_ble_eq_true rfl⟩ rfl rfl ?_
  intro w hP hmd hks hQ
  unfold c_L_markBlockS
  simp +decide (maxSteps := 20000000) (disch := omega) only [↓SBK, SGs, S1, S2, S3, SE, SC, SO, ST, SF, SK, bytes_len, bytes_get, Nat.reduceEqDiff, Nat.reduceAdd, Nat.reduceMul, Nat.reduceSub, ↓reduceIte, Int.reduceNeg, Int.reduceToNat, hmd, hks, Bool.beq_eq_decide_eq, Int.natCast_zero, Int.add_zero, ge_iff_le, gt_iff_lt, Option.isNone_none, Option.isNone_some, List.nil_append, List.append_nil, Bool.and_true, Bool.and_self, SB, Int.reducePow, hQ]
  refine loop_i (fun s : Nat × Int => [(1000, .own 3 (mixR Block.row Block.marked Block.cnt a k s.1)), (1, .int .i64 s.2), (5, .int .i64 s.1)]) (fun s => s.1 ≤ a.length ∧ s.2 = k + ((a.take s.1).map Block.cnt).sum) (fun s => a.length - s.1) ((0, k)) hP hmd hks (by simp +decide (maxSteps := 20000000) (disch := omega) only [↓SBK, SGs, S1, S2, S3, SE, SC, SO, ST, SF, SK, bytes_len, bytes_get, Nat.reduceEqDiff, Nat.reduceAdd, Nat.reduceMul, Nat.reduceSub, ↓reduceIte, Int.reduceNeg, Int.reduceToNat, hmd, hks, Bool.beq_eq_decide_eq, Int.natCast_zero, Int.add_zero, ge_iff_le, gt_iff_lt, Option.isNone_none, Option.isNone_some, List.nil_append, List.append_nil, Bool.and_true, Bool.and_self, SB, Int.reducePow, hQ, mixR_0]) (by simp) ?_
  rintro ⟨i, c⟩ ⟨hi, hc⟩ w1 hP1 hmd1 hks1 hQ1
  simp +decide (maxSteps := 20000000) (disch := omega) only [↓SBK, SGs, S1, S2, S3, SE, SC, SO, ST, SF, SK, bytes_len, bytes_get, Nat.reduceEqDiff, Nat.reduceAdd, Nat.reduceMul, Nat.reduceSub, ↓reduceIte, Int.reduceNeg, Int.reduceToNat, hmd, hks, Bool.beq_eq_decide_eq, Int.natCast_zero, Int.add_zero, ge_iff_le, gt_iff_lt, Option.isNone_none, Option.isNone_some, List.nil_append, List.append_nil, Bool.and_true, Bool.and_self, SB, Int.reducePow, hQ, hmd1, hks1, hQ1]
  simp only at hi hc
  (first | with_reducible refine if_d _ ?_ ?_ | refine if_i _ ?_ ?_) <;> intro h1
  · have hs := sum_take Block.cnt a i (by omega)
    have hs' := sum_take_le Block.cnt a (i + 1)
    have hn : a[i].cnt = cntM Page.cnt a[i].pages + 1 + 1 := rfl
    simp +decide (maxSteps := 20000000) (disch := omega) only [↓SBK, SGs, S1, S2, S3, SE, SC, SO, ST, SF, SK, bytes_len, bytes_get, Nat.reduceEqDiff, Nat.reduceAdd, Nat.reduceMul, Nat.reduceSub, ↓reduceIte, Int.reduceNeg, Int.reduceToNat, hmd, hks, Bool.beq_eq_decide_eq, Int.natCast_zero, Int.add_zero, ge_iff_le, gt_iff_lt, Option.isNone_none, Option.isNone_some, List.nil_append, List.append_nil, Bool.and_true, Bool.and_self, SB, Int.reducePow, hQ, hmd1, hks1, hQ1, getE h1]
    (first | refine call_i hP1 (s_markPageS a[i].pages (c) (by omega) (by omega)) (.inl ⟨rfl, fun _ hx => nomatch hx⟩) ?_ | refine callH_i hP1 (s_markPageS a[i].pages (c) (by omega) (by omega)) (.inl ⟨rfl, fun _ hx => nomatch hx⟩) ?_)
    simp +decide (maxSteps := 20000000) (disch := omega) only [↓SBK, SGs, S1, S2, S3, SE, SC, SO, ST, SF, SK, bytes_len, bytes_get, Nat.reduceEqDiff, Nat.reduceAdd, Nat.reduceMul, Nat.reduceSub, ↓reduceIte, Int.reduceNeg, Int.reduceToNat, hmd, hks, Bool.beq_eq_decide_eq, Int.natCast_zero, Int.add_zero, ge_iff_le, gt_iff_lt, Option.isNone_none, Option.isNone_some, List.nil_append, List.append_nil, Bool.and_true, Bool.and_self, SB, Int.reducePow, hQ, hmd1, hks1, hQ1]
    rw [mixR_set _ _ _ _ _ _ (by omega) _ (by subst hc; rfl)]
    exact ⟨(i + 1, c + (cntM Page.cnt a[i].pages : Nat) + 1 + 1), rfl, ⟨by simp only; omega, by simp only; omega⟩, by simp only; omega⟩
  · obtain rfl : i = a.length := by omega
    rw [List.take_length] at hc
    simp +decide (maxSteps := 20000000) (disch := omega) only [↓SBK, SGs, S1, S2, S3, SE, SC, SO, ST, SF, SK, bytes_len, bytes_get, Nat.reduceEqDiff, Nat.reduceAdd, Nat.reduceMul, Nat.reduceSub, ↓reduceIte, Int.reduceNeg, Int.reduceToNat, hmd, hks, Bool.beq_eq_decide_eq, Int.natCast_zero, Int.add_zero, ge_iff_le, gt_iff_lt, Option.isNone_none, Option.isNone_some, List.nil_append, List.append_nil, Bool.and_true, Bool.and_self, SB, Int.reducePow, hQ, hmd1, hks1, hQ1, mixR_all, hc, cntM]

theorem s_markChip (a : Chip) (k : Int) (h0 : 0 ≤ k) (hl : k + (a.cntT : Nat) < 2 ^ 40) : Spec Try.prog 51 [a.o, .int .i64 k] (.int .i64 (k + (a.cntT : Nat))) [(a.markT k).o, .undef] := by
  simp only [Chip.cntT] at hl
  refine spec_C hmx p_L_markChip [(127, [.l, .b])] 23 [true, false] ⟨Nat.le_of_ble_eq_true rfl, Nat.le_of_ble_eq_true rfl⟩ rfl rfl ?_
  intro w hP hmd hks hQ
  unfold c_L_markChip
  simp +decide (maxSteps := 20000000) (disch := omega) only [↓SBK, SGs, S1, S2, S3, SE, SC, SO, ST, SF, SK, bytes_len, bytes_get, Nat.reduceEqDiff, Nat.reduceAdd, Nat.reduceMul, Nat.reduceSub, ↓reduceIte, Int.reduceNeg, Int.reduceToNat, hmd, hks, Bool.beq_eq_decide_eq, Int.natCast_zero, Int.add_zero, ge_iff_le, gt_iff_lt, Option.isNone_none, Option.isNone_some, List.nil_append, List.append_nil, Bool.and_true, Bool.and_self, SB, Int.reducePow, hQ]
  (first | refine call_i hP (s_markBlockS a.blocks (k) (by omega) (by omega)) (.inl ⟨rfl, fun _ hx => nomatch hx⟩) ?_ | refine callH_i hP (s_markBlockS a.blocks (k) (by omega) (by omega)) (.inl ⟨rfl, fun _ hx => nomatch hx⟩) ?_)
  simp +decide (maxSteps := 20000000) (disch := omega) only [↓SBK, SGs, S1, S2, S3, SE, SC, SO, ST, SF, SK, bytes_len, bytes_get, Nat.reduceEqDiff, Nat.reduceAdd, Nat.reduceMul, Nat.reduceSub, ↓reduceIte, Int.reduceNeg, Int.reduceToNat, hmd, hks, Bool.beq_eq_decide_eq, Int.natCast_zero, Int.add_zero, ge_iff_le, gt_iff_lt, Option.isNone_none, Option.isNone_some, List.nil_append, List.append_nil, Bool.and_true, Bool.and_self, SB, Int.reducePow, hQ]
  exact ⟨by simp only [Chip.cntT, Int.natCast_add, Int.add_assoc], rfl⟩

end Go.Proofs.Ytliklgcfdgdigaa.Awp

namespace Go.Proofs.Ytliklgcfdgdigaa.Awp
open Go.Proofs
set_option linter.unusedSimpArgs false
set_option linter.unusedVariables false
set_option maxRecDepth 100000
set_option maxHeartbeats 20000000

end Go.Proofs.Ytliklgcfdgdigaa.Awp

namespace Go.Proofs.Ytliklgcfdgdigaa.Awp
open Go.Proofs
set_option linter.unusedSimpArgs false
set_option linter.unusedVariables false
set_option maxRecDepth 100000
set_option maxHeartbeats 20000000

theorem s_from (x a b : Int) : Spec Try.prog 121 [.int .i64 x, .int .i64 a, .int .i64 b] (.bool (inR x a b)) [.undef, .undef, .undef] := by
  refine spec_C hmx p_I_from [] 71 [] ⟨Nat.le_of_ble_eq_true rfl, Nat.le_of_ble_eq_true rfl⟩ rfl rfl ?_
  intro w hP hmd hks hQ
  unfold c_I_from
  simp +decide (maxSteps := 20000000) (disch := omega) only [↓SBK, SGs, S1, S2, S3, SE, SC, SO, ST, SF, SK, bytes_len, bytes_get, Nat.reduceEqDiff, Nat.reduceAdd, Nat.reduceMul, Nat.reduceSub, ↓reduceIte, Int.reduceNeg, Int.reduceToNat, hmd, hks, Bool.beq_eq_decide_eq, Int.natCast_zero, Int.add_zero, ge_iff_le, gt_iff_lt, Option.isNone_none, Option.isNone_some, List.nil_append, List.append_nil, Bool.and_true, Bool.and_self, SB, Int.reducePow, hQ]
  (first | with_reducible refine gd_d _ ?_ ?_ | refine gd_i _ ?_ ?_) <;> intro h1
  · simp +decide (maxSteps := 20000000) (disch := omega) only [↓SBK, SGs, S1, S2, S3, SE, SC, SO, ST, SF, SK, bytes_len, bytes_get, Nat.reduceEqDiff, Nat.reduceAdd, Nat.reduceMul, Nat.reduceSub, ↓reduceIte, Int.reduceNeg, Int.reduceToNat, hmd, hks, Bool.beq_eq_decide_eq, Int.natCast_zero, Int.add_zero, ge_iff_le, gt_iff_lt, Option.isNone_none, Option.isNone_some, List.nil_append, List.append_nil, Bool.and_true, Bool.and_self, SB, Int.reducePow, hQ, h1]
    simp [inR, h1]
  · simp +decide (maxSteps := 20000000) (disch := omega) only [↓SBK, SGs, S1, S2, S3, SE, SC, SO, ST, SF, SK, bytes_len, bytes_get, Nat.reduceEqDiff, Nat.reduceAdd, Nat.reduceMul, Nat.reduceSub, ↓reduceIte, Int.reduceNeg, Int.reduceToNat, hmd, hks, Bool.beq_eq_decide_eq, Int.natCast_zero, Int.add_zero, ge_iff_le, gt_iff_lt, Option.isNone_none, Option.isNone_some, List.nil_append, List.append_nil, Bool.and_true, Bool.and_self, SB, Int.reducePow, hQ, h1]
    simp [inR, h1]
end Go.Proofs.Ytliklgcfdgdigaa.Awp

namespace Go.Proofs.Ytliklgcfdgdigaa.Awp
open Go.Proofs
set_option linter.unusedSimpArgs false
set_option linter.unusedVariables false
set_option maxRecDepth 100000
set_option maxHeartbeats 20000000

/-! ### bytes -/
theorem s_Clone8 (b : Bytes) (hl : b.length < 2 ^ 40) : Spec Try.prog 144 [.ext 1 (bytesR b)] (.own 1 (bytesR b)) [.undef] := by
  refine spec_extv fun a len cap ha => ?_
  cases a with
  | none =>
    obtain rfl : b = [] := by simpa [bytesR] using ha rfl
    refine spec_C hmx p_X_Clone_byte [] 5 [] ⟨Nat.le_of_ble_eq_true rfl, Nat.le_of_ble_eq_true rfl⟩ rfl rfl ?_
    intro w hP hmd hks hQ
    unfold c_X_Clone_byte
    simp +decide (maxSteps := 20000000) (disch := omega) only [↓SBK, SGs, S1, S2, S3, SE, SC, SO, ST, SF, SK, bytes_len, bytes_get, Nat.reduceEqDiff, Nat.reduceAdd, Nat.reduceMul, Nat.reduceSub, ↓reduceIte, Int.reduceNeg, Int.reduceToNat, hmd, hks, Bool.beq_eq_decide_eq, Int.natCast_zero, Int.add_zero, ge_iff_le, gt_iff_lt, Option.isNone_none, Option.isNone_some, List.nil_append, List.append_nil, Bool.and_true, Bool.and_self, SB, Int.reducePow, hQ]
    rfl
  | some a =>
    refine spec_C hmx p_X_Clone_byte [] 5 [] ⟨Nat.le_of_ble_eq_true rfl, Nat.le_of_ble_eq_true rfl⟩ rfl rfl ?_
    intro w hP hmd hks hQ
    unfold c_X_Clone_byte
    simp +decide (maxSteps := 20000000) (disch := omega) only [↓SBK, SGs, S1, S2, S3, SE, SC, SO, ST, SF, SK, bytes_len, bytes_get, Nat.reduceEqDiff, Nat.reduceAdd, Nat.reduceMul, Nat.reduceSub, ↓reduceIte, Int.reduceNeg, Int.reduceToNat, hmd, hks, Bool.beq_eq_decide_eq, Int.natCast_zero, Int.add_zero, ge_iff_le, gt_iff_lt, Option.isNone_none, Option.isNone_some, List.nil_append, List.append_nil, Bool.and_true, Bool.and_self, SB, Int.reducePow, hQ]

end Go.Proofs.Ytliklgcfdgdigaa.Awp

namespace Go.Proofs.Ytliklgcfdgdigaa.Awp
open Go.Proofs
set_option linter.unusedSimpArgs false
set_option linter.unusedVariables false
set_option maxRecDepth 100000
set_option maxHeartbeats 20000000

end Go.Proofs.Ytliklgcfdgdigaa.Awp

namespace Go.Proofs.Ytliklgcfdgdigaa.Awp
open Go.Proofs
set_option linter.unusedSimpArgs false
set_option linter.unusedVariables false
set_option maxRecDepth 100000
set_option maxHeartbeats 20000000

theorem eqByteS_self (b : Bytes) (h : b.length < 2 ^ 40) : Spec Try.prog 44 [.ext 1 (bytesR b), .ext 1 (bytesR b)] (.bool true) [.undef, .undef] := by
  have he := s_eqByteS b b h
  rwa [decide_eq_true rfl] at he
end Go.Proofs.Ytliklgcfdgdigaa.Awp

namespace Go.Proofs.Ytliklgcfdgdigaa.Awp
open Go.Proofs
set_option linter.unusedSimpArgs false
set_option linter.unusedVariables false
set_option maxRecDepth 100000
set_option maxHeartbeats 20000000

end Go.Proofs.Ytliklgcfdgdigaa.Awp

namespace Go.Proofs.Ytliklgcfdgdigaa.Awp
open Go.Proofs
set_option linter.unusedSimpArgs false
set_option linter.unusedVariables false
set_option maxRecDepth 100000
set_option maxHeartbeats 20000000

theorem inR_iff (x a b : Int) : inR x a b = true ↔ a ≤ x ∧ x ≤ b := by simp [inR]
theorem eqChip_self (c : Chip) (h : c.sz < 2 ^ 40) : Spec Try.prog 50 [c.x, c.x] (.bool true) [.undef, .undef] := by
  have he := s_eqChip c c h
  rwa [decide_eq_true rfl] at he
end Go.Proofs.Ytliklgcfdgdigaa.Awp

namespace Go.Proofs.Ytliklgcfdgdigaa.Awp
open Go.Proofs
set_option linter.unusedSimpArgs false
set_option linter.unusedVariables false
set_option maxRecDepth 100000
set_option maxHeartbeats 20000000

end Go.Proofs.Ytliklgcfdgdigaa.Awp

namespace Go.Proofs.Ytliklgcfdgdigaa.Awp
open Go.Proofs
set_option linter.unusedSimpArgs false
set_option linter.unusedVariables false
set_option maxRecDepth 100000
set_option maxHeartbeats 20000000

end Go.Proofs.Ytliklgcfdgdigaa.Awp

namespace Go.Proofs.Ytliklgcfdgdigaa.Awp
open Go.Proofs
set_option linter.unusedSimpArgs false
set_option linter.unusedVariables false
set_option maxRecDepth 100000
set_option maxHeartbeats 20000000

theorem s_isBlock (c : Chip) (k : Int) (hl : c.sz < 2 ^ 40) : Spec Try.prog 139 [c.x, .int .i64 k] (.bool (inR k 0 ((c.blocks.length : Nat) - 1))) [.undef, .undef] := by
  simp only [Chip.sz, szM] at hl
  refine spec_C hmx p_I_isBlock [] 23 [] ⟨Nat.le_of_ble_eq_true rfl, Nat.le_of_ble_eq_true rfl⟩ rfl rfl ?_
  intro w hP hmd hks hQ
  unfold c_I_isBlock
  simp +decide (maxSteps := 20000000) (disch := omega) only [↓SBK, SGs, S1, S2, S3, SE, SC, SO, ST, SF, SK, bytes_len, bytes_get, Nat.reduceEqDiff, Nat.reduceAdd, Nat.reduceMul, Nat.reduceSub, ↓reduceIte, Int.reduceNeg, Int.reduceToNat, hmd, hks, Bool.beq_eq_decide_eq, Int.natCast_zero, Int.add_zero, ge_iff_le, gt_iff_lt, Option.isNone_none, Option.isNone_some, List.nil_append, List.append_nil, Bool.and_true, Bool.and_self, SB, Int.reducePow, hQ]
  (first | refine call_i hP (s_from k 0 ((c.blocks.length : Nat) - 1)) (.inl ⟨rfl, fun _ hx => nomatch hx⟩) ?_ | refine callH_i hP (s_from k 0 ((c.blocks.length : Nat) - 1)) (.inl ⟨rfl, fun _ hx => nomatch hx⟩) ?_)
  simp +decide (maxSteps := 20000000) (disch := omega) only [↓SBK, SGs, S1, S2, S3, SE, SC, SO, ST, SF, SK, bytes_len, bytes_get, Nat.reduceEqDiff, Nat.reduceAdd, Nat.reduceMul, Nat.reduceSub, ↓reduceIte, Int.reduceNeg, Int.reduceToNat, hmd, hks, Bool.beq_eq_decide_eq, Int.natCast_zero, Int.add_zero, ge_iff_le, gt_iff_lt, Option.isNone_none, Option.isNone_some, List.nil_append, List.append_nil, Bool.and_true, Bool.and_self, SB, Int.reducePow, hQ]
/-- the block of a number, if there is one -/
def blk? (c : Chip) (k : Int) : Option Block := if 0 ≤ k then c.blocks[k.toNat]? else none
theorem blk_some {c : Chip} {k : Int} (h : 0 ≤ k) (h' : k < (c.blocks.length : Nat)) : blk? c k = some (c.blocks[k.toNat]'(by omega)) := by
  rw [blk?, if_pos h, List.getElem?_eq_getElem]
theorem blk_none {c : Chip} {k : Int} (h : ¬ (0 ≤ k ∧ k < (c.blocks.length : Nat))) : blk? c k = none := by
  unfold blk?
  split
  · rw [List.getElem?_eq_none]; omega
  · rfl
end Go.Proofs.Ytliklgcfdgdigaa.Awp

namespace Go.Proofs.Ytliklgcfdgdigaa.Awp
open Go.Proofs
set_option linter.unusedSimpArgs false
set_option linter.unusedVariables false
set_option maxRecDepth 100000
set_option maxHeartbeats 20000000

/-- a page is right where it stands -/
def okP (P : List Page) (i : Nat) : Prop := ∀ p, P[i]? = some p → p.b.length ≤ 400 ∧ (p.used = false → p.b.length = 0) ∧ (0 < i → p.used = true → ∃ q, P[i - 1]? = some q ∧ q.used = true)
def okB (b : Block) : Prop := b.pages.length = 8 ∧ inR b.wear 0 100000 = true ∧ ∀ i, i < b.pages.length → okP b.pages i
def okC (c : Chip) : Prop := (∀ b ∈ c.blocks, okB b) ∧ inR (c.blocks.length : Nat) 3 24 = true
open Classical in
noncomputable def blkOk (b : Block) : Bool := decide (okB b)
open Classical in
noncomputable def chipOk (c : Chip) : Bool := decide (okC c)
end Go.Proofs.Ytliklgcfdgdigaa.Awp

namespace Go.Proofs.Ytliklgcfdgdigaa.Awp
open Go.Proofs
set_option linter.unusedSimpArgs false
set_option linter.unusedVariables false
set_option maxRecDepth 100000
set_option maxHeartbeats 20000000

end Go.Proofs.Ytliklgcfdgdigaa.Awp

namespace Go.Proofs.Ytliklgcfdgdigaa.Awp
open Go.Proofs
set_option linter.unusedSimpArgs false
set_option linter.unusedVariables false
set_option maxRecDepth 100000
set_option maxHeartbeats 20000000

end Go.Proofs.Ytliklgcfdgdigaa.Awp

namespace Go.Proofs.Ytliklgcfdgdigaa.Awp
open Go.Proofs
set_option linter.unusedSimpArgs false
set_option linter.unusedVariables false
set_option maxRecDepth 100000
set_option maxHeartbeats 20000000

def pageAt (c : Chip) (k p : Int) : Option Page := (blk? c k).bind fun b => if 0 ≤ p then b.pages[p.toNat]? else none
def readPage (c : Chip) (k p : Int) : Bytes × Bool := match pageAt c k p with
  | some q => if q.used then (q.b, true) else ([], false)
  | none => ([], false)
theorem pageAt_nb {c : Chip} {k p : Int} (h : ¬ (0 ≤ k ∧ k < (c.blocks.length : Nat))) : pageAt c k p = none := by rw [pageAt, blk_none h]; rfl
theorem pageAt_np {c : Chip} {j : Nat} {p : Int} (hj : (j : Int) < (c.blocks.length : Nat)) (h : ¬ (0 ≤ p ∧ p < ((c.blocks[j]'(by omega)).pages.length : Nat))) : pageAt c j p = none := by
  rw [pageAt, blk_some (by omega) hj, Option.bind_some]
  split
  · rw [List.getElem?_eq_none]
    simp only [Int.toNat_natCast]
    omega
  · rfl
theorem pageAt_some {c : Chip} {j m : Nat} (hj : (j : Int) < (c.blocks.length : Nat)) (hm : (m : Int) < ((c.blocks[j]'(by omega)).pages.length : Nat)) :
    pageAt c j m = some ((c.blocks[j]'(by omega)).pages[m]'(by omega)) := by
  rw [pageAt, blk_some (by omega) hj, Option.bind_some, if_pos (by omega)]
  simp only [Int.toNat_natCast]
  rw [List.getElem?_eq_getElem]
theorem readPage_none {c : Chip} {k p : Int} (h : pageAt c k p = none) : readPage c k p = ([], false) := by rw [readPage, h]
theorem readPage_some {c : Chip} {k p : Int} {q : Page} (h : pageAt c k p = some q) : readPage c k p = if q.used then (q.b, true) else ([], false) := by rw [readPage, h]
theorem chip_page {c : Chip} {j m : Nat} (hs : c.sz < 2 ^ 40) (hj : (j : Int) < (c.blocks.length : Nat)) (hm : (m : Int) < ((c.blocks[j]'(by omega)).pages.length : Nat)) :
    ((c.blocks[j]'(by omega)).pages[m]'(by omega)).b.length < 2 ^ 40 := by
  have h1 := sum_get Block.sz (l := c.blocks) (i := j) (by omega)
  have h2 := sum_get Page.sz (l := (c.blocks[j]'(by omega)).pages) (i := m) (by omega)
  simp only [Chip.sz, szM] at hs
  have h3 : (c.blocks[j]'(by omega)).sz = (c.blocks[j]'(by omega)).pages.length + ((c.blocks[j]'(by omega)).pages.map Page.sz).sum := rfl
  have h4 : ((c.blocks[j]'(by omega)).pages[m]'(by omega)).sz = ((c.blocks[j]'(by omega)).pages[m]'(by omega)).b.length := rfl
  omega
theorem chip_pages {c : Chip} {j : Nat} (hs : c.sz < 2 ^ 40) (hj : (j : Int) < (c.blocks.length : Nat)) : (c.blocks[j]'(by omega)).pages.length < 2 ^ 40 := by
  have h1 := sum_get Block.sz (l := c.blocks) (i := j) (by omega)
  simp only [Chip.sz, szM] at hs
  have h3 : (c.blocks[j]'(by omega)).sz = (c.blocks[j]'(by omega)).pages.length + ((c.blocks[j]'(by omega)).pages.map Page.sz).sum := rfl
  omega
theorem sI_ReadPage (c : Chip) (k p : Int) (hs : c.sz < 2 ^ 40) : Spec Try.prog 74 [c.x, .int .i64 k, .int .i64 p] (.tup [.own 1 (bytesR (readPage c k p).1), .bool (readPage c k p).2]) [.undef, .undef, .undef] := by
  have hl : c.blocks.length < 2 ^ 40 := by simp only [Chip.sz, szM] at hs; omega
  refine spec_C hmx p_I_ReadPage [] 207 [] ⟨Nat.le_of_ble_eq_true rfl, Nat.le_of_ble_eq_true rfl⟩ rfl rfl ?_
  intro w hP hmd hks hQ
  unfold c_I_ReadPage
  simp +decide (maxSteps := 20000000) (disch := omega) only [↓SBK, SGs, S1, S2, S3, SE, SC, SO, ST, SF, SK, bytes_len, bytes_get, Nat.reduceEqDiff, Nat.reduceAdd, Nat.reduceMul, Nat.reduceSub, ↓reduceIte, Int.reduceNeg, Int.reduceToNat, hmd, hks, Bool.beq_eq_decide_eq, Int.natCast_zero, Int.add_zero, ge_iff_le, gt_iff_lt, Option.isNone_none, Option.isNone_some, List.nil_append, List.append_nil, Bool.and_true, Bool.and_self, SB, Int.reducePow, hQ]
  (first | refine call_i hP (s_isBlock c k hs) (.inl ⟨rfl, fun _ hx => nomatch hx⟩) ?_ | refine callH_i hP (s_isBlock c k hs) (.inl ⟨rfl, fun _ hx => nomatch hx⟩) ?_)
  simp +decide (maxSteps := 20000000) (disch := omega) only [↓SBK, SGs, S1, S2, S3, SE, SC, SO, ST, SF, SK, bytes_len, bytes_get, Nat.reduceEqDiff, Nat.reduceAdd, Nat.reduceMul, Nat.reduceSub, ↓reduceIte, Int.reduceNeg, Int.reduceToNat, hmd, hks, Bool.beq_eq_decide_eq, Int.natCast_zero, Int.add_zero, ge_iff_le, gt_iff_lt, Option.isNone_none, Option.isNone_some, List.nil_append, List.append_nil, Bool.and_true, Bool.and_self, SB, Int.reducePow, hQ]
  (first | with_reducible refine gd_d _ ?_ ?_ | refine gd_i _ ?_ ?_) <;> intro h1
  · have h1' := (inR_iff _ _ _).1 h1
    obtain ⟨j, rfl⟩ : ∃ j : Nat, k = j := ⟨k.toNat, by omega⟩
    have hj : (j : Int) < (c.blocks.length : Nat) := by omega
    have hp := chip_pages hs hj
    simp only [h1, Bool.not_true, Bool.not_false]
    simp +decide (maxSteps := 20000000) (disch := omega) only [↓SBK, SGs, S1, S2, S3, SE, SC, SO, ST, SF, SK, bytes_len, bytes_get, Nat.reduceEqDiff, Nat.reduceAdd, Nat.reduceMul, Nat.reduceSub, ↓reduceIte, Int.reduceNeg, Int.reduceToNat, hmd, hks, Bool.beq_eq_decide_eq, Int.natCast_zero, Int.add_zero, ge_iff_le, gt_iff_lt, Option.isNone_none, Option.isNone_some, List.nil_append, List.append_nil, Bool.and_true, Bool.and_self, SB, Int.reducePow, hQ, getE hj]
    (first | refine call_i hP (s_from p 0 (((c.blocks[j]'(by omega)).pages.length : Nat) - 1)) (.inl ⟨rfl, fun _ hx => nomatch hx⟩) ?_ | refine callH_i hP (s_from p 0 (((c.blocks[j]'(by omega)).pages.length : Nat) - 1)) (.inl ⟨rfl, fun _ hx => nomatch hx⟩) ?_)
    simp +decide (maxSteps := 20000000) (disch := omega) only [↓SBK, SGs, S1, S2, S3, SE, SC, SO, ST, SF, SK, bytes_len, bytes_get, Nat.reduceEqDiff, Nat.reduceAdd, Nat.reduceMul, Nat.reduceSub, ↓reduceIte, Int.reduceNeg, Int.reduceToNat, hmd, hks, Bool.beq_eq_decide_eq, Int.natCast_zero, Int.add_zero, ge_iff_le, gt_iff_lt, Option.isNone_none, Option.isNone_some, List.nil_append, List.append_nil, Bool.and_true, Bool.and_self, SB, Int.reducePow, hQ, getE hj]
    (first | with_reducible refine gd_d _ ?_ ?_ | refine gd_i _ ?_ ?_) <;> intro h2
    · have h2' := (inR_iff _ _ _).1 h2
      obtain ⟨m, rfl⟩ : ∃ m : Nat, p = m := ⟨p.toNat, by omega⟩
      have hm : (m : Int) < ((c.blocks[j]'(by omega)).pages.length : Nat) := by omega
      simp only [h2, Bool.not_true, Bool.not_false]
      simp +decide (maxSteps := 20000000) (disch := omega) only [↓SBK, SGs, S1, S2, S3, SE, SC, SO, ST, SF, SK, bytes_len, bytes_get, Nat.reduceEqDiff, Nat.reduceAdd, Nat.reduceMul, Nat.reduceSub, ↓reduceIte, Int.reduceNeg, Int.reduceToNat, hmd, hks, Bool.beq_eq_decide_eq, Int.natCast_zero, Int.add_zero, ge_iff_le, gt_iff_lt, Option.isNone_none, Option.isNone_some, List.nil_append, List.append_nil, Bool.and_true, Bool.and_self, SB, Int.reducePow, hQ, getE hj, getE hm]
      (first | with_reducible refine if_d _ ?_ ?_ | refine if_i _ ?_ ?_) <;> intro h3
      · simp +decide (maxSteps := 20000000) (disch := omega) only [↓SBK, SGs, S1, S2, S3, SE, SC, SO, ST, SF, SK, bytes_len, bytes_get, Nat.reduceEqDiff, Nat.reduceAdd, Nat.reduceMul, Nat.reduceSub, ↓reduceIte, Int.reduceNeg, Int.reduceToNat, hmd, hks, Bool.beq_eq_decide_eq, Int.natCast_zero, Int.add_zero, ge_iff_le, gt_iff_lt, Option.isNone_none, Option.isNone_some, List.nil_append, List.append_nil, Bool.and_true, Bool.and_self, SB, Int.reducePow, hQ, getE hj, getE hm]
        (first | refine call_i hP (s_Clone8 ((c.blocks[j]'(by omega)).pages[m]'(by omega)).b (chip_page hs hj hm)) (.inl ⟨rfl, fun _ hx => nomatch hx⟩) ?_ | refine callH_i hP (s_Clone8 ((c.blocks[j]'(by omega)).pages[m]'(by omega)).b (chip_page hs hj hm)) (.inl ⟨rfl, fun _ hx => nomatch hx⟩) ?_)
        simp +decide (maxSteps := 20000000) (disch := omega) only [↓SBK, SGs, S1, S2, S3, SE, SC, SO, ST, SF, SK, bytes_len, bytes_get, Nat.reduceEqDiff, Nat.reduceAdd, Nat.reduceMul, Nat.reduceSub, ↓reduceIte, Int.reduceNeg, Int.reduceToNat, hmd, hks, Bool.beq_eq_decide_eq, Int.natCast_zero, Int.add_zero, ge_iff_le, gt_iff_lt, Option.isNone_none, Option.isNone_some, List.nil_append, List.append_nil, Bool.and_true, Bool.and_self, SB, Int.reducePow, hQ]
        rw [readPage_some (pageAt_some hj hm), if_pos h3]
      · simp +decide (maxSteps := 20000000) (disch := omega) only [↓SBK, SGs, S1, S2, S3, SE, SC, SO, ST, SF, SK, bytes_len, bytes_get, Nat.reduceEqDiff, Nat.reduceAdd, Nat.reduceMul, Nat.reduceSub, ↓reduceIte, Int.reduceNeg, Int.reduceToNat, hmd, hks, Bool.beq_eq_decide_eq, Int.natCast_zero, Int.add_zero, ge_iff_le, gt_iff_lt, Option.isNone_none, Option.isNone_some, List.nil_append, List.append_nil, Bool.and_true, Bool.and_self, SB, Int.reducePow, hQ]
        rw [readPage_some (pageAt_some hj hm), if_neg (by simp [h3])]; rfl
    · simp only [h2, Bool.not_true, Bool.not_false]
      simp +decide (maxSteps := 20000000) (disch := omega) only [↓SBK, SGs, S1, S2, S3, SE, SC, SO, ST, SF, SK, bytes_len, bytes_get, Nat.reduceEqDiff, Nat.reduceAdd, Nat.reduceMul, Nat.reduceSub, ↓reduceIte, Int.reduceNeg, Int.reduceToNat, hmd, hks, Bool.beq_eq_decide_eq, Int.natCast_zero, Int.add_zero, ge_iff_le, gt_iff_lt, Option.isNone_none, Option.isNone_some, List.nil_append, List.append_nil, Bool.and_true, Bool.and_self, SB, Int.reducePow, hQ]
      rw [readPage_none (pageAt_np hj fun h => by rw [(inR_iff _ _ _).2 (by omega)] at h2; cases h2)]; rfl
  · simp only [h1, Bool.not_true, Bool.not_false]
    simp +decide (maxSteps := 20000000) (disch := omega) only [↓SBK, SGs, S1, S2, S3, SE, SC, SO, ST, SF, SK, bytes_len, bytes_get, Nat.reduceEqDiff, Nat.reduceAdd, Nat.reduceMul, Nat.reduceSub, ↓reduceIte, Int.reduceNeg, Int.reduceToNat, hmd, hks, Bool.beq_eq_decide_eq, Int.natCast_zero, Int.add_zero, ge_iff_le, gt_iff_lt, Option.isNone_none, Option.isNone_some, List.nil_append, List.append_nil, Bool.and_true, Bool.and_self, SB, Int.reducePow, hQ]
    rw [readPage_none (pageAt_nb fun h => by rw [(inR_iff _ _ _).2 (by omega)] at h1; cases h1)]; rfl
theorem sS_ReadPage (c : Chip) (k p : Int) (hs : c.sz < 2 ^ 40) : Spec Try.prog 73 [c.x, .int .i64 k, .int .i64 p] (.tup [.own 1 (bytesR (readPage c k p).1), .bool (readPage c k p).2]) [.undef, .undef, .undef] := by
  have hl : c.blocks.length < 2 ^ 40 := by simp only [Chip.sz, szM] at hs; omega
  by_cases h1 : 0 ≤ k ∧ k < (c.blocks.length : Nat)
  · obtain ⟨j, rfl⟩ : ∃ j : Nat, k = j := ⟨k.toNat, by omega⟩
    have hj : (j : Int) < (c.blocks.length : Nat) := h1.2
    have hp := chip_pages hs hj
    have d1 : decide ((j : Int) < 0) = false := decide_eq_false (by omega)
    have d2 : decide (((c.blocks.length : Nat) : Int) ≤ j) = false := decide_eq_false (by omega)
    by_cases h2 : 0 ≤ p ∧ p < ((c.blocks[j]'(by omega)).pages.length : Nat)
    · obtain ⟨m, rfl⟩ : ∃ m : Nat, p = m := ⟨p.toNat, by omega⟩
      have hm : (m : Int) < ((c.blocks[j]'(by omega)).pages.length : Nat) := h2.2
      have hb := chip_page hs hj hm
      have d3 : decide ((m : Int) < 0) = false := decide_eq_false (by omega)
      have d4 : decide ((((c.blocks[j]'(by omega)).pages.length : Nat) : Int) ≤ m) = false := decide_eq_false (by omega)
      refine spec_C hmx p_S_ReadPage [] 207 [] ⟨Nat.le_of_ble_eq_true rfl, Nat.le_of_ble_eq_true rfl⟩ rfl rfl ?_
      intro w hP hmd hks hQ
      unfold c_S_ReadPage
      simp +decide (maxSteps := 20000000) (disch := omega) only [↓SBK, SGs, S1, S2, S3, SE, SC, SO, ST, SF, SK, bytes_len, bytes_get, Nat.reduceEqDiff, Nat.reduceAdd, Nat.reduceMul, Nat.reduceSub, ↓reduceIte, Int.reduceNeg, Int.reduceToNat, hmd, hks, Bool.beq_eq_decide_eq, Int.natCast_zero, Int.add_zero, ge_iff_le, gt_iff_lt, Option.isNone_none, Option.isNone_some, List.nil_append, List.append_nil, Bool.and_true, Bool.and_self, SB, Int.reducePow, hQ]
      simp +decide (maxSteps := 20000000) (disch := omega) only [↓SBK, SGs, S1, S2, S3, SE, SC, SO, ST, SF, SK, bytes_len, bytes_get, Nat.reduceEqDiff, Nat.reduceAdd, Nat.reduceMul, Nat.reduceSub, ↓reduceIte, Int.reduceNeg, Int.reduceToNat, hmd, hks, Bool.beq_eq_decide_eq, Int.natCast_zero, Int.add_zero, ge_iff_le, gt_iff_lt, Option.isNone_none, Option.isNone_some, List.nil_append, List.append_nil, Bool.and_true, Bool.and_self, SB, Int.reducePow, hQ, d1, d2, d3, d4, getE hj, getE hm]
      (first | with_reducible refine if_d _ ?_ ?_ | refine if_i _ ?_ ?_) <;> intro h3
      · simp +decide (maxSteps := 20000000) (disch := omega) only [↓SBK, SGs, S1, S2, S3, SE, SC, SO, ST, SF, SK, bytes_len, bytes_get, Nat.reduceEqDiff, Nat.reduceAdd, Nat.reduceMul, Nat.reduceSub, ↓reduceIte, Int.reduceNeg, Int.reduceToNat, hmd, hks, Bool.beq_eq_decide_eq, Int.natCast_zero, Int.add_zero, ge_iff_le, gt_iff_lt, Option.isNone_none, Option.isNone_some, List.nil_append, List.append_nil, Bool.and_true, Bool.and_self, SB, Int.reducePow, hQ, d1, d2, d3, d4, getE hj, getE hm]
        rw [readPage_some (pageAt_some hj hm), if_pos h3]
      · simp +decide (maxSteps := 20000000) (disch := omega) only [↓SBK, SGs, S1, S2, S3, SE, SC, SO, ST, SF, SK, bytes_len, bytes_get, Nat.reduceEqDiff, Nat.reduceAdd, Nat.reduceMul, Nat.reduceSub, ↓reduceIte, Int.reduceNeg, Int.reduceToNat, hmd, hks, Bool.beq_eq_decide_eq, Int.natCast_zero, Int.add_zero, ge_iff_le, gt_iff_lt, Option.isNone_none, Option.isNone_some, List.nil_append, List.append_nil, Bool.and_true, Bool.and_self, SB, Int.reducePow, hQ]
        rw [readPage_some (pageAt_some hj hm), if_neg (by simp [h3])]; rfl
    · have e := readPage_none (pageAt_np hj h2)
      have d5 : decide (p < 0) = true ∨ decide (p < 0) = false ∧ decide ((((c.blocks[j]'(by omega)).pages.length : Nat) : Int) ≤ p) = true := by
        by_cases h : p < 0
        · exact .inl (decide_eq_true h)
        · exact .inr ⟨decide_eq_false h, decide_eq_true (by omega)⟩
      rcases d5 with d3 | ⟨d3, d4⟩
      · refine spec_C hmx p_S_ReadPage [] 207 [] ⟨Nat.le_of_ble_eq_true rfl, Nat.le_of_ble_eq_true rfl⟩ rfl rfl ?_
        intro w hP hmd hks hQ
        unfold c_S_ReadPage
        simp +decide (maxSteps := 20000000) (disch := omega) only [↓SBK, SGs, S1, S2, S3, SE, SC, SO, ST, SF, SK, bytes_len, bytes_get, Nat.reduceEqDiff, Nat.reduceAdd, Nat.reduceMul, Nat.reduceSub, ↓reduceIte, Int.reduceNeg, Int.reduceToNat, hmd, hks, Bool.beq_eq_decide_eq, Int.natCast_zero, Int.add_zero, ge_iff_le, gt_iff_lt, Option.isNone_none, Option.isNone_some, List.nil_append, List.append_nil, Bool.and_true, Bool.and_self, SB, Int.reducePow, hQ]
        simp +decide (maxSteps := 20000000) (disch := omega) only [↓SBK, SGs, S1, S2, S3, SE, SC, SO, ST, SF, SK, bytes_len, bytes_get, Nat.reduceEqDiff, Nat.reduceAdd, Nat.reduceMul, Nat.reduceSub, ↓reduceIte, Int.reduceNeg, Int.reduceToNat, hmd, hks, Bool.beq_eq_decide_eq, Int.natCast_zero, Int.add_zero, ge_iff_le, gt_iff_lt, Option.isNone_none, Option.isNone_some, List.nil_append, List.append_nil, Bool.and_true, Bool.and_self, SB, Int.reducePow, hQ, d1, d2, d3, getE hj]
        rw [e]; rfl
      · refine spec_C hmx p_S_ReadPage [] 207 [] ⟨Nat.le_of_ble_eq_true rfl, Nat.le_of_ble_eq_true rfl⟩ rfl rfl ?_
        intro w hP hmd hks hQ
        unfold c_S_ReadPage
        simp +decide (maxSteps := 20000000) (disch := omega) only [↓SBK, SGs, S1, S2, S3, SE, SC, SO, ST, SF, SK, bytes_len, bytes_get, Nat.reduceEqDiff, Nat.reduceAdd, Nat.reduceMul, Nat.reduceSub, ↓reduceIte, Int.reduceNeg, Int.reduceToNat, hmd, hks, Bool.beq_eq_decide_eq, Int.natCast_zero, Int.add_zero, ge_iff_le, gt_iff_lt, Option.isNone_none, Option.isNone_some, List.nil_append, List.append_nil, Bool.and_true, Bool.and_self, SB, Int.reducePow, hQ]
        simp +decide (maxSteps := 20000000) (disch := omega) only [↓SBK, SGs, S1, S2, S3, SE, SC, SO, ST, SF, SK, bytes_len, bytes_get, Nat.reduceEqDiff, Nat.reduceAdd, Nat.reduceMul, Nat.reduceSub, ↓reduceIte, Int.reduceNeg, Int.reduceToNat, hmd, hks, Bool.beq_eq_decide_eq, Int.natCast_zero, Int.add_zero, ge_iff_le, gt_iff_lt, Option.isNone_none, Option.isNone_some, List.nil_append, List.append_nil, Bool.and_true, Bool.and_self, SB, Int.reducePow, hQ, d1, d2, d3, d4, getE hj]
        rw [e]; rfl
  · have e := readPage_none (pageAt_nb (p := p) h1)
    have d5 : decide (k < 0) = true ∨ decide (k < 0) = false ∧ decide (((c.blocks.length : Nat) : Int) ≤ k) = true := by
      by_cases h : k < 0
      · exact .inl (decide_eq_true h)
      · exact .inr ⟨decide_eq_false h, decide_eq_true (by omega)⟩
    rcases d5 with d3 | ⟨d3, d4⟩
    · refine spec_C hmx p_S_ReadPage [] 207 [] ⟨Nat.le_of_ble_eq_true rfl, Nat.le_of_ble_eq_true rfl⟩ rfl rfl ?_
      intro w hP hmd hks hQ
      unfold c_S_ReadPage
      simp +decide (maxSteps := 20000000) (disch := omega) only [↓SBK, SGs, S1, S2, S3, SE, SC, SO, ST, SF, SK, bytes_len, bytes_get, Nat.reduceEqDiff, Nat.reduceAdd, Nat.reduceMul, Nat.reduceSub, ↓reduceIte, Int.reduceNeg, Int.reduceToNat, hmd, hks, Bool.beq_eq_decide_eq, Int.natCast_zero, Int.add_zero, ge_iff_le, gt_iff_lt, Option.isNone_none, Option.isNone_some, List.nil_append, List.append_nil, Bool.and_true, Bool.and_self, SB, Int.reducePow, hQ]
      simp +decide (maxSteps := 20000000) (disch := omega) only [↓SBK, SGs, S1, S2, S3, SE, SC, SO, ST, SF, SK, bytes_len, bytes_get, Nat.reduceEqDiff, Nat.reduceAdd, Nat.reduceMul, Nat.reduceSub, ↓reduceIte, Int.reduceNeg, Int.reduceToNat, hmd, hks, Bool.beq_eq_decide_eq, Int.natCast_zero, Int.add_zero, ge_iff_le, gt_iff_lt, Option.isNone_none, Option.isNone_some, List.nil_append, List.append_nil, Bool.and_true, Bool.and_self, SB, Int.reducePow, hQ, d3]
      rw [e]; rfl
    · refine spec_C hmx p_S_ReadPage [] 207 [] ⟨Nat.le_of_ble_eq_true rfl, Nat.le_of_ble_eq_true rfl⟩ rfl rfl ?_
      intro w hP hmd hks hQ
      unfold c_S_ReadPage
      simp +decide (maxSteps := 20000000) (disch := omega) only [↓SBK, SGs, S1, S2, S3, SE, SC, SO, ST, SF, SK, bytes_len, bytes_get, Nat.reduceEqDiff, Nat.reduceAdd, Nat.reduceMul, Nat.reduceSub, ↓reduceIte, Int.reduceNeg, Int.reduceToNat, hmd, hks, Bool.beq_eq_decide_eq, Int.natCast_zero, Int.add_zero, ge_iff_le, gt_iff_lt, Option.isNone_none, Option.isNone_some, List.nil_append, List.append_nil, Bool.and_true, Bool.and_self, SB, Int.reducePow, hQ]
      simp +decide (maxSteps := 20000000) (disch := omega) only [↓SBK, SGs, S1, S2, S3, SE, SC, SO, ST, SF, SK, bytes_len, bytes_get, Nat.reduceEqDiff, Nat.reduceAdd, Nat.reduceMul, Nat.reduceSub, ↓reduceIte, Int.reduceNeg, Int.reduceToNat, hmd, hks, Bool.beq_eq_decide_eq, Int.natCast_zero, Int.add_zero, ge_iff_le, gt_iff_lt, Option.isNone_none, Option.isNone_some, List.nil_append, List.append_nil, Bool.and_true, Bool.and_self, SB, Int.reducePow, hQ, d3, d4]
      rw [e]; rfl
end Go.Proofs.Ytliklgcfdgdigaa.Awp

namespace Go.Proofs.Ytliklgcfdgdigaa.Awp
open Go.Proofs
set_option linter.unusedSimpArgs false
set_option linter.unusedVariables false
set_option maxRecDepth 100000
set_option maxHeartbeats 20000000

theorem sum_plus {α : Type} (f g : α → Nat) (a : Nat) (h : ∀ x, f x = a + g x) : ∀ l : List α, (l.map f).sum = l.length * a + (l.map g).sum := by
  intro l
  induction l with
  | nil => simp
  | cons x l ih => simp only [List.map_cons, List.sum_cons, List.length_cons, ih, h, Nat.succ_mul]; omega
theorem blk_cnt (b : Block) : b.cnt = 2 + b.sz := by
  have := sum_plus Page.cnt Page.sz 1 (fun p => rfl) b.pages
  simp only [Block.cnt, Block.sz, cntM, szM]
  omega
theorem chip_cnt (c : Chip) : c.cntT ≤ 2 * c.sz := by
  have := sum_plus Block.cnt Block.sz 2 blk_cnt c.blocks
  simp only [Chip.cntT, Chip.sz, cntM, szM]
  omega
theorem readPage_len' (c : Chip) (k p : Int) {n : Nat} (hs : c.sz < n) : (readPage c k p).1.length < n := by
  have key : ∀ q, pageAt c k p = some q → q.b.length ≤ c.sz := by
    intro q hq
    unfold pageAt blk? at hq
    split at hq
    · obtain ⟨b, hb, hq⟩ := Option.bind_eq_some_iff.1 hq
      split at hq
      · have h1 := sum_mem (f := Block.sz) (List.mem_of_getElem? hb)
        have h2 := sum_mem (f := Page.sz) (List.mem_of_getElem? hq)
        have h3 : b.sz = b.pages.length + (b.pages.map Page.sz).sum := rfl
        have h4 : q.sz = q.b.length := rfl
        have h5 : c.sz = c.blocks.length + (c.blocks.map Block.sz).sum := rfl
        omega
      · cases hq
    · cases hq
  cases hq : pageAt c k p with
  | none => rw [readPage_none hq]; simp; omega
  | some q =>
    rw [readPage_some hq]
    have := key q hq
    split
    · simp only; omega
    · simp; omega
theorem s_FnExactReadPage (r : Chip) (i j : Int) (hf : r.fine) : Spec Try.prog 13 [r.x, .int .i64 i, .int .i64 j] (.bool true) [.undef, .undef, .undef] := by
  by_cases hz : (1048576 : Int) < (r.sz : Nat)
  · refine spec_C hmx p_L_FnExactReadPage [] 262095 [] ⟨Nat.le_of_ble_eq_true rfl, Nat.le_of_ble_eq_true rfl⟩ rfl rfl ?_
    intro w hP hmd hks hQ
    unfold c_L_FnExactReadPage
    simp +decide (maxSteps := 20000000) (disch := omega) only [↓SBK, SGs, S1, S2, S3, SE, SC, SO, ST, SF, SK, bytes_len, bytes_get, Nat.reduceEqDiff, Nat.reduceAdd, Nat.reduceMul, Nat.reduceSub, ↓reduceIte, Int.reduceNeg, Int.reduceToNat, hmd, hks, Bool.beq_eq_decide_eq, Int.natCast_zero, Int.add_zero, ge_iff_le, gt_iff_lt, Option.isNone_none, Option.isNone_some, List.nil_append, List.append_nil, Bool.and_true, Bool.and_self, SB, Int.reducePow, hQ]
    (first | refine call_i hP (s_szChip r 1048576 hf (by omega) (by omega)) (.inl ⟨rfl, fun _ hx => nomatch hx⟩) ?_ | refine callH_i hP (s_szChip r 1048576 hf (by omega) (by omega)) (.inl ⟨rfl, fun _ hx => nomatch hx⟩) ?_)
    simp +decide (maxSteps := 20000000) (disch := omega) only [↓SBK, SGs, S1, S2, S3, SE, SC, SO, ST, SF, SK, bytes_len, bytes_get, Nat.reduceEqDiff, Nat.reduceAdd, Nat.reduceMul, Nat.reduceSub, ↓reduceIte, Int.reduceNeg, Int.reduceToNat, hmd, hks, Bool.beq_eq_decide_eq, Int.natCast_zero, Int.add_zero, ge_iff_le, gt_iff_lt, Option.isNone_none, Option.isNone_some, List.nil_append, List.append_nil, Bool.and_true, Bool.and_self, SB, Int.reducePow, hQ, szC_lt hz]
  · have hs : r.sz < 2 ^ 40 := by omega
    have hp := readPage_len' r i j (n := 2 ^ 30) (by omega)
    have hd : r.cntT < 2 ^ 38 := by have := chip_cnt r; omega
    have g0 : decide (1 + ((r.cntT : Nat) : Int) < 0) = false := decide_eq_false (by omega)
    have g1 : decide (1 + (((readPage r i j).1.length : Nat) : Int) < 0) = false := decide_eq_false (by omega)
    refine spec_C hmx p_L_FnExactReadPage [(51, [.p, .b]), (46, [.l, .b])] 262095 [] ⟨Nat.le_of_ble_eq_true rfl, Nat.le_of_ble_eq_true rfl⟩ rfl rfl ?_
    intro w hP hmd hks hQ
    unfold c_L_FnExactReadPage
    simp +decide (maxSteps := 20000000) (disch := omega) only [↓SBK, SGs, S1, S2, S3, SE, SC, SO, ST, SF, SK, bytes_len, bytes_get, Nat.reduceEqDiff, Nat.reduceAdd, Nat.reduceMul, Nat.reduceSub, ↓reduceIte, Int.reduceNeg, Int.reduceToNat, hmd, hks, Bool.beq_eq_decide_eq, Int.natCast_zero, Int.add_zero, ge_iff_le, gt_iff_lt, Option.isNone_none, Option.isNone_some, List.nil_append, List.append_nil, Bool.and_true, Bool.and_self, SB, Int.reducePow, hQ]
    (first | refine call_i hP (s_szChip r 1048576 hf (by omega) (by omega)) (.inl ⟨rfl, fun _ hx => nomatch hx⟩) ?_ | refine callH_i hP (s_szChip r 1048576 hf (by omega) (by omega)) (.inl ⟨rfl, fun _ hx => nomatch hx⟩) ?_)
    simp +decide (maxSteps := 20000000) (disch := omega) only [↓SBK, SGs, S1, S2, S3, SE, SC, SO, ST, SF, SK, bytes_len, bytes_get, Nat.reduceEqDiff, Nat.reduceAdd, Nat.reduceMul, Nat.reduceSub, ↓reduceIte, Int.reduceNeg, Int.reduceToNat, hmd, hks, Bool.beq_eq_decide_eq, Int.natCast_zero, Int.add_zero, ge_iff_le, gt_iff_lt, Option.isNone_none, Option.isNone_some, List.nil_append, List.append_nil, Bool.and_true, Bool.and_self, SB, Int.reducePow, hQ, szC_ge hz]
    (first | with_reducible refine if_d _ ?_ ?_ | refine if_i _ ?_ ?_) <;> intro h
    · exfalso; omega
    simp +decide (maxSteps := 20000000) (disch := omega) only [↓SBK, SGs, S1, S2, S3, SE, SC, SO, ST, SF, SK, bytes_len, bytes_get, Nat.reduceEqDiff, Nat.reduceAdd, Nat.reduceMul, Nat.reduceSub, ↓reduceIte, Int.reduceNeg, Int.reduceToNat, hmd, hks, Bool.beq_eq_decide_eq, Int.natCast_zero, Int.add_zero, ge_iff_le, gt_iff_lt, Option.isNone_none, Option.isNone_some, List.nil_append, List.append_nil, Bool.and_true, Bool.and_self, SB, Int.reducePow, hQ]
    (first | refine call_i hP (s_toChip r hs) (.inl ⟨rfl, fun _ hx => nomatch hx⟩) ?_ | refine callH_i hP (s_toChip r hs) (.inl ⟨rfl, fun _ hx => nomatch hx⟩) ?_)
    simp +decide (maxSteps := 20000000) (disch := omega) only [↓SBK, SGs, S1, S2, S3, SE, SC, SO, ST, SF, SK, bytes_len, bytes_get, Nat.reduceEqDiff, Nat.reduceAdd, Nat.reduceMul, Nat.reduceSub, ↓reduceIte, Int.reduceNeg, Int.reduceToNat, hmd, hks, Bool.beq_eq_decide_eq, Int.natCast_zero, Int.add_zero, ge_iff_le, gt_iff_lt, Option.isNone_none, Option.isNone_some, List.nil_append, List.append_nil, Bool.and_true, Bool.and_self, SB, Int.reducePow, hQ]
    (first | refine call_i hP (sS_ReadPage r i j hs) (.inl ⟨rfl, fun _ hx => nomatch hx⟩) ?_ | refine callH_i hP (sS_ReadPage r i j hs) (.inl ⟨rfl, fun _ hx => nomatch hx⟩) ?_)
    simp +decide (maxSteps := 20000000) (disch := omega) only [↓SBK, SGs, S1, S2, S3, SE, SC, SO, ST, SF, SK, bytes_len, bytes_get, Nat.reduceEqDiff, Nat.reduceAdd, Nat.reduceMul, Nat.reduceSub, ↓reduceIte, Int.reduceNeg, Int.reduceToNat, hmd, hks, Bool.beq_eq_decide_eq, Int.natCast_zero, Int.add_zero, ge_iff_le, gt_iff_lt, Option.isNone_none, Option.isNone_some, List.nil_append, List.append_nil, Bool.and_true, Bool.and_self, SB, Int.reducePow, hQ]
    (first | refine call_i hP (s_toChip r hs) (.inl ⟨rfl, fun _ hx => nomatch hx⟩) ?_ | refine callH_i hP (s_toChip r hs) (.inl ⟨rfl, fun _ hx => nomatch hx⟩) ?_)
    simp +decide (maxSteps := 20000000) (disch := omega) only [↓SBK, SGs, S1, S2, S3, SE, SC, SO, ST, SF, SK, bytes_len, bytes_get, Nat.reduceEqDiff, Nat.reduceAdd, Nat.reduceMul, Nat.reduceSub, ↓reduceIte, Int.reduceNeg, Int.reduceToNat, hmd, hks, Bool.beq_eq_decide_eq, Int.natCast_zero, Int.add_zero, ge_iff_le, gt_iff_lt, Option.isNone_none, Option.isNone_some, List.nil_append, List.append_nil, Bool.and_true, Bool.and_self, SB, Int.reducePow, hQ]
    (first | refine call_i hP (sI_ReadPage r i j hs) (.inl ⟨rfl, fun _ hx => nomatch hx⟩) ?_ | refine callH_i hP (sI_ReadPage r i j hs) (.inl ⟨rfl, fun _ hx => nomatch hx⟩) ?_)
    simp +decide (maxSteps := 20000000) (disch := omega) only [↓SBK, SGs, S1, S2, S3, SE, SC, SO, ST, SF, SK, bytes_len, bytes_get, Nat.reduceEqDiff, Nat.reduceAdd, Nat.reduceMul, Nat.reduceSub, ↓reduceIte, Int.reduceNeg, Int.reduceToNat, hmd, hks, Bool.beq_eq_decide_eq, Int.natCast_zero, Int.add_zero, ge_iff_le, gt_iff_lt, Option.isNone_none, Option.isNone_some, List.nil_append, List.append_nil, Bool.and_true, Bool.and_self, SB, Int.reducePow, hQ]
    (first | refine call_i hP (eqByteS_self (readPage r i j).1 (by omega)) (.inl ⟨rfl, fun _ hx => nomatch hx⟩) ?_ | refine callH_i hP (eqByteS_self (readPage r i j).1 (by omega)) (.inl ⟨rfl, fun _ hx => nomatch hx⟩) ?_)
    simp +decide (maxSteps := 20000000) (disch := omega) only [↓SBK, SGs, S1, S2, S3, SE, SC, SO, ST, SF, SK, bytes_len, bytes_get, Nat.reduceEqDiff, Nat.reduceAdd, Nat.reduceMul, Nat.reduceSub, ↓reduceIte, Int.reduceNeg, Int.reduceToNat, hmd, hks, Bool.beq_eq_decide_eq, Int.natCast_zero, Int.add_zero, ge_iff_le, gt_iff_lt, Option.isNone_none, Option.isNone_some, List.nil_append, List.append_nil, Bool.and_true, Bool.and_self, SB, Int.reducePow, hQ]
    (first | refine call_i hP (s_toChip r hs) (.inl ⟨rfl, fun _ hx => nomatch hx⟩) ?_ | refine callH_i hP (s_toChip r hs) (.inl ⟨rfl, fun _ hx => nomatch hx⟩) ?_)
    simp +decide (maxSteps := 20000000) (disch := omega) only [↓SBK, SGs, S1, S2, S3, SE, SC, SO, ST, SF, SK, bytes_len, bytes_get, Nat.reduceEqDiff, Nat.reduceAdd, Nat.reduceMul, Nat.reduceSub, ↓reduceIte, Int.reduceNeg, Int.reduceToNat, hmd, hks, Bool.beq_eq_decide_eq, Int.natCast_zero, Int.add_zero, ge_iff_le, gt_iff_lt, Option.isNone_none, Option.isNone_some, List.nil_append, List.append_nil, Bool.and_true, Bool.and_self, SB, Int.reducePow, hQ]
    (first | refine call_i hP (eqChip_self r hs) (.inl ⟨rfl, fun _ hx => nomatch hx⟩) ?_ | refine callH_i hP (eqChip_self r hs) (.inl ⟨rfl, fun _ hx => nomatch hx⟩) ?_)
    simp +decide (maxSteps := 20000000) (disch := omega) only [↓SBK, SGs, S1, S2, S3, SE, SC, SO, ST, SF, SK, bytes_len, bytes_get, Nat.reduceEqDiff, Nat.reduceAdd, Nat.reduceMul, Nat.reduceSub, ↓reduceIte, Int.reduceNeg, Int.reduceToNat, hmd, hks, Bool.beq_eq_decide_eq, Int.natCast_zero, Int.add_zero, ge_iff_le, gt_iff_lt, Option.isNone_none, Option.isNone_some, List.nil_append, List.append_nil, Bool.and_true, Bool.and_self, SB, Int.reducePow, hQ]
    (first | refine call_i hP (s_markChip r 1 (by omega) (by omega)) (.inl ⟨rfl, fun _ hx => nomatch hx⟩) ?_ | refine callH_i hP (s_markChip r 1 (by omega) (by omega)) (.inl ⟨rfl, fun _ hx => nomatch hx⟩) ?_)
    simp +decide (maxSteps := 20000000) (disch := omega) only [↓SBK, SGs, S1, S2, S3, SE, SC, SO, ST, SF, SK, bytes_len, bytes_get, Nat.reduceEqDiff, Nat.reduceAdd, Nat.reduceMul, Nat.reduceSub, ↓reduceIte, Int.reduceNeg, Int.reduceToNat, hmd, hks, Bool.beq_eq_decide_eq, Int.natCast_zero, Int.add_zero, ge_iff_le, gt_iff_lt, Option.isNone_none, Option.isNone_some, List.nil_append, List.append_nil, Bool.and_true, Bool.and_self, SB, Int.reducePow, hQ, g0]
    (first | refine call_i hP (eqByteS_self (readPage r i j).1 (by omega)) (.inl ⟨rfl, fun _ hx => nomatch hx⟩) ?_ | refine callH_i hP (eqByteS_self (readPage r i j).1 (by omega)) (.inl ⟨rfl, fun _ hx => nomatch hx⟩) ?_)
    simp +decide (maxSteps := 20000000) (disch := omega) only [↓SBK, SGs, S1, S2, S3, SE, SC, SO, ST, SF, SK, bytes_len, bytes_get, Nat.reduceEqDiff, Nat.reduceAdd, Nat.reduceMul, Nat.reduceSub, ↓reduceIte, Int.reduceNeg, Int.reduceToNat, hmd, hks, Bool.beq_eq_decide_eq, Int.natCast_zero, Int.add_zero, ge_iff_le, gt_iff_lt, Option.isNone_none, Option.isNone_some, List.nil_append, List.append_nil, Bool.and_true, Bool.and_self, SB, Int.reducePow, hQ]
    (first | refine call_i hP (s_markByteS (readPage r i j).1 1 (by omega) (by omega)) (.inl ⟨rfl, fun _ hx => nomatch hx⟩) ?_ | refine callH_i hP (s_markByteS (readPage r i j).1 1 (by omega) (by omega)) (.inl ⟨rfl, fun _ hx => nomatch hx⟩) ?_)
    simp +decide (maxSteps := 20000000) (disch := omega) only [↓SBK, SGs, S1, S2, S3, SE, SC, SO, ST, SF, SK, bytes_len, bytes_get, Nat.reduceEqDiff, Nat.reduceAdd, Nat.reduceMul, Nat.reduceSub, ↓reduceIte, Int.reduceNeg, Int.reduceToNat, hmd, hks, Bool.beq_eq_decide_eq, Int.natCast_zero, Int.add_zero, ge_iff_le, gt_iff_lt, Option.isNone_none, Option.isNone_some, List.nil_append, List.append_nil, Bool.and_true, Bool.and_self, SB, Int.reducePow, hQ]
    (first | refine call_i hP (s_heldByteS (readPage r i j).1 1 (by omega) (by omega)) (.inl ⟨rfl, fun _ hx => nomatch hx⟩) ?_ | refine callH_i hP (s_heldByteS (readPage r i j).1 1 (by omega) (by omega)) (.inl ⟨rfl, fun _ hx => nomatch hx⟩) ?_)
    simp +decide (maxSteps := 20000000) (disch := omega) only [↓SBK, SGs, S1, S2, S3, SE, SC, SO, ST, SF, SK, bytes_len, bytes_get, Nat.reduceEqDiff, Nat.reduceAdd, Nat.reduceMul, Nat.reduceSub, ↓reduceIte, Int.reduceNeg, Int.reduceToNat, hmd, hks, Bool.beq_eq_decide_eq, Int.natCast_zero, Int.add_zero, ge_iff_le, gt_iff_lt, Option.isNone_none, Option.isNone_some, List.nil_append, List.append_nil, Bool.and_true, Bool.and_self, SB, Int.reducePow, hQ, g1]
    (first | refine call_i hP (s_toChip r hs) (.inl ⟨rfl, fun _ hx => nomatch hx⟩) ?_ | refine callH_i hP (s_toChip r hs) (.inl ⟨rfl, fun _ hx => nomatch hx⟩) ?_)
    simp +decide (maxSteps := 20000000) (disch := omega) only [↓SBK, SGs, S1, S2, S3, SE, SC, SO, ST, SF, SK, bytes_len, bytes_get, Nat.reduceEqDiff, Nat.reduceAdd, Nat.reduceMul, Nat.reduceSub, ↓reduceIte, Int.reduceNeg, Int.reduceToNat, hmd, hks, Bool.beq_eq_decide_eq, Int.natCast_zero, Int.add_zero, ge_iff_le, gt_iff_lt, Option.isNone_none, Option.isNone_some, List.nil_append, List.append_nil, Bool.and_true, Bool.and_self, SB, Int.reducePow, hQ]
    (first | refine call_i hP (sI_ReadPage r i j hs) (.inl ⟨rfl, fun _ hx => nomatch hx⟩) ?_ | refine callH_i hP (sI_ReadPage r i j hs) (.inl ⟨rfl, fun _ hx => nomatch hx⟩) ?_)
    simp +decide (maxSteps := 20000000) (disch := omega) only [↓SBK, SGs, S1, S2, S3, SE, SC, SO, ST, SF, SK, bytes_len, bytes_get, Nat.reduceEqDiff, Nat.reduceAdd, Nat.reduceMul, Nat.reduceSub, ↓reduceIte, Int.reduceNeg, Int.reduceToNat, hmd, hks, Bool.beq_eq_decide_eq, Int.natCast_zero, Int.add_zero, ge_iff_le, gt_iff_lt, Option.isNone_none, Option.isNone_some, List.nil_append, List.append_nil, Bool.and_true, Bool.and_self, SB, Int.reducePow, hQ]
    (first | refine call_i hP (eqByteS_self (readPage r i j).1 (by omega)) (.inl ⟨rfl, fun _ hx => nomatch hx⟩) ?_ | refine callH_i hP (eqByteS_self (readPage r i j).1 (by omega)) (.inl ⟨rfl, fun _ hx => nomatch hx⟩) ?_)
    simp +decide (maxSteps := 20000000) (disch := omega) only [↓SBK, SGs, S1, S2, S3, SE, SC, SO, ST, SF, SK, bytes_len, bytes_get, Nat.reduceEqDiff, Nat.reduceAdd, Nat.reduceMul, Nat.reduceSub, ↓reduceIte, Int.reduceNeg, Int.reduceToNat, hmd, hks, Bool.beq_eq_decide_eq, Int.natCast_zero, Int.add_zero, ge_iff_le, gt_iff_lt, Option.isNone_none, Option.isNone_some, List.nil_append, List.append_nil, Bool.and_true, Bool.and_self, SB, Int.reducePow, hQ]
    (first | refine call_i hP (s_heldByteS (readPage r i j).1 1 (by omega) (by omega)) (.inl ⟨rfl, fun _ hx => nomatch hx⟩) ?_ | refine callH_i hP (s_heldByteS (readPage r i j).1 1 (by omega) (by omega)) (.inl ⟨rfl, fun _ hx => nomatch hx⟩) ?_)
    simp +decide (maxSteps := 20000000) (disch := omega) only [↓SBK, SGs, S1, S2, S3, SE, SC, SO, ST, SF, SK, bytes_len, bytes_get, Nat.reduceEqDiff, Nat.reduceAdd, Nat.reduceMul, Nat.reduceSub, ↓reduceIte, Int.reduceNeg, Int.reduceToNat, hmd, hks, Bool.beq_eq_decide_eq, Int.natCast_zero, Int.add_zero, ge_iff_le, gt_iff_lt, Option.isNone_none, Option.isNone_some, List.nil_append, List.append_nil, Bool.and_true, Bool.and_self, SB, Int.reducePow, hQ, g1]
end Go.Proofs.Ytliklgcfdgdigaa.Awp

namespace Go.Proofs.Ytliklgcfdgdigaa.Awp
open Go.Proofs
set_option linter.unusedSimpArgs false
set_option linter.unusedVariables false

/-! ### what is read of an argument is a value of its type -/
theorem Shp.nil_inv {ts : List TV} (h : Shp [] ts) : ts = [] := by cases h; rfl
theorem Shp.bool_inv {ys : List Ty} {ts : List TV} (h : Shp (.bool :: ys) ts) : ∃ b us, ts = .bool b :: us ∧ Shp ys us := by cases h with | bool b _ us h => exact ⟨b, us, rfl, h⟩
theorem Shp.int_inv {k : IntKind} {ys : List Ty} {ts : List TV} (h : Shp (.int k :: ys) ts) : ∃ n us, ts = .int k n :: us ∧ Shp ys us := by cases h with | int _ n _ us _ h => exact ⟨n, us, rfl, h⟩
theorem Shp.str_inv {ys : List Ty} {ts : List TV} (h : Shp (.str :: ys) ts) : ∃ s us, ts = .str s :: us ∧ s.length ≤ 2 ^ 47 ∧ Shp ys us := by cases h with | str s _ us hs h => exact ⟨s, us, rfl, hs, h⟩
theorem Shp.sl_inv {s : Nat} {e ys : List Ty} {ts : List TV} (h : Shp (.sl s e :: ys) ts) : ∃ es us, ts = .sl s es :: us ∧ es.length ≤ 2 ^ 47 ∧ (∀ r ∈ es, Shp e r) ∧ Shp ys us := by
  cases h with | sl _ _ es _ us hl he h => exact ⟨es, us, rfl, hl, he, h⟩
theorem rows_ofShp {α : Type} {sh : List Ty} {row : α → List TV} {good : α → Prop} (H : ∀ ts, Shp sh ts → ∃ x, ts = row x ∧ good x) : ∀ {es : List (List TV)}, (∀ r ∈ es, Shp sh r) → ∃ l : List α, es = l.map row ∧ ∀ x ∈ l, good x := by
  intro es
  induction es with
  | nil => intro _; exact ⟨[], rfl, by simp⟩
  | cons r es ih =>
    intro h
    obtain ⟨x, rfl, hx⟩ := H r (h r (by simp))
    obtain ⟨l, rfl, hl⟩ := ih fun r hr => h r (by simp [hr])
    exact ⟨x :: l, rfl, fun y hy => by rcases List.mem_cons.1 hy with rfl | hy; exact hx; exact hl y hy⟩
theorem byte_ofShp (ts : List TV) (h : Shp [.int .u8] ts) : ∃ x : UInt8, ts = byteRow x ∧ True := by
  cases h with
  | int _ n _ us hn h =>
    cases h
    obtain ⟨h1, h2⟩ := bounds_u8 hn
    refine ⟨UInt8.ofNat n.toNat, ?_, trivial⟩
    have : (UInt8.ofNat n.toNat).toNat = n.toNat := by simp; omega
    simp only [byteRow, this]
    congr 2
    omega
theorem bytes_ofShp {es : List (List TV)} (h : ∀ r ∈ es, Shp [.int .u8] r) : ∃ b : Bytes, es = bytesR b := by
  obtain ⟨l, rfl, _⟩ := rows_ofShp byte_ofShp h
  exact ⟨l, rfl⟩
theorem len_ofs {s : Bytes} (h : s.length ≤ 2 ^ 47) : s.length < 2 ^ 48 := Nat.lt_of_le_of_lt h (by decide)
theorem len_ofb {b : Bytes} (h : (bytesR b).length ≤ 2 ^ 47) : b.length < 2 ^ 48 := Nat.lt_of_le_of_lt (by simpa [bytesR] using h) (by decide)
theorem len_ofl {α β : Type} {f : α → β} {l : List α} (h : (l.map f).length ≤ 2 ^ 47) : l.length < 2 ^ 48 := Nat.lt_of_le_of_lt (by simpa using h) (by decide)

def Page.shape : List Ty := [.bool, .sl 1 [.int .u8]]
theorem Page.ofShp (ts : List TV) (h : Shp Page.shape ts) : ∃ x : Page, ts = x.row ∧ x.fine := by
  obtain ⟨v_used, u0, rfl, h1⟩ := Shp.bool_inv h
  obtain ⟨r1, u1, rfl, lv_b, e1, h2⟩ := Shp.sl_inv h1
  obtain ⟨v_b, rfl⟩ := bytes_ofShp e1
  obtain rfl := Shp.nil_inv h2
  exact ⟨{ used := v_used, b := v_b }, rfl, len_ofb lv_b⟩
def Block.shape : List Ty := [.sl 2 Page.shape, .int .i64, .bool]
theorem Block.ofShp (ts : List TV) (h : Shp Block.shape ts) : ∃ x : Block, ts = x.row ∧ x.fine := by
  obtain ⟨r0, u0, rfl, lv_pages, e0, h1⟩ := Shp.sl_inv h
  obtain ⟨v_pages, rfl, gv_pages⟩ := rows_ofShp Page.ofShp e0
  obtain ⟨v_wear, u1, rfl, h2⟩ := Shp.int_inv h1
  obtain ⟨v_bad, u2, rfl, h3⟩ := Shp.bool_inv h2
  obtain rfl := Shp.nil_inv h3
  exact ⟨{ pages := v_pages, wear := v_wear, bad := v_bad }, rfl, ⟨len_ofl lv_pages, gv_pages⟩⟩
def Chip.shape : List Ty := [.sl 3 Block.shape]
theorem Chip.ofShp (ts : List TV) (h : Shp Chip.shape ts) : ∃ x : Chip, ts = x.row ∧ x.fine := by
  obtain ⟨r0, u0, rfl, lv_blocks, e0, h1⟩ := Shp.sl_inv h
  obtain ⟨v_blocks, rfl, gv_blocks⟩ := rows_ofShp Block.ofShp e0
  obtain rfl := Shp.nil_inv h1
  exact ⟨{ blocks := v_blocks }, rfl, ⟨len_ofl lv_blocks, gv_blocks⟩⟩
def Fault.shape : List Ty := [.int .i64, .int .i64, .int .i64]
theorem Fault.ofShp (ts : List TV) (h : Shp Fault.shape ts) : ∃ x : Fault, ts = x.row ∧ x.fine := by
  obtain ⟨v_at', u0, rfl, h1⟩ := Shp.int_inv h
  obtain ⟨v_kind, u1, rfl, h2⟩ := Shp.int_inv h1
  obtain ⟨v_keep, u2, rfl, h3⟩ := Shp.int_inv h2
  obtain rfl := Shp.nil_inv h3
  exact ⟨{ at' := v_at', kind := v_kind, keep := v_keep }, rfl, trivial⟩
def Dev.shape : List Ty := [.sl 3 Block.shape, .int .i64, .sl 3 Fault.shape, .bool]
theorem Dev.ofShp (ts : List TV) (h : Shp Dev.shape ts) : ∃ x : Dev, ts = x.row ∧ x.fine := by
  obtain ⟨r0, u0, rfl, lv_c_blocks, e0, h1⟩ := Shp.sl_inv h
  obtain ⟨v_c_blocks, rfl, gv_c_blocks⟩ := rows_ofShp Block.ofShp e0
  obtain ⟨v_ops, u1, rfl, h2⟩ := Shp.int_inv h1
  obtain ⟨r2, u2, rfl, lv_faults, e2, h3⟩ := Shp.sl_inv h2
  obtain ⟨v_faults, rfl, gv_faults⟩ := rows_ofShp Fault.ofShp e2
  obtain ⟨v_down, u3, rfl, h4⟩ := Shp.bool_inv h3
  obtain rfl := Shp.nil_inv h4
  exact ⟨{ c := { blocks := v_c_blocks }, ops := v_ops, faults := v_faults, down := v_down }, rfl, ⟨⟨len_ofl lv_c_blocks, gv_c_blocks⟩, len_ofl lv_faults⟩⟩
def Rec.shape : List Ty := [.int .i64, .int .i64, .sl 1 [.int .u8]]
theorem Rec.ofShp (ts : List TV) (h : Shp Rec.shape ts) : ∃ x : Rec, ts = x.row ∧ x.fine := by
  obtain ⟨v_kind, u0, rfl, h1⟩ := Shp.int_inv h
  obtain ⟨v_seq, u1, rfl, h2⟩ := Shp.int_inv h1
  obtain ⟨r2, u2, rfl, lv_body, e2, h3⟩ := Shp.sl_inv h2
  obtain ⟨v_body, rfl⟩ := bytes_ofShp e2
  obtain rfl := Shp.nil_inv h3
  exact ⟨{ kind := v_kind, seq := v_seq, body := v_body }, rfl, len_ofb lv_body⟩
def Op.shape : List Ty := [.int .i64, .int .i64, .str, .str, .int .i64, .sl 1 [.int .u8]]
theorem Op.ofShp (ts : List TV) (h : Shp Op.shape ts) : ∃ x : Op, ts = x.row ∧ x.fine := by
  obtain ⟨v_kind, u0, rfl, h1⟩ := Shp.int_inv h
  obtain ⟨v_vol, u1, rfl, h2⟩ := Shp.int_inv h1
  obtain ⟨v_path, u2, rfl, lv_path, h3⟩ := Shp.str_inv h2
  obtain ⟨v_to', u3, rfl, lv_to', h4⟩ := Shp.str_inv h3
  obtain ⟨v_off, u4, rfl, h5⟩ := Shp.int_inv h4
  obtain ⟨r5, u5, rfl, lv_data, e5, h6⟩ := Shp.sl_inv h5
  obtain ⟨v_data, rfl⟩ := bytes_ofShp e5
  obtain rfl := Shp.nil_inv h6
  exact ⟨{ kind := v_kind, vol := v_vol, path := v_path, to' := v_to', off := v_off, data := v_data }, rfl, ⟨len_ofs lv_path, len_ofs lv_to', len_ofb lv_data⟩⟩
def Log.shape : List Ty := [.sl 3 Block.shape, .int .i64, .sl 3 Fault.shape, .bool, .int .i64]
theorem Log.ofShp (ts : List TV) (h : Shp Log.shape ts) : ∃ x : Log, ts = x.row ∧ x.fine := by
  obtain ⟨r0, u0, rfl, lv_d_c_blocks, e0, h1⟩ := Shp.sl_inv h
  obtain ⟨v_d_c_blocks, rfl, gv_d_c_blocks⟩ := rows_ofShp Block.ofShp e0
  obtain ⟨v_d_ops, u1, rfl, h2⟩ := Shp.int_inv h1
  obtain ⟨r2, u2, rfl, lv_d_faults, e2, h3⟩ := Shp.sl_inv h2
  obtain ⟨v_d_faults, rfl, gv_d_faults⟩ := rows_ofShp Fault.ofShp e2
  obtain ⟨v_d_down, u3, rfl, h4⟩ := Shp.bool_inv h3
  obtain ⟨v_seq, u4, rfl, h5⟩ := Shp.int_inv h4
  obtain rfl := Shp.nil_inv h5
  exact ⟨{ d := { c := { blocks := v_d_c_blocks }, ops := v_d_ops, faults := v_d_faults, down := v_d_down }, seq := v_seq }, rfl, ⟨⟨len_ofl lv_d_c_blocks, gv_d_c_blocks⟩, len_ofl lv_d_faults⟩⟩
end Go.Proofs.Ytliklgcfdgdigaa.Awp

namespace Go.Proofs.Ytliklgcfdgdigaa.Awp
open Go.Proofs Go.Proofs.Ytliklgcfdgdigaa
set_option linter.unusedSimpArgs false
set_option linter.unusedVariables false
set_option maxRecDepth 100000

theorem own : ownKnob Try.prog.godebug = none := by kernel_rfl
/-- how the text of the program's start goes on -/
def ioTail : List Char := [Char.ofNat 97, Char.ofNat 116, Char.ofNat 32, Char.ofNat 108, Char.ofNat 111, Char.ofNat 111, Char.ofNat 112, Char.ofNat 46, Char.ofNat 101, Char.ofNat 120, Char.ofNat 97, Char.ofNat 109, Char.ofNat 112, Char.ofNat 108, Char.ofNat 101, Char.ofNat 47, Char.ofNat 103, Char.ofNat 48, Char.ofNat 48, Char.ofNat 50, Char.ofNat 56, Char.ofNat 53, Char.ofNat 47, Char.ofNat 108, Char.ofNat 97, Char.ofNat 119, Char.ofNat 115, Char.ofNat 46, Char.ofNat 70, Char.ofNat 110, Char.ofNat 69, Char.ofNat 120, Char.ofNat 97, Char.ofNat 99, Char.ofNat 116, Char.ofNat 82, Char.ofNat 101, Char.ofNat 99, Char.ofNat 79, Char.ofNat 107, Char.ofNat 32, Char.ofNat 108, Char.ofNat 111, Char.ofNat 111, Char.ofNat 112, Char.ofNat 46, Char.ofNat 101, Char.ofNat 120, Char.ofNat 97, Char.ofNat 109, Char.ofNat 112, Char.ofNat 108, Char.ofNat 101, Char.ofNat 47, Char.ofNat 103, Char.ofNat 48, Char.ofNat 48, Char.ofNat 50, Char.ofNat 56, Char.ofNat 53] ++ [Char.ofNat 47, Char.ofNat 108, Char.ofNat 97, Char.ofNat 119, Char.ofNat 115, Char.ofNat 46, Char.ofNat 70, Char.ofNat 110, Char.ofNat 69, Char.ofNat 120, Char.ofNat 97, Char.ofNat 99, Char.ofNat 116, Char.ofNat 67, Char.ofNat 104, Char.ofNat 97, Char.ofNat 110, Char.ofNat 103, Char.ofNat 101, Char.ofNat 115, Char.ofNat 32, Char.ofNat 108, Char.ofNat 111, Char.ofNat 111, Char.ofNat 112, Char.ofNat 46, Char.ofNat 101, Char.ofNat 120, Char.ofNat 97, Char.ofNat 109, Char.ofNat 112, Char.ofNat 108, Char.ofNat 101, Char.ofNat 47, Char.ofNat 103, Char.ofNat 48, Char.ofNat 48, Char.ofNat 50, Char.ofNat 56, Char.ofNat 53, Char.ofNat 47, Char.ofNat 108, Char.ofNat 97, Char.ofNat 119, Char.ofNat 115, Char.ofNat 46, Char.ofNat 70, Char.ofNat 110, Char.ofNat 69, Char.ofNat 120, Char.ofNat 97, Char.ofNat 99, Char.ofNat 116, Char.ofNat 80, Char.ofNat 117, Char.ofNat 116, Char.ofNat 79, Char.ofNat 112, Char.ofNat 32, Char.ofNat 108] ++ [Char.ofNat 111, Char.ofNat 111, Char.ofNat 112, Char.ofNat 46, Char.ofNat 101, Char.ofNat 120, Char.ofNat 97, Char.ofNat 109, Char.ofNat 112, Char.ofNat 108, Char.ofNat 101, Char.ofNat 47, Char.ofNat 103, Char.ofNat 48, Char.ofNat 48, Char.ofNat 50, Char.ofNat 56, Char.ofNat 53, Char.ofNat 47, Char.ofNat 108, Char.ofNat 97, Char.ofNat 119, Char.ofNat 115, Char.ofNat 46, Char.ofNat 70, Char.ofNat 110, Char.ofNat 69, Char.ofNat 120, Char.ofNat 97, Char.ofNat 99, Char.ofNat 116, Char.ofNat 67, Char.ofNat 104, Char.ofNat 105, Char.ofNat 112, Char.ofNat 78, Char.ofNat 101, Char.ofNat 119, Char.ofNat 32, Char.ofNat 108, Char.ofNat 111, Char.ofNat 111, Char.ofNat 112, Char.ofNat 46, Char.ofNat 101, Char.ofNat 120, Char.ofNat 97, Char.ofNat 109, Char.ofNat 112, Char.ofNat 108, Char.ofNat 101, Char.ofNat 47, Char.ofNat 103, Char.ofNat 48, Char.ofNat 48, Char.ofNat 50, Char.ofNat 56, Char.ofNat 53, Char.ofNat 47, Char.ofNat 108] ++ [Char.ofNat 97, Char.ofNat 119, Char.ofNat 115, Char.ofNat 46, Char.ofNat 70, Char.ofNat 110, Char.ofNat 69, Char.ofNat 120, Char.ofNat 97, Char.ofNat 99, Char.ofNat 116, Char.ofNat 80, Char.ofNat 117, Char.ofNat 116, Char.ofNat 82, Char.ofNat 101, Char.ofNat 99, Char.ofNat 32, Char.ofNat 108, Char.ofNat 111, Char.ofNat 111, Char.ofNat 112, Char.ofNat 46, Char.ofNat 101, Char.ofNat 120, Char.ofNat 97, Char.ofNat 109, Char.ofNat 112, Char.ofNat 108, Char.ofNat 101, Char.ofNat 47, Char.ofNat 103, Char.ofNat 48, Char.ofNat 48, Char.ofNat 50, Char.ofNat 56, Char.ofNat 53, Char.ofNat 47, Char.ofNat 108, Char.ofNat 97, Char.ofNat 119, Char.ofNat 115, Char.ofNat 46, Char.ofNat 70, Char.ofNat 110, Char.ofNat 69, Char.ofNat 120, Char.ofNat 97, Char.ofNat 99, Char.ofNat 116, Char.ofNat 87, Char.ofNat 111, Char.ofNat 114, Char.ofNat 110, Char.ofNat 79, Char.ofNat 102, Char.ofNat 32, Char.ofNat 108, Char.ofNat 111, Char.ofNat 111] ++ [Char.ofNat 112, Char.ofNat 46, Char.ofNat 101, Char.ofNat 120, Char.ofNat 97, Char.ofNat 109, Char.ofNat 112, Char.ofNat 108, Char.ofNat 101, Char.ofNat 47, Char.ofNat 103, Char.ofNat 48, Char.ofNat 48, Char.ofNat 50, Char.ofNat 56, Char.ofNat 53, Char.ofNat 47, Char.ofNat 108, Char.ofNat 97, Char.ofNat 119, Char.ofNat 115, Char.ofNat 46, Char.ofNat 70, Char.ofNat 110, Char.ofNat 69, Char.ofNat 120, Char.ofNat 97, Char.ofNat 99, Char.ofNat 116, Char.ofNat 71, Char.ofNat 101, Char.ofNat 116, Char.ofNat 79, Char.ofNat 112, Char.ofNat 32, Char.ofNat 108, Char.ofNat 111, Char.ofNat 111, Char.ofNat 112, Char.ofNat 46, Char.ofNat 101, Char.ofNat 120, Char.ofNat 97, Char.ofNat 109, Char.ofNat 112, Char.ofNat 108, Char.ofNat 101, Char.ofNat 47, Char.ofNat 103, Char.ofNat 48, Char.ofNat 48, Char.ofNat 50, Char.ofNat 56, Char.ofNat 53, Char.ofNat 47, Char.ofNat 108, Char.ofNat 97, Char.ofNat 119, Char.ofNat 115, Char.ofNat 46] ++ [Char.ofNat 70, Char.ofNat 110, Char.ofNat 69, Char.ofNat 120, Char.ofNat 97, Char.ofNat 99, Char.ofNat 116, Char.ofNat 78, Char.ofNat 101, Char.ofNat 120, Char.ofNat 116, Char.ofNat 80, Char.ofNat 97, Char.ofNat 103, Char.ofNat 101, Char.ofNat 32, Char.ofNat 108, Char.ofNat 111, Char.ofNat 111, Char.ofNat 112, Char.ofNat 46, Char.ofNat 101, Char.ofNat 120, Char.ofNat 97, Char.ofNat 109, Char.ofNat 112, Char.ofNat 108, Char.ofNat 101, Char.ofNat 47, Char.ofNat 103, Char.ofNat 48, Char.ofNat 48, Char.ofNat 50, Char.ofNat 56, Char.ofNat 53, Char.ofNat 47, Char.ofNat 108, Char.ofNat 97, Char.ofNat 119, Char.ofNat 115, Char.ofNat 46, Char.ofNat 70, Char.ofNat 110, Char.ofNat 69, Char.ofNat 120, Char.ofNat 97, Char.ofNat 99, Char.ofNat 116, Char.ofNat 67, Char.ofNat 104, Char.ofNat 105, Char.ofNat 112, Char.ofNat 79, Char.ofNat 107, Char.ofNat 32, Char.ofNat 108, Char.ofNat 111, Char.ofNat 111, Char.ofNat 112, Char.ofNat 46] ++ [Char.ofNat 101, Char.ofNat 120, Char.ofNat 97, Char.ofNat 109, Char.ofNat 112, Char.ofNat 108, Char.ofNat 101, Char.ofNat 47, Char.ofNat 103, Char.ofNat 48, Char.ofNat 48, Char.ofNat 50, Char.ofNat 56, Char.ofNat 53, Char.ofNat 47, Char.ofNat 108, Char.ofNat 97, Char.ofNat 119, Char.ofNat 115, Char.ofNat 46, Char.ofNat 70, Char.ofNat 110, Char.ofNat 82, Char.ofNat 101, Char.ofNat 99, Char.ofNat 115, Char.ofNat 32, Char.ofNat 108, Char.ofNat 111, Char.ofNat 111, Char.ofNat 112, Char.ofNat 46, Char.ofNat 101, Char.ofNat 120, Char.ofNat 97, Char.ofNat 109, Char.ofNat 112, Char.ofNat 108, Char.ofNat 101, Char.ofNat 47, Char.ofNat 103, Char.ofNat 48, Char.ofNat 48, Char.ofNat 50, Char.ofNat 56, Char.ofNat 53, Char.ofNat 47, Char.ofNat 108, Char.ofNat 97, Char.ofNat 119, Char.ofNat 115, Char.ofNat 46, Char.ofNat 70, Char.ofNat 110, Char.ofNat 69, Char.ofNat 120, Char.ofNat 97, Char.ofNat 99, Char.ofNat 116, Char.ofNat 82] ++ [Char.ofNat 101, Char.ofNat 97, Char.ofNat 100, Char.ofNat 80, Char.ofNat 97, Char.ofNat 103, Char.ofNat 101, Char.ofNat 32, Char.ofNat 108, Char.ofNat 111, Char.ofNat 111, Char.ofNat 112, Char.ofNat 46, Char.ofNat 101, Char.ofNat 120, Char.ofNat 97, Char.ofNat 109, Char.ofNat 112, Char.ofNat 108, Char.ofNat 101, Char.ofNat 47, Char.ofNat 103, Char.ofNat 48, Char.ofNat 48, Char.ofNat 50, Char.ofNat 56, Char.ofNat 53, Char.ofNat 47, Char.ofNat 108, Char.ofNat 97, Char.ofNat 119, Char.ofNat 115, Char.ofNat 46, Char.ofNat 70, Char.ofNat 110, Char.ofNat 78, Char.ofNat 101, Char.ofNat 119, Char.ofNat 67, Char.ofNat 104, Char.ofNat 105, Char.ofNat 112, Char.ofNat 115, Char.ofNat 32, Char.ofNat 108, Char.ofNat 111, Char.ofNat 111, Char.ofNat 112, Char.ofNat 46, Char.ofNat 101, Char.ofNat 120, Char.ofNat 97, Char.ofNat 109, Char.ofNat 112, Char.ofNat 108, Char.ofNat 101, Char.ofNat 47, Char.ofNat 103, Char.ofNat 48, Char.ofNat 48] ++ [Char.ofNat 50, Char.ofNat 56, Char.ofNat 53, Char.ofNat 47, Char.ofNat 108, Char.ofNat 97, Char.ofNat 119, Char.ofNat 115, Char.ofNat 46, Char.ofNat 70, Char.ofNat 110, Char.ofNat 73, Char.ofNat 110, Char.ofNat 84, Char.ofNat 117, Char.ofNat 114, Char.ofNat 110, Char.ofNat 32, Char.ofNat 108, Char.ofNat 111, Char.ofNat 111, Char.ofNat 112, Char.ofNat 46, Char.ofNat 101, Char.ofNat 120, Char.ofNat 97, Char.ofNat 109, Char.ofNat 112, Char.ofNat 108, Char.ofNat 101, Char.ofNat 47, Char.ofNat 103, Char.ofNat 48, Char.ofNat 48, Char.ofNat 50, Char.ofNat 56, Char.ofNat 53, Char.ofNat 47, Char.ofNat 108, Char.ofNat 97, Char.ofNat 119, Char.ofNat 115, Char.ofNat 46, Char.ofNat 70, Char.ofNat 110, Char.ofNat 69, Char.ofNat 120, Char.ofNat 97, Char.ofNat 99, Char.ofNat 116, Char.ofNat 71, Char.ofNat 101, Char.ofNat 116, Char.ofNat 82, Char.ofNat 101, Char.ofNat 99, Char.ofNat 32, Char.ofNat 108, Char.ofNat 111, Char.ofNat 111] ++ [Char.ofNat 112, Char.ofNat 46, Char.ofNat 101, Char.ofNat 120, Char.ofNat 97, Char.ofNat 109, Char.ofNat 112, Char.ofNat 108, Char.ofNat 101, Char.ofNat 47, Char.ofNat 103, Char.ofNat 48, Char.ofNat 48, Char.ofNat 50, Char.ofNat 56, Char.ofNat 53, Char.ofNat 47, Char.ofNat 108, Char.ofNat 97, Char.ofNat 119, Char.ofNat 115, Char.ofNat 46, Char.ofNat 70, Char.ofNat 110, Char.ofNat 69, Char.ofNat 120, Char.ofNat 97, Char.ofNat 99, Char.ofNat 116, Char.ofNat 70, Char.ofNat 97, Char.ofNat 117, Char.ofNat 108, Char.ofNat 116, Char.ofNat 65, Char.ofNat 116, Char.ofNat 32, Char.ofNat 108, Char.ofNat 111, Char.ofNat 111, Char.ofNat 112, Char.ofNat 46, Char.ofNat 101, Char.ofNat 120, Char.ofNat 97, Char.ofNat 109, Char.ofNat 112, Char.ofNat 108, Char.ofNat 101, Char.ofNat 47, Char.ofNat 103, Char.ofNat 48, Char.ofNat 48, Char.ofNat 50, Char.ofNat 56, Char.ofNat 53, Char.ofNat 47, Char.ofNat 108, Char.ofNat 97, Char.ofNat 119] ++ [Char.ofNat 115, Char.ofNat 46, Char.ofNat 70, Char.ofNat 110, Char.ofNat 69, Char.ofNat 114, Char.ofNat 97, Char.ofNat 115, Char.ofNat 101, Char.ofNat 100, Char.ofNat 32, Char.ofNat 108, Char.ofNat 111, Char.ofNat 111, Char.ofNat 112, Char.ofNat 46, Char.ofNat 101, Char.ofNat 120, Char.ofNat 97, Char.ofNat 109, Char.ofNat 112, Char.ofNat 108, Char.ofNat 101, Char.ofNat 47, Char.ofNat 103, Char.ofNat 48, Char.ofNat 48, Char.ofNat 50, Char.ofNat 56, Char.ofNat 53, Char.ofNat 47, Char.ofNat 108, Char.ofNat 97, Char.ofNat 119, Char.ofNat 115, Char.ofNat 46, Char.ofNat 70, Char.ofNat 110, Char.ofNat 67, Char.ofNat 104, Char.ofNat 105, Char.ofNat 112, Char.ofNat 115, Char.ofNat 32, Char.ofNat 108, Char.ofNat 111, Char.ofNat 111, Char.ofNat 112, Char.ofNat 46, Char.ofNat 101, Char.ofNat 120, Char.ofNat 97, Char.ofNat 109, Char.ofNat 112, Char.ofNat 108, Char.ofNat 101, Char.ofNat 47, Char.ofNat 103, Char.ofNat 48, Char.ofNat 48] ++ [Char.ofNat 50, Char.ofNat 56, Char.ofNat 53, Char.ofNat 47, Char.ofNat 108, Char.ofNat 97, Char.ofNat 119, Char.ofNat 115, Char.ofNat 46, Char.ofNat 70, Char.ofNat 110, Char.ofNat 82, Char.ofNat 101, Char.ofNat 99, Char.ofNat 115, Char.ofNat 82, Char.ofNat 101, Char.ofNat 97, Char.ofNat 100, Char.ofNat 32, Char.ofNat 108, Char.ofNat 111, Char.ofNat 111, Char.ofNat 112, Char.ofNat 46, Char.ofNat 101, Char.ofNat 120, Char.ofNat 97, Char.ofNat 109, Char.ofNat 112, Char.ofNat 108, Char.ofNat 101, Char.ofNat 47, Char.ofNat 103, Char.ofNat 48, Char.ofNat 48, Char.ofNat 50, Char.ofNat 56, Char.ofNat 53, Char.ofNat 47, Char.ofNat 108, Char.ofNat 97, Char.ofNat 119, Char.ofNat 115, Char.ofNat 46, Char.ofNat 70, Char.ofNat 110, Char.ofNat 69, Char.ofNat 120, Char.ofNat 97, Char.ofNat 99, Char.ofNat 116, Char.ofNat 68, Char.ofNat 101, Char.ofNat 118, Char.ofNat 79, Char.ofNat 107, Char.ofNat 32, Char.ofNat 108, Char.ofNat 111] ++ [Char.ofNat 111, Char.ofNat 112, Char.ofNat 46, Char.ofNat 101, Char.ofNat 120, Char.ofNat 97, Char.ofNat 109, Char.ofNat 112, Char.ofNat 108, Char.ofNat 101, Char.ofNat 47, Char.ofNat 103, Char.ofNat 48, Char.ofNat 48, Char.ofNat 50, Char.ofNat 56, Char.ofNat 53, Char.ofNat 47, Char.ofNat 108, Char.ofNat 97, Char.ofNat 119, Char.ofNat 115, Char.ofNat 46, Char.ofNat 70, Char.ofNat 110, Char.ofNat 69, Char.ofNat 120, Char.ofNat 97, Char.ofNat 99, Char.ofNat 116, Char.ofNat 70, Char.ofNat 114, Char.ofNat 101, Char.ofNat 101, Char.ofNat 66, Char.ofNat 108, Char.ofNat 111, Char.ofNat 99, Char.ofNat 107, Char.ofNat 115, Char.ofNat 32, Char.ofNat 108, Char.ofNat 111, Char.ofNat 111, Char.ofNat 112, Char.ofNat 46, Char.ofNat 101, Char.ofNat 120, Char.ofNat 97, Char.ofNat 109, Char.ofNat 112, Char.ofNat 108, Char.ofNat 101, Char.ofNat 47, Char.ofNat 103, Char.ofNat 48, Char.ofNat 48, Char.ofNat 50, Char.ofNat 56, Char.ofNat 53] ++ [Char.ofNat 47, Char.ofNat 108, Char.ofNat 97, Char.ofNat 119, Char.ofNat 115, Char.ofNat 46, Char.ofNat 70, Char.ofNat 110, Char.ofNat 69, Char.ofNat 120, Char.ofNat 97, Char.ofNat 99, Char.ofNat 116, Char.ofNat 68, Char.ofNat 101, Char.ofNat 118, Char.ofNat 78, Char.ofNat 101, Char.ofNat 119, Char.ofNat 32, Char.ofNat 108, Char.ofNat 111, Char.ofNat 111, Char.ofNat 112, Char.ofNat 46, Char.ofNat 101, Char.ofNat 120, Char.ofNat 97, Char.ofNat 109, Char.ofNat 112, Char.ofNat 108, Char.ofNat 101, Char.ofNat 47, Char.ofNat 103, Char.ofNat 48, Char.ofNat 48, Char.ofNat 50, Char.ofNat 56, Char.ofNat 53, Char.ofNat 47, Char.ofNat 108, Char.ofNat 97, Char.ofNat 119, Char.ofNat 115, Char.ofNat 46, Char.ofNat 70, Char.ofNat 110, Char.ofNat 69, Char.ofNat 120, Char.ofNat 97, Char.ofNat 99, Char.ofNat 116, Char.ofNat 69, Char.ofNat 114, Char.ofNat 97, Char.ofNat 115, Char.ofNat 101, Char.ofNat 32, Char.ofNat 108, Char.ofNat 111] ++ [Char.ofNat 111, Char.ofNat 112, Char.ofNat 46, Char.ofNat 101, Char.ofNat 120, Char.ofNat 97, Char.ofNat 109, Char.ofNat 112, Char.ofNat 108, Char.ofNat 101, Char.ofNat 47, Char.ofNat 103, Char.ofNat 48, Char.ofNat 48, Char.ofNat 50, Char.ofNat 56, Char.ofNat 53, Char.ofNat 47, Char.ofNat 108, Char.ofNat 97, Char.ofNat 119, Char.ofNat 115, Char.ofNat 46, Char.ofNat 70, Char.ofNat 110, Char.ofNat 69, Char.ofNat 120, Char.ofNat 97, Char.ofNat 99, Char.ofNat 116, Char.ofNat 80, Char.ofNat 114, Char.ofNat 111, Char.ofNat 103, Char.ofNat 114, Char.ofNat 97, Char.ofNat 109, Char.ofNat 32, Char.ofNat 108, Char.ofNat 111, Char.ofNat 111, Char.ofNat 112, Char.ofNat 46, Char.ofNat 101, Char.ofNat 120, Char.ofNat 97, Char.ofNat 109, Char.ofNat 112, Char.ofNat 108, Char.ofNat 101, Char.ofNat 47, Char.ofNat 103, Char.ofNat 48, Char.ofNat 48, Char.ofNat 50, Char.ofNat 56, Char.ofNat 53, Char.ofNat 47, Char.ofNat 108, Char.ofNat 97] ++ [Char.ofNat 119, Char.ofNat 115, Char.ofNat 46, Char.ofNat 70, Char.ofNat 110, Char.ofNat 69, Char.ofNat 120, Char.ofNat 97, Char.ofNat 99, Char.ofNat 116, Char.ofNat 80, Char.ofNat 111, Char.ofNat 119, Char.ofNat 101, Char.ofNat 114, Char.ofNat 85, Char.ofNat 112, Char.ofNat 32, Char.ofNat 108, Char.ofNat 111, Char.ofNat 111, Char.ofNat 112, Char.ofNat 46, Char.ofNat 101, Char.ofNat 120, Char.ofNat 97, Char.ofNat 109, Char.ofNat 112, Char.ofNat 108, Char.ofNat 101, Char.ofNat 47, Char.ofNat 103, Char.ofNat 48, Char.ofNat 48, Char.ofNat 50, Char.ofNat 56, Char.ofNat 53, Char.ofNat 47, Char.ofNat 108, Char.ofNat 97, Char.ofNat 119, Char.ofNat 115, Char.ofNat 46, Char.ofNat 70, Char.ofNat 110, Char.ofNat 68, Char.ofNat 101, Char.ofNat 118, Char.ofNat 115, Char.ofNat 32, Char.ofNat 108, Char.ofNat 111, Char.ofNat 111, Char.ofNat 112, Char.ofNat 46, Char.ofNat 101, Char.ofNat 120, Char.ofNat 97, Char.ofNat 109, Char.ofNat 112] ++ [Char.ofNat 108, Char.ofNat 101, Char.ofNat 47, Char.ofNat 103, Char.ofNat 48, Char.ofNat 48, Char.ofNat 50, Char.ofNat 56, Char.ofNat 53, Char.ofNat 47, Char.ofNat 108, Char.ofNat 97, Char.ofNat 119, Char.ofNat 115, Char.ofNat 46, Char.ofNat 70, Char.ofNat 110, Char.ofNat 68, Char.ofNat 101, Char.ofNat 118, Char.ofNat 69, Char.ofNat 114, Char.ofNat 97, Char.ofNat 115, Char.ofNat 101, Char.ofNat 100, Char.ofNat 32, Char.ofNat 108, Char.ofNat 111, Char.ofNat 111, Char.ofNat 112, Char.ofNat 46, Char.ofNat 101, Char.ofNat 120, Char.ofNat 97, Char.ofNat 109, Char.ofNat 112, Char.ofNat 108, Char.ofNat 101, Char.ofNat 47, Char.ofNat 103, Char.ofNat 48, Char.ofNat 48, Char.ofNat 50, Char.ofNat 56, Char.ofNat 53, Char.ofNat 47, Char.ofNat 108, Char.ofNat 97, Char.ofNat 119, Char.ofNat 115, Char.ofNat 46, Char.ofNat 70, Char.ofNat 110, Char.ofNat 80, Char.ofNat 111, Char.ofNat 119, Char.ofNat 101, Char.ofNat 114, Char.ofNat 115] ++ [Char.ofNat 32, Char.ofNat 108, Char.ofNat 111, Char.ofNat 111, Char.ofNat 112, Char.ofNat 46, Char.ofNat 101, Char.ofNat 120, Char.ofNat 97, Char.ofNat 109, Char.ofNat 112, Char.ofNat 108, Char.ofNat 101, Char.ofNat 47, Char.ofNat 103, Char.ofNat 48, Char.ofNat 48, Char.ofNat 50, Char.ofNat 56, Char.ofNat 53, Char.ofNat 47, Char.ofNat 108, Char.ofNat 97, Char.ofNat 119, Char.ofNat 115, Char.ofNat 46, Char.ofNat 70, Char.ofNat 110, Char.ofNat 69, Char.ofNat 120, Char.ofNat 97, Char.ofNat 99, Char.ofNat 116, Char.ofNat 68, Char.ofNat 101, Char.ofNat 118, Char.ofNat 69, Char.ofNat 114, Char.ofNat 97, Char.ofNat 115, Char.ofNat 101, Char.ofNat 32, Char.ofNat 108, Char.ofNat 111, Char.ofNat 111, Char.ofNat 112, Char.ofNat 46, Char.ofNat 101, Char.ofNat 120, Char.ofNat 97, Char.ofNat 109, Char.ofNat 112, Char.ofNat 108, Char.ofNat 101, Char.ofNat 47, Char.ofNat 103, Char.ofNat 48, Char.ofNat 48, Char.ofNat 50, Char.ofNat 56] ++ [Char.ofNat 53, Char.ofNat 47, Char.ofNat 108, Char.ofNat 97, Char.ofNat 119, Char.ofNat 115, Char.ofNat 46, Char.ofNat 70, Char.ofNat 110, Char.ofNat 69, Char.ofNat 120, Char.ofNat 97, Char.ofNat 99, Char.ofNat 116, Char.ofNat 68, Char.ofNat 101, Char.ofNat 118, Char.ofNat 80, Char.ofNat 114, Char.ofNat 111, Char.ofNat 103, Char.ofNat 114, Char.ofNat 97, Char.ofNat 109]
def ioSum : List Char := [Char.ofNat 98, Char.ofNat 51, Char.ofNat 102, Char.ofNat 55, Char.ofNat 99, Char.ofNat 48, Char.ofNat 100, Char.ofNat 99, Char.ofNat 52, Char.ofNat 51, Char.ofNat 51, Char.ofNat 102, Char.ofNat 99, Char.ofNat 98, Char.ofNat 52, Char.ofNat 55, Char.ofNat 53, Char.ofNat 52, Char.ofNat 55, Char.ofNat 49, Char.ofNat 102, Char.ofNat 53, Char.ofNat 56, Char.ofNat 48, Char.ofNat 101, Char.ofNat 102, Char.ofNat 54, Char.ofNat 97, Char.ofNat 99, Char.ofNat 57, Char.ofNat 54, Char.ofNat 49, Char.ofNat 100, Char.ofNat 51, Char.ofNat 97, Char.ofNat 55, Char.ofNat 99, Char.ofNat 57, Char.ofNat 57, Char.ofNat 53, Char.ofNat 49, Char.ofNat 100, Char.ofNat 100, Char.ofNat 49, Char.ofNat 51, Char.ofNat 52, Char.ofNat 101, Char.ofNat 102, Char.ofNat 98, Char.ofNat 98, Char.ofNat 99, Char.ofNat 56, Char.ofNat 53, Char.ofNat 98, Char.ofNat 99, Char.ofNat 53, Char.ofNat 49, Char.ofNat 48, Char.ofNat 52, Char.ofNat 48, Char.ofNat 48, Char.ofNat 100, Char.ofNat 97, Char.ofNat 98]
theorem ioText : Try.prog.initOrder = String.ofList ([Char.ofNat 104, Char.ofNat 97, Char.ofNat 114, Char.ofNat 110, Char.ofNat 101, Char.ofNat 115, Char.ofNat 115] ++ (Char.ofNat 32 :: ioSum) ++ [Char.ofNat 32, Char.ofNat 99, Char.ofNat 117, Char.ofNat 116, Char.ofNat 32] ++ ioTail) := by kernel_rfl
theorem ioWords : ∃ r, behindMainWord (wordsSigns Try.prog.initOrder.toList) = [Char.ofNat 99, Char.ofNat 117, Char.ofNat 116] :: r := by
  rw [ioText, String.toList_ofList]
  exact ⟨wordsSigns ioTail, by kernel_rfl⟩
theorem f_laid : (laidOutB Try.prog) = true := by kernel_rfl
theorem f_maps : (mapsRowed Try.prog) = true := by kernel_rfl
theorem f_stops : ((Try.prog.stops == [])) = true := by kernel_rfl
theorem f_knobs : ((Try.prog.stopKnobs == [])) = true := by kernel_rfl
theorem f_heard : (Try.prog.stopsHeard) = true := by kernel_rfl
theorem f_enter : (Try.prog.mayEnter) = true := by
  obtain ⟨r, hr⟩ := ioWords
  exact enter_of hr (by kernel_rfl) (by kernel_rfl) (by kernel_rfl)
theorem f_lifts : (false == Try.prog.liftsFinal) = true := by
  obtain ⟨r, hr⟩ := ioWords
  rw [lifts_of hr]
  rfl
theorem f_make : (Try.prog.make == some .cut) = true := by
  obtain ⟨r, hr⟩ := ioWords
  rw [make_of hr]
  rfl
end Go.Proofs.Ytliklgcfdgdigaa.Awp

namespace Go.Proofs.Ytliklgcfdgdigaa.Awp
open Go.Proofs Go.Proofs.Ytliklgcfdgdigaa
set_option linter.unusedSimpArgs false
set_option linter.unusedVariables false
set_option maxRecDepth 100000

theorem j0_FnExactReadPage : (Rows.fnExactReadPageRow.wf (OpenSpec.ofChange Rows.fnExactReadPageSpec)) = true := by kernel_rfl
theorem j3_FnExactReadPage : (Try.f13.params.all (Try.prog.readableRec ·)) = true := by kernel_rfl
theorem j4_FnExactReadPage : (namedTie Try.prog Rows.fnExactReadPageRow.named Rows.fnExactReadPageSpec.vars) = true := by kernel_rfl
theorem j5_FnExactReadPage : ((Rows.fnExactReadPageRow.stops == [])) = true := by kernel_rfl
theorem j7_FnExactReadPage : ((Rows.fnExactReadPageRow.knobs == [])) = true := by kernel_rfl
theorem j9_FnExactReadPage : ((Rows.fnExactReadPageRow.inPlace == Try.prog.inPlace 13)) = true := by kernel_rfl
theorem j10_FnExactReadPage : ((Rows.fnExactReadPageRow.unfollowed == Try.prog.unfollowed 13)) = true := by kernel_rfl
theorem j11_FnExactReadPage : ((Rows.fnExactReadPageRow.recurses == Try.prog.recurses 13)) = true := by kernel_rfl
theorem j12_FnExactReadPage : ((Rows.fnExactReadPageRow.named == Try.prog.varsNamed 13)) = true := by kernel_rfl
theorem j13_FnExactReadPage : ((Rows.fnExactReadPageRow.maps == (Try.f13.params.toList ++ Rows.fnExactReadPageSpec.plain.varTypes Try.prog).any (Try.prog.mapsRec ·))) = true := by kernel_rfl
theorem j14_FnExactReadPage : ((Rows.fnExactReadPageRow.ifaces == (Try.f13.params.toList ++ Rows.fnExactReadPageSpec.plain.varTypes Try.prog).any (Try.prog.ifacesRec ·))) = true := by kernel_rfl
theorem j15_FnExactReadPage : ((Rows.fnExactReadPageRow.mapsOut == Try.prog.mapsAmong Try.f13.resultTypes.toList)) = true := by kernel_rfl
theorem j16_FnExactReadPage : ((Rows.fnExactReadPageRow.loops == (Try.f13.params.toList ++ Rows.fnExactReadPageSpec.plain.varTypes Try.prog).any (Try.prog.loopsFrom ·))) = true := by kernel_rfl
theorem j17_FnExactReadPage : ((Rows.fnExactReadPageRow.wideKeys == (Try.f13.params.toList ++ Rows.fnExactReadPageSpec.plain.varTypes Try.prog ++ Try.f13.resultTypes.toList).any (Try.prog.wideKeysFrom ·))) = true := by kernel_rfl
theorem j18_FnExactReadPage : (Rows.fnExactReadPageSpec.vars.all (Try.prog.varReadable ·)) = true := by kernel_rfl
theorem j19_FnExactReadPage : (Try.f13.resultTypes.all (fun t => Try.prog.readableRec t && decide (t < Try.prog.types.size))) = true := by kernel_rfl
theorem j20_FnExactReadPage : ((Rows.fnExactReadPageRow.ifacesOut == Try.f13.resultTypes.toList.any (Try.prog.ifacesRec ·))) = true := by kernel_rfl
theorem j21_FnExactReadPage : ((Rows.fnExactReadPageRow.loopsOut == Try.f13.resultTypes.toList.any (Try.prog.loopsFrom ·))) = true := by kernel_rfl
theorem j22_FnExactReadPage : ((Rows.fnExactReadPageRow.plainKeys == Try.prog.plainKeys)) = true := by kernel_rfl
theorem j23_FnExactReadPage : (Rows.fnExactReadPageRow.shortTexts.isNone) = true := by kernel_rfl
theorem j28_FnExactReadPage : ((Rows.fnExactReadPageRow.kinds == (if Rows.fnExactReadPageRow.domain.isEmpty then [] else Try.f13.params.toList.map fun t => match Try.prog.underlying t with | some (.int k) => some k | _ => none))) = true := by kernel_rfl
theorem j29_FnExactReadPage : ((Rows.fnExactReadPageRow.pinned == Rows.fnExactReadPageRow.pinnedBy)) = true := by kernel_rfl
theorem j30_FnExactReadPage : ((Rows.fnExactReadPageRow.veiled == (Try.f13.params.toList ++ Rows.fnExactReadPageSpec.plain.varTypes Try.prog ++ Try.f13.resultTypes.toList).any (Try.prog.veiledRec ·))) = true := by kernel_rfl
theorem j31_FnExactReadPage : (Rows.fnExactReadPageRow.veiledFits Try.prog Try.f13.params.toList (Try.f13.params.toList ++ Rows.fnExactReadPageSpec.plain.varTypes Try.prog ++ Try.f13.resultTypes.toList)) = true := by kernel_rfl
theorem jf_FnExactReadPage : joinedFacts Try.prog 13 Try.f13 Rows.fnExactReadPageSpec Rows.fnExactReadPageRow = true :=
  joined_of j0_FnExactReadPage f_laid f_maps j3_FnExactReadPage j4_FnExactReadPage j5_FnExactReadPage f_stops j7_FnExactReadPage f_knobs j9_FnExactReadPage j10_FnExactReadPage j11_FnExactReadPage j12_FnExactReadPage j13_FnExactReadPage j14_FnExactReadPage j15_FnExactReadPage j16_FnExactReadPage j17_FnExactReadPage j18_FnExactReadPage j19_FnExactReadPage j20_FnExactReadPage j21_FnExactReadPage j22_FnExactReadPage j23_FnExactReadPage f_heard f_enter f_lifts f_make j28_FnExactReadPage j29_FnExactReadPage j30_FnExactReadPage j31_FnExactReadPage

theorem lift_FnExactReadPage (os : Os) (started : os.Started) (H : Type) (enc : TypeId × Value → H) :
    ReturnsInHanded {} Try.checked os 13 .any (Rows.fnExactReadPageSpec.pre6 enc Try.prog Try.f13 Rows.fnExactReadPageRow.domain false) (Rows.fnExactReadPageSpec.post enc Try.prog Try.f13 false true false false) := by
  refine law_returns (C := Try.checked) (pars := [(true, Chip.shape), (false, [.int .i64]), (false, [.int .i64])]) own started (by kernel_rfl) Try.func13
    (ChangeSpec.witness6 (enc := enc) (C := Try.checked) false ⟨#[], #[.agg #[.slice none 0 0], .int .i64 0, .int .i64 0], []⟩ 8 (by kernel_rfl) (by kernel_rfl) (by kernel_rfl) (by kernel_rfl))
    rfl (by kernel_rfl) rfl (by kernel_rfl) ?_ ?_
  · intro ds hd
    match ds, hd with
    | [d0, d1, d2], _ => rfl
  · intro tss h
    match tss, h with
    | [t0, t1, t2], ⟨h0, h1, h2, _⟩ =>
      obtain ⟨r, rfl, hf⟩ := Chip.ofShp t0 h0
      obtain ⟨i, u1, rfl, e1⟩ := Shp.int_inv h1
      obtain rfl := Shp.nil_inv e1
      obtain ⟨j, u2, rfl, e2⟩ := Shp.int_inv h2
      obtain rfl := Shp.nil_inv e2
      exact ⟨_, s_FnExactReadPage r i j hf⟩

theorem hw_FnExactReadPage : Try.f13.isWrapper Try.prog Rows.fnExactReadPageRow.wrapper Rows.fnExactReadPageRow.mainSum := by
  unfold Func.isWrapper; first | (rw [if_pos (by decide +kernel)]; kernel_rfl) | (rw [if_neg (by decide +kernel)]; exact ⟨rfl, rfl⟩)

theorem law_FnExactReadPage : Rows.FnExactReadPageSaid :=
  OpenClaim.holds_of_wide 13 Try.f13 rfl rfl rfl rfl rfl rfl rfl ⟨rfl, rfl, rfl, rfl, rfl⟩ rfl rfl rfl rfl rfl (by kernel_rfl) Try.func13 jf_FnExactReadPage
    (of_decide_eq_true (by kernel_rfl)) hw_FnExactReadPage
    (fun os started H enc _ => lift_FnExactReadPage os started H enc)
end Go.Proofs.Ytliklgcfdgdigaa.Awp

namespace Go.Proofs.Ytliklgcfdgdigaa
/-- the given statement -/
theorem provedFnExactReadPage : Rows.FnExactReadPageSaid := Awp.law_FnExactReadPage
end Go.Proofs.Ytliklgcfdgdigaa
#print axioms Go.Proofs.Ytliklgcfdgdigaa.provedFnExactReadPage
