/- Contracts of the functions that laws.FnExactUnlink reaches are proved here (part 1). Condition: none. -/
import Derived.Test.YtnhdalnfboiooaaGreatDoorAwp4
import Derived.Test.YtnhdalnfboiooaaGreatDoorRows
import Derived.Test.YtnhdalnfboiooaaGreatDoorCards
import Derived.Test.YtnhdalnfboiooaaGreatDoorTie
import Derived.Shelf.Lays
import Derived.Sort.Walk0
import Derived.Shelf.Strings.Search3
import Derived.Shelf.Strings.Count
import Derived.Shelf.Strings.OnBuilder
import Derived.Shelf.Sort.Plain
import Derived.Shelf.Slices.In.SortNone
import Derived.OpenShut
import Derived.SevenTiedAt
import Derived.KernelRfl
namespace Go.Proofs.YtnhdalnfboiooaaGreatDoor.Awp
open I
def c_L_FnExactUnlink:Cmd:=Q (R [n 2 (box 2 (v 0)),n 4 (asg 4 k0)]) (Q (Q (R [n 16 (mov 16 (v 1)),n 17 (lens 17 (v 16)),n 18 (bin 18 .gtr (v 17) (k 1048576))]) (F (v 18) (Q (R [n 4 (asg 4 k1)]) .ret) .skip)) (Q (R [n 5 (asg 5 (k 1048576))]) (Q (R [n 19 (ld 19 (v 2) 2 true),n 20 (mov 20 (v 5)),n 21 (call (some 21) 19 [v 19,v 20]),n 5 (asg 5 (v 21))]) (Q (Q (R [n 22 (mov 22 (v 5)),n 23 (bin 23 .lss (v 22) (k 0))]) (F (v 23) (Q (R [n 4 (asg 4 k1)]) .ret) .skip)) (Q (R [n 25 (ld 25 (v 2) 2 true),n 26 (call (some 26) 21 [v 25]),n 27 (mov 27 (v 1)),n 28 (call (some 28) 20 [v 26,v 27]),n 24 (mov 24 (v 28)),n 29 (xtr 29 (v 24) 0),n 30 (xtr 30 (v 24) 1),n 6 (alc 6 [.sl 6 [],.int .i64 0]),m (st (v 6) (v 29) 2),n 7 (asg 7 (v 30))]) (Q (R [n 31 (ld 31 (v 2) 2 true),n 32 (call (some 32) 21 [v 31]),n 8 (alc 8 [.sl 6 [],.int .i64 0]),m (st (v 8) (v 32) 2)]) (Q (R [n 34 (ld 34 (v 8) 2 true),n 35 (mov 35 (v 1)),n 36 (call (some 36) 22 [v 34,v 35]),n 33 (mov 33 (v 36)),n 37 (xtr 37 (v 33) 0),n 38 (xtr 38 (v 33) 1),n 9 (alc 9 [.sl 6 [],.int .i64 0]),m (st (v 9) (v 37) 2),n 10 (asg 10 (v 38))]) (Q (Q (R [n 39 (ld 39 (v 9) 2 true),n 40 (ld 40 (v 6) 2 true),n 41 (call (some 41) 23 [v 39,v 40]),n 42 (un 42 .not (v 41)),n 43 (mov 43 (v 42)),h 43 false 44 (mov 44 (v 10)),h 43 false 45 (mov 45 (v 7)),h 43 false 46 (bin 46 .neq (v 44) (v 45)),n 47 (pck 47 (v 43) k1 (v 46))]) (F (v 47) (Q (R [n 4 (asg 4 k0)]) .ret) .skip)) (Q (Q (D [0,0,2,7,15] [n 48 (ld 48 (v 8) 2 true),n 49 (ld 49 (v 2) 2 true),n 50 (call (some 50) 21 [v 49]),n 51 (call (some 51) 23 [v 48,v 50]),n 52 (un 52 .not (v 51))]) (F (v 52) (Q (R [n 4 (asg 4 k0)]) .ret) .skip)) (Q (R [n 11 (asg 11 (k 1))]) (Q (R [n 53 (ld 53 (v 8) 2 true),n 54 (mov 54 (v 11)),n 55 (call (some 55) 24 [v 53,v 54]),n 11 (asg 11 (v 55))]) (Q (Q (R [n 56 (mov 56 (v 11)),n 57 (bin 57 .lss (v 56) (k 0)),n 58 (mov 58 (v 57)),h 58 false 59 (ld 59 (v 9) 2 true),h 58 false 60 (ld 60 (v 6) 2 true),h 58 false 61 (call (some 61) 23 [v 59,v 60]),h 58 false 62 (un 62 .not (v 61)),n 63 (pck 63 (v 58) k1 (v 62)),n 64 (mov 64 (v 63)),h 64 false 65 (mov 65 (v 10)),h 64 false 66 (mov 66 (v 7)),h 64 false 67 (bin 67 .neq (v 65) (v 66)),n 68 (pck 68 (v 64) k1 (v 67))]) (F (v 68) (Q (R [n 4 (asg 4 k0)]) .ret) .skip)) (Q (R [n 12 (asg 12 (k 1))]) (Q (R [n 69 (ld 69 (v 9) 2 true),n 70 (mov 70 (v 12)),n 71 (call (some 71) 24 [v 69,v 70]),n 12 (asg 12 (v 71))]) (Q (R [n 13 (asg 13 (k 1))]) (Q (R [n 72 (ld 72 (v 9) 2 true),n 73 (mov 73 (v 13)),n 74 (call (some 74) 25 [v 72,v 73]),n 13 (asg 13 (v 74))]) (Q (Q (R [n 75 (mov 75 (v 13)),n 76 (bin 76 .lss (v 75) (k 0))]) (F (v 76) (Q (R [n 4 (asg 4 k0)]) .ret) .skip)) (Q (Q (R [n 77 (mov 77 (v 13)),n 78 (mov 78 (v 12)),n 79 (bin 79 .neq (v 77) (v 78))]) (F (v 79) (Q (R [n 4 (asg 4 k0)]) .ret) .skip)) (Q (R [n 81 (ld 81 (v 2) 2 true),n 82 (call (some 82) 21 [v 81]),n 83 (mov 83 (v 1)),n 84 (call (some 84) 22 [v 82,v 83]),n 80 (mov 80 (v 84)),n 85 (xtr 85 (v 80) 0),n 86 (xtr 86 (v 80) 1),n 14 (alc 14 [.sl 6 [],.int .i64 0]),m (st (v 14) (v 85) 2),n 15 (asg 15 (v 86))]) (Q (Q (R [n 87 (ld 87 (v 14) 2 true),n 88 (ld 88 (v 6) 2 true),n 89 (call (some 89) 23 [v 87,v 88]),n 90 (un 90 .not (v 89)),n 91 (mov 91 (v 90)),h 91 false 92 (mov 92 (v 15)),h 91 false 93 (mov 93 (v 7)),h 91 false 94 (bin 94 .neq (v 92) (v 93)),n 95 (pck 95 (v 91) k1 (v 94))]) (F (v 95) (Q (R [n 4 (asg 4 k0)]) .ret) .skip)) (Q (R [n 13 (asg 13 (k 1))]) (Q (R [n 96 (ld 96 (v 9) 2 true),n 97 (mov 97 (v 13)),n 98 (call (some 98) 25 [v 96,v 97]),n 13 (asg 13 (v 98))]) (Q (Q (R [n 99 (mov 99 (v 13)),n 100 (bin 100 .lss (v 99) (k 0))]) (F (v 100) (Q (R [n 4 (asg 4 k0)]) .ret) .skip)) (Q (Q (R [n 101 (mov 101 (v 13)),n 102 (mov 102 (v 12)),n 103 (bin 103 .neq (v 101) (v 102))]) (F (v 103) (Q (R [n 4 (asg 4 k0)]) .ret) .skip)) (Q (R [n 4 (asg 4 k1)]) .ret)))))))))))))))))))))))))
def c_L_szTab:Cmd:=Q (R [n 2 (box 2 (v 0)),n 4 (asg 4 (k 0))]) (Q (R [n 5 (fld 5 (v 2) 0),n 6 (ld 6 (v 5) 1 false),n 7 (mov 7 (v 1)),n 8 (call (some 8) 89 [v 6,v 7]),n 1 (asg 1 (v 8))]) (Q (Q (R [n 9 (mov 9 (v 1)),n 10 (bin 10 .lss (v 9) (k 0))]) (F (v 10) (Q (R [n 4 (asg 4 (k (-1)))]) .ret) .skip)) (Q (R [n 11 (mov 11 (v 1)),n 4 (asg 4 (v 11))]) .ret)))
def c_S_Unlink:Cmd:=Q (R [n 2 (box 2 (v 0)),n 4 (alc 4 [.sl 6 [],.int .i64 0]),n 5 (asg 5 (k 0))]) (Q (R [n 13 (mov 13 (v 1)),n 14 (call (some 14) 90 [v 13]),n 12 (mov 12 (v 14)),n 15 (xtr 15 (v 12) 0),n 16 (xtr 16 (v 12) 1),n 17 (xtr 17 (v 12) 2),n 6 (asg 6 (v 15)),n 7 (asg 7 (v 16)),n 8 (asg 8 (v 17))]) (Q (Q (R [n 18 (ld 18 (v 2) 2 true),n 19 (call (some 19) 67 [v 18]),n 20 (un 20 .not (v 19)),n 21 (mov 21 (v 20)),h 21 false 22 (mov 22 (v 8)),h 21 false 23 (un 23 .not (v 22)),n 24 (pck 24 (v 21) k1 (v 23))]) (F (v 24) (Q (R [n 25 (ld 25 (v 2) 2 true),n 26 (call (some 26) 91 [v 25]),m (st (v 4) (v 26) 2),n 5 (asg 5 (k 1))]) .ret) .skip)) (Q (R [n 28 (ld 28 (v 2) 2 true),n 29 (mov 29 (v 1)),n 30 (call (some 30) 92 [v 28,v 29]),n 27 (mov 27 (v 30)),n 31 (xtr 31 (v 27) 0),n 32 (xtr 32 (v 27) 1),n 9 (alc 9 [.int .i64 0,.int .i64 0,.int .i64 0,.sl 1 [],.sl 2 [],.sl 2 []]),m (st (v 9) (v 31) 6),n 10 (asg 10 (v 32))]) (Q (Q (R [n 33 (mov 33 (v 10)),n 34 (bin 34 .neq (v 33) (k 0))]) (F (v 34) (Q (R [n 35 (ld 35 (v 2) 2 true),n 36 (call (some 36) 91 [v 35]),n 37 (mov 37 (v 10)),m (st (v 4) (v 36) 2),n 5 (asg 5 (v 37))]) .ret) .skip)) (Q (R [n 38 (ld 38 (v 2) 2 true),n 39 (mov 39 (v 1)),n 40 (call (some 40) 93 [v 38,v 39]),n 11 (alc 11 [.sl 6 [],.int .i64 0]),m (st (v 11) (v 40) 2)]) (Q (Q (R [n 41 (fld 41 (v 9) 2),n 42 (ld 42 (v 41) 1 false),n 43 (bin 43 .eql (v 42) (k 1))]) (F (v 43) (Q (R [n 44 (ld 44 (v 11) 2 true),n 45 (fld 45 (v 9) 0),n 46 (ld 46 (v 45) 1 false),n 47 (call (some 47) 94 [v 44,v 46]),m (st (v 4) (v 47) 2),n 5 (asg 5 (k 0))]) .ret) .skip)) (Q (R [n 48 (fld 48 (v 9) 2),n 49 (ld 49 (v 48) 1 false),n 50 (bin 50 .sub (v 49) (k 1)),n 51 (fld 51 (v 9) 2),m (st (v 51) (v 50) 1)]) (Q (R [n 52 (ld 52 (v 11) 2 true),n 53 (ld 53 (v 9) 6 true),n 54 (call (some 54) 95 [v 52,v 53]),m (st (v 4) (v 54) 2),n 5 (asg 5 (k 0))]) .ret))))))))
def c_L_toTab:Cmd:=Q (R [n 1 (box 1 (v 0)),n 2 (alc 2 [.sl 6 [],.int .i64 0])]) (Q (R [n 3 (alc 3 [.sl 6 [],.int .i64 0])]) (Q (R [n 4 (fld 4 (v 1) 0),n 5 (ld 5 (v 4) 1 false),n 6 (call (some 6) 96 [v 5]),n 7 (fld 7 (v 3) 0),m (st (v 7) (v 6) 1)]) (Q (R [n 8 (fld 8 (v 1) 1),n 9 (ld 9 (v 8) 1 false),n 10 (fld 10 (v 3) 1),m (st (v 10) (v 9) 1)]) (Q (R [n 11 (ld 11 (v 3) 2 true),m (st (v 2) (v 11) 2)]) .ret))))
def c_I_Unlink:Cmd:=Q (R [n 2 (box 2 (v 0)),n 4 (alc 4 [.sl 6 [],.int .i64 0]),n 5 (asg 5 (k 0))]) (Q (R [n 10 (ld 10 (v 2) 2 true),n 11 (call (some 11) 97 [v 10]),m (st (v 2) (v 11) 2)]) (Q (Q (R [n 12 (ld 12 (v 2) 2 true),n 13 (mov 13 (v 1)),n 14 (bsl 14 1 [v 13]),n 15 (call (some 15) 98 [v 12,v 14]),n 16 (un 16 .not (v 15)),n 17 (mov 17 (v 16)),h 17 false 18 (mov 18 (v 1)),h 17 false 19 (bin 19 .eql (v 18) (.c (.str [47]))),n 20 (pck 20 (v 17) k1 (v 19))]) (F (v 20) (Q (R [n 21 (ld 21 (v 2) 2 true),m (st (v 4) (v 21) 2),n 5 (asg 5 (k 1))]) .ret) .skip)) (Q (R [n 23 (ld 23 (v 2) 2 true),n 24 (mov 24 (v 1)),n 25 (call (some 25) 99 [v 23,v 24]),n 22 (mov 22 (v 25)),n 26 (xtr 26 (v 22) 0),n 27 (xtr 27 (v 22) 1),n 6 (alc 6 [.int .i64 0,.int .i64 0,.int .i64 0,.sl 1 [],.sl 2 [],.sl 2 []]),m (st (v 6) (v 26) 6),n 7 (asg 7 (v 27))]) (Q (Q (R [n 28 (mov 28 (v 7)),n 29 (bin 29 .neq (v 28) (k 0))]) (F (v 29) (Q (R [n 30 (ld 30 (v 2) 2 true),n 31 (mov 31 (v 7)),m (st (v 4) (v 30) 2),n 5 (asg 5 (v 31))]) .ret) .skip)) (Q (R [n 33 (ld 33 (v 2) 2 true),n 34 (mov 34 (v 1)),n 35 (call (some 35) 100 [v 33,v 34]),n 32 (mov 32 (v 35)),n 36 (xtr 36 (v 32) 0),n 37 (xtr 37 (v 32) 1),n 8 (alc 8 [.int .i64 0,.int .i64 0,.int .i64 0,.sl 1 [],.sl 2 [],.sl 2 [],.str []]),m (st (v 8) (v 36) 7),n 9 (asg 9 (v 37))]) (Q (R [n 38 (ld 38 (v 8) 7 true),n 39 (ld 39 (v 2) 2 true),n 40 (call (some 40) 101 [v 38,v 39]),m (st (v 2) (v 40) 2)]) (Q (R [n 41 (fld 41 (v 6) 2),n 42 (ld 42 (v 41) 1 false),n 43 (bin 43 .sub (v 42) (k 1)),n 44 (fld 44 (v 6) 2),m (st (v 44) (v 43) 1)]) (Q (Q (R [n 45 (fld 45 (v 6) 2),n 46 (ld 46 (v 45) 1 false),n 47 (bin 47 .eql (v 46) (k 0))]) (F (v 47) (Q (R [n 48 (ld 48 (v 2) 2 true),n 49 (fld 49 (v 6) 0),n 50 (ld 50 (v 49) 1 false),n 51 (call (some 51) 102 [v 48,v 50]),m (st (v 4) (v 51) 2),n 5 (asg 5 (k 0))]) .ret) .skip)) (Q (R [n 52 (ld 52 (v 2) 2 true),n 53 (ld 53 (v 6) 6 true),n 54 (call (some 54) 103 [v 52,v 53]),m (st (v 4) (v 54) 2),n 5 (asg 5 (k 0))]) .ret)))))))))
def c_L_eqTab:Cmd:=Q (R [n 2 (box 2 (v 0)),n 3 (box 3 (v 1)),n 4 (asg 4 k0)]) (Q (Q (R [n 5 (fld 5 (v 2) 0),n 6 (ld 6 (v 5) 1 false),n 7 (fld 7 (v 3) 0),n 8 (ld 8 (v 7) 1 false),n 9 (call (some 9) 104 [v 6,v 8]),n 10 (un 10 .not (v 9))]) (F (v 10) (Q (R [n 4 (asg 4 k0)]) .ret) .skip)) (Q (Q (R [n 11 (fld 11 (v 2) 1),n 12 (ld 12 (v 11) 1 false),n 13 (fld 13 (v 3) 1),n 14 (ld 14 (v 13) 1 false),n 15 (bin 15 .neq (v 12) (v 14))]) (F (v 15) (Q (R [n 4 (asg 4 k0)]) .ret) .skip)) (Q (R [n 4 (asg 4 k1)]) .ret)))
def c_L_markTab:Cmd:=Q (R [n 2 (box 2 (v 0)),n 4 (asg 4 (k 0))]) (Q (R [n 5 (fld 5 (v 2) 0),n 6 (ld 6 (v 5) 1 false),n 7 (mov 7 (v 1)),n 8 (call (some 8) 105 [v 6,v 7]),n 1 (asg 1 (v 8))]) (Q (R [n 9 (mov 9 (v 1)),n 4 (asg 4 (v 9))]) .ret))
def c_L_heldTab:Cmd:=Q (R [n 2 (box 2 (v 0)),n 4 (asg 4 (k 0))]) (Q (R [n 5 (fld 5 (v 2) 0),n 6 (ld 6 (v 5) 1 false),n 7 (mov 7 (v 1)),n 8 (call (some 8) 106 [v 6,v 7]),n 1 (asg 1 (v 8))]) (Q (Q (R [n 9 (mov 9 (v 1)),n 10 (bin 10 .lss (v 9) (k 0))]) (F (v 10) (Q (R [n 4 (asg 4 (k (-1)))]) .ret) .skip)) (Q (R [n 11 (mov 11 (v 1)),n 4 (asg 4 (v 11))]) .ret)))
def c_I_TreeOk:Cmd:=Q (R [n 1 (box 1 (v 0)),n 2 (asg 2 k0)]) (Q (Q (D [0,1,3,7,15,31,63,15,143,399,1023,2047] [n 7 (ld 7 (v 1) 2 true),n 8 (call (some 8) 152 [v 7]),n 9 (un 9 .not (v 8)),n 10 (mov 10 (v 9)),h 10 false 11 (ld 11 (v 1) 2 true),h 10 false 12 (call (some 12) 71 [v 11]),h 10 false 13 (len 13 (v 12)),h 10 false 14 (fld 14 (v 1) 0),h 10 false 15 (ld 15 (v 14) 1 false),h 10 false 16 (len 16 (v 15)),h 10 false 17 (bin 17 .neq (v 13) (v 16)),n 18 (pck 18 (v 10) k1 (v 17))]) (F (v 18) (Q (R [n 2 (asg 2 k0)]) .ret) .skip)) (Q (Q (R [n 19 (fld 19 (v 1) 0),n 20 (ld 20 (v 19) 1 false),n 21 (len 21 (v 20)),n 22 (mov 22 (k 0))]) (.blk 0 (.loop (Q (R [n 23 (bin 23 .lss (v 22) (v 21))]) (Q (F (v 23) .skip (.exit 0)) (Q (.blk 1 (Q (R [n 24 (idx 24 (v 20) (v 22) 6),n 25 (ld 25 (v 24) 6 true),n 4 (alc 4 [.int .i64 0,.int .i64 0,.int .i64 0,.sl 1 [],.sl 2 [],.sl 2 []]),m (st (v 4) (v 25) 6)]) (Q (Q (D [0,1,0,0,8,28,63] [n 26 (fld 26 (v 4) 2),n 27 (ld 27 (v 26) 1 false),n 28 (ld 28 (v 1) 2 true),n 29 (fld 29 (v 4) 0),n 30 (ld 30 (v 29) 1 false),n 31 (call (some 31) 153 [v 28,v 30]),n 32 (bin 32 .neq (v 27) (v 31))]) (F (v 32) (Q (R [n 2 (asg 2 k0)]) .ret) .skip)) (Q (R [n 33 (fld 33 (v 4) 4),n 34 (ld 34 (v 33) 1 false),n 35 (len 35 (v 34)),n 36 (mov 36 (k 0))]) (.blk 2 (.loop (Q (R [n 37 (bin 37 .lss (v 36) (v 35))]) (Q (F (v 37) .skip (.exit 2)) (Q (.blk 3 (Q (R [n 38 (idx 38 (v 34) (v 36) 2),n 39 (ld 39 (v 38) 2 true),n 6 (alc 6 [.str [],.int .i64 0]),m (st (v 6) (v 39) 2)]) (Q (R [n 40 (ld 40 (v 1) 2 true),n 41 (fld 41 (v 6) 1),n 42 (ld 42 (v 41) 1 false),n 43 (call (some 43) 154 [v 40,v 42]),n 44 (bin 44 .lss (v 43) (k 0))]) (F (v 44) (Q (R [n 2 (asg 2 k0)]) .ret) .skip)))) (R [n 45 (bin 45 .add (v 36) (k 1)),n 36 (mov 36 (v 45))])))))))))) (R [n 46 (bin 46 .add (v 22) (k 1)),n 22 (mov 22 (v 46))]))))))) (Q (R [n 2 (asg 2 k1)]) .ret)))
def c_S_TreeOk:Cmd:=Q (R [n 1 (box 1 (v 0)),n 2 (asg 2 k0)]) (Q (Q (D [0,1,3,7,15,31,63,15,143,399,1023,2047] [n 6 (ld 6 (v 1) 2 true),n 7 (call (some 7) 166 [v 6]),n 8 (un 8 .not (v 7)),n 9 (mov 9 (v 8)),h 9 false 10 (ld 10 (v 1) 2 true),h 9 false 11 (call (some 11) 72 [v 10]),h 9 false 12 (len 12 (v 11)),h 9 false 13 (fld 13 (v 1) 0),h 9 false 14 (ld 14 (v 13) 1 false),h 9 false 15 (len 15 (v 14)),h 9 false 16 (bin 16 .neq (v 12) (v 15)),n 17 (pck 17 (v 9) k1 (v 16))]) (F (v 17) (Q (R [n 2 (asg 2 k0)]) .ret) .skip)) (Q (Q (R [n 3 (asg 3 (k 0))]) (.blk 0 (.loop (Q (Q (R [n 18 (mov 18 (v 3)),n 19 (fld 19 (v 1) 0),n 20 (ld 20 (v 19) 1 false),n 21 (len 21 (v 20)),n 22 (bin 22 .lss (v 18) (v 21))]) (F (v 22) .skip (.exit 0))) (Q (.blk 1 (Q (R [n 25 (fld 25 (v 1) 0),n 26 (ld 26 (v 25) 1 false),n 27 (mov 27 (v 3)),n 28 (idx 28 (v 26) (v 27) 6),n 29 (ld 29 (v 28) 6 true),n 4 (alc 4 [.int .i64 0,.int .i64 0,.int .i64 0,.sl 1 [],.sl 2 [],.sl 2 []]),m (st (v 4) (v 29) 6)]) (Q (Q (D [0,0,2,7,0,16,63] [n 30 (ld 30 (v 1) 2 true),n 31 (fld 31 (v 4) 0),n 32 (ld 32 (v 31) 1 false),n 33 (call (some 33) 167 [v 30,v 32]),n 34 (fld 34 (v 4) 2),n 35 (ld 35 (v 34) 1 false),n 36 (bin 36 .neq (v 33) (v 35))]) (F (v 36) (Q (R [n 2 (asg 2 k0)]) .ret) .skip)) (Q (R [n 5 (asg 5 (k 0))]) (.blk 2 (.loop (Q (Q (R [n 37 (mov 37 (v 5)),n 38 (fld 38 (v 4) 4),n 39 (ld 39 (v 38) 1 false),n 40 (len 40 (v 39)),n 41 (bin 41 .lss (v 37) (v 40))]) (F (v 41) .skip (.exit 2))) (Q (.blk 3 (Q (D [0,0,2,0,14,30,62,127,255] [n 44 (ld 44 (v 1) 2 true),n 45 (fld 45 (v 4) 4),n 46 (ld 46 (v 45) 1 false),n 47 (mov 47 (v 5)),n 48 (idx 48 (v 46) (v 47) 2),n 49 (fld 49 (v 48) 1),n 50 (ld 50 (v 49) 1 false),n 51 (call (some 51) 168 [v 44,v 50]),n 52 (bin 52 .lss (v 51) (k 0))]) (F (v 52) (Q (R [n 2 (asg 2 k0)]) .ret) .skip))) (R [n 42 (mov 42 (v 5)),n 43 (bin 43 .add (v 42) (k 1)),n 5 (asg 5 (v 43))]))))))))) (R [n 23 (mov 23 (v 3)),n 24 (bin 24 .add (v 23) (k 1)),n 3 (asg 3 (v 24))])))))) (Q (R [n 2 (asg 2 k1)]) .ret)))
def c_I_Reached:Cmd:=Q (R [n 1 (box 1 (v 0)),n 2 (asg 2 (.c (.own 1 [])))]) (Q (R [n 10 (bsl 10 1 []),n 3 (asg 3 (v 10))]) (Q (R [n 11 (bsl 11 1 [k 1]),n 4 (asg 4 (v 11))]) (Q (.blk 0 (.loop (Q (Q (R [n 12 (mov 12 (v 4)),n 13 (len 13 (v 12)),n 14 (bin 14 .gtr (v 13) (k 0))]) (F (v 14) .skip (.exit 0))) (.blk 1 (Q (R [n 15 (mov 15 (v 4)),n 16 (idx 16 (v 15) (k 0) 1),n 17 (ld 17 (v 16) 1 false),n 5 (asg 5 (v 17))]) (Q (R [n 18 (mov 18 (v 4)),n 19 (slc 19 (v 18) (some (k 1)) none 1),n 4 (asg 4 (v 19))]) (Q (R [n 21 (ld 21 (v 1) 2 true),n 22 (mov 22 (v 5)),n 23 (call (some 23) 114 [v 21,v 22]),n 20 (mov 20 (v 23)),n 24 (xtr 24 (v 20) 0),n 25 (xtr 25 (v 20) 1),n 6 (alc 6 [.int .i64 0,.int .i64 0,.int .i64 0,.sl 1 [],.sl 2 [],.sl 2 []]),m (st (v 6) (v 24) 6),n 7 (asg 7 (v 25))]) (Q (Q (R [n 26 (mov 26 (v 7)),n 27 (un 27 .not (v 26)),n 28 (mov 28 (v 27)),h 28 false 29 (mov 29 (v 3)),h 28 false 30 (mov 30 (v 5)),h 28 false 31 (call (some 31) 169 [v 29,v 30]),n 32 (pck 32 (v 28) k1 (v 31))]) (F (v 32) (.exit 1) .skip)) (Q (R [n 33 (mov 33 (v 3)),n 34 (mov 34 (v 5)),n 35 (bsl 35 1 [v 34]),n 36 (app 36 (v 33) (v 35) 1 8),n 3 (asg 3 (v 36))]) (Q (R [n 37 (fld 37 (v 6) 1),n 38 (ld 38 (v 37) 1 false),n 39 (bin 39 .eql (v 38) (k 2))]) (F (v 39) (Q (R [n 40 (fld 40 (v 6) 4),n 41 (ld 41 (v 40) 1 false),n 42 (len 42 (v 41)),n 43 (mov 43 (k 0))]) (.blk 2 (.loop (Q (R [n 44 (bin 44 .lss (v 43) (v 42))]) (Q (F (v 44) .skip (.exit 2)) (Q (.blk 3 (Q (R [n 45 (idx 45 (v 41) (v 43) 2),n 46 (ld 46 (v 45) 2 true),n 9 (alc 9 [.str [],.int .i64 0]),m (st (v 9) (v 46) 2)]) (R [n 47 (mov 47 (v 4)),n 48 (fld 48 (v 9) 1),n 49 (ld 49 (v 48) 1 false),n 50 (bsl 50 1 [v 49]),n 51 (app 51 (v 47) (v 50) 1 8),n 4 (asg 4 (v 51))]))) (R [n 52 (bin 52 .add (v 43) (k 1)),n 43 (mov 43 (v 52))]))))))) .skip))))))))))) (Q (R [n 53 (mov 53 (v 3)),n 54 (call (some 54) 170 [v 53])]) (Q (R [n 55 (mov 55 (v 3)),n 2 (asg 2 (v 55))]) .ret)))))
def c_S_Reached:Cmd:=Q (R [n 1 (box 1 (v 0)),n 2 (asg 2 (.c (.own 1 [])))]) (Q (R [n 5 (bsl 5 1 []),n 3 (asg 3 (v 5))]) (Q (Q (R [n 6 (ld 6 (v 1) 2 true),n 7 (call (some 7) 168 [v 6,k 1]),n 8 (bin 8 .lss (v 7) (k 0))]) (F (v 8) (Q (R [n 9 (mov 9 (v 3)),n 2 (asg 2 (v 9))]) .ret) .skip)) (Q (R [n 10 (mov 10 (v 3)),n 11 (bsl 11 1 [k 1]),n 12 (app 12 (v 10) (v 11) 1 8),n 3 (asg 3 (v 12))]) (Q (Q (R [n 4 (asg 4 (k 0))]) (.blk 0 (.loop (Q (Q (R [n 13 (mov 13 (v 4)),n 14 (fld 14 (v 1) 0),n 15 (ld 15 (v 14) 1 false),n 16 (len 16 (v 15)),n 17 (bin 17 .lss (v 13) (v 16))]) (F (v 17) .skip (.exit 0))) (Q (.blk 1 (R [n 20 (ld 20 (v 1) 2 true),n 21 (mov 21 (v 3)),n 22 (call (some 22) 171 [v 20,v 21]),n 3 (asg 3 (v 22))])) (R [n 18 (mov 18 (v 4)),n 19 (bin 19 .add (v 18) (k 1)),n 4 (asg 4 (v 19))])))))) (Q (R [n 23 (mov 23 (v 3)),n 2 (asg 2 (v 23))]) .ret)))))
def c_I_Walk:Cmd:=Q (R [n 2 (box 2 (v 0)),n 4 (asg 4 (k 0)),n 5 (asg 5 (k 0))]) (Q (R [n 14 (mov 14 (v 1)),n 15 (call (some 15) 158 [v 14]),n 13 (mov 13 (v 15)),n 16 (xtr 16 (v 13) 0),n 17 (xtr 17 (v 13) 1),n 6 (asg 6 (v 16)),n 7 (asg 7 (v 17))]) (Q (Q (R [n 18 (mov 18 (v 7)),n 19 (un 19 .not (v 18))]) (F (v 19) (Q (R [n 4 (asg 4 (k 0)),n 5 (asg 5 (k 1))]) .ret) .skip)) (Q (R [n 8 (asg 8 (k 1))]) (Q (Q (R [n 20 (mov 20 (v 6)),n 21 (len 21 (v 20)),n 22 (mov 22 (k 0))]) (.blk 0 (.loop (Q (R [n 23 (bin 23 .lss (v 22) (v 21))]) (Q (F (v 23) .skip (.exit 0)) (Q (.blk 1 (Q (R [n 24 (idx 24 (v 20) (v 22) 1),n 25 (ld 25 (v 24) 1 false),n 10 (asg 10 (v 25))]) (Q (R [n 27 (ld 27 (v 2) 2 true),n 28 (mov 28 (v 8)),n 29 (call (some 29) 114 [v 27,v 28]),n 26 (mov 26 (v 29)),n 30 (xtr 30 (v 26) 0),n 31 (xtr 31 (v 26) 1),n 11 (alc 11 [.int .i64 0,.int .i64 0,.int .i64 0,.sl 1 [],.sl 2 [],.sl 2 []]),m (st (v 11) (v 30) 6),n 12 (asg 12 (v 31))]) (Q (.blk 2 (Q (R [n 33 (mov 33 (v 12)),n 34 (un 34 .not (v 33)),n 32 (asg 32 (v 34))]) (F (v 32) (Q (R [n 4 (asg 4 (k 0)),n 5 (asg 5 (k 2))]) .ret) (Q (R [n 36 (fld 36 (v 11) 1),n 37 (ld 37 (v 36) 1 false),n 38 (bin 38 .neq (v 37) (k 2)),n 35 (asg 35 (v 38))]) (F (v 35) (Q (R [n 4 (asg 4 (k 0)),n 5 (asg 5 (k 3))]) .ret) .skip))))) (Q (R [n 39 (ld 39 (v 11) 6 true),n 40 (mov 40 (v 10)),n 41 (call (some 41) 113 [v 39,v 40]),n 8 (asg 8 (v 41))]) (Q (R [n 42 (mov 42 (v 8)),n 43 (bin 43 .eql (v 42) (k 0))]) (F (v 43) (Q (R [n 4 (asg 4 (k 0)),n 5 (asg 5 (k 2))]) .ret) .skip))))))) (R [n 44 (bin 44 .add (v 22) (k 1)),n 22 (mov 22 (v 44))]))))))) (Q (R [n 45 (mov 45 (v 8)),n 4 (asg 4 (v 45)),n 5 (asg 5 (k 0))]) .ret)))))
def c_L_szInodeS:Cmd:=Q (R [n 4 (asg 4 (k 0))]) (Q (R [n 6 (mov 6 (v 1)),n 7 (mov 7 (v 0)),n 8 (len 8 (v 7)),n 9 (bin 9 .sub (v 6) (v 8)),n 1 (asg 1 (v 9))]) (Q (Q (R [n 10 (mov 10 (v 1)),n 11 (bin 11 .lss (v 10) (k 0))]) (F (v 11) (Q (R [n 4 (asg 4 (k (-1)))]) .ret) .skip)) (Q (Q (R [n 5 (asg 5 (k 0))]) (.blk 0 (.loop (Q (Q (R [n 12 (mov 12 (v 5)),n 13 (mov 13 (v 0)),n 14 (len 14 (v 13)),n 15 (bin 15 .lss (v 12) (v 14))]) (F (v 15) .skip (.exit 0))) (Q (.blk 1 (Q (R [n 18 (mov 18 (v 0)),n 19 (mov 19 (v 5)),n 20 (idx 20 (v 18) (v 19) 6),n 21 (ld 21 (v 20) 6 true),n 22 (mov 22 (v 1)),n 23 (call (some 23) 185 [v 21,v 22]),n 1 (asg 1 (v 23))]) (Q (R [n 24 (mov 24 (v 1)),n 25 (bin 25 .lss (v 24) (k 0))]) (F (v 25) (Q (R [n 4 (asg 4 (k (-1)))]) .ret) .skip)))) (R [n 16 (mov 16 (v 5)),n 17 (bin 17 .add (v 16) (k 1)),n 5 (asg 5 (v 17))])))))) (Q (R [n 26 (mov 26 (v 1)),n 4 (asg 4 (v 26))]) .ret))))
def c_S_ParentOf:Cmd:=Q (R [n 2 (asg 2 (.c (.str []))),n 3 (asg 3 (.c (.str []))),n 4 (asg 4 k0)]) (Q (R [n 9 (mov 9 (v 0)),n 10 (call (some 10) 174 [v 9]),n 8 (mov 8 (v 10)),n 11 (xtr 11 (v 8) 0),n 12 (xtr 12 (v 8) 1),n 5 (asg 5 (v 11)),n 6 (asg 6 (v 12))]) (Q (Q (R [n 13 (mov 13 (v 6)),n 14 (un 14 .not (v 13)),n 15 (mov 15 (v 14)),h 15 false 16 (mov 16 (v 5)),h 15 false 17 (len 17 (v 16)),h 15 false 18 (bin 18 .eql (v 17) (k 0)),n 19 (pck 19 (v 15) k1 (v 18))]) (F (v 19) (Q (R [n 2 (asg 2 (.c (.str []))),n 3 (asg 3 (.c (.str []))),n 4 (asg 4 k0)]) .ret) .skip)) (Q (R [n 20 (mov 20 (v 5)),n 21 (len 21 (v 20)),n 22 (bin 22 .sub (v 21) (k 1)),n 7 (asg 7 (v 22))]) (Q (D [0,0,3,7,0,0,48,112,15,511,1023] [n 23 (mov 23 (v 5)),n 24 (mov 24 (v 7)),n 25 (slc 25 (v 23) none (some (v 24)) 1),n 26 (call (some 26) 186 [v 25]),n 27 (mov 27 (v 5)),n 28 (mov 28 (v 7)),n 29 (idx 29 (v 27) (v 28) 1),n 30 (ld 30 (v 29) 1 false),n 2 (asg 2 (v 26)),n 3 (asg 3 (v 30)),n 4 (asg 4 k1)]) .ret))))
def c_S_l4Copy:Cmd:=Q (R [n 1 (box 1 (v 0)),n 2 (alc 2 [.sl 6 [],.int .i64 0])]) (Q (R [n 5 (fld 5 (v 1) 1),n 6 (ld 6 (v 5) 1 false),n 7 (bld 7 [.sl 6 [],.int .i64 0] [(1,1,v 6)]),n 3 (alc 3 [.sl 6 [],.int .i64 0]),m (st (v 3) (v 7) 2)]) (Q (Q (R [n 4 (asg 4 (k 0))]) (.blk 0 (.loop (Q (Q (R [n 8 (mov 8 (v 4)),n 9 (fld 9 (v 1) 0),n 10 (ld 10 (v 9) 1 false),n 11 (len 11 (v 10)),n 12 (bin 12 .lss (v 8) (v 11))]) (F (v 12) .skip (.exit 0))) (Q (.blk 1 (D [0,1,0,4,0,28,60,124,252,511,1023,2047] [n 15 (fld 15 (v 3) 0),n 16 (ld 16 (v 15) 1 false),n 17 (fld 17 (v 1) 0),n 18 (ld 18 (v 17) 1 false),n 19 (mov 19 (v 4)),n 20 (idx 20 (v 18) (v 19) 6),n 21 (ld 21 (v 20) 6 true),n 22 (call (some 22) 187 [v 21]),n 23 (bsl 23 6 [v 22]),n 24 (app 24 (v 16) (v 23) 6 96),n 25 (fld 25 (v 3) 0),m (st (v 25) (v 24) 1)])) (R [n 13 (mov 13 (v 4)),n 14 (bin 14 .add (v 13) (k 1)),n 4 (asg 4 (v 14))])))))) (Q (R [n 26 (ld 26 (v 3) 2 true),m (st (v 2) (v 26) 2)]) .ret)))
def c_S_l6File:Cmd:=Q (R [n 2 (box 2 (v 0)),n 4 (alc 4 [.int .i64 0,.int .i64 0,.int .i64 0,.sl 1 [],.sl 2 [],.sl 2 []]),n 5 (asg 5 (k 0))]) (Q (R [n 9 (ld 9 (v 2) 2 true),n 10 (mov 10 (v 1)),n 11 (call (some 11) 110 [v 9,v 10]),n 8 (mov 8 (v 11)),n 12 (xtr 12 (v 8) 0),n 13 (xtr 13 (v 8) 1),n 6 (alc 6 [.int .i64 0,.int .i64 0,.int .i64 0,.sl 1 [],.sl 2 [],.sl 2 []]),m (st (v 6) (v 12) 6),n 7 (asg 7 (v 13))]) (Q (Q (R [n 14 (mov 14 (v 7)),n 15 (bin 15 .eql (v 14) (k 0)),n 16 (mov 16 (v 15)),h 16 true 17 (fld 17 (v 6) 1),h 16 true 18 (ld 18 (v 17) 1 false),h 16 true 19 (bin 19 .neq (v 18) (k 1)),n 20 (pck 20 (v 16) (v 19) k0)]) (F (v 20) (Q (R [n 21 (bld 21 [.int .i64 0,.int .i64 0,.int .i64 0,.sl 1 [],.sl 2 [],.sl 2 []] []),m (st (v 4) (v 21) 6),n 5 (asg 5 (k 3))]) .ret) .skip)) (Q (R [n 22 (ld 22 (v 6) 6 true),n 23 (mov 23 (v 7)),m (st (v 4) (v 22) 6),n 5 (asg 5 (v 23))]) .ret)))
def c_S_l6Drop:Cmd:=Q (R [n 2 (box 2 (v 0)),n 4 (alc 4 [.sl 6 [],.int .i64 0])]) (Q (R [n 11 (mov 11 (v 1)),n 12 (call (some 12) 90 [v 11]),n 10 (mov 10 (v 12)),n 13 (xtr 13 (v 10) 0),n 14 (xtr 14 (v 10) 1),n 15 (xtr 15 (v 10) 2),n 5 (asg 5 (v 13)),n 6 (asg 6 (v 14)),n 7 (asg 7 (v 15))]) (Q (R [n 17 (ld 17 (v 2) 2 true),n 18 (mov 18 (v 5)),n 19 (call (some 19) 110 [v 17,v 18]),n 16 (mov 16 (v 19)),n 20 (xtr 20 (v 16) 0),n 21 (xtr 21 (v 16) 1),n 8 (alc 8 [.int .i64 0,.int .i64 0,.int .i64 0,.sl 1 [],.sl 2 [],.sl 2 []]),m (st (v 8) (v 20) 6),n 9 (asg 9 (v 21))]) (Q (R [n 22 (fld 22 (v 8) 4),n 23 (ld 23 (v 22) 1 false),n 24 (mov 24 (v 6)),n 25 (call (some 25) 188 [v 23,v 24]),n 26 (fld 26 (v 8) 4),m (st (v 26) (v 25) 1)]) (Q (R [n 27 (ld 27 (v 2) 2 true),n 28 (ld 28 (v 8) 6 true),n 29 (call (some 29) 95 [v 27,v 28]),m (st (v 4) (v 29) 2)]) .ret))))
def c_S_DropInode:Cmd:=Q (R [n 2 (box 2 (v 0)),n 4 (alc 4 [.sl 6 [],.int .i64 0])]) (Q (R [n 7 (fld 7 (v 2) 1),n 8 (ld 8 (v 7) 1 false),n 9 (bld 9 [.sl 6 [],.int .i64 0] [(1,1,v 8)]),n 5 (alc 5 [.sl 6 [],.int .i64 0]),m (st (v 5) (v 9) 2)]) (Q (Q (R [n 6 (asg 6 (k 0))]) (.blk 0 (.loop (Q (Q (R [n 10 (mov 10 (v 6)),n 11 (fld 11 (v 2) 0),n 12 (ld 12 (v 11) 1 false),n 13 (len 13 (v 12)),n 14 (bin 14 .lss (v 10) (v 13))]) (F (v 14) .skip (.exit 0))) (Q (.blk 1 (Q (R [n 17 (fld 17 (v 2) 0),n 18 (ld 18 (v 17) 1 false),n 19 (mov 19 (v 6)),n 20 (idx 20 (v 18) (v 19) 6),n 21 (fld 21 (v 20) 0),n 22 (ld 22 (v 21) 1 false),n 23 (mov 23 (v 1)),n 24 (bin 24 .neq (v 22) (v 23))]) (F (v 24) (D [0,1,0,4,0,28,60,124,252,511,1023,2047] [n 25 (fld 25 (v 5) 0),n 26 (ld 26 (v 25) 1 false),n 27 (fld 27 (v 2) 0),n 28 (ld 28 (v 27) 1 false),n 29 (mov 29 (v 6)),n 30 (idx 30 (v 28) (v 29) 6),n 31 (ld 31 (v 30) 6 true),n 32 (call (some 32) 187 [v 31]),n 33 (bsl 33 6 [v 32]),n 34 (app 34 (v 26) (v 33) 6 96),n 35 (fld 35 (v 5) 0),m (st (v 35) (v 34) 1)]) .skip))) (R [n 15 (mov 15 (v 6)),n 16 (bin 16 .add (v 15) (k 1)),n 6 (asg 6 (v 16))])))))) (Q (R [n 36 (ld 36 (v 5) 2 true),m (st (v 4) (v 36) 2)]) .ret)))
def c_S_SetInode:Cmd:=Q (R [n 2 (box 2 (v 0)),n 3 (box 3 (v 1)),n 4 (alc 4 [.sl 6 [],.int .i64 0])]) (Q (R [n 8 (ld 8 (v 2) 2 true),n 9 (call (some 9) 91 [v 8]),n 5 (alc 5 [.sl 6 [],.int .i64 0]),m (st (v 5) (v 9) 2)]) (Q (R [n 10 (ld 10 (v 2) 2 true),n 11 (fld 11 (v 3) 0),n 12 (ld 12 (v 11) 1 false),n 13 (call (some 13) 168 [v 10,v 12]),n 6 (asg 6 (v 13))]) (Q (Q (R [n 14 (mov 14 (v 6)),n 15 (bin 15 .geq (v 14) (k 0))]) (F (v 15) (Q (D [0,1,0,0,8,31,63] [n 16 (fld 16 (v 5) 0),n 17 (ld 17 (v 16) 1 false),n 18 (mov 18 (v 6)),n 19 (ld 19 (v 3) 6 true),n 20 (call (some 20) 187 [v 19]),n 21 (idx 21 (v 17) (v 18) 6),m (st (v 21) (v 20) 6)]) (Q (R [n 22 (ld 22 (v 5) 2 true),m (st (v 4) (v 22) 2)]) .ret)) .skip)) (Q (R [n 6 (asg 6 (k 0))]) (Q (.blk 0 (.loop (Q (Q (D [0,0,2,6,15,31,63,127,63,511,1023,2047,63,4159,16383,32767] [n 23 (mov 23 (v 6)),n 24 (fld 24 (v 2) 0),n 25 (ld 25 (v 24) 1 false),n 26 (len 26 (v 25)),n 27 (bin 27 .lss (v 23) (v 26)),n 28 (mov 28 (v 27)),h 28 true 29 (fld 29 (v 2) 0),h 28 true 30 (ld 30 (v 29) 1 false),h 28 true 31 (mov 31 (v 6)),h 28 true 32 (idx 32 (v 30) (v 31) 6),h 28 true 33 (fld 33 (v 32) 0),h 28 true 34 (ld 34 (v 33) 1 false),h 28 true 35 (fld 35 (v 3) 0),h 28 true 36 (ld 36 (v 35) 1 false),h 28 true 37 (bin 37 .lss (v 34) (v 36)),n 38 (pck 38 (v 28) (v 37) k0)]) (F (v 38) .skip (.exit 0))) (.blk 1 (R [n 39 (mov 39 (v 6)),n 40 (bin 40 .add (v 39) (k 1)),n 6 (asg 6 (v 40))]))))) (Q (D [0,0,2,0,14,31,0,127,255,511,1023] [n 41 (bsl 41 6 []),n 42 (fld 42 (v 5) 0),n 43 (ld 43 (v 42) 1 false),n 44 (mov 44 (v 6)),n 45 (slc 45 (v 43) none (some (v 44)) 6),n 46 (app 46 (v 41) (v 45) 6 96),n 47 (ld 47 (v 3) 6 true),n 48 (call (some 48) 187 [v 47]),n 49 (bsl 49 6 [v 48]),n 50 (app 50 (v 46) (v 49) 6 96),n 7 (asg 7 (v 50))]) (Q (R [n 51 (mov 51 (v 7)),n 52 (fld 52 (v 5) 0),n 53 (ld 53 (v 52) 1 false),n 54 (mov 54 (v 6)),n 55 (slc 55 (v 53) (some (v 54)) none 6),n 56 (app 56 (v 51) (v 55) 6 96),n 57 (fld 57 (v 5) 0),m (st (v 57) (v 56) 1)]) (Q (R [n 58 (ld 58 (v 5) 2 true),m (st (v 4) (v 58) 2)]) .ret))))))))
def c_L_toInodeS:Cmd:=Q (R [n 2 (asg 2 (.c (.own 6 [])))]) (Q (R [n 5 (mov 5 (v 0)),n 6 (len 6 (v 5)),n 7 (mks 7 (v 6) (v 6) 6 96 [.int .i64 0,.int .i64 0,.int .i64 0,.sl 1 [],.sl 2 [],.sl 2 []]),n 3 (asg 3 (v 7))]) (Q (Q (R [n 4 (asg 4 (k 0))]) (.blk 0 (.loop (Q (Q (R [n 8 (mov 8 (v 4)),n 9 (mov 9 (v 0)),n 10 (len 10 (v 9)),n 11 (bin 11 .lss (v 8) (v 10))]) (F (v 11) .skip (.exit 0))) (Q (.blk 1 (R [n 14 (mov 14 (v 3)),n 15 (mov 15 (v 4)),n 16 (mov 16 (v 0)),n 17 (mov 17 (v 4)),n 18 (idx 18 (v 16) (v 17) 6),n 19 (ld 19 (v 18) 6 true),n 20 (call (some 20) 189 [v 19]),n 21 (idx 21 (v 14) (v 15) 6),m (st (v 21) (v 20) 6)])) (R [n 12 (mov 12 (v 4)),n 13 (bin 13 .add (v 12) (k 1)),n 4 (asg 4 (v 13))])))))) (Q (R [n 22 (mov 22 (v 3)),n 2 (asg 2 (v 22))]) .ret)))
def c_I_copyTab:Cmd:=Q (R [n 1 (box 1 (v 0)),n 2 (alc 2 [.sl 6 [],.int .i64 0])]) (Q (R [n 6 (fld 6 (v 1) 1),n 7 (ld 7 (v 6) 1 false),n 8 (bld 8 [.sl 6 [],.int .i64 0] [(1,1,v 7)]),n 3 (alc 3 [.sl 6 [],.int .i64 0]),m (st (v 3) (v 8) 2)]) (Q (Q (R [n 9 (fld 9 (v 1) 0),n 10 (ld 10 (v 9) 1 false),n 11 (len 11 (v 10)),n 12 (mov 12 (k 0))]) (.blk 0 (.loop (Q (R [n 13 (bin 13 .lss (v 12) (v 11))]) (Q (F (v 13) .skip (.exit 0)) (Q (.blk 1 (Q (R [n 14 (idx 14 (v 10) (v 12) 6),n 15 (ld 15 (v 14) 6 true),n 5 (alc 5 [.int .i64 0,.int .i64 0,.int .i64 0,.sl 1 [],.sl 2 [],.sl 2 []]),m (st (v 5) (v 15) 6)]) (D [0,1,0,4,12,31,63,127] [n 16 (fld 16 (v 3) 0),n 17 (ld 17 (v 16) 1 false),n 18 (ld 18 (v 5) 6 true),n 19 (call (some 19) 190 [v 18]),n 20 (bsl 20 6 [v 19]),n 21 (app 21 (v 17) (v 20) 6 96),n 22 (fld 22 (v 3) 0),m (st (v 22) (v 21) 1)]))) (R [n 23 (bin 23 .add (v 12) (k 1)),n 12 (mov 12 (v 23))]))))))) (Q (R [n 24 (ld 24 (v 3) 2 true),m (st (v 2) (v 24) 2)]) .ret)))
def c_I_ready:Cmd:=Q (R [n 2 (box 2 (v 0)),n 4 (asg 4 k0)]) (Q (Q (R [n 9 (mov 9 (v 1)),n 10 (len 10 (v 9)),n 11 (mov 11 (k 0))]) (.blk 0 (.loop (Q (R [n 12 (bin 12 .lss (v 11) (v 10))]) (Q (F (v 12) .skip (.exit 0)) (Q (.blk 1 (Q (R [n 13 (idx 13 (v 9) (v 11) 1),n 14 (ld 14 (v 13) 1 false),n 6 (asg 6 (v 14))]) (Q (R [n 16 (mov 16 (v 6)),n 17 (call (some 17) 158 [v 16]),n 15 (mov 15 (v 17)),n 18 (xtr 18 (v 15) 0),n 19 (xtr 19 (v 15) 1),n 7 (asg 7 (v 18)),n 8 (asg 8 (v 19))]) (Q (R [n 20 (mov 20 (v 8)),n 21 (un 21 .not (v 20))]) (F (v 21) (Q (R [n 4 (asg 4 k0)]) .ret) .skip))))) (R [n 22 (bin 22 .add (v 11) (k 1)),n 11 (mov 11 (v 22))]))))))) (Q (R [n 23 (ld 23 (v 2) 2 true),n 24 (call (some 24) 62 [v 23]),n 4 (asg 4 (v 24))]) .ret))
def c_I_fileAt:Cmd:=Q (R [n 2 (box 2 (v 0)),n 4 (alc 4 [.int .i64 0,.int .i64 0,.int .i64 0,.sl 1 [],.sl 2 [],.sl 2 []]),n 5 (asg 5 (k 0))]) (Q (R [n 9 (ld 9 (v 2) 2 true),n 10 (mov 10 (v 1)),n 11 (call (some 11) 112 [v 9,v 10]),n 8 (mov 8 (v 11)),n 12 (xtr 12 (v 8) 0),n 13 (xtr 13 (v 8) 1),n 6 (alc 6 [.int .i64 0,.int .i64 0,.int .i64 0,.sl 1 [],.sl 2 [],.sl 2 []]),m (st (v 6) (v 12) 6),n 7 (asg 7 (v 13))]) (Q (Q (R [n 14 (mov 14 (v 7)),n 15 (bin 15 .eql (v 14) (k 0)),n 16 (mov 16 (v 15)),h 16 true 17 (fld 17 (v 6) 1),h 16 true 18 (ld 18 (v 17) 1 false),h 16 true 19 (bin 19 .neq (v 18) (k 1)),n 20 (pck 20 (v 16) (v 19) k0)]) (F (v 20) (R [n 7 (asg 7 (k 3))]) .skip)) (Q (R [n 21 (ld 21 (v 6) 6 true),n 22 (mov 22 (v 7)),m (st (v 4) (v 21) 6),n 5 (asg 5 (v 22))]) .ret)))
def c_I_spotOf:Cmd:=Q (R [n 2 (box 2 (v 0)),n 4 (alc 4 [.int .i64 0,.int .i64 0,.int .i64 0,.sl 1 [],.sl 2 [],.sl 2 [],.str []]),n 5 (asg 5 (k 0))]) (Q (R [n 12 (mov 12 (v 1)),n 13 (call (some 13) 191 [v 12]),n 11 (mov 11 (v 13)),n 14 (xtr 14 (v 11) 0),n 15 (xtr 15 (v 11) 1),n 16 (xtr 16 (v 11) 2),n 6 (asg 6 (v 14)),n 7 (asg 7 (v 15)),n 8 (asg 8 (v 16))]) (Q (R [n 18 (ld 18 (v 2) 2 true),n 19 (mov 19 (v 6)),n 20 (call (some 20) 112 [v 18,v 19]),n 17 (mov 17 (v 20)),n 21 (xtr 21 (v 17) 0),n 22 (xtr 22 (v 17) 1),n 9 (alc 9 [.int .i64 0,.int .i64 0,.int .i64 0,.sl 1 [],.sl 2 [],.sl 2 []]),m (st (v 9) (v 21) 6),n 10 (asg 10 (v 22))]) (Q (Q (R [n 23 (mov 23 (v 10)),n 24 (bin 24 .neq (v 23) (k 0))]) (F (v 24) (Q (R [n 25 (bld 25 [.int .i64 0,.int .i64 0,.int .i64 0,.sl 1 [],.sl 2 [],.sl 2 [],.str []] []),n 26 (mov 26 (v 10)),m (st (v 4) (v 25) 7),n 5 (asg 5 (v 26))]) .ret) .skip)) (Q (Q (R [n 27 (fld 27 (v 9) 1),n 28 (ld 28 (v 27) 1 false),n 29 (bin 29 .neq (v 28) (k 2))]) (F (v 29) (Q (R [n 30 (bld 30 [.int .i64 0,.int .i64 0,.int .i64 0,.sl 1 [],.sl 2 [],.sl 2 [],.str []] []),m (st (v 4) (v 30) 7),n 5 (asg 5 (k 3))]) .ret) .skip)) (Q (R [n 31 (ld 31 (v 9) 6 true),n 32 (mov 32 (v 7)),n 33 (bld 33 [.int .i64 0,.int .i64 0,.int .i64 0,.sl 1 [],.sl 2 [],.sl 2 [],.str []] [(0,6,v 31),(6,1,v 32)]),m (st (v 4) (v 33) 7),n 5 (asg 5 (k 0))]) .ret)))))
def c_I_spot_leave:Cmd:=Q (R [n 2 (box 2 (v 0)),n 3 (box 3 (v 1)),n 4 (alc 4 [.sl 6 [],.int .i64 0])]) (Q (R [n 5 (fld 5 (v 2) 0),n 6 (fld 6 (v 5) 4),n 7 (ld 7 (v 6) 1 false),n 8 (call (some 8) 193 [v 7]),n 9 (mkf 9 194 [v 2]),n 10 (call (some 10) 192 [v 8,v 9]),n 11 (fld 11 (v 2) 0),n 12 (fld 12 (v 11) 4),m (st (v 12) (v 10) 1)]) (Q (R [n 13 (ld 13 (v 3) 2 true),n 14 (fld 14 (v 2) 0),n 15 (ld 15 (v 14) 6 true),n 16 (call (some 16) 103 [v 13,v 15]),m (st (v 4) (v 16) 2)]) .ret))
def c_I_DropInode:Cmd:=Q (R [n 2 (box 2 (v 0)),n 3 (box 3 (v 1)),n 4 (alc 4 [.sl 6 [],.int .i64 0])]) (Q (R [n 5 (ld 5 (v 2) 2 true),n 6 (call (some 6) 97 [v 5]),m (st (v 2) (v 6) 2)]) (Q (R [n 7 (fld 7 (v 2) 0),n 8 (ld 8 (v 7) 1 false),n 9 (mkf 9 196 [v 3]),n 10 (call (some 10) 195 [v 8,v 9]),n 11 (fld 11 (v 2) 0),m (st (v 11) (v 10) 1)]) (Q (R [n 12 (ld 12 (v 2) 2 true),m (st (v 4) (v 12) 2)]) .ret)))
def c_I_SetInode:Cmd:=Q (R [n 2 (box 2 (v 0)),n 3 (box 3 (v 1)),n 4 (alc 4 [.sl 6 [],.int .i64 0])]) (Q (R [n 7 (ld 7 (v 2) 2 true),n 8 (call (some 8) 97 [v 7]),m (st (v 2) (v 8) 2)]) (Q (R [n 9 (ld 9 (v 3) 6 true),n 10 (call (some 10) 190 [v 9]),m (st (v 3) (v 10) 6)]) (Q (Q (R [n 11 (ld 11 (v 2) 2 true),n 12 (fld 12 (v 3) 0),n 13 (ld 13 (v 12) 1 false),n 14 (call (some 14) 154 [v 11,v 13]),n 5 (asg 5 (v 14))]) (Q (R [n 15 (mov 15 (v 5)),n 16 (bin 16 .geq (v 15) (k 0))]) (F (v 16) (Q (R [n 17 (fld 17 (v 2) 0),n 18 (ld 18 (v 17) 1 false),n 19 (mov 19 (v 5)),n 20 (ld 20 (v 3) 6 true),n 21 (idx 21 (v 18) (v 19) 6),m (st (v 21) (v 20) 6)]) (Q (R [n 22 (ld 22 (v 2) 2 true),m (st (v 4) (v 22) 2)]) .ret)) .skip))) (Q (R [n 23 (fld 23 (v 2) 0),n 24 (ld 24 (v 23) 1 false),n 25 (mkf 25 198 [v 3]),n 26 (call (some 26) 197 [v 24,v 25]),n 6 (asg 6 (v 26))]) (Q (Q (R [n 27 (mov 27 (v 6)),n 28 (bin 28 .lss (v 27) (k 0))]) (F (v 28) (R [n 29 (fld 29 (v 2) 0),n 30 (ld 30 (v 29) 1 false),n 31 (len 31 (v 30)),n 6 (asg 6 (v 31))]) .skip)) (Q (R [n 32 (fld 32 (v 2) 0),n 33 (ld 33 (v 32) 1 false),n 34 (mov 34 (v 6)),n 35 (ld 35 (v 3) 6 true),n 36 (bsl 36 6 [v 35]),n 37 (call (some 37) 199 [v 33,v 34,v 36]),n 38 (fld 38 (v 2) 0),m (st (v 38) (v 37) 1)]) (Q (R [n 39 (ld 39 (v 2) 2 true),m (st (v 4) (v 39) 2)]) .ret)))))))
def c_L_eqInodeS:Cmd:=Q (R [n 4 (asg 4 k0)]) (Q (Q (R [n 6 (mov 6 (v 0)),n 7 (len 7 (v 6)),n 8 (mov 8 (v 1)),n 9 (len 9 (v 8)),n 10 (bin 10 .neq (v 7) (v 9))]) (F (v 10) (Q (R [n 4 (asg 4 k0)]) .ret) .skip)) (Q (Q (R [n 5 (asg 5 (k 0))]) (.blk 0 (.loop (Q (Q (R [n 11 (mov 11 (v 5)),n 12 (mov 12 (v 0)),n 13 (len 13 (v 12)),n 14 (bin 14 .lss (v 11) (v 13))]) (F (v 14) .skip (.exit 0))) (Q (.blk 1 (Q (D [0,0,3,7,0,0,48,112,255,511] [n 17 (mov 17 (v 0)),n 18 (mov 18 (v 5)),n 19 (idx 19 (v 17) (v 18) 6),n 20 (ld 20 (v 19) 6 true),n 21 (mov 21 (v 1)),n 22 (mov 22 (v 5)),n 23 (idx 23 (v 21) (v 22) 6),n 24 (ld 24 (v 23) 6 true),n 25 (call (some 25) 200 [v 20,v 24]),n 26 (un 26 .not (v 25))]) (F (v 26) (Q (R [n 4 (asg 4 k0)]) .ret) .skip))) (R [n 15 (mov 15 (v 5)),n 16 (bin 16 .add (v 15) (k 1)),n 5 (asg 5 (v 16))])))))) (Q (R [n 4 (asg 4 k1)]) .ret)))
def c_L_markInodeS:Cmd:=Q (R [n 4 (asg 4 (k 0))]) (Q (Q (R [n 5 (asg 5 (k 0))]) (.blk 0 (.loop (Q (Q (R [n 6 (mov 6 (v 5)),n 7 (mov 7 (v 0)),n 8 (len 8 (v 7)),n 9 (bin 9 .lss (v 6) (v 8))]) (F (v 9) .skip (.exit 0))) (Q (.blk 1 (Q (R [n 12 (mov 12 (v 0)),n 13 (mov 13 (v 5)),n 14 (mov 14 (v 1)),n 15 (idx 15 (v 12) (v 13) 6),n 16 (fld 16 (v 15) 0),m (st (v 16) (v 14) 1)]) (Q (R [n 17 (mov 17 (v 1)),n 18 (bin 18 .add (v 17) (k 1)),n 1 (asg 1 (v 18))]) (Q (R [n 19 (mov 19 (v 0)),n 20 (mov 20 (v 5)),n 21 (mov 21 (v 1)),n 22 (idx 22 (v 19) (v 20) 6),n 23 (fld 23 (v 22) 1),m (st (v 23) (v 21) 1)]) (Q (R [n 24 (mov 24 (v 1)),n 25 (bin 25 .add (v 24) (k 1)),n 1 (asg 1 (v 25))]) (Q (R [n 26 (mov 26 (v 0)),n 27 (mov 27 (v 5)),n 28 (mov 28 (v 1)),n 29 (idx 29 (v 26) (v 27) 6),n 30 (fld 30 (v 29) 2),m (st (v 30) (v 28) 1)]) (Q (R [n 31 (mov 31 (v 1)),n 32 (bin 32 .add (v 31) (k 1)),n 1 (asg 1 (v 32))]) (Q (R [n 33 (mov 33 (v 0)),n 34 (mov 34 (v 5)),n 35 (idx 35 (v 33) (v 34) 6),n 36 (fld 36 (v 35) 3),n 37 (ld 37 (v 36) 1 false),n 38 (mov 38 (v 1)),n 39 (call (some 39) 133 [v 37,v 38]),n 1 (asg 1 (v 39))]) (Q (R [n 40 (mov 40 (v 0)),n 41 (mov 41 (v 5)),n 42 (idx 42 (v 40) (v 41) 6),n 43 (fld 43 (v 42) 4),n 44 (ld 44 (v 43) 1 false),n 45 (mov 45 (v 1)),n 46 (call (some 46) 201 [v 44,v 45]),n 1 (asg 1 (v 46))]) (R [n 47 (mov 47 (v 0)),n 48 (mov 48 (v 5)),n 49 (idx 49 (v 47) (v 48) 6),n 50 (fld 50 (v 49) 5),n 51 (ld 51 (v 50) 1 false),n 52 (mov 52 (v 1)),n 53 (call (some 53) 202 [v 51,v 52]),n 1 (asg 1 (v 53))])))))))))) (R [n 10 (mov 10 (v 5)),n 11 (bin 11 .add (v 10) (k 1)),n 5 (asg 5 (v 11))])))))) (Q (R [n 54 (mov 54 (v 1)),n 4 (asg 4 (v 54))]) .ret))
def c_L_heldInodeS:Cmd:=Q (R [n 4 (asg 4 (k 0))]) (Q (Q (R [n 5 (asg 5 (k 0))]) (.blk 0 (.loop (Q (Q (R [n 6 (mov 6 (v 5)),n 7 (mov 7 (v 0)),n 8 (len 8 (v 7)),n 9 (bin 9 .lss (v 6) (v 8))]) (F (v 9) .skip (.exit 0))) (Q (.blk 1 (Q (Q (R [n 12 (mov 12 (v 0)),n 13 (mov 13 (v 5)),n 14 (idx 14 (v 12) (v 13) 6),n 15 (fld 15 (v 14) 0),n 16 (ld 16 (v 15) 1 false),n 17 (mov 17 (v 1)),n 18 (bin 18 .neq (v 16) (v 17))]) (F (v 18) (Q (R [n 4 (asg 4 (k (-1)))]) .ret) .skip)) (Q (R [n 19 (mov 19 (v 1)),n 20 (bin 20 .add (v 19) (k 1)),n 1 (asg 1 (v 20))]) (Q (Q (R [n 21 (mov 21 (v 0)),n 22 (mov 22 (v 5)),n 23 (idx 23 (v 21) (v 22) 6),n 24 (fld 24 (v 23) 1),n 25 (ld 25 (v 24) 1 false),n 26 (mov 26 (v 1)),n 27 (bin 27 .neq (v 25) (v 26))]) (F (v 27) (Q (R [n 4 (asg 4 (k (-1)))]) .ret) .skip)) (Q (R [n 28 (mov 28 (v 1)),n 29 (bin 29 .add (v 28) (k 1)),n 1 (asg 1 (v 29))]) (Q (Q (R [n 30 (mov 30 (v 0)),n 31 (mov 31 (v 5)),n 32 (idx 32 (v 30) (v 31) 6),n 33 (fld 33 (v 32) 2),n 34 (ld 34 (v 33) 1 false),n 35 (mov 35 (v 1)),n 36 (bin 36 .neq (v 34) (v 35))]) (F (v 36) (Q (R [n 4 (asg 4 (k (-1)))]) .ret) .skip)) (Q (R [n 37 (mov 37 (v 1)),n 38 (bin 38 .add (v 37) (k 1)),n 1 (asg 1 (v 38))]) (Q (R [n 39 (mov 39 (v 0)),n 40 (mov 40 (v 5)),n 41 (idx 41 (v 39) (v 40) 6),n 42 (fld 42 (v 41) 3),n 43 (ld 43 (v 42) 1 false),n 44 (mov 44 (v 1)),n 45 (call (some 45) 203 [v 43,v 44]),n 1 (asg 1 (v 45))]) (Q (Q (R [n 46 (mov 46 (v 1)),n 47 (bin 47 .lss (v 46) (k 0))]) (F (v 47) (Q (R [n 4 (asg 4 (k (-1)))]) .ret) .skip)) (Q (R [n 48 (mov 48 (v 0)),n 49 (mov 49 (v 5)),n 50 (idx 50 (v 48) (v 49) 6),n 51 (fld 51 (v 50) 4),n 52 (ld 52 (v 51) 1 false),n 53 (mov 53 (v 1)),n 54 (call (some 54) 204 [v 52,v 53]),n 1 (asg 1 (v 54))]) (Q (Q (R [n 55 (mov 55 (v 1)),n 56 (bin 56 .lss (v 55) (k 0))]) (F (v 56) (Q (R [n 4 (asg 4 (k (-1)))]) .ret) .skip)) (Q (R [n 57 (mov 57 (v 0)),n 58 (mov 58 (v 5)),n 59 (idx 59 (v 57) (v 58) 6),n 60 (fld 60 (v 59) 5),n 61 (ld 61 (v 60) 1 false),n 62 (mov 62 (v 1)),n 63 (call (some 63) 205 [v 61,v 62]),n 1 (asg 1 (v 63))]) (Q (R [n 64 (mov 64 (v 1)),n 65 (bin 65 .lss (v 64) (k 0))]) (F (v 65) (Q (R [n 4 (asg 4 (k (-1)))]) .ret) .skip)))))))))))))) (R [n 10 (mov 10 (v 5)),n 11 (bin 11 .add (v 10) (k 1)),n 5 (asg 5 (v 11))])))))) (Q (R [n 66 (mov 66 (v 1)),n 4 (asg 4 (v 66))]) .ret))
def c_S_Walk:Cmd:=Q (R [n 2 (box 2 (v 0)),n 4 (asg 4 (k 0)),n 5 (asg 5 (k 0))]) (Q (R [n 9 (mov 9 (v 1)),n 10 (call (some 10) 174 [v 9]),n 8 (mov 8 (v 10)),n 11 (xtr 11 (v 8) 0),n 12 (xtr 12 (v 8) 1),n 6 (asg 6 (v 11)),n 7 (asg 7 (v 12))]) (Q (Q (R [n 13 (mov 13 (v 7)),n 14 (un 14 .not (v 13))]) (F (v 14) (Q (R [n 4 (asg 4 (k 0)),n 5 (asg 5 (k 1))]) .ret) .skip)) (Q (R [n 15 (ld 15 (v 2) 2 true),n 16 (mov 16 (v 6)),n 17 (call (some 17) 206 [v 15,v 16]),n 18 (xtr 18 (v 17) 0),n 19 (xtr 19 (v 17) 1),n 4 (asg 4 (v 18)),n 5 (asg 5 (v 19))]) .ret)))
def c_S_Stat:Cmd:=Q (R [n 2 (box 2 (v 0)),n 4 (alc 4 [.int .i64 0,.int .i64 0,.int .i64 0,.sl 1 [],.sl 2 [],.sl 2 []]),n 5 (asg 5 (k 0))]) (Q (R [n 11 (ld 11 (v 2) 2 true),n 12 (mov 12 (v 1)),n 13 (call (some 13) 107 [v 11,v 12]),n 10 (mov 10 (v 13)),n 14 (xtr 14 (v 10) 0),n 15 (xtr 15 (v 10) 1),n 6 (asg 6 (v 14)),n 7 (asg 7 (v 15))]) (Q (Q (R [n 16 (mov 16 (v 7)),n 17 (bin 17 .neq (v 16) (k 0))]) (F (v 17) (Q (R [n 18 (bld 18 [.int .i64 0,.int .i64 0,.int .i64 0,.sl 1 [],.sl 2 [],.sl 2 []] []),n 19 (mov 19 (v 7)),m (st (v 4) (v 18) 6),n 5 (asg 5 (v 19))]) .ret) .skip)) (Q (R [n 21 (ld 21 (v 2) 2 true),n 22 (mov 22 (v 6)),n 23 (call (some 23) 208 [v 21,v 22]),n 20 (mov 20 (v 23)),n 24 (xtr 24 (v 20) 0),n 25 (xtr 25 (v 20) 1),n 8 (alc 8 [.int .i64 0,.int .i64 0,.int .i64 0,.sl 1 [],.sl 2 [],.sl 2 []]),m (st (v 8) (v 24) 6),n 9 (asg 9 (v 25))]) (Q (Q (R [n 26 (mov 26 (v 9)),n 27 (un 27 .not (v 26))]) (F (v 27) (Q (R [n 28 (bld 28 [.int .i64 0,.int .i64 0,.int .i64 0,.sl 1 [],.sl 2 [],.sl 2 []] []),m (st (v 4) (v 28) 6),n 5 (asg 5 (k 2))]) .ret) .skip)) (Q (R [n 29 (ld 29 (v 8) 6 true),m (st (v 4) (v 29) 6),n 5 (asg 5 (k 0))]) .ret)))))
def c_I_Stat:Cmd:=Q (R [n 2 (box 2 (v 0)),n 4 (alc 4 [.int .i64 0,.int .i64 0,.int .i64 0,.sl 1 [],.sl 2 [],.sl 2 []]),n 5 (asg 5 (k 0))]) (Q (R [n 11 (ld 11 (v 2) 2 true),n 12 (mov 12 (v 1)),n 13 (call (some 13) 74 [v 11,v 12]),n 10 (mov 10 (v 13)),n 14 (xtr 14 (v 10) 0),n 15 (xtr 15 (v 10) 1),n 6 (asg 6 (v 14)),n 7 (asg 7 (v 15))]) (Q (Q (R [n 16 (mov 16 (v 7)),n 17 (bin 17 .neq (v 16) (k 0))]) (F (v 17) (Q (R [n 18 (bld 18 [.int .i64 0,.int .i64 0,.int .i64 0,.sl 1 [],.sl 2 [],.sl 2 []] []),n 19 (mov 19 (v 7)),m (st (v 4) (v 18) 6),n 5 (asg 5 (v 19))]) .ret) .skip)) (Q (R [n 21 (ld 21 (v 2) 2 true),n 22 (mov 22 (v 6)),n 23 (call (some 23) 114 [v 21,v 22]),n 20 (mov 20 (v 23)),n 24 (xtr 24 (v 20) 0),n 25 (xtr 25 (v 20) 1),n 8 (alc 8 [.int .i64 0,.int .i64 0,.int .i64 0,.sl 1 [],.sl 2 [],.sl 2 []]),m (st (v 8) (v 24) 6),n 9 (asg 9 (v 25))]) (Q (Q (R [n 26 (mov 26 (v 9)),n 27 (un 27 .not (v 26))]) (F (v 27) (Q (R [n 28 (bld 28 [.int .i64 0,.int .i64 0,.int .i64 0,.sl 1 [],.sl 2 [],.sl 2 []] []),m (st (v 4) (v 28) 6),n 5 (asg 5 (k 2))]) .ret) .skip)) (Q (R [n 29 (ld 29 (v 8) 6 true),m (st (v 4) (v 29) 6),n 5 (asg 5 (k 0))]) .ret)))))
def c_I_EntOf:Cmd:=Q (R [n 2 (box 2 (v 0)),n 4 (asg 4 (k 0))]) (Q (Q (R [n 7 (fld 7 (v 2) 4),n 8 (ld 8 (v 7) 1 false),n 9 (len 9 (v 8)),n 10 (mov 10 (k 0))]) (.blk 0 (.loop (Q (R [n 11 (bin 11 .lss (v 10) (v 9))]) (Q (F (v 11) .skip (.exit 0)) (Q (.blk 1 (Q (R [n 12 (idx 12 (v 8) (v 10) 2),n 13 (ld 13 (v 12) 2 true),n 6 (alc 6 [.str [],.int .i64 0]),m (st (v 6) (v 13) 2)]) (Q (R [n 14 (fld 14 (v 6) 0),n 15 (ld 15 (v 14) 1 false),n 16 (mov 16 (v 1)),n 17 (bin 17 .eql (v 15) (v 16))]) (F (v 17) (Q (R [n 18 (fld 18 (v 6) 1),n 19 (ld 19 (v 18) 1 false),n 4 (asg 4 (v 19))]) .ret) .skip)))) (R [n 20 (bin 20 .add (v 10) (k 1)),n 10 (mov 10 (v 20))]))))))) (Q (R [n 4 (asg 4 (k 0))]) .ret))
def c_I_InodeAt:Cmd:=Q (R [n 2 (box 2 (v 0)),n 4 (alc 4 [.int .i64 0,.int .i64 0,.int .i64 0,.sl 1 [],.sl 2 [],.sl 2 []]),n 5 (asg 5 k0)]) (Q (R [n 7 (ld 7 (v 2) 2 true),n 8 (mov 8 (v 1)),n 9 (call (some 9) 154 [v 7,v 8]),n 6 (asg 6 (v 9))]) (Q (Q (R [n 10 (mov 10 (v 6)),n 11 (bin 11 .lss (v 10) (k 0))]) (F (v 11) (Q (R [n 12 (bld 12 [.int .i64 0,.int .i64 0,.int .i64 0,.sl 1 [],.sl 2 [],.sl 2 []] []),m (st (v 4) (v 12) 6),n 5 (asg 5 k0)]) .ret) .skip)) (Q (R [n 13 (fld 13 (v 2) 0),n 14 (ld 14 (v 13) 1 false),n 15 (mov 15 (v 6)),n 16 (idx 16 (v 14) (v 15) 6),n 17 (ld 17 (v 16) 6 true),n 18 (call (some 18) 190 [v 17]),m (st (v 4) (v 18) 6),n 5 (asg 5 k1)]) .ret)))
def c_L_szByteS:Cmd:=Q (R [n 4 (asg 4 (k 0))]) (Q (R [n 5 (mov 5 (v 1)),n 6 (mov 6 (v 0)),n 7 (len 7 (v 6)),n 8 (bin 8 .sub (v 5) (v 7)),n 1 (asg 1 (v 8))]) (Q (Q (R [n 9 (mov 9 (v 1)),n 10 (bin 10 .lss (v 9) (k 0))]) (F (v 10) (Q (R [n 4 (asg 4 (k (-1)))]) .ret) .skip)) (Q (R [n 11 (mov 11 (v 1)),n 4 (asg 4 (v 11))]) .ret)))
def c_L_toByteS:Cmd:=Q (R [n 2 (asg 2 (.c (.own 1 [])))]) (Q (R [n 5 (mov 5 (v 0)),n 6 (len 6 (v 5)),n 7 (mks 7 (v 6) (v 6) 1 1 [.int .u8 0]),n 3 (asg 3 (v 7))]) (Q (Q (R [n 4 (asg 4 (k 0))]) (.blk 0 (.loop (Q (Q (R [n 8 (mov 8 (v 4)),n 9 (mov 9 (v 0)),n 10 (len 10 (v 9)),n 11 (bin 11 .lss (v 8) (v 10))]) (F (v 11) .skip (.exit 0))) (Q (.blk 1 (R [n 14 (mov 14 (v 3)),n 15 (mov 15 (v 4)),n 16 (mov 16 (v 0)),n 17 (mov 17 (v 4)),n 18 (idx 18 (v 16) (v 17) 1),n 19 (ld 19 (v 18) 1 false),n 20 (idx 20 (v 14) (v 15) 1),m (st (v 20) (v 19) 1)])) (R [n 12 (mov 12 (v 4)),n 13 (bin 13 .add (v 12) (k 1)),n 4 (asg 4 (v 13))])))))) (Q (R [n 21 (mov 21 (v 3)),n 2 (asg 2 (v 21))]) .ret)))
def c_L_eqByteS:Cmd:=Q (R [n 4 (asg 4 k0)]) (Q (Q (R [n 6 (mov 6 (v 0)),n 7 (len 7 (v 6)),n 8 (mov 8 (v 1)),n 9 (len 9 (v 8)),n 10 (bin 10 .neq (v 7) (v 9))]) (F (v 10) (Q (R [n 4 (asg 4 k0)]) .ret) .skip)) (Q (Q (R [n 5 (asg 5 (k 0))]) (.blk 0 (.loop (Q (Q (R [n 11 (mov 11 (v 5)),n 12 (mov 12 (v 0)),n 13 (len 13 (v 12)),n 14 (bin 14 .lss (v 11) (v 13))]) (F (v 14) .skip (.exit 0))) (Q (.blk 1 (Q (D [0,0,3,7,0,0,48,112,255] [n 17 (mov 17 (v 0)),n 18 (mov 18 (v 5)),n 19 (idx 19 (v 17) (v 18) 1),n 20 (ld 20 (v 19) 1 false),n 21 (mov 21 (v 1)),n 22 (mov 22 (v 5)),n 23 (idx 23 (v 21) (v 22) 1),n 24 (ld 24 (v 23) 1 false),n 25 (bin 25 .neq (v 20) (v 24))]) (F (v 25) (Q (R [n 4 (asg 4 k0)]) .ret) .skip))) (R [n 15 (mov 15 (v 5)),n 16 (bin 16 .add (v 15) (k 1)),n 5 (asg 5 (v 16))])))))) (Q (R [n 4 (asg 4 k1)]) .ret)))
def c_L_markByteS:Cmd:=Q (R [n 4 (asg 4 (k 0))]) (Q (Q (R [n 5 (asg 5 (k 0))]) (.blk 0 (.loop (Q (Q (R [n 6 (mov 6 (v 5)),n 7 (mov 7 (v 0)),n 8 (len 8 (v 7)),n 9 (bin 9 .lss (v 6) (v 8))]) (F (v 9) .skip (.exit 0))) (Q (.blk 1 (Q (R [n 12 (mov 12 (v 0)),n 13 (mov 13 (v 5)),n 14 (mov 14 (v 1)),n 15 (conv 15 .u8 (v 14)),n 16 (idx 16 (v 12) (v 13) 1),m (st (v 16) (v 15) 1)]) (R [n 17 (mov 17 (v 1)),n 18 (bin 18 .add (v 17) (k 1)),n 1 (asg 1 (v 18))]))) (R [n 10 (mov 10 (v 5)),n 11 (bin 11 .add (v 10) (k 1)),n 5 (asg 5 (v 11))])))))) (Q (R [n 19 (mov 19 (v 1)),n 4 (asg 4 (v 19))]) .ret))
def c_I_from:Cmd:=Q (R [n 6 (asg 6 k0)]) (Q (R [n 7 (mov 7 (v 0)),n 8 (mov 8 (v 1)),n 9 (bin 9 .geq (v 7) (v 8)),n 10 (mov 10 (v 9)),h 10 true 11 (mov 11 (v 0)),h 10 true 12 (mov 12 (v 2)),h 10 true 13 (bin 13 .leq (v 11) (v 12)),n 14 (pck 14 (v 10) (v 13) k0),n 6 (asg 6 (v 14))]) .ret)
def c_I_NameOk:Cmd:=Q (R [n 2 (asg 2 k0)]) (Q (Q (R [n 5 (mov 5 (v 0)),n 6 (lens 6 (v 5)),n 7 (mov 7 (k 0))]) (.blk 0 (.loop (Q (R [n 8 (bin 8 .lss (v 7) (v 6))]) (Q (F (v 8) .skip (.exit 0)) (Q (.blk 1 (Q (R [n 9 (mov 9 (v 7)),n 3 (asg 3 (v 9))]) (Q (R [n 10 (mov 10 (v 0)),n 11 (mov 11 (v 3)),n 12 (sidx 12 (v 10) (v 11)),n 4 (asg 4 (v 12))]) (Q (R [n 13 (mov 13 (v 4)),n 14 (bin 14 .lss (v 13) (.c (.int .u8 97))),n 15 (mov 15 (v 14)),h 15 false 16 (mov 16 (v 4)),h 15 false 17 (bin 17 .gtr (v 16) (.c (.int .u8 122))),n 18 (pck 18 (v 15) k1 (v 17)),n 19 (mov 19 (v 18)),h 19 true 20 (mov 20 (v 4)),h 19 true 21 (bin 21 .lss (v 20) (.c (.int .u8 48))),h 19 true 22 (mov 22 (v 21)),h 22 false 23 (mov 23 (v 4)),h 22 false 24 (bin 24 .gtr (v 23) (.c (.int .u8 57))),h 19 true 25 (pck 25 (v 22) k1 (v 24)),n 26 (pck 26 (v 19) (v 25) k0),n 27 (mov 27 (v 26)),h 27 true 28 (mov 28 (v 4)),h 27 true 29 (bin 29 .neq (v 28) (.c (.int .u8 95))),n 30 (pck 30 (v 27) (v 29) k0),n 31 (mov 31 (v 30)),h 31 true 32 (mov 32 (v 4)),h 31 true 33 (bin 33 .neq (v 32) (.c (.int .u8 45))),n 34 (pck 34 (v 31) (v 33) k0),n 35 (mov 35 (v 34)),h 35 true 36 (mov 36 (v 4)),h 35 true 37 (bin 37 .neq (v 36) (.c (.int .u8 46))),n 38 (pck 38 (v 35) (v 37) k0)]) (F (v 38) (Q (R [n 2 (asg 2 k0)]) .ret) .skip))))) (R [n 39 (bin 39 .add (v 7) (k 1)),n 7 (mov 7 (v 39))]))))))) (Q (R [n 40 (mov 40 (v 0)),n 41 (lens 41 (v 40)),n 42 (bin 42 .geq (v 41) (k 1)),n 43 (mov 43 (v 42)),h 43 true 44 (mov 44 (v 0)),h 43 true 45 (lens 45 (v 44)),h 43 true 46 (bin 46 .leq (v 45) (k 14)),n 47 (pck 47 (v 43) (v 46) k0),n 48 (mov 48 (v 47)),h 48 true 49 (mov 49 (v 0)),h 48 true 50 (bin 50 .neq (v 49) (.c (.str [46]))),n 51 (pck 51 (v 48) (v 50) k0),n 52 (mov 52 (v 51)),h 52 true 53 (mov 53 (v 0)),h 52 true 54 (bin 54 .neq (v 53) (.c (.str [46,46]))),n 55 (pck 55 (v 52) (v 54) k0),n 2 (asg 2 (v 55))]) .ret))
def c_I_TabOk:Cmd:=Q (R [n 1 (box 1 (v 0)),n 2 (asg 2 k0)]) (Q (Q (R [n 7 (fld 7 (v 1) 0),n 8 (ld 8 (v 7) 1 false),n 9 (len 9 (v 8)),n 10 (bin 10 .gtr (v 9) (k 30)),n 11 (mov 11 (v 10)),h 11 false 12 (fld 12 (v 1) 1),h 11 false 13 (ld 13 (v 12) 1 false),h 11 false 14 (call (some 14) 137 [v 13,k 2,k 1000]),h 11 false 15 (un 15 .not (v 14)),n 16 (pck 16 (v 11) k1 (v 15))]) (F (v 16) (Q (R [n 2 (asg 2 k0)]) .ret) .skip)) (Q (Q (R [n 17 (fld 17 (v 1) 0),n 18 (ld 18 (v 17) 1 false),n 19 (len 19 (v 18)),n 20 (mov 20 (k 0))]) (.blk 0 (.loop (Q (R [n 21 (bin 21 .lss (v 20) (v 19))]) (Q (F (v 21) .skip (.exit 0)) (Q (.blk 1 (Q (R [n 22 (mov 22 (v 20)),n 23 (idx 23 (v 18) (v 20) 6),n 24 (ld 24 (v 23) 6 true),n 4 (alc 4 [.int .i64 0,.int .i64 0,.int .i64 0,.sl 1 [],.sl 2 [],.sl 2 []]),n 3 (asg 3 (v 22)),m (st (v 4) (v 24) 6)]) (Q (D [0,1,3,7,15,31,15,79,255,511,1023,2047,4095,8191,16383,32767,16383,81919,262143,524287,1048575,16383,2113535,8388607,16777215,33554431] [n 25 (ld 25 (v 4) 6 true),n 26 (call (some 26) 234 [v 25]),n 27 (un 27 .not (v 26)),n 28 (mov 28 (v 27)),h 28 false 29 (fld 29 (v 4) 0),h 28 false 30 (ld 30 (v 29) 1 false),h 28 false 31 (fld 31 (v 1) 1),h 28 false 32 (ld 32 (v 31) 1 false),h 28 false 33 (bin 33 .geq (v 30) (v 32)),n 34 (pck 34 (v 28) k1 (v 33)),n 35 (mov 35 (v 34)),h 35 false 36 (mov 36 (v 3)),h 35 false 37 (bin 37 .gtr (v 36) (k 0)),h 35 false 38 (mov 38 (v 37)),h 38 true 39 (fld 39 (v 1) 0),h 38 true 40 (ld 40 (v 39) 1 false),h 38 true 41 (mov 41 (v 3)),h 38 true 42 (bin 42 .sub (v 41) (k 1)),h 38 true 43 (idx 43 (v 40) (v 42) 6),h 38 true 44 (fld 44 (v 43) 0),h 38 true 45 (ld 45 (v 44) 1 false),h 38 true 46 (fld 46 (v 4) 0),h 38 true 47 (ld 47 (v 46) 1 false),h 38 true 48 (bin 48 .geq (v 45) (v 47)),h 35 false 49 (pck 49 (v 38) (v 48) k0),n 50 (pck 50 (v 35) k1 (v 49))]) (F (v 50) (Q (R [n 2 (asg 2 k0)]) .ret) .skip)))) (R [n 51 (bin 51 .add (v 20) (k 1)),n 20 (mov 20 (v 51))]))))))) (Q (R [n 53 (ld 53 (v 1) 2 true),n 54 (call (some 54) 114 [v 53,k 1]),n 52 (mov 52 (v 54)),n 55 (xtr 55 (v 52) 0),n 56 (xtr 56 (v 52) 1),n 5 (alc 5 [.int .i64 0,.int .i64 0,.int .i64 0,.sl 1 [],.sl 2 [],.sl 2 []]),m (st (v 5) (v 55) 6),n 6 (asg 6 (v 56))]) (Q (R [n 57 (mov 57 (v 6)),n 58 (mov 58 (v 57)),h 58 true 59 (fld 59 (v 5) 1),h 58 true 60 (ld 60 (v 59) 1 false),h 58 true 61 (bin 61 .eql (v 60) (k 2)),n 62 (pck 62 (v 58) (v 61) k0),n 2 (asg 2 (v 62))]) .ret))))
def c_I_LinksOf:Cmd:=Q (R [n 2 (box 2 (v 0)),n 4 (asg 4 (k 0))]) (Q (R [n 5 (asg 5 (k 0))]) (Q (Q (R [n 10 (fld 10 (v 2) 0),n 11 (ld 11 (v 10) 1 false),n 12 (len 12 (v 11)),n 13 (mov 13 (k 0))]) (.blk 0 (.loop (Q (R [n 14 (bin 14 .lss (v 13) (v 12))]) (Q (F (v 14) .skip (.exit 0)) (Q (.blk 1 (Q (R [n 15 (idx 15 (v 11) (v 13) 6),n 16 (ld 16 (v 15) 6 true),n 7 (alc 7 [.int .i64 0,.int .i64 0,.int .i64 0,.sl 1 [],.sl 2 [],.sl 2 []]),m (st (v 7) (v 16) 6)]) (Q (Q (R [n 17 (fld 17 (v 7) 1),n 18 (ld 18 (v 17) 1 false),n 19 (bin 19 .neq (v 18) (k 2))]) (F (v 19) (.exit 1) .skip)) (Q (R [n 20 (fld 20 (v 7) 4),n 21 (ld 21 (v 20) 1 false),n 22 (len 22 (v 21)),n 23 (mov 23 (k 0))]) (.blk 2 (.loop (Q (R [n 24 (bin 24 .lss (v 23) (v 22))]) (Q (F (v 24) .skip (.exit 2)) (Q (.blk 3 (Q (R [n 25 (idx 25 (v 21) (v 23) 2),n 26 (ld 26 (v 25) 2 true),n 9 (alc 9 [.str [],.int .i64 0]),m (st (v 9) (v 26) 2)]) (Q (R [n 27 (fld 27 (v 9) 1),n 28 (ld 28 (v 27) 1 false),n 29 (mov 29 (v 1)),n 30 (bin 30 .eql (v 28) (v 29))]) (F (v 30) (R [n 31 (mov 31 (v 5)),n 32 (bin 32 .add (v 31) (k 1)),n 5 (asg 5 (v 32))]) .skip)))) (R [n 33 (bin 33 .add (v 23) (k 1)),n 23 (mov 23 (v 33))])))))))))) (R [n 34 (bin 34 .add (v 13) (k 1)),n 13 (mov 13 (v 34))]))))))) (Q (R [n 35 (mov 35 (v 5)),n 4 (asg 4 (v 35))]) .ret)))
def c_I_placeOf:Cmd:=Q (R [n 2 (box 2 (v 0)),n 3 (box 3 (v 1)),n 4 (asg 4 (k 0))]) (Q (R [n 5 (fld 5 (v 2) 0),n 6 (ld 6 (v 5) 1 false),n 7 (mkf 7 235 [v 3]),n 8 (call (some 8) 197 [v 6,v 7]),n 4 (asg 4 (v 8))]) .ret)
def c_I_SplitPath:Cmd:=Q (R [n 2 (asg 2 (.c (.own 1 []))),n 3 (asg 3 k0)]) (Q (Q (R [n 5 (mov 5 (v 0)),n 6 (bin 6 .eql (v 5) (.c (.str [47])))]) (F (v 6) (Q (R [n 2 (asg 2 (.c (.own 1 []))),n 3 (asg 3 k1)]) .ret) .skip)) (Q (R [n 7 (mov 7 (v 0)),n 8 (call (some 8) 238 [v 7,.c (.str [47])]),n 4 (asg 4 (v 8))]) (Q (Q (R [n 9 (mov 9 (v 4)),n 10 (idx 10 (v 9) (k 0) 1),n 11 (ld 11 (v 10) 1 false),n 12 (bin 12 .neq (v 11) (.c (.str []))),n 13 (mov 13 (v 12)),h 13 false 14 (mov 14 (v 4)),h 13 false 15 (len 15 (v 14)),h 13 false 16 (bin 16 .lss (v 15) (k 2)),n 17 (pck 17 (v 13) k1 (v 16)),n 18 (mov 18 (v 17)),h 18 false 19 (mov 19 (v 4)),h 18 false 20 (slc 20 (v 19) (some (k 1)) none 1),h 18 false 21 (call (some 21) 239 [v 20]),h 18 false 22 (un 22 .not (v 21)),n 23 (pck 23 (v 18) k1 (v 22))]) (F (v 23) (Q (R [n 2 (asg 2 (.c (.own 1 []))),n 3 (asg 3 k0)]) .ret) .skip)) (Q (R [n 24 (mov 24 (v 4)),n 25 (slc 25 (v 24) (some (k 1)) none 1),n 2 (asg 2 (v 25)),n 3 (asg 3 k1)]) .ret))))
def c_S_TabOk:Cmd:=Q (R [n 1 (box 1 (v 0)),n 2 (asg 2 k0)]) (Q (Q (R [n 5 (fld 5 (v 1) 0),n 6 (ld 6 (v 5) 1 false),n 7 (len 7 (v 6)),n 8 (call (some 8) 213 [v 7,k 1,k 30]),n 9 (un 9 .not (v 8)),n 10 (mov 10 (v 9)),h 10 false 11 (fld 11 (v 1) 1),h 10 false 12 (ld 12 (v 11) 1 false),h 10 false 13 (call (some 13) 213 [v 12,k 2,k 1000]),h 10 false 14 (un 14 .not (v 13)),n 15 (pck 15 (v 10) k1 (v 14))]) (F (v 15) (Q (R [n 2 (asg 2 k0)]) .ret) .skip)) (Q (Q (R [n 3 (asg 3 (k 0))]) (.blk 0 (.loop (Q (Q (R [n 16 (mov 16 (v 3)),n 17 (fld 17 (v 1) 0),n 18 (ld 18 (v 17) 1 false),n 19 (len 19 (v 18)),n 20 (bin 20 .lss (v 16) (v 19))]) (F (v 20) .skip (.exit 0))) (Q (.blk 1 (Q (R [n 23 (fld 23 (v 1) 0),n 24 (ld 24 (v 23) 1 false),n 25 (mov 25 (v 3)),n 26 (idx 26 (v 24) (v 25) 6),n 27 (ld 27 (v 26) 6 true),n 4 (alc 4 [.int .i64 0,.int .i64 0,.int .i64 0,.sl 1 [],.sl 2 [],.sl 2 []]),m (st (v 4) (v 27) 6)]) (Q (D [0,1,3,7,15,31,15,79,255,511,1023,2047,4095,8191,16383,32767,16383,81919,262143,524287,1048575,16383,2113535,8388607,16777215,33554431] [n 28 (ld 28 (v 4) 6 true),n 29 (call (some 29) 245 [v 28]),n 30 (un 30 .not (v 29)),n 31 (mov 31 (v 30)),h 31 false 32 (fld 32 (v 4) 0),h 31 false 33 (ld 33 (v 32) 1 false),h 31 false 34 (fld 34 (v 1) 1),h 31 false 35 (ld 35 (v 34) 1 false),h 31 false 36 (bin 36 .geq (v 33) (v 35)),n 37 (pck 37 (v 31) k1 (v 36)),n 38 (mov 38 (v 37)),h 38 false 39 (mov 39 (v 3)),h 38 false 40 (bin 40 .gtr (v 39) (k 0)),h 38 false 41 (mov 41 (v 40)),h 41 true 42 (fld 42 (v 1) 0),h 41 true 43 (ld 43 (v 42) 1 false),h 41 true 44 (mov 44 (v 3)),h 41 true 45 (bin 45 .sub (v 44) (k 1)),h 41 true 46 (idx 46 (v 43) (v 45) 6),h 41 true 47 (fld 47 (v 46) 0),h 41 true 48 (ld 48 (v 47) 1 false),h 41 true 49 (fld 49 (v 4) 0),h 41 true 50 (ld 50 (v 49) 1 false),h 41 true 51 (bin 51 .geq (v 48) (v 50)),h 38 false 52 (pck 52 (v 41) (v 51) k0),n 53 (pck 53 (v 38) k1 (v 52))]) (F (v 53) (Q (R [n 2 (asg 2 k0)]) .ret) .skip)))) (R [n 21 (mov 21 (v 3)),n 22 (bin 22 .add (v 21) (k 1)),n 3 (asg 3 (v 22))])))))) (Q (R [n 54 (fld 54 (v 1) 0),n 55 (ld 55 (v 54) 1 false),n 56 (idx 56 (v 55) (k 0) 6),n 57 (fld 57 (v 56) 0),n 58 (ld 58 (v 57) 1 false),n 59 (bin 59 .eql (v 58) (k 1)),n 60 (mov 60 (v 59)),h 60 true 61 (fld 61 (v 1) 0),h 60 true 62 (ld 62 (v 61) 1 false),h 60 true 63 (idx 63 (v 62) (k 0) 6),h 60 true 64 (fld 64 (v 63) 1),h 60 true 65 (ld 65 (v 64) 1 false),h 60 true 66 (bin 66 .eql (v 65) (k 2)),n 67 (pck 67 (v 60) (v 66) k0),n 2 (asg 2 (v 67))]) .ret)))
def c_S_LinksOf:Cmd:=Q (R [n 2 (box 2 (v 0)),n 4 (asg 4 (k 0))]) (Q (R [n 5 (asg 5 (k 0))]) (Q (Q (R [n 6 (asg 6 (k 0))]) (.blk 0 (.loop (Q (Q (R [n 8 (mov 8 (v 6)),n 9 (fld 9 (v 2) 0),n 10 (ld 10 (v 9) 1 false),n 11 (len 11 (v 10)),n 12 (bin 12 .lss (v 8) (v 11))]) (F (v 12) .skip (.exit 0))) (Q (.blk 1 (Q (R [n 7 (asg 7 (k 0))]) (.blk 2 (.loop (Q (Q (R [n 15 (mov 15 (v 7)),n 16 (fld 16 (v 2) 0),n 17 (ld 17 (v 16) 1 false),n 18 (mov 18 (v 6)),n 19 (idx 19 (v 17) (v 18) 6),n 20 (fld 20 (v 19) 4),n 21 (ld 21 (v 20) 1 false),n 22 (len 22 (v 21)),n 23 (bin 23 .lss (v 15) (v 22)),n 24 (mov 24 (v 23)),h 24 true 25 (fld 25 (v 2) 0),h 24 true 26 (ld 26 (v 25) 1 false),h 24 true 27 (mov 27 (v 6)),h 24 true 28 (idx 28 (v 26) (v 27) 6),h 24 true 29 (fld 29 (v 28) 1),h 24 true 30 (ld 30 (v 29) 1 false),h 24 true 31 (bin 31 .eql (v 30) (k 2)),n 32 (pck 32 (v 24) (v 31) k0)]) (F (v 32) .skip (.exit 2))) (Q (.blk 3 (Q (R [n 35 (fld 35 (v 2) 0),n 36 (ld 36 (v 35) 1 false),n 37 (mov 37 (v 6)),n 38 (idx 38 (v 36) (v 37) 6),n 39 (fld 39 (v 38) 4),n 40 (ld 40 (v 39) 1 false),n 41 (mov 41 (v 7)),n 42 (idx 42 (v 40) (v 41) 2),n 43 (fld 43 (v 42) 1),n 44 (ld 44 (v 43) 1 false),n 45 (mov 45 (v 1)),n 46 (bin 46 .eql (v 44) (v 45))]) (F (v 46) (R [n 47 (mov 47 (v 5)),n 48 (bin 48 .add (v 47) (k 1)),n 5 (asg 5 (v 48))]) .skip))) (R [n 33 (mov 33 (v 7)),n 34 (bin 34 .add (v 33) (k 1)),n 7 (asg 7 (v 34))]))))))) (R [n 13 (mov 13 (v 6)),n 14 (bin 14 .add (v 13) (k 1)),n 6 (asg 6 (v 14))])))))) (Q (R [n 49 (mov 49 (v 5)),n 4 (asg 4 (v 49))]) .ret)))
def c_S_l4At:Cmd:=Q (R [n 2 (box 2 (v 0)),n 4 (asg 4 (k 0))]) (Q (Q (R [n 5 (asg 5 (k 0))]) (.blk 0 (.loop (Q (Q (R [n 6 (mov 6 (v 5)),n 7 (fld 7 (v 2) 0),n 8 (ld 8 (v 7) 1 false),n 9 (len 9 (v 8)),n 10 (bin 10 .lss (v 6) (v 9))]) (F (v 10) .skip (.exit 0))) (Q (.blk 1 (Q (R [n 13 (fld 13 (v 2) 0),n 14 (ld 14 (v 13) 1 false),n 15 (mov 15 (v 5)),n 16 (idx 16 (v 14) (v 15) 6),n 17 (fld 17 (v 16) 0),n 18 (ld 18 (v 17) 1 false),n 19 (mov 19 (v 1)),n 20 (bin 20 .eql (v 18) (v 19))]) (F (v 20) (Q (R [n 21 (mov 21 (v 5)),n 4 (asg 4 (v 21))]) .ret) .skip))) (R [n 11 (mov 11 (v 5)),n 12 (bin 12 .add (v 11) (k 1)),n 5 (asg 5 (v 12))])))))) (Q (R [n 4 (asg 4 (k (-1)))]) .ret))
def c_X_Contains_int:Cmd:=Q (R [n 4 (asg 4 k0)]) (Q (R [n 5 (mov 5 (v 0)),n 6 (mov 6 (v 1)),n 7 (call (some 7) 246 [v 5,v 6]),n 8 (bin 8 .geq (v 7) (k 0)),n 4 (asg 4 (v 8))]) .ret)
def c_S_l7Next:Cmd:=Q (R [n 2 (box 2 (v 0)),n 4 (asg 4 (.c (.own 1 [])))]) (Q (R [n 10 (mov 10 (v 1)),n 5 (asg 5 (v 10))]) (Q (Q (R [n 6 (asg 6 (k 0))]) (.blk 0 (.loop (Q (Q (R [n 11 (mov 11 (v 6)),n 12 (mov 12 (v 1)),n 13 (len 13 (v 12)),n 14 (bin 14 .lss (v 11) (v 13))]) (F (v 14) .skip (.exit 0))) (Q (.blk 1 (Q (D [0,0,0,6,14,31,63,127,255,0,767,2047] [n 18 (ld 18 (v 2) 2 true),n 19 (mov 19 (v 1)),n 20 (mov 20 (v 6)),n 21 (idx 21 (v 19) (v 20) 1),n 22 (ld 22 (v 21) 1 false),n 23 (call (some 23) 208 [v 18,v 22]),n 17 (mov 17 (v 23)),n 24 (xtr 24 (v 17) 0),n 25 (xtr 25 (v 17) 1),n 7 (alc 7 [.int .i64 0,.int .i64 0,.int .i64 0,.sl 1 [],.sl 2 [],.sl 2 []]),m (st (v 7) (v 24) 6),n 8 (asg 8 (v 25))]) (Q (R [n 9 (asg 9 (k 0))]) (.blk 2 (.loop (Q (Q (R [n 26 (mov 26 (v 9)),n 27 (fld 27 (v 7) 4),n 28 (ld 28 (v 27) 1 false),n 29 (len 29 (v 28)),n 30 (bin 30 .lss (v 26) (v 29)),n 31 (mov 31 (v 30)),h 31 true 32 (mov 32 (v 8)),n 33 (pck 33 (v 31) (v 32) k0),n 34 (mov 34 (v 33)),h 34 true 35 (fld 35 (v 7) 1),h 34 true 36 (ld 36 (v 35) 1 false),h 34 true 37 (bin 37 .eql (v 36) (k 2)),n 38 (pck 38 (v 34) (v 37) k0)]) (F (v 38) .skip (.exit 2))) (Q (.blk 3 (Q (D [0,0,2,0,14,30,62,127,255] [n 41 (ld 41 (v 2) 2 true),n 42 (fld 42 (v 7) 4),n 43 (ld 43 (v 42) 1 false),n 44 (mov 44 (v 9)),n 45 (idx 45 (v 43) (v 44) 2),n 46 (fld 46 (v 45) 1),n 47 (ld 47 (v 46) 1 false),n 48 (call (some 48) 168 [v 41,v 47]),n 49 (bin 49 .geq (v 48) (k 0))]) (F (v 49) (R [n 50 (mov 50 (v 5)),n 51 (fld 51 (v 7) 4),n 52 (ld 52 (v 51) 1 false),n 53 (mov 53 (v 9)),n 54 (idx 54 (v 52) (v 53) 2),n 55 (fld 55 (v 54) 1),n 56 (ld 56 (v 55) 1 false),n 57 (call (some 57) 248 [v 50,v 56]),n 5 (asg 5 (v 57))]) .skip))) (R [n 39 (mov 39 (v 9)),n 40 (bin 40 .add (v 39) (k 1)),n 9 (asg 9 (v 40))])))))))) (R [n 15 (mov 15 (v 6)),n 16 (bin 16 .add (v 15) (k 1)),n 6 (asg 6 (v 16))])))))) (Q (R [n 58 (mov 58 (v 5)),n 4 (asg 4 (v 58))]) .ret)))
def c_X_Clone_byte:Cmd:=Q (R [n 2 (asg 2 (.c (.own 1 [])))]) (Q (Q (R [n 3 (mov 3 (v 0)),n 4 (isn 4 false (v 3) (.c (.own 1 [])))]) (F (v 4) (Q (R [n 2 (asg 2 (.c (.own 1 [])))]) .ret) .skip)) (Q (R [n 5 (bsl 5 1 []),n 6 (mov 6 (v 0)),n 7 (app 7 (v 5) (v 6) 1 1),n 2 (asg 2 (v 7))]) .ret))
def c_S_SplitPath:Cmd:=Q (R [n 2 (asg 2 (.c (.own 1 []))),n 3 (asg 3 k0)]) (Q (R [n 8 (bsl 8 1 []),n 4 (asg 4 (v 8))]) (Q (Q (R [n 9 (mov 9 (v 0)),n 10 (bin 10 .eql (v 9) (.c (.str [47])))]) (F (v 10) (Q (R [n 11 (mov 11 (v 4)),n 2 (asg 2 (v 11)),n 3 (asg 3 k1)]) .ret) .skip)) (Q (R [n 5 (asg 5 (k 0))]) (Q (Q (R [n 6 (asg 6 (k 0))]) (.blk 0 (.loop (Q (Q (R [n 12 (mov 12 (v 6)),n 13 (mov 13 (v 0)),n 14 (lens 14 (v 13)),n 15 (bin 15 .leq (v 12) (v 14))]) (F (v 15) .skip (.exit 0))) (Q (.blk 1 (Q (Q (R [n 18 (mov 18 (v 6)),n 19 (mov 19 (v 0)),n 20 (lens 20 (v 19)),n 21 (bin 21 .lss (v 18) (v 20)),n 22 (mov 22 (v 21)),h 22 true 23 (mov 23 (v 0)),h 22 true 24 (mov 24 (v 6)),h 22 true 25 (sidx 25 (v 23) (v 24)),h 22 true 26 (bin 26 .neq (v 25) (.c (.int .u8 47))),n 27 (pck 27 (v 22) (v 26) k0)]) (F (v 27) (.exit 1) .skip)) (Q (Q (R [n 28 (mov 28 (v 6)),n 29 (bin 29 .gtr (v 28) (k 0))]) (F (v 29) (Q (R [n 30 (mov 30 (v 0)),n 31 (mov 31 (v 5)),n 32 (mov 32 (v 6)),n 33 (sls 33 (v 30) (some (v 31)) (some (v 32))),n 7 (asg 7 (v 33))]) (Q (Q (R [n 34 (mov 34 (v 7)),n 35 (call (some 35) 217 [v 34]),n 36 (un 36 .not (v 35)),n 37 (mov 37 (v 36)),h 37 false 38 (mov 38 (v 4)),h 37 false 39 (len 39 (v 38)),h 37 false 40 (bin 40 .eql (v 39) (k 30)),n 41 (pck 41 (v 37) k1 (v 40))]) (F (v 41) (Q (R [n 42 (bsl 42 1 []),n 2 (asg 2 (v 42)),n 3 (asg 3 k0)]) .ret) .skip)) (R [n 43 (mov 43 (v 4)),n 44 (mov 44 (v 7)),n 45 (bsl 45 1 [v 44]),n 46 (app 46 (v 43) (v 45) 1 16),n 4 (asg 4 (v 46))]))) .skip)) (R [n 47 (mov 47 (v 6)),n 48 (bin 48 .add (v 47) (k 1)),n 5 (asg 5 (v 48))])))) (R [n 16 (mov 16 (v 6)),n 17 (bin 17 .add (v 16) (k 1)),n 6 (asg 6 (v 17))])))))) (Q (Q (R [n 49 (mov 49 (v 0)),n 50 (lens 50 (v 49)),n 51 (bin 51 .eql (v 50) (k 0)),n 52 (mov 52 (v 51)),h 52 false 53 (mov 53 (v 0)),h 52 false 54 (sidx 54 (v 53) (k 0)),h 52 false 55 (bin 55 .neq (v 54) (.c (.int .u8 47))),n 56 (pck 56 (v 52) k1 (v 55))]) (F (v 56) (Q (R [n 57 (bsl 57 1 []),n 2 (asg 2 (v 57)),n 3 (asg 3 k0)]) .ret) .skip)) (Q (R [n 58 (mov 58 (v 4)),n 2 (asg 2 (v 58)),n 3 (asg 3 k1)]) .ret))))))
def c_L_szInode:Cmd:=Q (R [n 2 (box 2 (v 0)),n 4 (asg 4 (k 0))]) (Q (R [n 5 (fld 5 (v 2) 3),n 6 (ld 6 (v 5) 1 false),n 7 (mov 7 (v 1)),n 8 (call (some 8) 117 [v 6,v 7]),n 1 (asg 1 (v 8))]) (Q (Q (R [n 9 (mov 9 (v 1)),n 10 (bin 10 .lss (v 9) (k 0))]) (F (v 10) (Q (R [n 4 (asg 4 (k (-1)))]) .ret) .skip)) (Q (R [n 11 (fld 11 (v 2) 4),n 12 (ld 12 (v 11) 1 false),n 13 (mov 13 (v 1)),n 14 (call (some 14) 252 [v 12,v 13]),n 1 (asg 1 (v 14))]) (Q (Q (R [n 15 (mov 15 (v 1)),n 16 (bin 16 .lss (v 15) (k 0))]) (F (v 16) (Q (R [n 4 (asg 4 (k (-1)))]) .ret) .skip)) (Q (R [n 17 (fld 17 (v 2) 5),n 18 (ld 18 (v 17) 1 false),n 19 (mov 19 (v 1)),n 20 (call (some 20) 253 [v 18,v 19]),n 1 (asg 1 (v 20))]) (Q (Q (R [n 21 (mov 21 (v 1)),n 22 (bin 22 .lss (v 21) (k 0))]) (F (v 22) (Q (R [n 4 (asg 4 (k (-1)))]) .ret) .skip)) (Q (R [n 23 (mov 23 (v 1)),n 4 (asg 4 (v 23))]) .ret)))))))
def c_S_JoinPath:Cmd:=Q (R [n 2 (asg 2 (.c (.str [])))]) (Q (Q (R [n 5 (mov 5 (v 0)),n 6 (len 6 (v 5)),n 7 (bin 7 .eql (v 6) (k 0))]) (F (v 7) (Q (R [n 2 (asg 2 (.c (.str [47])))]) .ret) .skip)) (Q (R [n 3 (asg 3 (.c (.str [])))]) (Q (Q (R [n 4 (asg 4 (k 0))]) (.blk 0 (.loop (Q (Q (R [n 8 (mov 8 (v 4)),n 9 (mov 9 (v 0)),n 10 (len 10 (v 9)),n 11 (bin 11 .lss (v 8) (v 10))]) (F (v 11) .skip (.exit 0))) (Q (.blk 1 (Q (Q (R [n 14 (mov 14 (v 0)),n 15 (mov 15 (v 4)),n 16 (idx 16 (v 14) (v 15) 1),n 17 (ld 17 (v 16) 1 false),n 18 (call (some 18) 217 [v 17]),n 19 (un 19 .not (v 18)),n 20 (mov 20 (v 19)),h 20 false 21 (mov 21 (v 0)),h 20 false 22 (len 22 (v 21)),h 20 false 23 (bin 23 .gtr (v 22) (k 30)),n 24 (pck 24 (v 20) k1 (v 23))]) (F (v 24) (Q (R [n 2 (asg 2 (.c (.str [])))]) .ret) .skip)) (R [n 25 (mov 25 (v 3)),n 26 (bin 26 .add (v 25) (.c (.str [47]))),n 27 (mov 27 (v 0)),n 28 (mov 28 (v 4)),n 29 (idx 29 (v 27) (v 28) 1),n 30 (ld 30 (v 29) 1 false),n 31 (bin 31 .add (v 26) (v 30)),n 3 (asg 3 (v 31))]))) (R [n 12 (mov 12 (v 4)),n 13 (bin 13 .add (v 12) (k 1)),n 4 (asg 4 (v 13))])))))) (Q (R [n 32 (mov 32 (v 3)),n 2 (asg 2 (v 32))]) .ret))))
def c_S_l3Copy:Cmd:=Q (R [n 1 (box 1 (v 0)),n 2 (alc 2 [.int .i64 0,.int .i64 0,.int .i64 0,.sl 1 [],.sl 2 [],.sl 2 []])]) (Q (R [n 4 (ld 4 (v 1) 6 true),n 3 (alc 3 [.int .i64 0,.int .i64 0,.int .i64 0,.sl 1 [],.sl 2 [],.sl 2 []]),m (st (v 3) (v 4) 6)]) (Q (R [n 5 (bsl 5 1 []),n 6 (fld 6 (v 1) 3),n 7 (ld 7 (v 6) 1 false),n 8 (app 8 (v 5) (v 7) 1 1),n 9 (fld 9 (v 3) 3),m (st (v 9) (v 8) 1)]) (Q (R [n 10 (bsl 10 2 []),n 11 (fld 11 (v 1) 4),n 12 (ld 12 (v 11) 1 false),n 13 (app 13 (v 10) (v 12) 2 24),n 14 (fld 14 (v 3) 4),m (st (v 14) (v 13) 1)]) (Q (R [n 15 (bsl 15 2 []),n 16 (fld 16 (v 1) 5),n 17 (ld 17 (v 16) 1 false),n 18 (app 18 (v 15) (v 17) 2 32),n 19 (fld 19 (v 3) 5),m (st (v 19) (v 18) 1)]) (Q (R [n 20 (ld 20 (v 3) 6 true),m (st (v 2) (v 20) 6)]) .ret)))))
def c_S_l6Cut:Cmd:=Q (R [n 4 (asg 4 (.c (.own 2 [])))]) (Q (R [n 7 (bsl 7 2 []),n 5 (asg 5 (v 7))]) (Q (Q (R [n 6 (asg 6 (k 0))]) (.blk 0 (.loop (Q (Q (R [n 8 (mov 8 (v 6)),n 9 (mov 9 (v 0)),n 10 (len 10 (v 9)),n 11 (bin 11 .lss (v 8) (v 10))]) (F (v 11) .skip (.exit 0))) (Q (.blk 1 (Q (R [n 14 (mov 14 (v 0)),n 15 (mov 15 (v 6)),n 16 (idx 16 (v 14) (v 15) 2),n 17 (fld 17 (v 16) 0),n 18 (ld 18 (v 17) 1 false),n 19 (mov 19 (v 1)),n 20 (bin 20 .neq (v 18) (v 19))]) (F (v 20) (R [n 21 (mov 21 (v 5)),n 22 (mov 22 (v 0)),n 23 (mov 23 (v 6)),n 24 (idx 24 (v 22) (v 23) 2),n 25 (ld 25 (v 24) 2 true),n 26 (bsl 26 2 [v 25]),n 27 (app 27 (v 21) (v 26) 2 24),n 5 (asg 5 (v 27))]) .skip))) (R [n 12 (mov 12 (v 6)),n 13 (bin 13 .add (v 12) (k 1)),n 6 (asg 6 (v 13))])))))) (Q (R [n 28 (mov 28 (v 5)),n 4 (asg 4 (v 28))]) .ret)))
def c_L_toInode:Cmd:=Q (R [n 1 (box 1 (v 0)),n 2 (alc 2 [.int .i64 0,.int .i64 0,.int .i64 0,.sl 1 [],.sl 2 [],.sl 2 []])]) (Q (R [n 3 (alc 3 [.int .i64 0,.int .i64 0,.int .i64 0,.sl 1 [],.sl 2 [],.sl 2 []])]) (Q (R [n 4 (fld 4 (v 1) 0),n 5 (ld 5 (v 4) 1 false),n 6 (fld 6 (v 3) 0),m (st (v 6) (v 5) 1)]) (Q (R [n 7 (fld 7 (v 1) 1),n 8 (ld 8 (v 7) 1 false),n 9 (fld 9 (v 3) 1),m (st (v 9) (v 8) 1)]) (Q (R [n 10 (fld 10 (v 1) 2),n 11 (ld 11 (v 10) 1 false),n 12 (fld 12 (v 3) 2),m (st (v 12) (v 11) 1)]) (Q (R [n 13 (fld 13 (v 1) 3),n 14 (ld 14 (v 13) 1 false),n 15 (call (some 15) 127 [v 14]),n 16 (fld 16 (v 3) 3),m (st (v 16) (v 15) 1)]) (Q (R [n 17 (fld 17 (v 1) 4),n 18 (ld 18 (v 17) 1 false),n 19 (call (some 19) 254 [v 18]),n 20 (fld 20 (v 3) 4),m (st (v 20) (v 19) 1)]) (Q (R [n 21 (fld 21 (v 1) 5),n 22 (ld 22 (v 21) 1 false),n 23 (call (some 23) 255 [v 22]),n 24 (fld 24 (v 3) 5),m (st (v 24) (v 23) 1)]) (Q (R [n 25 (ld 25 (v 3) 6 true),m (st (v 2) (v 25) 6)]) .ret))))))))
def c_I_copyInode:Cmd:=Q (R [n 1 (box 1 (v 0)),n 2 (alc 2 [.int .i64 0,.int .i64 0,.int .i64 0,.sl 1 [],.sl 2 [],.sl 2 []])]) (Q (R [n 3 (fld 3 (v 1) 3),n 4 (ld 4 (v 3) 1 false),n 5 (call (some 5) 172 [v 4]),n 6 (fld 6 (v 1) 3),m (st (v 6) (v 5) 1)]) (Q (R [n 7 (fld 7 (v 1) 4),n 8 (ld 8 (v 7) 1 false),n 9 (call (some 9) 193 [v 8]),n 10 (fld 10 (v 1) 4),m (st (v 10) (v 9) 1)]) (Q (R [n 11 (fld 11 (v 1) 5),n 12 (ld 12 (v 11) 1 false),n 13 (call (some 13) 256 [v 12]),n 14 (fld 14 (v 1) 5),m (st (v 14) (v 13) 1)]) (Q (R [n 15 (ld 15 (v 1) 6 true),m (st (v 2) (v 15) 6)]) .ret))))
def c_I_ParentOf:Cmd:=Q (R [n 2 (asg 2 (.c (.str []))),n 3 (asg 3 (.c (.str []))),n 4 (asg 4 k0)]) (Q (R [n 9 (mov 9 (v 0)),n 10 (call (some 10) 158 [v 9]),n 8 (mov 8 (v 10)),n 11 (xtr 11 (v 8) 0),n 12 (xtr 12 (v 8) 1),n 5 (asg 5 (v 11)),n 6 (asg 6 (v 12))]) (Q (Q (R [n 13 (mov 13 (v 6)),n 14 (un 14 .not (v 13)),n 15 (mov 15 (v 14)),h 15 false 16 (mov 16 (v 5)),h 15 false 17 (len 17 (v 16)),h 15 false 18 (bin 18 .eql (v 17) (k 0)),n 19 (pck 19 (v 15) k1 (v 18))]) (F (v 19) (Q (R [n 2 (asg 2 (.c (.str []))),n 3 (asg 3 (.c (.str []))),n 4 (asg 4 k0)]) .ret) .skip)) (Q (R [n 20 (mov 20 (v 5)),n 21 (len 21 (v 20)),n 22 (bin 22 .sub (v 21) (k 1)),n 7 (asg 7 (v 22))]) (Q (D [0,0,3,7,0,0,48,112,15,511,1023] [n 23 (mov 23 (v 5)),n 24 (mov 24 (v 7)),n 25 (slc 25 (v 23) none (some (v 24)) 1),n 26 (call (some 26) 257 [v 25]),n 27 (mov 27 (v 5)),n 28 (mov 28 (v 7)),n 29 (idx 29 (v 27) (v 28) 1),n 30 (ld 30 (v 29) 1 false),n 2 (asg 2 (v 26)),n 3 (asg 3 (v 30)),n 4 (asg 4 k1)]) .ret))))
def c_X_DeleteFunc_Ent:Cmd:=Q (R [n 4 (asg 4 (.c (.own 2 [])))]) (Q (R [n 8 (mov 8 (v 0)),n 9 (mov 9 (v 1)),n 10 (call (some 10) 209 [v 8,v 9]),n 5 (asg 5 (v 10))]) (Q (Q (R [n 11 (mov 11 (v 5)),n 12 (bin 12 .eql (v 11) (k (-1)))]) (F (v 12) (Q (R [n 13 (mov 13 (v 0)),n 4 (asg 4 (v 13))]) .ret) .skip)) (Q (Q (R [n 14 (mov 14 (v 5)),n 15 (bin 15 .add (v 14) (k 1)),n 6 (asg 6 (v 15))]) (.blk 0 (.loop (Q (Q (R [n 16 (mov 16 (v 6)),n 17 (mov 17 (v 0)),n 18 (len 18 (v 17)),n 19 (bin 19 .lss (v 16) (v 18))]) (F (v 19) .skip (.exit 0))) (Q (.blk 1 (Q (R [n 22 (mov 22 (v 0)),n 23 (mov 23 (v 6)),n 24 (idx 24 (v 22) (v 23) 2),n 25 (ld 25 (v 24) 2 true),n 7 (alc 7 [.str [],.int .i64 0]),m (st (v 7) (v 25) 2)]) (Q (R [n 26 (mov 26 (v 1)),n 27 (ld 27 (v 7) 2 true),n 28 (callv (some 28) (v 26) [v 27]),n 29 (un 29 .not (v 28))]) (F (v 29) (Q (R [n 30 (mov 30 (v 0)),n 31 (mov 31 (v 5)),n 32 (ld 32 (v 7) 2 true),n 33 (idx 33 (v 30) (v 31) 2),m (st (v 33) (v 32) 2)]) (R [n 34 (mov 34 (v 5)),n 35 (bin 35 .add (v 34) (k 1)),n 5 (asg 5 (v 35))])) .skip)))) (R [n 20 (mov 20 (v 6)),n 21 (bin 21 .add (v 20) (k 1)),n 6 (asg 6 (v 21))])))))) (Q (R [n 36 (mov 36 (v 0)),n 37 (mov 37 (v 5)),n 38 (slc 38 (v 36) (some (v 37)) none 2),m (.clr (v 38) 2 [.str [],.int .i64 0])]) (Q (R [n 39 (mov 39 (v 0)),n 40 (mov 40 (v 5)),n 41 (slc 41 (v 39) none (some (v 40)) 2),n 4 (asg 4 (v 41))]) .ret)))))
def c_X_Clone_Ent:Cmd:=Q (R [n 2 (asg 2 (.c (.own 2 [])))]) (Q (Q (R [n 3 (mov 3 (v 0)),n 4 (isn 4 false (v 3) (.c (.own 2 [])))]) (F (v 4) (Q (R [n 2 (asg 2 (.c (.own 2 [])))]) .ret) .skip)) (Q (R [n 5 (bsl 5 2 []),n 6 (mov 6 (v 0)),n 7 (app 7 (v 5) (v 6) 2 24),n 2 (asg 2 (v 7))]) .ret))
def c_X_DeleteFunc_Inode:Cmd:=Q (R [n 4 (asg 4 (.c (.own 6 [])))]) (Q (R [n 8 (mov 8 (v 0)),n 9 (mov 9 (v 1)),n 10 (call (some 10) 197 [v 8,v 9]),n 5 (asg 5 (v 10))]) (Q (Q (R [n 11 (mov 11 (v 5)),n 12 (bin 12 .eql (v 11) (k (-1)))]) (F (v 12) (Q (R [n 13 (mov 13 (v 0)),n 4 (asg 4 (v 13))]) .ret) .skip)) (Q (Q (R [n 14 (mov 14 (v 5)),n 15 (bin 15 .add (v 14) (k 1)),n 6 (asg 6 (v 15))]) (.blk 0 (.loop (Q (Q (R [n 16 (mov 16 (v 6)),n 17 (mov 17 (v 0)),n 18 (len 18 (v 17)),n 19 (bin 19 .lss (v 16) (v 18))]) (F (v 19) .skip (.exit 0))) (Q (.blk 1 (Q (R [n 22 (mov 22 (v 0)),n 23 (mov 23 (v 6)),n 24 (idx 24 (v 22) (v 23) 6),n 25 (ld 25 (v 24) 6 true),n 7 (alc 7 [.int .i64 0,.int .i64 0,.int .i64 0,.sl 1 [],.sl 2 [],.sl 2 []]),m (st (v 7) (v 25) 6)]) (Q (R [n 26 (mov 26 (v 1)),n 27 (ld 27 (v 7) 6 true),n 28 (callv (some 28) (v 26) [v 27]),n 29 (un 29 .not (v 28))]) (F (v 29) (Q (R [n 30 (mov 30 (v 0)),n 31 (mov 31 (v 5)),n 32 (ld 32 (v 7) 6 true),n 33 (idx 33 (v 30) (v 31) 6),m (st (v 33) (v 32) 6)]) (R [n 34 (mov 34 (v 5)),n 35 (bin 35 .add (v 34) (k 1)),n 5 (asg 5 (v 35))])) .skip)))) (R [n 20 (mov 20 (v 6)),n 21 (bin 21 .add (v 20) (k 1)),n 6 (asg 6 (v 21))])))))) (Q (R [n 36 (mov 36 (v 0)),n 37 (mov 37 (v 5)),n 38 (slc 38 (v 36) (some (v 37)) none 6),m (.clr (v 38) 6 [.int .i64 0,.int .i64 0,.int .i64 0,.sl 1 [],.sl 2 [],.sl 2 []])]) (Q (R [n 39 (mov 39 (v 0)),n 40 (mov 40 (v 5)),n 41 (slc 41 (v 39) none (some (v 40)) 6),n 4 (asg 4 (v 41))]) .ret)))))
def c_I_DropInode_1:Cmd:=Q (R [n 2 (box 2 (v 0)),n 3 (asg 3 k0)]) (Q (R [n 4 (fld 4 (v 2) 0),n 5 (ld 5 (v 4) 1 false),n 6 (ld 6 (v 1) 1 false),n 7 (bin 7 .eql (v 5) (v 6)),n 3 (asg 3 (v 7))]) .ret)
def c_X_IndexFunc_Inode:Cmd:=Q (R [n 4 (asg 4 (k 0))]) (Q (Q (R [n 6 (mov 6 (v 0)),n 7 (len 7 (v 6)),n 8 (mov 8 (k 0))]) (.blk 0 (.loop (Q (R [n 9 (bin 9 .lss (v 8) (v 7))]) (Q (F (v 9) .skip (.exit 0)) (Q (.blk 1 (Q (R [n 10 (mov 10 (v 8)),n 5 (asg 5 (v 10))]) (Q (R [n 11 (mov 11 (v 1)),n 12 (mov 12 (v 0)),n 13 (mov 13 (v 5)),n 14 (idx 14 (v 12) (v 13) 6),n 15 (ld 15 (v 14) 6 true),n 16 (callv (some 16) (v 11) [v 15])]) (F (v 16) (Q (R [n 17 (mov 17 (v 5)),n 4 (asg 4 (v 17))]) .ret) .skip)))) (R [n 18 (bin 18 .add (v 8) (k 1)),n 8 (mov 8 (v 18))]))))))) (Q (R [n 4 (asg 4 (k (-1)))]) .ret))
def c_L_eqInode:Cmd:=Q (R [n 2 (box 2 (v 0)),n 3 (box 3 (v 1)),n 4 (asg 4 k0)]) (Q (Q (R [n 5 (fld 5 (v 2) 0),n 6 (ld 6 (v 5) 1 false),n 7 (fld 7 (v 3) 0),n 8 (ld 8 (v 7) 1 false),n 9 (bin 9 .neq (v 6) (v 8))]) (F (v 9) (Q (R [n 4 (asg 4 k0)]) .ret) .skip)) (Q (Q (R [n 10 (fld 10 (v 2) 1),n 11 (ld 11 (v 10) 1 false),n 12 (fld 12 (v 3) 1),n 13 (ld 13 (v 12) 1 false),n 14 (bin 14 .neq (v 11) (v 13))]) (F (v 14) (Q (R [n 4 (asg 4 k0)]) .ret) .skip)) (Q (Q (R [n 15 (fld 15 (v 2) 2),n 16 (ld 16 (v 15) 1 false),n 17 (fld 17 (v 3) 2),n 18 (ld 18 (v 17) 1 false),n 19 (bin 19 .neq (v 16) (v 18))]) (F (v 19) (Q (R [n 4 (asg 4 k0)]) .ret) .skip)) (Q (Q (R [n 20 (fld 20 (v 2) 3),n 21 (ld 21 (v 20) 1 false),n 22 (fld 22 (v 3) 3),n 23 (ld 23 (v 22) 1 false),n 24 (call (some 24) 131 [v 21,v 23]),n 25 (un 25 .not (v 24))]) (F (v 25) (Q (R [n 4 (asg 4 k0)]) .ret) .skip)) (Q (Q (R [n 26 (fld 26 (v 2) 4),n 27 (ld 27 (v 26) 1 false),n 28 (fld 28 (v 3) 4),n 29 (ld 29 (v 28) 1 false),n 30 (call (some 30) 260 [v 27,v 29]),n 31 (un 31 .not (v 30))]) (F (v 31) (Q (R [n 4 (asg 4 k0)]) .ret) .skip)) (Q (Q (R [n 32 (fld 32 (v 2) 5),n 33 (ld 33 (v 32) 1 false),n 34 (fld 34 (v 3) 5),n 35 (ld 35 (v 34) 1 false),n 36 (call (some 36) 261 [v 33,v 35]),n 37 (un 37 .not (v 36))]) (F (v 37) (Q (R [n 4 (asg 4 k0)]) .ret) .skip)) (Q (R [n 4 (asg 4 k1)]) .ret)))))))
def c_L_markEntS:Cmd:=Q (R [n 4 (asg 4 (k 0))]) (Q (Q (R [n 5 (asg 5 (k 0))]) (.blk 0 (.loop (Q (Q (R [n 6 (mov 6 (v 5)),n 7 (mov 7 (v 0)),n 8 (len 8 (v 7)),n 9 (bin 9 .lss (v 6) (v 8))]) (F (v 9) .skip (.exit 0))) (Q (.blk 1 (Q (R [n 12 (mov 12 (v 0)),n 13 (mov 13 (v 5)),n 14 (mov 14 (v 1)),n 15 (call (some 15) 224 [v 14]),n 16 (idx 16 (v 12) (v 13) 2),n 17 (fld 17 (v 16) 0),m (st (v 17) (v 15) 1)]) (Q (R [n 18 (mov 18 (v 1)),n 19 (bin 19 .add (v 18) (k 1)),n 1 (asg 1 (v 19))]) (Q (R [n 20 (mov 20 (v 0)),n 21 (mov 21 (v 5)),n 22 (mov 22 (v 1)),n 23 (idx 23 (v 20) (v 21) 2),n 24 (fld 24 (v 23) 1),m (st (v 24) (v 22) 1)]) (R [n 25 (mov 25 (v 1)),n 26 (bin 26 .add (v 25) (k 1)),n 1 (asg 1 (v 26))]))))) (R [n 10 (mov 10 (v 5)),n 11 (bin 11 .add (v 10) (k 1)),n 5 (asg 5 (v 11))])))))) (Q (R [n 27 (mov 27 (v 1)),n 4 (asg 4 (v 27))]) .ret))
def c_L_markAttrS:Cmd:=Q (R [n 4 (asg 4 (k 0))]) (Q (Q (R [n 5 (asg 5 (k 0))]) (.blk 0 (.loop (Q (Q (R [n 6 (mov 6 (v 5)),n 7 (mov 7 (v 0)),n 8 (len 8 (v 7)),n 9 (bin 9 .lss (v 6) (v 8))]) (F (v 9) .skip (.exit 0))) (Q (.blk 1 (Q (R [n 12 (mov 12 (v 0)),n 13 (mov 13 (v 5)),n 14 (mov 14 (v 1)),n 15 (call (some 15) 224 [v 14]),n 16 (idx 16 (v 12) (v 13) 2),n 17 (fld 17 (v 16) 0),m (st (v 17) (v 15) 1)]) (Q (R [n 18 (mov 18 (v 1)),n 19 (bin 19 .add (v 18) (k 1)),n 1 (asg 1 (v 19))]) (Q (R [n 20 (mov 20 (v 0)),n 21 (mov 21 (v 5)),n 22 (mov 22 (v 1)),n 23 (call (some 23) 224 [v 22]),n 24 (idx 24 (v 20) (v 21) 2),n 25 (fld 25 (v 24) 1),m (st (v 25) (v 23) 1)]) (R [n 26 (mov 26 (v 1)),n 27 (bin 27 .add (v 26) (k 1)),n 1 (asg 1 (v 27))]))))) (R [n 10 (mov 10 (v 5)),n 11 (bin 11 .add (v 10) (k 1)),n 5 (asg 5 (v 11))])))))) (Q (R [n 28 (mov 28 (v 1)),n 4 (asg 4 (v 28))]) .ret))
def c_L_heldByteS:Cmd:=Q (R [n 4 (asg 4 (k 0))]) (Q (Q (R [n 5 (asg 5 (k 0))]) (.blk 0 (.loop (Q (Q (R [n 6 (mov 6 (v 5)),n 7 (mov 7 (v 0)),n 8 (len 8 (v 7)),n 9 (bin 9 .lss (v 6) (v 8))]) (F (v 9) .skip (.exit 0))) (Q (.blk 1 (Q (Q (R [n 12 (mov 12 (v 0)),n 13 (mov 13 (v 5)),n 14 (idx 14 (v 12) (v 13) 1),n 15 (ld 15 (v 14) 1 false),n 16 (mov 16 (v 1)),n 17 (conv 17 .u8 (v 16)),n 18 (bin 18 .neq (v 15) (v 17))]) (F (v 18) (Q (R [n 4 (asg 4 (k (-1)))]) .ret) .skip)) (R [n 19 (mov 19 (v 1)),n 20 (bin 20 .add (v 19) (k 1)),n 1 (asg 1 (v 20))]))) (R [n 10 (mov 10 (v 5)),n 11 (bin 11 .add (v 10) (k 1)),n 5 (asg 5 (v 11))])))))) (Q (R [n 21 (mov 21 (v 1)),n 4 (asg 4 (v 21))]) .ret))
def c_L_heldEntS:Cmd:=Q (R [n 4 (asg 4 (k 0))]) (Q (Q (R [n 5 (asg 5 (k 0))]) (.blk 0 (.loop (Q (Q (R [n 6 (mov 6 (v 5)),n 7 (mov 7 (v 0)),n 8 (len 8 (v 7)),n 9 (bin 9 .lss (v 6) (v 8))]) (F (v 9) .skip (.exit 0))) (Q (.blk 1 (Q (Q (D [0,0,3,7,15,0,32,127] [n 12 (mov 12 (v 0)),n 13 (mov 13 (v 5)),n 14 (idx 14 (v 12) (v 13) 2),n 15 (fld 15 (v 14) 0),n 16 (ld 16 (v 15) 1 false),n 17 (mov 17 (v 1)),n 18 (call (some 18) 224 [v 17]),n 19 (bin 19 .neq (v 16) (v 18))]) (F (v 19) (Q (R [n 4 (asg 4 (k (-1)))]) .ret) .skip)) (Q (R [n 20 (mov 20 (v 1)),n 21 (bin 21 .add (v 20) (k 1)),n 1 (asg 1 (v 21))]) (Q (Q (R [n 22 (mov 22 (v 0)),n 23 (mov 23 (v 5)),n 24 (idx 24 (v 22) (v 23) 2),n 25 (fld 25 (v 24) 1),n 26 (ld 26 (v 25) 1 false),n 27 (mov 27 (v 1)),n 28 (bin 28 .neq (v 26) (v 27))]) (F (v 28) (Q (R [n 4 (asg 4 (k (-1)))]) .ret) .skip)) (R [n 29 (mov 29 (v 1)),n 30 (bin 30 .add (v 29) (k 1)),n 1 (asg 1 (v 30))]))))) (R [n 10 (mov 10 (v 5)),n 11 (bin 11 .add (v 10) (k 1)),n 5 (asg 5 (v 11))])))))) (Q (R [n 31 (mov 31 (v 1)),n 4 (asg 4 (v 31))]) .ret))
def c_L_heldAttrS:Cmd:=Q (R [n 4 (asg 4 (k 0))]) (Q (Q (R [n 5 (asg 5 (k 0))]) (.blk 0 (.loop (Q (Q (R [n 6 (mov 6 (v 5)),n 7 (mov 7 (v 0)),n 8 (len 8 (v 7)),n 9 (bin 9 .lss (v 6) (v 8))]) (F (v 9) .skip (.exit 0))) (Q (.blk 1 (Q (Q (D [0,0,3,7,15,0,32,127] [n 12 (mov 12 (v 0)),n 13 (mov 13 (v 5)),n 14 (idx 14 (v 12) (v 13) 2),n 15 (fld 15 (v 14) 0),n 16 (ld 16 (v 15) 1 false),n 17 (mov 17 (v 1)),n 18 (call (some 18) 224 [v 17]),n 19 (bin 19 .neq (v 16) (v 18))]) (F (v 19) (Q (R [n 4 (asg 4 (k (-1)))]) .ret) .skip)) (Q (R [n 20 (mov 20 (v 1)),n 21 (bin 21 .add (v 20) (k 1)),n 1 (asg 1 (v 21))]) (Q (Q (D [0,0,3,7,15,0,32,127] [n 22 (mov 22 (v 0)),n 23 (mov 23 (v 5)),n 24 (idx 24 (v 22) (v 23) 2),n 25 (fld 25 (v 24) 1),n 26 (ld 26 (v 25) 1 false),n 27 (mov 27 (v 1)),n 28 (call (some 28) 224 [v 27]),n 29 (bin 29 .neq (v 26) (v 28))]) (F (v 29) (Q (R [n 4 (asg 4 (k (-1)))]) .ret) .skip)) (R [n 30 (mov 30 (v 1)),n 31 (bin 31 .add (v 30) (k 1)),n 1 (asg 1 (v 31))]))))) (R [n 10 (mov 10 (v 5)),n 11 (bin 11 .add (v 10) (k 1)),n 5 (asg 5 (v 11))])))))) (Q (R [n 32 (mov 32 (v 1)),n 4 (asg 4 (v 32))]) .ret))
def c_S_l5Walk:Cmd:=Q (R [n 2 (box 2 (v 0)),n 4 (asg 4 (k 0)),n 5 (asg 5 (k 0))]) (Q (R [n 6 (asg 6 (k 1))]) (Q (Q (R [n 7 (asg 7 (k 0))]) (.blk 0 (.loop (Q (Q (R [n 9 (mov 9 (v 7)),n 10 (mov 10 (v 1)),n 11 (len 11 (v 10)),n 12 (bin 12 .lss (v 9) (v 11))]) (F (v 12) .skip (.exit 0))) (Q (.blk 1 (Q (R [n 15 (ld 15 (v 2) 2 true),n 16 (mov 16 (v 6)),n 17 (call (some 17) 168 [v 15,v 16]),n 8 (asg 8 (v 17))]) (Q (Q (R [n 18 (mov 18 (v 8)),n 19 (bin 19 .lss (v 18) (k 0))]) (F (v 19) (Q (R [n 4 (asg 4 (k 0)),n 5 (asg 5 (k 2))]) .ret) .skip)) (Q (Q (R [n 20 (fld 20 (v 2) 0),n 21 (ld 21 (v 20) 1 false),n 22 (mov 22 (v 8)),n 23 (idx 23 (v 21) (v 22) 6),n 24 (fld 24 (v 23) 1),n 25 (ld 25 (v 24) 1 false),n 26 (bin 26 .neq (v 25) (k 2))]) (F (v 26) (Q (R [n 4 (asg 4 (k 0)),n 5 (asg 5 (k 3))]) .ret) .skip)) (Q (D [0,1,0,7,15,0,0,96,224,511,1023] [n 27 (fld 27 (v 2) 0),n 28 (ld 28 (v 27) 1 false),n 29 (mov 29 (v 8)),n 30 (idx 30 (v 28) (v 29) 6),n 31 (ld 31 (v 30) 6 true),n 32 (mov 32 (v 1)),n 33 (mov 33 (v 7)),n 34 (idx 34 (v 32) (v 33) 1),n 35 (ld 35 (v 34) 1 false),n 36 (call (some 36) 207 [v 31,v 35]),n 6 (asg 6 (v 36))]) (Q (R [n 37 (mov 37 (v 6)),n 38 (bin 38 .eql (v 37) (k 0))]) (F (v 38) (Q (R [n 4 (asg 4 (k 0)),n 5 (asg 5 (k 2))]) .ret) .skip))))))) (R [n 13 (mov 13 (v 7)),n 14 (bin 14 .add (v 13) (k 1)),n 7 (asg 7 (v 14))])))))) (Q (R [n 39 (mov 39 (v 6)),n 4 (asg 4 (v 39)),n 5 (asg 5 (k 0))]) .ret)))
def c_S_EntOf:Cmd:=Q (R [n 2 (box 2 (v 0)),n 4 (asg 4 (k 0))]) (Q (Q (R [n 5 (asg 5 (k 0))]) (.blk 0 (.loop (Q (Q (R [n 6 (mov 6 (v 5)),n 7 (fld 7 (v 2) 4),n 8 (ld 8 (v 7) 1 false),n 9 (len 9 (v 8)),n 10 (bin 10 .lss (v 6) (v 9))]) (F (v 10) .skip (.exit 0))) (Q (.blk 1 (Q (R [n 13 (fld 13 (v 2) 4),n 14 (ld 14 (v 13) 1 false),n 15 (mov 15 (v 5)),n 16 (idx 16 (v 14) (v 15) 2),n 17 (fld 17 (v 16) 0),n 18 (ld 18 (v 17) 1 false),n 19 (mov 19 (v 1)),n 20 (bin 20 .eql (v 18) (v 19))]) (F (v 20) (Q (R [n 21 (fld 21 (v 2) 4),n 22 (ld 22 (v 21) 1 false),n 23 (mov 23 (v 5)),n 24 (idx 24 (v 22) (v 23) 2),n 25 (fld 25 (v 24) 1),n 26 (ld 26 (v 25) 1 false),n 4 (asg 4 (v 26))]) .ret) .skip))) (R [n 11 (mov 11 (v 5)),n 12 (bin 12 .add (v 11) (k 1)),n 5 (asg 5 (v 12))])))))) (Q (R [n 4 (asg 4 (k 0))]) .ret))
def c_S_InodeAt:Cmd:=Q (R [n 2 (box 2 (v 0)),n 4 (alc 4 [.int .i64 0,.int .i64 0,.int .i64 0,.sl 1 [],.sl 2 [],.sl 2 []]),n 5 (asg 5 k0)]) (Q (R [n 7 (ld 7 (v 2) 2 true),n 8 (mov 8 (v 1)),n 9 (call (some 9) 168 [v 7,v 8]),n 6 (asg 6 (v 9))]) (Q (Q (R [n 10 (mov 10 (v 6)),n 11 (bin 11 .lss (v 10) (k 0))]) (F (v 11) (Q (R [n 12 (bld 12 [.int .i64 0,.int .i64 0,.int .i64 0,.sl 1 [],.sl 2 [],.sl 2 []] []),m (st (v 4) (v 12) 6),n 5 (asg 5 k0)]) .ret) .skip)) (Q (R [n 13 (fld 13 (v 2) 0),n 14 (ld 14 (v 13) 1 false),n 15 (mov 15 (v 6)),n 16 (idx 16 (v 14) (v 15) 6),n 17 (ld 17 (v 16) 6 true),n 18 (call (some 18) 187 [v 17]),m (st (v 4) (v 18) 6),n 5 (asg 5 k1)]) .ret)))
def c_X_IndexFunc_Ent:Cmd:=Q (R [n 4 (asg 4 (k 0))]) (Q (Q (R [n 6 (mov 6 (v 0)),n 7 (len 7 (v 6)),n 8 (mov 8 (k 0))]) (.blk 0 (.loop (Q (R [n 9 (bin 9 .lss (v 8) (v 7))]) (Q (F (v 9) .skip (.exit 0)) (Q (.blk 1 (Q (R [n 10 (mov 10 (v 8)),n 5 (asg 5 (v 10))]) (Q (R [n 11 (mov 11 (v 1)),n 12 (mov 12 (v 0)),n 13 (mov 13 (v 5)),n 14 (idx 14 (v 12) (v 13) 2),n 15 (ld 15 (v 14) 2 true),n 16 (callv (some 16) (v 11) [v 15])]) (F (v 16) (Q (R [n 17 (mov 17 (v 5)),n 4 (asg 4 (v 17))]) .ret) .skip)))) (R [n 18 (bin 18 .add (v 8) (k 1)),n 8 (mov 8 (v 18))]))))))) (Q (R [n 4 (asg 4 (k (-1)))]) .ret))
def c_S_l1In:Cmd:=Q (R [n 6 (asg 6 k0)]) (Q (R [n 7 (mov 7 (v 0)),n 8 (mov 8 (v 1)),n 9 (bin 9 .geq (v 7) (v 8)),n 10 (mov 10 (v 9)),h 10 true 11 (mov 11 (v 0)),h 10 true 12 (mov 12 (v 2)),h 10 true 13 (bin 13 .leq (v 11) (v 12)),n 14 (pck 14 (v 10) (v 13) k0),n 6 (asg 6 (v 14))]) .ret)
def c_S_NameOk:Cmd:=Q (R [n 2 (asg 2 k0)]) (Q (Q (R [n 3 (asg 3 (k 0))]) (.blk 0 (.loop (Q (Q (R [n 5 (mov 5 (v 3)),n 6 (mov 6 (v 0)),n 7 (lens 7 (v 6)),n 8 (bin 8 .lss (v 5) (v 7))]) (F (v 8) .skip (.exit 0))) (Q (.blk 1 (Q (R [n 11 (mov 11 (v 0)),n 12 (mov 12 (v 3)),n 13 (sidx 13 (v 11) (v 12)),n 14 (conv 14 .i64 (v 13)),n 4 (asg 4 (v 14))]) (Q (R [n 15 (mov 15 (v 4)),n 16 (call (some 16) 213 [v 15,k 97,k 122]),n 17 (un 17 .not (v 16)),n 18 (mov 18 (v 17)),h 18 true 19 (mov 19 (v 4)),h 18 true 20 (call (some 20) 213 [v 19,k 48,k 57]),h 18 true 21 (un 21 .not (v 20)),n 22 (pck 22 (v 18) (v 21) k0),n 23 (mov 23 (v 22)),h 23 true 24 (mov 24 (v 4)),h 23 true 25 (bin 25 .neq (v 24) (k 95)),n 26 (pck 26 (v 23) (v 25) k0),n 27 (mov 27 (v 26)),h 27 true 28 (mov 28 (v 4)),h 27 true 29 (bin 29 .neq (v 28) (k 45)),n 30 (pck 30 (v 27) (v 29) k0),n 31 (mov 31 (v 30)),h 31 true 32 (mov 32 (v 4)),h 31 true 33 (bin 33 .neq (v 32) (k 46)),n 34 (pck 34 (v 31) (v 33) k0)]) (F (v 34) (Q (R [n 2 (asg 2 k0)]) .ret) .skip)))) (R [n 9 (mov 9 (v 3)),n 10 (bin 10 .add (v 9) (k 1)),n 3 (asg 3 (v 10))])))))) (Q (R [n 35 (mov 35 (v 0)),n 36 (lens 36 (v 35)),n 37 (call (some 37) 213 [v 36,k 1,k 14]),n 38 (mov 38 (v 37)),h 38 true 39 (mov 39 (v 0)),h 38 true 40 (bin 40 .neq (v 39) (.c (.str [46]))),n 41 (pck 41 (v 38) (v 40) k0),n 42 (mov 42 (v 41)),h 42 true 43 (mov 43 (v 0)),h 42 true 44 (bin 44 .neq (v 43) (.c (.str [46,46]))),n 45 (pck 45 (v 42) (v 44) k0),n 2 (asg 2 (v 45))]) .ret))
def c_L_markText:Cmd:=Q (R [n 2 (asg 2 (.c (.str [])))]) (Q (Q (R [n 4 (mov 4 (v 0)),n 5 (bin 5 .leq (v 4) (k 0))]) (F (v 5) (Q (R [n 2 (asg 2 (.c (.str [109,48])))]) .ret) .skip)) (Q (R [n 3 (asg 3 (.c (.str [])))]) (Q (.blk 0 (.loop (Q (Q (R [n 6 (mov 6 (v 0)),n 7 (bin 7 .gtr (v 6) (k 0))]) (F (v 7) .skip (.exit 0))) (.blk 1 (Q (R [n 8 (mov 8 (v 0)),n 9 (bin 9 .rem (v 8) (k 10)),n 10 (bin 10 .add (k 48) (v 9)),n 11 (conv 11 .u8 (v 10)),n 12 (bsl 12 1 [v 11]),n 13 (b2s 13 (v 12)),n 14 (mov 14 (v 3)),n 15 (bin 15 .add (v 13) (v 14)),n 3 (asg 3 (v 15))]) (R [n 16 (mov 16 (v 0)),n 17 (bin 17 .quo (v 16) (k 10)),n 0 (asg 0 (v 17))])))))) (Q (R [n 18 (mov 18 (v 3)),n 19 (bin 19 .add (.c (.str [109])) (v 18)),n 2 (asg 2 (v 19))]) .ret))))
def c_I_InodeOk:Cmd:=Q (R [n 1 (box 1 (v 0)),n 2 (asg 2 k0)]) (Q (Q (R [n 5 (fld 5 (v 1) 0),n 6 (ld 6 (v 5) 1 false),n 7 (call (some 7) 137 [v 6,k 1,k 1000]),n 8 (un 8 .not (v 7)),n 9 (mov 9 (v 8)),h 9 false 10 (fld 10 (v 1) 3),h 9 false 11 (ld 11 (v 10) 1 false),h 9 false 12 (len 12 (v 11)),h 9 false 13 (bin 13 .gtr (v 12) (k 100)),n 14 (pck 14 (v 9) k1 (v 13)),n 15 (mov 15 (v 14)),h 15 false 16 (fld 16 (v 1) 4),h 15 false 17 (ld 17 (v 16) 1 false),h 15 false 18 (len 18 (v 17)),h 15 false 19 (bin 19 .gtr (v 18) (k 10)),n 20 (pck 20 (v 15) k1 (v 19)),n 21 (mov 21 (v 20)),h 21 false 22 (fld 22 (v 1) 5),h 21 false 23 (ld 23 (v 22) 1 false),h 21 false 24 (call (some 24) 281 [v 23]),h 21 false 25 (un 25 .not (v 24)),n 26 (pck 26 (v 21) k1 (v 25))]) (F (v 26) (Q (R [n 2 (asg 2 k0)]) .ret) .skip)) (Q (Q (R [n 27 (fld 27 (v 1) 4),n 28 (ld 28 (v 27) 1 false),n 29 (len 29 (v 28)),n 30 (mov 30 (k 0))]) (.blk 0 (.loop (Q (R [n 31 (bin 31 .lss (v 30) (v 29))]) (Q (F (v 31) .skip (.exit 0)) (Q (.blk 1 (Q (R [n 32 (mov 32 (v 30)),n 33 (idx 33 (v 28) (v 30) 2),n 34 (ld 34 (v 33) 2 true),n 4 (alc 4 [.str [],.int .i64 0]),n 3 (asg 3 (v 32)),m (st (v 4) (v 34) 2)]) (Q (D [0,1,3,7,15,31,63,127,255,511,1023,2047,4095,8191,16383,32767,16383,81919,262143,524287,1048575,16383,2113535,8388607,16777215,33554431] [n 35 (fld 35 (v 4) 0),n 36 (ld 36 (v 35) 1 false),n 37 (call (some 37) 138 [v 36]),n 38 (un 38 .not (v 37)),n 39 (mov 39 (v 38)),h 39 false 40 (fld 40 (v 4) 1),h 39 false 41 (ld 41 (v 40) 1 false),h 39 false 42 (call (some 42) 137 [v 41,k 2,k 1000]),h 39 false 43 (un 43 .not (v 42)),n 44 (pck 44 (v 39) k1 (v 43)),n 45 (mov 45 (v 44)),h 45 false 46 (mov 46 (v 3)),h 45 false 47 (bin 47 .gtr (v 46) (k 0)),h 45 false 48 (mov 48 (v 47)),h 48 true 49 (fld 49 (v 1) 4),h 48 true 50 (ld 50 (v 49) 1 false),h 48 true 51 (mov 51 (v 3)),h 48 true 52 (bin 52 .sub (v 51) (k 1)),h 48 true 53 (idx 53 (v 50) (v 52) 2),h 48 true 54 (fld 54 (v 53) 0),h 48 true 55 (ld 55 (v 54) 1 false),h 48 true 56 (fld 56 (v 4) 0),h 48 true 57 (ld 57 (v 56) 1 false),h 48 true 58 (bin 58 .geq (v 55) (v 57)),h 45 false 59 (pck 59 (v 48) (v 58) k0),n 60 (pck 60 (v 45) k1 (v 59))]) (F (v 60) (Q (R [n 2 (asg 2 k0)]) .ret) .skip)))) (R [n 61 (bin 61 .add (v 30) (k 1)),n 30 (mov 30 (v 61))]))))))) (Q (Q (R [n 62 (fld 62 (v 1) 2),n 63 (ld 63 (v 62) 1 false),n 64 (call (some 64) 137 [v 63,k 0,k 1000]),n 65 (un 65 .not (v 64)),n 66 (mov 66 (v 65)),h 66 false 67 (fld 67 (v 1) 2),h 66 false 68 (ld 68 (v 67) 1 false),h 66 false 69 (bin 69 .eql (v 68) (k 0)),h 66 false 70 (fld 70 (v 1) 0),h 66 false 71 (ld 71 (v 70) 1 false),h 66 false 72 (bin 72 .eql (v 71) (k 1)),h 66 false 73 (beq 73 true (v 69) (v 72)),n 74 (pck 74 (v 66) k1 (v 73))]) (F (v 74) (Q (R [n 2 (asg 2 k0)]) .ret) .skip)) (Q (Q (R [n 75 (fld 75 (v 1) 1),n 76 (ld 76 (v 75) 1 false)]) (.blk 2 (Q (R [n 78 (bin 78 .eql (v 76) (k 1)),n 77 (asg 77 (v 78))]) (F (v 77) (Q (R [n 79 (fld 79 (v 1) 4),n 80 (ld 80 (v 79) 1 false),n 81 (len 81 (v 80)),n 82 (bin 82 .eql (v 81) (k 0)),n 2 (asg 2 (v 82))]) .ret) (Q (R [n 84 (bin 84 .eql (v 76) (k 2)),n 83 (asg 83 (v 84))]) (F (v 83) (Q (R [n 85 (fld 85 (v 1) 3),n 86 (ld 86 (v 85) 1 false),n 87 (len 87 (v 86)),n 88 (bin 88 .eql (v 87) (k 0)),n 89 (mov 89 (v 88)),h 89 true 90 (fld 90 (v 1) 2),h 89 true 91 (ld 91 (v 90) 1 false),h 89 true 92 (bin 92 .leq (v 91) (k 1)),n 93 (pck 93 (v 89) (v 92) k0),n 2 (asg 2 (v 93))]) .ret) .skip)))))) (Q (R [n 2 (asg 2 k0)]) .ret)))))
def c_I_placeOf_1:Cmd:=Q (R [n 2 (box 2 (v 0)),n 3 (asg 3 k0)]) (Q (R [n 4 (fld 4 (v 2) 0),n 5 (ld 5 (v 4) 1 false),n 6 (ld 6 (v 1) 1 false),n 7 (bin 7 .eql (v 5) (v 6)),n 3 (asg 3 (v 7))]) .ret)
def c_X_Split:Cmd:=Q (R [n 4 (asg 4 (.c (.own 1 [])))]) (Q (R [n 5 (mov 5 (v 0)),n 6 (mov 6 (v 1)),n 7 (call (some 7) 282 [v 5,v 6,k 0,k (-1)]),n 4 (asg 4 (v 7))]) .ret)
def c_I_namesOk:Cmd:=Q (R [n 2 (asg 2 k0)]) (Q (R [n 3 (mov 3 (v 0)),n 4 (len 4 (v 3)),n 5 (bin 5 .leq (v 4) (k 30)),n 6 (mov 6 (v 5)),h 6 true 7 (mov 7 (v 0)),h 6 true 8 (call (some 8) 283 [v 7,.c (.fn 284 [])]),h 6 true 9 (un 9 .not (v 8)),n 10 (pck 10 (v 6) (v 9) k0),n 2 (asg 2 (v 10))]) .ret)
def c_S_InodeOk:Cmd:=Q (R [n 1 (box 1 (v 0)),n 2 (asg 2 k0)]) (Q (Q (R [n 3 (fld 3 (v 1) 0),n 4 (ld 4 (v 3) 1 false),n 5 (call (some 5) 213 [v 4,k 1,k 1000]),n 6 (un 6 .not (v 5)),n 7 (mov 7 (v 6)),h 7 false 8 (fld 8 (v 1) 2),h 7 false 9 (ld 9 (v 8) 1 false),h 7 false 10 (call (some 10) 213 [v 9,k 0,k 1000]),h 7 false 11 (un 11 .not (v 10)),n 12 (pck 12 (v 7) k1 (v 11)),n 13 (mov 13 (v 12)),h 13 false 14 (fld 14 (v 1) 2),h 13 false 15 (ld 15 (v 14) 1 false),h 13 false 16 (bin 16 .eql (v 15) (k 0)),h 13 false 17 (fld 17 (v 1) 0),h 13 false 18 (ld 18 (v 17) 1 false),h 13 false 19 (bin 19 .eql (v 18) (k 1)),h 13 false 20 (beq 20 true (v 16) (v 19)),n 21 (pck 21 (v 13) k1 (v 20)),n 22 (mov 22 (v 21)),h 22 false 23 (fld 23 (v 1) 3),h 22 false 24 (ld 24 (v 23) 1 false),h 22 false 25 (len 25 (v 24)),h 22 false 26 (bin 26 .gtr (v 25) (k 100)),n 27 (pck 27 (v 22) k1 (v 26)),n 28 (mov 28 (v 27)),h 28 false 29 (fld 29 (v 1) 4),h 28 false 30 (ld 30 (v 29) 1 false),h 28 false 31 (call (some 31) 287 [v 30]),h 28 false 32 (un 32 .not (v 31)),n 33 (pck 33 (v 28) k1 (v 32)),n 34 (mov 34 (v 33)),h 34 false 35 (fld 35 (v 1) 5),h 34 false 36 (ld 36 (v 35) 1 false),h 34 false 37 (call (some 37) 288 [v 36]),h 34 false 38 (un 38 .not (v 37)),n 39 (pck 39 (v 34) k1 (v 38))]) (F (v 39) (Q (R [n 2 (asg 2 k0)]) .ret) .skip)) (Q (Q (R [n 40 (fld 40 (v 1) 1),n 41 (ld 41 (v 40) 1 false)]) (.blk 0 (Q (R [n 43 (bin 43 .eql (v 41) (k 1)),n 42 (asg 42 (v 43))]) (F (v 42) (Q (R [n 44 (fld 44 (v 1) 4),n 45 (ld 45 (v 44) 1 false),n 46 (len 46 (v 45)),n 47 (bin 47 .eql (v 46) (k 0)),n 2 (asg 2 (v 47))]) .ret) (Q (R [n 49 (bin 49 .eql (v 41) (k 2)),n 48 (asg 48 (v 49))]) (F (v 48) (Q (R [n 50 (fld 50 (v 1) 3),n 51 (ld 51 (v 50) 1 false),n 52 (len 52 (v 51)),n 53 (bin 53 .eql (v 52) (k 0)),n 54 (mov 54 (v 53)),h 54 true 55 (fld 55 (v 1) 2),h 54 true 56 (ld 56 (v 55) 1 false),h 54 true 57 (bin 57 .leq (v 56) (k 1)),n 58 (pck 58 (v 54) (v 57) k0),n 2 (asg 2 (v 58))]) .ret) .skip)))))) (Q (R [n 2 (asg 2 k0)]) .ret)))
def c_X_Index_int:Cmd:=Q (R [n 4 (asg 4 (k 0))]) (Q (Q (R [n 6 (mov 6 (v 0)),n 7 (len 7 (v 6)),n 8 (mov 8 (k 0))]) (.blk 0 (.loop (Q (R [n 9 (bin 9 .lss (v 8) (v 7))]) (Q (F (v 9) .skip (.exit 0)) (Q (.blk 1 (Q (R [n 10 (mov 10 (v 8)),n 5 (asg 5 (v 10))]) (Q (R [n 11 (mov 11 (v 1)),n 12 (mov 12 (v 0)),n 13 (mov 13 (v 5)),n 14 (idx 14 (v 12) (v 13) 1),n 15 (ld 15 (v 14) 1 false),n 16 (bin 16 .eql (v 11) (v 15))]) (F (v 16) (Q (R [n 17 (mov 17 (v 5)),n 4 (asg 4 (v 17))]) .ret) .skip)))) (R [n 18 (bin 18 .add (v 8) (k 1)),n 8 (mov 8 (v 18))]))))))) (Q (R [n 4 (asg 4 (k (-1)))]) .ret))
def c_S_l7Put:Cmd:=Q (R [n 4 (asg 4 (.c (.own 1 [])))]) (Q (Q (R [n 7 (mov 7 (v 0)),n 8 (mov 8 (v 1)),n 9 (call (some 9) 298 [v 7,v 8])]) (F (v 9) (Q (R [n 10 (mov 10 (v 0)),n 4 (asg 4 (v 10))]) .ret) .skip)) (Q (R [n 11 (bsl 11 1 []),n 12 (mov 12 (v 0)),n 13 (app 13 (v 11) (v 12) 1 8),n 14 (mov 14 (v 1)),n 15 (bsl 15 1 [v 14]),n 16 (app 16 (v 13) (v 15) 1 8),n 5 (asg 5 (v 16))]) (Q (R [n 17 (mov 17 (v 5)),n 18 (len 18 (v 17)),n 19 (bin 19 .sub (v 18) (k 1)),n 6 (asg 6 (v 19))]) (Q (.blk 0 (.loop (Q (Q (R [n 20 (mov 20 (v 6)),n 21 (bin 21 .gtr (v 20) (k 0)),n 22 (mov 22 (v 21)),h 22 true 23 (mov 23 (v 5)),h 22 true 24 (mov 24 (v 6)),h 22 true 25 (bin 25 .sub (v 24) (k 1)),h 22 true 26 (idx 26 (v 23) (v 25) 1),h 22 true 27 (ld 27 (v 26) 1 false),h 22 true 28 (mov 28 (v 1)),h 22 true 29 (bin 29 .gtr (v 27) (v 28)),n 30 (pck 30 (v 22) (v 29) k0)]) (F (v 30) .skip (.exit 0))) (.blk 1 (Q (R [n 31 (mov 31 (v 5)),n 32 (mov 32 (v 6)),n 33 (mov 33 (v 5)),n 34 (mov 34 (v 6)),n 35 (bin 35 .sub (v 34) (k 1)),n 36 (idx 36 (v 33) (v 35) 1),n 37 (ld 37 (v 36) 1 false),n 38 (idx 38 (v 31) (v 32) 1),m (st (v 38) (v 37) 1)]) (R [n 39 (mov 39 (v 6)),n 40 (bin 40 .sub (v 39) (k 1)),n 6 (asg 6 (v 40))])))))) (Q (R [n 41 (mov 41 (v 5)),n 42 (mov 42 (v 6)),n 43 (mov 43 (v 1)),n 44 (idx 44 (v 41) (v 42) 1),m (st (v 44) (v 43) 1)]) (Q (R [n 45 (mov 45 (v 5)),n 4 (asg 4 (v 45))]) .ret))))))
def c_L_szEntS:Cmd:=Q (R [n 4 (asg 4 (k 0))]) (Q (R [n 6 (mov 6 (v 1)),n 7 (mov 7 (v 0)),n 8 (len 8 (v 7)),n 9 (bin 9 .sub (v 6) (v 8)),n 1 (asg 1 (v 9))]) (Q (Q (R [n 10 (mov 10 (v 1)),n 11 (bin 11 .lss (v 10) (k 0))]) (F (v 11) (Q (R [n 4 (asg 4 (k (-1)))]) .ret) .skip)) (Q (Q (R [n 5 (asg 5 (k 0))]) (.blk 0 (.loop (Q (Q (R [n 12 (mov 12 (v 5)),n 13 (mov 13 (v 0)),n 14 (len 14 (v 13)),n 15 (bin 15 .lss (v 12) (v 14))]) (F (v 15) .skip (.exit 0))) (Q (.blk 1 (Q (R [n 18 (mov 18 (v 0)),n 19 (mov 19 (v 5)),n 20 (idx 20 (v 18) (v 19) 2),n 21 (ld 21 (v 20) 2 true),n 22 (mov 22 (v 1)),n 23 (call (some 23) 300 [v 21,v 22]),n 1 (asg 1 (v 23))]) (Q (R [n 24 (mov 24 (v 1)),n 25 (bin 25 .lss (v 24) (k 0))]) (F (v 25) (Q (R [n 4 (asg 4 (k (-1)))]) .ret) .skip)))) (R [n 16 (mov 16 (v 5)),n 17 (bin 17 .add (v 16) (k 1)),n 5 (asg 5 (v 17))])))))) (Q (R [n 26 (mov 26 (v 1)),n 4 (asg 4 (v 26))]) .ret))))
def c_L_szAttrS:Cmd:=Q (R [n 4 (asg 4 (k 0))]) (Q (R [n 6 (mov 6 (v 1)),n 7 (mov 7 (v 0)),n 8 (len 8 (v 7)),n 9 (bin 9 .sub (v 6) (v 8)),n 1 (asg 1 (v 9))]) (Q (Q (R [n 10 (mov 10 (v 1)),n 11 (bin 11 .lss (v 10) (k 0))]) (F (v 11) (Q (R [n 4 (asg 4 (k (-1)))]) .ret) .skip)) (Q (Q (R [n 5 (asg 5 (k 0))]) (.blk 0 (.loop (Q (Q (R [n 12 (mov 12 (v 5)),n 13 (mov 13 (v 0)),n 14 (len 14 (v 13)),n 15 (bin 15 .lss (v 12) (v 14))]) (F (v 15) .skip (.exit 0))) (Q (.blk 1 (Q (R [n 18 (mov 18 (v 0)),n 19 (mov 19 (v 5)),n 20 (idx 20 (v 18) (v 19) 2),n 21 (ld 21 (v 20) 2 true),n 22 (mov 22 (v 1)),n 23 (call (some 23) 301 [v 21,v 22]),n 1 (asg 1 (v 23))]) (Q (R [n 24 (mov 24 (v 1)),n 25 (bin 25 .lss (v 24) (k 0))]) (F (v 25) (Q (R [n 4 (asg 4 (k (-1)))]) .ret) .skip)))) (R [n 16 (mov 16 (v 5)),n 17 (bin 17 .add (v 16) (k 1)),n 5 (asg 5 (v 17))])))))) (Q (R [n 26 (mov 26 (v 1)),n 4 (asg 4 (v 26))]) .ret))))
def c_L_toEntS:Cmd:=Q (R [n 2 (asg 2 (.c (.own 2 [])))]) (Q (R [n 5 (mov 5 (v 0)),n 6 (len 6 (v 5)),n 7 (mks 7 (v 6) (v 6) 2 24 [.str [],.int .i64 0]),n 3 (asg 3 (v 7))]) (Q (Q (R [n 4 (asg 4 (k 0))]) (.blk 0 (.loop (Q (Q (R [n 8 (mov 8 (v 4)),n 9 (mov 9 (v 0)),n 10 (len 10 (v 9)),n 11 (bin 11 .lss (v 8) (v 10))]) (F (v 11) .skip (.exit 0))) (Q (.blk 1 (R [n 14 (mov 14 (v 3)),n 15 (mov 15 (v 4)),n 16 (mov 16 (v 0)),n 17 (mov 17 (v 4)),n 18 (idx 18 (v 16) (v 17) 2),n 19 (ld 19 (v 18) 2 true),n 20 (call (some 20) 302 [v 19]),n 21 (idx 21 (v 14) (v 15) 2),m (st (v 21) (v 20) 2)])) (R [n 12 (mov 12 (v 4)),n 13 (bin 13 .add (v 12) (k 1)),n 4 (asg 4 (v 13))])))))) (Q (R [n 22 (mov 22 (v 3)),n 2 (asg 2 (v 22))]) .ret)))
def c_L_toAttrS:Cmd:=Q (R [n 2 (asg 2 (.c (.own 2 [])))]) (Q (R [n 5 (mov 5 (v 0)),n 6 (len 6 (v 5)),n 7 (mks 7 (v 6) (v 6) 2 32 [.str [],.str []]),n 3 (asg 3 (v 7))]) (Q (Q (R [n 4 (asg 4 (k 0))]) (.blk 0 (.loop (Q (Q (R [n 8 (mov 8 (v 4)),n 9 (mov 9 (v 0)),n 10 (len 10 (v 9)),n 11 (bin 11 .lss (v 8) (v 10))]) (F (v 11) .skip (.exit 0))) (Q (.blk 1 (R [n 14 (mov 14 (v 3)),n 15 (mov 15 (v 4)),n 16 (mov 16 (v 0)),n 17 (mov 17 (v 4)),n 18 (idx 18 (v 16) (v 17) 2),n 19 (ld 19 (v 18) 2 true),n 20 (call (some 20) 303 [v 19]),n 21 (idx 21 (v 14) (v 15) 2),m (st (v 21) (v 20) 2)])) (R [n 12 (mov 12 (v 4)),n 13 (bin 13 .add (v 12) (k 1)),n 4 (asg 4 (v 13))])))))) (Q (R [n 22 (mov 22 (v 3)),n 2 (asg 2 (v 22))]) .ret)))
def c_X_Clone_Attr:Cmd:=Q (R [n 2 (asg 2 (.c (.own 2 [])))]) (Q (Q (R [n 3 (mov 3 (v 0)),n 4 (isn 4 false (v 3) (.c (.own 2 [])))]) (F (v 4) (Q (R [n 2 (asg 2 (.c (.own 2 [])))]) .ret) .skip)) (Q (R [n 5 (bsl 5 2 []),n 6 (mov 6 (v 0)),n 7 (app 7 (v 5) (v 6) 2 32),n 2 (asg 2 (v 7))]) .ret))
def c_I_JoinPath:Cmd:=Q (R [n 2 (asg 2 (.c (.str [])))]) (Q (Q (R [n 3 (mov 3 (v 0)),n 4 (call (some 4) 239 [v 3]),n 5 (un 5 .not (v 4))]) (F (v 5) (Q (R [n 2 (asg 2 (.c (.str [])))]) .ret) .skip)) (Q (R [n 6 (mov 6 (v 0)),n 7 (call (some 7) 304 [v 6,.c (.str [47])]),n 8 (bin 8 .add (.c (.str [47])) (v 7)),n 2 (asg 2 (v 8))]) .ret))
def c_L_eqEntS:Cmd:=Q (R [n 4 (asg 4 k0)]) (Q (Q (R [n 6 (mov 6 (v 0)),n 7 (len 7 (v 6)),n 8 (mov 8 (v 1)),n 9 (len 9 (v 8)),n 10 (bin 10 .neq (v 7) (v 9))]) (F (v 10) (Q (R [n 4 (asg 4 k0)]) .ret) .skip)) (Q (Q (R [n 5 (asg 5 (k 0))]) (.blk 0 (.loop (Q (Q (R [n 11 (mov 11 (v 5)),n 12 (mov 12 (v 0)),n 13 (len 13 (v 12)),n 14 (bin 14 .lss (v 11) (v 13))]) (F (v 14) .skip (.exit 0))) (Q (.blk 1 (Q (D [0,0,3,7,0,0,48,112,255,511] [n 17 (mov 17 (v 0)),n 18 (mov 18 (v 5)),n 19 (idx 19 (v 17) (v 18) 2),n 20 (ld 20 (v 19) 2 true),n 21 (mov 21 (v 1)),n 22 (mov 22 (v 5)),n 23 (idx 23 (v 21) (v 22) 2),n 24 (ld 24 (v 23) 2 true),n 25 (call (some 25) 306 [v 20,v 24]),n 26 (un 26 .not (v 25))]) (F (v 26) (Q (R [n 4 (asg 4 k0)]) .ret) .skip))) (R [n 15 (mov 15 (v 5)),n 16 (bin 16 .add (v 15) (k 1)),n 5 (asg 5 (v 16))])))))) (Q (R [n 4 (asg 4 k1)]) .ret)))
def c_L_eqAttrS:Cmd:=Q (R [n 4 (asg 4 k0)]) (Q (Q (R [n 6 (mov 6 (v 0)),n 7 (len 7 (v 6)),n 8 (mov 8 (v 1)),n 9 (len 9 (v 8)),n 10 (bin 10 .neq (v 7) (v 9))]) (F (v 10) (Q (R [n 4 (asg 4 k0)]) .ret) .skip)) (Q (Q (R [n 5 (asg 5 (k 0))]) (.blk 0 (.loop (Q (Q (R [n 11 (mov 11 (v 5)),n 12 (mov 12 (v 0)),n 13 (len 13 (v 12)),n 14 (bin 14 .lss (v 11) (v 13))]) (F (v 14) .skip (.exit 0))) (Q (.blk 1 (Q (D [0,0,3,7,0,0,48,112,255,511] [n 17 (mov 17 (v 0)),n 18 (mov 18 (v 5)),n 19 (idx 19 (v 17) (v 18) 2),n 20 (ld 20 (v 19) 2 true),n 21 (mov 21 (v 1)),n 22 (mov 22 (v 5)),n 23 (idx 23 (v 21) (v 22) 2),n 24 (ld 24 (v 23) 2 true),n 25 (call (some 25) 307 [v 20,v 24]),n 26 (un 26 .not (v 25))]) (F (v 26) (Q (R [n 4 (asg 4 k0)]) .ret) .skip))) (R [n 15 (mov 15 (v 5)),n 16 (bin 16 .add (v 15) (k 1)),n 5 (asg 5 (v 16))])))))) (Q (R [n 4 (asg 4 k1)]) .ret)))
def c_I_attrsOk:Cmd:=Q (R [n 2 (asg 2 k0)]) (Q (Q (R [n 5 (mov 5 (v 0)),n 6 (len 6 (v 5)),n 7 (mov 7 (k 0))]) (.blk 0 (.loop (Q (R [n 8 (bin 8 .lss (v 7) (v 6))]) (Q (F (v 8) .skip (.exit 0)) (Q (.blk 1 (Q (R [n 9 (mov 9 (v 7)),n 10 (idx 10 (v 5) (v 7) 2),n 11 (ld 11 (v 10) 2 true),n 4 (alc 4 [.str [],.str []]),n 3 (asg 3 (v 9)),m (st (v 4) (v 11) 2)]) (Q (D [0,1,3,7,15,31,63,127,255,511,1023,2047,4095,8191,16383,32767,32767,98303,262143,524287,1048575,32767,2129919,8388607,16777215,33554431] [n 12 (fld 12 (v 4) 0),n 13 (ld 13 (v 12) 1 false),n 14 (call (some 14) 138 [v 13]),n 15 (un 15 .not (v 14)),n 16 (mov 16 (v 15)),h 16 false 17 (fld 17 (v 4) 1),h 16 false 18 (ld 18 (v 17) 1 false),h 16 false 19 (lens 19 (v 18)),h 16 false 20 (call (some 20) 137 [v 19,k 1,k 16]),h 16 false 21 (un 21 .not (v 20)),n 22 (pck 22 (v 16) k1 (v 21)),n 23 (mov 23 (v 22)),h 23 false 24 (mov 24 (v 3)),h 23 false 25 (bin 25 .gtr (v 24) (k 0)),h 23 false 26 (mov 26 (v 25)),h 26 true 27 (mov 27 (v 0)),h 26 true 28 (mov 28 (v 3)),h 26 true 29 (bin 29 .sub (v 28) (k 1)),h 26 true 30 (idx 30 (v 27) (v 29) 2),h 26 true 31 (fld 31 (v 30) 0),h 26 true 32 (ld 32 (v 31) 1 false),h 26 true 33 (fld 33 (v 4) 0),h 26 true 34 (ld 34 (v 33) 1 false),h 26 true 35 (bin 35 .geq (v 32) (v 34)),h 23 false 36 (pck 36 (v 26) (v 35) k0),n 37 (pck 37 (v 23) k1 (v 36))]) (F (v 37) (Q (R [n 2 (asg 2 k0)]) .ret) .skip)))) (R [n 38 (bin 38 .add (v 7) (k 1)),n 7 (mov 7 (v 38))]))))))) (Q (R [n 39 (mov 39 (v 0)),n 40 (len 40 (v 39)),n 41 (bin 41 .leq (v 40) (k 4)),n 2 (asg 2 (v 41))]) .ret))
def c_X_genSplit:Cmd:=Q (R [n 8 (asg 8 (.c (.own 1 [])))]) (Q (Q (R [n 12 (mov 12 (v 3)),n 13 (bin 13 .eql (v 12) (k 0))]) (F (v 13) (Q (R [n 8 (asg 8 (.c (.own 1 [])))]) .ret) .skip)) (Q (Q (R [n 14 (mov 14 (v 1)),n 15 (bin 15 .eql (v 14) (.c (.str [])))]) (F (v 15) (Q (R [n 16 (mov 16 (v 0)),n 17 (mov 17 (v 3)),n 18 (call (some 18) 316 [v 16,v 17]),n 8 (asg 8 (v 18))]) .ret) .skip)) (Q (Q (R [n 19 (mov 19 (v 3)),n 20 (bin 20 .lss (v 19) (k 0))]) (F (v 20) (R [n 21 (mov 21 (v 0)),n 22 (mov 22 (v 1)),n 23 (call (some 23) 317 [v 21,v 22]),n 24 (bin 24 .add (v 23) (k 1)),n 3 (asg 3 (v 24))]) .skip)) (Q (R [n 25 (mov 25 (v 3)),n 26 (mov 26 (v 0)),n 27 (lens 27 (v 26)),n 28 (bin 28 .add (v 27) (k 1)),n 29 (mn 29 (v 25) (v 28)),n 3 (asg 3 (v 29))]) (Q (R [n 30 (mov 30 (v 3)),n 31 (mks 31 (v 30) (v 30) 1 16 [.str []]),n 9 (asg 9 (v 31))]) (Q (R [n 32 (mov 32 (v 3)),n 33 (bin 33 .sub (v 32) (k 1)),n 3 (asg 3 (v 33))]) (Q (R [n 10 (asg 10 (k 0))]) (Q (.blk 0 (.loop (Q (Q (R [n 34 (mov 34 (v 10)),n 35 (mov 35 (v 3)),n 36 (bin 36 .lss (v 34) (v 35))]) (F (v 36) .skip (.exit 0))) (.blk 1 (Q (R [n 37 (mov 37 (v 0)),n 38 (mov 38 (v 1)),n 39 (call (some 39) 318 [v 37,v 38]),n 11 (asg 11 (v 39))]) (Q (Q (R [n 40 (mov 40 (v 11)),n 41 (bin 41 .lss (v 40) (k 0))]) (F (v 41) (.exit 0) .skip)) (Q (R [n 42 (mov 42 (v 9)),n 43 (mov 43 (v 10)),n 44 (mov 44 (v 0)),n 45 (mov 45 (v 11)),n 46 (mov 46 (v 2)),n 47 (bin 47 .add (v 45) (v 46)),n 48 (sls 48 (v 44) none (some (v 47))),n 49 (idx 49 (v 42) (v 43) 1),m (st (v 49) (v 48) 1)]) (Q (R [n 50 (mov 50 (v 0)),n 51 (mov 51 (v 11)),n 52 (mov 52 (v 1)),n 53 (lens 53 (v 52)),n 54 (bin 54 .add (v 51) (v 53)),n 55 (sls 55 (v 50) (some (v 54)) none),n 0 (asg 0 (v 55))]) (R [n 56 (mov 56 (v 10)),n 57 (bin 57 .add (v 56) (k 1)),n 10 (asg 10 (v 57))]))))))))) (Q (R [n 58 (mov 58 (v 9)),n 59 (mov 59 (v 10)),n 60 (mov 60 (v 0)),n 61 (idx 61 (v 58) (v 59) 1),m (st (v 61) (v 60) 1)]) (Q (R [n 62 (mov 62 (v 9)),n 63 (mov 63 (v 10)),n 64 (bin 64 .add (v 63) (k 1)),n 65 (slc 65 (v 62) none (some (v 64)) 1),n 8 (asg 8 (v 65))]) .ret))))))))))
def c_X_ContainsFunc_string:Cmd:=Q (R [n 4 (asg 4 k0)]) (Q (R [n 5 (mov 5 (v 0)),n 6 (mov 6 (v 1)),n 7 (call (some 7) 319 [v 5,v 6]),n 8 (bin 8 .geq (v 7) (k 0)),n 4 (asg 4 (v 8))]) .ret)
def c_I_namesOk_1:Cmd:=Q (R [n 2 (asg 2 k0)]) (Q (R [n 3 (mov 3 (v 0)),n 4 (call (some 4) 138 [v 3]),n 5 (un 5 .not (v 4)),n 2 (asg 2 (v 5))]) .ret)
def c_S_l3Ents:Cmd:=Q (R [n 2 (asg 2 k0)]) (Q (Q (R [n 3 (asg 3 (k 0))]) (.blk 0 (.loop (Q (Q (R [n 4 (mov 4 (v 3)),n 5 (mov 5 (v 0)),n 6 (len 6 (v 5)),n 7 (bin 7 .lss (v 4) (v 6))]) (F (v 7) .skip (.exit 0))) (Q (.blk 1 (Q (D [0,0,3,7,15,31,63,127,255,255,1023,2047,4095,8191,16383,32767,65535,131071,262143,524287,1048575,1048575,3145727,8388607,16777215,33554431,1048575,1048575,202375167,470810623,1007681535,2147483647,4294967295,8589934591] [n 10 (mov 10 (v 0)),n 11 (mov 11 (v 3)),n 12 (idx 12 (v 10) (v 11) 2),n 13 (fld 13 (v 12) 0),n 14 (ld 14 (v 13) 1 false),n 15 (call (some 15) 217 [v 14]),n 16 (un 16 .not (v 15)),n 17 (mov 17 (v 16)),h 17 false 18 (mov 18 (v 0)),h 17 false 19 (mov 19 (v 3)),h 17 false 20 (idx 20 (v 18) (v 19) 2),h 17 false 21 (fld 21 (v 20) 1),h 17 false 22 (ld 22 (v 21) 1 false),h 17 false 23 (call (some 23) 213 [v 22,k 2,k 1000]),h 17 false 24 (un 24 .not (v 23)),n 25 (pck 25 (v 17) k1 (v 24)),n 26 (mov 26 (v 25)),h 26 false 27 (mov 27 (v 3)),h 26 false 28 (bin 28 .gtr (v 27) (k 0)),h 26 false 29 (mov 29 (v 28)),h 29 true 30 (mov 30 (v 0)),h 29 true 31 (mov 31 (v 3)),h 29 true 32 (bin 32 .sub (v 31) (k 1)),h 29 true 33 (idx 33 (v 30) (v 32) 2),h 29 true 34 (fld 34 (v 33) 0),h 29 true 35 (ld 35 (v 34) 1 false),h 29 true 36 (mov 36 (v 0)),h 29 true 37 (mov 37 (v 3)),h 29 true 38 (idx 38 (v 36) (v 37) 2),h 29 true 39 (fld 39 (v 38) 0),h 29 true 40 (ld 40 (v 39) 1 false),h 29 true 41 (bin 41 .geq (v 35) (v 40)),h 26 false 42 (pck 42 (v 29) (v 41) k0),n 43 (pck 43 (v 26) k1 (v 42))]) (F (v 43) (Q (R [n 2 (asg 2 k0)]) .ret) .skip))) (R [n 8 (mov 8 (v 3)),n 9 (bin 9 .add (v 8) (k 1)),n 3 (asg 3 (v 9))])))))) (Q (R [n 44 (mov 44 (v 0)),n 45 (len 45 (v 44)),n 46 (bin 46 .leq (v 45) (k 10)),n 2 (asg 2 (v 46))]) .ret))
def c_S_l3Attrs:Cmd:=Q (R [n 2 (asg 2 k0)]) (Q (Q (R [n 3 (asg 3 (k 0))]) (.blk 0 (.loop (Q (Q (R [n 4 (mov 4 (v 3)),n 5 (mov 5 (v 0)),n 6 (len 6 (v 5)),n 7 (bin 7 .lss (v 4) (v 6))]) (F (v 7) .skip (.exit 0))) (Q (.blk 1 (Q (D [0,0,3,7,15,31,63,127,255,255,1023,2047,4095,8191,16383,32767,65535,131071,262143,524287,1048575,2097151,2097151,6291455,16777215,33554431,67108863,2097151,2097151,404750335,941621247,2015363071,4294967295,8589934591,17179869183] [n 10 (mov 10 (v 0)),n 11 (mov 11 (v 3)),n 12 (idx 12 (v 10) (v 11) 2),n 13 (fld 13 (v 12) 0),n 14 (ld 14 (v 13) 1 false),n 15 (call (some 15) 217 [v 14]),n 16 (un 16 .not (v 15)),n 17 (mov 17 (v 16)),h 17 false 18 (mov 18 (v 0)),h 17 false 19 (mov 19 (v 3)),h 17 false 20 (idx 20 (v 18) (v 19) 2),h 17 false 21 (fld 21 (v 20) 1),h 17 false 22 (ld 22 (v 21) 1 false),h 17 false 23 (lens 23 (v 22)),h 17 false 24 (call (some 24) 213 [v 23,k 1,k 16]),h 17 false 25 (un 25 .not (v 24)),n 26 (pck 26 (v 17) k1 (v 25)),n 27 (mov 27 (v 26)),h 27 false 28 (mov 28 (v 3)),h 27 false 29 (bin 29 .gtr (v 28) (k 0)),h 27 false 30 (mov 30 (v 29)),h 30 true 31 (mov 31 (v 0)),h 30 true 32 (mov 32 (v 3)),h 30 true 33 (bin 33 .sub (v 32) (k 1)),h 30 true 34 (idx 34 (v 31) (v 33) 2),h 30 true 35 (fld 35 (v 34) 0),h 30 true 36 (ld 36 (v 35) 1 false),h 30 true 37 (mov 37 (v 0)),h 30 true 38 (mov 38 (v 3)),h 30 true 39 (idx 39 (v 37) (v 38) 2),h 30 true 40 (fld 40 (v 39) 0),h 30 true 41 (ld 41 (v 40) 1 false),h 30 true 42 (bin 42 .geq (v 36) (v 41)),h 27 false 43 (pck 43 (v 30) (v 42) k0),n 44 (pck 44 (v 27) k1 (v 43))]) (F (v 44) (Q (R [n 2 (asg 2 k0)]) .ret) .skip))) (R [n 8 (mov 8 (v 3)),n 9 (bin 9 .add (v 8) (k 1)),n 3 (asg 3 (v 9))])))))) (Q (R [n 45 (mov 45 (v 0)),n 46 (len 46 (v 45)),n 47 (bin 47 .leq (v 46) (k 4)),n 2 (asg 2 (v 47))]) .ret))
def c_S_l7Has:Cmd:=Q (R [n 4 (asg 4 k0)]) (Q (Q (R [n 5 (asg 5 (k 0))]) (.blk 0 (.loop (Q (Q (R [n 6 (mov 6 (v 5)),n 7 (mov 7 (v 0)),n 8 (len 8 (v 7)),n 9 (bin 9 .lss (v 6) (v 8))]) (F (v 9) .skip (.exit 0))) (Q (.blk 1 (Q (R [n 12 (mov 12 (v 0)),n 13 (mov 13 (v 5)),n 14 (idx 14 (v 12) (v 13) 1),n 15 (ld 15 (v 14) 1 false),n 16 (mov 16 (v 1)),n 17 (bin 17 .eql (v 15) (v 16))]) (F (v 17) (Q (R [n 4 (asg 4 k1)]) .ret) .skip))) (R [n 10 (mov 10 (v 5)),n 11 (bin 11 .add (v 10) (k 1)),n 5 (asg 5 (v 11))])))))) (Q (R [n 4 (asg 4 k0)]) .ret))
def c_L_szEnt:Cmd:=Q (R [n 2 (box 2 (v 0)),n 4 (asg 4 (k 0))]) (Q (R [n 5 (mov 5 (v 1)),n 6 (fld 6 (v 2) 0),n 7 (ld 7 (v 6) 1 false),n 8 (lens 8 (v 7)),n 9 (bin 9 .sub (v 5) (v 8)),n 1 (asg 1 (v 9))]) (Q (Q (R [n 10 (mov 10 (v 1)),n 11 (bin 11 .lss (v 10) (k 0))]) (F (v 11) (Q (R [n 4 (asg 4 (k (-1)))]) .ret) .skip)) (Q (R [n 12 (mov 12 (v 1)),n 4 (asg 4 (v 12))]) .ret)))
def c_L_szAttr:Cmd:=Q (R [n 2 (box 2 (v 0)),n 4 (asg 4 (k 0))]) (Q (R [n 5 (mov 5 (v 1)),n 6 (fld 6 (v 2) 0),n 7 (ld 7 (v 6) 1 false),n 8 (lens 8 (v 7)),n 9 (bin 9 .sub (v 5) (v 8)),n 1 (asg 1 (v 9))]) (Q (Q (R [n 10 (mov 10 (v 1)),n 11 (bin 11 .lss (v 10) (k 0))]) (F (v 11) (Q (R [n 4 (asg 4 (k (-1)))]) .ret) .skip)) (Q (R [n 12 (mov 12 (v 1)),n 13 (fld 13 (v 2) 1),n 14 (ld 14 (v 13) 1 false),n 15 (lens 15 (v 14)),n 16 (bin 16 .sub (v 12) (v 15)),n 1 (asg 1 (v 16))]) (Q (Q (R [n 17 (mov 17 (v 1)),n 18 (bin 18 .lss (v 17) (k 0))]) (F (v 18) (Q (R [n 4 (asg 4 (k (-1)))]) .ret) .skip)) (Q (R [n 19 (mov 19 (v 1)),n 4 (asg 4 (v 19))]) .ret)))))
def c_L_toEnt:Cmd:=Q (R [n 1 (box 1 (v 0)),n 2 (alc 2 [.str [],.int .i64 0])]) (Q (R [n 3 (alc 3 [.str [],.int .i64 0])]) (Q (R [n 4 (fld 4 (v 1) 0),n 5 (ld 5 (v 4) 1 false),n 6 (fld 6 (v 3) 0),m (st (v 6) (v 5) 1)]) (Q (R [n 7 (fld 7 (v 1) 1),n 8 (ld 8 (v 7) 1 false),n 9 (fld 9 (v 3) 1),m (st (v 9) (v 8) 1)]) (Q (R [n 10 (ld 10 (v 3) 2 true),m (st (v 2) (v 10) 2)]) .ret))))
def c_L_toAttr:Cmd:=Q (R [n 1 (box 1 (v 0)),n 2 (alc 2 [.str [],.str []])]) (Q (R [n 3 (alc 3 [.str [],.str []])]) (Q (R [n 4 (fld 4 (v 1) 0),n 5 (ld 5 (v 4) 1 false),n 6 (fld 6 (v 3) 0),m (st (v 6) (v 5) 1)]) (Q (R [n 7 (fld 7 (v 1) 1),n 8 (ld 8 (v 7) 1 false),n 9 (fld 9 (v 3) 1),m (st (v 9) (v 8) 1)]) (Q (R [n 10 (ld 10 (v 3) 2 true),m (st (v 2) (v 10) 2)]) .ret))))
def c_L_eqEnt:Cmd:=Q (R [n 2 (box 2 (v 0)),n 3 (box 3 (v 1)),n 4 (asg 4 k0)]) (Q (Q (R [n 5 (fld 5 (v 2) 0),n 6 (ld 6 (v 5) 1 false),n 7 (fld 7 (v 3) 0),n 8 (ld 8 (v 7) 1 false),n 9 (bin 9 .neq (v 6) (v 8))]) (F (v 9) (Q (R [n 4 (asg 4 k0)]) .ret) .skip)) (Q (Q (R [n 10 (fld 10 (v 2) 1),n 11 (ld 11 (v 10) 1 false),n 12 (fld 12 (v 3) 1),n 13 (ld 13 (v 12) 1 false),n 14 (bin 14 .neq (v 11) (v 13))]) (F (v 14) (Q (R [n 4 (asg 4 k0)]) .ret) .skip)) (Q (R [n 4 (asg 4 k1)]) .ret)))
def c_L_eqAttr:Cmd:=Q (R [n 2 (box 2 (v 0)),n 3 (box 3 (v 1)),n 4 (asg 4 k0)]) (Q (Q (R [n 5 (fld 5 (v 2) 0),n 6 (ld 6 (v 5) 1 false),n 7 (fld 7 (v 3) 0),n 8 (ld 8 (v 7) 1 false),n 9 (bin 9 .neq (v 6) (v 8))]) (F (v 9) (Q (R [n 4 (asg 4 k0)]) .ret) .skip)) (Q (Q (R [n 10 (fld 10 (v 2) 1),n 11 (ld 11 (v 10) 1 false),n 12 (fld 12 (v 3) 1),n 13 (ld 13 (v 12) 1 false),n 14 (bin 14 .neq (v 11) (v 13))]) (F (v 14) (Q (R [n 4 (asg 4 k0)]) .ret) .skip)) (Q (R [n 4 (asg 4 k1)]) .ret)))
def c_X_IndexFunc_string:Cmd:=Q (R [n 4 (asg 4 (k 0))]) (Q (Q (R [n 6 (mov 6 (v 0)),n 7 (len 7 (v 6)),n 8 (mov 8 (k 0))]) (.blk 0 (.loop (Q (R [n 9 (bin 9 .lss (v 8) (v 7))]) (Q (F (v 9) .skip (.exit 0)) (Q (.blk 1 (Q (R [n 10 (mov 10 (v 8)),n 5 (asg 5 (v 10))]) (Q (R [n 11 (mov 11 (v 1)),n 12 (mov 12 (v 0)),n 13 (mov 13 (v 5)),n 14 (idx 14 (v 12) (v 13) 1),n 15 (ld 15 (v 14) 1 false),n 16 (callv (some 16) (v 11) [v 15])]) (F (v 16) (Q (R [n 17 (mov 17 (v 5)),n 4 (asg 4 (v 17))]) .ret) .skip)))) (R [n 18 (bin 18 .add (v 8) (k 1)),n 8 (mov 8 (v 18))]))))))) (Q (R [n 4 (asg 4 (k (-1)))]) .ret))
end Go.Proofs.YtnhdalnfboiooaaGreatDoor.Awp
namespace Go.Proofs.YtnhdalnfboiooaaGreatDoor.Awp
open Go.Proofs
theorem hmx:Tryz.prog.follows .mixedOrders=true:=by kernel_rfl
theorem p_L_FnExactUnlink:compile Tryz.prog 3=some (104,[.t 4],c_L_FnExactUnlink):=by kernel_rfl
theorem p_L_szTab:compile Tryz.prog 19=some (12,[.t 4],c_L_szTab):=by kernel_rfl
theorem p_S_Unlink:compile Tryz.prog 20=some (55,[.c 4 2 true,.t 5],c_S_Unlink):=by kernel_rfl
theorem p_L_toTab:compile Tryz.prog 21=some (12,[.c 2 2 true],c_L_toTab):=by kernel_rfl
theorem p_I_Unlink:compile Tryz.prog 22=some (55,[.c 4 2 true,.t 5],c_I_Unlink):=by kernel_rfl
theorem p_L_eqTab:compile Tryz.prog 23=some (16,[.t 4],c_L_eqTab):=by kernel_rfl
theorem p_L_markTab:compile Tryz.prog 24=some (10,[.t 4],c_L_markTab):=by kernel_rfl
theorem p_L_heldTab:compile Tryz.prog 25=some (12,[.t 4],c_L_heldTab):=by kernel_rfl
theorem p_I_TreeOk:compile Tryz.prog 62=some (47,[.t 2],c_I_TreeOk):=by kernel_rfl
theorem p_S_TreeOk:compile Tryz.prog 67=some (53,[.t 2],c_S_TreeOk):=by kernel_rfl
theorem p_I_Reached:compile Tryz.prog 71=some (56,[.t 2],c_I_Reached):=by kernel_rfl
theorem p_S_Reached:compile Tryz.prog 72=some (24,[.t 2],c_S_Reached):=by kernel_rfl
theorem p_I_Walk:compile Tryz.prog 74=some (46,[.t 4,.t 5],c_I_Walk):=by kernel_rfl
theorem p_L_szInodeS:compile Tryz.prog 89=some (27,[.t 4],c_L_szInodeS):=by kernel_rfl
theorem p_S_ParentOf:compile Tryz.prog 90=some (31,[.t 2,.t 3,.t 4],c_S_ParentOf):=by kernel_rfl
theorem p_S_l4Copy:compile Tryz.prog 91=some (27,[.c 2 2 true],c_S_l4Copy):=by kernel_rfl
theorem p_S_l6File:compile Tryz.prog 92=some (24,[.c 4 6 true,.t 5],c_S_l6File):=by kernel_rfl
theorem p_S_l6Drop:compile Tryz.prog 93=some (30,[.c 4 2 true],c_S_l6Drop):=by kernel_rfl
theorem p_S_DropInode:compile Tryz.prog 94=some (37,[.c 4 2 true],c_S_DropInode):=by kernel_rfl
theorem p_S_SetInode:compile Tryz.prog 95=some (59,[.c 4 2 true],c_S_SetInode):=by kernel_rfl
theorem p_L_toInodeS:compile Tryz.prog 96=some (23,[.t 2],c_L_toInodeS):=by kernel_rfl
theorem p_I_copyTab:compile Tryz.prog 97=some (25,[.c 2 2 true],c_I_copyTab):=by kernel_rfl
theorem p_I_ready:compile Tryz.prog 98=some (25,[.t 4],c_I_ready):=by kernel_rfl
theorem p_I_fileAt:compile Tryz.prog 99=some (23,[.c 4 6 true,.t 5],c_I_fileAt):=by kernel_rfl
theorem p_I_spotOf:compile Tryz.prog 100=some (34,[.c 4 7 true,.t 5],c_I_spotOf):=by kernel_rfl
theorem p_I_spot_leave:compile Tryz.prog 101=some (17,[.c 4 2 true],c_I_spot_leave):=by kernel_rfl
theorem p_I_DropInode:compile Tryz.prog 102=some (13,[.c 4 2 true],c_I_DropInode):=by kernel_rfl
theorem p_I_SetInode:compile Tryz.prog 103=some (40,[.c 4 2 true],c_I_SetInode):=by kernel_rfl
theorem p_L_eqInodeS:compile Tryz.prog 104=some (27,[.t 4],c_L_eqInodeS):=by kernel_rfl
theorem p_L_markInodeS:compile Tryz.prog 105=some (55,[.t 4],c_L_markInodeS):=by kernel_rfl
theorem p_L_heldInodeS:compile Tryz.prog 106=some (67,[.t 4],c_L_heldInodeS):=by kernel_rfl
theorem p_S_Walk:compile Tryz.prog 107=some (20,[.t 4,.t 5],c_S_Walk):=by kernel_rfl
theorem p_S_Stat:compile Tryz.prog 110=some (30,[.c 4 6 true,.t 5],c_S_Stat):=by kernel_rfl
theorem p_I_Stat:compile Tryz.prog 112=some (30,[.c 4 6 true,.t 5],c_I_Stat):=by kernel_rfl
theorem p_I_EntOf:compile Tryz.prog 113=some (21,[.t 4],c_I_EntOf):=by kernel_rfl
theorem p_I_InodeAt:compile Tryz.prog 114=some (19,[.c 4 6 true,.t 5],c_I_InodeAt):=by kernel_rfl
theorem p_L_szByteS:compile Tryz.prog 117=some (12,[.t 4],c_L_szByteS):=by kernel_rfl
theorem p_L_toByteS:compile Tryz.prog 127=some (22,[.t 2],c_L_toByteS):=by kernel_rfl
theorem p_L_eqByteS:compile Tryz.prog 131=some (26,[.t 4],c_L_eqByteS):=by kernel_rfl
theorem p_L_markByteS:compile Tryz.prog 133=some (20,[.t 4],c_L_markByteS):=by kernel_rfl
theorem p_I_from:compile Tryz.prog 137=some (15,[.t 6],c_I_from):=by kernel_rfl
theorem p_I_NameOk:compile Tryz.prog 138=some (56,[.t 2],c_I_NameOk):=by kernel_rfl
theorem p_I_TabOk:compile Tryz.prog 152=some (63,[.t 2],c_I_TabOk):=by kernel_rfl
theorem p_I_LinksOf:compile Tryz.prog 153=some (36,[.t 4],c_I_LinksOf):=by kernel_rfl
theorem p_I_placeOf:compile Tryz.prog 154=some (9,[.t 4],c_I_placeOf):=by kernel_rfl
theorem p_I_SplitPath:compile Tryz.prog 158=some (26,[.t 2,.t 3],c_I_SplitPath):=by kernel_rfl
theorem p_S_TabOk:compile Tryz.prog 166=some (68,[.t 2],c_S_TabOk):=by kernel_rfl
theorem p_S_LinksOf:compile Tryz.prog 167=some (50,[.t 4],c_S_LinksOf):=by kernel_rfl
theorem p_S_l4At:compile Tryz.prog 168=some (22,[.t 4],c_S_l4At):=by kernel_rfl
theorem p_X_Contains_int:compile Tryz.prog 169=some (9,[.t 4],c_X_Contains_int):=by kernel_rfl
theorem p_S_l7Next:compile Tryz.prog 171=some (59,[.t 4],c_S_l7Next):=by kernel_rfl
theorem p_X_Clone_byte:compile Tryz.prog 172=some (8,[.t 2],c_X_Clone_byte):=by kernel_rfl
theorem p_S_SplitPath:compile Tryz.prog 174=some (59,[.t 2,.t 3],c_S_SplitPath):=by kernel_rfl
theorem p_L_szInode:compile Tryz.prog 185=some (24,[.t 4],c_L_szInode):=by kernel_rfl
theorem p_S_JoinPath:compile Tryz.prog 186=some (33,[.t 2],c_S_JoinPath):=by kernel_rfl
theorem p_S_l3Copy:compile Tryz.prog 187=some (21,[.c 2 6 true],c_S_l3Copy):=by kernel_rfl
theorem p_S_l6Cut:compile Tryz.prog 188=some (29,[.t 4],c_S_l6Cut):=by kernel_rfl
theorem p_L_toInode:compile Tryz.prog 189=some (26,[.c 2 6 true],c_L_toInode):=by kernel_rfl
theorem p_I_copyInode:compile Tryz.prog 190=some (16,[.c 2 6 true],c_I_copyInode):=by kernel_rfl
theorem p_I_ParentOf:compile Tryz.prog 191=some (31,[.t 2,.t 3,.t 4],c_I_ParentOf):=by kernel_rfl
theorem p_X_DeleteFunc_Ent:compile Tryz.prog 192=some (42,[.t 4],c_X_DeleteFunc_Ent):=by kernel_rfl
theorem p_X_Clone_Ent:compile Tryz.prog 193=some (8,[.t 2],c_X_Clone_Ent):=by kernel_rfl
theorem p_X_DeleteFunc_Inode:compile Tryz.prog 195=some (42,[.t 4],c_X_DeleteFunc_Inode):=by kernel_rfl
theorem p_I_DropInode_1:compile Tryz.prog 196=some (8,[.t 3],c_I_DropInode_1):=by kernel_rfl
theorem p_X_IndexFunc_Inode:compile Tryz.prog 197=some (19,[.t 4],c_X_IndexFunc_Inode):=by kernel_rfl
theorem p_L_eqInode:compile Tryz.prog 200=some (38,[.t 4],c_L_eqInode):=by kernel_rfl
theorem p_L_markEntS:compile Tryz.prog 201=some (28,[.t 4],c_L_markEntS):=by kernel_rfl
theorem p_L_markAttrS:compile Tryz.prog 202=some (29,[.t 4],c_L_markAttrS):=by kernel_rfl
theorem p_L_heldByteS:compile Tryz.prog 203=some (22,[.t 4],c_L_heldByteS):=by kernel_rfl
theorem p_L_heldEntS:compile Tryz.prog 204=some (32,[.t 4],c_L_heldEntS):=by kernel_rfl
theorem p_L_heldAttrS:compile Tryz.prog 205=some (33,[.t 4],c_L_heldAttrS):=by kernel_rfl
theorem p_S_l5Walk:compile Tryz.prog 206=some (40,[.t 4,.t 5],c_S_l5Walk):=by kernel_rfl
theorem p_S_EntOf:compile Tryz.prog 207=some (27,[.t 4],c_S_EntOf):=by kernel_rfl
theorem p_S_InodeAt:compile Tryz.prog 208=some (19,[.c 4 6 true,.t 5],c_S_InodeAt):=by kernel_rfl
theorem p_X_IndexFunc_Ent:compile Tryz.prog 209=some (19,[.t 4],c_X_IndexFunc_Ent):=by kernel_rfl
theorem p_S_l1In:compile Tryz.prog 213=some (15,[.t 6],c_S_l1In):=by kernel_rfl
theorem p_S_NameOk:compile Tryz.prog 217=some (46,[.t 2],c_S_NameOk):=by kernel_rfl
theorem p_L_markText:compile Tryz.prog 224=some (20,[.t 2],c_L_markText):=by kernel_rfl
theorem p_I_InodeOk:compile Tryz.prog 234=some (94,[.t 2],c_I_InodeOk):=by kernel_rfl
theorem p_I_placeOf_1:compile Tryz.prog 235=some (8,[.t 3],c_I_placeOf_1):=by kernel_rfl
theorem p_X_Split:compile Tryz.prog 238=some (8,[.t 4],c_X_Split):=by kernel_rfl
theorem p_I_namesOk:compile Tryz.prog 239=some (11,[.t 2],c_I_namesOk):=by kernel_rfl
theorem p_S_InodeOk:compile Tryz.prog 245=some (59,[.t 2],c_S_InodeOk):=by kernel_rfl
theorem p_X_Index_int:compile Tryz.prog 246=some (19,[.t 4],c_X_Index_int):=by kernel_rfl
theorem p_S_l7Put:compile Tryz.prog 248=some (46,[.t 4],c_S_l7Put):=by kernel_rfl
theorem p_L_szEntS:compile Tryz.prog 252=some (27,[.t 4],c_L_szEntS):=by kernel_rfl
theorem p_L_szAttrS:compile Tryz.prog 253=some (27,[.t 4],c_L_szAttrS):=by kernel_rfl
theorem p_L_toEntS:compile Tryz.prog 254=some (23,[.t 2],c_L_toEntS):=by kernel_rfl
theorem p_L_toAttrS:compile Tryz.prog 255=some (23,[.t 2],c_L_toAttrS):=by kernel_rfl
theorem p_X_Clone_Attr:compile Tryz.prog 256=some (8,[.t 2],c_X_Clone_Attr):=by kernel_rfl
theorem p_I_JoinPath:compile Tryz.prog 257=some (9,[.t 2],c_I_JoinPath):=by kernel_rfl
theorem p_L_eqEntS:compile Tryz.prog 260=some (27,[.t 4],c_L_eqEntS):=by kernel_rfl
theorem p_L_eqAttrS:compile Tryz.prog 261=some (27,[.t 4],c_L_eqAttrS):=by kernel_rfl
theorem p_I_attrsOk:compile Tryz.prog 281=some (42,[.t 2],c_I_attrsOk):=by kernel_rfl
theorem p_X_genSplit:compile Tryz.prog 282=some (66,[.t 8],c_X_genSplit):=by kernel_rfl
theorem p_X_ContainsFunc_string:compile Tryz.prog 283=some (9,[.t 4],c_X_ContainsFunc_string):=by kernel_rfl
theorem p_I_namesOk_1:compile Tryz.prog 284=some (6,[.t 2],c_I_namesOk_1):=by kernel_rfl
theorem p_S_l3Ents:compile Tryz.prog 287=some (47,[.t 2],c_S_l3Ents):=by kernel_rfl
theorem p_S_l3Attrs:compile Tryz.prog 288=some (48,[.t 2],c_S_l3Attrs):=by kernel_rfl
theorem p_S_l7Has:compile Tryz.prog 298=some (18,[.t 4],c_S_l7Has):=by kernel_rfl
theorem p_L_szEnt:compile Tryz.prog 300=some (13,[.t 4],c_L_szEnt):=by kernel_rfl
theorem p_L_szAttr:compile Tryz.prog 301=some (20,[.t 4],c_L_szAttr):=by kernel_rfl
theorem p_L_toEnt:compile Tryz.prog 302=some (11,[.c 2 2 true],c_L_toEnt):=by kernel_rfl
theorem p_L_toAttr:compile Tryz.prog 303=some (11,[.c 2 2 true],c_L_toAttr):=by kernel_rfl
theorem p_L_eqEnt:compile Tryz.prog 306=some (15,[.t 4],c_L_eqEnt):=by kernel_rfl
theorem p_L_eqAttr:compile Tryz.prog 307=some (15,[.t 4],c_L_eqAttr):=by kernel_rfl
theorem p_X_IndexFunc_string:compile Tryz.prog 319=some (19,[.t 4],c_X_IndexFunc_string):=by kernel_rfl
end Go.Proofs.YtnhdalnfboiooaaGreatDoor.Awp
namespace Go.Proofs.YtnhdalnfboiooaaGreatDoor.Awp
open Go.Proofs Go.Shelf
open Nat (reduceEqDiff reduceAdd reduceMul reduceSub)
open Int (reduceNeg reduceToNat reducePow)
set_option maxRecDepth 100000
def ly_Lays_n143_ren:Go.Shelf.Ren:=⟨fun | 143=>318 | 219=>334 | 217=>339 | 225=>340 | 224=>341 | 267=>342 | 266=>345 | 314=>346 | n=>n,
 fun | 9=>9 | 3=>3 | 4=>4 | 5=>5 | 46=>207 | 146=>301 | 51=>238 | n=>n,
 fun | 1=>0 | n=>n⟩
theorem ly_Lays_n143:Lays.n143 Tryz.prog ly_Lays_n143_ren where
 mixed:=by kernel_rfl
 f143:=Tryz.func318.trans (congrArg some (by kernel_rfl))
 f217:=Tryz.func339.trans (congrArg some (by kernel_rfl))
 f219:=Tryz.func334.trans (congrArg some (by kernel_rfl))
 f224:=Tryz.func341.trans (congrArg some (by kernel_rfl))
 f225:=Tryz.func340.trans (congrArg some (by kernel_rfl))
 f266:=Tryz.func345.trans (congrArg some (by kernel_rfl))
 f267:=Tryz.func342.trans (congrArg some (by kernel_rfl))
 f314:=Tryz.func346.trans (congrArg some (by kernel_rfl))
 t3:=Tryz.underlying3
 a3:=Tryz.isAgg3
 z3:=Tryz.sizeOf3
 v3:=Tryz.zeroValue3
 t4:=Tryz.underlying4
 a4:=Tryz.isAgg4
 z4:=Tryz.sizeOf4
 v4:=Tryz.zeroValue4
 t5:=Tryz.underlying5
 a5:=Tryz.isAgg5
 z5:=Tryz.sizeOf5
 v5:=Tryz.zeroValue5
 t9:=Tryz.underlying9
 a9:=Tryz.isAgg9
 z9:=Tryz.sizeOf9
 v9:=Tryz.zeroValue9
 t46:=Tryz.underlying207
 a46:=Tryz.isAgg207
 z46:=Tryz.sizeOf207
 v46:=Tryz.zeroValue207
 t51:=Tryz.underlying238
 a51:=Tryz.isAgg238
 z51:=Tryz.sizeOf238
 v51:=Tryz.zeroValue238
 t146:=Tryz.underlying301
 a146:=Tryz.isAgg301
 z146:=Tryz.sizeOf301
 v146:=Tryz.zeroValue301
 g1:=by kernel_rfl
def ly_Lays_n138_ren:Go.Shelf.Ren:=⟨fun | 138=>317 | 195=>331 | 218=>333 | 143=>318 | 219=>334 | 217=>339 | 225=>340 | 224=>341 | 267=>342 | 266=>345 | 314=>346 | n=>n,
 fun | 9=>9 | 3=>3 | 4=>4 | 5=>5 | 0=>0 | 46=>207 | 146=>301 | 51=>238 | n=>n,
 fun | 1=>0 | n=>n⟩
theorem ly_Lays_n138:Lays.n138 Tryz.prog ly_Lays_n138_ren where
 mixed:=by kernel_rfl
 f138:=Tryz.func317.trans (congrArg some (by kernel_rfl))
 f143:=Tryz.func318.trans (congrArg some (by kernel_rfl))
 f195:=Tryz.func331.trans (congrArg some (by kernel_rfl))
 f217:=Tryz.func339.trans (congrArg some (by kernel_rfl))
 f218:=Tryz.func333.trans (congrArg some (by kernel_rfl))
 f219:=Tryz.func334.trans (congrArg some (by kernel_rfl))
 f224:=Tryz.func341.trans (congrArg some (by kernel_rfl))
 f225:=Tryz.func340.trans (congrArg some (by kernel_rfl))
 f266:=Tryz.func345.trans (congrArg some (by kernel_rfl))
 f267:=Tryz.func342.trans (congrArg some (by kernel_rfl))
 f314:=Tryz.func346.trans (congrArg some (by kernel_rfl))
 t0:=Tryz.underlying0
 a0:=Tryz.isAgg0
 z0:=Tryz.sizeOf0
 v0:=Tryz.zeroValue0
 t3:=Tryz.underlying3
 a3:=Tryz.isAgg3
 z3:=Tryz.sizeOf3
 v3:=Tryz.zeroValue3
 t4:=Tryz.underlying4
 a4:=Tryz.isAgg4
 z4:=Tryz.sizeOf4
 v4:=Tryz.zeroValue4
 t5:=Tryz.underlying5
 a5:=Tryz.isAgg5
 z5:=Tryz.sizeOf5
 v5:=Tryz.zeroValue5
 t9:=Tryz.underlying9
 a9:=Tryz.isAgg9
 z9:=Tryz.sizeOf9
 v9:=Tryz.zeroValue9
 t46:=Tryz.underlying207
 a46:=Tryz.isAgg207
 z46:=Tryz.sizeOf207
 v46:=Tryz.zeroValue207
 t51:=Tryz.underlying238
 a51:=Tryz.isAgg238
 z51:=Tryz.sizeOf238
 v51:=Tryz.zeroValue238
 t146:=Tryz.underlying301
 a146:=Tryz.isAgg301
 z146:=Tryz.sizeOf301
 v146:=Tryz.zeroValue301
 g1:=by kernel_rfl
def ly_Lays_n156_ren:Go.Shelf.Ren:=⟨fun | 156=>304 | 165=>325 | 166=>326 | 169=>327 | 240=>336 | 241=>337 | 276=>343 | 277=>344 | n=>n,
 fun | 31=>75 | 9=>9 | 3=>3 | 4=>4 | 0=>0 | 20=>20 | 72=>276 | 76=>280 | 70=>274 | 37=>40 | 75=>279 | 127=>292 | 164=>294 | 5=>5 | 80=>282 | n=>n,
 fun | n=>n⟩
theorem ly_Lays_n156:Lays.n156 Tryz.prog ly_Lays_n156_ren where
 mixed:=by kernel_rfl
 f156:=Tryz.func304.trans (congrArg some (by kernel_rfl))
 f165:=Tryz.func325.trans (congrArg some (by kernel_rfl))
 f166:=Tryz.func326.trans (congrArg some (by kernel_rfl))
 f169:=Tryz.func327.trans (congrArg some (by kernel_rfl))
 f240:=Tryz.func336.trans (congrArg some (by kernel_rfl))
 f241:=Tryz.func337.trans (congrArg some (by kernel_rfl))
 f276:=Tryz.func343.trans (congrArg some (by kernel_rfl))
 f277:=Tryz.func344.trans (congrArg some (by kernel_rfl))
 t0:=Tryz.underlying0
 a0:=Tryz.isAgg0
 z0:=Tryz.sizeOf0
 v0:=Tryz.zeroValue0
 t3:=Tryz.underlying3
 a3:=Tryz.isAgg3
 z3:=Tryz.sizeOf3
 v3:=Tryz.zeroValue3
 t4:=Tryz.underlying4
 a4:=Tryz.isAgg4
 z4:=Tryz.sizeOf4
 v4:=Tryz.zeroValue4
 t9:=Tryz.underlying9
 a9:=Tryz.isAgg9
 z9:=Tryz.sizeOf9
 v9:=Tryz.zeroValue9
 t20:=Tryz.underlying20
 a20:=Tryz.isAgg20
 z20:=Tryz.sizeOf20
 v20:=Tryz.zeroValue20
 t31:=Tryz.underlying75
 a31:=Tryz.isAgg75
 z31:=Tryz.sizeOf75
 v31:=Tryz.zeroValue75
 t37:=Tryz.underlying40
 a37:=Tryz.isAgg40
 z37:=Tryz.sizeOf40
 v37:=Tryz.zeroValue40
 t70:=Tryz.underlying274
 a70:=Tryz.isAgg274
 z70:=Tryz.sizeOf274
 v70:=Tryz.zeroValue274
 t72:=Tryz.underlying276
 a72:=Tryz.isAgg276
 z72:=Tryz.sizeOf276
 v72:=Tryz.zeroValue276
 t75:=Tryz.underlying279
 a75:=Tryz.isAgg279
 z75:=Tryz.sizeOf279
 v75:=Tryz.zeroValue279
 t76:=Tryz.underlying280
 a76:=Tryz.isAgg280
 z76:=Tryz.sizeOf280
 v76:=Tryz.zeroValue280
 t127:=Tryz.underlying292
 a127:=Tryz.isAgg292
 z127:=Tryz.sizeOf292
 v127:=Tryz.zeroValue292
 t164:=Tryz.underlying294
 a164:=Tryz.isAgg294
 z164:=Tryz.sizeOf294
 v164:=Tryz.zeroValue294
end Go.Proofs.YtnhdalnfboiooaaGreatDoor.Awp
namespace Go.Proofs.YtnhdalnfboiooaaGreatDoor.Awp
set_option linter.unusedVariables false
@[congr] theorem bind_congr_l {α β:Type} {a b:Option α} {f:α→Option β} (h:a=b):a.bind f=b.bind f:=by rw [h]
@[congr] theorem map_congr_l {α β:Type} {a b:Option α} {f:α→β} (h:a=b):a.map f=b.map f:=by rw [h]
def allU (E:Env):List Plc→Bool
 | []=>true
 | (_,_,r,p)::l=>isU (aget (E.f r) p) && allU E l
theorem allU_eq (E:Env):∀ l:List Plc,allU E l=l.all (fun q=>isU (aget (E.f q.2.2.1) q.2.2.2)):=by
 intro l
 induction l with
 | nil=>rfl
 | cons q l ih=>obtain ⟨k,j,r,p⟩:=q; simp [allU,ih]
theorem SBK2:∀ (E:Env) (q:Plc) (pls:List Plc) (outs:List AV),backA E none (q::pls) outs=if allU E (q::pls)=true then backP E outs (q::pls) else none:=by
 intro E q pls outs
 rw [allU_eq]; rfl
theorem SAU:(∀ E:Env,allU E []=true)∧(∀ (E:Env) (k:Nat) (j:Option Nat) (r:Nat) (p:Path) (l:List Plc),allU E ((k,j,r,p)::l)=(isU (aget (E.f r) p) && allU E l)):=⟨fun _=>rfl,fun _ _ _ _ _ _=>rfl⟩
theorem SBK:∀ (E:Env) (outs:List AV),backA E none [] outs=backP E outs []:=by
 intro E outs
 simp [backA]
theorem SB0:type_of% (And.intro SBK SBK2):=And.intro SBK SBK2
abbrev Bytes:=List UInt8
theorem sum_mem {α:Type} {f:α→Nat} {l:List α} {x:α} (h:x ∈ l):f x≤(l.map f).sum:=by
 induction l with
 | nil=>simp at h
 | cons y l ih=>
  rcases List.mem_cons.1 h with rfl | h
  ·simp
  ·have:=ih h; simp; omega
theorem getE {α:Type} {l:List α} {i:Nat} (h:(i:Int)<(l.length:Nat)):l[i]?=some (l[i]'(by omega)):=by simp
theorem sum_get {α:Type} (f:α→Nat) {l:List α} {i:Nat} (h:i<l.length):f l[i]≤(l.map f).sum:=sum_mem (List.getElem_mem h)
theorem sum_take {α:Type} (f:α→Nat) (l:List α) (i:Nat) (h:i<l.length):((l.take (i+1)).map f).sum=((l.take i).map f).sum+f l[i]:=by
 rw [List.take_succ_eq_append_getElem h,List.map_append,List.sum_append]
 simp only [List.map_cons,List.map_nil,List.sum_cons,List.sum_nil,Nat.add_zero]
theorem sum_take_le {α:Type} (f:α→Nat) (l:List α) (i:Nat):((l.take i).map f).sum≤(l.map f).sum:=by
 conv=>rhs; rw [← List.take_append_drop i l,List.map_append,List.sum_append]
 omega
theorem take_eq_succ {α:Type} {a b:List α} {i:Nat} (h:a.take i=b.take i) (h1:i<a.length) (h2:i<b.length) (e:a[i]=b[i]):a.take (i+1)=b.take (i+1):=by
 rw [List.take_succ_eq_append_getElem h1,List.take_succ_eq_append_getElem h2,h,e]
theorem take_all {α:Type} {a b:List α} {i:Nat} (h:a.take i=b.take i) (h1:a.length≤i) (h2:b.length≤i):a=b:=by
 rwa [List.take_of_length_le h1,List.take_of_length_le h2] at h
def mixM {α β:Type} (f:α→Int→β) (g:α→β) (c:α→Nat):List α→Int→Nat→List β
 | [],_,_=>[]
 | x::l,_,0=>g x::l.map g
 | x::l,k,i+1=>f x k::mixM f g c l (k+c x) i
def markL {α β:Type} (f:α→Int→β) (c:α→Nat):List α→Int→List β
 | [],_=>[]
 | x::l,k=>f x k::markL f c l (k+c x)
section
variable {α β γ:Type} (f:α→Int→β) (g:α→β) (c:α→Nat)
theorem mixM_0 (l:List α) (k:Int):mixM f g c l k 0=l.map g:=by cases l <;> rfl
theorem mixM_len:∀ (l:List α) (k:Int) (i:Nat),(mixM f g c l k i).length=l.length:=by
 intro l
 induction l with
 | nil=>intro k i; rfl
 | cons x l ih=>intro k i; cases i <;> simp [mixM,ih]
theorem mixM_all:∀ (l:List α) (k:Int) (i:Nat),l.length≤i→mixM f g c l k i=markL f c l k:=by
 intro l
 induction l with
 | nil=>intro k i h; rfl
 | cons x l ih=>
  intro k i h
  cases i with
  | zero=>simp at h
  | succ i=>simp only [mixM,markL]; rw [ih _ _ (by simpa using h)]
theorem mixM_get:∀ (l:List α) (k:Int) (i:Nat),(mixM f g c l k i)[i]?=(l[i]?).map g:=by
 intro l
 induction l with
 | nil=>intro k i; simp [mixM]
 | cons x l ih=>intro k i; cases i <;> simp [mixM,ih]
theorem mixM_set:∀ (l:List α) (k:Int) (i:Nat) (hi:i<l.length) (h:β→β) (e:h (g l[i])=f l[i] (k+((l.take i).map c).sum)),(mixM f g c l k i).modify i h=mixM f g c l k (i+1):=by
 intro l
 induction l with
 | nil=>intro k i hi; simp at hi
 | cons x l ih=>
  intro k i hi h e
  cases i with
  | zero=>simp only [mixM,List.modify_zero_cons]; simp at e; rw [e,mixM_0]
  | succ i=>
   simp only [mixM,List.modify_succ_cons]
   rw [ih _ i (by simpa using hi) h]
   simp only [List.getElem_cons_succ,List.take_succ_cons,List.map_cons,List.sum_cons] at e
   rw [e]; congr 1; omega
theorem markL_len:∀ (l:List α) (k:Int),(markL f c l k).length=l.length:=by
 intro l
 induction l with
 | nil=>intro k; rfl
 | cons x l ih=>intro k; simp [markL,ih]
theorem markL_get:∀ (l:List α) (k:Int) (i:Nat),(markL f c l k)[i]?=(l[i]?).map fun x=>f x (k+((l.take i).map c).sum):=by
 intro l
 induction l with
 | nil=>intro k i; simp [markL]
 | cons x l ih=>
  intro k i
  cases i with
  | zero=>simp [markL]
  | succ i=>
   simp only [markL,List.getElem?_cons_succ,ih,List.take_succ_cons,List.map_cons,List.sum_cons]
   congr 1; funext y; congr 1; omega
theorem markL_map (r:β→γ):∀ (l:List α) (k:Int),(markL f c l k).map r=markL (fun x k=>r (f x k)) c l k:=by
 intro l
 induction l with
 | nil=>intro k; rfl
 | cons x l ih=>intro k; simp [markL,ih]
end
def fillR {α:Type} (f:α→List TV) (z:List TV) (l:List α) (i:Nat):List (List TV):=mixM (fun x _=>f x) (fun _=>z) (fun _=>0) l 0 i
theorem fillR_0 {α:Type} (f:α→List TV) (z:List TV) (l:List α):fillR f z l 0=List.replicate l.length z:=by
 rw [fillR,mixM_0,List.map_const']
theorem fillR_all {α:Type} (f:α→List TV) (z:List TV) (l:List α) (i:Nat) (h:l.length≤i):fillR f z l i=l.map f:=by
 rw [fillR,mixM_all _ _ _ _ _ _ h]
 generalize (0:Int)=k
 induction l generalizing k i with
 | nil=>rfl
 | cons x l ih=>simp only [markL,List.map_cons]; rw [ih l.length (by omega)]
theorem fillR_len {α:Type} (f:α→List TV) (z:List TV) (l:List α) (i:Nat):(fillR f z l i).length=l.length:=mixM_len ..
theorem fillR_set {α:Type} (f:α→List TV) (z:List TV) (l:List α) (i:Nat) (h:i<l.length) (g:List TV→List TV) (hg:g z=f l[i]):(fillR f z l i).modify i g=fillR f z l (i+1):=
 mixM_set _ _ _ _ _ _ h _ hg
def mixR {α:Type} (r:α→List TV) (f:α→Int→α) (c:α→Nat) (l:List α) (k:Int) (i:Nat):List (List TV):=mixM (fun x k=>r (f x k)) r c l k i
section
variable {α:Type} (r:α→List TV) (f:α→Int→α) (c:α→Nat)
theorem mixR_0 (l:List α) (k:Int):mixR r f c l k 0=l.map r:=mixM_0 ..
theorem mixR_len (l:List α) (k:Int) (i:Nat):(mixR r f c l k i).length=l.length:=mixM_len ..
theorem mixR_get (l:List α) (k:Int) (i:Nat):(mixR r f c l k i)[i]?=(l[i]?).map r:=mixM_get ..
theorem mixR_all (l:List α) (k:Int) (i:Nat) (h:l.length≤i):mixR r f c l k i=(markL f c l k).map r:=by rw [mixR,mixM_all _ _ _ _ _ _ h,markL_map]
theorem mixR_set (l:List α) (k:Int) (i:Nat) (hi:i<l.length) (h:List TV→List TV) (e:h (r l[i])=r (f l[i] (k+((l.take i).map c).sum))):(mixR r f c l k i).modify i h=mixR r f c l k (i+1):=
 mixM_set _ _ _ _ _ _ hi _ e
end
def byteRow (x:UInt8):List TV:=[.int .u8 x.toNat]
def markBy (b:Bytes) (k:Int):Bytes:=markL (fun _ k=>UInt8.ofInt k) (fun _=>1) b k
theorem sum_one {α:Type} (l:List α):(l.map fun _=>1).sum=l.length:=by induction l with | nil=>rfl | cons x l ih=>simp [ih]; omega
theorem markBy_len (b:Bytes) (k:Int):(markBy b k).length=b.length:=markL_len ..
theorem markBy_get (b:Bytes) (k:Int) (i:Nat):(markBy b k)[i]?=(b[i]?).map fun _=>UInt8.ofInt (k+i):=by
 rw [markBy,markL_get]
 by_cases h:i<b.length
 ·simp only [sum_one,List.length_take,Nat.min_eq_left (Nat.le_of_lt h)]
 ·rw [List.getElem?_eq_none (by omega)]; rfl
theorem wrap_ofInt (k:Int):IntKind.u8.wrap k=((UInt8.ofInt k).toNat:Int):=by
 have e:IntKind.u8.wrap k=k%256:=by
  have h1:((2:Int)^IntKind.u8.bits)=256:=by decide
  unfold IntKind.wrap
  simp only [h1]
  simp [IntKind.signed]
 rw [e]
 simp [UInt8.ofInt]
 omega
theorem bytesR_row (b:Bytes):bytesR b=b.map byteRow:=rfl
theorem markBy_row (b:Bytes) (k:Int) (i:Nat) (h:b.length≤i):mixR byteRow (fun _ k=>UInt8.ofInt k) (fun _=>1) b k i=bytesR (markBy b k):=mixR_all _ _ _ _ _ _ h
theorem SF:(∀ (α:Type) (f:α→List TV) (z:List TV) (l:List α) (i:Nat),(fillR f z l i).length=l.length) ∧
  (∀ (α:Type) (r:α→List TV) (f:α→Int→α) (c:α→Nat) (l:List α) (k:Int) (i:Nat),(mixR r f c l k i).length=l.length) ∧
  (∀ (α:Type) (r:α→List TV) (f:α→Int→α) (c:α→Nat) (l:List α) (k:Int) (i:Nat),(mixR r f c l k i)[i]?=(l[i]?).map r) ∧
  (∀ (α β:Type) (f:α→Int→β) (c:α→Nat) (l:List α) (k:Int),(markL f c l k).length=l.length) ∧
  (∀ (α β:Type) (f:α→Int→β) (c:α→Nat) (l:List α) (k:Int) (i:Nat),(markL f c l k)[i]?=(l[i]?).map fun x=>f x (k+((l.take i).map c).sum)) ∧
  (∀ (b:Bytes) (k:Int),(markBy b k).length=b.length)∧(∀ (b:Bytes) (k:Int) (i:Nat),(markBy b k)[i]?=(b[i]?).map fun _=>UInt8.ofInt (k+i)) ∧
  (∀ (α:Type) (l:List α) (i:Nat) (f g:α→α),(l.modify i f).modify i g=l.modify i (fun x=>g (f x)))∧(∀ (α:Type) (l:List α) (i:Nat) (f:α→α),(l.modify i f)[i]?=(l[i]?).map f) ∧
  (∀ (α:Type) (l:List α) (i:Nat) (f:α→α),(l.modify i f).length=l.length):=
 ⟨fun _=>fillR_len,fun _=>mixR_len,fun _=>mixR_get,fun _ _=>markL_len,fun _ _=>markL_get,markBy_len,markBy_get,
  fun _ l i f g=>List.modify_modify_eq f g i l,fun _ l i f=>by simp,fun _ l i f=>by simp⟩
theorem flatR_bytes (b:Bytes):flatR (bytesR b)=true:=by
 simp [flatR,bytesR]
 intros; rfl
theorem knownR_bytes (b:Bytes):knownR (bytesR b)=true:=by
 simp [knownR,bytesR]
 intros; rfl
theorem rowsBytes_R (b:Bytes):rowsBytes (bytesR b)=some b:=by
 induction b with
 | nil=>rfl
 | cons x b ih=>
  simp only [bytesR,List.map_cons]
  simp only [bytesR] at ih
  have h1:rowByte [.int .u8 x.toNat]=some x:=by
   have:=x.toNat_lt
   simp [rowByte]
   try omega
  simp [rowsBytes,ih,h1]
theorem SK:knownR []=true∧(∀ (e:List TV) (l:List (List TV)),knownR (e::l)=(e.all knownT && knownR l))∧(∀ (t:TV) (e:List TV),(t::e).all knownT=(knownT t && e.all knownT))∧([]:List TV).all knownT=true ∧
  (∀ b,knownT (.bool b)=true)∧(∀ k n,knownT (.int k n)=true)∧(∀ s,knownT (.str s)=true)∧(∀ s es,knownT (.sl s es)=true) ∧
  flatR []=true∧(∀ (e:List TV) (l:List (List TV)),flatR (e::l)=(e.all flatT && flatR l))∧(∀ (t:TV) (e:List TV),(t::e).all flatT=(flatT t && e.all flatT))∧([]:List TV).all flatT=true ∧
  (∀ b,flatT (.bool b)=true)∧(∀ k n,flatT (.int k n)=true)∧(∀ s,flatT (.str s)=true) ∧
  (∀ b:Bytes,flatR (bytesR b)=true)∧(∀ b:Bytes,knownR (bytesR b)=true)∧(∀ b:Bytes,rowsBytes (bytesR b)=some b):=
 ⟨rfl,fun _ _=>rfl,fun _ _=>rfl,rfl,fun _=>rfl,fun _ _=>rfl,fun _=>rfl,fun _ _=>rfl,rfl,fun _ _=>rfl,fun _ _=>rfl,rfl,fun _=>rfl,fun _ _=>rfl,fun _=>rfl,flatR_bytes,knownR_bytes,rowsBytes_R⟩
theorem SB:min 1 IntKind.i64.bits=1∧min 7 IntKind.i64.bits=7∧min 8 IntKind.i64.bits=8∧min 14 IntKind.i64.bits=14∧min 16 IntKind.i64.bits=16∧min 24 IntKind.i64.bits=24∧min 33 IntKind.i64.bits=33∧min 47 IntKind.i64.bits=47∧min 1 IntKind.u32.bits=1∧min 8 IntKind.u32.bits=8∧min 16 IntKind.u32.bits=16∧min 24 IntKind.u32.bits=24:=by decide
theorem bytesR_map (b:Bytes):bytesR b=b.map fun x=>[.int .u8 x.toNat]:=rfl
theorem cnt_len {α:Type} (c:α→Nat) (h:∀ x,1≤c x) (l:List α):l.length≤(l.map c).sum:=by
 induction l with
 | nil=>simp
 | cons x l ih=>have:=h x; simp; omega
def szC (l:Int) (n:Nat):Int:=if l<n then -1 else l-n
theorem szC_lt {l:Int} {n:Nat} (h:l<n):szC l n=-1:=if_pos h
theorem szC_ge {l:Int} {n:Nat} (h:¬ l<n):szC l n=l-n:=if_neg h
def digB (n:Nat):Bytes:=if h:n=0 then [] else digB (n/10)++[UInt8.ofNat (48+n%10)]
termination_by n
def markText (k:Int):Bytes:=if k≤0 then [109,48] else 109::digB k.toNat
def cntM {α:Type} (c:α→Nat) (l:List α):Nat:=(l.map c).sum
def szM {α:Type} (c:α→Nat) (l:List α):Nat:=l.length+(l.map c).sum
structure Ent where
 name:Bytes
 ino:Int
 deriving DecidableEq,Inhabited
def Ent.row (a:Ent):List TV:=[.str a.name,.int .i64 a.ino]
def Ent.x (a:Ent):AV:=.agg [.str a.name,.int .i64 a.ino]
def Ent.o (a:Ent):AV:=.agg [.str a.name,.int .i64 a.ino]
def Ent.sz (a:Ent):Nat:=a.name.length
def Ent.fine (a:Ent):Prop:=(a.name.length<2^48)
def Ent.cnt (a:Ent):Nat:=1+1
def Ent.cntT (a:Ent):Nat:=0
def Ent.marked (a:Ent) (k:Int):Ent:={ name:=markText (k),ino:=k+1 }
def Ent.markT (a:Ent) (k:Int):Ent:={ name:=a.name,ino:=a.ino }
def Ent.zero:List TV:=[.str [],.int .i64 0]
theorem Ent.eq' {a b:Ent} (h0:a.name=b.name) (h1:a.ino=b.ino):a=b:=by cases a; cases b; simp_all
theorem Ent.cnt1 (a:Ent):1≤a.cnt:=by simp only [Ent.cnt]; omega
structure Attr where
 name:Bytes
 val:Bytes
 deriving DecidableEq,Inhabited
def Attr.row (a:Attr):List TV:=[.str a.name,.str a.val]
def Attr.x (a:Attr):AV:=.agg [.str a.name,.str a.val]
def Attr.o (a:Attr):AV:=.agg [.str a.name,.str a.val]
def Attr.sz (a:Attr):Nat:=a.name.length+a.val.length
def Attr.fine (a:Attr):Prop:=(a.name.length<2^48)∧(a.val.length<2^48)
def Attr.cnt (a:Attr):Nat:=1+1
def Attr.cntT (a:Attr):Nat:=0
def Attr.marked (a:Attr) (k:Int):Attr:={ name:=markText (k),val:=markText (k+1) }
def Attr.markT (a:Attr) (k:Int):Attr:={ name:=a.name,val:=a.val }
def Attr.zero:List TV:=[.str [],.str []]
theorem Attr.eq' {a b:Attr} (h0:a.name=b.name) (h1:a.val=b.val):a=b:=by cases a; cases b; simp_all
theorem Attr.cnt1 (a:Attr):1≤a.cnt:=by simp only [Attr.cnt]; omega
structure Inode where
 ino:Int
 kind:Int
 links:Int
 data:Bytes
 ents:List Ent
 attrs:List Attr
 deriving DecidableEq,Inhabited
def Inode.row (a:Inode):List TV:=[.int .i64 a.ino,.int .i64 a.kind,.int .i64 a.links,.sl 1 (bytesR a.data),.sl 2 (a.ents.map Ent.row),.sl 2 (a.attrs.map Attr.row)]
def Inode.x (a:Inode):AV:=.agg [.int .i64 a.ino,.int .i64 a.kind,.int .i64 a.links,.ext 1 (bytesR a.data),.ext 2 (a.ents.map Ent.row),.ext 2 (a.attrs.map Attr.row)]
def Inode.o (a:Inode):AV:=.agg [.int .i64 a.ino,.int .i64 a.kind,.int .i64 a.links,.own 1 (bytesR a.data),.own 2 (a.ents.map Ent.row),.own 2 (a.attrs.map Attr.row)]
def Inode.sz (a:Inode):Nat:=a.data.length+szM Ent.sz a.ents+szM Attr.sz a.attrs
def Inode.fine (a:Inode):Prop:=(a.data.length<2^48)∧(a.ents.length<2^48∧∀ x ∈ a.ents,x.fine)∧(a.attrs.length<2^48∧∀ x ∈ a.attrs,x.fine)
def Inode.cnt (a:Inode):Nat:=1+1+1+a.data.length+cntM Ent.cnt a.ents+cntM Attr.cnt a.attrs
def Inode.cntT (a:Inode):Nat:=a.data.length+cntM Ent.cnt a.ents+cntM Attr.cnt a.attrs
def Inode.marked (a:Inode) (k:Int):Inode:={ ino:=k,kind:=k+1,links:=k+1+1,data:=markBy a.data (k+1+1+1),ents:=markL Ent.marked Ent.cnt a.ents (k+1+1+1+(a.data.length:Nat)),attrs:=markL Attr.marked Attr.cnt a.attrs (k+1+1+1+(a.data.length:Nat)+(cntM Ent.cnt a.ents:Nat)) }
def Inode.markT (a:Inode) (k:Int):Inode:={ ino:=a.ino,kind:=a.kind,links:=a.links,data:=markBy a.data (k),ents:=markL Ent.marked Ent.cnt a.ents (k+(a.data.length:Nat)),attrs:=markL Attr.marked Attr.cnt a.attrs (k+(a.data.length:Nat)+(cntM Ent.cnt a.ents:Nat)) }
def Inode.zero:List TV:=[.int .i64 0,.int .i64 0,.int .i64 0,.sl 1 [],.sl 2 [],.sl 2 []]
theorem Inode.eq' {a b:Inode} (h0:a.ino=b.ino) (h1:a.kind=b.kind) (h2:a.links=b.links) (h3:a.data=b.data) (h4:a.ents=b.ents) (h5:a.attrs=b.attrs):a=b:=by cases a; cases b; simp_all
theorem Inode.cnt1 (a:Inode):1≤a.cnt:=by simp only [Inode.cnt]; omega
structure Tab where
 inodes:List Inode
 next:Int
 deriving DecidableEq,Inhabited
def Tab.row (a:Tab):List TV:=[.sl 6 (a.inodes.map Inode.row),.int .i64 a.next]
def Tab.x (a:Tab):AV:=.agg [.ext 6 (a.inodes.map Inode.row),.int .i64 a.next]
def Tab.o (a:Tab):AV:=.agg [.own 6 (a.inodes.map Inode.row),.int .i64 a.next]
def Tab.sz (a:Tab):Nat:=szM Inode.sz a.inodes
def Tab.fine (a:Tab):Prop:=(a.inodes.length<2^48∧∀ x ∈ a.inodes,x.fine)
def Tab.cnt (a:Tab):Nat:=cntM Inode.cnt a.inodes+1
def Tab.cntT (a:Tab):Nat:=cntM Inode.cnt a.inodes
def Tab.marked (a:Tab) (k:Int):Tab:={ inodes:=markL Inode.marked Inode.cnt a.inodes (k),next:=k+(cntM Inode.cnt a.inodes:Nat) }
def Tab.markT (a:Tab) (k:Int):Tab:={ inodes:=markL Inode.marked Inode.cnt a.inodes (k),next:=a.next }
def Tab.zero:List TV:=[.sl 6 [],.int .i64 0]
theorem Tab.eq' {a b:Tab} (h0:a.inodes=b.inodes) (h1:a.next=b.next):a=b:=by cases a; cases b; simp_all
theorem Tab.cnt1 (a:Tab):1≤a.cnt:=by simp only [Tab.cnt]; omega
structure Vol where
 id:Int
 name:Bytes
 ro:Bool
 limit:Int
 t:Tab
 deriving DecidableEq,Inhabited
def Vol.row (a:Vol):List TV:=[.int .i64 a.id,.str a.name,.bool a.ro,.int .i64 a.limit,.sl 6 (a.t.inodes.map Inode.row),.int .i64 a.t.next]
def Vol.x (a:Vol):AV:=.agg [.int .i64 a.id,.str a.name,.bool a.ro,.int .i64 a.limit,.ext 6 (a.t.inodes.map Inode.row),.int .i64 a.t.next]
def Vol.o (a:Vol):AV:=.agg [.int .i64 a.id,.str a.name,.bool a.ro,.int .i64 a.limit,.own 6 (a.t.inodes.map Inode.row),.int .i64 a.t.next]
def Vol.sz (a:Vol):Nat:=a.name.length+a.t.sz
def Vol.fine (a:Vol):Prop:=(a.name.length<2^48)∧(a.t.fine)
def Vol.cnt (a:Vol):Nat:=1+1+1+1+cntM Inode.cnt a.t.inodes+1
def Vol.cntT (a:Vol):Nat:=a.t.cntT
def Vol.marked (a:Vol) (k:Int):Vol:={ id:=k,name:=markText (k+1),ro:=decide ((k+1+1).tmod 3=0),limit:=k+1+1+1,t:={ inodes:=markL Inode.marked Inode.cnt a.t.inodes (k+1+1+1+1),next:=k+1+1+1+1+(cntM Inode.cnt a.t.inodes:Nat) } }
def Vol.markT (a:Vol) (k:Int):Vol:={ id:=a.id,name:=a.name,ro:=a.ro,limit:=a.limit,t:=a.t.markT (k) }
def Vol.zero:List TV:=[.int .i64 0,.str [],.bool false,.int .i64 0,.sl 6 [],.int .i64 0]
theorem Vol.eq' {a b:Vol} (h0:a.id=b.id) (h1:a.name=b.name) (h2:a.ro=b.ro) (h3:a.limit=b.limit) (h4:a.t=b.t):a=b:=by cases a; cases b; simp_all
theorem Vol.cnt1 (a:Vol):1≤a.cnt:=by simp only [Vol.cnt]; omega
structure Fs where
 vols:List Vol
 next:Int
 deriving DecidableEq,Inhabited
def Fs.row (a:Fs):List TV:=[.sl 6 (a.vols.map Vol.row),.int .i64 a.next]
def Fs.x (a:Fs):AV:=.agg [.ext 6 (a.vols.map Vol.row),.int .i64 a.next]
def Fs.o (a:Fs):AV:=.agg [.own 6 (a.vols.map Vol.row),.int .i64 a.next]
def Fs.sz (a:Fs):Nat:=szM Vol.sz a.vols
def Fs.fine (a:Fs):Prop:=(a.vols.length<2^48∧∀ x ∈ a.vols,x.fine)
def Fs.cnt (a:Fs):Nat:=cntM Vol.cnt a.vols+1
def Fs.cntT (a:Fs):Nat:=cntM Vol.cnt a.vols
def Fs.marked (a:Fs) (k:Int):Fs:={ vols:=markL Vol.marked Vol.cnt a.vols (k),next:=k+(cntM Vol.cnt a.vols:Nat) }
def Fs.markT (a:Fs) (k:Int):Fs:={ vols:=markL Vol.marked Vol.cnt a.vols (k),next:=a.next }
def Fs.zero:List TV:=[.sl 6 [],.int .i64 0]
theorem Fs.eq' {a b:Fs} (h0:a.vols=b.vols) (h1:a.next=b.next):a=b:=by cases a; cases b; simp_all
theorem Fs.cnt1 (a:Fs):1≤a.cnt:=by simp only [Fs.cnt]; omega
structure Op where
 kind:Int
 vol:Int
 path:Bytes
 to':Bytes
 off:Int
 data:Bytes
 deriving DecidableEq,Inhabited
def Op.row (a:Op):List TV:=[.int .i64 a.kind,.int .i64 a.vol,.str a.path,.str a.to',.int .i64 a.off,.sl 1 (bytesR a.data)]
def Op.x (a:Op):AV:=.agg [.int .i64 a.kind,.int .i64 a.vol,.str a.path,.str a.to',.int .i64 a.off,.ext 1 (bytesR a.data)]
def Op.o (a:Op):AV:=.agg [.int .i64 a.kind,.int .i64 a.vol,.str a.path,.str a.to',.int .i64 a.off,.own 1 (bytesR a.data)]
def Op.sz (a:Op):Nat:=a.path.length+a.to'.length+a.data.length
def Op.fine (a:Op):Prop:=(a.path.length<2^48)∧(a.to'.length<2^48)∧(a.data.length<2^48)
def Op.cnt (a:Op):Nat:=1+1+1+1+1+a.data.length
def Op.cntT (a:Op):Nat:=a.data.length
def Op.marked (a:Op) (k:Int):Op:={ kind:=k,vol:=k+1,path:=markText (k+1+1),to':=markText (k+1+1+1),off:=k+1+1+1+1,data:=markBy a.data (k+1+1+1+1+1) }
def Op.markT (a:Op) (k:Int):Op:={ kind:=a.kind,vol:=a.vol,path:=a.path,to':=a.to',off:=a.off,data:=markBy a.data (k) }
def Op.zero:List TV:=[.int .i64 0,.int .i64 0,.str [],.str [],.int .i64 0,.sl 1 []]
theorem Op.eq' {a b:Op} (h0:a.kind=b.kind) (h1:a.vol=b.vol) (h2:a.path=b.path) (h3:a.to'=b.to') (h4:a.off=b.off) (h5:a.data=b.data):a=b:=by cases a; cases b; simp_all
theorem Op.cnt1 (a:Op):1≤a.cnt:=by simp only [Op.cnt]; omega
theorem ST :
  (∀ a:Ent,a.row=[.str a.name,.int .i64 a.ino]) ∧
  (∀ a:Ent,a.x=.agg [.str a.name,.int .i64 a.ino]) ∧
  (∀ a:Ent,a.o=.agg [.str a.name,.int .i64 a.ino]) ∧
  (∀ a:Attr,a.row=[.str a.name,.str a.val]) ∧
  (∀ a:Attr,a.x=.agg [.str a.name,.str a.val]) ∧
  (∀ a:Attr,a.o=.agg [.str a.name,.str a.val]) ∧
  (∀ a:Inode,a.row=[.int .i64 a.ino,.int .i64 a.kind,.int .i64 a.links,.sl 1 (bytesR a.data),.sl 2 (a.ents.map Ent.row),.sl 2 (a.attrs.map Attr.row)]) ∧
  (∀ a:Inode,a.x=.agg [.int .i64 a.ino,.int .i64 a.kind,.int .i64 a.links,.ext 1 (bytesR a.data),.ext 2 (a.ents.map Ent.row),.ext 2 (a.attrs.map Attr.row)]) ∧
  (∀ a:Inode,a.o=.agg [.int .i64 a.ino,.int .i64 a.kind,.int .i64 a.links,.own 1 (bytesR a.data),.own 2 (a.ents.map Ent.row),.own 2 (a.attrs.map Attr.row)]) ∧
  (∀ a:Tab,a.row=[.sl 6 (a.inodes.map Inode.row),.int .i64 a.next]) ∧
  (∀ a:Tab,a.x=.agg [.ext 6 (a.inodes.map Inode.row),.int .i64 a.next]) ∧
  (∀ a:Tab,a.o=.agg [.own 6 (a.inodes.map Inode.row),.int .i64 a.next]) ∧
  (∀ a:Vol,a.row=[.int .i64 a.id,.str a.name,.bool a.ro,.int .i64 a.limit,.sl 6 (a.t.inodes.map Inode.row),.int .i64 a.t.next]) ∧
  (∀ a:Vol,a.x=.agg [.int .i64 a.id,.str a.name,.bool a.ro,.int .i64 a.limit,.ext 6 (a.t.inodes.map Inode.row),.int .i64 a.t.next]) ∧
  (∀ a:Vol,a.o=.agg [.int .i64 a.id,.str a.name,.bool a.ro,.int .i64 a.limit,.own 6 (a.t.inodes.map Inode.row),.int .i64 a.t.next]) ∧
  (∀ a:Fs,a.row=[.sl 6 (a.vols.map Vol.row),.int .i64 a.next]) ∧
  (∀ a:Fs,a.x=.agg [.ext 6 (a.vols.map Vol.row),.int .i64 a.next]) ∧
  (∀ a:Fs,a.o=.agg [.own 6 (a.vols.map Vol.row),.int .i64 a.next]) ∧
  (∀ a:Op,a.row=[.int .i64 a.kind,.int .i64 a.vol,.str a.path,.str a.to',.int .i64 a.off,.sl 1 (bytesR a.data)]) ∧
  (∀ a:Op,a.x=.agg [.int .i64 a.kind,.int .i64 a.vol,.str a.path,.str a.to',.int .i64 a.off,.ext 1 (bytesR a.data)]) ∧
  (∀ a:Op,a.o=.agg [.int .i64 a.kind,.int .i64 a.vol,.str a.path,.str a.to',.int .i64 a.off,.own 1 (bytesR a.data)]) ∧
  (∀ (α β:Type) (f:α→β) (l:List α),(l.map f).length=l.length)∧(∀ (α β:Type) (f:α→β) (l:List α) (i:Nat),(l.map f)[i]?=(l[i]?).map f):=by
 refine ⟨?_,?_,?_,?_,?_,?_,?_,?_,?_,?_,?_,?_,?_,?_,?_,?_,?_,?_,?_,?_,?_,?_,?_⟩ <;> intros <;> first | rfl | simp
theorem SX:type_of% (And.intro SAU <| And.intro SU <| And.intro SGs <| And.intro SD <| And.intro S1 <| And.intro S2 <| And.intro S3 <| And.intro SE <| And.intro SC <| And.intro SO <| And.intro ST <| And.intro SF <| And.intro SK <| And.intro @bytes_len <| And.intro @bytes_get <| And.intro @Bool.beq_eq_decide_eq.{0} <| And.intro @Int.natCast_zero <| And.intro @Int.add_zero <| And.intro @ge_iff_le.{0} <| And.intro @gt_iff_lt.{0} <| And.intro @Option.isNone_none.{0} <| And.intro @Option.isNone_some.{0} <| And.intro @List.nil_append.{0} <| And.intro @List.append_nil.{0} <| And.intro @Bool.and_true <| And.intro @Bool.and_self <| SB):=And.intro SAU <| And.intro SU <| And.intro SGs <| And.intro SD <| And.intro S1 <| And.intro S2 <| And.intro S3 <| And.intro SE <| And.intro SC <| And.intro SO <| And.intro ST <| And.intro SF <| And.intro SK <| And.intro @bytes_len <| And.intro @bytes_get <| And.intro @Bool.beq_eq_decide_eq.{0} <| And.intro @Int.natCast_zero <| And.intro @Int.add_zero <| And.intro @ge_iff_le.{0} <| And.intro @gt_iff_lt.{0} <| And.intro @Option.isNone_none.{0} <| And.intro @Option.isNone_some.{0} <| And.intro @List.nil_append.{0} <| And.intro @List.append_nil.{0} <| And.intro @Bool.and_true <| And.intro @Bool.and_self <| SB
end Go.Proofs.YtnhdalnfboiooaaGreatDoor.Awp

namespace Go.Proofs.YtnhdalnfboiooaaGreatDoor.Awp
theorem nodup_len {l m:List Int} (h:l.Nodup) (hs:∀ x ∈ l,x ∈ m):l.length≤m.length:=by
 induction l generalizing m with
 | nil=>simp
 | cons x l ih=>
  obtain ⟨hx,hl⟩:=List.nodup_cons.1 h
  have hm:=hs x (by simp)
  have:=ih (m:=m.erase x) hl fun y hy=>(List.mem_erase_of_ne (by rintro rfl; exact hx hy)).2 (hs y (by simp [hy]))
  rw [List.length_erase_of_mem hm] at this
  have:0<m.length:=List.length_pos_of_mem hm
  simp only [List.length_cons]; omega
abbrev Up (l:List Int):Prop:=l.Pairwise (·<·)
theorem up_nodup {l:List Int} (h:Up l):l.Nodup:=h.imp fun h=>by omega
theorem up_ext {l m:List Int} (hl:Up l) (hm:Up m) (h:∀ x,x ∈ l↔x ∈ m):l=m:=by
 induction l generalizing m with
 | nil=>
  cases m with
  | nil=>rfl
  | cons y m=>exact absurd ((h y).2 (by simp)) (by simp)
 | cons x l ih=>
  cases m with
  | nil=>exact absurd ((h x).1 (by simp)) (by simp)
  | cons y m=>
   obtain ⟨a1,a2⟩:=List.pairwise_cons.1 hl
   obtain ⟨b1,b2⟩:=List.pairwise_cons.1 hm
   have e:x=y:=by
    have h1:=(h x).1 (by simp)
    have h2:=(h y).2 (by simp)
    simp only [List.mem_cons] at h1 h2
    rcases h1 with h1 | h1
    ·exact h1
    rcases h2 with h2 | h2
    ·exact h2.symm
    have:=a1 y h2; have:=b1 x h1; omega
   subst e
   congr 1
   refine ih a2 b2 fun z=>⟨fun hz=>?_,fun hz=>?_⟩
   ·have:=(h z).1 (by simp [hz])
    simp only [List.mem_cons] at this
    rcases this with rfl | this
    ·exact absurd (a1 _ hz) (by omega)
    ·exact this
   ·have:=(h z).2 (by simp [hz])
    simp only [List.mem_cons] at this
    rcases this with rfl | this
    ·exact absurd (b1 _ hz) (by omega)
    ·exact this
def putI (l:List Int) (n:Int):List Int:=if n ∈ l then l else l.takeWhile (·<n)++n::l.dropWhile (·<n)
theorem mem_putI (l:List Int) (n x:Int):x ∈ putI l n↔x=n∨x ∈ l:=by
 unfold putI
 split
 ·rename_i h
  constructor
  ·exact .inr
  ·rintro (rfl | h')
   ·exact h
   ·exact h'
 ·have e:x ∈ l↔x ∈ l.takeWhile (·<n)∨x ∈ l.dropWhile (·<n):=by
   rw [← List.mem_append,List.takeWhile_append_dropWhile]
  rw [e]
  simp only [List.mem_append,List.mem_cons]
  constructor
  ·rintro (h | h | h)
   ·exact .inr (.inl h)
   ·exact .inl h
   ·exact .inr (.inr h)
  ·rintro (h | h | h)
   ·exact .inr (.inl h)
   ·exact .inl h
   ·exact .inr (.inr h)
theorem putI_up {l:List Int} (h:Up l) (n:Int):Up (putI l n):=by
 unfold putI
 split
 ·exact h
 ·rename_i hn
  induction l with
  | nil=>simp [Up]
  | cons x l ih=>
   obtain ⟨a1,a2⟩:=List.pairwise_cons.1 h
   have hnx:n≠x:=fun e=>hn (by simp [e])
   have ih:=ih a2 fun h=>hn (by simp [h])
   by_cases hx:x<n
   ·rw [List.takeWhile_cons_of_pos (by simpa using hx),List.dropWhile_cons_of_pos (by simpa using hx)]
    refine List.pairwise_cons.2 ⟨fun y hy=>?_,ih⟩
    have hy:y ∈ l.takeWhile (·<n)++n::l.dropWhile (·<n):=hy
    rw [List.mem_append,List.mem_cons] at hy
    rcases hy with hy | rfl | hy
    ·exact a1 y (List.takeWhile_sublist _ |>.subset hy)
    ·exact hx
    ·exact a1 y (List.dropWhile_sublist _ |>.subset hy)
   ·rw [List.takeWhile_cons_of_neg (by simpa using hx),List.dropWhile_cons_of_neg (by simpa using hx)]
    refine List.pairwise_cons.2 ⟨fun y hy=>?_,h⟩
    simp only [List.mem_cons] at hy
    rcases hy with rfl | hy
    ·omega
    ·have:=a1 y hy; omega
section
variable (nb:Int→Option (List Int))
inductive Reach:Int→Prop where
 | root (h:(nb 1).isSome=true):Reach 1
 | step (i j:Int) (l:List Int) (hi:Reach i) (hl:nb i=some l) (hj:j ∈ l) (hs:(nb j).isSome=true):Reach j
def addJ (out:List Int) (j:Int):List Int:=if (nb j).isSome then putI out j else out
def addI (out:List Int) (i:Int):List Int:=((nb i).getD []).foldl (addJ nb) out
def nextR (l:List Int):List Int:=l.foldl (addI nb) l
def roundsR:Nat→List Int
 | 0=>[1]
 | k+1=>nextR nb (roundsR k)
def reachR (n:Nat):List Int:=if (nb 1).isSome then roundsR nb n else []
theorem mem_addJs (js:List Int):∀ (out:List Int) (x:Int),x ∈ js.foldl (addJ nb) out↔x ∈ out∨(x ∈ js∧(nb x).isSome=true):=by
 induction js with
 | nil=>intro out x; simp
 | cons j js ih=>
  intro out x
  rw [List.foldl_cons,ih]
  unfold addJ
  split
  ·rename_i hj
   rw [mem_putI,List.mem_cons]
   constructor
   ·rintro ((rfl | h) | h)
    ·exact .inr ⟨.inl rfl,hj⟩
    ·exact .inl h
    ·exact .inr ⟨.inr h.1,h.2⟩
   ·rintro (h | ⟨rfl | h,hs⟩)
    ·exact .inl (.inr h)
    ·exact .inl (.inl rfl)
    ·exact .inr ⟨h,hs⟩
  ·rename_i hj
   rw [List.mem_cons]
   constructor
   ·rintro (h | h)
    ·exact .inl h
    ·exact .inr ⟨.inr h.1,h.2⟩
   ·rintro (h | ⟨rfl | h,hs⟩)
    ·exact .inl h
    ·exact absurd hs hj
    ·exact .inr ⟨h,hs⟩
theorem addJs_up (js:List Int):∀ (out:List Int),Up out→Up (js.foldl (addJ nb) out):=by
 induction js with
 | nil=>intro out h; exact h
 | cons j js ih=>
  intro out h
  rw [List.foldl_cons]
  refine ih _ ?_
  unfold addJ
  split
  ·exact putI_up h j
  ·exact h
theorem mem_addIs (l:List Int):∀ (out:List Int) (x:Int),x ∈ l.foldl (addI nb) out↔x ∈ out∨(∃ i ∈ l,x ∈ (nb i).getD [])∧(nb x).isSome=true:=by
 induction l with
 | nil=>intro out x; simp
 | cons i l ih=>
  intro out x
  rw [List.foldl_cons,ih]
  unfold addI
  rw [mem_addJs]
  simp only [List.mem_cons,exists_eq_or_imp]
  constructor
  ·rintro ((h | h) | h)
   ·exact .inl h
   ·exact .inr ⟨.inl h.1,h.2⟩
   ·exact .inr ⟨.inr h.1,h.2⟩
  ·rintro (h | ⟨h | h,hs⟩)
   ·exact .inl (.inl h)
   ·exact .inl (.inr ⟨h,hs⟩)
   ·exact .inr ⟨h,hs⟩
theorem addIs_up (l:List Int):∀ (out:List Int),Up out→Up (l.foldl (addI nb) out):=by
 induction l with
 | nil=>intro out h; exact h
 | cons i l ih=>intro out h; rw [List.foldl_cons]; exact ih _ (addJs_up nb _ _ h)
theorem mem_nextR (l:List Int) (x:Int):x ∈ nextR nb l↔x ∈ l∨(∃ i ∈ l,x ∈ (nb i).getD [])∧(nb x).isSome=true:=mem_addIs nb l l x
theorem nextR_up {l:List Int} (h:Up l):Up (nextR nb l):=addIs_up nb l l h
theorem roundsR_up (k:Nat):Up (roundsR nb k):=by
 induction k with
 | zero=>simp [roundsR,Up]
 | succ k ih=>exact nextR_up nb ih
theorem reachR_up (n:Nat):Up (reachR nb n):=by
 unfold reachR
 split
 ·exact roundsR_up nb n
 ·simp [Up]
theorem rounds_reach (h1:(nb 1).isSome=true) (k:Nat):∀ x ∈ roundsR nb k,Reach nb x:=by
 induction k with
 | zero=>intro x hx; simp only [roundsR,List.mem_singleton] at hx; subst hx; exact .root h1
 | succ k ih=>
  intro x hx
  rcases (mem_nextR nb _ _).1 hx with h | ⟨⟨i,hi,hx⟩,hs⟩
  ·exact ih x h
  ·cases hn:nb i with
   | none=>rw [hn] at hx; exact absurd hx (by simp)
   | some l=>rw [hn] at hx; exact .step i x l (ih i hi) hn hx hs
theorem reach_some {x:Int} (h:Reach nb x):(nb x).isSome=true:=by
 cases h with
 | root h=>exact h
 | step _ _ _ _ _ _ h=>exact h
def shutR (l:List Int):Prop:=∀ i ∈ l,∀ x ∈ (nb i).getD [],(nb x).isSome=true→x ∈ l
theorem rounds_step (k:Nat):shutR nb (roundsR nb k)∨k+1≤(roundsR nb k).length:=by
 induction k with
 | zero=>exact .inr (by simp [roundsR])
 | succ k ih=>
  by_cases hs:shutR nb (roundsR nb k)
  ·left
   have e:roundsR nb (k+1)=roundsR nb k:=by
    refine up_ext (roundsR_up nb _) (roundsR_up nb _) fun x=>?_
    show x ∈ nextR nb _↔_
    rw [mem_nextR]
    exact ⟨fun h=>h.elim id fun ⟨⟨i,hi,hx⟩,hx'⟩=>hs i hi x hx hx',.inl⟩
   rw [e]; exact hs
  ·right
   have ih:=ih.resolve_left hs
   obtain ⟨x,hx1,hx2⟩:∃ x,x ∈ roundsR nb (k+1)∧x ∉ roundsR nb k:=by
    apply Classical.byContradiction
    intro hc
    apply hs
    intro i hi x hx hx'
    apply Classical.byContradiction
    intro hn
    exact hc ⟨x,(mem_nextR nb _ _).2 (.inr ⟨⟨i,hi,hx⟩,hx'⟩),hn⟩
   have:=nodup_len (l:=x::roundsR nb k) (m:=roundsR nb (k+1)) (List.nodup_cons.2 ⟨hx2,up_nodup (roundsR_up nb k)⟩) (by
    intro y hy
    rcases List.mem_cons.1 hy with rfl | hy
    ·exact hx1
    ·exact (mem_nextR nb _ _).2 (.inl hy))
   simp only [List.length_cons] at this
   omega
theorem mem_reachR {n:Nat} (hn:∀ l:List Int,l.Nodup→(∀ x ∈ l,(nb x).isSome=true)→l.length≤n) (x:Int):x ∈ reachR nb n↔Reach nb x:=by
 by_cases h1:(nb 1).isSome=true
 ·rw [reachR,if_pos h1]
  refine ⟨rounds_reach nb h1 n x,fun h=>?_⟩
  have hl:=hn _ (up_nodup (roundsR_up nb n)) fun y hy=>reach_some nb (rounds_reach nb h1 n y hy)
  have hs:shutR nb (roundsR nb n):=(rounds_step nb n).resolve_right (by omega)
  have hroot:∀ k,1 ∈ roundsR nb k:=by
   intro k
   induction k with
   | zero=>simp [roundsR]
   | succ k ih=>exact (mem_nextR nb _ _).2 (.inl ih)
  induction h with
  | root _=>exact hroot n
  | step i j l hi hl hj hs' ih=>exact hs i ih j (by rw [hl]; exact hj) hs'
 ·rw [reachR,if_neg h1]
  refine ⟨fun h=>absurd h (by simp),fun h=>?_⟩
  exfalso
  apply h1
  clear hn
  induction h with
  | root h=>exact h
  | step _ _ _ _ _ _ _ ih=>exact ih
structure Que (out next:List Int):Prop where
 nodup:out.Nodup
 reach:∀ x ∈ out,Reach nb x
 from':∀ x ∈ next,(nb x).isSome=true→Reach nb x
 shut:∀ i ∈ out,∀ x ∈ (nb i).getD [],(nb x).isSome=true→x ∈ out∨x ∈ next
 root:(nb 1).isSome=true→1 ∈ out∨1 ∈ next
theorem que_init:Que nb [] [1]:=⟨by simp,by simp,fun x hx h=>by simp only [List.mem_singleton] at hx; subst hx; exact .root h,by simp,fun _=>.inr (by simp)⟩
theorem que_skip {out next:List Int} {i:Int} (q:Que nb out (i::next)) (h:nb i=none∨i ∈ out):Que nb out next:=by
 refine ⟨q.nodup,q.reach,fun x hx=>q.from' x (by simp [hx]),fun k hk x hx hs=>?_,fun h1=>?_⟩
 ·rcases q.shut k hk x hx hs with h' | h'
  ·exact .inl h'
  ·rcases List.mem_cons.1 h' with rfl | h'
   ·rcases h with h | h
    ·rw [h] at hs; exact absurd hs (by simp)
    ·exact .inl h
   ·exact .inr h'
 ·rcases q.root h1 with h' | h'
  ·exact .inl h'
  ·rcases List.mem_cons.1 h' with rfl | h'
   ·rcases h with h | h
    ·rw [h] at h1; exact absurd h1 (by simp)
    ·exact .inl h
   ·exact .inr h'
theorem que_take {out next l:List Int} {i:Int} (q:Que nb out (i::next)) (h:nb i=some l) (hn:i ∉ out):Que nb (out++[i]) (next++l):=by
 have hr:Reach nb i:=q.from' i (by simp) (by rw [h]; rfl)
 refine ⟨?_,fun x hx=>?_,fun x hx hs=>?_,fun k hk x hx hs=>?_,fun h1=>?_⟩
 ·rw [List.nodup_append]
  refine ⟨q.nodup,by simp,fun a ha b hb=>?_⟩
  rw [List.mem_singleton.1 hb]
  rintro rfl
  exact hn ha
 ·rcases List.mem_append.1 hx with hx | hx
  ·exact q.reach x hx
  ·rw [List.mem_singleton.1 hx]; exact hr
 ·rcases List.mem_append.1 hx with hx | hx
  ·exact q.from' x (by simp [hx]) hs
  ·exact .step i x l hr h hx hs
 ·rcases List.mem_append.1 hk with hk | hk
  ·rcases q.shut k hk x hx hs with h' | h'
   ·exact .inl (by simp [h'])
   ·rcases List.mem_cons.1 h' with rfl | h'
    ·exact .inl (by simp)
    ·exact .inr (by simp [h'])
  ·rw [List.mem_singleton.1 hk,h] at hx
   exact .inr (by simpa using .inr hx)
 ·rcases q.root h1 with h' | h'
  ·exact .inl (by simp [h'])
  ·rcases List.mem_cons.1 h' with rfl | h'
   ·exact .inl (by simp)
   ·exact .inr (by simp [h'])
theorem que_end {out:List Int} (q:Que nb out []) (x:Int):x ∈ out↔Reach nb x:=by
 refine ⟨q.reach x,fun h=>?_⟩
 induction h with
 | root h=>exact (q.root h).resolve_right (by simp)
 | step i j l hi hl hj hs ih=>exact (q.shut i ih j (by rw [hl]; exact hj) hs).resolve_right (by simp)
theorem que_sorted {n:Nat} (hn:∀ l:List Int,l.Nodup→(∀ x ∈ l,(nb x).isSome=true)→l.length≤n) {out:List Int} (q:Que nb out []) :
  out.mergeSort (fun x y=>decide (x≤y))=reachR nb n:=by
 refine up_ext ?_ (reachR_up nb n) fun x=>?_
 ·have h1:=List.pairwise_mergeSort (le:=fun x y:Int=>decide (x≤y)) (by intro a b c; simp; omega) (by intro a b; simp; omega) out
  have h2:(out.mergeSort (fun x y=>decide (x≤y))).Nodup:=(List.mergeSort_perm out _).nodup_iff.2 q.nodup
  have:Up (out.mergeSort (fun x y=>decide (x≤y))):=(h1.and h2).imp fun ⟨a,b⟩=>by simp at a; omega
  exact this
 ·rw [(List.mergeSort_perm out _).mem_iff,que_end nb q,mem_reachR nb hn]
theorem que_len {n:Nat} (hn:∀ l:List Int,l.Nodup→(∀ x ∈ l,(nb x).isSome=true)→l.length≤n) {out next:List Int} (q:Que nb out next):out.length≤n:=
 hn out q.nodup fun x hx=>reach_some nb (q.reach x hx)
end
end Go.Proofs.YtnhdalnfboiooaaGreatDoor.Awp
namespace Go.Proofs.YtnhdalnfboiooaaGreatDoor.Awp
def okc (c:UInt8):Bool:=(decide (97≤c) && decide (c≤122)) || (decide (48≤c) && decide (c≤57)) || decide (c=95) || decide (c=45) || decide (c=46)
def nameOk (s:Bytes):Bool:=s.all okc && decide (1≤s.length) && decide (s.length≤14) && decide (s≠[46]) && decide (s≠[46,46])
def splitS:Bytes→List Bytes
 | []=>[[]]
 | c::s=>if c=47 then []::splitS s else match splitS s with
  | []=>[[c]]
  | h::t=>(c::h)::t
def namesOk (l:List Bytes):Bool:=decide (l.length≤30) && l.all nameOk
def rest1:List Bytes→Option (List Bytes)
 | []::n::l=>some (n::l)
 | _=>none
def splitPath (s:Bytes):List Bytes × Bool:=if s=[47] then ([],true) else match rest1 (splitS s) with
 | some l=>if namesOk l=true then (l,true) else ([],false)
 | none=>([],false)
def joinS (l:List Bytes):Bytes:=l.flatMap fun n=>47::n
def joinPath (l:List Bytes):Bytes:=if namesOk l=true then (if l=[] then [47] else joinS l) else []
def parentOf (s:Bytes):Bytes × Bytes × Bool:=if (splitPath s).2=true∧(splitPath s).1≠[] then (joinPath (splitPath s).1.dropLast,(splitPath s).1.getLastD [],true) else ([],[],false)
theorem splitS_ne (s:Bytes):splitS s≠[]:=by
 cases s with
 | nil=>simp [splitS]
 | cons c s=>
  rw [splitS]
  split
  ·simp
  ·split <;> simp
theorem splitS_cons (c:UInt8) (s:Bytes) (h:c≠47):∃ a t,splitS s=a::t∧splitS (c::s)=(c::a)::t:=by
 cases e:splitS s with
 | nil=>exact absurd e (splitS_ne s)
 | cons a t=>exact ⟨a,t,rfl,by rw [splitS,if_neg h,e]⟩
theorem splitS_name (n s:Bytes) (h:∀ c ∈ n,c≠47):splitS (n++47::s)=n::splitS s:=by
 induction n with
 | nil=>rw [List.nil_append,splitS,if_pos rfl]
 | cons c n ih=>
  have ih:=ih fun x hx=>h x (by simp [hx])
  rw [List.cons_append,splitS,if_neg (h c (by simp)),ih]
theorem splitS_last (n:Bytes) (h:∀ c ∈ n,c≠47):splitS n=[n]:=by
 induction n with
 | nil=>rfl
 | cons c n ih=>
  have ih:=ih fun x hx=>h x (by simp [hx])
  rw [splitS,if_neg (h c (by simp)),ih]
theorem joinS_split (l:List Bytes) (h:∀ n ∈ l,∀ c ∈ n,c≠47) (s:Bytes) (hs:∀ c ∈ s,c≠47):splitS (s++joinS l)=s::l:=by
 induction l generalizing s with
 | nil=>rw [joinS]; simpa using splitS_last s hs
 | cons n l ih=>
  have ih:=ih (fun m hm=>h m (by simp [hm])) n (h n (by simp))
  have e:s++joinS (n::l)=s++47::(n++joinS l):=by simp [joinS]
  rw [e,splitS_name s _ hs,ih]
theorem splitS_join (s:Bytes):∀ a t,splitS s=a::t→s=a++joinS t∧(∀ n ∈ a::t,∀ c ∈ n,c≠47):=by
 induction s with
 | nil=>
  intro a t h
  rw [splitS] at h
  injection h with h1 h2
  subst h1; subst h2
  simp [joinS]
 | cons c s ih=>
  intro a t h
  by_cases hc:c=47
  ·rw [splitS,if_pos hc] at h
   injection h with h1 h2
   subst h1
   cases e:splitS s with
   | nil=>exact absurd e (splitS_ne s)
   | cons b u=>
    rw [e] at h2
    subst h2
    obtain ⟨i1,i2⟩:=ih b u e
    refine ⟨?_,fun n hn=>?_⟩
    ·rw [i1,hc]; simp [joinS]
    ·rcases List.mem_cons.1 hn with rfl | hn
     ·simp
     ·exact i2 n hn
  ·obtain ⟨b,u,e1,e2⟩:=splitS_cons c s hc
   rw [e2] at h
   injection h with h1 h2
   subst h1; subst h2
   obtain ⟨i1,i2⟩:=ih b u e1
   refine ⟨by rw [i1]; rfl,fun n hn x hx=>?_⟩
   rcases List.mem_cons.1 hn with rfl | hn
   ·rcases List.mem_cons.1 hx with rfl | hx
    ·exact hc
    ·exact i2 b (by simp) x hx
   ·exact i2 n (by simp [hn]) x hx
theorem name_slash {n:Bytes} (h:nameOk n=true):∀ c ∈ n,c≠47:=by
 intro c hc
 simp only [nameOk,Bool.and_eq_true] at h
 have:=List.all_eq_true.1 h.1.1.1.1 c hc
 rintro rfl
 exact absurd this (by decide)
theorem name_pos {n:Bytes} (h:nameOk n=true):1≤n.length∧n.length≤14:=by
 simp only [nameOk,Bool.and_eq_true,decide_eq_true_eq] at h
 exact ⟨h.1.1.1.2,h.1.1.2⟩
theorem names_all {l:List Bytes} (h:namesOk l=true):l.length≤30∧∀ n ∈ l,nameOk n=true:=by
 simp only [namesOk,Bool.and_eq_true,decide_eq_true_eq,List.all_eq_true] at h
 exact h
theorem namesOk_of {l:List Bytes} (h1:l.length≤30) (h2:∀ n ∈ l,nameOk n=true):namesOk l=true:=by
 simp only [namesOk,Bool.and_eq_true,decide_eq_true_eq,List.all_eq_true]
 exact ⟨h1,h2⟩
theorem split_joinS {l:List Bytes} (h:namesOk l=true) (hne:l≠[]):splitPath (joinS l)=(l,true):=by
 obtain ⟨h1,h2⟩:=names_all h
 have e:=joinS_split l (fun n hn=>name_slash (h2 n hn)) [] (by simp)
 rw [List.nil_append] at e
 cases l with
 | nil=>exact absurd rfl hne
 | cons n l=>
  have hn:=name_pos (h2 n (by simp))
  have hs:joinS (n::l)≠[47]:=by
   intro hc
   have h3:(joinS (n::l)).length=1:=by rw [hc]; rfl
   have h4:joinS (n::l)=47::(n++joinS l):=by simp [joinS]
   rw [h4] at h3
   simp only [List.length_cons,List.length_append] at h3
   omega
  rw [splitPath,if_neg hs,e]
  simp only [rest1,h,if_pos]
theorem split_joinP {l:List Bytes} (h:namesOk l=true):splitPath (joinPath l)=(l,true):=by
 rw [joinPath,if_pos h]
 split
 ·rename_i e; subst e; rw [splitPath,if_pos rfl]
 ·rename_i e; exact split_joinS h e
theorem split_ok {s:Bytes} (h:(splitPath s).2=true):namesOk (splitPath s).1=true∧joinPath (splitPath s).1=s:=by
 unfold splitPath at h ⊢
 split
 ·rename_i e; subst e; exact ⟨by decide,by decide⟩
 ·rename_i hs
  rw [if_neg hs] at h
  cases e:rest1 (splitS s) with
  | none=>rw [e] at h; exact absurd h (by simp)
  | some l=>
   rw [e] at h
   simp only at h ⊢
   by_cases hn:namesOk l=true
   ·rw [if_pos hn]
    refine ⟨hn,?_⟩
    show joinPath l=s
    cases e2:splitS s with
    | nil=>rw [e2] at e; exact absurd e (by simp [rest1])
    | cons a t=>
     obtain ⟨i1,_⟩:=splitS_join s a t e2
     rw [e2] at e
     cases a with
     | cons c a=>exact absurd e (by simp [rest1])
     | nil=>
      cases t with
      | nil=>exact absurd e (by simp [rest1])
      | cons m t=>
       simp only [rest1,Option.some.injEq] at e
       subst e
       rw [joinPath,if_pos hn,if_neg (by simp),i1,List.nil_append]
   ·rw [if_neg hn] at h; exact absurd h (by simp)
theorem split_no {s:Bytes} (h:(splitPath s).2=false):splitPath s=([],false):=by
 unfold splitPath at h ⊢
 split
 ·rename_i e; rw [if_pos e] at h; exact absurd h (by simp)
 ·rename_i hs
  rw [if_neg hs] at h
  cases e:rest1 (splitS s) with
  | none=>rfl
  | some l=>
   rw [e] at h
   simp only at h ⊢
   by_cases hn:namesOk l=true
   ·rw [if_pos hn] at h; exact absurd h (by simp)
   ·rw [if_neg hn]
theorem namesOk_take {l:List Bytes} (h:namesOk l=true) (n:Nat):namesOk (l.take n)=true:=by
 obtain ⟨h1,h2⟩:=names_all h
 exact namesOk_of (by rw [List.length_take]; omega) fun m hm=>h2 m (List.take_subset _ _ hm)
theorem namesOk_dropLast {l:List Bytes} (h:namesOk l=true):namesOk l.dropLast=true:=by
 rw [List.dropLast_eq_take]; exact namesOk_take h _
theorem root_split {s:Bytes} (h:(splitPath s).2=true):(splitPath s).1=[]↔s=[47]:=by
 constructor
 ·intro e
  have:=(split_ok h).2
  rw [e] at this
  rw [← this]; decide
 ·intro e; rw [e]; decide
theorem parent_ok (s:Bytes):(parentOf s).2.2=true↔(splitPath s).2=true∧(splitPath s).1≠[]:=by
 unfold parentOf
 split
 ·rename_i h; exact ⟨fun _=>h,fun _=>rfl⟩
 ·rename_i h; exact ⟨fun h'=>absurd h' (by simp),fun h'=>absurd h' h⟩
theorem parent_at {s:Bytes} (h:(splitPath s).2=true) (hne:(splitPath s).1≠[]) :
  parentOf s=(joinPath (splitPath s).1.dropLast,(splitPath s).1.getLastD [],true)∧splitPath (joinPath (splitPath s).1.dropLast)=((splitPath s).1.dropLast,true):=by
 refine ⟨by rw [parentOf,if_pos ⟨h,hne⟩],split_joinP (namesOk_dropLast (split_ok h).1)⟩
end Go.Proofs.YtnhdalnfboiooaaGreatDoor.Awp
namespace Go.Proofs.YtnhdalnfboiooaaGreatDoor.Awp
def entOf (x:Inode) (n:Bytes):Int:=((x.ents.find? fun e=>decide (e.name=n)).map Ent.ino).getD 0
def inoAt (t:Tab) (i:Int):Option Inode:=t.inodes.find? fun x=>decide (x.ino=i)
def nbOf (x:Inode):List Int:=if x.kind=2 then x.ents.map Ent.ino else []
def nbT (t:Tab) (i:Int):Option (List Int):=(inoAt t i).map nbOf
def reached (t:Tab):List Int:=reachR (nbT t) t.inodes.length
def linksOf (t:Tab) (i:Int):Nat:=(t.inodes.map fun x=>(nbOf x).count i).sum
def walkC (t:Tab):List Bytes→Int→Int × Int
 | [],i=>(i,0)
 | n::l,i=>match inoAt t i with
  | none=>(0,2)
  | some x=>if x.kind=2 then (if entOf x n=0 then (0,2) else walkC t l (entOf x n)) else (0,3)
def walk (t:Tab) (s:Bytes):Int × Int:=if (splitPath s).2=true then walkC t (splitPath s).1 1 else (0,1)
structure EntsOk (l:List Ent):Prop where
 len:l.length≤10
 ok:∀ e ∈ l,nameOk e.name=true∧2≤e.ino∧e.ino≤1000
 up:l.Pairwise fun a b=>a.name<b.name
structure AttrsOk (l:List Attr):Prop where
 len:l.length≤4
 ok:∀ a ∈ l,nameOk a.name=true∧1≤a.val.length∧a.val.length≤16
 up:l.Pairwise fun a b=>a.name<b.name
structure InodeOk (x:Inode):Prop where
 ino:1≤x.ino∧x.ino≤1000
 links:0≤x.links∧x.links≤1000
 root:x.links=0↔x.ino=1
 data:x.data.length≤100
 ents:EntsOk x.ents
 attrs:AttrsOk x.attrs
 kind:(x.kind=1∧x.ents=[])∨(x.kind=2∧x.data=[]∧x.links≤1)
structure TabOk (t:Tab):Prop where
 len:t.inodes.length≤30
 next:2≤t.next∧t.next≤1000
 ok:∀ x ∈ t.inodes,InodeOk x∧x.ino<t.next
 up:t.inodes.Pairwise fun a b=>a.ino<b.ino
 root:∃ x,inoAt t 1=some x∧x.kind=2
structure TreeOk (t:Tab):Prop where
 tab:TabOk t
 reach:(reached t).length=t.inodes.length
 links:∀ x ∈ t.inodes,((linksOf t x.ino:Nat):Int)=x.links
 there:∀ x ∈ t.inodes,∀ e ∈ x.ents,(inoAt t e.ino).isSome=true
theorem inoAt_some {t:Tab} {i:Int} {x:Inode} (h:inoAt t i=some x):x ∈ t.inodes∧x.ino=i:=by
 refine ⟨List.mem_of_find?_eq_some h,?_⟩
 have:=List.find?_some h
 simpa using this
theorem nb_bound (t:Tab):∀ l:List Int,l.Nodup→(∀ x ∈ l,(nbT t x).isSome=true)→l.length≤t.inodes.length:=by
 intro l hl hs
 have:=nodup_len (m:=t.inodes.map Inode.ino) hl fun x hx=>by
  have:=hs x hx
  cases e:inoAt t x with
  | none=>rw [nbT,e] at this; exact absurd this (by simp)
  | some y=>obtain ⟨h1,h2⟩:=inoAt_some e; exact List.mem_map.2 ⟨y,h1,h2⟩
 simpa using this
abbrev IM:=Int→Option Inode
def walkM (M:IM):List Bytes→Int→Option Int
 | [],i=>some i
 | n::l,i=>match M i with
  | none=>none
  | some x=>if x.kind=2∧entOf x n≠0 then walkM M l (entOf x n) else none
theorem walkC_M (t:Tab) (l:List Bytes):∀ i j,walkC t l i=(j,0)↔walkM (inoAt t) l i=some j:=by
 induction l with
 | nil=>intro i j; simp [walkC,walkM]
 | cons n l ih=>
  intro i j
  rw [walkC,walkM]
  cases inoAt t i with
  | none=>simp
  | some x=>
   simp only
   by_cases hk:x.kind=2
   ·by_cases he:entOf x n=0
    ·rw [if_pos hk,if_pos he,if_neg (by simp [he])]; simp
    ·rw [if_pos hk,if_neg he,if_pos ⟨hk,he⟩]; exact ih _ _
   ·rw [if_neg hk,if_neg (by simp [hk])]; simp
theorem walkM_append (M:IM) (a b:List Bytes):∀ i,walkM M (a++b) i=(walkM M a i).bind fun j=>walkM M b j:=by
 induction a with
 | nil=>intro i; simp [walkM]
 | cons n a ih=>
  intro i
  rw [List.cons_append,walkM,walkM]
  cases M i with
  | none=>rfl
  | some x=>
   simp only
   split
   ·exact ih _
   ·rfl
theorem walkM_one (M:IM) (n:Bytes) (i j:Int):walkM M [n] i=some j↔∃ x,M i=some x∧x.kind=2∧entOf x n=j∧j≠0:=by
 rw [walkM]
 cases M i with
 | none=>simp
 | some x=>
  simp only [walkM]
  constructor
  ·intro h
   split at h
   ·rename_i hc
    injection h with h
    subst h
    exact ⟨x,rfl,hc.1,rfl,hc.2⟩
   ·exact absurd h (by simp)
  ·rintro ⟨y,hy,h1,h2,h3⟩
   injection hy with hy
   subst hy
   subst h2
   rw [if_pos ⟨h1,h3⟩]
theorem ent_mem {x:Inode} {n:Bytes} (h:entOf x n≠0):∃ e ∈ x.ents,e.name=n∧e.ino=entOf x n:=by
 unfold entOf at h ⊢
 cases e:x.ents.find? fun e=>decide (e.name=n) with
 | none=>rw [e] at h; exact absurd rfl h
 | some y=>exact ⟨y,List.mem_of_find?_eq_some e,by simpa using List.find?_some e,by simp⟩
end Go.Proofs.YtnhdalnfboiooaaGreatDoor.Awp
namespace Go.Proofs.YtnhdalnfboiooaaGreatDoor.Awp
variable {t:Tab}
theorem ents_ok (h:TreeOk t) {x:Inode} (hx:x ∈ t.inodes):EntsOk x.ents:=(h.tab.ok x hx).1.ents
end Go.Proofs.YtnhdalnfboiooaaGreatDoor.Awp
namespace Go.Proofs.YtnhdalnfboiooaaGreatDoor.Awp
section
variable {s s':Int→Bytes→Option Int}
end
def putIno:List Inode→Inode→List Inode
 | [],x=>[x]
 | y::l,x=>if y.ino=x.ino then x::l else if x.ino<y.ino then x::y::l else y::putIno l x
def setIno (t:Tab) (x:Inode):Tab:={ inodes:=putIno t.inodes x,next:=t.next }
def dropIno (t:Tab) (i:Int):Tab:={ inodes:=t.inodes.filter fun x=>decide (x.ino≠i),next:=t.next }
abbrev UpI (l:List Inode):Prop:=l.Pairwise fun a b=>a.ino<b.ino
theorem mem_putIno {l:List Inode} {x y:Inode} (h:y ∈ putIno l x):y=x∨y ∈ l:=by
 induction l with
 | nil=>simpa [putIno] using h
 | cons z l ih=>
  rw [putIno] at h
  split at h
  ·rcases List.mem_cons.1 h with h | h
   ·exact .inl h
   ·exact .inr (by simp [h])
  ·split at h
   ·rcases List.mem_cons.1 h with h | h
    ·exact .inl h
    ·exact .inr h
   ·rcases List.mem_cons.1 h with h | h
    ·exact .inr (by simp [h])
    ·rcases ih h with h | h
     ·exact .inl h
     ·exact .inr (by simp [h])
theorem putIno_up {l:List Inode} (h:UpI l) (x:Inode):UpI (putIno l x):=by
 induction l with
 | nil=>simp [putIno,UpI]
 | cons y l ih=>
  obtain ⟨a1,a2⟩:=List.pairwise_cons.1 h
  rw [putIno]
  split
  ·rename_i e
   exact List.pairwise_cons.2 ⟨fun z hz=>by have:=a1 z hz; omega,a2⟩
  ·split
   ·rename_i e1 e2
    refine List.pairwise_cons.2 ⟨fun z hz=>?_,h⟩
    rcases List.mem_cons.1 hz with rfl | hz
    ·exact e2
    ·have:=a1 z hz; omega
   ·rename_i e1 e2
    refine List.pairwise_cons.2 ⟨fun z hz=>?_,ih a2⟩
    rcases mem_putIno hz with rfl | hz
    ·omega
    ·exact a1 z hz
theorem find_putIno {l:List Inode} (h:UpI l) (x:Inode) (j:Int) :
  (putIno l x).find? (fun y=>decide (y.ino=j))=if x.ino=j then some x else l.find? fun y=>decide (y.ino=j):=by
 induction l with
 | nil=>
  rw [putIno]
  by_cases e:x.ino=j <;> simp [e]
 | cons y l ih=>
  obtain ⟨a1,a2⟩:=List.pairwise_cons.1 h
  have nl:∀ k,k≤y.ino→l.find? (fun z=>decide (z.ino=k))=none:=fun k hk=>by
   rw [List.find?_eq_none]
   intro z hz
   have:=a1 z hz
   simp; omega
  rw [putIno]
  split
  ·rename_i e
   by_cases hj:x.ino=j
   ·rw [List.find?_cons_of_pos (by simpa using hj),if_pos hj]
   ·rw [List.find?_cons_of_neg (by simpa using hj),if_neg hj,List.find?_cons_of_neg (by simp; omega)]
  ·split
   ·rename_i e1 e2
    by_cases hj:x.ino=j
    ·rw [List.find?_cons_of_pos (by simpa using hj),if_pos hj]
    ·rw [List.find?_cons_of_neg (by simpa using hj),if_neg hj]
   ·rename_i e1 e2
    by_cases hy:y.ino=j
    ·rw [List.find?_cons_of_pos (by simpa using hy),if_neg (by omega),List.find?_cons_of_pos (by simpa using hy)]
    ·rw [List.find?_cons_of_neg (by simpa using hy),ih a2,List.find?_cons_of_neg (by simpa using hy)]
theorem inoAt_set {t:Tab} (h:UpI t.inodes) (x:Inode) (j:Int):inoAt (setIno t x) j=if x.ino=j then some x else inoAt t j:=find_putIno h x j
theorem set_up {t:Tab} (h:UpI t.inodes) (x:Inode):UpI (setIno t x).inodes:=putIno_up h x
end Go.Proofs.YtnhdalnfboiooaaGreatDoor.Awp
namespace Go.Proofs.YtnhdalnfboiooaaGreatDoor.Awp
section
variable {α:Type} (key:α→Bytes)
def cutK (l:List α) (n:Bytes):List α:=l.filter fun e=>decide (key e≠n)
variable {key}
end
def cutEnt (l:List Ent) (n:Bytes):List Ent:=cutK Ent.name l n
end Go.Proofs.YtnhdalnfboiooaaGreatDoor.Awp
namespace Go.Proofs.YtnhdalnfboiooaaGreatDoor.Awp
def cutD (D:Inode) (n:Bytes):Inode:={ D with ents:=cutEnt D.ents n }
def lessD (X:Inode):Inode:={ X with links:=X.links-1 }
def unlinkT (t:Tab) (D:Inode) (n:Bytes) (X:Inode):Tab:=if X.links=1 then dropIno (setIno t (cutD D n)) X.ino else setIno (setIno t (cutD D n)) (lessD X)
end Go.Proofs.YtnhdalnfboiooaaGreatDoor.Awp
namespace Go.Proofs.YtnhdalnfboiooaaGreatDoor.Awp
end Go.Proofs.YtnhdalnfboiooaaGreatDoor.Awp
namespace Go.Proofs.YtnhdalnfboiooaaGreatDoor.Awp
theorem sum_le_mul {α:Type} (f:α→Nat) (l:List α) (c:Nat) (h:∀ x ∈ l,f x≤c):(l.map f).sum≤l.length*c:=by
 induction l with
 | nil=>simp
 | cons x l ih=>
  have a:=h x (by simp)
  have b:=ih fun y hy=>h y (by simp [hy])
  rw [List.map_cons,List.sum_cons,List.length_cons,Nat.succ_mul]
  omega
end Go.Proofs.YtnhdalnfboiooaaGreatDoor.Awp
namespace Go.Proofs.YtnhdalnfboiooaaGreatDoor.Awp
end Go.Proofs.YtnhdalnfboiooaaGreatDoor.Awp
namespace Go.Proofs.YtnhdalnfboiooaaGreatDoor.Awp
end Go.Proofs.YtnhdalnfboiooaaGreatDoor.Awp
namespace Go.Proofs.YtnhdalnfboiooaaGreatDoor.Awp
end Go.Proofs.YtnhdalnfboiooaaGreatDoor.Awp
namespace Go.Proofs.YtnhdalnfboiooaaGreatDoor.Awp
end Go.Proofs.YtnhdalnfboiooaaGreatDoor.Awp
namespace Go.Proofs.YtnhdalnfboiooaaGreatDoor.Awp
def inR (x a b:Int):Bool:=decide (a≤x∧x≤b)
end Go.Proofs.YtnhdalnfboiooaaGreatDoor.Awp
namespace Go.Proofs.YtnhdalnfboiooaaGreatDoor.Awp
open Go.Proofs
set_option linter.unusedSimpArgs false
set_option linter.unusedVariables false
theorem strLt_eq (a b:Bytes):strLt a b=decide (a<b):=bytesLess_eq a b
section
variable {α:Type} (p:Nat→α→Bool) (lt:α→α→Bool)
def prevOk (l:List α) (x:α):Nat→Bool
 | 0=>true
 | k+1=>match l[k]? with
  | none=>true
  | some y=>lt y x
def stepOk (l:List α) (i:Nat):Bool:=match l[i]? with
 | none=>true
 | some x=>p i x && prevOk lt l x i
def allOk (l:List α):Bool:=(List.range l.length).all (stepOk p lt l)
variable {p lt}
theorem allOk_no {l:List α} {i:Nat} (h:i<l.length) (e:stepOk p lt l i=false):allOk p lt l=false:=by
 rw [allOk,List.all_eq_false]
 exact ⟨i,by simpa using h,by simp [e]⟩
theorem allOk_yes {l:List α} (h:∀ i,i<l.length→stepOk p lt l i=true):allOk p lt l=true:=by
 rw [allOk,List.all_eq_true]
 intro k hk
 exact h k (by simpa using hk)
theorem stepOk_zero {l:List α} (h:0<l.length):stepOk p lt l 0=p 0 l[0]:=by
 rw [stepOk,List.getElem?_eq_getElem h]; simp [prevOk]
theorem stepOk_succ {l:List α} {i:Nat} (h:i+1<l.length):stepOk p lt l (i+1)=(p (i+1) l[i+1] && lt l[i] l[i+1]):=by
 rw [stepOk,List.getElem?_eq_getElem h]
 simp only [prevOk]
 rw [List.getElem?_eq_getElem (show i<l.length by omega)]
theorem allOk_iff (htr:∀ a b c,lt a b=true→lt b c=true→lt a c=true) (l:List α):allOk p lt l=true↔(∀ i,(h:i<l.length)→p i l[i]=true)∧l.Pairwise (fun a b=>lt a b=true):=by
 constructor
 ·intro h
  have h':∀ i,i<l.length→stepOk p lt l i=true:=by
   intro i hi
   rw [allOk,List.all_eq_true] at h
   exact h i (by simpa using hi)
  refine ⟨fun i hi=>?_,?_⟩
  ·have:=h' i hi
   rw [stepOk,List.getElem?_eq_getElem hi] at this
   simp only [Bool.and_eq_true] at this
   exact this.1
  ·rw [List.pairwise_iff_getElem]
   intro i j hi hj hij
   induction j with
   | zero=>omega
   | succ j ih=>
    have hs:=h' (j+1) hj
    rw [stepOk_succ hj,Bool.and_eq_true] at hs
    by_cases e:i=j
    ·subst e; exact hs.2
    ·exact htr _ _ _ (ih (by omega) (by omega)) hs.2
 ·rintro ⟨h1,h2⟩
  refine allOk_yes fun i hi=>?_
  cases i with
  | zero=>rw [stepOk_zero hi]; exact h1 0 hi
  | succ i=>
   rw [stepOk_succ hi,Bool.and_eq_true]
   exact ⟨h1 _ hi,List.pairwise_iff_getElem.1 h2 i (i+1) (by omega) hi (by omega)⟩
end
theorem lt_tr:∀ a b c:Bytes,decide (a<b)=true→decide (b<c)=true→decide (a<c)=true:=by
 intro a b c h1 h2
 simp only [decide_eq_true_eq] at *
 exact List.lt_trans h1 h2
theorem all_mem {α:Type} {l:List α} {p:α→Prop}:(∀ i,(h:i<l.length)→p l[i])↔∀ x ∈ l,p x:=by
 constructor
 ·intro h x hx
  obtain ⟨i,hi,rfl⟩:=List.getElem_of_mem hx
  exact h i hi
 ·intro h i hi; exact h _ (List.getElem_mem hi)
def attrP (a:Attr):Bool:=nameOk a.name && inR a.val.length 1 16
def attrLt (a b:Attr):Bool:=decide (a.name<b.name)
def attrsIn (l:List Attr):Bool:=allOk (fun _=>attrP) attrLt l
def attrsB (l:List Attr):Bool:=attrsIn l && decide (l.length≤4)
def entP (e:Ent):Bool:=nameOk e.name && inR e.ino 2 1000
def entLt (a b:Ent):Bool:=decide (a.name<b.name)
def entsIn (l:List Ent):Bool:=allOk (fun _=>entP) entLt l
def entsB (l:List Ent):Bool:=entsIn l && decide (l.length≤10)
def kindB (x:Inode):Bool:=if x.kind=1 then decide (x.ents.length=0) else if x.kind=2 then decide (x.data.length=0) && decide (x.links≤1) else false
def inodeB (x:Inode):Bool:=inR x.ino 1 1000 && (inR x.links 0 1000 && (decide (x.links=0) == decide (x.ino=1)) && (decide (x.data.length≤100) && (entsB x.ents && (attrsB x.attrs && kindB x))))
def inodeP (t:Tab) (x:Inode):Bool:=inodeB x && decide (x.ino<t.next)
def inodeLt (a b:Inode):Bool:=decide (a.ino<b.ino)
def inodesIn (t:Tab):Bool:=allOk (fun _=>inodeP t) inodeLt t.inodes
def rootB (t:Tab):Bool:=match inoAt t 1 with
 | none=>false
 | some x=>decide (x.kind=2)
def tabB (t:Tab):Bool:=decide (t.inodes.length≤30) && (inR t.next 2 1000 && (inodesIn t && rootB t))
def thereB (t:Tab) (x:Inode):Bool:=x.ents.all fun e=>(inoAt t e.ino).isSome
def treeP (t:Tab) (x:Inode):Bool:=decide (x.links=(linksOf t x.ino:Nat)) && thereB t x
def treeB (t:Tab):Bool:=tabB t && (decide ((reached t).length=t.inodes.length) && t.inodes.all (treeP t))
theorem inR_iff (x a b:Int):inR x a b=true↔a≤x∧x≤b:=by simp [inR]
theorem attrsB_iff (l:List Attr):attrsB l=true↔AttrsOk l:=by
 rw [attrsB,Bool.and_eq_true,attrsIn,allOk_iff (lt:=attrLt) (fun a b c h1 h2=>lt_tr a.name b.name c.name h1 h2)]
 simp only [attrP,attrLt,Bool.and_eq_true,decide_eq_true_eq,inR_iff]
 rw [all_mem (p:=fun a:Attr=>nameOk a.name=true∧(1:Int)≤(a.val.length:Int)∧(a.val.length:Int)≤16)]
 constructor
 ·rintro ⟨⟨h1,h2⟩,h3⟩
  exact ⟨h3,fun a ha=>⟨(h1 a ha).1,by have:=(h1 a ha).2.1; omega,by have:=(h1 a ha).2.2; omega⟩,h2⟩
 ·rintro ⟨h3,h1,h2⟩
  exact ⟨⟨fun a ha=>⟨(h1 a ha).1,by have:=(h1 a ha).2.1; omega,by have:=(h1 a ha).2.2; omega⟩,h2⟩,h3⟩
theorem entsB_iff (l:List Ent):entsB l=true↔EntsOk l:=by
 rw [entsB,Bool.and_eq_true,entsIn,allOk_iff (lt:=entLt) (fun a b c h1 h2=>lt_tr a.name b.name c.name h1 h2)]
 simp only [entP,entLt,Bool.and_eq_true,decide_eq_true_eq,inR_iff]
 rw [all_mem (p:=fun a:Ent=>nameOk a.name=true∧(2:Int)≤a.ino∧a.ino≤1000)]
 constructor
 ·rintro ⟨⟨h1,h2⟩,h3⟩; exact ⟨h3,h1,h2⟩
 ·rintro ⟨h3,h1,h2⟩; exact ⟨⟨h1,h2⟩,h3⟩
theorem kindB_iff (x:Inode):kindB x=true↔(x.kind=1∧x.ents=[])∨(x.kind=2∧x.data=[]∧x.links≤1):=by
 unfold kindB
 by_cases h1:x.kind=1
 ·rw [if_pos h1]
  simp only [decide_eq_true_eq,List.length_eq_zero_iff]
  constructor
  ·exact fun h=>.inl ⟨h1,h⟩
  ·rintro (⟨_,h⟩ | ⟨h,_⟩)
   ·exact h
   ·omega
 ·rw [if_neg h1]
  by_cases h2:x.kind=2
  ·rw [if_pos h2]
   simp only [Bool.and_eq_true,decide_eq_true_eq,List.length_eq_zero_iff]
   constructor
   ·exact fun h=>.inr ⟨h2,h⟩
   ·rintro (⟨h,_⟩ | ⟨_,h⟩)
    ·exact absurd h h1
    ·exact h
  ·rw [if_neg h2]
   constructor
   ·intro h; cases h
   ·rintro (⟨h,_⟩ | ⟨h,_⟩)
    ·exact absurd h h1
    ·exact absurd h h2
theorem inodeB_iff (x:Inode):inodeB x=true↔InodeOk x:=by
 unfold inodeB
 simp only [Bool.and_eq_true,inR_iff,decide_eq_true_eq,entsB_iff,attrsB_iff,kindB_iff,beq_iff_eq,decide_eq_decide]
 constructor
 ·rintro ⟨h1,⟨h2,h3⟩,h4,h5,h6,h7⟩; exact ⟨h1,h2,h3,h4,h5,h6,h7⟩
 ·rintro ⟨h1,h2,h3,h4,h5,h6,h7⟩; exact ⟨h1,⟨h2,h3⟩,h4,h5,h6,h7⟩
theorem rootB_iff (t:Tab):rootB t=true↔∃ x,inoAt t 1=some x∧x.kind=2:=by
 unfold rootB
 cases inoAt t 1 with
 | none=>simp
 | some x=>simp
theorem tabB_iff (t:Tab):tabB t=true↔TabOk t:=by
 unfold tabB
 rw [inodesIn]
 simp only [Bool.and_eq_true,decide_eq_true_eq,inR_iff,rootB_iff]
 rw [allOk_iff (fun a b c h1 h2=>by simp only [inodeLt,decide_eq_true_eq] at *; omega)]
 simp only [inodeP,inodeLt,Bool.and_eq_true,decide_eq_true_eq,inodeB_iff]
 rw [all_mem (p:=fun x:Inode=>InodeOk x∧x.ino<t.next)]
 constructor
 ·rintro ⟨h1,h2,⟨h3,h4⟩,h5⟩; exact ⟨h1,h2,h3,h4,h5⟩
 ·rintro ⟨h1,h2,h3,h4,h5⟩; exact ⟨h1,h2,⟨h3,h4⟩,h5⟩
theorem treeB_iff (t:Tab):treeB t=true↔TreeOk t:=by
 unfold treeB
 simp only [Bool.and_eq_true,decide_eq_true_eq,tabB_iff,List.all_eq_true,treeP,thereB]
 constructor
 ·rintro ⟨h1,h2,h3⟩; exact ⟨h1,h2,fun x hx=>(h3 x hx).1.symm,fun x hx=>(h3 x hx).2⟩
 ·rintro ⟨h1,h2,h3,h4⟩; exact ⟨h1,h2,fun x hx=>⟨(h3 x hx).symm,h4 x hx⟩⟩
def idxI (o:Option Nat):Int:=match o with
 | none=>-1
 | some i=>i
end Go.Proofs.YtnhdalnfboiooaaGreatDoor.Awp
namespace Go.Proofs.YtnhdalnfboiooaaGreatDoor.Awp
def zN:Inode:={ ino:=0,kind:=0,links:=0,data:=[],ents:=[],attrs:=[] }
abbrev Rs (α:Type):=Except Int α
def exC {α:Type}:Rs α→Int
 | .ok _=>0
 | .error c=>c
def exI:Rs Inode→Inode
 | .ok x=>x
 | .error _=>zN
def statF (t:Tab) (s:Bytes):Rs Inode:=if (walk t s).2=0 then (match inoAt t (walk t s).1 with
 | some x=>.ok x
 | none=>.error 2) else .error (walk t s).2
def fileF (t:Tab) (s:Bytes):Rs Inode:=match statF t s with
 | .ok x=>if x.kind=1 then .ok x else .error 3
 | .error c=>.error c
def spotF (t:Tab) (s:Bytes):Rs Inode:=match statF t (parentOf s).1 with
 | .ok D=>if D.kind=2 then .ok D else .error 3
 | .error c=>.error c
def pathB (s:Bytes):Bool:=(splitPath s).2
def subB (s:Bytes):Bool:=(parentOf s).2.2
def nameF (s:Bytes):Bytes:=(parentOf s).2.1
def opUnlink (t:Tab) (s:Bytes):Tab × Int:=if treeB t=true∧subB s=true then (match fileF t s with
 | .ok X=>(unlinkT t (exI (spotF t s)) (nameF s) X,0)
 | .error c=>(t,c)) else (t,1)
theorem putIno_len (l:List Inode) (x:Inode):(putIno l x).length≤l.length+1:=by
 induction l with
 | nil=>simp [putIno]
 | cons y l ih=>
  rw [putIno]
  split
  ·simp
  ·split <;> simp
   omega
theorem putIno_sum (f:Inode→Nat) (l:List Inode) (x:Inode):((putIno l x).map f).sum≤(l.map f).sum+f x:=by
 induction l with
 | nil=>simp [putIno]
 | cons y l ih=>
  rw [putIno]
  split
  ·simp only [List.map_cons,List.sum_cons]; omega
  ·split <;> simp only [List.map_cons,List.sum_cons] <;> omega
theorem tabsz (t:Tab):t.sz=t.inodes.length+(t.inodes.map Inode.sz).sum:=rfl
theorem setIno_sz (t:Tab) (x:Inode):(setIno t x).sz≤t.sz+x.sz+1:=by
 rw [tabsz,tabsz]
 have:=putIno_len t.inodes x
 have:=putIno_sum Inode.sz t.inodes x
 show (putIno t.inodes x).length+((putIno t.inodes x).map Inode.sz).sum≤_
 omega
theorem filter_sum {α:Type} (f:α→Nat) (p:α→Bool) (l:List α):((l.filter p).map f).sum≤(l.map f).sum:=by
 induction l with
 | nil=>simp
 | cons y l ih=>rw [List.filter_cons]; split <;> simp <;> omega
theorem dropIno_sz (t:Tab) (i:Int):(dropIno t i).sz≤t.sz:=by
 rw [tabsz,tabsz]
 have:(t.inodes.filter fun x=>decide (x.ino≠i)).length≤t.inodes.length:=List.length_filter_le _ _
 have:=filter_sum Inode.sz (fun x=>decide (x.ino≠i)) t.inodes
 show (t.inodes.filter fun x=>decide (x.ino≠i)).length+((t.inodes.filter fun x=>decide (x.ino≠i)).map Inode.sz).sum≤_
 omega
theorem stat_ok {t:Tab} {s:Bytes} {x:Inode} (h:statF t s=.ok x):walk t s=(x.ino,0)∧inoAt t x.ino=some x:=by
 unfold statF at h
 split at h
 ·rename_i e
  cases hx:inoAt t (walk t s).1 with
  | none=>rw [hx] at h; cases h
  | some y=>
   rw [hx] at h
   cases h
   have:=(inoAt_some hx).2
   rw [this]
   exact ⟨by rw [← e],hx⟩
 ·cases h
theorem file_ok {t:Tab} {s:Bytes} {x:Inode} (h:fileF t s=.ok x):statF t s=.ok x∧x.kind=1:=by
 unfold fileF at h
 split at h
 ·split at h
  ·cases h; rename_i e k; exact ⟨e,k⟩
  ·cases h
 ·cases h
theorem spot_ok {t:Tab} {s:Bytes} {x:Inode} (h:spotF t s=.ok x):statF t (parentOf s).1=.ok x∧x.kind=2:=by
 unfold spotF at h
 split at h
 ·split at h
  ·cases h; rename_i e k; exact ⟨e,k⟩
  ·cases h
 ·cases h
theorem sub_split {s:Bytes} (h:subB s=true):(splitPath s).2=true∧(splitPath s).1≠[]:=(parent_ok s).1 h
theorem sub_name {s:Bytes} (h:subB s=true):(splitPath s).1=(splitPath (parentOf s).1).1++[nameF s]∧(splitPath (parentOf s).1).2=true∧nameOk (nameF s)=true:=by
 obtain ⟨h1,h2⟩:=sub_split h
 obtain ⟨e1,e2⟩:=parent_at h1 h2
 have e3:(parentOf s).1=joinPath (splitPath s).1.dropLast:=by rw [e1]
 have e4:nameF s=(splitPath s).1.getLastD []:=by rw [nameF,e1]
 rw [e3,e2,e4]
 have e5:(splitPath s).1.getLastD []=(splitPath s).1.getLast h2:=by rw [List.getLastD_eq_getLast?,List.getLast?_eq_some_getLast h2]; rfl
 refine ⟨by rw [e5,List.dropLast_concat_getLast],rfl,?_⟩
 rw [e5]
 exact (names_all (split_ok h1).1).2 _ (List.getLast_mem h2)
theorem walk_M {t:Tab} {s:Bytes} (h:(splitPath s).2=true) {i:Int}:walk t s=(i,0)↔walkM (inoAt t) (splitPath s).1 1=some i:=by
 rw [walk,if_pos h]; exact walkC_M t _ 1 i
theorem walk_path {t:Tab} {s:Bytes} (h:(walk t s).2=0):(splitPath s).2=true:=by
 unfold walk at h
 split at h
 ·assumption
 ·cases h
theorem stat_walk {t:Tab} {s:Bytes} {x:Inode} (h:statF t s=.ok x):(splitPath s).2=true∧walkM (inoAt t) (splitPath s).1 1=some x.ino:=by
 have h1:=(stat_ok h).1
 have h2:=walk_path (by rw [h1])
 exact ⟨h2,(walk_M h2).1 h1⟩
theorem stat_up {t:Tab} (ht:TreeOk t) {s:Bytes} (hs:subB s=true) {X:Inode} (h:statF t s=.ok X):∃ D,spotF t s=.ok D∧entOf D (nameF s)=X.ino∧∃ e ∈ D.ents,e.name=nameF s∧e.ino=X.ino:=by
 obtain ⟨h1,h2⟩:=stat_walk h
 obtain ⟨e1,e2,e3⟩:=sub_name hs
 rw [e1,walkM_append] at h2
 cases hw:walkM (inoAt t) (splitPath (parentOf s).1).1 1 with
 | none=>rw [hw] at h2; cases h2
 | some j=>
  rw [hw] at h2
  obtain ⟨D,d1,d2,d3,d4⟩:=(walkM_one _ _ _ _).1 h2
  obtain ⟨_,d5⟩:=inoAt_some d1
  have hst:statF t (parentOf s).1=.ok D:=by
   rw [statF,(walk_M e2).2 hw,if_pos rfl,d1]
  refine ⟨D,by rw [spotF,hst]; simp only [d2,if_pos],d3,?_⟩
  obtain ⟨e,he,f1,f2⟩:=ent_mem (x:=D) (n:=nameF s) (by rw [d3]; exact d4)
  exact ⟨e,he,f1,by rw [f2,d3]⟩
end Go.Proofs.YtnhdalnfboiooaaGreatDoor.Awp
namespace Go.Proofs.YtnhdalnfboiooaaGreatDoor.Awp
variable {t:Tab}
theorem stat_mem {s:Bytes} {X:Inode} (h:statF t s=.ok X):X ∈ t.inodes∧inoAt t X.ino=some X:=⟨(inoAt_some (stat_ok h).2).1,(stat_ok h).2⟩
theorem spot_mem {s:Bytes} {D:Inode} (h:spotF t s=.ok D):D ∈ t.inodes:=(stat_mem (spot_ok h).1).1
theorem sub_root (ht:TreeOk t) {s:Bytes} (hs:subB s=true) {X:Inode} (h:statF t s=.ok X):X.ino≠1:=by
 intro e
 obtain ⟨D,h1,h2,⟨x,hx,h3,h4⟩⟩:=stat_up ht hs h
 have:=((ents_ok ht (spot_mem h1)).ok x hx).2.1
 omega
end Go.Proofs.YtnhdalnfboiooaaGreatDoor.Awp
namespace Go.Proofs.YtnhdalnfboiooaaGreatDoor.Awp
theorem split_cut {s:Bytes} {m:Nat} (h:m<s.length) (h1:s[m]=47) (h2:∀ k,k<m→(hk:k<s.length)→s[k]≠47):splitS s=s.take m::splitS (s.drop (m+1)):=by
 have e:s=s.take m++47::s.drop (m+1):=by
  rw [← h1,← List.drop_eq_getElem_cons h,List.take_append_drop]
 have h3:∀ c ∈ s.take m,c≠47:=by
  intro c hc
  obtain ⟨k,hk,rfl⟩:=List.getElem_of_mem hc
  rw [List.getElem_take]
  exact h2 k (by simp at hk; omega) _
 have:=splitS_name (s.take m) (s.drop (m+1)) h3
 rwa [← e] at this
theorem split_whole {s:Bytes} (h:∀ k,(hk:k<s.length)→s[k]≠47):splitS s=[s]:=splitS_last s fun c hc=>by
 obtain ⟨k,hk,rfl⟩:=List.getElem_of_mem hc
 exact h k hk
theorem split_len (s:Bytes):(splitS s).length=s.count 47+1:=by
 induction s with
 | nil=>rfl
 | cons c s ih=>
  by_cases hc:c=47
  ·rw [splitS,if_pos hc,List.length_cons,ih,hc,List.count_cons_self]
  ·obtain ⟨a,t,e1,e2⟩:=splitS_cons c s hc
   rw [e2,List.count_cons_of_ne hc,← ih,e1]; rfl
theorem count_cut {s:Bytes} {m:Nat} (h:m<s.length) (h1:s[m]=47) (h2:∀ k,k<m→(hk:k<s.length)→s[k]≠47):s.count 47=(s.drop (m+1)).count 47+1:=by
 have:=split_len s
 rw [split_cut h h1 h2,List.length_cons,split_len] at this
 omega
theorem split_head {s:Bytes} (h:s.head?≠some 47):splitPath s=([],false):=by
 have hs:s≠[47]:=fun e=>h (by rw [e]; rfl)
 rw [splitPath,if_neg hs]
 cases s with
 | nil=>rfl
 | cons c s=>
  have hc:c≠47:=fun e=>h (by rw [e]; rfl)
  obtain ⟨a,t,e1,e2⟩:=splitS_cons c s hc
  rw [e2]; rfl
theorem split_bad {s:Bytes} {l:List Bytes} (h:splitS s=[]::l) (hb:namesOk l=false) (hs:s≠[47]):splitPath s=([],false):=by
 rw [splitPath,if_neg hs,h]
 cases l with
 | nil=>rfl
 | cons n l=>simp only [rest1,hb]; rfl
theorem split_good {s:Bytes} {l:List Bytes} (h:splitS s=[]::l) (hl:l≠[]) (hb:namesOk l=true) (hs:s≠[47]):splitPath s=(l,true):=by
 rw [splitPath,if_neg hs,h]
 cases l with
 | nil=>exact absurd rfl hl
 | cons n l=>simp only [rest1,hb]; rfl
theorem names_bad {l:List Bytes} {n:Bytes} (h:n ∈ l) (hn:nameOk n=false):namesOk l=false:=by
 have:l.all nameOk=false:=by rw [List.all_eq_false]; exact ⟨n,h,by simp [hn]⟩
 simp [namesOk,this]
theorem names_long {l:List Bytes} (h:30<l.length):namesOk l=false:=by rw [namesOk,decide_eq_false (by omega),Bool.false_and]
structure Cut (s:Bytes) (i j:Nat) (out:List Bytes):Prop where
 le:j≤i
 end':i≤s.length+1
 no:∀ k,j≤k→k<i→(h:k<s.length)→s[k]≠47
 len:out.length≤30
 ok:∀ n ∈ out,nameOk n=true
 z:i=0→out=[]
 cut:s.head?=some 47→(i=0∧j=0∧out=[])∨(0<i∧splitS s=[]::(out++if i≤s.length then splitS (s.drop j) else []))
theorem Cut.zero (s:Bytes):Cut s 0 0 []:=⟨Nat.le_refl _,Nat.zero_le _,fun _ _ h=>absurd h (Nat.not_lt_zero _),Nat.zero_le _,by simp,fun _=>rfl,fun _=>.inl ⟨rfl,rfl,rfl⟩⟩
theorem Cut.skip {s:Bytes} {i j:Nat} {out:List Bytes} (h:Cut s i j out) (hi:i<s.length) (hc:s[i]≠47):Cut s (i+1) j out:=by
 obtain ⟨a1,a2,a3,a4,a5,_,a6⟩:=h
 refine ⟨by omega,by omega,fun k h1 h2 h3=>?_,a4,a5,fun h=>absurd h (Nat.succ_ne_zero _),fun h0=>?_⟩
 ·by_cases e:k=i
  ·subst e; exact hc
  ·exact a3 k h1 (by omega) h3
 ·rcases a6 h0 with ⟨e1,e2,e3⟩ | ⟨e1,e2⟩
  ·subst e1
   exfalso
   rw [List.head?_eq_getElem?,List.getElem?_eq_getElem hi] at h0
   exact hc (Option.some.inj h0)
  ·refine .inr ⟨by omega,?_⟩
   rw [if_pos (by omega)] at e2
   rw [if_pos (by omega)]
   exact e2
theorem Cut.first {s:Bytes} (h:s.length=0∨∃ h:0<s.length,s[0]=47):Cut s 1 1 []:=by
 refine ⟨Nat.le_refl _,by omega,fun k h1 h2=>by omega,Nat.zero_le _,by simp,fun h=>rfl,fun h0=>.inr ⟨by omega,?_⟩⟩
 cases s with
 | nil=>cases h0
 | cons c s=>
  injection h0 with h0
  subst h0
  rw [splitS,if_pos rfl,if_pos (by simp)]
  rfl
theorem Cut.name {s:Bytes} {i j:Nat} {out:List Bytes} (h:Cut s i j out) (h0:0<i) (hi:i≤s.length) (hc:i=s.length∨∃ h:i<s.length,s[i]=47) (hh:s.head?=some 47) :
  splitS s=[]::(out++(s.drop j).take (i-j)::if i+1≤s.length then splitS (s.drop (i+1)) else []):=by
 obtain ⟨a1,a2,a3,a4,a5,_,a6⟩:=h
 rcases a6 hh with ⟨e1,_⟩ | ⟨_,e2⟩
 ·omega
 ·rw [if_pos hi] at e2
  rw [e2]
  congr 2
  have no:∀ k,k<i-j→(hk:k<(s.drop j).length)→(s.drop j)[k]≠47:=fun k h1 h2=>by
   rw [List.getElem_drop]
   exact a3 _ (by omega) (by omega) _
  rcases hc with rfl | ⟨hc,hx⟩
  ·rw [if_neg (by omega),split_whole (fun k hk=>no k (by simpa using hk) hk),List.take_of_length_le (by simp)]
  ·rw [if_pos (by omega),split_cut (m:=i-j) (by simp; omega) (by rw [List.getElem_drop]; simpa [show j+(i-j)=i by omega] using hx) no,List.drop_drop,show j+(i-j+1)=i+1 by omega]
theorem Cut.next {s:Bytes} {i j:Nat} {out:List Bytes} (h:Cut s i j out) (h0:0<i) (hi:i≤s.length) (hc:i=s.length∨∃ h:i<s.length,s[i]=47) (hn:nameOk ((s.drop j).take (i-j))=true) (hl:out.length<30) :
  Cut s (i+1) (i+1) (out++[(s.drop j).take (i-j)]):=by
 refine ⟨Nat.le_refl _,by omega,fun k h1 h2=>by omega,by simp; omega,fun n hm=>?_,fun h=>absurd h (Nat.succ_ne_zero _),fun hh=>.inr ⟨by omega,?_⟩⟩
 ·rcases List.mem_append.1 hm with hm | hm
  ·exact h.ok n hm
  ·simp at hm; subst hm; exact hn
 ·rw [h.name h0 hi hc hh,List.append_assoc]; rfl
theorem Cut.bad {s:Bytes} {i j:Nat} {out:List Bytes} (h:Cut s i j out) (h0:0<i) (hi:i≤s.length) (hc:i=s.length∨∃ h:i<s.length,s[i]=47) (hn:nameOk ((s.drop j).take (i-j))=false∨out.length=30) (hs:s≠[47]) :
  splitPath s=([],false):=by
 by_cases hh:s.head?=some 47
 ·refine split_bad (h.name h0 hi hc hh) ?_ hs
  rcases hn with hn | hn
  ·exact names_bad (by simp) hn
  ·exact names_long (by simp; omega)
 ·exact split_head hh
theorem Cut.done {s:Bytes} {j:Nat} {out:List Bytes} (h:Cut s (s.length+1) j out) (hh:s.head?=some 47) (hs:s≠[47]):splitPath s=(out,true):=by
 obtain ⟨a1,a2,a3,a4,a5,_,a6⟩:=h
 rcases a6 hh with ⟨e1,_⟩ | ⟨_,e2⟩
 ·omega
 ·rw [if_neg (by omega),List.append_nil] at e2
  refine split_good e2 (fun e=>?_) (namesOk_of a4 a5) hs
  rw [e] at e2
  cases s with
  | nil=>cases hh
  | cons c s=>
   injection hh with hh
   subst hh
   rw [splitS,if_pos rfl] at e2
   injection e2 with _ e2
   exact splitS_ne _ e2
theorem joinP_cons (n:Bytes) (l:List Bytes):joinS (n::l)=47::(n++joinS l):=by simp [joinS]
theorem joinS_snoc (l:List Bytes) (n:Bytes):joinS (l++[n])=joinS l++47::n:=by simp [joinS]
theorem joinS_len {l:List Bytes} (h:namesOk l=true):(joinS l).length≤450:=by
 obtain ⟨h1,h2⟩:=names_all h
 have:=sum_le_mul (fun n:Bytes=>n.length+1) l 15 fun n hn=>by have:=(name_pos (h2 n hn)).2; omega
 have e:(joinS l).length=(l.map fun n:Bytes=>n.length+1).sum:=by rw [joinS,List.length_flatMap]; rfl
 rw [e]
 have:l.length*15≤30*15:=Nat.mul_le_mul_right _ h1
 omega
end Go.Proofs.YtnhdalnfboiooaaGreatDoor.Awp
namespace Go.Proofs.YtnhdalnfboiooaaGreatDoor.Awp
open Go.Proofs
set_option linter.unusedSimpArgs false
set_option linter.unusedVariables false
open Nat (reduceEqDiff reduceAdd reduceMul reduceSub)
open Int (reduceNeg reduceToNat reducePow)
set_option maxRecDepth 100000
set_option maxHeartbeats 20000000
theorem s_eqByteS (a b:Bytes) (hl:a.length<2^40):Spec Tryz.prog 131 [.ext 1 (bytesR a),.ext 1 (bytesR b)] (.bool (decide (a=b))) [.undef,.undef]:=by
 refine spec_c hmx p_L_eqByteS [] 51 [] ⟨Nat.le_of_ble_eq_true rfl,Nat.le_of_ble_eq_true rfl⟩ rfl rfl ?_
 intro w hP hQ
 unfold c_L_eqByteS
 simp +decide (maxSteps:=9^9) (disch:=omega) only[↓SB0,SX,seval,hQ]
 (first | with_reducible refine if_d _ ?_ ?_ | refine if_i _ ?_ ?_) <;> intro h
 ·simp +decide (maxSteps:=9^9) (disch:=omega) only[↓SB0,SX,seval,hQ]
  refine loop_f (fun i:Nat=>[(5,.int .i64 i)]) (fun i=>i≤a.length∧a.take i=b.take i) (fun i=>a.length-i) (0) hP hQ (rfl) (by simp) ?_
  rintro i ⟨hi,hab⟩ w1 hP1 hQ1
  simp +decide (maxSteps:=9^9) (disch:=omega) only[↓SB0,SX,seval,hQ,hQ1]
  (first | with_reducible refine if_d _ ?_ ?_ | refine if_i _ ?_ ?_) <;> intro h1
  ·simp +decide (maxSteps:=9^9) (disch:=omega) only[↓SB0,SX,seval,hQ,hQ1,getE h1,getE (h ▸ h1)]
   (first | with_reducible refine if_d _ ?_ ?_ | refine if_i _ ?_ ?_) <;> intro h2
   ·simp +decide (maxSteps:=9^9) (disch:=omega) only[↓SB0,SX,seval,hQ,hQ1]
    exact ⟨i+1,rfl,⟨by omega,take_eq_succ hab _ _ (UInt8.toNat_inj.1 (by omega))⟩,by omega⟩
   ·simp +decide (maxSteps:=9^9) (disch:=omega) only[↓SB0,SX,seval,hQ,hQ1]
    rw [decide_eq_false]
    rintro rfl; exact h2 rfl
  ·simp +decide (maxSteps:=9^9) (disch:=omega) only[↓SB0,SX,seval,hQ,hQ1]
   rw [decide_eq_true (take_all hab (by omega) (by omega))]
 ·simp +decide (maxSteps:=9^9) (disch:=omega) only[↓SB0,SX,seval,hQ,hQ]
  rw [decide_eq_false]
  rintro rfl; exact h rfl
theorem s_szByteS (a:Bytes) (left:Int) (hl:a.length<2^48) (h0:0≤left) (h1:left<2^40) :
  Spec Tryz.prog 117 [.ext 1 (bytesR a),.int .i64 left] (.int .i64 (szC left a.length)) [.undef,.undef]:=by
 refine spec_c hmx p_L_szByteS [] 19 [] ⟨Nat.le_of_ble_eq_true rfl,Nat.le_of_ble_eq_true rfl⟩ rfl rfl ?_
 intro w hP hQ
 unfold c_L_szByteS
 simp +decide (maxSteps:=9^9) (disch:=omega) only[↓SB0,SX,seval,hQ]
 (first | with_reducible refine if_d _ ?_ ?_ | refine if_i _ ?_ ?_) <;> intro h
 ·simp +decide (maxSteps:=9^9) (disch:=omega) only[↓SB0,SX,seval,hQ]
  rw [szC_lt (by omega)]
 ·simp +decide (maxSteps:=9^9) (disch:=omega) only[↓SB0,SX,seval,hQ]
  rw [szC_ge (by omega)]
theorem s_toByteS (a:Bytes) (hl:a.length<2^40):Spec Tryz.prog 127 [.ext 1 (bytesR a)] (.own 1 (bytesR a)) [.undef]:=by
 refine spec_c hmx p_L_toByteS [] 29 [] ⟨Nat.le_of_ble_eq_true rfl,Nat.le_of_ble_eq_true rfl⟩ rfl rfl ?_
 intro w hP hQ
 unfold c_L_toByteS
 simp +decide (maxSteps:=9^9) (disch:=omega) only[↓SB0,SX,seval,hQ]
 refine loop_f (fun i:Nat=>[(3,.own 1 (fillR byteRow [.int .u8 0] a i)),(4,.int .i64 i)]) (fun i=>i≤a.length) (fun i=>a.length-i) (0) hP hQ (by simp +decide (maxSteps:=9^9) (disch:=omega) only[↓SB0,SX,seval,hQ,fillR_0]) (by omega) ?_
 rintro i hi w1 hP1 hQ1
 simp +decide (maxSteps:=9^9) (disch:=omega) only[↓SB0,SX,seval,hQ,hQ1]
 (first | with_reducible refine if_d _ ?_ ?_ | refine if_i _ ?_ ?_) <;> intro h1
 ·simp +decide (maxSteps:=9^9) (disch:=omega) only[↓SB0,SX,seval,hQ,hQ1,getE h1]
  rw [fillR_set _ _ _ _ (by omega) _ (by rfl)]
  exact ⟨i+1,rfl,by omega,by omega⟩
 ·simp +decide (maxSteps:=9^9) (disch:=omega) only[↓SB0,SX,seval,hQ,hQ1,fillR_all,bytesR_row]
theorem s_markByteS (a:Bytes) (k:Int) (h0:0≤k) (hl:k+a.length<2^40):Spec Tryz.prog 133 [.own 1 (bytesR a),.int .i64 k] (.int .i64 (k+a.length)) [.own 1 (bytesR (markBy a k)),.undef]:=by
 refine spec_c hmx p_L_markByteS [] 51 [true,false] ⟨Nat.le_of_ble_eq_true rfl,Nat.le_of_ble_eq_true rfl⟩ rfl rfl ?_
 intro w hP hQ
 unfold c_L_markByteS
 simp +decide (maxSteps:=9^9) (disch:=omega) only[↓SB0,SX,seval,hQ]
 refine loop_f (fun i:Nat=>[(1000,.own 1 (mixR byteRow (fun _ k=>UInt8.ofInt k) (fun _=>1) a k i)),(1,.int .i64 (k+i)),(5,.int .i64 i)]) (fun i=>i≤a.length) (fun i=>a.length-i) (0) hP hQ (by simp +decide (maxSteps:=9^9) (disch:=omega) only[↓SB0,SX,seval,hQ,mixR_0,← bytesR_row]) (by omega) ?_
 rintro i hi w1 hP1 hQ1
 simp +decide (maxSteps:=9^9) (disch:=omega) only[↓SB0,SX,seval,hQ,hQ1]
 (first | with_reducible refine if_d _ ?_ ?_ | refine if_i _ ?_ ?_) <;> intro h1
 ·simp +decide (maxSteps:=9^9) (disch:=omega) only[↓SB0,SX,seval,hQ,hQ1]
  rw [mixR_set _ _ _ _ _ _ (by omega) _ (by simp only [sum_one,List.length_take,Nat.min_eq_left hi,wrap_ofInt]; rfl)]
  exact ⟨i+1,by simp [Int.add_assoc],by omega,by omega⟩
 ·obtain rfl:i=a.length:=by omega
  simp +decide (maxSteps:=9^9) (disch:=omega) only[↓SB0,SX,seval,hQ,hQ1,markBy_row]
theorem s_heldByteS (a:Bytes) (k:Int) (h0:0≤k) (hl:k+a.length<2^40):Spec Tryz.prog 203 [.ext 1 (bytesR (markBy a k)),.int .i64 k] (.int .i64 (k+a.length)) [.undef,.undef]:=by
 refine spec_c hmx p_L_heldByteS [] 51 [] ⟨Nat.le_of_ble_eq_true rfl,Nat.le_of_ble_eq_true rfl⟩ rfl rfl ?_
 intro w hP hQ
 unfold c_L_heldByteS
 simp +decide (maxSteps:=9^9) (disch:=omega) only[↓SB0,SX,seval,hQ]
 refine loop_f (fun i:Nat=>[(1,.int .i64 (k+i)),(5,.int .i64 i)]) (fun i=>i≤a.length) (fun i=>a.length-i) (0) hP hQ (by simp +decide (maxSteps:=9^9) (disch:=omega) only[↓SB0,SX,seval,hQ]) (by omega) ?_
 rintro i hi w1 hP1 hQ1
 simp +decide (maxSteps:=9^9) (disch:=omega) only[↓SB0,SX,seval,hQ,hQ1]
 (first | with_reducible refine if_d _ ?_ ?_ | refine if_i _ ?_ ?_) <;> intro h1
 ·simp +decide (maxSteps:=9^9) (disch:=omega) only[↓SB0,SX,seval,hQ,hQ1,getE h1,wrap_ofInt]
  exact ⟨i+1,by simp [Int.add_assoc],by omega,by omega⟩
 ·obtain rfl:i=a.length:=by omega
  simp +decide (maxSteps:=9^9) (disch:=omega) only[↓SB0,SX,seval,hQ,hQ1]
end Go.Proofs.YtnhdalnfboiooaaGreatDoor.Awp
namespace Go.Proofs.YtnhdalnfboiooaaGreatDoor.Awp
open Go.Proofs
set_option linter.unusedSimpArgs false
set_option linter.unusedVariables false
open Nat (reduceEqDiff reduceAdd reduceMul reduceSub)
open Int (reduceNeg reduceToNat reducePow)
set_option maxRecDepth 100000
set_option maxHeartbeats 20000000
theorem s_eqEnt (a b:Ent) (hl:a.sz<2^40):Spec Tryz.prog 306 [a.x,b.x] (.bool (decide (a=b))) [.undef,.undef]:=by
 simp only [Ent.sz] at hl
 refine spec_c hmx p_L_eqEnt [] 31 [] ⟨Nat.le_of_ble_eq_true rfl,Nat.le_of_ble_eq_true rfl⟩ rfl rfl ?_
 intro w hP hQ
 unfold c_L_eqEnt
 simp +decide (maxSteps:=9^9) (disch:=omega) only[↓SB0,SX,seval,hQ]
 (first | with_reducible refine if_d _ ?_ ?_ | refine if_i _ ?_ ?_) <;> intro h0
 rotate_left
 ·simp +decide (maxSteps:=9^9) (disch:=omega) only[↓SB0,SX,seval,hQ]
  rw [decide_eq_false (by rintro rfl; exact h0 rfl)]
 simp +decide (maxSteps:=9^9) (disch:=omega) only[↓SB0,SX,seval,hQ]
 (first | with_reducible refine if_d _ ?_ ?_ | refine if_i _ ?_ ?_) <;> intro h1
 rotate_left
 ·simp +decide (maxSteps:=9^9) (disch:=omega) only[↓SB0,SX,seval,hQ]
  rw [decide_eq_false (by rintro rfl; exact h1 rfl)]
 simp +decide (maxSteps:=9^9) (disch:=omega) only[↓SB0,SX,seval,hQ]
 rw [decide_eq_true (Ent.eq' h0 h1)]
theorem s_eqEntS (a b:List Ent) (hl:szM Ent.sz a<2^40):Spec Tryz.prog 260 [.ext 2 (a.map Ent.row),.ext 2 (b.map Ent.row)] (.bool (decide (a=b))) [.undef,.undef]:=by
 simp only [szM] at hl
 refine spec_c hmx p_L_eqEntS [] 51 [] ⟨Nat.le_of_ble_eq_true rfl,Nat.le_of_ble_eq_true rfl⟩ rfl rfl ?_
 intro w hP hQ
 unfold c_L_eqEntS
 simp +decide (maxSteps:=9^9) (disch:=omega) only[↓SB0,SX,seval,hQ]
 (first | with_reducible refine if_d _ ?_ ?_ | refine if_i _ ?_ ?_) <;> intro h
 rotate_left
 ·simp +decide (maxSteps:=9^9) (disch:=omega) only[↓SB0,SX,seval,hQ]
  rw [decide_eq_false (by rintro rfl; exact h rfl)]
 simp +decide (maxSteps:=9^9) (disch:=omega) only[↓SB0,SX,seval,hQ]
 refine loop_f (fun i:Nat=>[(5,.int .i64 i)]) (fun i=>i≤a.length∧a.take i=b.take i) (fun i=>a.length-i) (0) hP hQ (rfl) (by simp) ?_
 rintro i ⟨hi,hab⟩ w1 hP1 hQ1
 simp +decide (maxSteps:=9^9) (disch:=omega) only[↓SB0,SX,seval,hQ,hQ1]
 (first | with_reducible refine if_d _ ?_ ?_ | refine if_i _ ?_ ?_) <;> intro h1
 ·simp +decide (maxSteps:=9^9) (disch:=omega) only[↓SB0,SX,seval,hQ,hQ1,getE h1,getE (h ▸ h1)]
  (first|refine cI hP1 (s_eqEnt (a[i]'(by omega)) (b[i]'(by omega)) (Nat.lt_of_le_of_lt (sum_get Ent.sz _) (by omega))) rfl rfl ?_|refine cH hP1 (s_eqEnt (a[i]'(by omega)) (b[i]'(by omega)) (Nat.lt_of_le_of_lt (sum_get Ent.sz _) (by omega))) rfl rfl ?_)
  simp +decide (maxSteps:=9^9) (disch:=omega) only[↓SB0,SX,seval,hQ,hQ1]
  (first | with_reducible refine if_d _ ?_ ?_ | refine if_i _ ?_ ?_) <;> intro h2
  ·simp +decide (maxSteps:=9^9) (disch:=omega) only[↓SB0,SX,seval,hQ,hQ1]
   exact ⟨i+1,rfl,⟨by omega,take_eq_succ hab _ _ h2⟩,by omega⟩
  ·simp +decide (maxSteps:=9^9) (disch:=omega) only[↓SB0,SX,seval,hQ,hQ1]
   rw [decide_eq_false (by rintro rfl; exact h2 rfl)]
 ·simp +decide (maxSteps:=9^9) (disch:=omega) only[↓SB0,SX,seval,hQ,hQ1]
  rw [decide_eq_true (take_all hab (by omega) (by omega))]
theorem s_eqAttr (a b:Attr) (hl:a.sz<2^40):Spec Tryz.prog 307 [a.x,b.x] (.bool (decide (a=b))) [.undef,.undef]:=by
 simp only [Attr.sz] at hl
 refine spec_c hmx p_L_eqAttr [] 31 [] ⟨Nat.le_of_ble_eq_true rfl,Nat.le_of_ble_eq_true rfl⟩ rfl rfl ?_
 intro w hP hQ
 unfold c_L_eqAttr
 simp +decide (maxSteps:=9^9) (disch:=omega) only[↓SB0,SX,seval,hQ]
 (first | with_reducible refine if_d _ ?_ ?_ | refine if_i _ ?_ ?_) <;> intro h0
 rotate_left
 ·simp +decide (maxSteps:=9^9) (disch:=omega) only[↓SB0,SX,seval,hQ]
  rw [decide_eq_false (by rintro rfl; exact h0 rfl)]
 simp +decide (maxSteps:=9^9) (disch:=omega) only[↓SB0,SX,seval,hQ]
 (first | with_reducible refine if_d _ ?_ ?_ | refine if_i _ ?_ ?_) <;> intro h1
 rotate_left
 ·simp +decide (maxSteps:=9^9) (disch:=omega) only[↓SB0,SX,seval,hQ]
  rw [decide_eq_false (by rintro rfl; exact h1 rfl)]
 simp +decide (maxSteps:=9^9) (disch:=omega) only[↓SB0,SX,seval,hQ]
 rw [decide_eq_true (Attr.eq' h0 h1)]
theorem s_eqAttrS (a b:List Attr) (hl:szM Attr.sz a<2^40):Spec Tryz.prog 261 [.ext 2 (a.map Attr.row),.ext 2 (b.map Attr.row)] (.bool (decide (a=b))) [.undef,.undef]:=by
 simp only [szM] at hl
 refine spec_c hmx p_L_eqAttrS [] 51 [] ⟨Nat.le_of_ble_eq_true rfl,Nat.le_of_ble_eq_true rfl⟩ rfl rfl ?_
 intro w hP hQ
 unfold c_L_eqAttrS
 simp +decide (maxSteps:=9^9) (disch:=omega) only[↓SB0,SX,seval,hQ]
 (first | with_reducible refine if_d _ ?_ ?_ | refine if_i _ ?_ ?_) <;> intro h
 rotate_left
 ·simp +decide (maxSteps:=9^9) (disch:=omega) only[↓SB0,SX,seval,hQ]
  rw [decide_eq_false (by rintro rfl; exact h rfl)]
 simp +decide (maxSteps:=9^9) (disch:=omega) only[↓SB0,SX,seval,hQ]
 refine loop_f (fun i:Nat=>[(5,.int .i64 i)]) (fun i=>i≤a.length∧a.take i=b.take i) (fun i=>a.length-i) (0) hP hQ (rfl) (by simp) ?_
 rintro i ⟨hi,hab⟩ w1 hP1 hQ1
 simp +decide (maxSteps:=9^9) (disch:=omega) only[↓SB0,SX,seval,hQ,hQ1]
 (first | with_reducible refine if_d _ ?_ ?_ | refine if_i _ ?_ ?_) <;> intro h1
 ·simp +decide (maxSteps:=9^9) (disch:=omega) only[↓SB0,SX,seval,hQ,hQ1,getE h1,getE (h ▸ h1)]
  (first|refine cI hP1 (s_eqAttr (a[i]'(by omega)) (b[i]'(by omega)) (Nat.lt_of_le_of_lt (sum_get Attr.sz _) (by omega))) rfl rfl ?_|refine cH hP1 (s_eqAttr (a[i]'(by omega)) (b[i]'(by omega)) (Nat.lt_of_le_of_lt (sum_get Attr.sz _) (by omega))) rfl rfl ?_)
  simp +decide (maxSteps:=9^9) (disch:=omega) only[↓SB0,SX,seval,hQ,hQ1]
  (first | with_reducible refine if_d _ ?_ ?_ | refine if_i _ ?_ ?_) <;> intro h2
  ·simp +decide (maxSteps:=9^9) (disch:=omega) only[↓SB0,SX,seval,hQ,hQ1]
   exact ⟨i+1,rfl,⟨by omega,take_eq_succ hab _ _ h2⟩,by omega⟩
  ·simp +decide (maxSteps:=9^9) (disch:=omega) only[↓SB0,SX,seval,hQ,hQ1]
   rw [decide_eq_false (by rintro rfl; exact h2 rfl)]
 ·simp +decide (maxSteps:=9^9) (disch:=omega) only[↓SB0,SX,seval,hQ,hQ1]
  rw [decide_eq_true (take_all hab (by omega) (by omega))]
theorem s_eqInode (a b:Inode) (hl:a.sz<2^40):Spec Tryz.prog 200 [a.x,b.x] (.bool (decide (a=b))) [.undef,.undef]:=by
 simp only [Inode.sz] at hl
 refine spec_c hmx p_L_eqInode [] 31 [] ⟨Nat.le_of_ble_eq_true rfl,Nat.le_of_ble_eq_true rfl⟩ rfl rfl ?_
 intro w hP hQ
 unfold c_L_eqInode
 simp +decide (maxSteps:=9^9) (disch:=omega) only[↓SB0,SX,seval,hQ]
 (first | with_reducible refine if_d _ ?_ ?_ | refine if_i _ ?_ ?_) <;> intro h0
 rotate_left
 ·simp +decide (maxSteps:=9^9) (disch:=omega) only[↓SB0,SX,seval,hQ]
  rw [decide_eq_false (by rintro rfl; exact h0 rfl)]
 simp +decide (maxSteps:=9^9) (disch:=omega) only[↓SB0,SX,seval,hQ]
 (first | with_reducible refine if_d _ ?_ ?_ | refine if_i _ ?_ ?_) <;> intro h1
 rotate_left
 ·simp +decide (maxSteps:=9^9) (disch:=omega) only[↓SB0,SX,seval,hQ]
  rw [decide_eq_false (by rintro rfl; exact h1 rfl)]
 simp +decide (maxSteps:=9^9) (disch:=omega) only[↓SB0,SX,seval,hQ]
 (first | with_reducible refine if_d _ ?_ ?_ | refine if_i _ ?_ ?_) <;> intro h2
 rotate_left
 ·simp +decide (maxSteps:=9^9) (disch:=omega) only[↓SB0,SX,seval,hQ]
  rw [decide_eq_false (by rintro rfl; exact h2 rfl)]
 simp +decide (maxSteps:=9^9) (disch:=omega) only[↓SB0,SX,seval,hQ]
 (first|refine cI hP (s_eqByteS a.data b.data (by omega)) rfl rfl ?_|refine cH hP (s_eqByteS a.data b.data (by omega)) rfl rfl ?_)
 simp +decide (maxSteps:=9^9) (disch:=omega) only[↓SB0,SX,seval,hQ]
 (first | with_reducible refine if_d _ ?_ ?_ | refine if_i _ ?_ ?_) <;> intro h3
 rotate_left
 ·simp +decide (maxSteps:=9^9) (disch:=omega) only[↓SB0,SX,seval,hQ]
  rw [decide_eq_false (by rintro rfl; exact h3 rfl)]
 simp +decide (maxSteps:=9^9) (disch:=omega) only[↓SB0,SX,seval,hQ]
 (first|refine cI hP (s_eqEntS a.ents b.ents (by omega)) rfl rfl ?_|refine cH hP (s_eqEntS a.ents b.ents (by omega)) rfl rfl ?_)
 simp +decide (maxSteps:=9^9) (disch:=omega) only[↓SB0,SX,seval,hQ]
 (first | with_reducible refine if_d _ ?_ ?_ | refine if_i _ ?_ ?_) <;> intro h4
 rotate_left
 ·simp +decide (maxSteps:=9^9) (disch:=omega) only[↓SB0,SX,seval,hQ]
  rw [decide_eq_false (by rintro rfl; exact h4 rfl)]
 simp +decide (maxSteps:=9^9) (disch:=omega) only[↓SB0,SX,seval,hQ]
 (first|refine cI hP (s_eqAttrS a.attrs b.attrs (by omega)) rfl rfl ?_|refine cH hP (s_eqAttrS a.attrs b.attrs (by omega)) rfl rfl ?_)
 simp +decide (maxSteps:=9^9) (disch:=omega) only[↓SB0,SX,seval,hQ]
 (first | with_reducible refine if_d _ ?_ ?_ | refine if_i _ ?_ ?_) <;> intro h5
 rotate_left
 ·simp +decide (maxSteps:=9^9) (disch:=omega) only[↓SB0,SX,seval,hQ]
  rw [decide_eq_false (by rintro rfl; exact h5 rfl)]
 simp +decide (maxSteps:=9^9) (disch:=omega) only[↓SB0,SX,seval,hQ]
 rw [decide_eq_true (Inode.eq' h0 h1 h2 h3 h4 h5)]
theorem s_eqInodeS (a b:List Inode) (hl:szM Inode.sz a<2^40):Spec Tryz.prog 104 [.ext 6 (a.map Inode.row),.ext 6 (b.map Inode.row)] (.bool (decide (a=b))) [.undef,.undef]:=by
 simp only [szM] at hl
 refine spec_c hmx p_L_eqInodeS [] 51 [] ⟨Nat.le_of_ble_eq_true rfl,Nat.le_of_ble_eq_true rfl⟩ rfl rfl ?_
 intro w hP hQ
 unfold c_L_eqInodeS
 simp +decide (maxSteps:=9^9) (disch:=omega) only[↓SB0,SX,seval,hQ]
 (first | with_reducible refine if_d _ ?_ ?_ | refine if_i _ ?_ ?_) <;> intro h
 rotate_left
 ·simp +decide (maxSteps:=9^9) (disch:=omega) only[↓SB0,SX,seval,hQ]
  rw [decide_eq_false (by rintro rfl; exact h rfl)]
 simp +decide (maxSteps:=9^9) (disch:=omega) only[↓SB0,SX,seval,hQ]
 refine loop_f (fun i:Nat=>[(5,.int .i64 i)]) (fun i=>i≤a.length∧a.take i=b.take i) (fun i=>a.length-i) (0) hP hQ (rfl) (by simp) ?_
 rintro i ⟨hi,hab⟩ w1 hP1 hQ1
 simp +decide (maxSteps:=9^9) (disch:=omega) only[↓SB0,SX,seval,hQ,hQ1]
 (first | with_reducible refine if_d _ ?_ ?_ | refine if_i _ ?_ ?_) <;> intro h1
 ·simp +decide (maxSteps:=9^9) (disch:=omega) only[↓SB0,SX,seval,hQ,hQ1,getE h1,getE (h ▸ h1)]
  (first|refine cI hP1 (s_eqInode (a[i]'(by omega)) (b[i]'(by omega)) (Nat.lt_of_le_of_lt (sum_get Inode.sz _) (by omega))) rfl rfl ?_|refine cH hP1 (s_eqInode (a[i]'(by omega)) (b[i]'(by omega)) (Nat.lt_of_le_of_lt (sum_get Inode.sz _) (by omega))) rfl rfl ?_)
  simp +decide (maxSteps:=9^9) (disch:=omega) only[↓SB0,SX,seval,hQ,hQ1]
  (first | with_reducible refine if_d _ ?_ ?_ | refine if_i _ ?_ ?_) <;> intro h2
  ·simp +decide (maxSteps:=9^9) (disch:=omega) only[↓SB0,SX,seval,hQ,hQ1]
   exact ⟨i+1,rfl,⟨by omega,take_eq_succ hab _ _ h2⟩,by omega⟩
  ·simp +decide (maxSteps:=9^9) (disch:=omega) only[↓SB0,SX,seval,hQ,hQ1]
   rw [decide_eq_false (by rintro rfl; exact h2 rfl)]
 ·simp +decide (maxSteps:=9^9) (disch:=omega) only[↓SB0,SX,seval,hQ,hQ1]
  rw [decide_eq_true (take_all hab (by omega) (by omega))]
theorem s_eqTab (a b:Tab) (hl:a.sz<2^40):Spec Tryz.prog 23 [a.x,b.x] (.bool (decide (a=b))) [.undef,.undef]:=by
 simp only [Tab.sz] at hl
 refine spec_c hmx p_L_eqTab [] 31 [] ⟨Nat.le_of_ble_eq_true rfl,Nat.le_of_ble_eq_true rfl⟩ rfl rfl ?_
 intro w hP hQ
 unfold c_L_eqTab
 simp +decide (maxSteps:=9^9) (disch:=omega) only[↓SB0,SX,seval,hQ]
 (first|refine cI hP (s_eqInodeS a.inodes b.inodes (by omega)) rfl rfl ?_|refine cH hP (s_eqInodeS a.inodes b.inodes (by omega)) rfl rfl ?_)
 simp +decide (maxSteps:=9^9) (disch:=omega) only[↓SB0,SX,seval,hQ]
 (first | with_reducible refine if_d _ ?_ ?_ | refine if_i _ ?_ ?_) <;> intro h0
 rotate_left
 ·simp +decide (maxSteps:=9^9) (disch:=omega) only[↓SB0,SX,seval,hQ]
  rw [decide_eq_false (by rintro rfl; exact h0 rfl)]
 simp +decide (maxSteps:=9^9) (disch:=omega) only[↓SB0,SX,seval,hQ]
 (first | with_reducible refine if_d _ ?_ ?_ | refine if_i _ ?_ ?_) <;> intro h1
 rotate_left
 ·simp +decide (maxSteps:=9^9) (disch:=omega) only[↓SB0,SX,seval,hQ]
  rw [decide_eq_false (by rintro rfl; exact h1 rfl)]
 simp +decide (maxSteps:=9^9) (disch:=omega) only[↓SB0,SX,seval,hQ]
 rw [decide_eq_true (Tab.eq' h0 h1)]
end Go.Proofs.YtnhdalnfboiooaaGreatDoor.Awp
namespace Go.Proofs.YtnhdalnfboiooaaGreatDoor.Awp
open Go.Proofs
set_option linter.unusedSimpArgs false
set_option linter.unusedVariables false
open Nat (reduceEqDiff reduceAdd reduceMul reduceSub)
open Int (reduceNeg reduceToNat reducePow)
set_option maxRecDepth 100000
set_option maxHeartbeats 20000000
theorem s_toEnt (a:Ent) (hl:a.sz<2^40):Spec Tryz.prog 302 [a.x] a.o [.undef]:=by
 simp only [Ent.sz] at hl
 refine spec_c hmx p_L_toEnt [] 15 [] ⟨Nat.le_of_ble_eq_true rfl,Nat.le_of_ble_eq_true rfl⟩ rfl rfl ?_
 intro w hP hQ
 unfold c_L_toEnt
 simp +decide (maxSteps:=9^9) (disch:=omega) only[↓SB0,SX,seval,hQ]
theorem s_toEntS (a:List Ent) (hl:szM Ent.sz a<2^40):Spec Tryz.prog 254 [.ext 2 (a.map Ent.row)] (.own 2 (a.map Ent.row)) [.undef]:=by
 simp only [szM] at hl
 refine spec_c hmx p_L_toEntS [] 29 [] ⟨Nat.le_of_ble_eq_true rfl,Nat.le_of_ble_eq_true rfl⟩ rfl rfl ?_
 intro w hP hQ
 unfold c_L_toEntS
 simp +decide (maxSteps:=9^9) (disch:=omega) only[↓SB0,SX,seval,hQ]
 refine loop_f (fun i:Nat=>[(3,.own 2 (fillR Ent.row Ent.zero a i)),(4,.int .i64 i)]) (fun i=>i≤a.length) (fun i=>a.length-i) (0) hP hQ (by simp +decide (maxSteps:=9^9) (disch:=omega) only[↓SB0,SX,seval,hQ,fillR_0]; rfl) (by omega) ?_
 rintro i hi w1 hP1 hQ1
 simp +decide (maxSteps:=9^9) (disch:=omega) only[↓SB0,SX,seval,hQ,hQ1]
 (first | with_reducible refine if_d _ ?_ ?_ | refine if_i _ ?_ ?_) <;> intro h1
 ·simp +decide (maxSteps:=9^9) (disch:=omega) only[↓SB0,SX,seval,hQ,hQ1,getE h1]
  (first|refine cI hP1 (s_toEnt (a[i]'(by omega)) (Nat.lt_of_le_of_lt (sum_get Ent.sz _) (by omega))) rfl rfl ?_|refine cH hP1 (s_toEnt (a[i]'(by omega)) (Nat.lt_of_le_of_lt (sum_get Ent.sz _) (by omega))) rfl rfl ?_)
  simp +decide (maxSteps:=9^9) (disch:=omega) only[↓SB0,SX,seval,hQ,hQ1]
  rw [fillR_set _ _ _ _ (by omega) _ (by rfl)]
  exact ⟨i+1,rfl,by omega,by omega⟩
 ·simp +decide (maxSteps:=9^9) (disch:=omega) only[↓SB0,SX,seval,hQ,hQ1,fillR_all]
theorem s_toAttr (a:Attr) (hl:a.sz<2^40):Spec Tryz.prog 303 [a.x] a.o [.undef]:=by
 simp only [Attr.sz] at hl
 refine spec_c hmx p_L_toAttr [] 15 [] ⟨Nat.le_of_ble_eq_true rfl,Nat.le_of_ble_eq_true rfl⟩ rfl rfl ?_
 intro w hP hQ
 unfold c_L_toAttr
 simp +decide (maxSteps:=9^9) (disch:=omega) only[↓SB0,SX,seval,hQ]
theorem s_toAttrS (a:List Attr) (hl:szM Attr.sz a<2^40):Spec Tryz.prog 255 [.ext 2 (a.map Attr.row)] (.own 2 (a.map Attr.row)) [.undef]:=by
 simp only [szM] at hl
 refine spec_c hmx p_L_toAttrS [] 29 [] ⟨Nat.le_of_ble_eq_true rfl,Nat.le_of_ble_eq_true rfl⟩ rfl rfl ?_
 intro w hP hQ
 unfold c_L_toAttrS
 simp +decide (maxSteps:=9^9) (disch:=omega) only[↓SB0,SX,seval,hQ]
 refine loop_f (fun i:Nat=>[(3,.own 2 (fillR Attr.row Attr.zero a i)),(4,.int .i64 i)]) (fun i=>i≤a.length) (fun i=>a.length-i) (0) hP hQ (by simp +decide (maxSteps:=9^9) (disch:=omega) only[↓SB0,SX,seval,hQ,fillR_0]; rfl) (by omega) ?_
 rintro i hi w1 hP1 hQ1
 simp +decide (maxSteps:=9^9) (disch:=omega) only[↓SB0,SX,seval,hQ,hQ1]
 (first | with_reducible refine if_d _ ?_ ?_ | refine if_i _ ?_ ?_) <;> intro h1
 ·simp +decide (maxSteps:=9^9) (disch:=omega) only[↓SB0,SX,seval,hQ,hQ1,getE h1]
  (first|refine cI hP1 (s_toAttr (a[i]'(by omega)) (Nat.lt_of_le_of_lt (sum_get Attr.sz _) (by omega))) rfl rfl ?_|refine cH hP1 (s_toAttr (a[i]'(by omega)) (Nat.lt_of_le_of_lt (sum_get Attr.sz _) (by omega))) rfl rfl ?_)
  simp +decide (maxSteps:=9^9) (disch:=omega) only[↓SB0,SX,seval,hQ,hQ1]
  rw [fillR_set _ _ _ _ (by omega) _ (by rfl)]
  exact ⟨i+1,rfl,by omega,by omega⟩
 ·simp +decide (maxSteps:=9^9) (disch:=omega) only[↓SB0,SX,seval,hQ,hQ1,fillR_all]
theorem s_toInode (a:Inode) (hl:a.sz<2^40):Spec Tryz.prog 189 [a.x] a.o [.undef]:=by
 simp only [Inode.sz] at hl
 refine spec_c hmx p_L_toInode [] 15 [] ⟨Nat.le_of_ble_eq_true rfl,Nat.le_of_ble_eq_true rfl⟩ rfl rfl ?_
 intro w hP hQ
 unfold c_L_toInode
 simp +decide (maxSteps:=9^9) (disch:=omega) only[↓SB0,SX,seval,hQ]
 (first|refine cI hP (s_toByteS a.data (by omega)) rfl rfl ?_|refine cH hP (s_toByteS a.data (by omega)) rfl rfl ?_)
 simp +decide (maxSteps:=9^9) (disch:=omega) only[↓SB0,SX,seval,hQ]
 (first|refine cI hP (s_toEntS a.ents (by omega)) rfl rfl ?_|refine cH hP (s_toEntS a.ents (by omega)) rfl rfl ?_)
 simp +decide (maxSteps:=9^9) (disch:=omega) only[↓SB0,SX,seval,hQ]
 (first|refine cI hP (s_toAttrS a.attrs (by omega)) rfl rfl ?_|refine cH hP (s_toAttrS a.attrs (by omega)) rfl rfl ?_)
 simp +decide (maxSteps:=9^9) (disch:=omega) only[↓SB0,SX,seval,hQ]
theorem s_toInodeS (a:List Inode) (hl:szM Inode.sz a<2^40):Spec Tryz.prog 96 [.ext 6 (a.map Inode.row)] (.own 6 (a.map Inode.row)) [.undef]:=by
 simp only [szM] at hl
 refine spec_c hmx p_L_toInodeS [] 29 [] ⟨Nat.le_of_ble_eq_true rfl,Nat.le_of_ble_eq_true rfl⟩ rfl rfl ?_
 intro w hP hQ
 unfold c_L_toInodeS
 simp +decide (maxSteps:=9^9) (disch:=omega) only[↓SB0,SX,seval,hQ]
 refine loop_f (fun i:Nat=>[(3,.own 6 (fillR Inode.row Inode.zero a i)),(4,.int .i64 i)]) (fun i=>i≤a.length) (fun i=>a.length-i) (0) hP hQ (by simp +decide (maxSteps:=9^9) (disch:=omega) only[↓SB0,SX,seval,hQ,fillR_0]; rfl) (by omega) ?_
 rintro i hi w1 hP1 hQ1
 simp +decide (maxSteps:=9^9) (disch:=omega) only[↓SB0,SX,seval,hQ,hQ1]
 (first | with_reducible refine if_d _ ?_ ?_ | refine if_i _ ?_ ?_) <;> intro h1
 ·simp +decide (maxSteps:=9^9) (disch:=omega) only[↓SB0,SX,seval,hQ,hQ1,getE h1]
  (first|refine cI hP1 (s_toInode (a[i]'(by omega)) (Nat.lt_of_le_of_lt (sum_get Inode.sz _) (by omega))) rfl rfl ?_|refine cH hP1 (s_toInode (a[i]'(by omega)) (Nat.lt_of_le_of_lt (sum_get Inode.sz _) (by omega))) rfl rfl ?_)
  simp +decide (maxSteps:=9^9) (disch:=omega) only[↓SB0,SX,seval,hQ,hQ1]
  rw [fillR_set _ _ _ _ (by omega) _ (by rfl)]
  exact ⟨i+1,rfl,by omega,by omega⟩
 ·simp +decide (maxSteps:=9^9) (disch:=omega) only[↓SB0,SX,seval,hQ,hQ1,fillR_all]
theorem s_toTab (a:Tab) (hl:a.sz<2^40):Spec Tryz.prog 21 [a.x] a.o [.undef]:=by
 simp only [Tab.sz] at hl
 refine spec_c hmx p_L_toTab [] 15 [] ⟨Nat.le_of_ble_eq_true rfl,Nat.le_of_ble_eq_true rfl⟩ rfl rfl ?_
 intro w hP hQ
 unfold c_L_toTab
 simp +decide (maxSteps:=9^9) (disch:=omega) only[↓SB0,SX,seval,hQ]
 (first|refine cI hP (s_toInodeS a.inodes (by omega)) rfl rfl ?_|refine cH hP (s_toInodeS a.inodes (by omega)) rfl rfl ?_)
 simp +decide (maxSteps:=9^9) (disch:=omega) only[↓SB0,SX,seval,hQ]
end Go.Proofs.YtnhdalnfboiooaaGreatDoor.Awp
namespace Go.Proofs.YtnhdalnfboiooaaGreatDoor.Awp
open Go.Proofs
set_option linter.unusedSimpArgs false
set_option linter.unusedVariables false
open Nat (reduceEqDiff reduceAdd reduceMul reduceSub)
open Int (reduceNeg reduceToNat reducePow)
set_option maxRecDepth 100000
set_option maxHeartbeats 20000000
theorem s_szEnt (a:Ent) (left:Int) (hf:a.fine) (h0:0≤left) (hl:left<2^40) :
  Spec Tryz.prog 300 [a.x,.int .i64 left] (.int .i64 (szC left a.sz)) [.undef,.undef]:=by
 have hsz:a.sz=a.name.length:=rfl
 simp only [Ent.fine] at hf
 have hf0:=hf
 refine spec_c hmx p_L_szEnt [] 23 [] ⟨Nat.le_of_ble_eq_true rfl,Nat.le_of_ble_eq_true rfl⟩ rfl rfl ?_
 intro w hP hQ
 unfold c_L_szEnt
 simp +decide (maxSteps:=9^9) (disch:=omega) only[↓SB0,SX,seval,hQ]
 (first | with_reducible refine if_d _ ?_ ?_ | refine if_i _ ?_ ?_) <;> intro g0
 ·simp +decide (maxSteps:=9^9) (disch:=omega) only[↓SB0,SX,seval,hQ]
  rw [szC_lt (by omega)]
 simp +decide (maxSteps:=9^9) (disch:=omega) only[↓SB0,SX,seval,hQ]
 rw [szC_ge (by omega)]
 simp only [hsz,Int.natCast_add,Int.sub_sub,Int.add_assoc]
theorem s_szEntS (a:List Ent) (left:Int) (hf:a.length<2^48) (hf':∀ x ∈ a,x.fine) (h0:0≤left) (hl:left<2^40) :
  Spec Tryz.prog 252 [.ext 2 (a.map Ent.row),.int .i64 left] (.int .i64 (szC left (szM Ent.sz a))) [.undef,.undef]:=by
 have hsz:szM Ent.sz a=a.length+(a.map Ent.sz).sum:=rfl
 refine spec_c hmx p_L_szEntS [] 51 [] ⟨Nat.le_of_ble_eq_true rfl,Nat.le_of_ble_eq_true rfl⟩ rfl rfl ?_
 intro w hP hQ
 unfold c_L_szEntS
 simp +decide (maxSteps:=9^9) (disch:=omega) only[↓SB0,SX,seval,hQ]
 (first | with_reducible refine if_d _ ?_ ?_ | refine if_i _ ?_ ?_) <;> intro h
 ·simp +decide (maxSteps:=9^9) (disch:=omega) only[↓SB0,SX,seval,hQ]
  rw [szC_lt (by omega)]
 simp +decide (maxSteps:=9^9) (disch:=omega) only[↓SB0,SX,seval,hQ]
 refine loop_f (fun s:Nat × Int=>[(1,.int .i64 s.2),(5,.int .i64 s.1)]) (fun s=>s.1≤a.length∧0≤s.2∧s.2=left-a.length-((a.take s.1).map Ent.sz).sum) (fun s=>a.length-s.1) ((0,left-a.length)) hP hQ (rfl) (by simp; omega) ?_
 rintro ⟨i,c⟩ ⟨hi,h0',hc⟩ w1 hP1 hQ1
 simp +decide (maxSteps:=9^9) (disch:=omega) only[↓SB0,SX,seval,hQ,hQ1]
 simp only at hi h0' hc
 (first | with_reducible refine if_d _ ?_ ?_ | refine if_i _ ?_ ?_) <;> intro h1
 ·have hs:=sum_take Ent.sz a i (by omega)
  have hs':=sum_take_le Ent.sz a (i+1)
  simp +decide (maxSteps:=9^9) (disch:=omega) only[↓SB0,SX,seval,hQ,hQ1,getE h1]
  by_cases g:c<((a[i].sz:Nat):Int)
  ·(first|refine cI hP1 (s_szEnt a[i] c (hf' _ (List.getElem_mem _)) (by omega) (by omega)) rfl rfl ?_|refine cH hP1 (s_szEnt a[i] c (hf' _ (List.getElem_mem _)) (by omega) (by omega)) rfl rfl ?_)
   simp +decide (maxSteps:=9^9) (disch:=omega) only[↓SB0,SX,seval,hQ,hQ1,szC_lt g]
   rw [szC_lt (by omega)]
  ·(first|refine cI hP1 (s_szEnt a[i] c (hf' _ (List.getElem_mem _)) (by omega) (by omega)) rfl rfl ?_|refine cH hP1 (s_szEnt a[i] c (hf' _ (List.getElem_mem _)) (by omega) (by omega)) rfl rfl ?_)
   simp +decide (maxSteps:=9^9) (disch:=omega) only[↓SB0,SX,seval,hQ,hQ1,szC_ge g]
   (first | with_reducible refine if_d _ ?_ ?_ | refine if_i _ ?_ ?_) <;> intro k
   ·exfalso; omega
   simp +decide (maxSteps:=9^9) (disch:=omega) only[↓SB0,SX,seval,hQ,hQ1]
   exact ⟨(i+1,c-a[i].sz),rfl,⟨by simp only; omega,by simp only; omega,by simp only; omega⟩,by simp only; omega⟩
 ·obtain rfl:i=a.length:=by omega
  rw [List.take_length] at hc
  simp +decide (maxSteps:=9^9) (disch:=omega) only[↓SB0,SX,seval,hQ,hQ1]
  rw [szC_ge (by omega)]
  simp only [hsz,hc,Int.natCast_add,Int.sub_sub,Int.add_assoc]
theorem s_szAttr (a:Attr) (left:Int) (hf:a.fine) (h0:0≤left) (hl:left<2^40) :
  Spec Tryz.prog 301 [a.x,.int .i64 left] (.int .i64 (szC left a.sz)) [.undef,.undef]:=by
 have hsz:a.sz=a.name.length+a.val.length:=rfl
 simp only [Attr.fine] at hf
 obtain ⟨hf0,hf1⟩:=hf
 refine spec_c hmx p_L_szAttr [] 23 [] ⟨Nat.le_of_ble_eq_true rfl,Nat.le_of_ble_eq_true rfl⟩ rfl rfl ?_
 intro w hP hQ
 unfold c_L_szAttr
 simp +decide (maxSteps:=9^9) (disch:=omega) only[↓SB0,SX,seval,hQ]
 (first | with_reducible refine if_d _ ?_ ?_ | refine if_i _ ?_ ?_) <;> intro g0
 ·simp +decide (maxSteps:=9^9) (disch:=omega) only[↓SB0,SX,seval,hQ]
  rw [szC_lt (by omega)]
 simp +decide (maxSteps:=9^9) (disch:=omega) only[↓SB0,SX,seval,hQ]
 (first | with_reducible refine if_d _ ?_ ?_ | refine if_i _ ?_ ?_) <;> intro g1
 ·simp +decide (maxSteps:=9^9) (disch:=omega) only[↓SB0,SX,seval,hQ]
  rw [szC_lt (by omega)]
 simp +decide (maxSteps:=9^9) (disch:=omega) only[↓SB0,SX,seval,hQ]
 rw [szC_ge (by omega)]
 simp only [hsz,Int.natCast_add,Int.sub_sub,Int.add_assoc]
theorem s_szAttrS (a:List Attr) (left:Int) (hf:a.length<2^48) (hf':∀ x ∈ a,x.fine) (h0:0≤left) (hl:left<2^40) :
  Spec Tryz.prog 253 [.ext 2 (a.map Attr.row),.int .i64 left] (.int .i64 (szC left (szM Attr.sz a))) [.undef,.undef]:=by
 have hsz:szM Attr.sz a=a.length+(a.map Attr.sz).sum:=rfl
 refine spec_c hmx p_L_szAttrS [] 51 [] ⟨Nat.le_of_ble_eq_true rfl,Nat.le_of_ble_eq_true rfl⟩ rfl rfl ?_
 intro w hP hQ
 unfold c_L_szAttrS
 simp +decide (maxSteps:=9^9) (disch:=omega) only[↓SB0,SX,seval,hQ]
 (first | with_reducible refine if_d _ ?_ ?_ | refine if_i _ ?_ ?_) <;> intro h
 ·simp +decide (maxSteps:=9^9) (disch:=omega) only[↓SB0,SX,seval,hQ]
  rw [szC_lt (by omega)]
 simp +decide (maxSteps:=9^9) (disch:=omega) only[↓SB0,SX,seval,hQ]
 refine loop_f (fun s:Nat × Int=>[(1,.int .i64 s.2),(5,.int .i64 s.1)]) (fun s=>s.1≤a.length∧0≤s.2∧s.2=left-a.length-((a.take s.1).map Attr.sz).sum) (fun s=>a.length-s.1) ((0,left-a.length)) hP hQ (rfl) (by simp; omega) ?_
 rintro ⟨i,c⟩ ⟨hi,h0',hc⟩ w1 hP1 hQ1
 simp +decide (maxSteps:=9^9) (disch:=omega) only[↓SB0,SX,seval,hQ,hQ1]
 simp only at hi h0' hc
 (first | with_reducible refine if_d _ ?_ ?_ | refine if_i _ ?_ ?_) <;> intro h1
 ·have hs:=sum_take Attr.sz a i (by omega)
  have hs':=sum_take_le Attr.sz a (i+1)
  simp +decide (maxSteps:=9^9) (disch:=omega) only[↓SB0,SX,seval,hQ,hQ1,getE h1]
  by_cases g:c<((a[i].sz:Nat):Int)
  ·(first|refine cI hP1 (s_szAttr a[i] c (hf' _ (List.getElem_mem _)) (by omega) (by omega)) rfl rfl ?_|refine cH hP1 (s_szAttr a[i] c (hf' _ (List.getElem_mem _)) (by omega) (by omega)) rfl rfl ?_)
   simp +decide (maxSteps:=9^9) (disch:=omega) only[↓SB0,SX,seval,hQ,hQ1,szC_lt g]
   rw [szC_lt (by omega)]
  ·(first|refine cI hP1 (s_szAttr a[i] c (hf' _ (List.getElem_mem _)) (by omega) (by omega)) rfl rfl ?_|refine cH hP1 (s_szAttr a[i] c (hf' _ (List.getElem_mem _)) (by omega) (by omega)) rfl rfl ?_)
   simp +decide (maxSteps:=9^9) (disch:=omega) only[↓SB0,SX,seval,hQ,hQ1,szC_ge g]
   (first | with_reducible refine if_d _ ?_ ?_ | refine if_i _ ?_ ?_) <;> intro k
   ·exfalso; omega
   simp +decide (maxSteps:=9^9) (disch:=omega) only[↓SB0,SX,seval,hQ,hQ1]
   exact ⟨(i+1,c-a[i].sz),rfl,⟨by simp only; omega,by simp only; omega,by simp only; omega⟩,by simp only; omega⟩
 ·obtain rfl:i=a.length:=by omega
  rw [List.take_length] at hc
  simp +decide (maxSteps:=9^9) (disch:=omega) only[↓SB0,SX,seval,hQ,hQ1]
  rw [szC_ge (by omega)]
  simp only [hsz,hc,Int.natCast_add,Int.sub_sub,Int.add_assoc]
theorem s_szInode (a:Inode) (left:Int) (hf:a.fine) (h0:0≤left) (hl:left<2^40) :
  Spec Tryz.prog 185 [a.x,.int .i64 left] (.int .i64 (szC left a.sz)) [.undef,.undef]:=by
 have hsz:a.sz=a.data.length+szM Ent.sz a.ents+szM Attr.sz a.attrs:=rfl
 simp only [Inode.fine] at hf
 obtain ⟨hf0,hf1,hf2⟩:=hf
 refine spec_c hmx p_L_szInode [] 23 [] ⟨Nat.le_of_ble_eq_true rfl,Nat.le_of_ble_eq_true rfl⟩ rfl rfl ?_
 intro w hP hQ
 unfold c_L_szInode
 simp +decide (maxSteps:=9^9) (disch:=omega) only[↓SB0,SX,seval,hQ]
 by_cases g0:left<((a.data.length:Nat):Int)
 ·(first|refine cI hP (s_szByteS a.data (left) hf0 (by omega) (by omega)) rfl rfl ?_|refine cH hP (s_szByteS a.data (left) hf0 (by omega) (by omega)) rfl rfl ?_)
  simp +decide (maxSteps:=9^9) (disch:=omega) only[↓SB0,SX,seval,hQ,szC_lt g0]
  rw [szC_lt (by omega)]
 (first|refine cI hP (s_szByteS a.data (left) hf0 (by omega) (by omega)) rfl rfl ?_|refine cH hP (s_szByteS a.data (left) hf0 (by omega) (by omega)) rfl rfl ?_)
 simp +decide (maxSteps:=9^9) (disch:=omega) only[↓SB0,SX,seval,hQ,szC_ge g0]
 (first | with_reducible refine if_d _ ?_ ?_ | refine if_i _ ?_ ?_) <;> intro k0
 ·exfalso; omega
 simp +decide (maxSteps:=9^9) (disch:=omega) only[↓SB0,SX,seval,hQ]
 by_cases g1:left-((a.data.length:Nat):Int)<((szM Ent.sz a.ents:Nat):Int)
 ·(first|refine cI hP (s_szEntS a.ents (left-((a.data.length:Nat):Int)) hf1.1 hf1.2 (by omega) (by omega)) rfl rfl ?_|refine cH hP (s_szEntS a.ents (left-((a.data.length:Nat):Int)) hf1.1 hf1.2 (by omega) (by omega)) rfl rfl ?_)
  simp +decide (maxSteps:=9^9) (disch:=omega) only[↓SB0,SX,seval,hQ,szC_lt g1]
  rw [szC_lt (by omega)]
 (first|refine cI hP (s_szEntS a.ents (left-((a.data.length:Nat):Int)) hf1.1 hf1.2 (by omega) (by omega)) rfl rfl ?_|refine cH hP (s_szEntS a.ents (left-((a.data.length:Nat):Int)) hf1.1 hf1.2 (by omega) (by omega)) rfl rfl ?_)
 simp +decide (maxSteps:=9^9) (disch:=omega) only[↓SB0,SX,seval,hQ,szC_ge g1]
 (first | with_reducible refine if_d _ ?_ ?_ | refine if_i _ ?_ ?_) <;> intro k1
 ·exfalso; omega
 simp +decide (maxSteps:=9^9) (disch:=omega) only[↓SB0,SX,seval,hQ]
 by_cases g2:left-((a.data.length:Nat):Int)-((szM Ent.sz a.ents:Nat):Int)<((szM Attr.sz a.attrs:Nat):Int)
 ·(first|refine cI hP (s_szAttrS a.attrs (left-((a.data.length:Nat):Int)-((szM Ent.sz a.ents:Nat):Int)) hf2.1 hf2.2 (by omega) (by omega)) rfl rfl ?_|refine cH hP (s_szAttrS a.attrs (left-((a.data.length:Nat):Int)-((szM Ent.sz a.ents:Nat):Int)) hf2.1 hf2.2 (by omega) (by omega)) rfl rfl ?_)
  simp +decide (maxSteps:=9^9) (disch:=omega) only[↓SB0,SX,seval,hQ,szC_lt g2]
  rw [szC_lt (by omega)]
 (first|refine cI hP (s_szAttrS a.attrs (left-((a.data.length:Nat):Int)-((szM Ent.sz a.ents:Nat):Int)) hf2.1 hf2.2 (by omega) (by omega)) rfl rfl ?_|refine cH hP (s_szAttrS a.attrs (left-((a.data.length:Nat):Int)-((szM Ent.sz a.ents:Nat):Int)) hf2.1 hf2.2 (by omega) (by omega)) rfl rfl ?_)
 simp +decide (maxSteps:=9^9) (disch:=omega) only[↓SB0,SX,seval,hQ,szC_ge g2]
 (first | with_reducible refine if_d _ ?_ ?_ | refine if_i _ ?_ ?_) <;> intro k2
 ·exfalso; omega
 simp +decide (maxSteps:=9^9) (disch:=omega) only[↓SB0,SX,seval,hQ]
 rw [szC_ge (by omega)]
 simp only [hsz,Int.natCast_add,Int.sub_sub,Int.add_assoc]
theorem s_szInodeS (a:List Inode) (left:Int) (hf:a.length<2^48) (hf':∀ x ∈ a,x.fine) (h0:0≤left) (hl:left<2^40) :
  Spec Tryz.prog 89 [.ext 6 (a.map Inode.row),.int .i64 left] (.int .i64 (szC left (szM Inode.sz a))) [.undef,.undef]:=by
 have hsz:szM Inode.sz a=a.length+(a.map Inode.sz).sum:=rfl
 refine spec_c hmx p_L_szInodeS [] 51 [] ⟨Nat.le_of_ble_eq_true rfl,Nat.le_of_ble_eq_true rfl⟩ rfl rfl ?_
 intro w hP hQ
 unfold c_L_szInodeS
 simp +decide (maxSteps:=9^9) (disch:=omega) only[↓SB0,SX,seval,hQ]
 (first | with_reducible refine if_d _ ?_ ?_ | refine if_i _ ?_ ?_) <;> intro h
 ·simp +decide (maxSteps:=9^9) (disch:=omega) only[↓SB0,SX,seval,hQ]
  rw [szC_lt (by omega)]
 simp +decide (maxSteps:=9^9) (disch:=omega) only[↓SB0,SX,seval,hQ]
 refine loop_f (fun s:Nat × Int=>[(1,.int .i64 s.2),(5,.int .i64 s.1)]) (fun s=>s.1≤a.length∧0≤s.2∧s.2=left-a.length-((a.take s.1).map Inode.sz).sum) (fun s=>a.length-s.1) ((0,left-a.length)) hP hQ (rfl) (by simp; omega) ?_
 rintro ⟨i,c⟩ ⟨hi,h0',hc⟩ w1 hP1 hQ1
 simp +decide (maxSteps:=9^9) (disch:=omega) only[↓SB0,SX,seval,hQ,hQ1]
 simp only at hi h0' hc
 (first | with_reducible refine if_d _ ?_ ?_ | refine if_i _ ?_ ?_) <;> intro h1
 ·have hs:=sum_take Inode.sz a i (by omega)
  have hs':=sum_take_le Inode.sz a (i+1)
  simp +decide (maxSteps:=9^9) (disch:=omega) only[↓SB0,SX,seval,hQ,hQ1,getE h1]
  by_cases g:c<((a[i].sz:Nat):Int)
  ·(first|refine cI hP1 (s_szInode a[i] c (hf' _ (List.getElem_mem _)) (by omega) (by omega)) rfl rfl ?_|refine cH hP1 (s_szInode a[i] c (hf' _ (List.getElem_mem _)) (by omega) (by omega)) rfl rfl ?_)
   simp +decide (maxSteps:=9^9) (disch:=omega) only[↓SB0,SX,seval,hQ,hQ1,szC_lt g]
   rw [szC_lt (by omega)]
  ·(first|refine cI hP1 (s_szInode a[i] c (hf' _ (List.getElem_mem _)) (by omega) (by omega)) rfl rfl ?_|refine cH hP1 (s_szInode a[i] c (hf' _ (List.getElem_mem _)) (by omega) (by omega)) rfl rfl ?_)
   simp +decide (maxSteps:=9^9) (disch:=omega) only[↓SB0,SX,seval,hQ,hQ1,szC_ge g]
   (first | with_reducible refine if_d _ ?_ ?_ | refine if_i _ ?_ ?_) <;> intro k
   ·exfalso; omega
   simp +decide (maxSteps:=9^9) (disch:=omega) only[↓SB0,SX,seval,hQ,hQ1]
   exact ⟨(i+1,c-a[i].sz),rfl,⟨by simp only; omega,by simp only; omega,by simp only; omega⟩,by simp only; omega⟩
 ·obtain rfl:i=a.length:=by omega
  rw [List.take_length] at hc
  simp +decide (maxSteps:=9^9) (disch:=omega) only[↓SB0,SX,seval,hQ,hQ1]
  rw [szC_ge (by omega)]
  simp only [hsz,hc,Int.natCast_add,Int.sub_sub,Int.add_assoc]
theorem s_szTab (a:Tab) (left:Int) (hf:a.fine) (h0:0≤left) (hl:left<2^40) :
  Spec Tryz.prog 19 [a.x,.int .i64 left] (.int .i64 (szC left a.sz)) [.undef,.undef]:=by
 have hsz:a.sz=szM Inode.sz a.inodes:=rfl
 simp only [Tab.fine] at hf
 have hf0:=hf
 refine spec_c hmx p_L_szTab [] 23 [] ⟨Nat.le_of_ble_eq_true rfl,Nat.le_of_ble_eq_true rfl⟩ rfl rfl ?_
 intro w hP hQ
 unfold c_L_szTab
 simp +decide (maxSteps:=9^9) (disch:=omega) only[↓SB0,SX,seval,hQ]
 by_cases g0:left<((szM Inode.sz a.inodes:Nat):Int)
 ·(first|refine cI hP (s_szInodeS a.inodes (left) hf0.1 hf0.2 (by omega) (by omega)) rfl rfl ?_|refine cH hP (s_szInodeS a.inodes (left) hf0.1 hf0.2 (by omega) (by omega)) rfl rfl ?_)
  simp +decide (maxSteps:=9^9) (disch:=omega) only[↓SB0,SX,seval,hQ,szC_lt g0]
  rw [szC_lt (by omega)]
 (first|refine cI hP (s_szInodeS a.inodes (left) hf0.1 hf0.2 (by omega) (by omega)) rfl rfl ?_|refine cH hP (s_szInodeS a.inodes (left) hf0.1 hf0.2 (by omega) (by omega)) rfl rfl ?_)
 simp +decide (maxSteps:=9^9) (disch:=omega) only[↓SB0,SX,seval,hQ,szC_ge g0]
 (first | with_reducible refine if_d _ ?_ ?_ | refine if_i _ ?_ ?_) <;> intro k0
 ·exfalso; omega
 simp +decide (maxSteps:=9^9) (disch:=omega) only[↓SB0,SX,seval,hQ]
 rw [szC_ge (by omega)]
 simp only [hsz,Int.natCast_add,Int.sub_sub,Int.add_assoc]
end Go.Proofs.YtnhdalnfboiooaaGreatDoor.Awp
namespace Go.Proofs.YtnhdalnfboiooaaGreatDoor.Awp
open Go.Proofs
set_option linter.unusedSimpArgs false
set_option linter.unusedVariables false
open Nat (reduceEqDiff reduceAdd reduceMul reduceSub)
open Int (reduceNeg reduceToNat reducePow)
set_option maxRecDepth 100000
set_option maxHeartbeats 20000000
theorem digB_0:digB 0=[]:=by rw [digB]; simp
theorem digB_pos {n:Nat} (h:0<n):digB n=digB (n/10)++[UInt8.ofNat (48+n%10)]:=by rw [digB,dif_neg (by omega)]
theorem digB_len (n:Nat):(digB n).length≤n:=by
 induction n using Nat.strongRecOn with
 | _ n ih=>
  by_cases h:n=0
  ·subst h; rw [digB_0]; simp
  ·rw [digB_pos (by omega),List.length_append]
   have:=ih (n/10) (by omega)
   simp only [List.length_cons,List.length_nil]; omega
theorem rb2 (m:Nat):rowsBytes [[.int .u8 (48+((m%10:Nat):Int))]]=some [UInt8.ofNat (48+m%10)]:=by
 have:(48+((m%10:Nat):Int)).toNat=48+m%10:=by omega
 simp only [rowsBytes,rowByte,this,Option.bind_some,Option.map_some]
theorem s_markText (k:Int) (h0:0≤k) (hl:k<2^40):Spec Tryz.prog 224 [.int .i64 k] (.str (markText k)) [.undef]:=by
 obtain ⟨n,rfl⟩:∃ n:Nat,k=n:=⟨k.toNat,by omega⟩
 have hn:n<2^40:=by omega
 refine spec_c hmx p_L_markText [] 13 [] ⟨Nat.le_of_ble_eq_true rfl,Nat.le_of_ble_eq_true rfl⟩ rfl rfl ?_
 intro w hP hQ
 unfold c_L_markText
 simp +decide (maxSteps:=9^9) (disch:=omega) only[↓SB0,SX,seval,hQ]
 (first | with_reducible refine if_d _ ?_ ?_ | refine if_i _ ?_ ?_) <;> intro h
 ·have:n=0:=by omega
  subst this
  simp +decide (maxSteps:=9^9) (disch:=omega) only[↓SB0,SX,seval,hQ]
  rfl
 ·simp +decide (maxSteps:=9^9) (disch:=omega) only[↓SB0,SX,seval,hQ]
  refine LH_D [] ?_
  simp +decide (maxSteps:=9^9) (disch:=omega) only[↓SB0,SX,seval,hQ]
  refine loop_e [] (fun s:Nat × Bytes=>[(0,.int .i64 s.1),(3,.str s.2)]) (fun s=>digB n=digB s.1++s.2∧s.1<2^40) (fun s=>s.1) ((n,[])) hP hQ (rfl) (by simp; exact hn) ?_
  rintro ⟨m,s⟩ ⟨hd,hm⟩ w1 hP1 hQ1
  simp +decide (maxSteps:=9^9) (disch:=omega) only[↓SB0,SX,seval,hQ,hQ1]
  simp only at hd hm
  have hlen:s.length≤n:=by
   have:=digB_len n
   rw [hd,List.length_append] at this
   omega
  (first | with_reducible refine if_d _ ?_ ?_ | refine if_i _ ?_ ?_) <;> intro h1
  ·have e1:((m:Int).tmod 10)=((m%10:Nat):Int):=rfl
   have e2:((m:Int).tdiv 10)=((m/10:Nat):Int):=rfl
   simp +decide (maxSteps:=9^9) (disch:=omega) only[↓SB0,SX,seval,hQ,hQ1,e1,e2,rb2]
   exact ⟨(m/10,UInt8.ofNat (48+m%10)::s),rfl,⟨by rw [hd,digB_pos (by omega)]; simp,by simp only; omega⟩,by simp only; omega⟩
  ·obtain rfl:m=0:=by omega
   rw [digB_0,List.nil_append] at hd
   simp +decide (maxSteps:=9^9) (disch:=omega) only[↓SB0,SX,seval,hQ,hQ1]
   rw [markText,if_neg (by omega),Int.toNat_natCast,hd]
end Go.Proofs.YtnhdalnfboiooaaGreatDoor.Awp
namespace Go.Proofs.YtnhdalnfboiooaaGreatDoor.Awp
open Go.Proofs
set_option linter.unusedSimpArgs false
set_option linter.unusedVariables false
open Nat (reduceEqDiff reduceAdd reduceMul reduceSub)
open Int (reduceNeg reduceToNat reducePow)
set_option maxRecDepth 100000
set_option maxHeartbeats 20000000
theorem s_markEntS (a:List Ent) (k:Int) (h0:0≤k) (hl:k+(cntM Ent.cnt a:Nat)<2^40):Spec Tryz.prog 201 [.own 2 (a.map Ent.row),.int .i64 k] (.int .i64 (k+(cntM Ent.cnt a:Nat))) [.own 2 ((markL Ent.marked Ent.cnt a k).map Ent.row),.undef]:=by
 simp only [cntM] at hl
 have hlen:=cnt_len Ent.cnt Ent.cnt1 a
 refine spec_c hmx p_L_markEntS [] 51 [true,false] ⟨Nat.le_of_ble_eq_true rfl,Nat.le_of_ble_eq_true rfl⟩ rfl rfl ?_
 intro w hP hQ
 unfold c_L_markEntS
 simp +decide (maxSteps:=9^9) (disch:=omega) only[↓SB0,SX,seval,hQ]
 refine loop_f (fun s:Nat × Int=>[(1000,.own 2 (mixR Ent.row Ent.marked Ent.cnt a k s.1)),(1,.int .i64 s.2),(5,.int .i64 s.1)]) (fun s=>s.1≤a.length∧s.2=k+((a.take s.1).map Ent.cnt).sum) (fun s=>a.length-s.1) ((0,k)) hP hQ (by simp +decide (maxSteps:=9^9) (disch:=omega) only[↓SB0,SX,seval,hQ,mixR_0]) (by simp) ?_
 rintro ⟨i,c⟩ ⟨hi,hc⟩ w1 hP1 hQ1
 simp +decide (maxSteps:=9^9) (disch:=omega) only[↓SB0,SX,seval,hQ,hQ1]
 simp only at hi hc
 (first | with_reducible refine if_d _ ?_ ?_ | refine if_i _ ?_ ?_) <;> intro h1
 ·have hs:=sum_take Ent.cnt a i (by omega)
  have hs':=sum_take_le Ent.cnt a (i+1)
  have hn:a[i].cnt=1+1:=rfl
  simp +decide (maxSteps:=9^9) (disch:=omega) only[↓SB0,SX,seval,hQ,hQ1,getE h1]
  (first|refine cI hP1 (s_markText (c) (by omega) (by omega)) rfl rfl ?_|refine cH hP1 (s_markText (c) (by omega) (by omega)) rfl rfl ?_)
  simp +decide (maxSteps:=9^9) (disch:=omega) only[↓SB0,SX,seval,hQ,hQ1,getE h1]
  rw [mixR_set _ _ _ _ _ _ (by omega) _ (by subst hc; rfl)]
  exact ⟨(i+1,c+1+1),rfl,⟨by simp only; omega,by simp only; omega⟩,by simp only; omega⟩
 ·obtain rfl:i=a.length:=by omega
  rw [List.take_length] at hc
  simp +decide (maxSteps:=9^9) (disch:=omega) only[↓SB0,SX,seval,hQ,hQ1,mixR_all,hc,cntM]
theorem s_markAttrS (a:List Attr) (k:Int) (h0:0≤k) (hl:k+(cntM Attr.cnt a:Nat)<2^40):Spec Tryz.prog 202 [.own 2 (a.map Attr.row),.int .i64 k] (.int .i64 (k+(cntM Attr.cnt a:Nat))) [.own 2 ((markL Attr.marked Attr.cnt a k).map Attr.row),.undef]:=by
 simp only [cntM] at hl
 have hlen:=cnt_len Attr.cnt Attr.cnt1 a
 refine spec_c hmx p_L_markAttrS [] 51 [true,false] ⟨Nat.le_of_ble_eq_true rfl,Nat.le_of_ble_eq_true rfl⟩ rfl rfl ?_
 intro w hP hQ
 unfold c_L_markAttrS
 simp +decide (maxSteps:=9^9) (disch:=omega) only[↓SB0,SX,seval,hQ]
 refine loop_f (fun s:Nat × Int=>[(1000,.own 2 (mixR Attr.row Attr.marked Attr.cnt a k s.1)),(1,.int .i64 s.2),(5,.int .i64 s.1)]) (fun s=>s.1≤a.length∧s.2=k+((a.take s.1).map Attr.cnt).sum) (fun s=>a.length-s.1) ((0,k)) hP hQ (by simp +decide (maxSteps:=9^9) (disch:=omega) only[↓SB0,SX,seval,hQ,mixR_0]) (by simp) ?_
 rintro ⟨i,c⟩ ⟨hi,hc⟩ w1 hP1 hQ1
 simp +decide (maxSteps:=9^9) (disch:=omega) only[↓SB0,SX,seval,hQ,hQ1]
 simp only at hi hc
 (first | with_reducible refine if_d _ ?_ ?_ | refine if_i _ ?_ ?_) <;> intro h1
 ·have hs:=sum_take Attr.cnt a i (by omega)
  have hs':=sum_take_le Attr.cnt a (i+1)
  have hn:a[i].cnt=1+1:=rfl
  simp +decide (maxSteps:=9^9) (disch:=omega) only[↓SB0,SX,seval,hQ,hQ1,getE h1]
  (first|refine cI hP1 (s_markText (c) (by omega) (by omega)) rfl rfl ?_|refine cH hP1 (s_markText (c) (by omega) (by omega)) rfl rfl ?_)
  simp +decide (maxSteps:=9^9) (disch:=omega) only[↓SB0,SX,seval,hQ,hQ1,getE h1]
  (first|refine cI hP1 (s_markText (c+1) (by omega) (by omega)) rfl rfl ?_|refine cH hP1 (s_markText (c+1) (by omega) (by omega)) rfl rfl ?_)
  simp +decide (maxSteps:=9^9) (disch:=omega) only[↓SB0,SX,seval,hQ,hQ1,getE h1]
  rw [mixR_set _ _ _ _ _ _ (by omega) _ (by subst hc; rfl)]
  exact ⟨(i+1,c+1+1),rfl,⟨by simp only; omega,by simp only; omega⟩,by simp only; omega⟩
 ·obtain rfl:i=a.length:=by omega
  rw [List.take_length] at hc
  simp +decide (maxSteps:=9^9) (disch:=omega) only[↓SB0,SX,seval,hQ,hQ1,mixR_all,hc,cntM]
theorem s_markInodeS (a:List Inode) (k:Int) (h0:0≤k) (hl:k+(cntM Inode.cnt a:Nat)<2^40):Spec Tryz.prog 105 [.own 6 (a.map Inode.row),.int .i64 k] (.int .i64 (k+(cntM Inode.cnt a:Nat))) [.own 6 ((markL Inode.marked Inode.cnt a k).map Inode.row),.undef]:=by
 simp only [cntM] at hl
 have hlen:=cnt_len Inode.cnt Inode.cnt1 a
 refine spec_c hmx p_L_markInodeS [(133,[.l,.b],[]),(201,[.l,.b],[]),(202,[.l,.b],[])] 51 [true,false] ⟨Nat.le_of_ble_eq_true rfl,Nat.le_of_ble_eq_true rfl⟩ rfl rfl ?_
 intro w hP hQ
 unfold c_L_markInodeS
 simp +decide (maxSteps:=9^9) (disch:=omega) only[↓SB0,SX,seval,hQ]
 refine loop_f (fun s:Nat × Int=>[(1000,.own 6 (mixR Inode.row Inode.marked Inode.cnt a k s.1)),(1,.int .i64 s.2),(5,.int .i64 s.1)]) (fun s=>s.1≤a.length∧s.2=k+((a.take s.1).map Inode.cnt).sum) (fun s=>a.length-s.1) ((0,k)) hP hQ (by simp +decide (maxSteps:=9^9) (disch:=omega) only[↓SB0,SX,seval,hQ,mixR_0]) (by simp) ?_
 rintro ⟨i,c⟩ ⟨hi,hc⟩ w1 hP1 hQ1
 simp +decide (maxSteps:=9^9) (disch:=omega) only[↓SB0,SX,seval,hQ,hQ1]
 simp only at hi hc
 (first | with_reducible refine if_d _ ?_ ?_ | refine if_i _ ?_ ?_) <;> intro h1
 ·have hs:=sum_take Inode.cnt a i (by omega)
  have hs':=sum_take_le Inode.cnt a (i+1)
  have hn:a[i].cnt=1+1+1+a[i].data.length+cntM Ent.cnt a[i].ents+cntM Attr.cnt a[i].attrs:=rfl
  simp +decide (maxSteps:=9^9) (disch:=omega) only[↓SB0,SX,seval,hQ,hQ1,getE h1]
  (first|refine cI hP1 (s_markByteS a[i].data (c+1+1+1) (by omega) (by omega)) rfl rfl ?_|refine cH hP1 (s_markByteS a[i].data (c+1+1+1) (by omega) (by omega)) rfl rfl ?_)
  simp +decide (maxSteps:=9^9) (disch:=omega) only[↓SB0,SX,seval,hQ,hQ1,getE h1]
  (first|refine cI hP1 (s_markEntS a[i].ents (c+1+1+1+(a[i].data.length:Nat)) (by omega) (by omega)) rfl rfl ?_|refine cH hP1 (s_markEntS a[i].ents (c+1+1+1+(a[i].data.length:Nat)) (by omega) (by omega)) rfl rfl ?_)
  simp +decide (maxSteps:=9^9) (disch:=omega) only[↓SB0,SX,seval,hQ,hQ1,getE h1]
  (first|refine cI hP1 (s_markAttrS a[i].attrs (c+1+1+1+(a[i].data.length:Nat)+(cntM Ent.cnt a[i].ents:Nat)) (by omega) (by omega)) rfl rfl ?_|refine cH hP1 (s_markAttrS a[i].attrs (c+1+1+1+(a[i].data.length:Nat)+(cntM Ent.cnt a[i].ents:Nat)) (by omega) (by omega)) rfl rfl ?_)
  simp +decide (maxSteps:=9^9) (disch:=omega) only[↓SB0,SX,seval,hQ,hQ1,getE h1]
  rw [mixR_set _ _ _ _ _ _ (by omega) _ (by subst hc; rfl)]
  exact ⟨(i+1,c+1+1+1+(a[i].data.length:Nat)+(cntM Ent.cnt a[i].ents:Nat)+(cntM Attr.cnt a[i].attrs:Nat)),rfl,⟨by simp only; omega,by simp only; omega⟩,by simp only; omega⟩
 ·obtain rfl:i=a.length:=by omega
  rw [List.take_length] at hc
  simp +decide (maxSteps:=9^9) (disch:=omega) only[↓SB0,SX,seval,hQ,hQ1,mixR_all,hc,cntM]
theorem s_markTab (a:Tab) (k:Int) (h0:0≤k) (hl:k+(a.cntT:Nat)<2^40):Spec Tryz.prog 24 [a.o,.int .i64 k] (.int .i64 (k+(a.cntT:Nat))) [(a.markT k).o,.undef]:=by
 simp only [Tab.cntT] at hl
 refine spec_c hmx p_L_markTab [(105,[.l,.b],[])] 23 [true,false] ⟨Nat.le_of_ble_eq_true rfl,Nat.le_of_ble_eq_true rfl⟩ rfl rfl ?_
 intro w hP hQ
 unfold c_L_markTab
 simp +decide (maxSteps:=9^9) (disch:=omega) only[↓SB0,SX,seval,hQ]
 (first|refine cI hP (s_markInodeS a.inodes (k) (by omega) (by omega)) rfl rfl ?_|refine cH hP (s_markInodeS a.inodes (k) (by omega) (by omega)) rfl rfl ?_)
 simp +decide (maxSteps:=9^9) (disch:=omega) only[↓SB0,SX,seval,hQ]
 exact ⟨by simp only [Tab.cntT,Int.natCast_add,Int.add_assoc],rfl⟩
end Go.Proofs.YtnhdalnfboiooaaGreatDoor.Awp
namespace Go.Proofs.YtnhdalnfboiooaaGreatDoor.Awp
open Go.Proofs
set_option linter.unusedSimpArgs false
set_option linter.unusedVariables false
open Nat (reduceEqDiff reduceAdd reduceMul reduceSub)
open Int (reduceNeg reduceToNat reducePow)
set_option maxRecDepth 100000
set_option maxHeartbeats 20000000
theorem s_heldEntS (a:List Ent) (k:Int) (h0:0≤k) (hl:k+(cntM Ent.cnt a:Nat)<2^40):Spec Tryz.prog 204 [.ext 2 ((markL Ent.marked Ent.cnt a k).map Ent.row),.int .i64 k] (.int .i64 (k+(cntM Ent.cnt a:Nat))) [.undef,.undef]:=by
 simp only [cntM] at hl
 have hlen:=cnt_len Ent.cnt Ent.cnt1 a
 refine spec_c hmx p_L_heldEntS [] 51 [] ⟨Nat.le_of_ble_eq_true rfl,Nat.le_of_ble_eq_true rfl⟩ rfl rfl ?_
 intro w hP hQ
 unfold c_L_heldEntS
 simp +decide (maxSteps:=9^9) (disch:=omega) only[↓SB0,SX,seval,hQ]
 refine loop_f (fun s:Nat × Int=>[(1,.int .i64 s.2),(5,.int .i64 s.1)]) (fun s=>s.1≤a.length∧s.2=k+((a.take s.1).map Ent.cnt).sum) (fun s=>a.length-s.1) ((0,k)) hP hQ (by simp +decide (maxSteps:=9^9) (disch:=omega) only[↓SB0,SX,seval,hQ]) (by simp) ?_
 rintro ⟨i,c⟩ ⟨hi,hc⟩ w1 hP1 hQ1
 simp +decide (maxSteps:=9^9) (disch:=omega) only[↓SB0,SX,seval,hQ,hQ1]
 simp only at hi hc
 (first | with_reducible refine if_d _ ?_ ?_ | refine if_i _ ?_ ?_) <;> intro h1
 ·have hs:=sum_take Ent.cnt a i (by omega)
  have hs':=sum_take_le Ent.cnt a (i+1)
  have hn:a[i].cnt=1+1:=rfl
  simp +decide (maxSteps:=9^9) (disch:=omega) only[↓SB0,SX,seval,hQ,hQ1,getE h1,← hc,Ent.marked]
  (first|refine cI hP1 (s_markText (c) (by omega) (by omega)) rfl rfl ?_|refine cH hP1 (s_markText (c) (by omega) (by omega)) rfl rfl ?_)
  simp +decide (maxSteps:=9^9) (disch:=omega) only[↓SB0,SX,seval,hQ,hQ1,getE h1,← hc,Ent.marked]
  exact ⟨(i+1,c+1+1),rfl,⟨by simp only; omega,by simp only; omega⟩,by simp only; omega⟩
 ·obtain rfl:i=a.length:=by omega
  rw [List.take_length] at hc
  simp +decide (maxSteps:=9^9) (disch:=omega) only[↓SB0,SX,seval,hQ,hQ1,hc,cntM]
theorem s_heldAttrS (a:List Attr) (k:Int) (h0:0≤k) (hl:k+(cntM Attr.cnt a:Nat)<2^40):Spec Tryz.prog 205 [.ext 2 ((markL Attr.marked Attr.cnt a k).map Attr.row),.int .i64 k] (.int .i64 (k+(cntM Attr.cnt a:Nat))) [.undef,.undef]:=by
 simp only [cntM] at hl
 have hlen:=cnt_len Attr.cnt Attr.cnt1 a
 refine spec_c hmx p_L_heldAttrS [] 51 [] ⟨Nat.le_of_ble_eq_true rfl,Nat.le_of_ble_eq_true rfl⟩ rfl rfl ?_
 intro w hP hQ
 unfold c_L_heldAttrS
 simp +decide (maxSteps:=9^9) (disch:=omega) only[↓SB0,SX,seval,hQ]
 refine loop_f (fun s:Nat × Int=>[(1,.int .i64 s.2),(5,.int .i64 s.1)]) (fun s=>s.1≤a.length∧s.2=k+((a.take s.1).map Attr.cnt).sum) (fun s=>a.length-s.1) ((0,k)) hP hQ (by simp +decide (maxSteps:=9^9) (disch:=omega) only[↓SB0,SX,seval,hQ]) (by simp) ?_
 rintro ⟨i,c⟩ ⟨hi,hc⟩ w1 hP1 hQ1
 simp +decide (maxSteps:=9^9) (disch:=omega) only[↓SB0,SX,seval,hQ,hQ1]
 simp only at hi hc
 (first | with_reducible refine if_d _ ?_ ?_ | refine if_i _ ?_ ?_) <;> intro h1
 ·have hs:=sum_take Attr.cnt a i (by omega)
  have hs':=sum_take_le Attr.cnt a (i+1)
  have hn:a[i].cnt=1+1:=rfl
  simp +decide (maxSteps:=9^9) (disch:=omega) only[↓SB0,SX,seval,hQ,hQ1,getE h1,← hc,Attr.marked]
  (first|refine cI hP1 (s_markText (c) (by omega) (by omega)) rfl rfl ?_|refine cH hP1 (s_markText (c) (by omega) (by omega)) rfl rfl ?_)
  simp +decide (maxSteps:=9^9) (disch:=omega) only[↓SB0,SX,seval,hQ,hQ1,getE h1,← hc,Attr.marked]
  (first|refine cI hP1 (s_markText (c+1) (by omega) (by omega)) rfl rfl ?_|refine cH hP1 (s_markText (c+1) (by omega) (by omega)) rfl rfl ?_)
  simp +decide (maxSteps:=9^9) (disch:=omega) only[↓SB0,SX,seval,hQ,hQ1,getE h1,← hc,Attr.marked]
  exact ⟨(i+1,c+1+1),rfl,⟨by simp only; omega,by simp only; omega⟩,by simp only; omega⟩
 ·obtain rfl:i=a.length:=by omega
  rw [List.take_length] at hc
  simp +decide (maxSteps:=9^9) (disch:=omega) only[↓SB0,SX,seval,hQ,hQ1,hc,cntM]
theorem s_heldInodeS (a:List Inode) (k:Int) (h0:0≤k) (hl:k+(cntM Inode.cnt a:Nat)<2^40):Spec Tryz.prog 106 [.ext 6 ((markL Inode.marked Inode.cnt a k).map Inode.row),.int .i64 k] (.int .i64 (k+(cntM Inode.cnt a:Nat))) [.undef,.undef]:=by
 simp only [cntM] at hl
 have hlen:=cnt_len Inode.cnt Inode.cnt1 a
 refine spec_c hmx p_L_heldInodeS [] 51 [] ⟨Nat.le_of_ble_eq_true rfl,Nat.le_of_ble_eq_true rfl⟩ rfl rfl ?_
 intro w hP hQ
 unfold c_L_heldInodeS
 simp +decide (maxSteps:=9^9) (disch:=omega) only[↓SB0,SX,seval,hQ]
 refine loop_f (fun s:Nat × Int=>[(1,.int .i64 s.2),(5,.int .i64 s.1)]) (fun s=>s.1≤a.length∧s.2=k+((a.take s.1).map Inode.cnt).sum) (fun s=>a.length-s.1) ((0,k)) hP hQ (by simp +decide (maxSteps:=9^9) (disch:=omega) only[↓SB0,SX,seval,hQ]) (by simp) ?_
 rintro ⟨i,c⟩ ⟨hi,hc⟩ w1 hP1 hQ1
 simp +decide (maxSteps:=9^9) (disch:=omega) only[↓SB0,SX,seval,hQ,hQ1]
 simp only at hi hc
 (first | with_reducible refine if_d _ ?_ ?_ | refine if_i _ ?_ ?_) <;> intro h1
 ·have hs:=sum_take Inode.cnt a i (by omega)
  have hs':=sum_take_le Inode.cnt a (i+1)
  have hn:a[i].cnt=1+1+1+a[i].data.length+cntM Ent.cnt a[i].ents+cntM Attr.cnt a[i].attrs:=rfl
  simp +decide (maxSteps:=9^9) (disch:=omega) only[↓SB0,SX,seval,hQ,hQ1,getE h1,← hc,Inode.marked]
  (first|refine cI hP1 (s_heldByteS a[i].data (c+1+1+1) (by omega) (by omega)) rfl rfl ?_|refine cH hP1 (s_heldByteS a[i].data (c+1+1+1) (by omega) (by omega)) rfl rfl ?_)
  simp +decide (maxSteps:=9^9) (disch:=omega) only[↓SB0,SX,seval,hQ,hQ1,getE h1,← hc,Inode.marked]
  (first | with_reducible refine if_d _ ?_ ?_ | refine if_i _ ?_ ?_) <;> intro g
  ·exfalso; omega
  simp +decide (maxSteps:=9^9) (disch:=omega) only[↓SB0,SX,seval,hQ,hQ1,getE h1,← hc,Inode.marked]
  (first|refine cI hP1 (s_heldEntS a[i].ents (c+1+1+1+(a[i].data.length:Nat)) (by omega) (by omega)) rfl rfl ?_|refine cH hP1 (s_heldEntS a[i].ents (c+1+1+1+(a[i].data.length:Nat)) (by omega) (by omega)) rfl rfl ?_)
  simp +decide (maxSteps:=9^9) (disch:=omega) only[↓SB0,SX,seval,hQ,hQ1,getE h1,← hc,Inode.marked]
  (first | with_reducible refine if_d _ ?_ ?_ | refine if_i _ ?_ ?_) <;> intro g
  ·exfalso; omega
  simp +decide (maxSteps:=9^9) (disch:=omega) only[↓SB0,SX,seval,hQ,hQ1,getE h1,← hc,Inode.marked]
  (first|refine cI hP1 (s_heldAttrS a[i].attrs (c+1+1+1+(a[i].data.length:Nat)+(cntM Ent.cnt a[i].ents:Nat)) (by omega) (by omega)) rfl rfl ?_|refine cH hP1 (s_heldAttrS a[i].attrs (c+1+1+1+(a[i].data.length:Nat)+(cntM Ent.cnt a[i].ents:Nat)) (by omega) (by omega)) rfl rfl ?_)
  simp +decide (maxSteps:=9^9) (disch:=omega) only[↓SB0,SX,seval,hQ,hQ1,getE h1,← hc,Inode.marked]
  (first | with_reducible refine if_d _ ?_ ?_ | refine if_i _ ?_ ?_) <;> intro g
  ·exfalso; omega
  simp +decide (maxSteps:=9^9) (disch:=omega) only[↓SB0,SX,seval,hQ,hQ1,getE h1,← hc,Inode.marked]
  exact ⟨(i+1,c+1+1+1+(a[i].data.length:Nat)+(cntM Ent.cnt a[i].ents:Nat)+(cntM Attr.cnt a[i].attrs:Nat)),rfl,⟨by simp only; omega,by simp only; omega⟩,by simp only; omega⟩
 ·obtain rfl:i=a.length:=by omega
  rw [List.take_length] at hc
  simp +decide (maxSteps:=9^9) (disch:=omega) only[↓SB0,SX,seval,hQ,hQ1,hc,cntM]
theorem s_heldTab (a:Tab) (k:Int) (h0:0≤k) (hl:k+(a.cntT:Nat)<2^40):Spec Tryz.prog 25 [(a.markT k).x,.int .i64 k] (.int .i64 (k+(a.cntT:Nat))) [.undef,.undef]:=by
 simp only [Tab.cntT] at hl
 refine spec_c hmx p_L_heldTab [] 23 [] ⟨Nat.le_of_ble_eq_true rfl,Nat.le_of_ble_eq_true rfl⟩ rfl rfl ?_
 intro w hP hQ
 unfold c_L_heldTab
 simp +decide (maxSteps:=9^9) (disch:=omega) only[↓SB0,SX,seval,hQ]
 (first|refine cI hP (s_heldInodeS a.inodes (k) (by omega) (by omega)) rfl rfl ?_|refine cH hP (s_heldInodeS a.inodes (k) (by omega) (by omega)) rfl rfl ?_)
 simp +decide (maxSteps:=9^9) (disch:=omega) only[↓SB0,SX,seval,hQ]
 (first | with_reducible refine if_d _ ?_ ?_ | refine if_i _ ?_ ?_) <;> intro g
 ·exfalso; omega
 simp +decide (maxSteps:=9^9) (disch:=omega) only[↓SB0,SX,seval,hQ]
 simp only [Tab.cntT,Int.natCast_add,Int.add_assoc]
end Go.Proofs.YtnhdalnfboiooaaGreatDoor.Awp
namespace Go.Proofs.YtnhdalnfboiooaaGreatDoor.Awp
open Go.Proofs
set_option linter.unusedSimpArgs false
set_option linter.unusedVariables false
open Nat (reduceEqDiff reduceAdd reduceMul reduceSub)
open Int (reduceNeg reduceToNat reducePow)
set_option maxRecDepth 100000
set_option maxHeartbeats 20000000
theorem s_l1In (x a b:Int):Spec Tryz.prog 213 [.int .i64 x,.int .i64 a,.int .i64 b] (.bool (inR x a b)) [.undef,.undef,.undef]:=by
 refine spec_c hmx p_S_l1In [] 71 [] ⟨Nat.le_of_ble_eq_true rfl,Nat.le_of_ble_eq_true rfl⟩ rfl rfl ?_
 intro w hP hQ
 unfold c_S_l1In
 simp +decide (maxSteps:=9^9) (disch:=omega) only[↓SB0,SX,seval,hQ]
 (first | with_reducible refine gd_d _ ?_ ?_ | refine gd_i _ ?_ ?_) <;> intro h1
 ·simp +decide (maxSteps:=9^9) (disch:=omega) only[↓SB0,SX,seval,hQ,h1]
  simp [inR,h1]
 ·simp +decide (maxSteps:=9^9) (disch:=omega) only[↓SB0,SX,seval,hQ,h1]
  simp [inR,h1]
theorem s_from (x a b:Int):Spec Tryz.prog 137 [.int .i64 x,.int .i64 a,.int .i64 b] (.bool (inR x a b)) [.undef,.undef,.undef]:=by
 refine spec_c hmx p_I_from [] 71 [] ⟨Nat.le_of_ble_eq_true rfl,Nat.le_of_ble_eq_true rfl⟩ rfl rfl ?_
 intro w hP hQ
 unfold c_I_from
 simp +decide (maxSteps:=9^9) (disch:=omega) only[↓SB0,SX,seval,hQ]
 (first | with_reducible refine gd_d _ ?_ ?_ | refine gd_i _ ?_ ?_) <;> intro h1
 ·simp +decide (maxSteps:=9^9) (disch:=omega) only[↓SB0,SX,seval,hQ,h1]
  simp [inR,h1]
 ·simp +decide (maxSteps:=9^9) (disch:=omega) only[↓SB0,SX,seval,hQ,h1]
  simp [inR,h1]
theorem idx_step {α:Type} {l:List α} {p:α→Bool} {i:Nat} (hk:∀ k,k<i→(h:k<l.length)→p l[k]=false) (h:i<l.length) (hi:p l[i]=true):l.findIdx? p=some i:=by
 rw [List.findIdx?_eq_some_iff_getElem]
 exact ⟨h,hi,fun j hj=>by simp [hk j hj (by omega)]⟩
theorem idx_none {α:Type} {l:List α} {p:α→Bool} (hk:∀ k,(h:k<l.length)→p l[k]=false):l.findIdx? p=none:=by
 rw [List.findIdx?_eq_none_iff]
 intro x hx
 obtain ⟨k,h,rfl⟩:=List.getElem_of_mem hx
 exact hk k h
theorem no_step {α:Type} {l:List α} {p:α→Bool} {i:Nat} (hk:∀ k,k<i→(h:k<l.length)→p l[k]=false) (h:i<l.length) (hi:p l[i]=false):∀ k,k<i+1→(h:k<l.length)→p l[k]=false:=by
 intro k hlt hl
 by_cases e:k=i
 ·subst e; exact hi
 ·exact hk k (by omega) hl
end Go.Proofs.YtnhdalnfboiooaaGreatDoor.Awp
namespace Go.Proofs.YtnhdalnfboiooaaGreatDoor.Awp
open Go.Proofs
set_option linter.unusedSimpArgs false
set_option linter.unusedVariables false
open Nat (reduceEqDiff reduceAdd reduceMul reduceSub)
open Int (reduceNeg reduceToNat reducePow)
set_option maxRecDepth 100000
set_option maxHeartbeats 20000000
theorem inR_no {x a b:Int} (h:inR x a b=false):¬ (a≤x∧x≤b):=fun h'=>by rw [(inR_iff x a b).2 h'] at h; cases h
theorem okc_iff (c:UInt8):okc c=true↔(97≤c.toNat∧c.toNat≤122)∨(48≤c.toNat∧c.toNat≤57)∨c.toNat=95∨c.toNat=45∨c.toNat=46:=by
 unfold okc
 simp only [Bool.or_eq_true,Bool.and_eq_true,decide_eq_true_eq,UInt8.le_iff_toNat_le,← UInt8.toNat_inj]
 simp
 omega
theorem okc_yes {c:UInt8} (h:(97≤c.toNat∧c.toNat≤122)∨(48≤c.toNat∧c.toNat≤57)∨c.toNat=95∨c.toNat=45∨c.toNat=46):okc c=true:=(okc_iff c).2 h
theorem okc_no {c:UInt8} (h:¬ ((97≤c.toNat∧c.toNat≤122)∨(48≤c.toNat∧c.toNat≤57)∨c.toNat=95∨c.toNat=45∨c.toNat=46)):okc c=false:=by
 cases e:okc c with
 | false=>rfl
 | true=>exact absurd ((okc_iff c).1 e) h
theorem name_bad {s:Bytes} {i:Nat} (h:i<s.length) (hc:okc s[i]=false):nameOk s=false:=by
 unfold nameOk
 have:s.all okc=false:=by
  rw [List.all_eq_false]
  exact ⟨s[i],List.getElem_mem h,by simp [hc]⟩
 simp [this]
theorem ranges (n:Nat):n<45∨n=45∨n=46∨n=47∨(48≤n∧n≤57)∨(58≤n∧n≤94)∨n=95∨n=96∨(97≤n∧n≤122)∨122<n:=by omega
theorem all_step {s:Bytes} {i:Nat} (hk:∀ k,k<i→(h:k<s.length)→okc s[k]=true) (h:i<s.length) (hi:okc s[i]=true):∀ k,k<i+1→(h:k<s.length)→okc s[k]=true:=by
 intro k hlt hl
 by_cases e:k=i
 ·subst e; exact hi
 ·exact hk k (by omega) hl
theorem all_ok {s:Bytes} (hk:∀ k,(h:k<s.length)→okc s[k]=true):s.all okc=true:=by
 rw [List.all_eq_true]
 intro x hx
 obtain ⟨k,h,rfl⟩:=List.getElem_of_mem hx
 exact hk k h
theorem sI_NameOk (s:Bytes) (hl:s.length<2^48):Spec Tryz.prog 138 [.str s] (.bool (nameOk s)) [.undef]:=by
 refine spec_c hmx p_I_NameOk [] 221 [] ⟨Nat.le_of_ble_eq_true rfl,Nat.le_of_ble_eq_true rfl⟩ rfl rfl ?_
 intro w hP hQ
 unfold c_I_NameOk
 simp +decide (maxSteps:=9^9) (disch:=omega) only[↓SB0,SX,seval,hQ]
 refine LH_D [2,3,4] ?_
 simp +decide (maxSteps:=9^9) (disch:=omega) only[↓SB0,SX,seval,hQ]
 refine loop_e [2,3,4] (fun i:Nat=>[(7,.int .i64 i)]) (fun i=>i≤s.length∧∀ k,k<i→(h:k<s.length)→okc s[k]=true) (fun i=>s.length-i) (0) hP hQ (rfl) (by simp) ?_
 rintro i ⟨hi,hk⟩ w1 hP1 hQ1
 simp +decide (maxSteps:=9^9) (disch:=omega) only[↓SB0,SX,seval,hQ,hQ1]
 (first | with_reducible refine if_d _ ?_ ?_ | refine if_i _ ?_ ?_) <;> intro h1
 ·have hlt:i<s.length:=by omega
  have hbad:okc s[i]=false→nameOk s=false:=fun h=>name_bad hlt h
  have hnext:okc s[i]=true→_:=fun h=>all_step hk hlt h
  simp +decide (maxSteps:=9^9) (disch:=omega) only[↓SB0,SX,seval,hQ,hQ1,getE h1]
  generalize s[i]=c at *
  rcases ranges c.toNat with h | h | h | h | h | h | h | h | h | h
  all_goals (simp +decide (maxSteps:=9^9) (disch:=omega) only[↓SB0,SX,seval,hQ,hQ1,dec_t,dec_f])
  all_goals first
   | (rw [hbad (okc_no (by omega))]; done)
   | exact ⟨i+1,rfl,⟨by omega,hnext (okc_yes (by omega))⟩,by omega⟩
 ·obtain rfl:i=s.length:=by omega
  have hall:s.all okc=true:=all_ok fun k h=>hk k h h
  simp +decide (maxSteps:=9^9) (disch:=omega) only[↓SB0,SX,seval,hQ,hQ1]
  (first | with_reducible refine gd_d _ ?_ ?_ | refine gd_i _ ?_ ?_) <;> intro g1
  rotate_left
  ·simp +decide (maxSteps:=9^9) (disch:=omega) only[↓SB0,SX,seval,hQ,g1]
   simp [nameOk,hall]; omega
  simp +decide (maxSteps:=9^9) (disch:=omega) only[↓SB0,SX,seval,hQ,g1]
  (first | with_reducible refine gd_d _ ?_ ?_ | refine gd_i _ ?_ ?_) <;> intro g2
  rotate_left
  ·simp +decide (maxSteps:=9^9) (disch:=omega) only[↓SB0,SX,seval,hQ,g2]
   simp [nameOk,hall]; omega
  simp +decide (maxSteps:=9^9) (disch:=omega) only[↓SB0,SX,seval,hQ,g2]
  (first | with_reducible refine gd_d _ ?_ ?_ | refine gd_i _ ?_ ?_) <;> intro g3
  ·simp +decide (maxSteps:=9^9) (disch:=omega) only[↓SB0,SX,seval,hQ,g3]
   simp [nameOk,g3]
  simp +decide (maxSteps:=9^9) (disch:=omega) only[↓SB0,SX,seval,hQ,g3]
  simp [nameOk,hall,g3]
  try omega
theorem sS_NameOk (s:Bytes) (hl:s.length<2^48):Spec Tryz.prog 217 [.str s] (.bool (nameOk s)) [.undef]:=by
 refine spec_c hmx p_S_NameOk [] 29 [] ⟨Nat.le_of_ble_eq_true rfl,Nat.le_of_ble_eq_true rfl⟩ rfl rfl ?_
 intro w hP hQ
 unfold c_S_NameOk
 simp +decide (maxSteps:=9^9) (disch:=omega) only[↓SB0,SX,seval,hQ]
 refine LH_D [2,4] ?_
 simp +decide (maxSteps:=9^9) (disch:=omega) only[↓SB0,SX,seval,hQ]
 refine loop_e [2,4] (fun i:Nat=>[(3,.int .i64 i)]) (fun i=>i≤s.length∧∀ k,k<i→(h:k<s.length)→okc s[k]=true) (fun i=>s.length-i) (0) hP hQ (rfl) (by simp) ?_
 rintro i ⟨hi,hk⟩ w1 hP1 hQ1
 simp +decide (maxSteps:=9^9) (disch:=omega) only[↓SB0,SX,seval,hQ,hQ1]
 (first | with_reducible refine if_d _ ?_ ?_ | refine if_i _ ?_ ?_) <;> intro h1
 ·have hlt:i<s.length:=by omega
  have hbad:okc s[i]=false→nameOk s=false:=fun h=>name_bad hlt h
  have hnext:okc s[i]=true→_:=fun h=>all_step hk hlt h
  simp +decide (maxSteps:=9^9) (disch:=omega) only[↓SB0,SX,seval,hQ,hQ1,getE h1]
  generalize s[i]=c at *
  have hc:c.toNat<256:=c.toNat_lt
  cases hA:inR (c.toNat) 97 122 with
  | true=>
   have hA':=(inR_iff _ _ _).1 hA
   simp +decide (maxSteps:=9^9) (disch:=omega) only[↓SB0,SX,seval,hQ,hQ1]
   (first|refine cI hP1 (s_l1In (c.toNat) 97 122) rfl rfl ?_|refine cH hP1 (s_l1In (c.toNat) 97 122) rfl rfl ?_)
   simp +decide (maxSteps:=9^9) (disch:=omega) only[↓SB0,SX,seval,hQ,hQ1,hA]
   exact ⟨i+1,rfl,⟨by omega,hnext (okc_yes (by omega))⟩,by omega⟩
  | false=>
   have hA':=inR_no hA
   cases hB:inR (c.toNat) 48 57 with
   | true=>
    have hB':=(inR_iff _ _ _).1 hB
    simp +decide (maxSteps:=9^9) (disch:=omega) only[↓SB0,SX,seval,hQ,hQ1]
    (first|refine cI hP1 (s_l1In (c.toNat) 97 122) rfl rfl ?_|refine cH hP1 (s_l1In (c.toNat) 97 122) rfl rfl ?_)
    simp +decide (maxSteps:=9^9) (disch:=omega) only[↓SB0,SX,seval,hQ,hQ1,hA]
    (first|refine cI hP1 (s_l1In (c.toNat) 48 57) rfl rfl ?_|refine cH hP1 (s_l1In (c.toNat) 48 57) rfl rfl ?_)
    simp +decide (maxSteps:=9^9) (disch:=omega) only[↓SB0,SX,seval,hQ,hQ1,hB]
    exact ⟨i+1,rfl,⟨by omega,hnext (okc_yes (by omega))⟩,by omega⟩
   | false=>
    have hB':=inR_no hB
    have hr:c.toNat=95∨c.toNat=45∨c.toNat=46∨(c.toNat≠95∧c.toNat≠45∧c.toNat≠46):=by omega
    rcases hr with h | h | h | h
    all_goals (simp +decide (maxSteps:=9^9) (disch:=omega) only[↓SB0,SX,seval,hQ,hQ1])
    all_goals (first | refine call_i hP1 (s_l1In (c.toNat) 97 122) (.inl ⟨rfl,fun _ hx=>nomatch hx⟩) ?_ | skip)
    all_goals (simp +decide (maxSteps:=9^9) (disch:=omega) only[↓SB0,SX,seval,hQ,hQ1,hA])
    all_goals (first | refine call_i hP1 (s_l1In (c.toNat) 48 57) (.inl ⟨rfl,fun _ hx=>nomatch hx⟩) ?_ | skip)
    all_goals (simp +decide (maxSteps:=9^9) (disch:=omega) only[↓SB0,SX,seval,hQ,hQ1,hB,dec_t,dec_f])
    all_goals first
     | (rw [hbad (okc_no (by omega))]; done)
     | exact ⟨i+1,rfl,⟨by omega,hnext (okc_yes (by omega))⟩,by omega⟩
 ·obtain rfl:i=s.length:=by omega
  have hall:s.all okc=true:=all_ok fun k h=>hk k h h
  simp +decide (maxSteps:=9^9) (disch:=omega) only[↓SB0,SX,seval,hQ,hQ1]
  cases g1:inR (s.length:Nat) 1 14 with
  | false=>
   have g1':=inR_no g1
   (first|refine cI hP (s_l1In (s.length:Nat) 1 14) rfl rfl ?_|refine cH hP (s_l1In (s.length:Nat) 1 14) rfl rfl ?_)
   simp +decide (maxSteps:=9^9) (disch:=omega) only[↓SB0,SX,seval,hQ,g1]
   simp [nameOk,hall]; omega
  | true=>
   have g1':=(inR_iff _ _ _).1 g1
   (first|refine cI hP (s_l1In (s.length:Nat) 1 14) rfl rfl ?_|refine cH hP (s_l1In (s.length:Nat) 1 14) rfl rfl ?_)
   simp +decide (maxSteps:=9^9) (disch:=omega) only[↓SB0,SX,seval,hQ,g1]
   (first | with_reducible refine gd_d _ ?_ ?_ | refine gd_i _ ?_ ?_) <;> intro g3
   ·simp +decide (maxSteps:=9^9) (disch:=omega) only[↓SB0,SX,seval,hQ,g3]
    simp [nameOk,g3]
   simp +decide (maxSteps:=9^9) (disch:=omega) only[↓SB0,SX,seval,hQ,g3]
   simp [nameOk,hall,g3]
   try omega
end Go.Proofs.YtnhdalnfboiooaaGreatDoor.Awp
namespace Go.Proofs.YtnhdalnfboiooaaGreatDoor.Awp
open Go.Proofs Go.RowKit
set_option linter.unusedSimpArgs false
set_option linter.unusedVariables false
open Nat (reduceEqDiff reduceAdd reduceMul reduceSub)
open Int (reduceNeg reduceToNat reducePow)
set_option maxRecDepth 100000
set_option maxHeartbeats 20000000
def sRow (s:Bytes):List TV:=[.str s]
theorem str2_spec {P:Program} {f:Nat} {a b:Bytes} {r:Int} (hE:Enters P f) (run:∀ w,Calls P f #[strVal a,strVal b] w fun e w'=>e=.returned (.int .i64 r)∧w'=w):Spec P f [.str a,.str b] (.int .i64 r) [.undef,.undef]:=by
 refine ⟨hE,rfl,?_⟩
 intro w vs F X h h1 h2 h3
 cases h with
 | str _ _ _ vs _ h=>
  cases h with
  | str _ _ _ vs _ h=>
   cases h with
   | nil _ _ hF hX=>
    refine (run w).mono ?_
    rintro e w' ⟨rfl,rfl⟩
    exact ⟨_,F,X,rfl,.int _ _ _ _ _ _ (.undef _ _ _ _ _ (.undef _ _ _ _ _ (.nil _ _ hF hX))),h1,h2,⟨Nat.le_refl _,.refl _⟩,fun b _ _=>rfl,fun b hb=>.inl hb,fun b hb=>⟨.inl hb,h3 b hb⟩⟩
theorem s_Index1 (s:Bytes):Spec Tryz.prog 318 [.str s,.str [47]] (.int .i64 (Lib.indexByte s 47)) [.undef,.undef]:=
 str2_spec ⟨_,Tryz.func318,by kernel_rfl,by kernel_rfl⟩ fun w=>Any.strings_Index_one ly_Lays_n143 ⟨s.toArray⟩ 47 w
theorem s_Count1 (s:Bytes):Spec Tryz.prog 317 [.str s,.str [47]] (.int .i64 (s.count 47:Nat)) [.undef,.undef]:=
 str2_spec ⟨_,Tryz.func317,by kernel_rfl,by kernel_rfl⟩ fun w=>Any.strings_Count_one ly_Lays_n138 ⟨s.toArray⟩ 47 w
theorem idx47 (s:Bytes):(Lib.indexByte s 47=-1∧∀ k,(h:k<s.length)→s[k]≠47)∨∃ m,∃ h:m<s.length,Lib.indexByte s 47=(m:Nat)∧s[m]=47∧∀ k,k<m→(h:k<s.length)→s[k]≠47:=by
 induction s with
 | nil=>exact .inl ⟨rfl,fun k h=>by simp at h⟩
 | cons c s ih=>
  by_cases hc:c=47
  ·exact .inr ⟨0,by simp,by simp [Lib.indexByte,hc],by simpa using hc,fun k hk=>absurd hk (Nat.not_lt_zero _)⟩
  ·have hb:(c == 47)=false:=by simpa using hc
   rcases ih with ⟨h1,h2⟩ | ⟨m,h1,h2,h3,h4⟩
   ·refine .inl ⟨by simp [Lib.indexByte,hb,h1],fun k hk=>?_⟩
    cases k with
    | zero=>simpa using hc
    | succ k=>simpa using h2 k (by simpa using hk)
   ·refine .inr ⟨m+1,by simpa using h1,?_,by simpa using h3,fun k hk hl=>?_⟩
    ·have:((m:Int) == -1)=false:=by simp
     simp [Lib.indexByte,hb,h2,this]
    ·cases k with
     | zero=>simpa using hc
     | succ k=>simpa using h4 k (by omega) (by simpa using hl)
theorem joinExtra:Builder.Extra Tryz.prog ly_Lays_n156_ren where
 sizeBuilder:=by kernel_rfl
 liesBuilder:=by kernel_rfl
 t5:=Tryz.underlying5
 a5:=Tryz.isAgg5
 z5:=Tryz.sizeOf5
 v5:=Tryz.zeroValue5
 infoByte:=by kernel_rfl
 cellsByte:=by kernel_rfl
 sizeByte:=by kernel_rfl
 neB5:=by decide
theorem row_strs {w:World} {o:Bool} {F:Foot}:∀ (l:List Bytes) {cs:List Value},Row w o F cs (l.map sRow).flatten→cs=l.map strVal∧∀ b,F b=0:=by
 intro l
 induction l generalizing F with
 | nil=>
  intro cs h
  cases h with
  | nil _ _ hF=>exact ⟨rfl,hF⟩
 | cons n l ih=>
  intro cs h
  have e:((n::l).map sRow).flatten=.str n::(l.map sRow).flatten:=by simp [sRow]
  rw [e] at h
  cases h with
  | str _ _ _ vs _ h=>
   obtain ⟨e1,e2⟩:=ih h
   exact ⟨by rw [e1]; rfl,e2⟩
theorem s_Join (l:List Bytes) (hl:l.length<2^40) (hn:(Lib.join l [47]).length<2^47):Spec Tryz.prog 304 [.ext 1 (l.map sRow),.str [47]] (.str (Lib.join l [47])) [.undef,.undef]:=by
 refine ⟨⟨_,Tryz.func304,by kernel_rfl,by kernel_rfl⟩,rfl,?_⟩
 intro w vs F X h h1 h2 h3
 have fin:∀ {e:Ending} {w':World} (h0:∀ b,F b=0),e=.returned (.string ⟨(Lib.join l [47]).toArray⟩)→Below w.heap.size w w'→∃ v F' X',e=.returned v∧RepA w' lk0 F' X' (v::vs) [.str (Lib.join l [47]),.undef,.undef]∧(∀ b,F' b≤1)∧(∀ b,F' b=0∨X' b=0) ∧
   Grows w w'∧(∀ b,b<w.heap.size→F b=0→w'.heap[b]?=w.heap[b]?)∧(∀ b,F' b≠0→F b≠0∨w.heap.size≤b)∧(∀ b,X' b≠0→(X b≠0∨F b≠0∨w.heap.size≤b)∧b<w'.heap.size):=by
  intro e w' h0 he hb
  have hlen:=h.length
  match vs,hlen with
  | [v1,v2],_=>exact ⟨_,fun _=>0,fun _=>0,he,.str _ _ _ _ _ (.undef _ _ _ _ _ (.undef _ _ _ _ _ (.nil _ _ (fun _=>rfl) (fun _=>rfl)))),fun b=>Nat.zero_le _,fun b=>.inl rfl,⟨hb.size,⟨hb.os,hb.output⟩⟩,fun b hlt _=>hb.block b hlt,fun b hb=>absurd rfl hb,fun b hb=>absurd rfl hb⟩
 cases h with
 | ext _ _ X1 X2 _ _ v vs _ hr hn' hX=>
  cases hn' with
  | str _ _ _ vs _ h0=>
   cases h0 with
   | nil _ _ hF hX2=>
    by_cases he:l=[]
    ·subst he
     have hv:∃ a c,v=.slice a 0 c:=by
      cases hr with
      | ext0 _ _ a cap _ _ _=>exact ⟨a,cap,rfl⟩
      | ext _ _ _ _ _ a cap _ _ _ _ _ _ _ _ _ _=>exact ⟨some a,cap,rfl⟩
     obtain ⟨a,c,rfl⟩:=hv
     refine (Any.strings_Join_none ly_Lays_n156 joinExtra a c ⟨#[47]⟩ w).mono ?_
     rintro e w' ⟨he,rfl⟩
     exact fin hF he (Below.refl _ _)
    ·generalize hes:l.map sRow=es at hr
     cases hr with
     | ext0 _ _ a cap _ _ _=>simp at hes; exact absurd hes he
     | ext _ F1 F2 _ _ a cap cs _ _ hle hs hcs hc g1 g2 hFF=>
      subst hes
      obtain ⟨e1,_⟩:=row_strs l g1
      have hcl:cs.length=l.length:=by rw [e1,List.length_map]
      have hpos:0<l.length:=List.length_pos_iff.2 he
      have hc0:=hc 0 (by omega)
      rw [show a.add 0=a from rfl,List.getElem?_eq_getElem (by omega)] at hc0
      have hsp:a.spot=none:=by
       unfold World.cell? at hc0
       split at hc0
       ·split at hc0
        ·cases hc0
        ·rename_i h; simpa using h
       ·cases hc0
      obtain ⟨ab,ao,asp⟩:=a
      simp only at hsp
      subst hsp
      have hbl:ab<w.heap.size:=World.block_lt_of_cell? _ _ hc0
      have hml:(l.map sRow).length=l.length:=List.length_map _
      rw [hml] at hle
      have hxs:(l.map fun s=>(⟨s.toArray⟩:ByteArray)).map (fun x=>x.data.toList)=l:=by rw [List.map_map]; simp [Function.comp_def]
      have:=Any.strings_Join ly_Lays_n156 joinExtra ab ao cap (l.map fun s=>(⟨s.toArray⟩:ByteArray)) ⟨#[47]⟩ w (fun j x hx=>by
       rw [List.getElem?_map] at hx
       cases hj:l[j]? with
       | none=>rw [hj] at hx; cases hx
       | some s=>
        rw [hj] at hx
        have hjl:j<l.length:=(List.getElem?_eq_some_iff.1 hj).1
        have:=hc j (by omega)
        rw [e1,List.getElem?_map,hj] at this
        simp only [Option.map_some,Option.some.injEq] at hx
        subst hx
        rw [← Addr.add_lit]; exact this) hbl (by rw [List.length_map]; omega) (by rw [List.length_map]; exact hle) (by rw [hxs]; show (Lib.join l [47]).length≤_; omega)
      rw [hxs,List.length_map,← hml] at this
      refine this.mono ?_
      rintro e w' ⟨he,hb⟩
      exact fin hF he hb
end Go.Proofs.YtnhdalnfboiooaaGreatDoor.Awp
